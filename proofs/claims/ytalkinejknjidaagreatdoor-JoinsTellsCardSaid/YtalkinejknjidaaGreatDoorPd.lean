/- Lemmas and walks of functions; no statement. -/
import Derived.Test.YtalkinejknjidaaGreatDoorPc
set_option linter.unusedVariables false
set_option linter.unusedSimpArgs false
set_option maxRecDepth 100000
set_option maxHeartbeats 4000000
namespace Go.Proofs.YtalkinejknjidaaGreatDoor
open Go.SL Go.RowKit Go.Proofs Tryz
section
variable {M M' : Nat → Prop} {w w' : World} {n m k : Nat} {z : Int} {s : Bool} {a : Value}
theorem ZQ.cl (h:ZQ M w n z s a)(l:Cl M w M' w'):ZQ M' w' n z s a:=by obtain⟨xs,h1,h2⟩:=h.ex;exact⟨xs,h1.cl l,h2⟩
theorem ZC.cl (h:ZC M w n z s a)(l:Cl M w M' w'):ZC M' w' n z s a:=⟨h.sgn,h.num.cl l,h.len⟩
theorem NQ.cl (h:NQ M w n k a)(l:Cl M w M' w'):NQ M' w' n k a:=by obtain⟨xs,h1,h2⟩:=h.ex;exact⟨xs,h1.cl l,h2⟩
end
def ztq (n:Nat)(z:Int):CT where
 sz:=2
 p M w cs:=∃ s a,cs=[.bool s,a]∧ZQ M w n z s a
 len h:=by obtain⟨_,_,rfl,_⟩:=h;rfl
 one h:=by obtain⟨_,_,rfl,h⟩:=h;exact allc rfl (allc h.one.1 alln)
 mono h k:=by obtain⟨s,a,rfl,h⟩:=h;exact⟨s,a,rfl,h.cl k⟩
def ztc (n:Nat)(z:Int):CT where
 sz:=2
 p M w cs:=∃ s a,cs=[.bool s,a]∧ZC M w n z s a
 len h:=by obtain⟨_,_,rfl,_⟩:=h;rfl
 one h:=by obtain⟨_,_,rfl,h⟩:=h;exact allc rfl (allc h.gen.one.1 alln)
 mono h k:=by obtain⟨s,a,rfl,h⟩:=h;exact⟨s,a,rfl,h.cl k⟩
def ntq (n k:Nat):CT where
 sz:=1
 p M w cs:=∃ a,cs=[a]∧NQ M w n k a
 len h:=by obtain⟨_,rfl,_⟩:=h;rfl
 one h:=by obtain⟨_,rfl,h⟩:=h;exact allc h.one.1 alln
 mono h k:=by obtain⟨a,rfl,h⟩:=h;exact⟨a,rfl,h.cl k⟩
def ntc (n k:Nat):CT where
 sz:=1
 p M w cs:=∃ a,cs=[a]∧NQ M w n k a∧IsNat M w a (limbs k)
 len h:=by obtain⟨_,rfl,_⟩:=h;rfl
 one h:=by obtain⟨_,rfl,h,_⟩:=h;exact allc h.one.1 alln
 mono h k:=by obtain⟨a,rfl,h,g⟩:=h;exact⟨a,rfl,h.cl k,g.cl k⟩
theorem zV5 {M:Nat→Prop}{w:World}{n k:Nat}{a:Value}(h:IsNat M w a (limbs k))(hl:(limbs k).length≤n):NQ M w n k a:=⟨_,h,hl,zJ k⟩
instance {n:Nat}{q:Rat}:FA (rtc n q) 0 (ztc n q.num):=⟨fun⟨s,a,d,e,h⟩=>⟨s,a,by rw[e];rfl,h.sgn,h.num,h.len.1⟩⟩
instance {n:Nat}{q:Rat}:FA (rtc n q) 2 (ntc n q.den):=⟨fun⟨s,a,d,e,h⟩=>⟨d,by rw[e];rfl,zV5 h.den h.len.2,h.den⟩⟩
instance {n:Nat}{z:Int}:FA (ztc n z) 0 (xc (.bool (decide (z<0)))):=⟨fun⟨s,a,e,h⟩=>by rw[e,h.sgn];exact⟨rfl,rfl⟩⟩
instance {n:Nat}{z:Int}:FA (ztc n z) 1 (ntc n z.natAbs):=⟨fun⟨s,a,e,h⟩=>⟨a,by rw[e];rfl,zV5 h.num h.len,h.num⟩⟩
class CZ (c:CT)(n:outParam Nat)(z:outParam Int):Prop where
 h:∀ {M w us},c.p M w us→∃ s a,us=[.bool s,a]∧ZQ M w n z s a
instance {n:Nat}{z:Int}:CZ (ztq n z) n z:=⟨id⟩
instance {n:Nat}{z:Int}:CZ (ztc n z) n z:=⟨fun⟨s,a,e,h⟩=>⟨s,a,e,h.gen⟩⟩
class CN (c:CT)(n:outParam Nat)(k:outParam Nat):Prop where
 h:∀ {M w us},c.p M w us→∃ a,us=[a]∧NQ M w n k a
instance {n k:Nat}:CN (ntq n k) n k:=⟨id⟩
instance {n k:Nat}:CN (ntc n k) n k:=⟨fun⟨a,e,h,_⟩=>⟨a,e,h⟩⟩
instance {b:Bool}{c:CT}{n k:Nat}[h:CN c n k]:CZ (st [xc (.bool b),c]) n (if b then -((k:Nat):Int) else((k:Nat):Int)):=⟨fun⟨x,y,e,k1,z,o,e2,k2,e3⟩=>by
 obtain⟨a,rfl,g⟩:=h.h k2;obtain rfl:x=[.bool b]:=k1.1;obtain rfl:o=[]:=e3;obtain⟨xs,g1,g2,g3⟩:=g.ex;exact⟨b,a,by rw[e,e2];rfl,xs,g1,g2,by unfold zv;rw[g3]⟩⟩
class VZ (Ψ:PV)(n:outParam Nat)(z:outParam Int):Prop where
 h:∀ {M w v},Ψ.p M w v→∃ s a,v = .agg #[.bool s,a]∧ZQ M w n z s a
instance {c:CT}{n:Nat}{z:Int}[h:CZ c n z]:VZ (ag c) n z:=⟨fun⟨us,e,k⟩=>by obtain⟨s,a,rfl,g⟩:=h.h k;exact⟨s,a,e,g⟩⟩
class VN (Ψ:PV)(n:outParam Nat)(k:outParam Nat):Prop where
 h:∀ {M w v},Ψ.p M w v→NQ M w n k v
instance {c:CT}{n k:Nat}[h:CN c n k]:VN (sv c) n k:=⟨fun k=>by obtain⟨a,e,g⟩:=h.h k;rw[zbv.1 e];exact g⟩
class VZL (Ψ:PV)(n:outParam Nat)(l:outParam (List Int)):Prop where
 h:∀ {M w v},Ψ.p M w v→ZL M w n l v
instance {c d:CT}{n m:Nat}{y z:Int}[h1:CZ c n y][h2:CZ d m z]:VZL (sv (sl 2 [c,d])) (max n m) [y,z]:=⟨fun k=>⟨by
 obtain⟨v,us,e,k1,k2,k3⟩:=id k;refine zU0 (cs:=[c,d]) rfl k3 (fun i a ha=>?_) k;cases i with
 | zero=>obtain rfl:=Option.some.inj ha;exact⟨c,rfl,fun us hu=>let ⟨s,a,e,g⟩:=h1.h hu;⟨s,a,e,g.up (by omega)⟩⟩
 | succ i=>cases i with
  | zero=>obtain rfl:=Option.some.inj ha;exact⟨d,rfl,fun us hu=>let ⟨s,a,e,g⟩:=h2.h hu;⟨s,a,e,g.up (by omega)⟩⟩
  | succ i=>simp at ha⟩⟩
theorem yJ {Ψ ρ:PV}(h:PSub Ψ ρ):∀ M w vs,Fa [Ψ] M w vs→ρ.p M w (gJ vs):=fun M w vs ⟨v,us,e,h1,h2⟩=>by
 subst e;rw[show us=[] from h2];exact h _ _ _ h1
theorem aF {Ψ Φ ρ σ:PV}(h:PSub Ψ ρ)(k:PSub Φ σ):∀ M w vs,Fa [Ψ,Φ] M w vs→(tu [ρ,σ]).p M w (gJ vs):=fun M w vs ⟨v,us,e,h1,u,us2,e2,h2,e3⟩=>by
 subst e;subst e2;rw[show us2=[] from e3];exact⟨[v,u],rfl,v,_,rfl,h _ _ _ h1,u,_,rfl,k _ _ _ h2,rfl⟩
theorem zU {X:Cx}{Γ:TE}{S:List Ow}{b s:Nat}{ty:TypeId}{c:CT}{q:Prop}(i:Nat)(hi:S[i]? = some (.blk b ty [c]))(hs:tf Γ s=some (q,zX b 0)):Ts X Γ S ((s,q,pa c)::Γ) (S.eraseIdx i):=fun E w h=>by
 have hm:Ow.blk b ty [c]∈S:=zav hi;obtain⟨us,k3,a,o,k4,k5,k6⟩:=h.gd.own _ hm;have h2:=h.sub (zch S i);have hn:¬ Mk (S.eraseIdx i) X.M b:=fun k=>by
  rcases k with⟨p,hp,e⟩ | k
  ·obtain⟨j,hj,hp⟩:=cH hp;exact fQ h.apt hi hp (fun k=>hj k.symm) rfl e
  ·rcases h.new _ hm b rfl with h4 | h4
   ·have:=h.ok0 b k;omega
   ·exact h.zm b h4 k
 obtain rfl:o=[]:=k6;rw[zap] at k4;subst k4;refine⟨h2.bel,h2.gd,h2.new,h2.apt,h2.ok0,h2.zm,h2.mko,fun t q' ht=>?_⟩;unfold tf at ht;cases hb:Nat.beq s t with
 | true =>
  rw[hb] at ht;obtain rfl:=zal hb;obtain rfl:=Option.some.inj ht;have h3:=h.tm s _ hs;exact⟨fun k=>let ⟨u,h4,h5⟩:=h3.1 k;⟨u,h4,b,0,us,h5,hn,⟨us.toArray,ty,(0,0),k3,fun j v hj=>by simpa using hj⟩,c.mono k5 (Cl.less (eV (List.eraseIdx_sublist S i)))⟩,h3.2⟩
 | false=>rw[hb] at ht;exact h2.tm t q' ht
theorem ofo {P:Program}{r:Option Nat}{N:Nat}{ops:Array Oper}{M:Nat→Prop}{S:List Ow}{p qx:Prop}{Γ:TE}{d b o:Nat}{x:Operand}{t t':TypeId}{pos:String}{af:Array Edge}{a:Bool}{f off sz:Nat}(hx:tv Γ x=some (qx,zX b o))[Im p qx][ht:TFd P t f a off sz] :
  Ob P r N ops M S p ⟨some d,.fieldAddr t x f,t',pos,af,none⟩ Γ (exP (.pointer (some ⟨b,o+off,none⟩))) :=
 ob1 hx (by simp[Op.operands]) fun D E w u hN hg e1 h1=>by
  obtain rfl:u=_:=h1;obtain⟨fields,fd,bytes,z,k1,k2,k3,k4,k5,_⟩:=ht.h;exact qG off hN k1 k2 k3 k4 k5 e1 (fin rfl)
theorem oldf {P:Program}{r:Option Nat}{N:Nat}{ops:Array Oper}{M:Nat→Prop}{S:List Ow}{p qx:Prop}{Γ:TE}{Ψ:PV}{d b o:Nat}{x:Operand}{t ty t':TypeId}{pos:String}{af:Array Edge}{a:Bool}{sz:Nat}{c c':CT}(i o':Nat)(hx:tv Γ x=some (qx,zX b o))(ho:o=o')[Im p qx](hi:S[i]? = some (.blk b ty [c]))[ht:TLd P t a sz][ha:FA c o' c'](hs:Nat.beq c'.sz sz=true)[hl:LdA a c' Ψ]:Ob P r N ops M S p ⟨some d,.load t x,t',pos,af,none⟩ Γ Ψ :=
 ob1 hx (by simp[Op.operands]) fun D E w u hN hg e1 h1=>by
  obtain rfl:u=_:=h1;subst ho;obtain⟨vs,k3,x1,o1,k4,k6,k7⟩:=hg.own _ (zav hi);obtain rfl:o1=[]:=k7;rw[zap] at k4;subst k4;have h3:=ha.h k6;have h4:=hl.h h3;have h7:=c'.len h3;have h6:=zal hs;have h2:∀(j:Nat) (u:Value),((vs.drop o).take c'.sz)[j]? = some u→w.cell? ⟨b,o+j,none⟩=some u:=fun j u hj=>by
   rw[k3.cell];rw[zaT] at hj;split at hj
   ·simpa using hj
   ·cases hj
  have h5:=ht.h;cases a with
  | true =>
   obtain⟨bytes,z,k2⟩:=ht.s;exact cG hN h5 k2 e1 h2 (h7.trans h6) (fin h4)
  | false =>
   obtain⟨k1,rfl⟩:=h5;rw[h6] at h7 h2 h4;obtain⟨v,hv⟩:=zcG.1 h7;rw[hv] at h2 h4;exact aV hN k1 e1 (by have:=h2 0 v rfl;simpa using this) (fin (h4 v rfl))
theorem ts_ow {X:Cx}{Γ:TE}{S:List Ow}{o o':Ow}(i:Nat)(hi:S[i]? = some o)(hb:o'.bk=o.bk)(ho:∀ M w,o.ok M w→o'.ok M w):Ts X Γ S Γ (S.set i o'):=fun E w h=>by
 have hm:∀ q∈S.set i o',q∈S∨q=o':=fun q hq=>zbF hq;have hiS:o∈S:=zav hi;have hmk:Mk (S.set i o') X.M=Mk S X.M:=funext fun c=>propext ⟨fun h=>h.imp (fun⟨q,hq,e⟩=>by
  rcases hm q hq with hq | rfl
  ·exact⟨q,hq,e⟩
  ·exact⟨_,hiS,hb ▸ e⟩) id,fun h=>h.imp (fun⟨q,hq,e⟩=>by
  obtain⟨m,hm⟩:=zcg.1 hq;by_cases c:i=m
  ·subst c;obtain rfl:=Option.some.inj (hm.symm.trans hi);exact⟨o',zav (zbk (zaO.1 hi).1),hb.trans e⟩
  ·exact⟨q,zav (by rw[zbr c];exact hm),e⟩) id⟩
 refine⟨h.bel,⟨by rw[hmk];exact h.gd.ok,by rw[hmk];exact h.gd.tab,fun q hq=>?_⟩,fun q hq b' e=>?_,dP h.apt hi (fun b' e => .inl (hb ▸ e)),h.ok0,h.zm,h.mko,by rw[hmk];exact h.tm⟩
 ·rw[hmk];rcases hm q hq with hq | rfl
  ·exact h.gd.own q hq
  ·exact ho _ _ (h.gd.own _ hiS)
 ·rcases hm q hq with hq | rfl
  ·exact h.new q hq b' e
  ·exact h.new _ hiS b' (hb ▸ e)
theorem gH {X:Cx}{Γ:TE}{S:List Ow}{b:Nat}{ty:TypeId}{cs cs':List CT}(i:Nat)(hi:S[i]? = some (.blk b ty cs))(hc:∀ {M w us},stp cs M w us→stp cs' M w us):Ts X Γ S Γ (S.set i (.blk b ty cs')):=ts_ow i hi rfl fun M w ⟨us,h1,h2⟩=>⟨us,h1,hc h2⟩
instance {n:Nat}{z:Int}:SzC (ztq n z) 2:=⟨rfl⟩
instance {n:Nat}{z:Int}:SzC (ztc n z) 2:=⟨rfl⟩
instance {n k:Nat}:SzC (ntq n k) 1:=⟨rfl⟩
instance {n k:Nat}:SzC (ntc n k) 1:=⟨rfl⟩
instance {xs:List Nat}:CN (ntx xs) xs.length (val xs):=⟨fun⟨a,e,h⟩=>⟨a,e,xs,h,zac _,rfl⟩⟩
theorem tY {M:Nat→Prop}{w:World}{n:Nat}{z:Int}{s:Bool}{a:Value}(h:ZQ M w n z s a):∃ b:Bool×List Nat,(∀ x∈b.2,x<4294967296)∧b.2.length≤n∧zv b.1 b.2=z∧(ag (itx b)).p M w (.agg #[.bool s,a]):=by
 obtain⟨xs,h1,h2,h3⟩:=h.ex;exact⟨(s,xs),h1.lt,h2,h3,[.bool s,a],rfl,[.bool s],[a],rfl,⟨rfl,rfl⟩,[a],[],rfl,⟨a,rfl,h1⟩,rfl⟩
theorem ctz1 {P:Program}{f:FuncId}{ρ Ψ:PV}{n:Nat}{z:Int}[h:VZ Ψ n z](hb:Bod P f)(k:∀ a:Bool×List Nat,(∀ x∈a.2,x<4294967296)→a.2.length≤n→zv a.1 a.2=z→CTy P f [ag (itx a)] ρ):CTy P f [Ψ] ρ:=⟨hb,fun M w vs hM hT hv=>by
 obtain⟨v,rfl,h1⟩:=fa1 hv;obtain⟨s,a,rfl,g⟩:=h.h h1;obtain⟨b,b0,b1,b2,b3⟩:=tY g;exact(k b b0 b1 b2).run M w _ hM hT ⟨_,_,rfl,b3,rfl⟩⟩
theorem ctz2 {P:Program}{f:FuncId}{ρ Ψ Φ:PV}{n m:Nat}{y z:Int}[h:VZ Ψ n y][h':VZ Φ m z](hb:Bod P f)(k:∀ a b:Bool×List Nat,(∀ x∈a.2,x<4294967296)→a.2.length≤n→zv a.1 a.2=y→(∀ x∈b.2,x<4294967296)→b.2.length≤m→zv b.1 b.2=z→CTy P f [ag (itx a),ag (itx b)] ρ):CTy P f [Ψ,Φ] ρ:=⟨hb,fun M w vs hM hT hv=>by
 obtain⟨v,u,rfl,h1,h2⟩:=fa2 hv;obtain⟨s,a,rfl,g⟩:=h.h h1;obtain⟨t,b,rfl,g'⟩:=h'.h h2;obtain⟨b1,b0,b2,b3,b4⟩:=tY g;obtain⟨c1,c0,c2,c3,c4⟩:=tY g';exact(k b1 c1 b0 b2 b3 c0 c2 c3).run M w _ hM hT ⟨_,_,rfl,b4,_,_,rfl,c4,rfl⟩⟩
theorem ps_z {N k:Nat}{z:Int}{s:Bool}(h1:s=decide (z<0))(h2:k=z.natAbs)(h3:(limbs k).length≤N):PSub (ag (st [xc (.bool s),ntx (limbs k)])) (ag (ztc N z)):=fun M w v ⟨us,e,x,y,e1,k1,u,o,e2,⟨a,k2,k3⟩,e3⟩=>by
 subst h2;obtain⟨rfl,_⟩:=k1;obtain rfl:o=[]:=e3;subst k2;exact⟨us,e,s,a,by rw[e1,e2];rfl,h1,k3,h3⟩
instance {n k:Nat}:VX (sv (ntc n k)) (limbs k):=⟨fun⟨a,e,_,h⟩=>by rw[zbv.1 e];exact h⟩
theorem vx_q {Ψ:PV}{xs:List Nat}[h:VX Ψ xs]:PSub Ψ (sv (ntx xs)):=fun M w v k=>⟨v,rfl,h.h k⟩
theorem yX6 {Ψ Φ:PV}{xs ys:List Nat}[h:VX Ψ xs][k:VX Φ ys]:CTy prog 187 [Ψ,Φ] (exP (.bool (decide (xs=ys)))):=yE k1samex (fs1 vx_q (fs1 vx_q fs0))
theorem k2mulx {Ψ Φ:PV}{xs ys:List Nat}[h:VX Ψ xs][k:VX Φ ys](h1:xs.length≤100000000)(h2:ys.length≤100000000):CTy prog 91 [Ψ,Φ] (sv (ntx (limbs (val xs*val ys)))):=yE (xG5 h1 h2) (fs1 vx_q (fs1 vx_q fs0))
theorem obz {P:Program}{r:Option Nat}{N:Nat}{ops:Array Oper}{M:Nat→Prop}{S:List Ow}{p qx:Prop}{Γ:TE}{Ψx:PV}{c:CT}{d:Nat}{x:Operand}{t t':TypeId}{pos:String}{af:Array Edge}(hx:tv Γ x=some (qx,Ψx))[Im p qx][hp:TPl P t [1,1]][tz:TZ P t (.agg #[.bool false,.slice none 0 0])][hc:CtOf Ψx c](hs:Nat.beq c.sz 1=true) :
  Ob P r N ops M S p ⟨some d,.build t #[(1,x)],t',pos,af,none⟩ Γ (ag (st [xc (.bool false),c])) :=
 ob1 hx (by simp[Op.operands]) fun D E w u hN hg e1 h1=>by
  obtain⟨us,k1,k2⟩:=hc.h h1;obtain⟨sz,bytes,hz⟩:=tz.s;have hl:us.length=1:=(c.len k2).trans (zal hs);refine cZ (vs:=[u]) (cs:=[us]) (zs:=[.bool false,.slice none 0 0]) hN hp.h hz (by simp[evs,e1]) ⟨k1,trivial⟩ (by simp[hl]) rfl (fin ⟨[.bool false]++us,?_,[.bool false],us,rfl,⟨rfl,rfl⟩,us,[],by simp,k2,rfl⟩);simp[updC,hl]
instance (priority:=high){P:Program}{r:Option Nat}{N:Nat}{ops:Array Oper}{S:List Ow}{p q:Prop}{Γ:TE}{t t':TypeId}{x:Operand}{Ψ:PV}{c:CT}[h:TV Γ x q Ψ][Im p q][TPl P t [1,1]][TZ P t (.agg #[.bool false,.slice none 0 0])][CtOf Ψ c][hs:SzC c 1]:OB P r N ops S p (.build t #[(1,x)]) t' Γ (ag (st [xc (.bool false),c])) True:=⟨fun _=>obz h.h (by rw[hs.h];rfl)⟩
theorem xL {xs:List Nat}(h:∀ x∈xs,x<4294967296):(limbs (val xs)).length≤xs.length:=zT (yL _ h)
instance {n k:Nat}:VS (sv (ntc n k)) 1 ((limbs k).map xw):=⟨fun⟨v,e,_,h⟩=>⟨v,_,e,by rw[zai];exact h.slc,zM1,fun c hc=>by obtain⟨a,_,rfl⟩:=zaj.1 hc;rfl⟩⟩
theorem k5normx {a:Bool×List Nat}{N:Nat}{z:Int}(hx:∀ x∈a.2,x<4294967296)(hl:a.2.length≤100000000)(hN:a.2.length≤N)(hz:zv a.1 a.2=z):CTy prog 144 [ag (itx a)] (ag (ztc N z)):=by
 refine fw [.cell 2 27] func144 fun X=>?_;iterate 3 refine u ?_
 refine u fun b2=>?_;repeat refine u ?_
 refine zB rfl rfl (gG (by omega)) ?_;repeat refine u ?_
 refine zH 0 rfl rfl ?_;repeat refine u ?_
 refine⟨[_],zN 0 rfl rs0,yJ ?_⟩;exact(ps_z (by
  have h0:=@zS (val a.2);subst hz;unfold zv;cases h:a.1 with
  | false=>simp<;>omega
  | true =>
   simp only[Bool.true_and,if_true];rw[decide_eq_decide];omega) (by subst hz;unfold zv;split<;>omega) (Nat.le_trans (xL (by exact hx)) hN))
theorem qP {Ψ:PV}{n:Nat}{z:Int}[h:VZ Ψ n z](hn:n≤100000000):CTy prog 144 [Ψ] (ag (ztc n z)):=ctz1 (bo func144) fun a h0 h1 h2=>k5normx h0 (by omega) h1 h2
theorem vz_q {Ψ:PV}{n:Nat}{z:Int}[h:VZ Ψ n z]:PSub Ψ (ag (ztq n z)):=fun M w v hv=>by obtain⟨s,a,rfl,g⟩:=h.h hv;exact⟨_,rfl,s,a,rfl,g⟩
theorem aI {n N:Nat}{y z:Int}(h:y=z)(h1:n≤N):PSub (ag (ztc n y)) (ag (ztc N z)):=fun M w v ⟨us,e,s,a,e2,g⟩=>by subst h;exact⟨us,e,s,a,e2,g.sgn,g.num,zab g.len h1⟩
theorem yH1 {K:Nat}{xs ys:List Nat}(h1:val xs<4294967296^xs.length)(h2:val ys<4294967296^ys.length)(hK:max xs.length ys.length+1≤K):(limbs (val xs+val ys)).length≤K:=by
 refine zab (zT (k:=max xs.length ys.length+1) ?_) hK;have a1:4294967296^xs.length≤4294967296^(max xs.length ys.length):=zbe (by omega) (by omega);have a2:4294967296^ys.length≤4294967296^(max xs.length ys.length):=zbe (by omega) (by omega);rw[zaA];omega
theorem yC7 {Ψ:PV}{n:Nat}{z:Int}[h:VZ Ψ n z](hn:n≤1000000):CTy prog 63 [Ψ] (exP (.int .i64 z.sign)):=by
 refine yE (σs:=[ag (ztq n z)]) ?_ (fs1 vz_q fs0);refine fw [.tmp 2] func63 fun X=>?_;iterate 2 refine u ?_
 refine tbx rfl fun b1=>?_;repeat refine u ?_
 refine zB rfl rfl (qP (by omega)) ?_;repeat refine u ?_
 refine zA1 (oldf 0 1 rfl rfl rfl rfl) ?_;repeat refine u ?_
 refine ti (fun c0=>?_) fun c0=>?_;repeat refine u ?_
 refine e ?_;refine ps_i ?_;rotate_left;repeat refine u ?_
 refine zA1 (oldf 0 0 rfl rfl rfl rfl) ?_;repeat refine u ?_
 refine ti (fun c1=>?_) fun c1=>?_;repeat refine u ?_
 refine e ?_;refine ps_i ?_;rotate_left;repeat refine u ?_
 refine e ?_;refine ps_i ?_;rotate_left
 ·have h1:=dt c0;have h2:=@zS z.natAbs;rw[show z=0 by omega];rfl
 ·have h2:=dt c1;rw[zcM h2]
 ·have h1:=df c0;have h2:=df c1;have h3:=@zS z.natAbs;rw[zcN (by omega)]
theorem yX1 {Ψ:PV}{n:Nat}{z:Int}[h:VZ Ψ n z](hn:n≤1000000):CTy prog 146 [Ψ] (ag (ztc n (-z))):=ctz1 (bo func146) fun a h0 h1 h2=>by
 refine fw [.cell 2 27] func146 fun X=>?_;iterate 3 refine u ?_
 refine u fun b2=>?_;repeat refine u ?_
 refine zB rfl rfl (qP (by omega)) ?_;repeat refine u ?_
 refine e ?_;exact aI (by subst h2;unfold zv;cases a.1<;>simp) h1
theorem w5two {a b:Bool×List Nat}{N:Nat}{y z:Int}(la:∀ x∈a.2,x<4294967296)(lb:∀ x∈b.2,x<4294967296)(ha:a.2.length≤1000000)(hb:b.2.length≤1000000)(hN:max a.2.length b.2.length+1≤N)(hy:zv a.1 a.2=y)(hz:zv b.1 b.2=z):CTy prog 214 [ag (itx a),ag (itx b)] (ag (ztc N (y+z))):=by
 have hs:(limbs (val a.2+val b.2)).length≤max a.2.length b.2.length+1:=yH1 (yL _ la) (yL _ lb) (zac _);have hs2:(limbs (List.map val [a.2,b.2]).sum).length≤max a.2.length b.2.length+1:=by simpa using hs
 have hd1:(limbs (val a.2-val b.2)).length≤max a.2.length b.2.length+1:=zab (zW (by omega)) hs;have hd2:(limbs (val b.2-val a.2)).length≤max a.2.length b.2.length+1:=zab (zW (by omega)) hs;refine fw [.cell 4 27] func214 fun X=>?_;iterate 4 refine u ?_
 refine u fun b4=>?_;repeat refine u ?_
 refine ti (fun c0=>?_) fun c0=>?_;refine u ?_;refine zL 10 mixed rfl rfl ?_;repeat refine u ?_
 refine zC rfl rfl (yX8 (xss:=[a.2,b.2]) (by(simp;omega)) (by(simp;done))) ?_;repeat refine u ?_
 refine zC rfl rfl (qP (by omega)) ?_;repeat refine u ?_
 refine e ?_;rotate_left;repeat refine u ?_
 refine zB rfl rfl (zW8 (by omega) (by omega)) ?_;repeat refine u ?_
 refine ti (fun c1=>?_) fun c1=>?_;repeat refine u ?_
 refine zB rfl rfl (qP (by omega)) ?_;repeat refine u ?_
 refine e ?_;rotate_left;repeat refine u ?_
 refine zB rfl rfl (zW8 (by omega) (by omega)) ?_;repeat refine u ?_
 refine zB rfl rfl (qP (by omega)) ?_;repeat refine u ?_
 refine e ?_;rotate_left
 ·have h0:a.1=b.1:=eq_of_beq c0.h;exact aI (by
   subst hy hz;rw[zJ];simp only[List.map_cons,List.map_nil,List.sum_cons,List.sum_nil];unfold zv;rw[h0];split<;>omega) (by omega)
 ·have h0:a.1≠b.1:=fun e=>by have:=c0.h;rw[e] at this;simp at this
  have h1:val b.2≤val a.2:=by have:=dt c1;split at this<;>omega
  exact aI (by
   subst hy hz;rw[zJ];unfold zv;cases ea:a.1<;>cases eb:b.1<;>simp[ea,eb] at h0 ⊢ <;> omega) (by omega)
 ·have h0:a.1≠b.1:=fun e=>by have:=c0.h;rw[e] at this;simp at this
  have h1:val a.2<val b.2:=by have:=df c1;split at this<;>omega
  exact aI (by
   subst hy hz;rw[zJ];unfold zv;cases ea:a.1<;>cases eb:b.1<;>simp[ea,eb] at h0 ⊢ <;> omega) (by omega)
theorem k5two {Ψ Φ:PV}{n m N:Nat}{y z:Int}[h:VZ Ψ n y][h':VZ Φ m z](hn:n≤1000000)(hm:m≤1000000)(hN:max n m+1≤N):CTy prog 214 [Ψ,Φ] (ag (ztc N (y+z))):=ctz2 (bo func214) fun a b la ha hy lb hb hz=>w5two la lb (by omega) (by omega) (by omega) hy hz
theorem z0_ok {n:Nat}{M:Nat→Prop}{w:World}{us:List Value}(h:stp (zc (.agg #[.bool false,.slice none 0 0])) M w us):stp [ztc n 0] M w us:=by
 obtain⟨x,y,rfl,⟨rfl,_⟩,z,o,rfl,⟨rfl,_⟩,h3⟩:=h;obtain rfl:o=[]:=h3;exact⟨[.bool false,.slice none 0 0],[],rfl,⟨false,_,rfl,zc_zero⟩,rfl⟩
theorem w5add {l:List Int}{n:Nat}(hn:n≤390000)(hl:l.length≤2):CTy prog 145 [sv (sl 2 (l.map (ztq n)))] (ag (ztc (n+2) l.sum)):=by
 refine fw [.cell 2 27] func145 fun X=>?_;iterate 2 refine u ?_
 refine u fun b2=>?_;iterate 3 refine u ?_
 refine u fun b3=>?_;repeat refine u ?_
 refine t_ts (gH (cs':=[ztc (n+0) 0]) 0 rfl z0_ok) ?_;refine lp (σ:=Nat) [0,2,3] (fun s=>[(4,True,zI s)]) (fun s=>[.blk b3 27 [ztc (n+s) (l.take s).sum],.blk b2 27 (zc (.agg #[.bool false,.slice none 0 0]))]) (fun s=>s≤l.length) (fun s=>l.length-s) (0) ((by simp)) fun s hJ Y _=>?_;repeat refine u ?_
 refine ti (fun c0=>?_) fun c0=>?_;iterate 3 refine u ?_
 refine zL 7 mixed rfl rfl ?_;repeat refine u ?_
 refine d1 (oix _ rfl rfl rfl (fun _=>rfl) (fun _=>(by(have e0:=dt c0;omega)))) ?_;repeat refine u ?_
 refine zC rfl rfl (qP (by omega)) ?_;refine zC rfl rfl (k5two (N:=n+s+1) (by omega) (by omega) (by omega)) ?_;repeat refine u ?_
 rotate_left;repeat refine u ?_
 refine zB rfl rfl (qP (by omega)) ?_;repeat refine u ?_
 refine e ?_;rotate_left
 ·refine⟨s+1,tes ?_ ?_ ?_,(by(have e0:=dt c0;omega)),(by(have e0:=dt c0;omega))⟩;refine zA rfl tn;refine zA rfl (zA rfl (zA rfl tn));rw[sum_take (by have:=dt c0;omega)];exact zaa _
 ·have h0:s=l.length:=by have:=df c0;omega
  subst h0;exact aI (by rw[zaS]) (by omega)
theorem xD4 {N n:Nat}{b:Bool}{z:Int}(h1:b=decide (z<0))(h2:n=z.natAbs)(h3:(limbs n).length≤N):PSub (ag (st [xc (.bool b),ntx (limbs n)])) (ag (ztc N z)):=fun M w v ⟨us,e,x,y,e1,⟨e2,_⟩,u,o,e3,⟨a,e4,g⟩,e5⟩=>by
 subst h1 h2 e2 e4;obtain rfl:o=[]:=e5;exact⟨us,e,_,a,by rw[e1,e3];rfl,rfl,g,h3⟩
theorem k5of {k N:Nat}(hk:k<9223372036854775808)(hN:2≤N):CTy prog 117 [zI k] (ag (ztc N ((k:Nat):Int))):=by
 have h2:(limbs k).length≤2:=zT (by omega);refine fw [.cell 2 27] func117 fun X=>?_;iterate 2 refine u ?_
 refine u fun b2=>?_;repeat refine u ?_
 refine xW rfl rfl ?_;repeat refine u ?_
 refine zB rfl rfl (k1of (by omega)) ?_;repeat refine u ?_
 refine zH 0 rfl rfl ?_;repeat refine u ?_
 refine⟨[_],zN 0 rfl rs0,yJ ?_⟩;exact xD4 (z:=((k:Nat):Int)) (decide_eq_false (by omega)).symm (by omega) (by omega)
theorem k5normM {Ψ:PV}{n N:Nat}{y z:Int}[h:VZ Ψ n y](hn:n≤100000000)(hN:(limbs y.natAbs).length≤N)(e:y=z):CTy prog 144 [Ψ] (ag (ztc N z)) :=
 ⟨(qP (h:=h) hn).bod,fun M w vs hM hT hv=>((qP (h:=h) hn).run M w vs hM hT hv).mono fun r w' ⟨hB,us,e1,s,a,e2,g⟩=>⟨hB,by subst e;exact⟨us,e1,s,a,e2,g.sgn,g.num,hN⟩⟩⟩
abbrev zx (a:Bool×List Nat):Int:=zv a.1 a.2
instance:Df (Bool×List Nat):=⟨(false,[])⟩
theorem nY (a:Bool×List Nat):(zx a).natAbs=val a.2:=by unfold zx zv;split<;>omega
theorem mul_z (p:Int)(a:Bool×List Nat):(if (!(decide (p<0) == a.1))=true then -((val (limbs (val (limbs p.natAbs)*val a.2)):Nat):Int) else((val (limbs (val (limbs p.natAbs)*val a.2)):Nat):Int))=p*zx a:=by
 rw[zJ,zJ,zcA];unfold zx zv;rcases Decidable.em (p<0) with h | h
 ·have e:((p.natAbs:Nat):Int) = -p:=by omega
  rw[decide_eq_true h,e];cases a.1<;>simp[Int.neg_mul,Int.mul_neg]
 ·have e:((p.natAbs:Nat):Int)=p:=by omega
  rw[decide_eq_false (by omega),e];cases a.1<;>simp[Int.neg_mul,Int.mul_neg]
theorem yI5 {l:List (Bool×List Nat)}{s:Nat}(h:s<l.length):xY ((l.map zx).take (s+1))=xY ((l.map zx).take s)*zx (l.getD s Df.d):=by
 rw[prod_take (by simpa using h)];simp[zag,zah h]
theorem w5mul {l:List (Bool×List Nat)}{n:Nat}(hn:n≤100000)(hl:l.length≤2)(hb:∀ a∈l,(∀ x∈a.2,x<4294967296)∧a.2.length≤n):CTy prog 66 [sv (sl 2 (l.map itx))] (ag (ztc (2*n+2) (xY (l.map zx)))):=by
 refine fw [.cell 2 27] func66 fun X=>?_;iterate 2 refine u ?_
 refine u fun b2=>?_;repeat refine u ?_
 refine zB rfl rfl (k5of (k:=1) (N:=2+0*n) (by omega) (by omega)) ?_;refine u fun b3=>?_;repeat refine u ?_
 refine lp (σ:=Nat) [0,2,3] (fun s=>[(4,True,zI s)]) (fun s=>[.blk b3 27 [ztc (2+s*n) (xY ((l.map zx).take s))],.blk b2 27 (zc (.agg #[.bool false,.slice none 0 0]))]) (fun s=>s≤l.length∧(limbs (xY ((l.map zx).take s)).natAbs).length≤2+s*n) (fun s=>l.length-s) (0) (⟨by simp,by simp[xY,xS]⟩) fun s hJ Y _=>?_;obtain⟨j1,j2⟩:=hJ;have hs2:s*n≤2*n:=zaU n (by omega);have hs3:(s+1)*n=s*n+n:=zcv _ _;have hg:s<l.length→(∀ x∈(l.getD s Df.d).2,x<4294967296)∧(l.getD s Df.d).2.length≤n:=fun h=>hb _ (by rw[zag,zah h];exact zaI h);have hm:s<l.length→(limbs (val (limbs (xY (List.take s (List.map zx l))).natAbs)*val (l.getD s Df.d).2)).length≤2+s*n+n:=fun h=>by
  obtain⟨g1,g2⟩:=hg h;refine zab (aL (yL _ (yF _)) (yL _ g1)) ?_;omega
 repeat refine u ?_
 refine ti (fun c0=>?_) fun c0=>?_;iterate 3 refine u ?_
 refine zL 18 mixed rfl rfl ?_;repeat refine u ?_
 refine d1 (oldf 0 0 rfl rfl rfl rfl) ?_;repeat refine u ?_
 refine d1 (oix _ rfl rfl rfl (fun _=>rfl) (fun _=>(by(have e0:=dt c0;omega)))) ?_;repeat refine u ?_
 refine d1 (oldf 0 1 rfl rfl rfl rfl) ?_;repeat refine u ?_
 refine d1 (oix _ rfl rfl rfl (fun _=>rfl) (fun _=>(by(have e0:=dt c0;omega)))) ?_;repeat refine u ?_
 refine zC rfl rfl (k2mulx (by omega) (by(have e0:=dt c0;omega))) ?_;repeat refine u ?_
 refine zC rfl rfl (k5normM (N:=2+(s+1)*n) (z:=xY ((l.map zx).take (s+1))) (by(have e0:=dt c0;omega)) ?_ ?_) ?_;rotate_left;rotate_left;repeat refine u ?_
 rotate_left;repeat refine u ?_
 refine e ?_;rotate_left
 ·have h1:=hm (by have:=dt c0;omega);have e4:∀(c:Bool) (k:Nat),(if c=true then -((k:Nat):Int) else((k:Nat):Int)).natAbs=k:=fun c k=>by split<;>omega
  rw[e4,zJ];omega
 ·rw[yI5 (by have:=dt c0;omega),← mul_z]
 ·have h0:s<l.length:=by have:=dt c0;omega
  have h1:=hm h0;refine⟨s+1,tes ?_ ?_ (zaa _),?_,(by omega)⟩;refine zA rfl tn;refine zA rfl (zA rfl (zA rfl tn));refine⟨by omega,?_⟩;rw[yI5 h0,zbR,nY];rw[zJ] at h1;omega
 ·have h0:s=l.length:=by have:=df c0;omega
  subst h0;exact aI (by rw[zaw (by simp)]) (by omega)
theorem yP4 {M:Nat→Prop}{w:World}{n:Nat}{l:List Int}{v:Value}(h:ZL M w n l v):∃ ls:List (Bool×List Nat),(sl 2 (ls.map itx)).p M w [v]∧ls.map zx=l∧∀ a∈ls,(∀ x∈a.2,x<4294967296)∧a.2.length≤n:=by
 obtain⟨cs,h1,h2⟩:=h.row;have h3:∀ i,i<l.length→∃ a:Bool×List Nat,zx a=l.getD i 0∧(∀ x∈a.2,x<4294967296)∧a.2.length≤n∧∃ us:List Value,us.length=2∧(∀(q:Nat) (u:Value),us[q]? = some u→cs[i*2+q]? = some u)∧(itx a).p M w us:=fun i hi=>by
  obtain⟨us,g1,g2,s,a,rfl,g3⟩:=h2 i _ (zah hi);obtain⟨xs,k1,k2,k3⟩:=g3.ex;exact⟨(s,xs),by rw[zag,zah hi];exact k3,k1.lt,k2,_,g1,g2,[.bool s],[a],rfl,⟨rfl,rfl⟩,[a],[],rfl,⟨a,rfl,k1⟩,rfl⟩
 let Y:Nat→Bool×List Nat:=fun i=>if h:i<l.length then Classical.choose (h3 i h) else(false,[])
 have hY:∀ i,i<l.length→zx (Y i)=l.getD i 0∧(∀ x∈(Y i).2,x<4294967296)∧(Y i).2.length≤n∧∃ us:List Value,us.length=2∧(∀(q:Nat) (u:Value),us[q]? = some u→cs[i*2+q]? = some u)∧(itx (Y i)).p M w us:=fun i hi=>by simp only[Y,dif_pos hi];exact Classical.choose_spec (h3 i hi)
 refine⟨(List.range l.length).map Y,?_,?_,fun a ha=>?_⟩
 ·refine cD (R:=fun M w a us=>(itx a).p M w us) (fun _=>rfl) (fun _ _ _ h=>h) ⟨cs,by simpa using h1,fun i a hi=>?_⟩;obtain⟨hlt,rfl⟩:=zaO.1 hi;have:=(hY i (by simpa using hlt)).2.2.2;simpa using this
 ·apply zcq (by simp);intro i h4 h5;have:=(hY i h5).1;simpa [List.getD_eq_getElem?_getD,List.getElem?_eq_getElem h5] using this
 ·obtain⟨i,hi,rfl⟩:=zaj.1 ha;obtain⟨_,g1,g2,_⟩:=hY i (zaE.1 hi);exact⟨g1,g2⟩
theorem nB {Ψ:PV}{n:Nat}{l:List Int}[h:VZL Ψ n l](hn:n≤100000)(hl:l.length≤2):CTy prog 66 [Ψ] (ag (ztc (2*n+2) (xY l))) :=
 ⟨(bo func66),fun M w vs hM hT hv=>by
  obtain⟨v,rfl,h1⟩:=fa1 hv;obtain⟨ls,k1,k2,k3⟩:=yP4 (h.h h1);subst k2;exact(w5mul hn (by simpa using hl) k3).run M w _ hM hT ⟨_,_,rfl,k1,rfl⟩⟩
theorem yX2 {Ψ:PV}{n:Nat}{l:List Int}[h:VZL Ψ n l](hn:n≤390000)(hl:l.length≤2):CTy prog 145 [Ψ] (ag (ztc (n+2) l.sum)) :=
 yE (w5add hn hl) (fs1 (fun M w v hv=>cD (fun _=>rfl) (fun a us _ h=>h) (h.h hv).row) fs0)
theorem zW4 {Ψ Φ:PV}{n m:Nat}{y z:Int}[h:VZ Ψ n z][h':VZ Φ m y](hn:n≤380000)(hm:m≤380000):CTy prog 65 [Ψ,Φ] (ag (ztc (max n m+2) (z-y))):=by
 refine yE (σs:=[ag (ztq n z),ag (ztq m y)]) ?_ (fs1 vz_q (fs1 vz_q fs0));refine fw [.cell 4 27] func65 fun X=>?_;iterate 4 refine u ?_
 refine u fun b4=>?_;iterate 2 refine u ?_
 refine zL 5 mixed rfl rfl ?_;repeat refine u ?_
 refine zC rfl rfl (yX1 (by omega)) ?_;repeat refine u ?_
 refine zC rfl rfl (yX2 (by omega) (by(simp;done))) ?_;repeat refine u ?_
 refine e ?_;exact aI (by simp;omega) (zac _)
theorem k5told {n m:Nat}{y z:Int}:CTy prog 186 [ag (ztc n y),ag (ztc m z)] (exP (.bool (decide (y=z)))):=by
 refine fw [.tmp 4] func186 fun X=>?_;repeat refine u ?_
 refine t1g rfl rfl (oca rfl rfl fun g=>yX6) ?_;repeat refine u ?_
 refine e ?_;refine psb ?_;rw[zct];simp only[zam,beq_iff_eq,decide_eq_true_eq];constructor
 ·rintro⟨h1,h2⟩;have h3:y.natAbs=z.natAbs:=by have:=congrArg val h2;rwa [zJ,zJ] at this
  rw[decide_eq_decide] at h1;omega
 ·rintro rfl;exact⟨rfl,rfl⟩
theorem rO {α:Type}[Df α]{l:List α}{s:Nat}(h:s<l.length):l.getD s Df.d∈l:=by rw[zag,zah h];exact zaI h
def pk (ty:TypeId)(c:CT):PV:=⟨fun M w v=>∃ b us,v = .pointer (some ⟨b,0,none⟩)∧KBlk M w b ty us∧c.p M w us,fun⟨b,us,e,h,k⟩ l=>let g:=l b _ _ _ h.not h.blk;⟨b,us,e,⟨g.2,g.1⟩,c.mono k l⟩⟩
theorem zU5 {ty:TypeId}{c:CT}:PSub (pk ty c) (pa (st [c])):=fun M w v ⟨b,x,e,h,k⟩=>⟨b,0,x,e,h.not,⟨x.toArray,ty,(0,0),h.blk,fun j v hj=>by simpa using hj⟩,x,[],(List.append_nil x).symm,k,rfl⟩
theorem gQ {P:Program}{f:FuncId}{τs:List PV}{ρ σ:PV}(h:CTy P f τs ρ)(k:PSub ρ σ):CTy P f τs σ:=⟨h.bod,fun M w vs a b c=>(h.run M w vs a b c).mono fun r w' ⟨hB,g⟩=>⟨hB,k _ _ _ g⟩⟩
theorem yZ9 {P:Program}{f:FuncId}{τs:List PV}{ty:TypeId}{c:CT}(h:CTo P f τs [] (fun r So=>∃ b,r=zX b 0∧So=[.blk b ty [c]])):CTy P f τs (pk ty c) :=
 ⟨h.bod,fun M w vs hM hT hv=>by
  have e:Mk [] M=M:=by funext k;simp[Mk]
  refine(h.run M w vs ⟨by rw[e];exact hM,by rw[e];exact hT,fun _ h=>by simp at h⟩ trivial (fun b ⟨o,h,_⟩=>by simp at h) hM (by rw[e];exact hv)).mono fun v w' ⟨hb,ρ,So,⟨b,e1,e2⟩,hg,_,hn,hρ⟩=>⟨⟨hb.os,hb.tape,hb.output,hb.size,fun k hk=>hb.block k hk fun⟨o,h,_⟩=>by simp at h⟩,?_⟩;subst e1 e2;obtain⟨us,g1,x,y,rfl,g2,g3⟩:=hg.own _ (zan.2 rfl);obtain rfl:y=[]:=g3;rw[zap] at g1;have hb':w.heap.size≤b:=(hn b ⟨_,zan.2 rfl,rfl⟩).elim id fun⟨o,h,_⟩=>by simp at h
  exact⟨b,x,hρ,⟨g1,fun c=>by have:=hM b c;omega⟩,c.mono g2 (Cl.less fun k hk => .inr hk)⟩⟩
theorem ctoW {P:Program}{f:FuncId}{τs σs:List PV}{Si:List Ow}{Q:PV→List Ow→Prop}(h:CTo P f σs Si Q)(k:Fsub τs σs):CTo P f τs Si Q:=⟨h.bod,fun M w vs a b c d e=>h.run M w vs a b c d (k _ _ _ e)⟩
theorem yE2 {n:Nat}{z:Int}{M:Nat→Prop}{w:World}{us:List Value}(h:stp [ztc n z] M w us):stp [xc (.bool (decide (z<0))),ntx (limbs z.natAbs)] M w us:=by
 obtain⟨x,y,rfl,⟨s,a,rfl,g⟩,h2⟩:=h;obtain rfl:y=[]:=h2;exact⟨[.bool s],[a],rfl,⟨by rw[g.sgn],rfl⟩,[a],[],rfl,⟨a,rfl,g.num⟩,rfl⟩
theorem z_join {N k:Nat}{z:Int}{s:Bool}{M:Nat→Prop}{w:World}{us:List Value}(h1:s=decide (z<0))(h2:k=z.natAbs)(h3:(limbs k).length≤N)(h:stp [xc (.bool s),ntx (limbs k)] M w us):stp [ztc N z] M w us:=by
 subst h2;obtain⟨x,y,rfl,k1,u,o,e2,⟨a,k2,k3⟩,e3⟩:=h;obtain⟨rfl,_⟩:=k1;obtain rfl:o=[]:=e3;subst k2;exact⟨[.bool s,a],[],by rw[e2];rfl,⟨s,a,rfl,h1,k3,h3⟩,rfl⟩
theorem zw_neg {s:Bool}{xs:List Nat}:(s&&decide (((0:Nat):Int)<(((limbs (val xs)).length:Nat):Int)))=decide (zv s xs<0):=by
 have h0:=@zS (val xs);unfold zv;cases s with
 | false=>simp<;>omega
 | true =>
  simp only[Bool.true_and,if_true];rw[decide_eq_decide];omega
theorem yP2 {s:Bool}{xs:List Nat}:val xs=(zv s xs).natAbs:=by unfold zv;split<;>omega
theorem yT4 {c c':CT}(h:∀ M w us,c.p M w us→c'.p M w us):PSub (pa c) (pa c'):=fun M w v ⟨b,o,us,e,h1,h2,h3⟩=>⟨b,o,us,e,h1,h2,h _ _ _ h3⟩
theorem cX {l:List CT}{M:Nat→Prop}{w:World}{us:List Value}(h:stp [st l] M w us):stp l M w us:=by
 obtain⟨x,y,e,g,h2⟩:=h;obtain rfl:y=[]:=h2;rw[e,zap];exact g
theorem xC4 {l:List CT}{M:Nat→Prop}{w:World}{us:List Value}(h:stp l M w us):stp [st l] M w us:=⟨us,[],(zap us).symm,h,rfl⟩
theorem onrm {b N:Nat}{s:Bool}{xs:List Nat}{z:Int}(hl:xs.length≤1000000000)(hN:(limbs z.natAbs).length≤N)(hz:zv s xs=z) :
  CTo prog 289 [zX b 0] [.blk b 240 [xc (.bool s),ntx xs]] (fun r So=>r=zX b 0∧So=[.blk b 240 [ztc N z]]):=by
 subst hz;refine fwo [.tmp 2] func289 fun X=>?_;repeat refine u ?_
 refine zB rfl rfl (aJ (by omega)) ?_;repeat refine u ?_
 refine zA1 (zK 0 rfl) ?_;repeat refine u ?_
 refine zH 0 rfl rfl ?_;iterate 3 refine u ?_
 refine zR (gH (cs':=[ztc N (zv s xs)]) 0 rfl (z_join zw_neg yP2 (by rw[yP2 (s:=s)];exact hN))) (zA1 (omv rfl) ?_);repeat refine u ?_
 exact⟨[_],_,_,rst rfl rs0,zaa _,⟨rfl,rfl⟩,yJ (PSub.refl _)⟩
theorem oiof {a:Bool×List Nat}{N:Nat}(hx:∀ x∈a.2,x<4294967296)(hl:a.2.length≤1000000000)(hN:a.2.length≤N):CTo prog 223 [ag (itx a)] [] (fun r So=>∃ b,r=zX b 0∧So=[.blk b 240 [ztc N (zx a)]]):=by
 refine fwo [.tmp 2] func223 fun X=>?_;iterate 9 refine u ?_
 refine tbx rfl fun b5=>?_;refine zR (gH (cs':=[xc (.bool a.1),ntx a.2]) 0 rfl fun h=>cX h) ?_;refine tco [0] rfl rfl rfl (onrm hl (by rw[nY];exact zab (xL hx) hN) rfl) ?_;rintro _ _ ⟨rfl,rfl⟩;repeat refine u ?_
 exact er ⟨_,rfl,rfl⟩
instance {a:Bool×List Nat}:CZ (itx a) a.2.length (zx a):=⟨fun h=>CZ.h (c:=st [xc (.bool a.1),ntx a.2]) h⟩
theorem obze {P:Program}{r:Option Nat}{N:Nat}{ops:Array Oper}{M:Nat→Prop}{S:List Ow}{p:Prop}{Γ:TE}{d:Nat}{t t':TypeId}{pos:String}{af:Array Edge}{szs:List Nat}{zs:Array Value}[hp:TPl P t szs][tz:TZ P t (.agg zs)] :
  Ob P r N ops M S p ⟨some d,.build t #[],t',pos,af,none⟩ Γ (exP (.agg zs)):=fun D E w d' hd hN hg hp' hT=>by
 obtain rfl:=Option.some.inj hd;obtain⟨sz,bytes,hz⟩:=tz.s;exact cZ (vs:=[]) (cs:=[]) (zs:=zs.toList) hN hp.h (by simpa using hz) rfl trivial rfl rfl (fin (by simp[updC];rfl))
instance {P:Program}{r:Option Nat}{N:Nat}{ops:Array Oper}{S:List Ow}{p:Prop}{Γ:TE}{t t':TypeId}{szs:List Nat}{zs:Array Value}[TPl P t szs][TZ P t (.agg zs)]:OB P r N ops S p (.build t #[]) t' Γ (exP (.agg zs)) True:=⟨fun _=>obze⟩
instance:VZ (exP (.agg #[.bool false,.slice none 0 0])) 0 0:=⟨fun e=>⟨false,_,e,[],iP,zac _,rfl⟩⟩
section
variable {Ψ Φ : PV} {n m k j : Nat} {y z : Int}
theorem ctoz {P:Program}{f:FuncId}{Q:PV→List Ow→Prop}[h:VZ Ψ n z](hb:Bod P f)(k:∀ a:Bool×List Nat,(∀ x∈a.2,x<4294967296)→a.2.length≤n→zv a.1 a.2=z→CTo P f [ag (itx a)] [] Q):CTo P f [Ψ] [] Q:=⟨hb,fun M w vs a b c d hv=>by
 obtain⟨v,rfl,h1⟩:=fa1 hv;obtain⟨s,x,rfl,g⟩:=h.h h1;obtain⟨b',b0,b1,b2,b3⟩:=tY g;exact(k b' b0 b1 b2).run M w _ a b c d ⟨_,_,rfl,b3,rfl⟩⟩
theorem xE0 {N:Nat}[h:VZ Ψ n z](hn:n≤1000000000)(hN:n≤N):CTo prog 223 [Ψ] [] (fun r So=>∃ b,r=zX b 0∧So=[.blk b 240 [ztc N z]]):=ctoz (bo func223) fun a h0 h1 h2=>by
 subst h2;exact oiof h0 (by omega) (by omega)
theorem kipk {N:Nat}[h:VZ Ψ n z](hn:n≤1000000000)(hN:n≤N):CTy prog 223 [Ψ] (pk 240 (ztc N z)):=ctz1 (bo func223) fun a h0 h1 h2=>by
 subst h2;exact yZ9 (oiof h0 (by omega) (by omega))
theorem kipa [h:VZ Ψ n z](hn:n≤1000000000):CTy prog 223 [Ψ] (pa (st [ztc n z])):=gQ (kipk hn (zac _)) zU5
theorem xF4 [h:VZ Ψ n z](hn:n≤1000000):CTy prog 284 [Ψ] (ag (ztc n z)):=by
 refine yE (σs:=[ag (ztq n z)]) ?_ (fs1 vz_q fs0);refine fw [.cell 2 27] func284 fun X=>?_;iterate 3 refine u ?_
 refine u fun b2=>?_;repeat refine u ?_
 refine zB rfl rfl (kipa (by omega)) ?_;repeat refine u ?_
 exact e
theorem xF5 [h:VZ Ψ n z](hn:n≤1000000):CTy prog 288 [Ψ] (ag (ztc n (-z))):=ctz1 (bo func288) fun a h0 h1 h2=>by
 refine fw [.cell 2 27] func288 fun X=>?_;iterate 2 refine u ?_
 refine tbx rfl fun b1=>(u fun b2=>?_);repeat refine u ?_
 refine zA1 (oldf 1 0 rfl rfl rfl rfl) ?_;repeat refine u ?_
 refine zR (gH (cs':=[xc (.bool a.1),ntx a.2]) 1 rfl fun h=>cX h) ?_;refine zH 1 rfl rfl ?_;repeat refine u ?_
 refine zR (gH (cs':=[itx (!a.1,a.2)]) 1 rfl fun h=>xC4 h) ?_;refine zA1 (zK 1 rfl) (zB rfl rfl (xF4 (by(simp;omega))) ?_);refine zH 0 rfl rfl ?_;repeat refine u ?_
 refine⟨[_],zN 0 rfl rs0,yJ ?_⟩;exact aI (by subst h2;unfold zx zv;cases a.1<;>simp) h1
theorem kiof {N:Nat}(hk:k<9223372036854775808)(hN:2≤N):CTy prog 188 [zI k] (ag (ztc N ((k:Nat):Int))):=by
 have h2:(limbs k).length≤2:=zT (by omega);refine fw [.cell 2 27] func188 fun X=>?_;iterate 2 refine u ?_
 refine u fun b2=>?_;repeat refine u ?_
 refine xW rfl rfl ?_;repeat refine u ?_
 refine zB rfl rfl (kof (by omega)) ?_;repeat refine u ?_
 refine zH 0 rfl rfl ?_;repeat refine u ?_
 refine⟨[_],zN 0 rfl rs0,yJ ?_⟩;exact xD4 (z:=((k:Nat):Int)) (decide_eq_false (by omega)).symm (by omega) (by omega)
theorem zP1 [h:VN Ψ n k]:CTy prog 156 [Ψ] (ag (ztq n ((k:Nat):Int))):=by
 refine yE (σs:=[sv (ntq n k)]) ?_ (fs1 (fun M w v g=>⟨v,rfl,h.h g⟩) fs0);refine fw [.cell 2 27] func156 fun X=>?_;iterate 2 refine u ?_
 refine u fun b2=>?_;repeat refine u ?_
 refine zH 0 rfl rfl ?_;repeat refine u ?_
 refine⟨[_],zN 0 rfl rs0,yJ ?_⟩;exact(vz_q:PSub (ag (st [xc (.bool false),ntq n k])) (ag (ztq n (if false=true then -((k:Nat):Int) else((k:Nat):Int)))))
theorem oiadd {b N:Nat}{s:Bool}{xs:List Nat}{a:Bool×List Nat}{z:Int}(hx:∀ x∈xs,x<4294967296)(ha:∀ x∈a.2,x<4294967296)(hn:xs.length≤400000)(hm:a.2.length≤400000)(hz:zv s xs+zx a=z)(hN:(limbs z.natAbs).length≤N) :
  CTo prog 336 [zX b 0,pa (st [itx a])] [.blk b 240 [xc (.bool s),ntx xs]] (fun r So=>r=tu []∧So=[.blk b 240 [ztc N z]]):=by
 have hs:(limbs (val xs+val a.2)).length≤400001:=yH1 (yL _ hx) (yL _ ha) (by omega);have hd1:(limbs (val xs-val a.2)).length≤400001:=zab (zW (by omega)) hs;have hd2:(limbs (val a.2-val xs)).length≤400001:=zab (zW (by omega)) hs;refine fwo [] func336 fun X=>?_;iterate 2 refine u ?_
 refine zL 11 mixed rfl rfl ?_;repeat refine u ?_
 refine d1 (zK 0 rfl) ?_;repeat refine u ?_
 refine ti (fun c0=>?_) fun c0=>?_;refine u ?_;refine zL 16 mixed rfl rfl ?_;repeat refine u ?_
 refine zC rfl rfl (zP5 ⟨by omega,hx⟩ ⟨by omega,ha⟩) ?_;repeat refine u ?_
 rotate_left;iterate 2 refine u ?_
 refine zL 16 mixed rfl rfl ?_;repeat refine u ?_
 refine zC rfl rfl (yW1 (by omega) (by omega)) ?_;repeat refine u ?_
 refine ti (fun c1=>?_) fun c1=>?_;refine u ?_;refine zL 15 mixed rfl rfl ?_;repeat refine u ?_
 refine zC rfl rfl (yW1 (by omega) (by omega)) ?_;repeat refine u ?_
 refine zA1 (omv rfl) ?_;refine zA1 (omv rfl) ?_;repeat refine u ?_
 refine zH 0 rfl rfl ?_;repeat refine u ?_
 refine zA1 (omv rfl) ?_;repeat refine u ?_
 refine zH 0 rfl rfl ?_;repeat refine u ?_
 refine zA1 (omv rfl) ?_;rotate_left;repeat refine u ?_
 rotate_left;all_goals try omega
 ·refine tco [0] rfl rfl rfl (onrm (z:=z) (by omega) hN ?_) ?_
  ·subst hz;have h0:s=a.1:=eq_of_beq c0.h;unfold zx zv;simp only[zJ];rw[h0];split<;>omega
  rintro _ _ ⟨rfl,rfl⟩;repeat refine u ?_
  exact⟨[],tu [],_,rs0,zaa _,⟨rfl,rfl⟩,wR⟩
 ·refine tco [0] rfl rfl rfl (onrm (z:=z) (by omega) hN ?_) ?_
  ·subst hz;have h0:s≠a.1:=fun e=>by have:=c0.h;rw[e] at this;simp at this
   have h1:=dt c1;unfold zx zv;simp only[zJ];cases ea:a.1<;>cases eb:s<;>simp[ea,eb] at h0 h1 ⊢ <;> omega
  rintro _ _ ⟨rfl,rfl⟩;repeat refine u ?_
  exact⟨[],tu [],_,rs0,zaa _,⟨rfl,rfl⟩,wR⟩
 ·refine tco [0] rfl rfl rfl (onrm (z:=z) (by omega) hN ?_) ?_
  ·subst hz;have h0:s≠a.1:=fun e=>by have:=c0.h;rw[e] at this;simp at this
   have h1:=df c1;unfold zx zv;simp only[zJ];cases ea:a.1<;>cases eb:s<;>simp[ea,eb] at h0 h1 ⊢ <;> omega
  rintro _ _ ⟨rfl,rfl⟩;repeat refine u ?_
  exact⟨[],tu [],_,rs0,zaa _,⟨rfl,rfl⟩,wR⟩
theorem oimul {b N:Nat}{s:Bool}{xs:List Nat}{a:Bool×List Nat}{z:Int}(hx:∀ x∈xs,x<4294967296)(ha:∀ x∈a.2,x<4294967296)(hn:xs.length≤400000)(hm:a.2.length≤400000)(hz:zv s xs*zx a=z)(hN:(limbs z.natAbs).length≤N) :
  CTo prog 225 [zX b 0,pa (st [itx a])] [.blk b 240 [xc (.bool s),ntx xs]] (fun r So=>r=tu []∧So=[.blk b 240 [ztc N z]]):=by
 refine fwo [] func225 fun X=>?_;refine u ?_;apply cC 28 0 27 [0,1,0,0,0,0,0,0,0,0,0,0,0,0,0,0,0,0,0,0,0,0,0,0,0,0,0,2] [xc (.bool (!(s == a.1))),ntx xs] rfl mixed rfl rfl;repeat refine u ?_
 refine tdx0 ?_;refine d1 (zK 0 rfl) ?_;repeat refine u ?_
 refine tdx0 (zC rfl rfl (yV9 (by omega) (by omega)) ?_);repeat refine u ?_
 refine tdx2 rfl (ckvt rfl rfl rfl rfl rfl rfl) ?_;repeat refine u ?_
 refine zH 0 rfl rfl ?_;repeat refine u ?_
 all_goals try omega
 have hl:=aL (yL _ hx) (yL _ ha);refine tco [0] rfl rfl rfl (onrm (z:=z) ?_ hN ?_) ?_
 ·omega
 ·subst hz;unfold zx zv;simp only[zJ];cases s<;>cases h:a.1<;>simp[zcA,Int.neg_mul,Int.mul_neg]
 rintro _ _ ⟨rfl,rfl⟩;repeat refine u ?_
 exact⟨[],tu [],_,rs0,zaa _,⟨rfl,rfl⟩,wR⟩
theorem xG7 {l:List (Bool×List Nat)}(h:∀ a∈l,(∀ x∈a.2,x<4294967296)∧a.2.length≤n)(hn:n≤400000)(hL:l.length≤1000000):CIt prog 290 [pa (sl 2 (l.map itx))] l (fun a=>[pa (st [ztc n (zx a)])]):=by
 refine cit func290 rfl rfl rfl rfl rfl fun X y YS YX hY hS=>?_;repeat refine u ?_
 refine lpy (σ:=Nat) [0,5,6] (fun i=>[(7,True,zI i)]) (fun i=>[]) (fun i Y=>YS (l.take i) Y∧i≤l.length) (fun i=>l.length-i) (0) (⟨hS,by omega⟩) fun i Y hG=>?_;obtain⟨hS,hi⟩:=hG;have hg:i<l.length→(l.getD i Df.d).2.length≤n:=fun h2=>(h _ (rO h2)).2;repeat refine u ?_
 refine ti (fun c0=>?_) fun c0=>?_;repeat refine u ?_
 refine zA1 (oix _ rfl rfl rfl (fun _=>rfl) (fun _=>(by(have e0:=dt c0;omega)))) ?_;refine u ?_;refine u fun b4=>?_;refine u ?_;refine zR (zU (s:=4) 0 rfl rfl) ?_;repeat refine u ?_
 refine zB rfl rfl (gQ (kipk (N:=n) (by(have e0:=dt c0;omega)) (by(have e0:=dt c0;omega))) zU5) ?_;rotate_left;repeat refine u ?_
 rotate_left
 ·have h2:i<l.length:=by have:=dt c0;omega
  have h3:=zP (Df.d:Bool×List Nat) h2;refine cW hY hS h3.2 rfl rfl (fs1 (PSub.refl _) fs0) (fun Y hS=>?_) (fun Y hX=>?_)
  ·repeat refine u ?_
   refine xW rfl rfl ?_;repeat refine u ?_
   refine⟨i+1,tes ?_ ?_ (zaa _),?_,(by omega)⟩;refine zA rfl tn;refine zA rfl (zA rfl (zA rfl tn));exact⟨by rw[h3.1];exact hS,by omega⟩
  ·repeat refine u ?_
   refine qC rfl rfl ?_;repeat refine u ?_
   exact .inr hX
 ·have:i=l.length:=by have:=df c0;omega
  subst this;rw[zaS] at hS;exact .inl hS
theorem xF6 {l:List (Bool×List Nat)}:CTy prog 224 [sv (sl 2 (l.map itx))] (fn 290 [pa (sl 2 (l.map itx))]):=by
 refine fw [.tmp 2] func224 fun X=>?_;repeat refine u ?_
 exact e
theorem yP5 {M:Nat→Prop}{w:World}{us:List Value}(h:(st [ztc n z]).p M w us):(st [itx (decide (z<0),limbs z.natAbs)]).p M w us:=xC4 (yE2 h)
theorem zK6:zx (decide (z<0),limbs z.natAbs)=z:=by
 unfold zx zv;rw[zJ];by_cases h:z<0<;>simp[h]<;>omega
theorem sum_snocI (t:List (Bool×List Nat))(x:Bool×List Nat):((t++[x]).map zx).sum=(t.map zx).sum+zx x:=by simp
theorem addz_len {x:Int}{m:Nat}(h1:(limbs z.natAbs).length≤m)(h2:(limbs x.natAbs).length≤m):(limbs (z+x).natAbs).length≤m+1:=by
 have a:=yA h1;have b:=yA h2;refine zT ?_;rw[zaA];omega
theorem mulz_len {x:Int}{m j:Nat}(h1:(limbs z.natAbs).length≤m)(h2:(limbs x.natAbs).length≤j):(limbs (z*x).natAbs).length≤m+j:=by
 rw[zbR];exact zT (jU (yA h1) (yA h2))
theorem oiaddz {b N:Nat}{x:Int}(h1:(limbs z.natAbs).length≤400000)(h2:(limbs x.natAbs).length≤400000)(hN:(limbs (z+x).natAbs).length≤N) :
  CTo prog 336 [zX b 0,pa (st [ztc n x])] [.blk b 240 [xc (.bool (decide (z<0))),ntx (limbs z.natAbs)]] (fun r So=>r=tu []∧So=[.blk b 240 [ztc N (z+x)]]) :=
 ctoW (oiadd (z:=z+x) (yF _) (yF _) h1 h2 (by rw[zK6];exact congrArg (· + x) (zK6 (z:=z))) hN) (fs1 (PSub.refl _) (fs1 (yT4 fun _ _ _=>yP5) fs0))
theorem oimulz {b N:Nat}{x:Int}(h1:(limbs z.natAbs).length≤400000)(h2:(limbs x.natAbs).length≤400000)(hN:(limbs (z*x).natAbs).length≤N) :
  CTo prog 225 [zX b 0,pa (st [ztc n x])] [.blk b 240 [xc (.bool (decide (z<0))),ntx (limbs z.natAbs)]] (fun r So=>r=tu []∧So=[.blk b 240 [ztc N (z*x)]]) :=
 ctoW (oimul (z:=z*x) (yF _) (yF _) h1 h2 (by rw[zK6];exact congrArg (· * x) (zK6 (z:=z))) hN) (fs1 (PSub.refl _) (fs1 (yT4 fun _ _ _=>yP5) fs0))
theorem wiadd {l:List (Bool×List Nat)}(h:∀ a∈l,(∀ x∈a.2,x<4294967296)∧a.2.length≤n)(hn:n≤399000)(hL:l.length≤900):CTy prog 287 [sv (sl 2 (l.map itx))] (ag (ztc (n+l.length) (l.map zx).sum)):=by
 have hz:∀ x∈l,(limbs (zx x).natAbs).length≤n:=fun x hx=>by rw[nY];exact zab (xL (h x hx).1) (h x hx).2
 refine fw [.cell 2 27] func287 fun X=>?_;iterate 2 refine u ?_
 refine u fun b2=>?_;repeat refine u ?_
 refine tcoB [] rfl rfl rfl (xE0 (n:=0) (z:=0) (N:=n) (by omega) (by omega)) fun b6=>(u fun b3=>?_);refine zH 0 rfl rfl (zR (zU (s:=3) 0 rfl rfl) ?_);repeat refine u ?_
 refine zB rfl rfl xF6 ?_;repeat refine u ?_
 refine aK (σ:=List (Bool×List Nat)) (fun t=>[.blk b6 240 [ztc (n+t.length) (t.map zx).sum],.blk b2 27 (zc (.agg #[.bool false,.slice none 0 0]))]) (fun pre t=>t=pre∧(limbs (t.map zx).sum.natAbs).length≤n+t.length) [] rfl (xG7 h (by omega) (by omega)) (fun _=>rfl) rfl lG rfl ⟨rfl,by simp[yD]⟩ (fun pre x post t hx hJ Y y hlp=>?_) (fun t hJ Y _=>?_)
 ·obtain⟨rfl,hr⟩:=hJ;have hx2:=hz x (by rw[hx];simp);have htl:t.length<l.length:=by rw[hx];simp
  have hr2:=addz_len hr (zab hx2 (Nat.le_add_right n t.length));repeat refine u ?_
  refine zA1 (oas rfl) ?_;repeat refine u ?_
  refine⟨rfl,fun Y hl=>?_⟩;repeat refine u ?_
  refine zA1 (old rfl rfl) ?_;repeat refine u ?_
  refine zR (gH (cs':=[xc (.bool (decide ((t.map zx).sum<0))),ntx (limbs (t.map zx).sum.natAbs)]) 0 rfl yE2) (tcoR [0] rfl rfl rfl (oiaddz (by omega) (by omega) hr2) ?_);repeat refine u ?_
  refine⟨t++[x],?_,(by(simp;omega))⟩
  ·rw[sum_snocI,zak,zcI,← zbA];exact zaa _
 ·obtain⟨rfl,hr⟩:=hJ;repeat refine u ?_
  refine zA1 (zK 0 rfl) ?_;repeat refine u ?_
  exact e
theorem sY (t:List (Bool×List Nat))(x:Bool×List Nat):xY ((t++[x]).map zx)=xY (t.map zx)*zx x:=by simp[xY]
theorem wimul {l:List (Bool×List Nat)}(h:∀ a∈l,(∀ x∈a.2,x<4294967296)∧a.2.length≤n)(hn:n≤100000)(hL:l.length≤2):CTy prog 155 [sv (sl 2 (l.map itx))] (ag (ztc (2*n+2) (xY (l.map zx)))):=by
 have hz:∀ x∈l,(limbs (zx x).natAbs).length≤n:=fun x hx=>by rw[nY];exact zab (xL (h x hx).1) (h x hx).2
 refine fw [.cell 2 27] func155 fun X=>?_;iterate 2 refine u ?_
 refine u fun b2=>?_;repeat refine u ?_
 refine zB rfl rfl (kiof (k:=1) (N:=2) (by omega) (by omega)) ?_;refine tcoB [] rfl rfl rfl (xE0 (n:=2) (z:=1) (N:=2) (by omega) (by omega)) fun b6=>(u fun b3=>?_);refine zH 0 rfl rfl (zR (zU (s:=3) 0 rfl rfl) ?_);repeat refine u ?_
 refine zB rfl rfl xF6 ?_;repeat refine u ?_
 refine aK (σ:=List (Bool×List Nat)) (fun t=>[.blk b6 240 [ztc (n*t.length+2) (xY (t.map zx))],.blk b2 27 (zc (.agg #[.bool false,.slice none 0 0]))]) (fun pre t=>t=pre∧(limbs (xY (t.map zx)).natAbs).length≤n*t.length+2) [] rfl (xG7 h (by omega) (by omega)) (fun _=>rfl) rfl lG rfl ⟨rfl,by show (limbs 1).length≤_;rw[xS];simp⟩ (fun pre x post t hx hJ Y y hlp=>?_) (fun t hJ Y _=>?_)
 ·obtain⟨rfl,hr⟩:=hJ;have hx2:=hz x (by rw[hx];simp);have htl:t.length<l.length:=by rw[hx];simp
  have hn2:n*t.length≤n*1:=zbm n (by omega);have hr2:(limbs (xY (t.map zx)*zx x).natAbs).length≤n*(t++[x]).length+2:=zab (mulz_len hr hx2) (by rw[zak,zcI,Nat.mul_succ];omega);repeat refine u ?_
  refine zA1 (oas rfl) ?_;repeat refine u ?_
  refine⟨rfl,fun Y hl=>?_⟩;repeat refine u ?_
  refine zA1 (old rfl rfl) ?_;repeat refine u ?_
  refine zR (gH (cs':=[xc (.bool (decide (xY (t.map zx)<0))),ntx (limbs (xY (t.map zx)).natAbs)]) 0 rfl yE2) (tcoR [0] rfl rfl rfl (oimulz (by omega) (by omega) hr2) ?_);repeat refine u ?_
  refine⟨t++[x],?_,?_⟩;rotate_left;rotate_left
  ·rw[sY];exact zaa _
  ·exact⟨rfl,by rw[sY];exact hr2⟩
 ·obtain⟨rfl,hr⟩:=hJ;have:n*t.length≤n*2:=zbm n hL;repeat refine u ?_
  refine zA1 (zK 0 rfl) ?_;repeat refine u ?_
  refine e ?_;exact aI rfl (by omega)
theorem zl_i {l:List Int}[h:VZL Ψ n l]{P:Program}{f:FuncId}{ρ:PV}(hb:Bod P f)(k:∀ ls:List (Bool×List Nat),ls.map zx=l→(∀ a∈ls,(∀ x∈a.2,x<4294967296)∧a.2.length≤n)→CTy P f [sv (sl 2 (ls.map itx))] ρ):CTy P f [Ψ] ρ:=⟨hb,fun M w vs hM hT hv=>by
 obtain⟨v,rfl,h1⟩:=fa1 hv;obtain⟨ls,k1,k2,k3⟩:=yP4 (h.h h1);exact(k ls k2 k3).run M w _ hM hT ⟨_,_,rfl,k1,rfl⟩⟩
theorem wZ {l:List Int}[h:VZL Ψ n l](hn:n≤100000)(hl:l.length≤2):CTy prog 155 [Ψ] (ag (ztc (2*n+2) (xY l))):=zl_i (h:=h) (bo func155) fun ls k1 k2=>by
 subst k1;exact wimul k2 hn (by simpa using hl)
theorem xF7 {l:List Int}[h:VZL Ψ n l](hn:n≤390000)(hl:l.length≤2):CTy prog 287 [Ψ] (ag (ztc (n+2) l.sum)):=zl_i (h:=h) (bo func287) fun ls k1 k2=>by
 subst k1;rw[zai] at hl;exact gQ (wiadd k2 (by omega) (by omega)) (aI rfl (by omega))
theorem kisub [h:VZ Ψ n z][h':VZ Φ m y](hn:n≤380000)(hm:m≤380000):CTy prog 222 [Ψ,Φ] (ag (ztc (max n m+2) (z-y))):=by
 refine yE (σs:=[ag (ztq n z),ag (ztq m y)]) ?_ (fs1 vz_q (fs1 vz_q fs0));refine fw [.cell 4 27] func222 fun X=>?_;iterate 4 refine u ?_
 refine u fun b4=>?_;iterate 2 refine u ?_
 refine zL 5 mixed rfl rfl ?_;repeat refine u ?_
 refine zC rfl rfl (xF5 (by omega)) ?_;repeat refine u ?_
 refine zC rfl rfl (xF7 (by omega) (by(simp;done))) ?_;repeat refine u ?_
 refine e ?_;exact aI (by simp;omega) (zac _)
theorem ctn2 {P:Program}{f:FuncId}{ρ:PV}[h:VN Ψ n k][h':VN Φ m j](hb:Bod P f)(g:∀ xs ys:List Nat,(∀ x∈xs,x<4294967296)→xs.length≤n→val xs=k→(∀ x∈ys,x<4294967296)→ys.length≤m→val ys=j→CTy P f [sv (ntx xs),sv (ntx ys)] ρ):CTy P f [Ψ,Φ] ρ:=⟨hb,fun M w vs hM hT hv=>by
 obtain⟨v,u,rfl,h1,h2⟩:=fa2 hv;obtain⟨xs,g1,g2,g3⟩:=(h.h h1).ex;obtain⟨ys,g4,g5,g6⟩:=(h'.h h2).ex;exact(g xs ys g1.lt g2 g3 g4.lt g5 g6).run M w _ hM hT ⟨_,_,rfl,⟨_,rfl,g1⟩,_,_,rfl,⟨_,rfl,g4⟩,rfl⟩⟩
theorem xD5 {N k:Nat}(h:(limbs k).length≤N):PSub (sv (ntx (limbs k))) (sv (ntc N k)):=fun M w v ⟨a,e,g⟩=>⟨a,e,zV5 g h,g⟩
theorem yW0 [h:VN Ψ n k][h':VN Φ m j](hn:n≤1000000)(hm:m≤1000000):CTy prog 246 [Ψ,Φ] (sv (ntc (n+m) (k*j))):=ctn2 (bo func246) fun xs ys h1 h2 h3 h4 h5 h6=>by
 subst h3 h6;exact gQ (yV9 (by omega) (by omega)) (xD5 (zab (aL (yL _ h1) (yL _ h4)) (by omega)))
end
abbrev rxx (a:(Bool×List Nat)×List Nat):CT:=st [itx a.1,ntx a.2]
theorem qr_x {Ψ:PV}{n:Nat}{p:Rat}[h:QR Ψ n p]{M:Nat→Prop}{w:World}{v:Value}(k:Ψ.p M w v):∃ a:(Bool×List Nat)×List Nat,mkRat (zx a.1) (val a.2)=p∧(∀ x∈a.1.2,x<4294967296)∧(∀ x∈a.2,x<4294967296)∧a.1.2.length≤n∧a.2.length≤n∧(ag (rxx a)).p M w v:=by
 obtain⟨s,x,d,rfl,xs,ds,h1,h2,h3,h4,h5⟩:=h.h k;exact⟨((s,xs),ds),h5,h1.lt,h2.lt,h3,h4,_,rfl,[.bool s,x],[d],rfl,⟨[.bool s],[x],rfl,⟨rfl,rfl⟩,[x],[],rfl,⟨x,rfl,h1⟩,rfl⟩,[d],[],rfl,⟨d,rfl,h2⟩,rfl⟩
theorem xC9 {M:Nat→Prop}{w:World}{N:Nat}{q:Rat}{x y:Value}(h1:IsNat M w x (limbs q.num.natAbs))(h2:IsNat M w y (limbs q.den))(hr:rlen q N):(rtc N q).p M w [.bool (decide (q.num<0)),x,y]:=⟨_,_,_,rfl,rfl,h1,h2,hr.1,hr.2⟩
section
variable {Ψ Φ : PV} {n m k N : Nat} {p q : Rat} {z : Int}
instance {n:Nat}{q:Rat}:FA (rtc n q) 1 (ntc n q.num.natAbs):=⟨fun⟨s,a,d,e,h⟩=>⟨a,by rw[e];rfl,zV5 h.num h.len.1,h.num⟩⟩
theorem yB9 {M:Nat→Prop}{w:World}{us:List Value}(h:stp [rtc n p] M w us):stp [ztc n p.num,ntc n p.den] M w us:=by
 obtain⟨x,y,rfl,⟨s,a,d,rfl,g⟩,h2⟩:=h;obtain rfl:y=[]:=h2;exact⟨[.bool s,a],[d],rfl,⟨s,a,rfl,g.sgn,g.num,g.len.1⟩,[d],[],rfl,⟨d,rfl,zV5 g.den g.len.2,g.den⟩,rfl⟩
theorem rt_join {M:Nat→Prop}{w:World}{us:List Value}(e1:z=p.num)(e2:k=p.den)(hr:rlen p N)(h:stp [ztc n z,ntc m k] M w us):stp [rtc N p] M w us:=by
 subst e1 e2;obtain⟨x,y,rfl,⟨s,a,rfl,g⟩,x2,y2,rfl,⟨d,rfl,g2,g3⟩,h3⟩:=h;obtain rfl:y2=[]:=h3;exact⟨[.bool s,a,d],[],rfl,by rw[g.sgn];exact xC9 g.num g3 hr,rfl⟩
theorem rt_joinx {a:Bool}{x d:Nat}{M:Nat→Prop}{w:World}{us:List Value}(e1:a=decide (p.num<0))(e2:x=p.num.natAbs)(e3:d=p.den)(hr:rlen p N)(h:stp [xc (.bool a),ntx (limbs x),ntx (limbs d)] M w us):stp [rtc N p] M w us:=by
 subst e1 e2 e3;obtain⟨x1,y1,rfl,⟨rfl,_⟩,x2,y2,rfl,⟨v,rfl,g1⟩,x3,y3,rfl,⟨u,rfl,g2⟩,h3⟩:=h;obtain rfl:y3=[]:=h3;exact⟨_,[],rfl,xC9 g1 g2 hr,rfl⟩
theorem yT2 {N n k:Nat}{y:Int}{q:Rat}(h1:y=q.num)(h2:k=q.den)(hn:n≤N)(hk:(limbs k).length≤N):PSub (ag (st [ztc n y,ntx (limbs k)])) (ag (rtc N q)):=fun M w v ⟨us,e,x,u,e1,⟨s,a,e2,g1⟩,x2,o,e3,⟨d,e4,g2⟩,e5⟩=>by
 subst h1 h2 e2 e4;obtain rfl:o=[]:=e5;exact⟨us,e,s,a,d,by rw[e1,e3];rfl,g1.sgn,g1.num,g2,zab g1.len hn,hk⟩
theorem krof {K:Nat}(hk:k<9223372036854775808)(hK:2≤K):CTy prog 114 [zI k] (ag (rtc K ((k:Nat):Rat))):=by
 refine fw [.cell 2 29] func114 fun X=>?_;iterate 2 refine u ?_
 refine u fun b2=>?_;repeat refine u ?_
 refine zB rfl rfl (kiof (N:=2) (by omega) (by omega)) ?_;repeat refine u ?_
 refine zH 0 rfl rfl ?_;repeat refine u ?_
 refine⟨[_],zN 0 rfl rs0,yJ ?_⟩;rw[← xS];exact yT2 (q:=((k:Nat):Rat)) rfl rfl hK (by rw[xS];simp<;>omega)
theorem rt_re {K:Nat}{M:Nat→Prop}{w:World}{us:List Value}(e:p=q)(hr:rlen q N)(h:stp [rtc K p] M w us):stp [rtc N q] M w us:=by
 subst e;obtain⟨x,y,rfl,⟨s,a,d,rfl,g⟩,h2⟩:=h;exact⟨_,y,rfl,⟨s,a,d,rfl,g.relen hr⟩,h2⟩
theorem orn {b:Nat}{a:Bool×List Nat}{ds:List Nat}(ha:∀ x∈a.2,x<4294967296)(hd:∀ x∈ds,x<4294967296)(h1:a.2.length≤1000000)(h2:ds.length≤1000000)(hr:rlen (mkRat (zx a) (val ds)) N) :
  CTo prog 220 [zX b 0] [.blk b 189 [itx a,ntx ds]] (fun r So=>r=exP (.bool (decide (val ds≠0)))∧So=[.blk b 189 [rtc N (mkRat (zx a) (val ds))]]):=by
 have e0:=@zS (val ds);have hzl:(limbs (zx a).natAbs).length≤a.2.length:=by rw[nY];exact xL ha
 refine fwo [.tmp 2] func220 fun X=>?_;repeat refine u ?_
 refine zB rfl rfl (aJ (by omega)) ?_;repeat refine u ?_
 refine ti (fun c0=>?_) fun c0=>?_;repeat refine u ?_
 refine zB rfl rfl (krof (k:=0) (K:=2) (by omega) (by omega)) ?_;repeat refine u ?_
 refine zH 0 rfl rfl ?_;iterate 3 refine u ?_
 refine zR (gH (cs':=[rtc N (mkRat (zx a) (val ds))]) 0 rfl (rt_re ?_ hr)) (zA1 (oas rfl) ?_);rotate_left;repeat refine u ?_
 rotate_left;repeat refine u ?_
 refine zA1 (zK 0 rfl) ?_;refine zB rfl rfl (xF4 (by omega)) ?_;repeat refine u ?_
 refine zH 0 rfl rfl ?_;repeat refine u ?_
 rotate_left
 ·have h0:val ds=0:=by have:=dt c0;omega
  rw[h0,Rat.mkRat_zero];rfl
 ·have h0:val ds=0:=by have:=dt c0;omega
  exact⟨[_],_,_,rst rfl rs0,zaa _,⟨by rw[h0];rfl,rfl⟩,yJ (PSub.refl _)⟩
 refine t_ts (gH (cs':=[xc (.bool (decide (zx a<0))),ntx (limbs (zx a).natAbs),ntx ds]) 0 rfl fun h=>?_) ?_
 ·obtain⟨x,y,rfl,g,h3⟩:=h;obtain⟨x1,y1,e1,g1,x2,y2,e2,g2,e3⟩:=yE2 ⟨x,[],(zap x).symm,g,rfl⟩;obtain rfl:y2=[]:=e3;exact⟨x1,x2++y,by rw[e1,e2];simp,g1,x2,y,rfl,g2,h3⟩
 apply cC 22 0 21 [0,1,0,0,0,0,0,0,0,0,0,0,0,0,0,0,1,0,0,0,0,2] [xc (.bool (decide (zx a<0))),ntx (limbs (val (limbs (zx a).natAbs)/Nat.gcd (val (limbs (zx a).natAbs)) (val ds))),ntx ds] rfl mixed rfl rfl;repeat refine u ?_
 refine tdx0 ?_;refine d1 (zK 0 rfl) ?_;repeat refine u ?_
 refine tdx0 ?_;refine d1 (zK 0 rfl) ?_;repeat refine u ?_
 refine tdx0 (zC rfl rfl (kreduce (by omega) (by omega)) ?_);repeat refine u ?_
 refine tdx2 rfl (ckvt rfl rfl rfl rfl rfl rfl) ?_;repeat refine u ?_
 refine zH 0 rfl rfl ?_;iterate 3 refine u ?_
 refine zR (gH (cs':=[rtc N (mkRat (zx a) (val ds))]) 0 rfl (rt_joinx ?_ ?_ ?_ hr)) (zA1 (oas rfl) ?_);rotate_left;rotate_left;rotate_left;repeat refine u ?_
 rotate_left;all_goals have h0:val ds≠0:=fun e=>df c0 (by omega)
 ·exact(bJ h0).1.symm
 ·rw[zJ];exact(bJ h0).2.1.symm
 ·rw[zJ];exact(bJ h0).2.2.symm
 ·exact⟨[_],_,_,rst rfl rs0,zaa _,⟨by rw[decide_eq_true h0],rfl⟩,yJ (PSub.refl _)⟩
theorem cto_ex {ι:Type}{P:Program}{f:FuncId}{τs:List PV}{b:Nat}{ty:TypeId}{cs:List CT}{Q:PV→List Ow→Prop}(C:ι→Prop)(cs':ι→List CT)(hb:Bod P f)(hx:∀ M w us,stp cs M w us→∃ i,C i∧stp (cs' i) M w us)(k:∀ i,C i→CTo P f τs [.blk b ty (cs' i)] Q):CTo P f τs [.blk b ty cs] Q:=⟨hb,fun M w vs hg hap hnb hok hv=>by
 obtain⟨us,h1,h2⟩:=hg.own _ (zan.2 rfl);obtain⟨i,hi,h3⟩:=hx _ _ _ h2;have e:Mk [.blk b ty (cs' i)] M=Mk [.blk b ty cs] M:=by funext k;simp[Mk,Ow.bk]
 have:=(k i hi).run M w vs ⟨by rw[e];exact hg.ok,by rw[e];exact hg.tab,fun o ho=>by rw[zan.1 ho,e];exact⟨us,h1,h3⟩⟩ ⟨fun _ _ _ h=>by simp at h,trivial⟩ (fun b' ⟨o,ho,e1⟩=>hnb b' ⟨_,zan.2 rfl,by rw[zan.1 ho] at e1;exact e1⟩) hok (by rw[e];exact hv);have e2:bks [.blk b ty (cs' i)]=bks [.blk b ty cs]:=by funext k;simp[bks,Ow.bk]
 rw[e2] at this;exact this⟩
theorem yC3 {b:Nat}{c d:CT}[hc:CZ c n z][hd:CN d m k](hn:n≤1000000)(hm:m≤1000000)(hr:rlen (mkRat z k) N) :
  CTo prog 220 [zX b 0] [.blk b 189 [c,d]] (fun r So=>r=exP (.bool (decide (k≠0)))∧So=[.blk b 189 [rtc N (mkRat z k)]]) :=
 cto_ex (ι:=(Bool×List Nat)×List Nat) (fun i=>(∀ x∈i.1.2,x<4294967296)∧(∀ x∈i.2,x<4294967296)∧i.1.2.length≤n∧i.2.length≤m∧zx i.1=z∧val i.2=k) (fun i=>[itx i.1,ntx i.2]) (bo func220) (fun M w us ⟨x,y,e,h1,x2,y2,e2,h2,h3⟩=>by
  obtain rfl:y2=[]:=h3;obtain⟨s,a,rfl,g⟩:=hc.h h1;obtain⟨v,rfl,g'⟩:=hd.h h2;obtain⟨xs,g1,g2,g3⟩:=g.ex;obtain⟨ds,g4,g5,g6⟩:=g'.ex;exact⟨((s,xs),ds),⟨g1.lt,g4.lt,g2,g5,g3,g6⟩,[.bool s,a],y,e,⟨[.bool s],[a],rfl,⟨rfl,rfl⟩,[a],[],rfl,⟨a,rfl,g1⟩,rfl⟩,[v],[],e2,⟨v,rfl,g4⟩,rfl⟩)
  fun i ⟨h1,h2,h3,h4,h5,h6⟩=>by
   subst h5 h6;exact orn h1 h2 (by omega) (by omega) hr
theorem oofx {a:(Bool×List Nat)×List Nat}(ha:∀ x∈a.1.2,x<4294967296)(hd:∀ x∈a.2,x<4294967296)(h1:a.1.2.length≤1000000)(h2:a.2.length≤1000000)(hr:rlen (mkRat (zx a.1) (val a.2)) N) :
  CTo prog 153 [ag (rxx a)] [] (fun r So=>∃ b,r=zX b 0∧So=[.blk b 189 [rtc N (mkRat (zx a.1) (val a.2))]]):=by
 refine fwo [.tmp 2] func153 fun X=>?_;iterate 9 refine u ?_
 refine tbx rfl fun b6=>?_;repeat refine u ?_
 refine zR (gH (cs':=[itx a.1,ntx a.2]) 0 rfl cX) ?_;refine tcoR [0] rfl rfl rfl (orn ha hd h1 h2 hr) ?_;repeat refine u ?_
 exact er ⟨_,rfl,rfl⟩
theorem oof {n N:Nat}{p:Rat}(hn:n≤1000000)(hr:rlen p N) :
  CTo prog 153 [ag (rtq n p)] [] (fun r So=>∃ b,r=zX b 0∧So=[.blk b 189 [rtc N p]]):=⟨(bo func153),fun M w vs h1 h2 h3 h4 hv=>by
 obtain⟨v,rfl,g⟩:=fa1 hv;obtain⟨a,e1,e2,e3,e4,e5,e6⟩:=qr_x g;subst e1;exact(oofx e2 e3 (by omega) (by omega) hr).run M w _ h1 h2 h3 h4 ⟨_,_,rfl,e6,rfl⟩⟩
theorem kofK [h:QR Ψ n p](hn:n≤1000000)(hr:rlen p N):CTy prog 153 [Ψ] (pk 189 (rtc N p)):=yE (yZ9 (oof hn hr)) (fs1 qr_q fs0)
theorem kofN [h:QR Ψ n p](hn:n≤1000000)(hr:rlen p N):CTy prog 153 [Ψ] (pa (st [rtc N p])):=gQ (kofK hn hr) zU5
theorem krnewN [h:VZ Ψ n z][h':VN Φ m k](hn:n≤1000000)(hm:m≤1000000)(e:mkRat z k=q)(hr:rlen q N):CTy prog 245 [Ψ,Φ] (tu [ag (rtc N q),exP (.int .i64 (if k=0 then 30 else 0))]):=by
 refine yE (σs:=[ag (ztq n z),sv (ntq m k)]) ?_ (fs1 vz_q (fs1 (fun M w v g=>⟨v,rfl,h'.h g⟩) fs0));subst e;refine fw [.cell 4 29,.tmp 5] func245 fun X=>?_;iterate 3 refine u ?_
 refine u fun b4=>?_;iterate 8 refine u ?_
 refine tbx rfl fun b11=>?_;repeat refine u ?_
 refine zR (gH (cs':=[ztq n z,ntq m k]) 0 rfl cX) ?_;refine tcoR [0] rfl rfl rfl (yC3 (by omega) (by omega) hr) ?_;repeat refine u ?_
 refine ti (fun c0=>?_) fun c0=>?_;repeat refine u ?_
 refine zA1 (zK 0 rfl) ?_;refine zH 1 rfl rfl ?_;repeat refine u ?_
 refine⟨[_,_],zN 1 rfl (rst rfl rs0),aF (PSub.refl _) ?_⟩;refine ps_i ?_;rotate_left;repeat refine u ?_
 refine zA1 (zK 0 rfl) ?_;refine zH 1 rfl rfl ?_;repeat refine u ?_
 refine⟨[_,_],zN 1 rfl (rst rfl rs0),aF (PSub.refl _) ?_⟩;refine ps_i ?_;rotate_left
 ·have:=c0.h;rw[if_pos (by simpa using this)]
 ·have:=c0.h;rw[if_neg (by simpa using this)]
end
instance:TAr prog 320 3 1:=⟨_,_,_,_,_,underlying320,sz3,yR1,rfl⟩
section
variable {Ψ Φ : PV} {n m k j : Nat} {y z : Int}
theorem kinsign (hn:n≤1000000):CTy prog 286 [pa (st [ztc n z])] (exP (.int .i64 z.sign)):=by
 have h2:=@zS z.natAbs;refine fw [.tmp 2] func286 fun X=>?_;repeat refine u ?_
 refine zA1 (oba rfl rfl rfl) (u fun b3=>?_);refine zH 0 rfl rfl (zR (zU (s:=3) 0 rfl rfl) ?_);repeat refine u ?_
 refine t_if rfl (fun c0=>?_) (fun c0=>?_);rotate_left;rotate_left
 ·have h1:z<0:=dt c0;repeat refine u ?_
  refine zA1 (oia 2 rfl rfl (by omega) rfl rfl) ?_;repeat refine u ?_
  refine e ?_;refine ps_i ?_;exact(zcM h1).symm
 ·have h1:¬ z<0:=df c0;rcases Classical.em (z=0) with h | h
  ·have h3:(limbs z.natAbs).length=0:=h2.2 (by omega);repeat refine u ?_
   refine zA1 (oia 0 rfl rfl (by omega) rfl rfl) ?_;repeat refine u ?_
   refine e ?_;refine ps_i ?_;rw[h];rfl
  ·have h3:(limbs z.natAbs).length≠0:=fun c=>h (by have:=h2.1 c;omega);repeat refine u ?_
   refine zA1 (oia 1 rfl rfl (by omega) rfl rfl) ?_;repeat refine u ?_
   refine e ?_;refine ps_i ?_;exact(zcN (by omega)).symm
theorem kisgn [h:VZ Ψ n z](hn:n≤1000000):CTy prog 221 [Ψ] (exP (.int .i64 z.sign)):=by
 refine yE (σs:=[ag (ztq n z)]) ?_ (fs1 vz_q fs0);refine fw [.tmp 2] func221 fun X=>?_;repeat refine u ?_
 refine zB rfl rfl (kipa (by omega)) ?_;refine zB rfl rfl (kinsign hn) ?_;repeat refine u ?_
 exact e
theorem kicmp [h:VZ Ψ n z][h':VZ Φ m y](hn:n≤380000)(hm:m≤380000):CTy prog 154 [Ψ,Φ] (exP (.int .i64 (z-y).sign)):=by
 refine yE (σs:=[ag (ztq n z),ag (ztq m y)]) ?_ (fs1 vz_q (fs1 vz_q fs0));refine fw [.tmp 4] func154 fun X=>?_;repeat refine u ?_
 refine zB rfl rfl (kisub (by omega) (by omega)) ?_;refine zB rfl rfl (kisgn (by omega)) ?_;repeat refine u ?_
 exact e
end
section
variable {Ψ Φ : PV} {n m k N : Nat} {p q : Rat} {z : Int}
theorem xG9 [h:QR Ψ n p]{P:Program}{f:FuncId}{ρ:PV}(hb:Bod P f)(hr:rlen p (n+1)→CTy P f [ag (rtq n p)] ρ):CTy P f [Ψ] ρ :=
 ⟨hb,fun M w vs hM hT hv=>by
  obtain⟨v,rfl,h1⟩:=fa1 hv;obtain⟨_,_,_,_,g1⟩:=h.h h1;exact(hr g1.rlen).run M w _ hM hT ((fs1 (qr_q (h:=h)) fs0) _ _ _ hv)⟩
theorem yD7 [h:QR Ψ n p][h':QR Φ m q]{P:Program}{f:FuncId}{ρ:PV}(hb:Bod P f)(hr:rlen p (n+1)→rlen q (m+1)→CTy P f [ag (rtq n p),ag (rtq m q)] ρ):CTy P f [Ψ,Φ] ρ :=
 ⟨hb,fun M w vs hM hT hv=>by
  obtain⟨v,u,rfl,h1,h2⟩:=fa2 hv;obtain⟨_,_,_,_,g1⟩:=h.h h1;obtain⟨_,_,_,_,g2⟩:=h'.h h2;exact(hr g1.rlen g2.rlen).run M w _ hM hT ((fs1 (qr_q (h:=h)) (fs1 (qr_q (h:=h')) fs0)) _ _ _ hv)⟩
theorem yV6 [h:QR Ψ n p](hn:n≤90000):CTy prog 160 [Ψ] (ag (rtc (n+1) p)):=xG9 (bo func160) fun hr=>by
 refine fw [.cell 2 29] func160 fun X=>?_;iterate 3 refine u ?_
 refine u fun b2=>?_;repeat refine u ?_
 refine zB rfl rfl (kofN (N:=n+1) (by omega) hr) ?_;repeat refine u ?_
 exact e
theorem pN [h:QR Ψ n p][h':QR Φ m q](hn:n≤90000)(hm:m≤90000):CTy prog 80 [Ψ,Φ] (exP (.int .i64 (cmpR p q))):=yD7 (bo func80) fun hr hs=>by
 refine fw [.tmp 4] func80 fun X=>?_;iterate 7 refine u ?_
 refine zL 6 mixed rfl rfl ?_;repeat refine u ?_
 refine zC rfl rfl (kofN (N:=n+1) (by omega) hr) ?_;repeat refine u ?_
 refine zC rfl rfl (kofN (N:=m+1) (by omega) hs) ?_;iterate 6 refine u ?_
 refine zL 28 mixed rfl rfl ?_;repeat refine u ?_
 refine zC rfl rfl zP1 ?_;repeat refine u ?_
 refine zC rfl rfl (wZ (by omega) (by(simp;done))) ?_;repeat refine u ?_
 refine zC rfl rfl zP1 ?_;repeat refine u ?_
 refine zC rfl rfl (wZ (by omega) (by(simp;done))) ?_;refine zC rfl rfl (kicmp (by omega) (by omega)) ?_;repeat refine u ?_
 refine e ?_;refine ps_i ?_;rw[xA2]
theorem krneg [h:QR Ψ n p](hn:n≤90000):CTy prog 247 [Ψ] (ag (rtc (n+1) (-p))):=xG9 (bo func247) fun hr=>by
 refine fw [.cell 2 29] func247 fun X=>?_;iterate 3 refine u ?_
 refine u fun b2=>?_;repeat refine u ?_
 refine tco [] rfl rfl rfl (oof (N:=n+1) (by omega) hr) ?_;rintro _ _ ⟨b5,rfl,rfl⟩;refine zR (gH (cs':=[ztc (n+1) p.num,ntc (n+1) p.den]) 0 rfl yB9) ?_;repeat refine u ?_
 refine zA1 (zK 0 rfl) ?_;refine zB rfl rfl (xF5 (by omega)) ?_;repeat refine u ?_
 refine zH 0 rfl rfl ?_;repeat refine u ?_
 refine zR (gH (cs':=[rtc (n+1) (-p)]) 0 rfl (rt_join (by rw[Rat.neg_num]) (by rw[Rat.neg_den]) (uI hr))) ?_;refine zA1 (zK 0 rfl) ?_;refine zH 1 rfl rfl ?_;repeat refine u ?_
 refine⟨[_],zN 1 rfl rs0,yJ (PSub.refl _)⟩
theorem xD0 (p q:Rat):mkRat (xY [p.num,if decide (q.num<0) then -((q.den:Nat):Int) else((q.den:Nat):Int)]) (p.den*q.num.natAbs)=p/q:=by
 rw[mO,← yS9];unfold zv;rw[zJ]
theorem xD1 (p q:Rat):(if p.den*q.num.natAbs=0 then(30:Int) else 0)=if q=0 then 30 else 0:=by
 have h:p.den*q.num.natAbs=0↔q=0:=by
  rw[Nat.mul_eq_zero,Int.natAbs_eq_zero,Rat.num_eq_zero];exact⟨fun h=>h.elim (fun c=>absurd c p.den_nz) id,.inr⟩
 exact ite_congr (propext h) (fun _=>rfl) fun _=>rfl
theorem krquo [h:QR Ψ n p][h':QR Φ m q](hn:n≤90000)(hm:m≤90000):CTy prog 170 [Ψ,Φ] (tu [ag (rtc (n+m+3) (p/q)),exP (.int .i64 (if q=0 then 30 else 0))]):=yD7 (bo func170) fun hr hs=>by
 have hl:rlen (p/q) (n+m+3):=zO (mL hr hs) (by omega);have hq:=xD1 p q;refine fw [.cell 4 29,.tmp 5] func170 fun X=>?_;iterate 4 refine u ?_
 refine u fun b4=>?_;iterate 3 refine u ?_
 refine zL 6 mixed rfl rfl ?_;repeat refine u ?_
 refine zC rfl rfl (kofN (N:=n+1) (by omega) hr) ?_;repeat refine u ?_
 refine zC rfl rfl (kofN (N:=m+1) (by omega) hs) ?_;iterate 6 refine u ?_
 refine zL 34 mixed rfl rfl ?_;repeat refine u ?_
 refine zC rfl rfl (wZ (by omega) (by(simp;done))) ?_;repeat refine u ?_
 refine zC rfl rfl (yW0 (by omega) (by omega)) ?_;refine zC rfl rfl (krnewN (q:=p/q) (N:=n+m+3) (by omega) (by omega) (xD0 p q) hl) ?_;repeat refine u ?_
 refine zH 0 rfl rfl ?_;repeat refine u ?_
 refine⟨[_,_],zN 0 rfl (rst rfl rs0),aF (PSub.refl _) (ps_i (by omega))⟩
theorem ormul {b:Nat}(hn:n≤95000)(hm:m≤95000)(hr:rlen (p*q) N) :
  CTo prog 248 [zX b 0,pa (st [rtc m q])] [.blk b 189 [ztc n p.num,ntc n p.den]] (fun r So=>r=tu []∧So=[.blk b 189 [rtc N (p*q)]]):=by
 refine fwo [] func248 fun X=>?_;refine u ?_;apply cC 29 0 28 [0,1,0,0,0,0,0,0,0,0,0,0,0,0,0,0,0,0,0,0,0,0,0,0,0,0,0,0,2] [ztc (2*max n m+2) (xY [p.num,q.num]),ntc n p.den] rfl mixed rfl rfl;repeat refine u ?_
 refine tdx0 ?_;refine d1 (zK 0 rfl) ?_;repeat refine u ?_
 refine tdx0 ?_;refine zC rfl rfl (wZ (by omega) (by(simp;done))) ?_;repeat refine u ?_
 refine tdx0 ?_;refine zC rfl rfl (yW0 (by omega) (by omega)) ?_;repeat refine u ?_
 refine tdx2 rfl (ckvt rfl rfl rfl rfl rfl rfl) ?_;repeat refine u ?_
 refine zH 0 rfl rfl ?_;repeat refine u ?_
 refine tcoR [0] rfl rfl rfl (yC3 (N:=N) (by omega) (by omega) (by rw[yC5];exact hr)) ?_;rw[yC5];repeat refine u ?_
 exact⟨[],tu [],_,rs0,zaa _,⟨rfl,rfl⟩,wR⟩
theorem oradd {b:Nat}(hn:n≤95000)(hm:m≤95000)(hr:rlen (p+q) N) :
  CTo prog 238 [zX b 0,pa (st [rtc m q])] [.blk b 189 [ztc n p.num,ntc n p.den]] (fun r So=>r=tu []∧So=[.blk b 189 [rtc N (p+q)]]):=by
 refine fwo [] func238 fun X=>?_;refine u ?_;refine zL 32 mixed rfl rfl ?_;repeat refine u ?_
 refine d1 (zK 0 rfl) ?_;repeat refine u ?_
 refine zC rfl rfl zP1 ?_;repeat refine u ?_
 refine zC rfl rfl (wZ (by omega) (by(simp;done))) ?_;repeat refine u ?_
 refine zC rfl rfl zP1 ?_;repeat refine u ?_
 refine zC rfl rfl (wZ (by omega) (by(simp;done))) ?_;repeat refine u ?_
 refine zC rfl rfl (xF7 (by omega) (by(simp;done))) ?_;repeat refine u ?_
 refine zH 0 rfl rfl ?_;iterate 2 refine u ?_
 refine zL 15 mixed rfl rfl ?_;repeat refine u ?_
 refine d1 (zK 0 rfl) ?_;repeat refine u ?_
 refine zC rfl rfl (yW0 (by omega) (by omega)) ?_;repeat refine u ?_
 refine zH 0 rfl rfl ?_;repeat refine u ?_
 refine zA1 (omv rfl) ?_;refine tco [0] rfl rfl rfl (yC3 (N:=N) (by omega) (by omega) (by rw[yE0];exact hr)) ?_;rintro _ _ ⟨rfl,rfl⟩;rw[yE0];repeat refine u ?_
 exact⟨[],tu [],_,rs0,zaa _,⟨rfl,rfl⟩,wR⟩
theorem iall {l:List Rat}(hn:n≤90000)(hl:∀ x∈l,rlen x (n+1))(hL:l.length≤1000000):CIt prog 297 [pa (sl 3 (l.map (rtq n)))] l (fun x=>[pk 189 (rtc (n+1) x)]):=by
 refine cit func297 rfl rfl rfl rfl rfl fun X y YS YX hY hS=>?_;repeat refine u ?_
 refine lpy (σ:=Nat) [0,5,6] (fun i=>[(7,True,zI i)]) (fun i=>[]) (fun i Y=>YS (l.take i) Y∧i≤l.length) (fun i=>l.length-i) (0) (⟨hS,by omega⟩) fun i Y hG=>?_;obtain⟨hS,hi⟩:=hG;repeat refine u ?_
 refine ti (fun c0=>?_) fun c0=>?_;repeat refine u ?_
 refine zA1 (oix _ rfl rfl rfl (fun _=>rfl) (fun _=>(by(have e0:=dt c0;omega)))) ?_;refine u ?_;refine u fun b4=>?_;refine u ?_;refine zR (zU (s:=4) 0 rfl rfl) ?_;repeat refine u ?_
 refine zB rfl rfl (kofK (N:=n+1) (by omega) (hl _ (rO (by have:=dt c0;omega)))) ?_;rotate_left;repeat refine u ?_
 rotate_left
 ·have h2:i<l.length:=by have:=dt c0;omega
  have h3:=zP (Df.d:Rat) h2;refine cW hY hS h3.2 rfl rfl (fs1 (PSub.refl _) fs0) (fun Y hS=>?_) (fun Y hX=>?_)
  ·repeat refine u ?_
   refine xW rfl rfl ?_;repeat refine u ?_
   refine⟨i+1,tes ?_ ?_ (zaa _),?_,(by omega)⟩;refine zA rfl tn;refine zA rfl (zA rfl (zA rfl tn));exact⟨by rw[h3.1];exact hS,by omega⟩
  ·repeat refine u ?_
   refine qC rfl rfl ?_;repeat refine u ?_
   exact .inr hX
 ·have:i=l.length:=by have:=df c0;omega
  subst this;rw[zaS] at hS;exact .inl hS
theorem xF0 {l:List Rat}:CTy prog 237 [sv (sl 3 (l.map (rtq n)))] (fn 297 [pa (sl 3 (l.map (rtq n)))]):=by
 refine fw [.tmp 2] func237 fun X=>?_;repeat refine u ?_
 exact e
theorem wB (t:List Rat)(x:Rat):sumR (t++[x])=sumR t+x:=by simp[sumR]
theorem xB1 {l:List Rat}(hn:n≤90000)(hl:l.length≤2)(h:∀ x∈l,rlen x (n+1)):CTy prog 163 [sv (sl 3 (l.map (rtq n)))] (ag (rtc (l.length*(n+2)+2) (sumR l))):=by
 refine fw [.cell 2 29] func163 fun X=>?_;iterate 2 refine u ?_
 refine u fun b2=>?_;repeat refine u ?_
 refine zB rfl rfl (krof (k:=0) (K:=2) (by omega) (by omega)) ?_;refine u ?_;refine tbx rfl fun b7=>(u fun b3=>?_);refine zH 0 rfl rfl (zR (zU (s:=3) 0 rfl rfl) ?_);repeat refine u ?_
 refine zB rfl rfl xF0 ?_;repeat refine u ?_
 refine aK (σ:=List Rat) (fun t=>[.blk b7 189 [rtc (t.length*(n+2)+2) (sumR t)],.blk b2 29 (zc (Value.agg #[.bool false,.slice none 0 0,.slice none 0 0]))]) (fun pre t=>t=pre∧rlen (sumR t) (t.length*(n+2)+2)) [] rfl (iall (by omega) h (by omega)) (fun _=>rfl) rfl lG (by simp[sumR]) ⟨rfl,by simp[sumR];exact zO oG (by omega)⟩ (fun pre x post t hx hJ Y y hlp=>?_) (fun t hJ Y _=>?_)
 ·obtain⟨rfl,hr⟩:=hJ;have hx2:=h x (by rw[hx];simp);have htl:t.length*(n+2)≤1*(n+2):=zaU _ (by rw[hx] at hl;simp at hl;omega);have hr2:rlen (sumR t+x) ((t++[x]).length*(n+2)+2):=zO (jF hr hx2) (by rw[zak,zcI,zcv];omega);repeat refine u ?_
  refine zA1 (oas rfl) ?_;repeat refine u ?_
  refine⟨rfl,fun Y hl=>?_⟩;repeat refine u ?_
  refine zA1 (old rfl rfl) ?_;repeat refine u ?_
  refine zR (gH (cs':=[ztc (t.length*(n+2)+2) (sumR t).num,ntc (t.length*(n+2)+2) (sumR t).den]) 0 rfl yB9) ?_;refine tco [0] rfl rfl rfl (ctoW (oradd (m:=n+1) (by omega) (by omega) hr2) (fs1 (PSub.refl _) (fs1 zU5 fs0))) ?_;rintro _ _ ⟨rfl,rfl⟩;repeat refine u ?_
  refine⟨t++[x],?_,?_⟩;rotate_left;rotate_left
  ·rw[wB];exact zaa _
  ·exact⟨rfl,by rw[wB];exact hr2⟩
 ·obtain⟨rfl,hr⟩:=hJ;repeat refine u ?_
  refine zA1 (zK 0 rfl) ?_;repeat refine u ?_
  exact e
abbrev dT (l:List Rat):Rat:=l.foldl (· * ·) 1
theorem sZ (t:List Rat)(x:Rat):dT (t++[x])=dT t*x:=by simp[dT]
theorem wrmul {l:List Rat}(hn:n≤90000)(hl:l.length≤2)(h:∀ x∈l,rlen x (n+1)):CTy prog 172 [sv (sl 3 (l.map (rtq n)))] (ag (rtc (l.length*(n+2)+2) (dT l))):=by
 refine fw [.cell 2 29] func172 fun X=>?_;iterate 2 refine u ?_
 refine u fun b2=>?_;repeat refine u ?_
 refine zB rfl rfl (krof (k:=1) (K:=2) (by omega) (by omega)) ?_;refine u ?_;refine tbx rfl fun b7=>(u fun b3=>?_);refine zH 0 rfl rfl (zR (zU (s:=3) 0 rfl rfl) ?_);repeat refine u ?_
 refine zB rfl rfl xF0 ?_;repeat refine u ?_
 refine aK (σ:=List Rat) (fun t=>[.blk b7 189 [rtc (t.length*(n+2)+2) (dT t)],.blk b2 29 (zc (Value.agg #[.bool false,.slice none 0 0,.slice none 0 0]))]) (fun pre t=>t=pre∧rlen (dT t) (t.length*(n+2)+2)) [] rfl (iall (by omega) h (by omega)) (fun _=>rfl) rfl lG (by simp[dT]) ⟨rfl,by simp[dT];exact zO (show rlen 1 1 from⟨by rw[show (1:Rat).num.natAbs=1 from rfl,xS];simp,by rw[show (1:Rat).den=1 from rfl,xS];simp⟩) (by omega)⟩ (fun pre x post t hx hJ Y y hlp=>?_) (fun t hJ Y _=>?_)
 ·obtain⟨rfl,hr⟩:=hJ;have hx2:=h x (by rw[hx];simp);have htl:t.length*(n+2)≤1*(n+2):=zaU _ (by rw[hx] at hl;simp at hl;omega);have hr2:rlen (dT t*x) ((t++[x]).length*(n+2)+2):=zO (uJ hr hx2) (by rw[zak,zcI,zcv];omega);repeat refine u ?_
  refine zA1 (oas rfl) ?_;repeat refine u ?_
  refine⟨rfl,fun Y hl=>?_⟩;repeat refine u ?_
  refine zA1 (old rfl rfl) ?_;repeat refine u ?_
  refine zR (gH (cs':=[ztc (t.length*(n+2)+2) (dT t).num,ntc (t.length*(n+2)+2) (dT t).den]) 0 rfl yB9) ?_;refine tco [0] rfl rfl rfl (ctoW (ormul (m:=n+1) (by omega) (by omega) hr2) (fs1 (PSub.refl _) (fs1 zU5 fs0))) ?_;rintro _ _ ⟨rfl,rfl⟩;repeat refine u ?_
  refine⟨t++[x],?_,?_⟩;rotate_left;rotate_left
  ·rw[sZ];exact zaa _
  ·exact⟨rfl,by rw[sZ];exact hr2⟩
 ·obtain⟨rfl,hr⟩:=hJ;repeat refine u ?_
  refine zA1 (zK 0 rfl) ?_;repeat refine u ?_
  exact e
theorem vq_rl {l:List Rat}[h:VQ Ψ n l]{M:Nat→Prop}{w:World}{v:Value}(h1:Ψ.p M w v):∀ x∈l,rlen x (n+1):=fun x hx=>by
 obtain⟨cs,h3,h2⟩:=(h.h h1).row;obtain⟨i,hi,rfl⟩:=zaZ.1 hx;obtain⟨us,_,_,s,a,d,_,g⟩:=h2 i _ (zah hi);exact g.rlen
theorem yZ6 {l:List Rat}[h:VQ Ψ n l]{P:Program}{f:FuncId}{ρ:PV}(hb:Bod P f)(k:(∀ x∈l,rlen x (n+1))→CTy P f [sv (sl 3 (l.map (rtq n)))] ρ):CTy P f [Ψ] ρ :=
 ⟨hb,fun M w vs hM hT hv=>by
  obtain⟨v,e,h1⟩:=fa1 hv;subst e;exact(k (vq_rl h1)).run M w _ hM hT (fs1 vq_q fs0 _ _ _ hv)⟩
theorem zT9 {n N:Nat}{p q:Rat}(e:p=q)(h:rlen q N):PSub (ag (rtc n p)) (ag (rtc N q)):=fun _ _ _ ⟨us,e1,s,a,d,e2,g⟩=>⟨us,e1,s,a,d,e2,by subst e;exact g.relen h⟩
theorem kraddN [h:VQ Ψ n [p,q]](hn:n≤90000)(hr:rlen (p+q) N):CTy prog 163 [Ψ] (ag (rtc N (p+q))):=yZ6 (h:=h) (bo func163) fun k=>gQ (xB1 hn (by simp) k) (zT9 (by simp[sumR,Rat.zero_add]) hr)
theorem yV7 [h:VQ Ψ n [p,q]](hn:n≤90000):CTy prog 163 [Ψ] (ag (rtc (2*n+3) (p+q))):=yZ6 (h:=h) (bo func163) fun k=>gQ (xB1 hn (by simp) k) (zT9 (by simp[sumR,Rat.zero_add]) (zO (jF (k p (by simp)) (k q (by simp))) (by omega)))
theorem xE9 [h:VQ Ψ n [p,q]](hn:n≤90000):CTy prog 172 [Ψ] (ag (rtc (2*n+3) (p*q))):=yZ6 (h:=h) (bo func172) fun k=>gQ (wrmul hn (by simp) k) (zT9 (by simp[dT,Rat.one_mul]) (zO (uJ (k p (by simp)) (k q (by simp))) (by omega)))
theorem wW [h:QR Ψ n p][h':QR Φ m q](hn:n≤80000)(hm:m≤80000):CTy prog 171 [Ψ,Φ] (ag (rtc (n+m+3) (p-q))):=yD7 (bo func171) fun hr hs=>by
 have e:p + -q=p-q:=(zcP p q).symm;refine fw [.cell 4 29] func171 fun X=>?_;iterate 4 refine u ?_
 refine u fun b4=>?_;iterate 2 refine u ?_
 refine zL 5 mixed rfl rfl ?_;repeat refine u ?_
 refine zC rfl rfl (krneg (by omega)) ?_;repeat refine u ?_
 refine zC rfl rfl (kraddN (N:=n+m+3) (by omega) (zO (jF hr (uI hs)) (by omega))) ?_;repeat refine u ?_
 refine⟨[_],zN 0 rfl rs0,yJ ?_⟩;exact zT9 e (e ▸ zO (jF hr (uI hs)) (by omega))
end
theorem k7of {k:Nat}(hk:k<9223372036854775808):CTy prog 46 [zI k] (ag (rtc 2 ((k:Nat):Rat))):=by
 refine fw [.cell 2 29] func46 fun X=>?_;iterate 2 refine u ?_
 refine u fun b2=>?_;repeat refine u ?_
 refine zB rfl rfl (k5of (N:=2) (by omega) (by omega)) ?_;repeat refine u ?_
 refine zH 0 rfl rfl ?_;repeat refine u ?_
 refine⟨[_],zN 0 rfl rs0,yJ ?_⟩;rw[← xS];exact yT2 (q:=((k:Nat):Rat)) rfl rfl (by omega) (by rw[xS];simp<;>omega)
theorem k8of {k l:Nat}(hk:k<9223372036854775808)(hl:l<9223372036854775808):CTy prog 68 [zI k,zI l] (ag (st [rtc 2 ((k:Nat):Rat),rtc 2 ((l:Nat):Rat)])):=by
 refine fw [.cell 4 39] func68 fun X=>?_;iterate 2 refine u ?_
 refine u fun b4=>?_;repeat refine u ?_
 refine zB rfl rfl (k7of (by omega)) ?_;repeat refine u ?_
 refine zB rfl rfl (k7of (by omega)) ?_;repeat refine u ?_
 refine zH 0 rfl rfl ?_;repeat refine u ?_
 refine⟨[_],zN 0 rfl rs0,yJ (PSub.refl _)⟩
section
variable {xs ys : List Nat} {Ψ Φ : PV}
theorem k2down {j:Int}[h:VX Ψ xs](hl:xs.length≤100000000):CTy prog 241 [Ψ,exP (.int .i64 j)] (sv (ntx (limbs (val xs/2^cntN j 65536)))):=yE (k2downx hl) (fs1 vx_q (fs1 (PSub.refl _) fs0))
theorem k2up {j:Int}[h:VX Ψ xs](hl:xs.length≤100000000):CTy prog 244 [Ψ,exP (.int .i64 j)] (sv (ntx (limbs (val xs*2^cntN j 65536)))):=yE (xG4 hl) (fs1 vx_q (fs1 (PSub.refl _) fs0))
theorem k1cmp [h:VX Ψ xs][k:VX Φ ys](hl:xs.length≤1000000000)(hm:ys.length≤1000000000):CTy prog 242 [Ψ,Φ] (exP (.int .i64 (cmpN (val xs) (val ys)))):=yE (yX7 hl hm) (fs1 vx_q (fs1 vx_q fs0))
end
theorem kplain7 {a b:Nat}(ha:a<18446744073709551616)(hb:b<18446744073709551616):CTy prog 166 [exP (.int .u64 (a:Int)),exP (.int .u64 (b:Int))] (exP (.int .u64 ((Nat.gcd a b:Nat):Int))):=by
 refine fw [.tmp 4] func166 fun X=>?_;repeat refine u ?_
 refine lp (σ:=Nat×Nat) [4] (fun s=>[(0,True,exP (.int .u64 ((s.1:Nat):Int))),(1,True,exP (.int .u64 ((s.2:Nat):Int)))]) (fun s=>[]) (fun s=>s.1<18446744073709551616∧s.2<18446744073709551616∧Nat.gcd s.1 s.2=Nat.gcd a b) (fun s=>s.2) ((a,b)) (⟨ha,hb,rfl⟩) fun s hJ Y _=>?_;obtain⟨p,q⟩:=s;dsimp only at hJ ⊢;obtain⟨hp,hq,hg⟩:=hJ;repeat refine u ?_
 refine ti (fun c0=>?_) fun c0=>?_;iterate 2 refine u ?_
 refine zL 6 mixed rfl rfl ?_;repeat refine u ?_
 refine d1 (ormw rfl rfl (by(have e0:=dt c0;omega))) ?_;repeat refine u ?_
 rotate_left;repeat refine u ?_
 refine e ?_;refine ps_i ?_;rotate_left
 ·have h1:0<q:=by have:=dt c0;omega
  have hlt:=zaJ p h1;refine nxt ((q,p%q)) ?_
  ·exact⟨hq,by dsimp only;omega,by dsimp only;rw[← hg,Nat.gcd_comm,← Nat.gcd_rec,Nat.gcd_comm]⟩
 ·have h1:q=0:=by have:=df c0;omega
  rw[← hg,h1,Nat.gcd_zero_right]
theorem ktwos {xs:List Nat}(hx:∀ x∈xs,x<4294967296)(h0:val xs≠0)(hl:xs.length≤1000000):CTy prog 240 [sv (ntx xs)] (exP (.int .i64 ((tz (val xs):Nat):Int))):=by
 refine fw [.tmp 2] func240 fun X=>?_;repeat refine u ?_
 refine lp (σ:=Nat) [0,2] (fun s=>[(3,True,exP (.int .i64 ((32*s:Nat):Int))),(4,True,zI s)]) (fun s=>[]) (fun s=>s≤xs.length∧∀ j,j<s→xs.getD j 0=0) (fun s=>xs.length-s) (0) (⟨by omega,by omega⟩) fun s hJ Y _=>?_;obtain⟨j1,j2⟩:=hJ;have hs:s<xs.length:=by
  rcases zaf s xs.length with h | h
  ·exact h
  ·exact absurd (val_zero_all fun j hj=>j2 j (by omega)) h0
 repeat refine u ?_
 refine ti (fun c0=>?_) fun c0=>?_;repeat refine u ?_
 rotate_left;iterate 8 refine u ?_
 refine zA1 (oix s rfl rfl rfl (fun _=>(by omega)) (fun _=>(by omega))) ?_;repeat refine u ?_
 rotate_left
 ·have h1:=dand c0;refine⟨s+1,tes ?_ ?_ (zaa _),?_,(by omega)⟩;refine zA rfl (zA rfl tn);refine zA rfl (zA rfl tn);refine⟨by omega,fun j hj=>?_⟩;rcases zaf j s with c | c
  ·exact j2 j c
  ·obtain rfl:j=s:=by omega
   exact Int.natCast_eq_zero.1 h1.2
 ·have hx0:xs.getD s 0≠0:=fun e=>dor c0 ⟨by omega,Int.natCast_eq_zero.2 e⟩;have hx2:xs.getD s 0<4294967296:=zZ hx s;have htz:=tz_limbs hx j2 hs hx0;have h32:=pF (n:=32) hx0 (zcE hx2 (by decide));refine lp (σ:=Nat×Nat) [2] (fun t=>[(3,True,exP (.int .i64 ((32*s+t.1:Nat):Int))),(5,True,exP (.int .u32 ((t.2:Nat):Int)))]) (fun t=>[]) (fun t=>t.2≠0∧t.2<4294967296∧tz (xs.getD s 0)=t.1+tz t.2) (fun t=>t.2) ((0,xs.getD s 0)) (⟨hx0,hx2,by simp⟩) fun t hJ Y _=>?_;obtain⟨n,t⟩:=t;dsimp only at hJ ⊢;obtain⟨k1,k2,k3⟩:=hJ;repeat refine u ?_
  refine ti (fun c1=>?_) fun c1=>?_;repeat refine u ?_
  rotate_left;repeat refine u ?_
  refine e ?_;refine ps_i ?_;rotate_left
  ·have h2:t%2=0:=by have:=dt c1;omega
   have:=yF8 k1 h2;exact nxt ((n+1,t/2)) (by(simp only[xZ];omega))
  ·have h2:t%2=1:=by have:=df c1;omega
   have:=yB0 h2;rw[htz,k3,this];rfl
theorem tz_bd {x n:Nat}(h0:x≠0)(h:(limbs x).length≤n)(hn:n≤2000):cntN ((tz x:Nat):Int) 65536=tz x:=by
 have:=zS5 h0 h;exact rR (m:=65536) (by omega)
theorem zP3 {A:Nat}(h0:A≠0)(hl:(limbs A).length≤2000):CTy prog 240 [sv (ntx (limbs A))] (exP (.int .i64 ((tz A:Nat):Int))):=by
 have:=ktwos (yF A) (by rw[zJ];exact h0) (by omega);rwa [zJ] at this
theorem kodL {A:Nat}(h0:A≠0)(hl:(limbs A).length≤2000):CTy prog 241 [sv (ntx (limbs A)),exP (.int .i64 ((tz A:Nat):Int))] (sv (ntx (limbs (od A)))):=by
 have:=k2down (Ψ:=sv (ntx (limbs A))) (j:=((tz A:Nat):Int)) (show (limbs A).length≤100000000 by omega);rw[zJ,tz_bd h0 hl (by omega)] at this;exact this
theorem kcmpL {A B:Nat}(h1:(limbs A).length≤2000)(h2:(limbs B).length≤2000):CTy prog 242 [sv (ntx (limbs A)),sv (ntx (limbs B))] (exP (.int .i64 (cmpN A B))):=by
 have:=k1cmp (Ψ:=sv (ntx (limbs A))) (Φ:=sv (ntx (limbs B))) (by omega) (by omega);rwa [zJ,zJ] at this
theorem xE8 {A B:Nat}(h1:(limbs A).length≤2000)(h2:(limbs B).length≤2000):CTy prog 243 [sv (ntx (limbs A)),sv (ntx (limbs B))] (tu [sv (ntx (limbs (A-B))),exP (.int .i64 (if A<B then 10 else 0))]):=by
 have:=zW8 (xs:=limbs A) (ys:=limbs B) (by omega) (by omega);rwa [zJ,zJ] at this
theorem kgcd4 {xs ys:List Nat}(hx:∀ x∈xs,x<4294967296)(hy:∀ x∈ys,x<4294967296)(h1:xs.length≤2000)(h2:ys.length≤2000):CTy prog 168 [sv (ntx xs),sv (ntx ys)] (sv (ntx (limbs (Nat.gcd (val xs) (val ys))))):=by
 have hlx:(limbs (val xs)).length≤2000:=zab (xL hx) h1;have hly:(limbs (val ys)).length≤2000:=zab (xL hy) h2;have ex:=@zS (val xs);have ey:=@zS (val ys);have hc:∀ b:Bool,(decide (((limbs (val xs)).length:Int)=0) || decide (((limbs (val ys)).length:Int)=0))=b→(b=true→val xs=0∨val ys=0)∧(b=false→val xs≠0∧val ys≠0):=fun b h=>by
  subst h;simp only[zbN,Bool.or_eq_false_iff,decide_eq_true_eq,decide_eq_false_iff_not];omega
 refine fw [.tmp 4] func168 fun X=>?_;repeat refine u ?_
 refine zB rfl rfl (gG (by omega)) ?_;repeat refine u ?_
 refine zB rfl rfl (gG (by omega)) ?_;repeat refine u ?_
 refine ti (fun c0=>?_) fun c0=>?_;repeat refine u ?_
 refine zB rfl rfl (yX8 (xss:=[limbs (val xs),limbs (val ys)]) (by(simp;omega)) (by(simp;done))) ?_;repeat refine u ?_
 refine e ?_;rotate_left;repeat refine u ?_
 refine zB rfl rfl (zP3 ?_ (by omega)) ?_;rotate_left;repeat refine u ?_
 refine zB rfl rfl (zP3 ?_ (by omega)) ?_;rotate_left;repeat refine u ?_
 rotate_left
 ·have h0:=(hc _ c0.h).1 rfl;rw[show (List.map val [limbs (val xs),limbs (val ys)]).sum=Nat.gcd (val xs) (val ys) from by
   simp only[zaM,zba,List.sum_cons,List.sum_nil,zJ];rcases h0 with h0 | h0<;>rw[h0]<;>simp]
  exact PSub.refl _
 ·exact((hc _ c0.h).2 rfl).1
 ·exact((hc _ c0.h).2 rfl).2
 obtain⟨hx0,hy0⟩:=(hc _ c0.h).2 rfl;have hmin:min (tz (val xs)) (tz (val ys))<64000:=by have:=zS5 hx0 hlx;omega
 refine lp (σ:=Nat×Nat) [4,5] (fun s=>[(0,True,sv (ntx (limbs s.1))),(1,True,sv (ntx (limbs s.2)))]) (fun s=>[]) (fun s=>GI (Nat.gcd (od (val xs)) (od (val ys))) s.1 s.2∧(limbs s.1).length≤2000∧(limbs s.2).length≤2000) (fun s=>s.1+s.2) ((val xs,val ys)) (⟨⟨hy0,fun _=>rfl,fun h=>absurd h hx0⟩,hlx,hly⟩) fun s hJ Y _=>?_;obtain⟨A,B⟩:=s;dsimp only at hJ ⊢;obtain⟨hg,hA,hB⟩:=hJ;have eA:=@zS A;have hB0:B≠0:=hg.1;have lA:=zab (zW (yJ6 A)) hA;have lB:=zab (zW (yJ6 B)) hB;repeat refine u ?_
 refine ti (fun c1=>?_) fun c1=>?_;repeat refine u ?_
 refine zB rfl rfl (zP3 (by(have e0:=dt c1;omega)) (by omega)) ?_;refine zB rfl rfl (kodL (by(have e0:=dt c1;omega)) (by omega)) ?_;repeat refine u ?_
 refine zB rfl rfl (zP3 (by omega) (by omega)) ?_;refine zB rfl rfl (kodL (by omega) (by omega)) ?_;repeat refine u ?_
 refine zB rfl rfl (kcmpL (by omega) (by omega)) ?_;repeat refine u ?_
 refine ti (fun c2=>?_) fun c2=>?_;repeat refine u ?_
 refine zB rfl rfl (xE8 (by omega) (by omega)) ?_;repeat refine u ?_
 rotate_left;repeat refine u ?_
 refine zB rfl rfl (xE8 (by omega) (by omega)) ?_;repeat refine u ?_
 rotate_left;repeat refine u ?_
 refine zB rfl rfl (k2up (by omega)) ?_;repeat refine u ?_
 refine e ?_;rotate_left
 ·have hA0:A≠0:=by have:=dt c1;omega
  have hlt:od A<od B:=qI.1 (dt c2);obtain⟨g1,g2⟩:=(yM3 hg hA0).2 (by omega);refine⟨(od B-od A,od A),tes ?_ ?_ (zaa _),?_,(by omega)⟩;refine zA rfl (zA rfl tn);refine zA rfl (zA rfl tn);exact⟨g1,zab (zW (Nat.sub_le _ _)) lB,lA⟩
 ·have hA0:A≠0:=by have:=dt c1;omega
  have hlt:¬ od A<od B:=fun h=>df c2 (qI.2 h);obtain⟨g1,g2⟩:=(yM3 hg hA0).1 (by omega);refine⟨(od A-od B,od B),tes ?_ ?_ (zaa _),?_,(by omega)⟩;refine zA rfl (zA rfl tn);refine zA rfl (zA rfl tn);exact⟨g1,zab (zW (Nat.sub_le _ _)) lA,lB⟩
 ·have hA0:A=0:=by have:=df c1;omega
  rw[zJ,cntN_min (by omega),hg.2.2 hA0,← gcd_od hx0 hy0];exact PSub.refl _
section
variable {xs ys : List Nat} {Ψ Φ : PV}
theorem yL8 [h:VX Ψ xs](hl:xs.length≤1000000000):CTy prog 165 [Ψ] (tu [exP (.int .u64 ((qN (val xs):Nat):Int)),exP (.bool (decide (val xs<18446744073709551616)))]):=yE (k1smallx hl) (fs1 vx_q fs0)
theorem yX3 [h:VX Ψ xs][k:VX Φ ys](hl:xs.length≤100000)(hm:ys.length≤100000)(h0:val ys≠0):CTy prog 169 [Ψ,Φ] (tu [sv (ntx (limbs (val xs/val ys))),sv (ntx (limbs (val xs%val ys))),exP (.int .i64 0)]):=yE (k3divx hl hm h0) (fs1 vx_q (fs1 vx_q fs0))
end
theorem cF {n m:Nat}{p q:Rat}(h:n≤m)(e:p=q):PSub (ag (rtc n p)) (ag (rtc m q)):=fun _ _ _ ⟨us,e1,s,a,d,e2,g⟩=>⟨us,e1,s,a,d,e2,by subst e;exact g.up h⟩
theorem kgcd {Ψ Φ:PV}{xs ys:List Nat}[h:VX Ψ xs][k:VX Φ ys](hx:∀ x∈xs,x<4294967296)(hy:∀ x∈ys,x<4294967296)(h1:xs.length≤2000)(h2:ys.length≤2000):CTy prog 168 [Ψ,Φ] (sv (ntx (limbs (Nat.gcd (val xs) (val ys))))):=yE (kgcd4 hx hy h1 h2) (fs1 vx_q (fs1 vx_q fs0))
theorem aQ {x k:Nat}(hk:k≠0)(c:Tr ((decide (val (limbs x)<18446744073709551616)&&decide (k<18446744073709551616))=true)):qN (val (limbs x))=x∧qN k=k∧0<Nat.gcd x k∧x<18446744073709551616∧k<18446744073709551616:=by
 have h:=dand c;rw[zJ] at h ⊢;exact⟨if_pos h.1,if_pos h.2,zda _ (zbf hk),h.1,h.2⟩
theorem xB4 {a:Bool×List Nat}{ds:List Nat}{n m:Nat}(ha:∀ x∈a.2,x<4294967296)(hd:∀ x∈ds,x<4294967296)(hla:a.2.length≤n)(hld:ds.length≤m)(hn:n≤2000)(hm:m≤2000):CTy prog 90 [ag (itx a),sv (ntx ds)] (tu [ag (rtc (max n m+2) (mkRat (zx a) (val ds))),exP (.int .i64 (if val ds=0 then 30 else 0))]):=by
 have hzl:(limbs (zx a).natAbs).length≤n:=by rw[nY a];exact zab (xL ha) hla
 have hkl:(limbs (val ds)).length≤m:=zab (xL hd) hld;have ek:=@zS (val ds);have sA:qN (val (limbs (zx a).natAbs))<18446744073709551616:=by unfold qN;split<;>omega
 have sB:qN (val ds)<18446744073709551616:=by unfold qN;split<;>omega
 have hgl:val ds≠0→(limbs (Nat.gcd (zx a).natAbs (val ds))).length≤m:=fun h=>zab (zW (Nat.gcd_le_right _ (zbf h))) hkl;have hq1:∀ g,(limbs ((zx a).natAbs/g)).length≤n:=fun g=>zab (zW (zbs _ _)) hzl;have hq2:∀ g,(limbs (val ds/g)).length≤m:=fun g=>zab (zW (zbs _ _)) hkl;have hz:Tr (decide (((limbs (val ds)).length:Int)=0)=false)→val ds≠0:=fun c e=>df c (by omega);have hfin:∀ N,val ds≠0→PSub (ag (st [ztc N (if decide (zx a<0)=true then -((val (limbs ((zx a).natAbs/(zx a).natAbs.gcd (val ds))):Nat):Int) else((val (limbs ((zx a).natAbs/(zx a).natAbs.gcd (val ds))):Nat):Int)),ntx (limbs (val ds/(zx a).natAbs.gcd (val ds)))])) (ag (rtc (max N m) (mkRat (zx a) (val ds)))):=fun N h =>
  yT2 (num_eq h) (bJ (z:=zx a) h).2.2.symm (by omega) (zab (hq2 _) (by omega))
 have hup:∀ {N K:Nat} {q:Rat},N≤K→PSub (ag (rtc N q)) (ag (rtc K q)):=fun h=>cF h rfl;refine fw [.cell 4 29,.tmp 5] func90 fun X=>?_;iterate 2 refine u ?_
 refine tbx rfl fun b2=>(u fun b4=>?_);repeat refine u ?_
 refine zB rfl rfl (gG (by omega)) ?_;repeat refine u ?_
 refine ti (fun c0=>?_) fun c0=>?_;repeat refine u ?_
 refine zB rfl rfl (k7of (by(simp;done))) ?_;repeat refine u ?_
 refine e ⟨?_,?_⟩;rotate_left;refine ps_i (by(have e0:=dt c0;omega));repeat refine u ?_
 refine zB rfl rfl (qP (by omega)) ?_;repeat refine u ?_
 refine zA1 (oldf 1 1 rfl rfl rfl rfl) ?_;refine zB rfl rfl (yL8 (by omega)) ?_;repeat refine u ?_
 refine zB rfl rfl (yL8 (by omega)) ?_;repeat refine u ?_
 refine ti (fun c1=>?_) fun c1=>?_;repeat refine u ?_
 refine zB rfl rfl (kplain7 (by omega) (by omega)) ?_;iterate 3 refine u ?_
 refine zL 13 mixed rfl rfl ?_;repeat refine u ?_
 refine d1 (oldf 1 0 rfl rfl rfl rfl) ?_;repeat refine u ?_
 refine d1 (oquw rfl rfl ?_) ?_;rotate_left;refine zC rfl rfl (k1of ?_) ?_;rotate_left;repeat refine u ?_
 refine zC rfl rfl (qP ?_) ?_;rotate_left;repeat refine u ?_
 refine d1 (oquw rfl rfl ?_) ?_;rotate_left;refine zC rfl rfl (k1of ?_) ?_;rotate_left;repeat refine u ?_
 refine zH 0 rfl rfl ?_;repeat refine u ?_
 refine⟨[_,_],zN 0 rfl (rst rfl rs0),aF ?_ ?_⟩;rotate_left;refine ps_i (by(have e0:=df c0;have e1:=dand c1;omega));repeat refine u ?_
 refine zA1 (oldf 1 1 rfl rfl rfl rfl) ?_;repeat refine u ?_
 refine zB rfl rfl (kgcd (yF _) hd (by omega) (by omega)) ?_;repeat refine u ?_
 refine zA1 (oldf 1 1 rfl rfl rfl rfl) ?_;repeat refine u ?_
 refine zB rfl rfl (yX3 (by omega) ?_ ?_) ?_;rotate_left;rotate_left;repeat refine u ?_
 refine zA1 (omv rfl) ?_;repeat refine u ?_
 refine zB rfl rfl (yX3 (by omega) ?_ ?_) ?_;rotate_left;rotate_left;repeat refine u ?_
 refine zA1 (ofo rfl) ?_;refine zA1 (oldf 1 0 rfl rfl rfl rfl) ?_;repeat refine u ?_
 refine zB rfl rfl (qP ?_) ?_;rotate_left;repeat refine u ?_
 refine zH 0 rfl rfl ?_;repeat refine u ?_
 refine⟨[_,_],zN 0 rfl (rst rfl rs0),aF ?_ ?_⟩;rotate_left;refine ps_i (by(have e0:=df c0;have e1:=dor c1;omega))
 ·have hk0:val ds=0:=by have:=dt c0;omega
  rw[hk0,Rat.mkRat_zero];exact cF (by omega) rfl
 ·obtain⟨e1,e2,h1,h2,h3⟩:=aQ (hz c0) c1;rw[e1,e2];exact⟨h1,h2⟩
 ·obtain⟨e1,e2,h1,h2,h3⟩:=aQ (hz c0) c1;rw[e1,e2];exact zbG (zbs _ _) h2
 ·obtain⟨e1,e2,h1,h2,h3⟩:=aQ (hz c0) c1;rw[e1,e2];have:=hq1 (Nat.gcd (zx a).natAbs (val ds));omega
 ·obtain⟨e1,e2,h1,h2,h3⟩:=aQ (hz c0) c1;rw[e1,e2];exact⟨h1,h3⟩
 ·obtain⟨e1,e2,h1,h2,h3⟩:=aQ (hz c0) c1;rw[e1,e2];exact zbG (zbs _ _) h3
 ·obtain⟨e1,e2,h1,h2,h3⟩:=aQ (hz c0) c1;rw[e1,e2];exact fun M w v k=>hup (by have:=hq1 (Nat.gcd (zx a).natAbs (val ds));omega) _ _ _ (hfin _ (hz c0) M w v k)
 all_goals rw[zJ (zx a).natAbs]
 ·have:=hgl (hz c0);omega
 ·rw[zJ];exact Nat.ne_of_gt (zda _ (zbf (hz c0)))
 ·have:=hgl (hz c0);omega
 ·rw[zJ];exact Nat.ne_of_gt (zda _ (zbf (hz c0)))
 ·have:=hq1 (val (limbs (Nat.gcd (zx a).natAbs (val ds))));omega
 ·rw[zJ (Nat.gcd _ _)];exact fun M w v k=>hup (by have:=hq1 (Nat.gcd (zx a).natAbs (val ds));omega) _ _ _ (hfin _ (hz c0) M w v k)
theorem zI0 {Ψ Φ:PV}{n m k:Nat}{z:Int}[h:VZ Ψ n z][h':VN Φ m k](hn:n≤2000)(hm:m≤2000):CTy prog 90 [Ψ,Φ] (tu [ag (rtc (max n m+2) (mkRat z k)),exP (.int .i64 (if k=0 then 30 else 0))]) :=
 ⟨(bo func90),fun M w vs hM hT hv=>by
  obtain⟨v,u,rfl,h1,h2⟩:=fa2 hv;obtain⟨s,a,rfl,g⟩:=h.h h1;obtain⟨b,b0,b1,b2,b3⟩:=tY g;obtain⟨ds,d1,d2,d3⟩:=(h'.h h2).ex;subst b2 d3;exact(xB4 b0 d1.lt b1 d2 hn hm).run M w _ hM hT ⟨_,_,rfl,b3,_,_,rfl,⟨_,rfl,d1⟩,rfl⟩⟩
theorem w7norm {a:(Bool×List Nat)×List Nat}{n:Nat}(ha:∀ x∈a.1.2,x<4294967296)(hd:∀ x∈a.2,x<4294967296)(h1:a.1.2.length≤n)(h2:a.2.length≤n)(hn:n≤1999):CTy prog 64 [ag (rxx a)] (ag (rtc (n+2) (mkRat (zx a.1) (val a.2)))):=by
 refine fw [.cell 2 29] func64 fun X=>?_;iterate 3 refine u ?_
 refine u fun b2=>?_;repeat refine u ?_
 refine zB rfl rfl (xB4 (n:=n) (m:=n) ha hd h1 h2 (by omega) (by omega)) ?_;iterate 3 refine u ?_
 refine u fun b3=>?_;refine u ?_;refine zR (zU (s:=3) 0 rfl rfl) ?_;repeat refine u ?_
 refine zH 0 rfl rfl ?_;repeat refine u ?_
 refine⟨[_],zN 0 rfl rs0,yJ ?_⟩;exact cF (by omega) rfl
theorem jO {Ψ:PV}{n:Nat}{p:Rat}[h:QR Ψ n p](hn:n≤1999):CTy prog 64 [Ψ] (ag (rtc (n+1) p)) :=
 ⟨(bo func64),fun M w vs hM hT hv=>by
  obtain⟨v,rfl,h1⟩:=fa1 hv;obtain⟨a,e1,e2,e3,e4,e5,e6⟩:=qr_x h1;obtain⟨s,x,d,rfl,g1⟩:=h.h h1;subst e1;exact((w7norm e2 e3 e4 e5 hn).run M w _ hM hT ⟨_,_,rfl,e6,rfl⟩).mono fun r w' ⟨hB,us,k1,t,y,z,k2,g⟩=>⟨hB,us,k1,t,y,z,k2,g.relen g1.rlen⟩⟩
section
variable {Ψ Φ : PV} {n m k j N : Nat} {y z : Int} {p q : Rat}
theorem wX [h:VN Ψ n k](hn:n≤1000000):CTy prog 67 [Ψ] (ag (ztq n ((k:Nat):Int))):=by
 refine yE (σs:=[sv (ntq n k)]) ?_ (fs1 (fun M w v g=>⟨v,rfl,h.h g⟩) fs0);refine fw [.cell 2 27] func67 fun X=>?_;iterate 2 refine u ?_
 refine u fun b2=>?_;repeat refine u ?_
 refine zH 0 rfl rfl ?_;repeat refine u ?_
 refine⟨[_],zN 0 rfl rs0,yJ ?_⟩;exact(vz_q:PSub (ag (st [xc (.bool false),ntq n k])) (ag (ztq n (if false=true then -((k:Nat):Int) else((k:Nat):Int)))))
theorem yC8 [h:VN Ψ n k][h':VN Φ m j](hn:n≤100000000)(hm:m≤100000000):CTy prog 91 [Ψ,Φ] (sv (ntc (n+m) (k*j))):=ctn2 (bo func91) fun xs ys h1 h2 h3 h4 h5 h6=>by
 subst h3 h6;exact gQ (xG5 (by omega) (by omega)) (xD5 (zab (aL (yL _ h1) (yL _ h4)) (by omega)))
theorem ps_num (h1:z=q.num)(h2:k=q.den)(hn:n≤N)(hm:m≤N):PSub (ag (st [ztc n z,ntc m k])) (ag (rtc N q)):=fun M w v ⟨us,e,x,y,e1,⟨s,a,k1,g1⟩,d,o,e2,⟨b,k2,g2,g3⟩,e3⟩=>by
 subst h1;subst h2;subst k1;subst k2;obtain rfl:o=[]:=e3;obtain⟨xs,j1,j2,j3⟩:=g2.ex;exact⟨us,e,s,a,b,by rw[e1,e2];rfl,g1.sgn,g1.num,g3,zab g1.len hn,zab (by rw[← j3];exact zV _ j1.lt) (zab j2 hm)⟩
theorem sX (e:p=q)(h:rlen q m):PSub (ag (rtc n p)) (ag (rtc m q)):=fun _ _ _ ⟨us,e1,s,a,d,e2,g⟩=>⟨us,e1,s,a,d,e2,by subst e;exact g.relen h⟩
theorem xG2 [h:QR Ψ n p](hn:n≤1990):CTy prog 92 [Ψ] (ag (rtc (n+1) (-p))):=by
 refine yE (σs:=[ag (rtq n p)]) ?_ (fs1 qr_q fs0);refine fw [.cell 2 29] func92 fun X=>?_;iterate 2 refine u ?_
 refine tbx rfl fun b1=>(u fun b2=>?_);repeat refine u ?_
 refine zB rfl rfl (jO (by omega)) ?_;iterate 3 refine u ?_
 refine zL 6 mixed rfl rfl ?_;repeat refine u ?_
 refine d1 (oldf 1 0 rfl rfl rfl rfl) ?_;refine zC rfl rfl (yX1 (by omega)) ?_;repeat refine u ?_
 refine d1 (oldf 1 2 rfl rfl rfl rfl) ?_;repeat refine u ?_
 refine zH 0 rfl rfl ?_;repeat refine u ?_
 refine⟨[_],zN 0 rfl rs0,yJ ?_⟩;exact ps_num (Rat.neg_num p).symm (Rat.neg_den p).symm (zac _) (zac _)
theorem w7two (h1:rlen p n)(h2:rlen q m)(hn:n≤990)(hm:m≤990):CTy prog 89 [ag (rtc n p),ag (rtc m q)] (ag (rtc (n+m+1) (p+q))):=by
 refine fw [.cell 4 29] func89 fun X=>?_;iterate 4 refine u ?_
 refine u fun b4=>?_;iterate 2 refine u ?_
 apply yO 1 28 26 [(25,5,0),(26,1000026,0)] rfl rfl mixed rfl rfl rfl;repeat refine u ?_
 refine cx1 (oca rfl rfl fun _=>wX (by omega)) rfl ?_;refine cx1 (obs rfl rfl rfl rfl rfl rfl) rfl ?_;refine cx1 (oca rfl rfl fun _=>nB (by omega) (by(simp;done))) rfl ?_;repeat refine u ?_
 refine cx1 (oca rfl rfl fun _=>wX (by omega)) rfl ?_;refine cx1 (obs rfl rfl rfl rfl rfl rfl) rfl ?_;refine cx1 (oca rfl rfl fun _=>nB (by omega) (by(simp;done))) rfl ?_;refine cx1 (obs rfl rfl rfl rfl rfl rfl) rfl ?_;refine cx1 (oca rfl rfl fun _=>yX2 (by omega) (by(simp;done))) rfl ?_;repeat refine u ?_
 refine cx1 (oca rfl rfl fun _=>yC8 (by omega) (by omega)) rfl ?_;refine cx1 (oca rfl rfl fun _=>zI0 (by omega) (by omega)) rfl ?_;repeat refine u ?_
 refine cN rfl rfl (cal) (cS rfl rfl rfl (cst rfl rfl rfl) ?_);repeat refine u ?_
 refine cE (fun b5=>?_);refine fm ?_;repeat refine u ?_
 refine e ?_;exact sX (yE0 p q) (jF h1 h2)
theorem k7newL [h:VZ Ψ n z][h':VN Φ m k](hn:n≤2000)(hm:m≤2000)(e:mkRat z k=q)(hr:rlen q N):CTy prog 90 [Ψ,Φ] (tu [ag (rtc N q),exP (.int .i64 (if k=0 then 30 else 0))]):=by
 subst e;refine gQ (zI0 hn hm) fun M w v ⟨vs,e,hv⟩=>⟨vs,e,fs1 (sX rfl hr) (fs1 (PSub.refl _) fs0) _ _ _ hv⟩
theorem w7add {l:List Rat}(hn:n≤970)(hlen:l.length≤2)(hr:∀ x∈l,rlen x (n+1)):CTy prog 27 [sv (sl 3 (l.map (rtq n)))] (ag (rtc (2*n+8) (sumR l))):=by
 refine fw [.cell 2 29] func27 fun X=>?_;iterate 2 refine u ?_
 refine u fun b2=>?_;repeat refine u ?_
 refine zB rfl rfl (k7of (k:=0) (by omega)) ?_;refine u fun b3=>?_;repeat refine u ?_
 refine lp (σ:=Nat) [0,2,3] (fun s=>[(4,True,zI s)]) (fun s=>[.blk b3 29 [rtc (2+(n+2)*s) (sumR (l.take s))],.blk b2 29 (zc (.agg #[.bool false,.slice none 0 0,.slice none 0 0]))]) (fun s=>s≤l.length∧rlen (sumR (l.take s)) (2+(n+2)*s)) (fun s=>l.length-s) (0) (⟨by omega,by simp[sumR];exact zO oG (by omega)⟩) fun s hJ Y _=>?_;obtain⟨h1,h2⟩:=hJ;have hg:s<l.length→rlen (l.getD s Df.d) (n+1):=fun h=>hr _ (rO h);have he:(n+2)*(s+1)=(n+2)*s+(n+2):=Nat.mul_succ _ _;have hs2:s≤1→(n+2)*s≤n+2:=fun h=>by have:=zbm (n+2) h;omega
 repeat refine u ?_
 refine ti (fun c0=>?_) fun c0=>?_;iterate 3 refine u ?_
 refine zL 7 mixed rfl rfl ?_;repeat refine u ?_
 refine d1 (oix _ rfl rfl rfl (fun _=>rfl) (fun _=>(by(have e0:=dt c0;omega)))) ?_;repeat refine u ?_
 refine zC rfl rfl (jO (by omega)) ?_;refine zC rfl rfl (w7two h2 (hg (by(have e0:=dt c0;omega))) (by(have e0:=dt c0;omega)) (by omega)) ?_;repeat refine u ?_
 rotate_left;repeat refine u ?_
 refine e ?_;rotate_left
 ·have hs:s<l.length:=by have:=dt c0;omega
  have:=hs2 (by omega);refine⟨s+1,tes ?_ ?_ ?_,?_,(by omega)⟩;refine zA rfl tn;refine zA rfl (zA rfl (zA rfl tn));rotate_left;rotate_left
  ·rw[wA hs,he,show 2+((n+2)*s+(n+2))=2+(n+2)*s+(n+1)+1 by omega];exact zaa _
  ·exact⟨hs,by rw[wA hs,he];exact zO (jF h2 (hg hs)) (by omega)⟩
 ·obtain rfl:s=l.length:=by have:=df c0;omega
  have:(n+2)*l.length≤(n+2)*2:=zbm _ hlen;exact cF (by omega) (by rw[zaS])
theorem k7addl {l:List Rat}[h:VQ Ψ n l](hn:n≤970)(hlen:l.length≤2):CTy prog 27 [Ψ] (ag (rtc (2*n+8) (sumR l))) :=
 ⟨(bo func27),fun M w vs hM hT hv=>by
  obtain⟨v,e,h1⟩:=fa1 hv;have hq:=h.h h1;exact(w7add hn hlen fun x hx=>by
   obtain⟨cs,h3,h2⟩:=hq.row;obtain⟨i,hi,rfl⟩:=zaZ.1 hx;obtain⟨us,_,_,s,a,d,_,g⟩:=h2 i _ (zah hi);exact g.rlen).run M w vs hM hT (fs1 vq_q fs0 _ _ _ hv)⟩
theorem sum2 (p q:Rat):sumR [p,q]=p+q:=by simp[sumR,Rat.zero_add]
theorem nA [h:VQ Ψ n [p,q]](hn:n≤970):CTy prog 27 [Ψ] (ag (rtc (2*n+8) (p+q))):=by rw[← sum2];exact k7addl hn (by simp)
end
section
variable {Ψ Φ : PV} {n m : Nat} {p q : Rat}
theorem rlen2 [h:QR Ψ n p][k:QR Φ m q]{M:Nat→Prop}{w:World}{vs:List Value}(hv:Fa [Ψ,Φ] M w vs):rlen p (n+1)∧rlen q (m+1):=by
 obtain⟨v,u,_,h1,h2⟩:=fa2 hv;obtain⟨_,_,_,_,g1⟩:=h.h h1;obtain⟨_,_,_,_,g2⟩:=k.h h2;exact⟨g1.rlen,g2.rlen⟩
theorem xD2 [h:QR Ψ n p]:PSub Ψ (ag (rtq (n+1) p)):=fun _ _ _ x=>by obtain⟨s,a,d,e,g⟩:=h.h x;exact⟨_,e,s,a,d,rfl,g.up (zbq n)⟩
theorem yZ8 [h:QR Ψ n p][k:QR Φ m q]{P:Program}{f:FuncId}{ρ:PV}(hb:Bod P f)(hr:rlen p (n+1)→rlen q (m+1)→CTy P f [ag (rtq (n+1) p),ag (rtq (m+1) q)] ρ):CTy P f [Ψ,Φ] ρ :=
 ⟨hb,fun M w vs hM hT hv=>by
  obtain⟨g1,g2⟩:=rlen2 hv;exact(hr g1 g2).run M w vs hM hT ((fs1 (xD2 (h:=h)) (fs1 (xD2 (h:=k)) fs0)) _ _ _ hv)⟩
theorem mZ [h:QR Ψ n p][k:QR Φ m q](hn:n≤950)(hm:m≤950):CTy prog 29 [Ψ,Φ] (ag (rtc (n+m+3) (p-q))):=yZ8 (bo func29) fun g1 g2=>by
 refine fw [.cell 4 29] func29 fun X=>?_;iterate 4 refine u ?_
 refine u fun b4=>?_;iterate 2 refine u ?_
 refine zL 5 mixed rfl rfl ?_;repeat refine u ?_
 refine zC rfl rfl (xG2 (by omega)) ?_;repeat refine u ?_
 refine zC rfl rfl (nA (by omega)) ?_;repeat refine u ?_
 refine e ?_;exact sX (zcP p q).symm (by rw[zcP];exact zO (jF g1 (uI g2)) (by omega))
theorem yL0 [h:QR Ψ n p][k:QR Φ m q](hn:n≤950)(hm:m≤950):CTy prog 45 [Ψ,Φ] (tu [ag (rtc (n+m+3) (p/q)),exP (.int .i64 (if q=0 then 30 else 0))]):=yZ8 (bo func45) fun g1 g2=>by
 refine fw [.cell 4 29,.tmp 5] func45 fun X=>?_;iterate 2 refine u ?_
 refine tbx rfl fun b2=>(tbx rfl fun b3=>(u fun b4=>?_));iterate 3 refine u ?_
 refine zL 4 mixed rfl rfl ?_;repeat refine u ?_
 refine zC rfl rfl (jO (by omega)) ?_;repeat refine u ?_
 refine zC rfl rfl (jO (by omega)) ?_;iterate 6 refine u ?_
 apply t_ts (zU 2 rfl (s:=2) rfl);apply t_ts (zU 1 rfl (s:=3) rfl);refine zL 19 mixed rfl rfl ?_;repeat refine u ?_
 refine zC rfl rfl (nB (by omega) (by(simp;done))) ?_;repeat refine u ?_
 refine zC rfl rfl (yC8 (by omega) (by omega)) ?_;refine zC rfl rfl (zI0 (by omega) (by omega)) ?_;repeat refine u ?_
 refine zH 0 rfl rfl ?_;repeat refine u ?_
 refine⟨[_,_],zN 0 rfl (rst rfl rs0),aF ?_ ?_⟩;rotate_left;refine ps_i ?_;rotate_left
 ·exact sX (xD0 p q) (zO (mL g1 g2) (by omega))
 ·exact xD1 p q
theorem gO [h:QR Ψ n p][k:QR Φ m q](hn:n≤1990)(hm:m≤1990):CTy prog 16 [Ψ,Φ] (exP (.int .i64 (cmpR p q))):=by
 refine yE (σs:=[ag (rtq n p),ag (rtq m q)]) ?_ (fs1 qr_q (fs1 qr_q fs0));refine fw [.tmp 4] func16 fun X=>?_;iterate 2 refine u ?_
 refine tbx rfl fun b2=>(tbx rfl fun b3=>?_);iterate 3 refine u ?_
 refine zL 4 mixed rfl rfl ?_;repeat refine u ?_
 refine zC rfl rfl (jO (by omega)) ?_;repeat refine u ?_
 refine zC rfl rfl (jO (by omega)) ?_;iterate 6 refine u ?_
 refine zL 17 mixed rfl rfl ?_;repeat refine u ?_
 refine d1 (oldf 1 0 rfl rfl rfl rfl) ?_;repeat refine u ?_
 refine d1 (oldf 0 2 rfl rfl rfl rfl) ?_;refine zC rfl rfl (wX (by omega)) ?_;repeat refine u ?_
 refine zC rfl rfl (nB (by omega) (by(simp;done))) ?_;repeat refine u ?_
 refine d1 (oldf 0 0 rfl rfl rfl rfl) ?_;repeat refine u ?_
 refine d1 (oldf 1 2 rfl rfl rfl rfl) ?_;refine zC rfl rfl (wX (by omega)) ?_;repeat refine u ?_
 refine zC rfl rfl (nB (by omega) (by(simp;done))) ?_;refine zC rfl rfl (zW4 (by omega) (by omega)) ?_;refine zC rfl rfl (yC7 (by omega)) ?_;repeat refine u ?_
 refine e ?_;refine ps_i ?_;exact xA2 p q
theorem k7same [h:QR Ψ n p][k:QR Φ m q](hn:n≤1990)(hm:m≤1990):CTy prog 26 [Ψ,Φ] (exP (.bool (decide (cmpR p q=0)))):=by
 refine yE (σs:=[ag (rtq n p),ag (rtq m q)]) ?_ (fs1 qr_q (fs1 qr_q fs0));refine fw [.tmp 4] func26 fun X=>?_;repeat refine u ?_
 refine zB rfl rfl (gO (by omega) (by omega)) ?_;repeat refine u ?_
 exact e
end
theorem w7sign {a:(Bool×List Nat)×List Nat}{n:Nat}(ha:∀ x∈a.1.2,x<4294967296)(hd:∀ x∈a.2,x<4294967296)(h1:a.1.2.length≤n)(h2:a.2.length≤n)(hn:n≤500000):CTy prog 15 [ag (rxx a)] (exP (.int .i64 (sgnR (mkRat (zx a.1) (val a.2))))):=by
 have e:=@zS (val a.2);refine fw [.tmp 2] func15 fun X=>?_;repeat refine u ?_
 refine zB rfl rfl (gG (by omega)) ?_;repeat refine u ?_
 refine ti (fun c0=>?_) fun c0=>?_;repeat refine u ?_
 refine⟨[_],rst rfl rs0,yJ ?_⟩;refine ps_i ?_;rotate_left;repeat refine u ?_
 refine zB rfl rfl (yC7 (by omega)) ?_;repeat refine u ?_
 refine⟨[_],rst rfl rs0,yJ ?_⟩;refine ps_i ?_;rotate_left
 ·have h0:val a.2=0:=by have:=dt c0;omega
  rw[h0,Rat.mkRat_zero];rfl
 ·have h0:val a.2≠0:=fun c=>df c0 (by omega);exact sgn_mk h0
theorem oR {Ψ:PV}{n:Nat}{p:Rat}[h:QR Ψ n p](hn:n≤500000):CTy prog 15 [Ψ] (exP (.int .i64 (sgnR p))) :=
 ⟨(bo func15),fun M w vs hM hT hv=>by
  obtain⟨v,rfl,h1⟩:=fa1 hv;obtain⟨a,e1,e2,e3,e4,e5,e6⟩:=qr_x h1;subst e1;exact(w7sign e2 e3 e4 e5 hn).run M w _ hM hT ⟨_,_,rfl,e6,rfl⟩⟩
theorem w7mul {l:List Rat}{n:Nat}(hn:n≤970)(hlen:l.length≤2)(hr:∀ x∈l,rlen x (n+1)):CTy prog 28 [sv (sl 3 (l.map (rtq n)))] (ag (rtc (2*n+8) (lF l))):=by
 have r1:rlen (1:Rat) 1:=⟨by rw[show (1:Rat).num.natAbs=1 from rfl,xS];simp,by rw[show (1:Rat).den=1 from rfl,xS];simp⟩;refine fw [.cell 2 29] func28 fun X=>?_;iterate 2 refine u ?_
 refine u fun b2=>?_;repeat refine u ?_
 refine zB rfl rfl (k7of (k:=1) (by omega)) ?_;refine u fun b3=>?_;repeat refine u ?_
 refine lp (σ:=Nat) [0,2,3] (fun s=>[(4,True,zI s)]) (fun s=>[.blk b3 29 [rtc (2+(n+2)*s) (lF (l.take s))],.blk b2 29 (zc (.agg #[.bool false,.slice none 0 0,.slice none 0 0]))]) (fun s=>s≤l.length∧rlen (lF (l.take s)) (2+(n+2)*s)) (fun s=>l.length-s) (0) (⟨by omega,zO r1 (by omega)⟩) fun s hJ Y _=>?_;obtain⟨h1,h2⟩:=hJ;have hg:s<l.length→rlen (l.getD s Df.d) (n+1):=fun h=>hr _ (rO h);have he:(n+2)*(s+1)=(n+2)*s+(n+2):=Nat.mul_succ _ _;have hs2:s≤1→(n+2)*s≤n+2:=fun h=>by have:=zbm (n+2) h;omega
 repeat refine u ?_
 refine ti (fun c0=>?_) fun c0=>?_;repeat refine u ?_
 refine zA1 (oix _ rfl rfl rfl (fun _=>rfl) (fun _=>(by(have e0:=dt c0;omega)))) ?_;repeat refine u ?_
 refine zB rfl rfl (jO (by omega)) ?_;refine u fun b5=>?_;refine u ?_;refine zR (zU (s:=5) 0 rfl rfl) ?_;refine u ?_;apply cC 16 0 15 [0,0,0,0,0,0,0,0,0,0,0,0,0,0,1,2] [rtc (2+(n+2)*(s+1)) (lF (l.take (s+1)))] rfl mixed rfl rfl;repeat refine u ?_
 refine tdx0 ?_;refine d1 (oldf 0 0 rfl rfl rfl rfl) ?_;repeat refine u ?_
 refine tdx0 ?_;refine zC rfl rfl (nB (by(have e0:=dt c0;omega)) (by(simp;done))) ?_;repeat refine u ?_
 refine tdx0 ?_;refine d1 (oldf 0 2 rfl rfl rfl rfl) ?_;repeat refine u ?_
 refine tdx0 ?_;refine zC rfl rfl (yC8 (by(have e0:=dt c0;omega)) (by omega)) ?_;repeat refine u ?_
 refine tdx0 ?_;refine zC rfl rfl (k7newL (q:=lF (l.take (s+1))) (N:=2+(n+2)*(s+1)) (by(have e0:=dt c0;omega)) (by(have e0:=dt c0;omega)) ?_ ?_) ?_;rotate_left;rotate_left;repeat refine u ?_
 refine tdx2 rfl (ckvt rfl rfl rfl rfl rfl rfl) ?_;repeat refine u ?_
 rotate_left;repeat refine u ?_
 refine e ?_;rotate_left
 ·have hs:s<l.length:=by have:=dt c0;omega
  rw[lO hs,yC5];rfl
 ·have hs:s<l.length:=by have:=dt c0;omega
  rw[lO hs,he];exact zO (uJ h2 (hg hs)) (by omega)
 ·have hs:s<l.length:=by have:=dt c0;omega
  have:=hs2 (by omega);refine⟨s+1,tes ?_ ?_ (zaa _),?_,(by omega)⟩;refine zA rfl tn;refine zA rfl (zA rfl (zA rfl tn));exact⟨hs,by rw[lO hs,he];exact zO (uJ h2 (hg hs)) (by omega)⟩
 ·obtain rfl:s=l.length:=by have:=df c0;omega
  have:(n+2)*l.length≤(n+2)*2:=zbm _ hlen;exact cF (by omega) (by rw[zaS])
theorem xG3 {Ψ:PV}{n:Nat}{p q:Rat}[h:VQ Ψ n [p,q]](hn:n≤970):CTy prog 28 [Ψ] (ag (rtc (2*n+8) (p*q))) :=
 ⟨(bo func28),fun M w vs hM hT hv=>by
  obtain⟨v,e,h1⟩:=fa1 hv;have hq:=h.h h1;rw[show p*q=lF [p,q] by simp[lF,Rat.one_mul]];exact(w7mul hn (by simp) fun x hx=>by
   obtain⟨cs,h3,h2⟩:=hq.row;obtain⟨i,hi,rfl⟩:=zaZ.1 hx;obtain⟨us,_,_,s,a,d,_,g⟩:=h2 i _ (zah hi);exact g.rlen).run M w vs hM hT (fs1 vq_q fs0 _ _ _ hv)⟩
theorem fE {Ψ:PV}{n:Nat}{p q:Rat}[h:VQ Ψ n [p,q]](hn:n≤970):CTy prog 28 [Ψ] (ag (rtc (2*n+8) (p*q))):=xG3 hn
theorem oH {p q:Rat}{A B:Nat}(h1:rlen p A)(h2:rlen q B):rlen (p-q) (A+B+1):=by
 rw[zcP];exact jF h1 (uI h2)
theorem rlen_height {lo hi x:Rat}{l:P2}{a b c e:Nat}(h1:rlen lo a)(h2:rlen hi b)(h3:rlen x c)(h4:rlen l.1 e)(h5:rlen l.2 e)(h:lo<hi):rlen (xF l (qE lo hi x)) (2*a+b+c+3*e+5):=by
 unfold xF qE;rw[if_pos h];exact zO (jF h4 (uJ (mL (oH h3 h1) (oH h2 h1)) (oH h5 h4))) (by omega)
theorem PL.rl {M:Nat→Prop}{w:World}{n:Nat}{l:List P2}{v:Value}(h:PL M w n l v):∀ x∈l,rlen x.1 (n+1)∧rlen x.2 (n+1):=fun x hx=>by
 obtain⟨cs,h1,h2⟩:=h.row;obtain⟨i,hi,rfl⟩:=zaZ.1 hx;obtain⟨us,h3,h4,s,a,d,t,b,e,e0,g⟩:=h2 i _ (zah hi);exact⟨g.x.rlen,g.y.rlen⟩
theorem hsL_take {lo hi x:Rat}{l:List P2}{s:Nat}(h:s<l.length):hsL lo hi x (l.take (s+1))=hsL lo hi x (l.take s)++[xF (l.getD s (0,0)) (qE lo hi x)]:=by
 rw[(zP ((0,0):P2) h).1];unfold hsL;simp
theorem geF {p q:Rat}(h:Tr (decide (0≤cmpR p q)=false)):p<q:=by have:=of_decide_eq_false h.h;rw[aO] at this;grind
theorem geT {p q:Rat}(h:Tr (decide (0≤cmpR p q)=true)):¬ p<q:=by have:=of_decide_eq_true h.h;rw[aO] at this;grind
theorem ht_no {p q:Rat}(hq:p<q)(h:Tr (decide ((if p<q then(0:Int) else 2)=0)=false)):False:=by rw[if_pos hq] at h;exact absurd h.h (by decide)
set_option maxHeartbeats 4000000 in
theorem w23height {l:P2}{lo hi x:Rat}{n a b c:Nat}(hn:n≤100)(ha:a≤100)(hb:b≤100)(hc:c≤100):CTy prog 308 [ag (ptq n l),ag (rtq a lo),ag (rtq b hi),ag (rtq c x)] (tu [ag (rtc (8*n+4*(2*a+b+c+15)+60) (fI l lo hi x)),exP (.int .i64 (if lo<hi then 0 else 2))]):=by
 refine ctc func308 rfl rfl rfl rfl fun X=>(zY (yH rfl (zA1 (obx rfl) (zA1 (obx rfl) (zA1 (obx rfl) (zA1 (obx rfl) ?_))))));refine tal fun b8=>?_;refine zA1 (oas rfl) (zA0 (zY (zY (yH rfl (zA1 (old rfl rfl) (zA1 (old rfl rfl) (zB rfl rfl (gO (by omega) (by omega)) ?_)))))));refine zA1 (oge rfl rfl) (zA0 ?_);refine t_if rfl (fun c0=>?_) (fun c0=>?_)
 ·refine zY ?_;refine yH rfl (zB rfl rfl (k7of (k:=0) (by omega)) (zH 0 rfl rfl (zA1 (oas rfl) (zA0 (kO ?_)))));have hq:=geT c0;exact⟨[_,_],zN 0 rfl (rst rfl rs0),aF (cF (by omega) (by unfold fI;rw[if_neg hq];rfl)) (ps_i (by rw[if_neg hq]))⟩
 ·refine bO ?_;refine zY ?_;apply yO 1 12 11 [(10,10,0),(11,1000011,0)] rfl rfl mixed rfl rfl rfl;refine cx1 (old rfl rfl) rfl (cx1 (old rfl rfl) rfl (cx1 (oca rfl rfl fun _=>mZ (by omega) (by omega)) rfl (cx1 (old rfl rfl) rfl (cx1 (old rfl rfl) rfl (cx1 (oca rfl rfl fun _=>mZ (by omega) (by omega)) rfl (cx1 (oca rfl rfl fun _=>yL0 (by omega) (by omega)) rfl (cx1 (omv rfl) rfl ?_)))))));refine cx1 (oex rfl rfl) rfl (cx1 (oex rfl rfl) rfl (cN rfl rfl (cal) (cS rfl rfl rfl (cst rfl rfl rfl) ?_)));refine cE (fun b10=>?_);refine zA1 (oas rfl) (zA0 (zY (zL 12 mixed rfl rfl (d1 (ofa rfl rfl) (d1 (old rfl rfl) (d1 (zK 0 rfl) (d1 (ofa rfl rfl) ?_)))))));refine d1 (old rfl rfl) (d1 (ofa rfl rfl) (d1 (old rfl rfl) (zC rfl rfl (mZ (by omega) (by omega)) (d1 (obs rfl rfl rfl rfl rfl rfl) (zC rfl rfl (xG3 (by omega)) (d1 (obs rfl rfl rfl rfl rfl rfl) (zC rfl rfl (nA (by omega)) ?_)))))));refine d0 (zH 1 rfl rfl (zA1 (oas rfl) (zA0 (kO ?_))));have hq:=geF c0;exact⟨[_,_],zN 1 rfl (rst rfl rs0),aF (cF (by omega) (by unfold fI xF qE;rw[if_pos hq,if_pos hq])) (ps_i (by rw[if_pos hq]))⟩
theorem k23height {Ψ Φ Θ Ξ:PV}{l:P2}{lo hi x:Rat}{n a b c:Nat}[QP Ψ n l][QR Φ a lo][QR Θ b hi][QR Ξ c x](hn:n≤100)(ha:a≤100)(hb:b≤100)(hc:c≤100):CTy prog 308 [Ψ,Φ,Θ,Ξ] (tu [ag (rtc (8*n+4*(2*a+b+c+15)+60) (fI l lo hi x)),exP (.int .i64 (if lo<hi then 0 else 2))]):=yE (w23height hn ha hb hc) (fs1 qp_q (fs1 qr_q (fs1 qr_q (fs1 qr_q fs0))))
set_option maxHeartbeats 4000000 in
theorem w23heights {l:List P2}{lo hi x:Rat}{n a b c:Nat}(hn:n≤100)(ha:a≤100)(hb:b≤100)(hc:c≤100)(hlen:l.length≤1000000)(hq:lo<hi):CTy prog 254 [ag (rtq a lo),ag (rtq b hi),ag (rtq c x),sv (sl 6 (l.map (ptq n)))] (sv (sl 3 ((hsL lo hi x l).map (rtc (8*n+4*(2*a+b+c+15)+60))))):=by
 refine ct (rs:=[8]) func254 rfl rfl rfl rfl rfl zV3 fun X=>(zY (yH rfl (zA1 (obx rfl) (zA1 (obx rfl) (zA1 (obx rfl) (zA1 (oas rfl) (zA0 ?_)))))));refine zY (yH rfl (zA1 (oas rfl) (zA0 (zY (zY (yH rfl (zA1 (oas rfl) ?_)))))));refine zA0 (bG (t_ts (xQ 29 3) ?_));refine yQ8 (σ:=Nat×Value) (fun z=>[(3,True,sv (sl 6 (l.map (ptq n)))),(4,True,pa (rtq a lo)),(5,True,pa (rtq b hi)),(6,True,pa (rtq c x)),(9,True,exP z.2),(10,True,zI z.1)]) (fun z=>[.row z.2 29 3 ((hsL lo hi x (l.take z.1)).map (rtc (8*n+4*(2*a+b+c+15)+60)))]) (fun z=>z.1≤l.length) (fun z=>l.length-z.1) ((0,.slice none 0 0)) (vX (zA rfl (zA rfl (zA rfl (zA rfl (zA rfl (tc rfl (ps_i rfl) tn)))))) rfl) (zaC _) (fun z hJ Y _=>?_);obtain⟨s,v9⟩:=z;dsimp only at hJ ⊢;refine zY (zY (yH rfl (zA1 (omv rfl) (zA1 (omv rfl) (zA1 (oln rfl) (zA1 (olt rfl rfl) (zA0 ?_)))))));refine t_if rfl (fun c0=>?_) (fun c0=>?_)
 ·have hc1:s<l.length:=by have:=dt c0;omega
  refine bO (zY (bG (zY ?_)));apply yO 1 13 12 [(11,11,0),(12,1000012,0)] rfl rfl mixed rfl rfl rfl;refine cx1 (omv rfl) rfl (cx1 (omv rfl) rfl (cx1 (oix s rfl rfl rfl (fun _=>rfl) (fun _=>by omega)) rfl (cx1 (old rfl rfl) rfl (cx1 (old rfl rfl) rfl (cx1 (old rfl rfl) rfl (cx1 (old rfl rfl) rfl (cx1 (oca rfl rfl fun _=>k23height (by omega) (by omega) (by omega) (by omega)) rfl ?_)))))));refine cx1 (omv rfl) rfl (cx1 (oex rfl rfl) rfl (cx1 (oex rfl rfl) rfl (cN rfl rfl (cal) (cS rfl rfl rfl (cst rfl rfl rfl) ?_))));refine cE (fun b11=>?_);refine zA1 (oas rfl) (zA0 (zY (yH rfl (zA1 (omv rfl) (zA1 (oeq rfl rfl) (zA0 ?_))))));refine t_if rfl (fun c1=>?_) (fun c1=>?_)
  ·refine yH rfl ?_;refine zA1 (omv rfl) (zA1 (zK 0 rfl) (zA1 (obs rfl rfl rfl rfl rfl rfl) ?_));refine tap 1 rfl rfl rfl (by simp[hsL];omega) rfl fun r35=>?_;refine zA1 (oas rfl) (zA0 (t_ts (ts_sub (List.sublist_cons_self _ _)) (yH rfl (zA1 (omv rfl) (zA1 (oad rfl rfl (by omega)) (zA1 (oas rfl) (zA0 ?_)))))));exact⟨(s+1,r35),vX (zA rfl (zA rfl (zA rfl (zA rfl (zA rfl (tc rfl (ps_i (by simp)) tn)))))) (by rw[hsL_take hc1,fI,if_pos hq];simp;rfl),(by dsimp only;omega),by dsimp only;omega⟩
  ·exact(ht_no hq c1).elim
 ·have hc1:=df c0;refine t_ts (yK 0 rfl (s:=9) rfl) ?_;rw[show l.take s=l from zaw (by omega)];refine oF (zY (yH rfl (zA1 (omv rfl) (zA1 (oas rfl) (zA0 (kO ?_))))));exact tr1 rfl (ps_r _)
noncomputable def lvOf (lo hi yl yh:Rat)(es:List (P2×P2)):List P2:=Classical.epsilon fun l=>if lo<hi then IsLv lo hi yl yh es l else l=[]
theorem mV {lo hi yl yh:Rat}{es:List (P2×P2)}{l:List P2}(h:if lo<hi then IsLv lo hi yl yh es l else l=[]):l=lvOf lo hi yl yh es:=by
 have h2:=zcF (p:=fun l=>if lo<hi then IsLv lo hi yl yh es l else l=[]) ⟨l,h⟩;show l=Classical.epsilon _;split at h
 ·rename_i c;simp only[if_pos c] at h2 ⊢; exact lv_uniq h h2
 ·rename_i c;simp only[if_neg c] at h2 ⊢; exact h.trans h2.symm
theorem cY {a b:P2}{x:Rat}{A B:Nat}(ha:plen a A)(hb:plen b A)(hx:rlen x B):rlen (zM a b x) (6*A+B+5):=by
 unfold zM;split
 ·exact zO lM (by omega)
 ·exact zO (ha.at_ hb (mL (mK hx ha.x) (mK hb.x ha.x))).y (by omega)
theorem zS7 {lo hi:Rat}{es:List (P2×P2)}{x:P2}:∀ {s:Nat},s≤es.length→(x∈jP lo hi es s ↔ ∃ e∈es.take s,aH lo hi e∧x=qO lo hi e)
 | 0,_=>by simp[jP]
 | s+1,h=>by
  have hg:es.getD s ((0,0),(0,0))=es[s]:=by simp[zag,zah (show s<es.length by omega)]
  rw[jP,zad,zS7 (s:=s) (by omega),hg,List.take_succ_eq_append_getElem (show s<es.length by omega)];simp only[zad,zan];constructor
  ·rintro(⟨e,h1,h2⟩ | h1)
   ·exact⟨e,.inl h1,h2⟩
   ·split at h1
    ·rename_i c;exact⟨_,.inr rfl,c,zan.1 h1⟩
    ·cases h1
  ·rintro⟨e,h1 | rfl,h2,h3⟩
   ·exact .inl ⟨e,h1,h2,h3⟩
   ·exact .inr (by rw[if_pos h2];exact zan.2 h3)
theorem mD {lo hi:Rat}{es:List (P2×P2)}{x:P2}:x∈jP lo hi es es.length ↔ ∃ e∈es,aH lo hi e∧x=qO lo hi e:=by
 rw[zS7 (zac _),zaS]
section
variable {Ψ Φ Θ Ξ : PV} {n0 n1 n2 n3 : Nat} {lo hi x : Rat} {l : List P2} [h0 : QR Ψ n0 lo] [h1 : QR Φ n1 hi] [h2 : QR Θ n2 x] [h3 : VPt Ξ n3 l]
theorem hts_k {P:Program}{f:FuncId}{N:Nat}(hq:lo<hi)(h:CTy P f [ag (rtq n0 lo),ag (rtq n1 hi),ag (rtq n2 x),sv (sl 6 (l.map (ptq n3)))] (sv (sl 3 ((hsL lo hi x l).map (rtc N))))) :
  CTy P f [Ψ,Φ,Θ,Ξ] (sv (sl 3 ((hsL lo hi x l).map (rtc (2*n0+n1+n2+3*n3+12))))) :=
 ⟨h.bod,fun M w vs hM hT hv=>by
  refine(h.run M w vs hM hT ((fs1 qr_q (fs1 qr_q (fs1 qr_q (fs1 pE fs0)))) _ _ _ hv)).mono fun r w' ⟨hB,y⟩=>⟨hB,?_⟩;obtain⟨v0,v1,v2,v3,rfl,k0,k1,k2,k3⟩:=fa4 hv;obtain⟨s0,a0,d0,rfl,g0⟩:=h0.h k0;obtain⟨s1,a1,d1,rfl,g1⟩:=h1.h k1;obtain⟨s2,a2,d2,rfl,g2⟩:=h2.h k2;have hr:=(h3.h k3).rl;obtain⟨cs,f1,f2⟩:=zN1 (R:=RQc N) (f:=rtc N) (fun _=>rfl) (fun a us h=>h) y;refine cD (R:=RQc (2*n0+n1+n2+3*n3+12)) (fun _=>rfl) (fun a us _ ⟨s,b,c,e,f⟩=>⟨s,b,c,e,f⟩) ⟨cs,f1,fun i a ha=>?_⟩;obtain⟨us,f3,f4,s,b,c,f5,f6⟩:=f2 i a ha;refine⟨us,f3,f4,s,b,c,f5,f6.relen ?_⟩;have ham:=zav ha;unfold hsL at ham;obtain⟨p,hp,rfl⟩:=zaj.1 ham;exact zO (rlen_height g0.rlen g1.rlen g2.rlen (hr p hp).1 (hr p hp).2 hq) (by omega)⟩
theorem k23heights (hl0:n0≤100)(hl1:n1≤100)(hl2:n2≤100)(hl3:n3≤100)(hlen:l.length≤1000)(hq:lo<hi):CTy prog 254 [Ψ,Φ,Θ,Ξ] (sv (sl 3 ((hsL lo hi x l).map (rtc (2*n0+n1+n2+3*n3+12))))) :=
 hts_k hq (w23heights (by omega) (by omega) (by omega) (by omega) (by omega) hq)
end
end Go.Proofs.YtalkinejknjidaaGreatDoor
namespace Go.Proofs.YtalkinejknjidaaGreatDoor
open Go Go.SL Go.RowKit Go.Proofs Go.ChangeShapes Go.WideShapes Go.ChangeAt Go.Deep Tryz
abbrev F0:Nat→Prop:=fun _=>False
structure Opn {H:Type}(enc:TypeId×Value→H)(P:Program)(W:World)(B:Nat)(t:TypeId){α:Type}(sz:Nat)(f:α→CT)(Bd:α→Prop):Prop where
 c:P.cellsOf t=sz
 s:∀ a,(f a).sz=sz
 o:∀ {fuel:Nat} {cs:List Value} {x:DataW H×List MemPlace},(∀ m∈x.1.weights P t,m≤B)→DataW.trod enc P W 0 (fun _=>true) true fuel t cs=some x→∃ a,(f a).p F0 W cs∧Bd a
def Two (P:Program)(t zA0 zA1:TypeId)(k0 k1:Nat):Prop:=∃ fs f0 f1,P.underlying t=some (.struct fs)∧fs[0]? = some f0∧fs[1]? = some f1∧f0.type=zA0∧f1.type=zA1∧f0.offset=0∧f1.offset=k0∧P.cellsOf t=k0+k1
section
variable {H : Type} {enc : TypeId × Value → H} {P : Program} {W : World} {B : Nat}
theorem dY {e:TypeId}{m:Nat}{d:DataW H}(hm:m∈d.weights P e):∀ {l:List (DataW H)},d∈l→m∈DataW.weightsAll P e l
 | c::l,h=>by
  simp only[DataW.weightsAll,zad];rcases zae.1 h with rfl | h
  ·exact .inl hm
  ·exact .inr (dY hm h)
theorem zO6 {α β:Type}{t zA0 zA1:TypeId}{k0 k1:Nat}{f:α→CT}{g:β→CT}{Bf:α→Prop}{Bg:β→Prop}(ht:Two P t zA0 zA1 k0 k1)(h0:Opn enc P W B zA0 k0 f Bf)(h1:Opn enc P W B zA1 k1 g Bg) :
  Opn enc P W B t (k0+k1) (fun a:α×β=>st [f a.1,g a.2]) (fun a=>Bf a.1∧Bg a.2):=by
 obtain⟨fs,f0,f1,u1,u2,u3,u4,u5,u6,u7,u8⟩:=ht;refine⟨u8,fun a=>by show (f a.1).sz+((g a.2).sz+0)=_;rw[h0.s,h1.s];rfl,fun {fuel cs x} hw h=>?_⟩;obtain⟨xs,n,_,hxe,hl,hx,hall⟩:=DataW.trod_struct u1 h;have l0:=(zar.1 u2).1;have l1:=(zar.1 u3).1;have e0:=hall 0 f0 u2;have e1:=hall 1 f1 u3;have n0:P.cellsOf f0.type=k0:=by rw[u4];exact h0.c
 have n1:P.cellsOf f1.type=k1:=by rw[u5];exact h1.c
 rw[u6,n0,List.drop_zero] at e0;rw[u7,n1] at e1;have hd:(cs.drop k0).length=k1:=by rw[zbo];omega
 rw[zaw (by omega)] at e1;have hwe:∀ m∈DataW.weightsEach P (fs.toList.map (·.type)) (xs.map (·.1)),m≤B:=fun m hm=>hw m (by rw[hxe];simpa [DataW.weights,u1] using hm);have hwi:∀(i:Nat) (f:Field) (hi:i<xs.length),fs[i]? = some f→∀ m∈(xs[i]'hi).1.weights P f.type,m≤B:=fun i f hi hf m hm =>
  hwe m (DataW.weights_mem_each (j:=i) (by rw[zbQ];simp[hf]) (by rw[zbQ,zah hi];rfl) m hm)
 have w0:=hwi 0 f0 (by omega) u2;have w1:=hwi 1 f1 (by omega) u3;rw[zah (show 0<xs.length by omega)] at e0;rw[zah (show 1<xs.length by omega)] at e1;rw[u4] at w0 e0;rw[u5] at w1 e1;obtain⟨a,p0,b0⟩:=h0.o w0 e0;obtain⟨b,p1,b1⟩:=h1.o w1 e1;exact⟨(a,b),⟨cs.take k0,cs.drop k0,(zbx _ _).symm,p0,cs.drop k0,[],by simp,p1,rfl⟩,b0,b1⟩
theorem yJ3 {t e:TypeId}(ht:P.underlying t=some (.slice e))(he:P.underlying e=some (.int .u32))(ce:P.cellsOf e=1)(c:P.cellsOf t=1)(hb:0<P.bytesOf e):Opn enc P W B t 1 ntx (fun xs=>xs.length≤B):=by
 refine⟨c,fun _=>rfl,fun {fuel cs x} hw h=>?_⟩;rcases open_ints ht he ce h with⟨h1,_⟩ | ⟨a,l,c,zs,h1,_,h3,h4,h5,h6,h7,h8⟩
 ·exact⟨[],⟨_,h1,iP⟩,zaC _⟩
 ·simp only[if_true] at h5;have hn:=nat_of_cells h3 h4 (by omega) h8 (fun i hi=>h7 i (by omega));refine⟨_,⟨_,h1,hn⟩,?_⟩;obtain⟨_,_,ad,cap,e1,_⟩:=hn.slc;have e2:l=_:=(Value.slice.inj e1).2.1;rw[← e2];have h9:=hw (((lits .u32 (zs.take l)).length+(lits (H:=H) .u32 (zs.drop l)).length)*P.bytesOf e) (by rw[h6];simp only[DataW.weights,ht];exact zcn);have h10:(lits (H:=H) .u32 (zs.take l)).length=l:=by simp[lits];omega
  rw[h10] at h9;exact zab (Nat.le_add_right l _) (zab (zcs _ hb) h9)
theorem opn_bool {t:TypeId}(ht:P.underlying t=some .bool)(hc:P.cellsOf t=1):Opn enc P W B t 1 (fun b=>xc (.bool b)) (fun _=>True):=by
 refine⟨hc,fun _=>rfl,fun {fuel cs x} hw h=>?_⟩;cases fuel with
 | zero=>simp[DataW.trod] at h
 | succ n =>
  unfold DataW.trod at h;rw[ht] at h;split at h<;>simp_all [xc,Value.oneCell']
theorem addr_add2 (a:Addr)(i j:Nat):(a.add i).add j=a.add (i+j):=by
 unfold Addr.add;split<;>split<;>simp_all<;>omega
theorem slc_argk {w:World}{a:Addr}{n cap k:Nat}{f:Nat→Value}(hk:0<k)(hn:n≤cap)(hc:cap≤9223372036854775807)(h:∀ i,i<n*k→w.cell? (a.add i)=some (f i)) :
  Slc (fun _=>False) w k (.slice (some a) n cap) n ((List.range (n*k)).map f):=by
 refine⟨by simp,by omega,_,_,rfl,hn,?_⟩;rcases zbd n with h0 | h0
 ·exact .inl h0
 right;have ha:=h 0 (Nat.mul_pos h0 hk);obtain⟨b,off,spot⟩:=a;have e0:(⟨b,off,spot⟩:Addr).add 0=⟨b,off,spot⟩:=rfl;rw[e0] at ha;unfold World.cell? at ha;split at ha;case h_2=>cases ha
 case h_1 cur t fz hb =>
  dsimp only at hb;cases spot with
  | some s=>simp at ha
  | none =>
   refine⟨b,off,rfl,fun h=>h,cur,t,fz,hb,fun j u hj=>?_⟩;obtain⟨hlt,rfl⟩:=zaO.1 hj;have hlt':j<n*k:=by simpa using hlt
   have:=h j hlt';rw[gD] at this;simp only[World.cell?,hb] at this;simpa using this
theorem opn_slicew {α:Type}{t te:TypeId}{k:Nat}{f:α→CT}{Bf:α→Prop}(ht:P.underlying t=some (.slice te))(c:P.cellsOf t=1)(he:Opn enc P W B te k f Bf)(hk:0<k):Opn enc P W B t 1 (fun l:List α=>sl k (l.map f)) (fun l=>l.length*P.bytesOf te≤B∧∀ a∈l,Bf a):=by
 refine⟨c,fun _=>rfl,fun {fuel cs x} hw h=>?_⟩;rcases open_slice ht h with⟨h1,_⟩ | ⟨a,len,cap,m,n,D,Pl,h1,hb,hl,hm,hmm,hxe,hx⟩
 ·exact⟨[],⟨_,[],h1,zM7,rfl,by simp[uV]⟩,by simp⟩
 ·simp only[if_true] at hmm;have hde:x.1 = .slice ((List.range len).map D) ((List.range (m-len)).map fun j=>D (len+j)):=congrArg Prod.fst hxe;have hwd:∀ i,i<len→∀ q∈(D i).weights P te,q≤B:=fun i hi q hq=>hw q (by
   rw[hde];simp only[DataW.weights,ht,zae,zad];exact .inr (.inl (dY hq (zcw (zaE.2 hi)))))
  have hwl:len*P.bytesOf te≤B:=by
   have h9:=hw ((((List.range len).map D).length+((List.range (m-len)).map fun j=>D (len+j)).length)*P.bytesOf te) (by rw[hde];simp only[DataW.weights,ht];exact zcn);rw[zai,zbJ] at h9;exact zab (zaU _ (Nat.le_add_right len _)) h9
  have hx':∀ i,i<len→∃ y:α×List Value,(∀ q,q<k→W.cell? (a.add (i*k+q))=some (y.2.getD q default))∧y.2.length=k∧(f y.1).p F0 W y.2∧Bf y.1:=fun i hi=>by
   obtain⟨cs',e1,e2⟩:=hx i (by omega);rw[he.c] at e1;obtain⟨b,g1,g2⟩:=he.o (hwd i hi) e2;have hl:=(f b).len g1;rw[he.s] at hl;obtain⟨_,_,e3⟩:=World.cells?_some e1;refine⟨(b,cs'),fun q hq=>?_,hl,g1,g2⟩;have:=e3 q hq;rw[addr_add2] at this;rw[this,zag,zah (show q<cs'.length by omega)];rfl
  rcases zbd len with h0 | h0
  ·subst h0;exact⟨[],⟨_,[],h1,slc_zero,rfl,by simp[uV]⟩,by simp⟩
  haveI:Inhabited (α×List Value):=⟨Classical.choose (hx' 0 h0)⟩
  obtain⟨Y,hY⟩:=choose_lt hx';rw[wT] at hm;refine⟨(List.range len).map fun i=>(Y i).1,?_,by rw[zai,zbJ];exact hwl,fun b hb=>by obtain⟨i,hi,rfl⟩:=zaj.1 hb;exact(hY i (zaE.1 hi)).2.2.2⟩;rw[h1];refine cD (R:=fun M w (b:α) us=>(f b).p M w us) he.s (fun _ _ _ h=>h) ⟨(List.range (len*k)).map fun j=>(Y (j/k)).2.getD (j%k) default,?_,fun i b hi=>?_⟩
  ·have:=slc_argk (k:=k) (f:=fun j=>(Y (j/k)).2.getD (j%k) default) hk hl hm (fun j hj=>by
    have h2:=(hY (j/k) (Nat.div_lt_of_lt_mul (by rw[zax];exact hj))).1 (j%k) (zaJ _ hk);rw[zax,zbP] at h2;exact h2)
   simpa using this
  ·obtain⟨hlt,rfl⟩:=zaO.1 hi;have hlt':i<len:=by simpa using hlt
   obtain⟨y1,y2,y3,_⟩:=hY i hlt';refine⟨(Y i).2,y2,fun q u hq=>?_,by simpa using y3⟩;have hq3:q<k:=y2 ▸ (zaO.1 hq).1;have hlt2:i*k+q<len*k:=by have:=zaU k (show i+1≤len from hlt');rw[zaV,zbh] at this;omega
   rw[zbQ,List.getElem?_range hlt2];simp only[Option.map_some];rw[show (i*k+q)/k=i by rw[zax,Nat.mul_add_div hk,zcD hq3,zcc],show (i*k+q)%k=q by rw[zax,Nat.mul_add_mod,zau hq3],zag,hq];rfl
theorem top_slice {α:Type}{t te:TypeId}{f:α→CT}{Bf:α→Prop}{r:Reach}{b0:Nat}{v:Value}{d:DataW H}{ps:List MemPlace}(ho:Opn enc P W B t 1 f Bf)(ht:P.underlying t=some (.slice te))(hval:Value.okWide P W r b0 t v)(hw:∀ m∈d.weights P t,m≤B)(h:DataW.Trod enc P W 0 (fun _=>true) true t v d ps) :
  ∃ a,(sv (f a)).p F0 W v∧Bf a:=by
 obtain⟨a0,len,cap,rfl⟩:=okWide_slice ht hval;obtain⟨fuel,hf⟩:=h;obtain⟨a,h1,h2⟩:=ho.o (x:=(d,ps)) hw hf;exact⟨a,by have h3:(f a).p F0 W (Value.cells (.slice a0 len cap)).toList:=h1;show (f a).p F0 W [_];simpa [Value.cells] using h3,h2⟩
theorem top_int {t:TypeId}{k:IntKind}{r:Reach}{b0:Nat}{v:Value}(ht:P.underlying t=some (.int k))(hval:Value.okWide P W r b0 t v):∃ a,(exP (.int k a)).p F0 W v∧k.has a:=by
 simp only[Value.okWide,ht,Cell.okWide,Cell.ok] at hval;cases v<;>simp at hval
 exact⟨_,by rw[hval.1];rfl,hval.2⟩
structure NumTypes (P:Program)(tp tr ti tn tb tw:TypeId):Prop where
 p:Two P tp tr tr 3 3
 r:Two P tr ti tn 2 1
 i:Two P ti tb tn 1 1
 n:P.underlying tn=some (.slice tw)
 w:P.underlying tw=some (.int .u32)
 b:P.underlying tb=some .bool
 cn:P.cellsOf tn=1
 cw:P.cellsOf tw=1
 cb:P.cellsOf tb=1
 hb:0<P.bytesOf tw
variable {tp tr ti tn tb tw : TypeId}
theorem reach_le:reachBytes≤200000000000000:=by decide
end
end Go.Proofs.YtalkinejknjidaaGreatDoor
namespace Go.Proofs.YtalkinejknjidaaGreatDoor
open Go.SL Go.RowKit Go.Proofs Tryz
theorem zY9 {f:FuncId}{τs:List PV}{n N:Nat}{q:Rat}(h:CTy prog f τs (ag (rtc n q)))(hr:rlen q N):CTy prog f τs (ag (rtc N q)):=⟨h.bod,fun M w vs hM hT hv=>(h.run M w vs hM hT hv).mono fun r w' ⟨hB,k⟩=>⟨hB,sX rfl hr _ _ _ k⟩⟩
set_option maxHeartbeats 4000000 in
theorem yE4 {f:FuncId}{n m N:Nat}{p q r:Rat}(hf:CTy prog f [sv (sl 3 [rtq n p,rtq m q])] (ag (rtc N r))):CTy prog 313 [ag (rtq n p),ag (rtq m q),pa (fc f [])] (ag (rtc N r)):=by
 refine ctc func313 rfl rfl rfl rfl fun X=>(zY (yH rfl (zA1 (obx rfl) (zA1 (obx rfl) ?_))));refine tal fun b5=>?_;refine zA0 (zY (yH rfl (zA1 (old rfl rfl) (zA1 (old rfl rfl) (zA1 (old rfl rfl) (zA1 (obs rfl rfl rfl rfl rfl rfl) (zB rfl rfl hf ?_)))))));refine zH 0 rfl rfl (zA0 (kO ?_));exact⟨[_],zN 0 rfl rs0,yJ (PSub.refl _)⟩
set_option maxHeartbeats 4000000 in
theorem wtwo {f:FuncId}:CTy prog 271 [fn f []] (fn 313 [pa (fc f [])]):=by
 refine ct (rs:=[2]) func271 rfl rfl rfl rfl rfl zV3 fun X=>(zY (yH rfl (zA1 (obx rfl) (zA1 (oas rfl) (zA0 (zY (yH rfl ?_)))))));refine zA1 (omf rfl) (zA1 (oas rfl) (zA0 (kO ?_)));exact tr1 rfl (PSub.refl _)
set_option maxHeartbeats 4000000 in
theorem pT {g:FuncId}{l:List PV}{n m N:Nat}{a b c d r s:Rat}(h1:CTy prog g ([ag (rtq n a),ag (rtq m c)]++l) (ag (rtc N r)))(h2:CTy prog g ([ag (rtq n b),ag (rtq m d)]++l) (ag (rtc N s))):CTy prog 268 [ag (st [rtq n a,rtq n b]),ag (st [rtq m c,rtq m d]),pa (fc g l)] (ag (st [rtc N r,rtc N s])):=by
 refine ctc func268 rfl rfl rfl rfl fun X=>(zY (yH rfl (zA1 (obx rfl) (zA1 (obx rfl) ?_))));refine tal fun b5=>?_;refine zA0 (zY (zL 13 mixed rfl rfl (d1 (old rfl rfl) (d1 (ofa rfl rfl) (d1 (old rfl rfl) (d1 (ofa rfl rfl) (d1 (old rfl rfl) ?_)))))));refine zC rfl rfl h1 (d1 (old rfl rfl) (d1 (ofa rfl rfl) (d1 (old rfl rfl) (d1 (ofa rfl rfl) (d1 (old rfl rfl) (zC rfl rfl h2 (d1 (obd rfl rfl rfl) ?_)))))));refine d0 (zH 0 rfl rfl (zA0 (kO ?_)));exact⟨[_],zN 0 rfl rs0,yJ (PSub.refl _)⟩
set_option maxHeartbeats 4000000 in
theorem wparts {g:FuncId}{l:List PV}:CTy prog 189 [fn g l] (fn 268 [pa (fc g l)]):=by
 refine ct (rs:=[2]) func189 rfl rfl rfl rfl rfl zV3 fun X=>(zY (yH rfl (zA1 (obx rfl) (zA1 (oas rfl) (zA0 (zY (yH rfl ?_)))))));refine zA1 (omf rfl) (zA1 (oas rfl) (zA0 (kO ?_)));exact tr1 rfl (PSub.refl _)
theorem ktwo {Ψ:PV}{f:FuncId}[h:VF Ψ f []]:CTy prog 271 [Ψ] (fn 313 [pa (fc f [])]):=yE wtwo (fs1 (fun _ _ _ k=>h.h k) fs0)
theorem zP4 {Ψ:PV}{f:FuncId}{l:List PV}[h:VF Ψ f l]:CTy prog 189 [Ψ] (fn 268 [pa (fc f l)]):=yE wparts (fs1 (fun _ _ _ k=>h.h k) fs0)
set_option maxHeartbeats 4000000 in
theorem wvadd {p q:P2}{n m:Nat}(g1:plen p (n+1))(g2:plen q (m+1))(hn:n≤30000)(hm:m≤30000):CTy prog 200 [ag (ptq n p),ag (ptq m q)] (ag (st [rtc (n+m+3) (addP p q).1,rtc (n+m+3) (addP p q).2])):=by
 refine ctc func200 rfl rfl rfl rfl fun X=>(zY (yH rfl (zA1 (obx rfl) (zA1 (obx rfl) ?_))));refine tal fun b4=>?_;refine zA0 (zY (zL 5 mixed rfl rfl (zC rfl rfl ktwo (zC rfl rfl zP4 (d1 (old rfl rfl) (d1 (old rfl rfl) (zC rfl rfl (pT (N:=n+m+3) (yE4 (zY9 (yV7 (by omega)) (zO (jF g1.x g2.x) (by omega)))) (yE4 (zY9 (yV7 (by omega)) (zO (jF g1.y g2.y) (by omega))))) ?_)))))));refine d0 (zH 0 rfl rfl (zA0 (kO ?_)));exact⟨[_],zN 0 rfl rs0,yJ (PSub.refl _)⟩
set_option maxHeartbeats 4000000 in
theorem wvsub {p q:P2}{n m:Nat}(g1:plen p (n+1))(g2:plen q (m+1))(hn:n≤30000)(hm:m≤30000):CTy prog 199 [ag (ptq n p),ag (ptq m q)] (ag (st [rtc (n+m+3) (subP p q).1,rtc (n+m+3) (subP p q).2])):=by
 refine ctc func199 rfl rfl rfl rfl fun X=>(zY (yH rfl (zA1 (obx rfl) (zA1 (obx rfl) ?_))));refine tal fun b4=>?_;refine zA0 (zY (zL 4 mixed rfl rfl (zC rfl rfl zP4 (d1 (old rfl rfl) (d1 (old rfl rfl) (zC rfl rfl (pT (wW (by omega) (by omega)) (wW (by omega) (by omega))) (d0 ?_)))))));refine zH 0 rfl rfl (zA0 (kO ?_));exact⟨[_],zN 0 rfl rs0,yJ (PSub.refl _)⟩
set_option maxHeartbeats 4000000 in
theorem wvscale {p:P2}{q:Rat}{n m:Nat}(g1:plen p (n+1))(g2:rlen q (m+1))(hn:n≤30000)(hm:m≤30000):CTy prog 291 [ag (ptq n p),ag (rtq m q)] (ag (st [rtc (n+m+3) (gI p q).1,rtc (n+m+3) (gI p q).2])):=by
 refine ctc func291 rfl rfl rfl rfl fun X=>(zY (yH rfl (zA1 (obx rfl) (zA1 (obx rfl) ?_))));refine tal fun b4=>?_;refine zA0 (zY (zL 7 mixed rfl rfl (zC rfl rfl ktwo (zC rfl rfl zP4 (d1 (old rfl rfl) (d1 (old rfl rfl) (d1 (old rfl rfl) ?_)))))));refine d1 (obd rfl rfl rfl) (zC rfl rfl (pT (N:=n+m+3) (yE4 (zY9 (xE9 (by omega)) (zO (uJ g1.x g2) (by omega)))) (yE4 (zY9 (xE9 (by omega)) (zO (uJ g1.y g2) (by omega))))) (d0 (zH 0 rfl rfl (zA0 (kO ?_)))));exact⟨[_],zN 0 rfl rs0,yJ (PSub.refl _)⟩
set_option maxHeartbeats 4000000 in
theorem wvcmp {p q:P2}{n m:Nat}(hn:n≤80000)(hm:m≤80000):CTy prog 213 [ag (ptq n p),ag (ptq m q)] (exP (.int .i64 (cmpP p q))):=by
 refine ct (rs:=[4]) func213 rfl rfl rfl rfl rfl zV3 fun X=>(zY (yH rfl (zA1 (obx rfl) (zA1 (obx rfl) (zA1 (oas rfl) (zA0 (zY ?_)))))));refine zY (yH rfl (zA1 (ofa rfl rfl) (zA1 (old rfl rfl) (zA1 (ofa rfl rfl) (zA1 (old rfl rfl) (zB rfl rfl (pN (by omega) (by omega)) (zA1 (oas rfl) ?_)))))));refine zA0 (zY (yH rfl (zA1 (omv rfl) (zA1 (oni rfl rfl) (zA0 ?_)))));refine t_if rfl (fun c0=>?_) (fun c0=>?_)
 ·refine zY ?_;refine yH rfl (zA1 (omv rfl) (zA1 (oas rfl) (zA0 (kO ?_))));exact tr1 rfl (ps_i (by unfold cmpP;rw[if_pos (dt c0)]))
 ·refine bO ?_;refine zY (yH rfl (zA1 (ofa rfl rfl) (zA1 (old rfl rfl) (zA1 (ofa rfl rfl) (zA1 (old rfl rfl) (zB rfl rfl (pN (by omega) (by omega)) (zA1 (oas rfl) ?_)))))));refine zA0 (kO ?_);exact tr1 rfl (ps_i (by unfold cmpP;rw[if_neg (df c0)]))
set_option maxHeartbeats 4000000 in
theorem wvsame {p q:P2}{n m:Nat}(hn:n≤80000)(hm:m≤80000):CTy prog 139 [ag (ptq n p),ag (ptq m q)] (exP (.bool (decide (cmpP p q=0)))):=by
 refine ct (rs:=[4]) func139 rfl rfl rfl rfl rfl zV3 fun X=>(zY (yH rfl (zA1 (obx rfl) (zA1 (obx rfl) (zA1 (oas rfl) (zA0 (zY ?_)))))));refine yH rfl (zA1 (old rfl rfl) (zA1 (old rfl rfl) (zB rfl rfl (wvcmp hn hm) (zA1 (oeq rfl rfl) (zA1 (oas rfl) (zA0 (kO ?_)))))));exact tr1 rfl (psb rfl)
section
variable {Ψ Φ : PV} {n m : Nat} {p q : P2}
theorem yZ7 [h:QP Ψ n p][k:QP Φ m q]{P:Program}{f:FuncId}{ρ:PV}(hb:Bod P f)(hr:plen p (n+1)→plen q (m+1)→CTy P f [ag (ptq n p),ag (ptq m q)] ρ):CTy P f [Ψ,Φ] ρ :=
 ⟨hb,fun M w vs hM hT hv=>by
  obtain⟨v,u,_,h1,h2⟩:=fa2 hv;obtain⟨_,_,_,_,_,_,_,g1⟩:=h.h h1;obtain⟨_,_,_,_,_,_,_,g2⟩:=k.h h2;exact(hr ⟨g1.x.rlen,g1.y.rlen⟩ ⟨g2.x.rlen,g2.y.rlen⟩).run M w vs hM hT ((fs1 qp_q (fs1 qp_q fs0)) _ _ _ hv)⟩
theorem kvadd [h:QP Ψ n p][k:QP Φ m q](hn:n≤30000)(hm:m≤30000):CTy prog 200 [Ψ,Φ] (ag (st [rtc (n+m+3) (addP p q).1,rtc (n+m+3) (addP p q).2])):=yZ7 (bo func200) fun g1 g2=>wvadd g1 g2 hn hm
theorem kvsub [h:QP Ψ n p][k:QP Φ m q](hn:n≤30000)(hm:m≤30000):CTy prog 199 [Ψ,Φ] (ag (st [rtc (n+m+3) (subP p q).1,rtc (n+m+3) (subP p q).2])):=yZ7 (bo func199) fun g1 g2=>wvsub g1 g2 hn hm
theorem kvscale {r:Rat}[h:QP Ψ n p][k:QR Φ m r](hn:n≤30000)(hm:m≤30000):CTy prog 291 [Ψ,Φ] (ag (st [rtc (n+m+3) (gI p r).1,rtc (n+m+3) (gI p r).2])) :=
 ⟨(bo func291),fun M w vs hM hT hv=>by
  obtain⟨v,u,_,h1,h2⟩:=fa2 hv;obtain⟨_,_,_,_,_,_,_,g1⟩:=h.h h1;obtain⟨_,_,_,_,g2⟩:=k.h h2;exact(wvscale ⟨g1.x.rlen,g1.y.rlen⟩ g2.rlen hn hm).run M w vs hM hT ((fs1 qp_q (fs1 qr_q fs0)) _ _ _ hv)⟩
theorem kvsame [h:QP Ψ n p][k:QP Φ m q](hn:n≤80000)(hm:m≤80000):CTy prog 139 [Ψ,Φ] (exP (.bool (decide (cmpP p q=0)))):=yE (wvsame hn hm) (fs1 qp_q (fs1 qp_q fs0))
end
theorem sV {p q:P2}{n m:Nat}(e:p=q)(h:n≤m):PSub (ag (st [rtc n p.1,rtc n p.2])) (ag (st [rtc m q.1,rtc m q.2])):=fun M w v ⟨us,e1,x,y,e2,⟨s,a,d,k1,g1⟩,z,o,e3,⟨t,b,f,k2,g2⟩,e4⟩=>by
 subst e;exact⟨us,e1,x,y,e2,⟨s,a,d,k1,g1.up h⟩,z,o,e3,⟨t,b,f,k2,g2.up h⟩,e4⟩
set_option maxHeartbeats 4000000 in
theorem wvat {p q:P2}{u:Rat}{n m k:Nat}(hn:n≤9000)(hm:m≤9000)(hk:k≤9000):CTy prog 226 [ag (ptq n p),ag (ptq m q),ag (rtq k u)] (ag (st [rtc (2*n+m+k+9) (atP p q u).1,rtc (2*n+m+k+9) (atP p q u).2])):=by
 refine ctc func226 rfl rfl rfl rfl fun X=>(zY (yH rfl (zA1 (obx rfl) (zA1 (obx rfl) (zA1 (obx rfl) ?_)))));refine tal fun b6=>?_;refine zA0 (zY (zL 7 mixed rfl rfl (d1 (old rfl rfl) (d1 (old rfl rfl) (d1 (old rfl rfl) (zC rfl rfl (kvsub (by omega) (by omega)) (d1 (old rfl rfl) ?_)))))));refine zC rfl rfl (kvscale (by omega) (by omega)) (zC rfl rfl (kvadd (by omega) (by omega)) (d0 (zH 0 rfl rfl (zA0 (kO ?_)))));exact⟨[_],zN 0 rfl rs0,yJ (sV rfl (by omega))⟩
theorem kvat {Ψ Φ Θ:PV}{p q:P2}{u:Rat}{n m k:Nat}[h0:QP Ψ n p][h1:QP Φ m q][h2:QR Θ k u](hn:n≤9000)(hm:m≤9000)(hk:k≤9000):CTy prog 226 [Ψ,Φ,Θ] (ag (st [rtc (2*n+m+k+9) (atP p q u).1,rtc (2*n+m+k+9) (atP p q u).2])):=yE (wvat hn hm hk) (fs1 qp_q (fs1 qp_q (fs1 qr_q fs0)))
theorem wvnorm {l:List P2}{n:Nat}(hn:n≤20000)(hl:l.length≤1000000):CTy prog 131 [sv (sl 6 (l.map (ptq n)))] (sv (sl 6 (l.map (ptc (n+1))))):=by
 refine fw [.tmp 2] func131 fun X=>?_;repeat refine u ?_
 refine t_ts (xQ 39 6) ?_;refine lp (σ:=Nat×Value) [5,6] (fun s=>[(2,True,exP s.2),(7,True,zI s.1)]) (fun s=>[.row s.2 39 6 ((l.take s.1).map (ptc (n+1)))]) (fun s=>s.1≤l.length) (fun s=>l.length-s.1) ((0,.slice none 0 0)) ((by simp)) fun s hJ Y _=>?_;repeat refine u ?_
 refine ti (fun c0=>?_) fun c0=>?_;repeat refine u ?_
 refine zA1 (oix _ rfl rfl rfl (fun _=>rfl) (fun _=>(by(have e0:=dt c0;omega)))) ?_;refine u ?_;refine u fun b4=>?_;refine zH 0 rfl rfl (zR (zU (s:=4) 0 rfl rfl) ?_);refine u ?_;refine zL 9 mixed rfl rfl ?_;repeat refine u ?_
 refine zC rfl rfl (yV6 (by omega)) ?_;repeat refine u ?_
 refine zC rfl rfl (yV6 (by omega)) ?_;repeat refine u ?_
 refine tap 0 rfl rfl rfl (by(simp;omega)) rfl fun r20=>?_;repeat refine u ?_
 rotate_left;iterate 7 refine u ?_
 refine t_ts (yK (s:=2) 0 rfl rfl) ?_;repeat refine u ?_
 refine e ?_;rotate_left
 ·refine⟨(s.1+1,r20),tes ?_ ?_ ?_,(by(have e0:=dt c0;omega)),(by(have e0:=dt c0;omega))⟩;refine zA rfl (zA rfl tn);refine zA rfl (zA rfl tn);rw[(zP (Df.d:P2) (show s.1<l.length by have:=dt c0;omega)).1,zaq];exact zaa _
 ·have h0:=df c0;rw[zaw (by omega)];exact PSub.refl _
theorem zP2 {Ψ:PV}{n:Nat}{l:List P2}[h:VPt Ψ n l](hn:n≤20000)(hl:l.length≤1000000):CTy prog 131 [Ψ] (sv (sl 6 (l.map (ptc (n+1))))):=yE (wvnorm hn hl) (fs1 pE fs0)
theorem cts1 {Ψ:PV}{c:CT}[h:CtOf Ψ c]:CtsOf Ψ [c]:=⟨fun k=>let ⟨us,e,g⟩:=h.h k;⟨us,e,us,[],(zap _).symm,g,rfl⟩⟩
abbrev mtc (n:Nat)(m:Mt):CT:=st [xc (.int .i8 m.1),ptc n m.2.1,ptc n m.2.2]
theorem yI4 {k:Int}{a b N:Nat}{x y:P2}{m:Mt}(e:(k,x,y)=m)(h1:a≤N)(h2:b≤N):PSub (ag (st [xc (.int .i8 k),ptc a x,ptc b y])) (ag (mtc N m)):=fun M w v ⟨us,e1,u1,v1,e2,k1,u2,v2,e3,⟨c1,c2,f1,⟨s,a1,dz1,k3,g1⟩,c3,c4,f2,⟨t,a2,dz2,k4,g2⟩,f3⟩,u3,v3,e4,⟨c5,c6,f4,⟨s3,a3,dz3,k5,g3⟩,c7,c8,f5,⟨t4,a4,dz4,k6,g4⟩,f6⟩,e5⟩=>by
 subst e;exact⟨us,e1,u1,v1,e2,k1,u2,v2,e3,⟨c1,c2,f1,⟨s,a1,dz1,k3,g1.up h1⟩,c3,c4,f2,⟨t,a2,dz2,k4,g2.up h1⟩,f3⟩,u3,v3,e4,⟨c5,c6,f4,⟨s3,a3,dz3,k5,g3.up h2⟩,c7,c8,f5,⟨t4,a4,dz4,k6,g4.up h2⟩,f6⟩,e5⟩
abbrev pcs (n:Nat)(l:List P2):CT:=sl 6 (l.map (ptq n))
theorem uU:COrd cmpP:=⟨fun a b=>jD,fun a b=>by rw[aP,kL],fun a b c h k=>lH h k⟩
noncomputable def allOf (p q:List P2):List P2:=setOf cmpP (rawL (yI p) (yI q))
theorem aS (p q:List P2):allOf p q=setOf cmpP (rawL (yI p) (yI q)):=rfl
theorem zK2 (p q:List P2):(allOf p q).length≤2*q.length*p.length:=by
 rw[aS];have h1:=yY uU (rawL (yI p) (yI q));have h2:=sU (yI q) (yI p);rw[qQ,qQ] at h2;omega
instance:Df (List P2):=⟨[]⟩
def uM (ls:zD)(i:Nat):List (List P2×List P2):=(List.range i).flatMap fun k=>(ls.take k).map fun p=>(p,ls.getD k [])
def yP (ls:zD):List (List P2×List P2):=uM ls ls.length
theorem tD {ls:zD}{i:Nat}:uM ls (i+1)=uM ls i++(ls.take i).map fun p=>(p,ls.getD i []):=by
 unfold uM;rw[List.range_succ,List.flatMap_append];simp
theorem jQ:COrd cmpR:=⟨fun a b=>xA,fun a b=>by rw[bK,xH],fun a b c h k=>by rw[xH] at *; grind⟩
def nO (ls:zD):List Rat:=ls.flatMap fun l=>l.map (·.1)
noncomputable def meetX (l:List (List P2×List P2)):List Rat:=l.flatMap fun x=>(allOf x.1 x.2).map (·.1)
noncomputable def rawC (ls:zD)(b:P2×P2):List Rat:=[b.1.1,b.2.1]++nO ls++meetX (yP ls)
noncomputable def cutsOf (ls:zD)(b:P2×P2):List Rat:=setOf cmpR (rawC ls b)
theorem zJ4 {ls:zD}(h6:∀ l∈ls,l.length≤9):(nO ls).length≤9*ls.length:=by
 unfold nO
 induction ls with
 | nil=>simp
 | cons a l ih =>
  rw[zbU,zak,zai,zas];have:=h6 a (by simp);have:=ih fun x hx=>h6 x (by simp[hx]);omega
theorem wL {ls:zD}{i:Nat}{x:List P2×List P2}(hi:i≤ls.length)(h:x∈uM ls i):x.1∈ls∧x.2∈ls:=by
 unfold uM at h;obtain⟨k,hk,h⟩:=zaX.1 h;obtain⟨p,hp,rfl⟩:=zaj.1 h;have hk:=zaE.1 hk;exact⟨zbn hp,by simp[zah (show k<ls.length by omega)]⟩
theorem pJ {ls:zD}:∀ i,(uM ls i).length≤i*ls.length
 | 0=>by simp[uM]
 | i+1=>by
  rw[tD,zak,zai,zaG,zcv];have:=pJ (ls:=ls) i;omega
theorem wS {l:List (List P2×List P2)}(h:∀ x∈l,x.1.length≤9∧x.2.length≤9):(meetX l).length≤162*l.length:=by
 unfold meetX
 induction l with
 | nil=>simp
 | cons a l ih =>
  rw[zbU,zak,zai,zas];have h1:=zK2 a.1 a.2;obtain⟨h2,h3⟩:=h a (by simp);have h4:2*a.2.length*a.1.length≤18*9:=zaY (by omega) h2;have:=ih fun x hx=>h x (by simp[hx]);omega
theorem yT1 {n:Nat}(a:P2){M:Nat→Prop}{w:World}{us:List Value}(h:(ptc n a).p M w us):(ptq n a).p M w us:=by
 obtain⟨s,x,d,t,y,e,rfl,g⟩:=CP.h (c:=ptc n a) h;exact⟨[.bool s,x,d],[.bool t,y,e],rfl,⟨s,x,d,rfl,(g.up (m:=n) (by simp)).x⟩,[.bool t,y,e],[],rfl,⟨t,y,e,rfl,(g.up (m:=n) (by simp)).y⟩,rfl⟩
abbrev RX:=(Bool×List Nat)×List Nat
abbrev PX:=RX×RX
def rtx (a:RX):CT:=st [itx a.1,ntx a.2]
def ptx (a:PX):CT:=st [rtx a.1,rtx a.2]
instance {a:RX}:SzC (rtx a) 3:=⟨rfl⟩
instance {a:PX}:SzC (ptx a) 6:=⟨rfl⟩
def qx (a:RX):Rat:=mkRat (zv a.1.1 a.1.2) (val a.2)
def px (a:PX):P2:=(qx a.1,qx a.2)
def pcx (l:List PX):CT:=sl 6 (l.map ptx)
instance:Df PX:=⟨(((false,[]),[]),((false,[]),[]))⟩
instance:Df (List PX):=⟨[]⟩
instance {a:RX}:FA (rtx a) 0 (itx a.1):=⟨fun h=>qK (l:=[itx a.1,ntx a.2]) (o:=0) h rfl⟩
instance {a:RX}:FA (rtx a) 2 (ntx a.2):=⟨fun h=>qK (l:=[itx a.1,ntx a.2]) (o:=2) h rfl⟩
instance {a:PX}:FA (ptx a) 0 (rtx a.1):=⟨fun h=>qK (l:=[rtx a.1,rtx a.2]) (o:=0) h rfl⟩
instance {a:PX}:FA (ptx a) 3 (rtx a.2):=⟨fun h=>qK (l:=[rtx a.1,rtx a.2]) (o:=3) h rfl⟩
instance {l:List PX}:VS (sv (pcx l)) 6 (l.map ptx):=⟨id⟩
instance {a:RX}:CQ (rtx a) (max a.1.2.length a.2.length) (qx a):=⟨by
 rintro M w us ⟨x,y,rfl,⟨x1,y1,rfl,⟨rfl,_⟩,x2,y2,rfl,⟨v,rfl,h1⟩,h2⟩,y3,y4,rfl,⟨d,rfl,h3⟩,h4⟩;obtain rfl:y2=[]:=h2;obtain rfl:y4=[]:=h4;exact⟨a.1.1,v,d,rfl,a.1.2,a.2,h1,h3,Nat.le_max_left _ _,Nat.le_max_right _ _,rfl⟩⟩
def aG (a:RX):Bool:=decide (a.1.2.length≤1)&&decide (a.2.length≤1)&&(decide (a.1.2.length=0) || decide (a.1.2.getD 0 Df.d≤999))&&(decide (a.2.length=0) || decide (a.2.getD 0 Df.d≤12))
theorem xE7 {a:RX}:CTy prog 143 [ag (rtx a)] (exP (.bool (aG a))):=by
 refine fw [.tmp 2] func143 fun X=>?_;repeat refine u ?_
 refine t1g rfl rfl (oix _ rfl rfl rfl (fun g=>rfl) (fun g=>(by(have e0:=of_decide_eq_false g.2;change (0:Nat)<_;omega)))) ?_;repeat refine u ?_
 refine t1g rfl rfl (ofa rfl rfl) ?_;repeat refine u ?_
 refine t1g rfl rfl (oix _ rfl rfl rfl (fun g=>rfl) (fun g=>(by(have e0:=of_decide_eq_false g.2;change (0:Nat)<_;omega)))) ?_;repeat refine u ?_
 refine e ?_;refine psb ?_;unfold aG;rw[Bool.eq_iff_iff];simp only[Bool.and_eq_true,Bool.or_eq_true,decide_eq_true_eq,show (Df.d:Nat)=0 from rfl];omega
def qM (l:List PX):Bool:=l.all fun a=>aG a.1&&aG a.2
theorem smallx_take {l:List PX}{i:Nat}(h:i<l.length):qM (l.take (i+1))=(qM (l.take i)&&(aG (l.getD i Df.d).1&&aG (l.getD i Df.d).2)):=by
 rw[(zP (Df.d:PX) h).1];simp[qM]
theorem smallx_no {l:List PX}{i:Nat}(h:i<l.length)(k:aG (l.getD i Df.d).1=false∨aG (l.getD i Df.d).2=false):qM l=false:=by
 rw[zag,zah h,zbw] at k;simp only[qM,List.all_eq_false];exact⟨l[i],zaI h,by rcases k with k | k<;>simp[k]⟩
theorem ksmall {l:List PX}:CTy prog 61 [sv (pcx l)] (exP (.bool (qM l))):=by
 refine fw [.tmp 2] func61 fun X=>?_;repeat refine u ?_
 refine xB5 0 rfl fun hL=>?_;rw[zai] at hL;refine lp (σ:=Nat) [0] (fun i=>[(3,True,zI i)]) (fun i=>[]) (fun i=>i≤l.length∧qM (l.take i)=true) (fun i=>l.length-i) (0) (⟨by omega,rfl⟩) fun i hJ Y _=>?_;obtain⟨hi,hs⟩:=hJ;repeat refine u ?_
 refine ti (fun c0=>?_) fun c0=>?_;repeat refine u ?_
 refine zA1 (oix _ rfl rfl rfl (fun _=>rfl) (fun _=>(by(have e0:=dt c0;omega)))) ?_;repeat refine u ?_
 refine zB rfl rfl xE7 ?_;repeat refine u ?_
 refine t1g rfl rfl (oix _ rfl rfl rfl (fun g=>rfl) (fun g=>(by(have e0:=dt c0;omega)))) ?_;repeat refine u ?_
 refine t1g rfl rfl (oca rfl rfl fun g=>xE7) ?_;repeat refine u ?_
 refine ti (fun c1=>?_) fun c1=>?_;repeat refine u ?_
 refine e ?_;refine psb ?_;rotate_left;repeat refine u ?_
 refine zA1 (oad rfl rfl (by(have e0:=dt c0;omega))) ?_;repeat refine u ?_
 rotate_left;repeat refine u ?_
 refine e ?_;refine psb ?_;rotate_left
 ·rw[smallx_no (dt c0 |> fun h=>by omega:i<l.length) (by have:=c1.h;revert this;generalize aG (l.getD i Df.d).1=a;generalize aG (l.getD i Df.d).2=b;cases a<;>cases b<;>simp)]
 ·refine⟨i+1,tes ?_ ?_ (zaa _),?_,(by(have e0:=dt c0;omega))⟩;refine zA rfl tn;refine zA rfl tn;have hi2:i<l.length:=by have:=dt c0;omega
  exact⟨by omega,by rw[smallx_take hi2,hs];have:=c1.h;revert this;generalize aG (l.getD i Df.d).1=a;generalize aG (l.getD i Df.d).2=b;cases a<;>cases b<;>simp⟩
 ·have:i=l.length:=by have:=df c0;omega
  subst this;rw[zaS] at hs;exact hs.symm
theorem k7told {p q:Rat}{n m:Nat}(hn:n≤20000)(hm:m≤20000):CTy prog 113 [ag (rtc n p),ag (rtc m q)] (exP (.bool (decide (p=q)))):=by
 refine fw [.tmp 4] func113 fun X=>?_;repeat refine u ?_
 refine zB rfl rfl k5told ?_;repeat refine u ?_
 refine t1g rfl rfl (oca rfl rfl fun g=>yX6) ?_;repeat refine u ?_
 refine e ?_;refine psb ?_;rw[← Bool.decide_and,decide_eq_decide];exact⟨fun⟨h1,h2⟩=>Rat.ext h1 (by have:=congrArg val h2;rwa [zJ,zJ] at this),fun h=>h ▸ ⟨rfl,rfl⟩⟩
theorem k22alike {l k:List Rat}{n m:Nat}(hn:n≤1990)(hm:m≤1990):CTy prog 42 [sv (sl 3 (l.map (rtc n))),sv (sl 3 (k.map (rtc m)))] (exP (.bool (decide (l=k)))):=by
 refine fw [.tmp 4] func42 fun X=>?_;repeat refine u ?_
 refine ti (fun c0=>?_) fun c0=>?_;repeat refine u ?_
 refine e ?_;refine psb ?_;rotate_left;repeat refine u ?_
 rotate_left
 ·have:=dt c0;rw[decide_eq_false fun e=>this (by rw[e])]
 ·have hlk:l.length=k.length:=by have:=df c0;omega
  refine xB5 0 rfl fun hL=>?_;rw[zai] at hL;refine lp (σ:=Nat) [0,1] (fun i=>[(5,True,zI i)]) (fun i=>[]) (fun i=>i≤l.length∧l.take i=k.take i) (fun i=>l.length-i) (0) (⟨by omega,by simp⟩) fun i hJ Y _=>?_;obtain⟨hi,hs⟩:=hJ;repeat refine u ?_
  refine ti (fun c1=>?_) fun c1=>?_;iterate 4 refine u ?_
  refine zL 10 mixed rfl rfl ?_;repeat refine u ?_
  refine d1 (oix _ rfl rfl rfl (fun _=>rfl) (fun _=>(by(have e0:=dt c1;omega)))) ?_;repeat refine u ?_
  refine d1 (oix _ rfl rfl rfl (fun _=>rfl) (fun _=>(by(have e0:=dt c1;omega)))) ?_;repeat refine u ?_
  refine zC rfl rfl (k7told (by omega) (by omega)) ?_;repeat refine u ?_
  refine ti (fun c2=>?_) fun c2=>?_;repeat refine u ?_
  refine e ?_;refine psb ?_;rotate_left;repeat refine u ?_
  refine zA1 (oad rfl rfl (by(have e0:=dt c1;omega))) ?_;repeat refine u ?_
  rotate_left;repeat refine u ?_
  refine e ?_;refine psb ?_;rotate_left
  ·have h2:=c2.h;rw[decide_eq_false fun e=>by rw[e] at h2;simp at h2]
  ·have h2:=c2.h;have hi2:i<l.length:=by have:=dt c1;omega
   have e:l.getD i Df.d=k.getD i Df.d:=by simpa using h2
   refine⟨i+1,tes ?_ ?_ (zaa _),?_,(by omega)⟩;refine zA rfl tn;refine zA rfl (zA rfl tn);exact⟨by omega,by rw[(zP (Df.d:Rat) hi2).1,(zP (Df.d:Rat) (l:=k) (by omega)).1,hs,e]⟩
  ·have e:i=l.length:=by have:=df c1;omega
   subst e;rw[zaS,hlk,zaS] at hs;rw[decide_eq_true hs]
theorem zT4 {α:Type}{f g:α→CT}:∀ {xs:List α} {us:List Value} {M:Nat→Prop} {w:World},(∀ a∈xs,∀ {M w us},(f a).p M w us→(g a).p M w us)→stp (xs.map f) M w us→stp (xs.map g) M w us
 | [],_,_,_,_,e=>e
 | a::xs,_,_,_,h,⟨x,y,e,h1,h2⟩=>⟨x,y,e,h a (by simp) h1,zT4 (fun b hb=>h b (by simp[hb])) h2⟩
theorem dM {α:Type}{f g:α→CT}{k:Nat}{xs:List α}(h:∀ a∈xs,∀ {M w us},(f a).p M w us→(g a).p M w us)(hs:∀ a,(g a).sz=k){M:Nat→Prop}{w:World}{us:List Value}:(sl k (xs.map f)).p M w us→(sl k (xs.map g)).p M w us:=fun⟨u,vs,e,h1,h2,h3⟩ =>
 ⟨u,vs,e,by rw[zai] at h1 ⊢; exact h1,zT4 h h2,fun c hc=>by obtain⟨a,_,rfl⟩:=zaj.1 hc;exact hs a⟩
theorem xD3 {n:Nat}(a:PX)(h1:a.1.1.2.length≤n)(h2:a.1.2.length≤n)(h3:a.2.1.2.length≤n)(h4:a.2.2.length≤n){M:Nat→Prop}{w:World}{us:List Value}(h:(ptx a).p M w us):(ptq n (px a)).p M w us:=by
 obtain⟨s,x,d,t,y,e,rfl,g⟩:=CP.h (c:=st [rtx a.1,rtx a.2]) h;exact⟨[.bool s,x,d],[.bool t,y,e],rfl,⟨s,x,d,rfl,(g.up (m:=n) (by simp;omega)).x⟩,[.bool t,y,e],[],rfl,⟨t,y,e,rfl,(g.up (m:=n) (by simp;omega)).y⟩,rfl⟩
theorem zS6 {a:RX}(h:aG a=true):a.1.2.length≤1∧a.2.length≤1:=by
 unfold aG at h;simp only[Bool.and_eq_true,decide_eq_true_eq] at h;exact⟨h.1.1.1,h.1.1.2⟩
theorem allOf_comm (p q:List P2):allOf p q=allOf q p:=by
 have h:=xN uU (rawL (yI p) (yI q));have k:=xN uU (rawL (yI q) (yI p));rw[aS,aS];exact all_comm (p:=p) (q:=q) ⟨h.rise,h.mem⟩ ⟨k.rise,k.mem⟩
theorem tE {ls:zD}{x:List P2×List P2}:x∈yP ls ↔ ∃ i k,i<k∧k<ls.length∧x=(ls.getD i [],ls.getD k []):=by
 unfold yP uM;simp only[zaX,zaE,zaj];constructor
 ·rintro⟨k,hk,p,hp,rfl⟩;obtain⟨i,hi,rfl⟩:=zaZ.1 hp;rw[zaG] at hi;exact⟨i,k,by omega,hk,by rw[List.getElem_take,zag (i:=i),zah (show i<ls.length by omega)];rfl⟩
 ·rintro⟨i,k,h1,h2,rfl⟩;exact⟨k,h2,ls.getD i [],zaZ.2 ⟨i,by rw[zaG];omega,by rw[List.getElem_take,zag,zah (show i<ls.length by omega)];rfl⟩,rfl⟩
theorem iM {ls:zD}{x:Rat}:x∈meetX (yP ls) ↔ ∃ i k,i<k∧k<ls.length∧x∈(allOf (ls.getD i []) (ls.getD k [])).map (·.1):=by
 unfold meetX;rw[zaX];exact⟨fun⟨y,hy,h⟩=>by obtain⟨i,k,h1,h2,rfl⟩:=tE.1 hy;exact⟨i,k,h1,h2,h⟩,fun⟨i,k,h1,h2,h⟩=>⟨_,tE.2 ⟨i,k,h1,h2,rfl⟩,h⟩⟩
theorem cuts_len {ls:zD}{b:P2×P2}(h0:ls.length≤5)(h:∀ l∈ls,l.length≤9):(cutsOf ls b).length≤10000:=by
 have h1:=yY jQ (rawC ls b);have h2:=zJ4 h;have h3:=wS (l:=yP ls) fun z hz=>by
  obtain⟨a,b⟩:=wL (ls:=ls) (i:=ls.length) (x:=z) (zac _) hz;exact⟨h _ a,h _ b⟩
 have h4:=pJ (ls:=ls) ls.length;have h8:ls.length*ls.length≤5*5:=zaY h0 h0;change (yP ls).length≤_ at h4;have h5:(rawC ls b).length=2+(nO ls).length+(meetX (yP ls)).length:=by unfold rawC;simp;omega
 unfold cutsOf;omega
end Go.Proofs.YtalkinejknjidaaGreatDoor
namespace Go.Proofs.YtalkinejknjidaaGreatDoor
open Go Go.SL Go.RowKit Go.Proofs Go.ChangeShapes Go.WideShapes Go.ChangeAt Go.Deep Tryz
section
variable {H : Type} {enc : TypeId × Value → H} {P : Program} {W : World} {B : Nat} {tp tr ti tn tb tw : TypeId}
abbrev BdX (B:Nat)(a:RX):Prop:=(True∧a.1.2.length≤B)∧a.2.length≤B
abbrev BpX (B:Nat)(a:PX):Prop:=BdX B a.1∧BdX B a.2
theorem zV2 (T:NumTypes P tp tr ti tn tb tw):Opn enc P W B tr 3 rtx (BdX B) :=
 zO6 T.r (zO6 T.i (opn_bool T.b T.cb) (yJ3 T.n T.w T.cw T.cn T.hb)) (yJ3 T.n T.w T.cw T.cn T.hb)
theorem opn_ptx (T:NumTypes P tp tr ti tn tb tw):Opn enc P W B tp 6 ptx (BpX B) :=
 zO6 T.p (zV2 T) (zV2 T)
theorem opn_pcx {t:TypeId}(T:NumTypes P tp tr ti tn tb tw)(ht:P.underlying t=some (.slice tp))(c:P.cellsOf t=1):Opn enc P W B t 1 pcx (fun l=>l.length*P.bytesOf tp≤B∧∀ a∈l,BpX B a) :=
 opn_slicew ht c (opn_ptx T) (by omega)
end
section
variable {H : Type} {enc : TypeId × Value → H} {P : Program} {W : World} {B : Nat}
theorem trod_arr3 {base:Nat}{spare:Nat→Bool}{held:Bool}{fuel:Nat}{t e:TypeId}{cs:List Value}{x:DataW H×List MemPlace}(ht:P.underlying t=some (.array 3 e))(h:DataW.trod enc P W base spare held fuel t cs=some x) :
  ∃(xs:List (DataW H×List MemPlace)) (n:Nat),fuel=n+1∧x=(.agg (xs.map (·.1)),xs.flatMap (·.2))∧cs.length=P.cellsOf t∧xs.length=3 ∧
   ∀ i,i<3→DataW.trod enc P W base spare held n e ((cs.drop (i*P.cellsOf e)).take (P.cellsOf e))=xs[i]?:=by
 cases fuel with
 | zero=>simp[DataW.trod] at h
 | succ n =>
  unfold DataW.trod at h;rw[ht] at h;split at h<;>simp_all;obtain⟨hl,xs,hp,hd⟩:=h;exact⟨xs,hd.symm,by simpa using mapM_some_length hp,fun i hi=>by have:=mapM_some_get hp i i (by simp[hi]);simpa using this⟩
theorem opn_tri {α:Type}{t e:TypeId}{k:Nat}{f:α→CT}{Bf:α→Prop}(ht:P.underlying t=some (.array 3 e))(hc:P.cellsOf t=k+(k+k))(h0:Opn enc P W B e k f Bf) :
  Opn enc P W B t (k+(k+k)) (fun a:α×α×α=>st [f a.1,f a.2.1,f a.2.2]) (fun a=>Bf a.1∧Bf a.2.1∧Bf a.2.2):=by
 refine⟨hc,fun a=>by show (f a.1).sz+((f a.2.1).sz+((f a.2.2).sz+0))=_;rw[h0.s,h0.s,h0.s];rfl,fun {fuel cs x} hw h=>?_⟩;obtain⟨xs,n,_,hxe,hl,hx,hall⟩:=trod_arr3 ht h;have n0:=h0.c;have e0:=hall 0 (by omega);have e1:=hall 1 (by omega);have e2:=hall 2 (by omega);rw[n0] at e0 e1 e2;rw[Nat.zero_mul,List.drop_zero] at e0;rw[zbh] at e1;have hd:(cs.drop (2*k)).length=k:=by rw[zbo];omega
 rw[zaw (by omega)] at e2;have hwi:∀(i:Nat) (hi:i<xs.length),∀ m∈(xs[i]'hi).1.weights P e,m≤B:=fun i hi m hm=>hw m (by
  rw[hxe];simp only[DataW.weights,ht];exact dY hm (zcw (zaI hi)))
 rw[zah (show 0<xs.length by omega)] at e0;rw[zah (show 1<xs.length by omega)] at e1;rw[zah (show 2<xs.length by omega)] at e2;obtain⟨a,p0,b0⟩:=h0.o (hwi 0 (by omega)) e0;obtain⟨b,p1,b1⟩:=h0.o (hwi 1 (by omega)) e1;obtain⟨c,p2,b2⟩:=h0.o (hwi 2 (by omega)) e2;refine⟨(a,b,c),⟨cs.take k,cs.drop k,(zbx _ _).symm,p0,(cs.drop k).take k,(cs.drop k).drop k,(zbx _ _).symm,p1,cs.drop (2*k),[],?_,p2,rfl⟩,b0,b1,b2⟩;rw[zce,zap];congr 1;omega
end
end Go.Proofs.YtalkinejknjidaaGreatDoor
namespace Go.Proofs.YtalkinejknjidaaGreatDoor
open Go.SL Go.RowKit Go.Proofs Tryz
instance {a:RX}:C3 (rtx a):=⟨rfl⟩
abbrev big2 (a:PX):Nat:=m4 (a.1.1.2.length,a.1.2.length,a.2.1.2.length,a.2.2.length)
def gr18 (l:List PX):Bool:=decide (8<l.length) || l.any fun a=>decide (2<big2 a)
theorem gr18_at {l:List PX}{i:Nat}(h:i<l.length)(k:2<big2 (l.getD i Df.d)):gr18 l=true:=by
 rw[zag,zah h,zbw] at k;unfold gr18;rw[Bool.or_eq_true];exact .inr (zcH.2 ⟨_,zaI h,decide_eq_true k⟩)
theorem kg18 {l:List PX}:CTy prog 50 [sv (pcx l)] (exP (.bool (gr18 l))):=by
 refine fw [.tmp 2] func50 fun X=>?_;repeat refine u ?_
 refine lp (σ:=Nat) [0] (fun i=>[(3,True,zI i)]) (fun i=>[]) (fun i=>i≤l.length∧i≤9∧∀ j,j<i→big2 (l.getD j Df.d)≤2) (fun i=>l.length-i) (0) (⟨by omega,by omega,by omega⟩) fun i hJ Y _=>?_;obtain⟨hi,h9,hs⟩:=hJ;repeat refine u ?_
 refine ti (fun c0=>?_) fun c0=>?_;iterate 4 refine u ?_
 refine zL 32 mixed rfl rfl ?_;repeat refine u ?_
 refine d1 (oix _ rfl rfl rfl (fun _=>rfl) (fun _=>(by(have e0:=dand c0;omega)))) ?_;repeat refine u ?_
 refine d1 (oix _ rfl rfl rfl (fun _=>rfl) (fun _=>(by(have e0:=dand c0;omega)))) ?_;repeat refine u ?_
 refine d1 (oix _ rfl rfl rfl (fun _=>rfl) (fun _=>(by(have e0:=dand c0;omega)))) ?_;repeat refine u ?_
 refine d1 (oix _ rfl rfl rfl (fun _=>rfl) (fun _=>(by(have e0:=dand c0;omega)))) ?_;repeat refine u ?_
 refine d1 (omx4 rfl rfl rfl rfl) ?_;repeat refine u ?_
 refine ti (fun c1=>?_) fun c1=>?_;repeat refine u ?_
 refine e ?_;refine psb ?_;rotate_left;repeat refine u ?_
 rotate_left;repeat refine u ?_
 refine e ?_;refine psb ?_;rotate_left
 ·have:=dand c0;exact(gr18_at (i:=i) (by omega) (by have:=dt c1;unfold big2;omega)).symm
 ·have:=dand c0;refine⟨i+1,tes ?_ ?_ (zaa _),?_,(by omega)⟩;refine zA rfl tn;refine zA rfl tn;refine⟨by omega,by omega,fun j hj=>?_⟩;rcases zaf j i with c | c
  ·exact hs j c
  ·rw[show j=i by omega];have:=df c1;unfold big2;omega
 ·have:=dor c0;unfold gr18;rw[zct,zbN,decide_eq_true_eq,decide_eq_true_eq,zcH];refine⟨fun h => .inl (by omega),fun h=>?_⟩;rcases h with h | ⟨a,ha,h⟩
  ·omega
  ·obtain⟨k,hk,rfl⟩:=zaZ.1 ha;rcases zaf k i with c | c
   ·have:=hs k c;rw[zag,zah hk,zbw] at this;have:=of_decide_eq_true h;omega
   ·omega
theorem k8add {p q:P2}{n m:Nat}(hn:n≤400)(hm:m≤400):CTy prog 74 [ag (ptq n p),ag (ptq m q)] (ag (ptc (2*max n m+8) (addP p q))):=by
 refine fw [.cell 4 39] func74 fun X=>?_;iterate 4 refine u ?_
 refine u fun b4=>?_;iterate 2 refine u ?_
 refine zL 13 mixed rfl rfl ?_;repeat refine u ?_
 refine zC rfl rfl (nA (by omega)) ?_;repeat refine u ?_
 refine zC rfl rfl (nA (by omega)) ?_;repeat refine u ?_
 refine zH 0 rfl rfl ?_;repeat refine u ?_
 refine⟨[_],zN 0 rfl rs0,yJ ?_⟩;exact sV (p:=addP p q) rfl (by omega)
theorem uT {n m:Nat}{p q:Rat}(e:p=q)(h:n≤m):PSub (ag (rtc n p)) (ag (rtc m q)):=fun _ _ _ ⟨us,e1,s,a,d,e2,g⟩=>⟨us,e1,s,a,d,e2,by subst e;exact g.up h⟩
def pG (a b:P2)(x:Rat):Bool:=decide (a.1<x)&&decide (x<b.1) || decide (x<a.1)&&decide (b.1<x)
theorem yW7 {p q:P2}{n m:Nat}(hn:n≤900)(hm:m≤900):CTy prog 73 [ag (ptq n p),ag (ptq m q)] (ag (ptc (n+m+3) (subP p q))):=by
 refine fw [.cell 4 39] func73 fun X=>?_;iterate 4 refine u ?_
 refine u fun b4=>?_;iterate 2 refine u ?_
 refine zL 11 mixed rfl rfl ?_;repeat refine u ?_
 refine zC rfl rfl (mZ (by omega) (by omega)) ?_;repeat refine u ?_
 refine zC rfl rfl (mZ (by omega) (by omega)) ?_;repeat refine u ?_
 refine zH 0 rfl rfl ?_;repeat refine u ?_
 refine⟨[_],zN 0 rfl rs0,yJ (PSub.refl _)⟩
theorem k10h {a b:P2}{x:Rat}{n m:Nat}(hn:n≤10)(hm:m≤400):CTy prog 251 [ag (ptq n a),ag (ptq n b),ag (rtq m x)] (tu [ag (rtc 1800 (zM a b x)),exP (.bool (decide (b.1-a.1≠0)))]):=by
 have e:(subP b a).1=b.1-a.1:=rfl;refine fw [.cell 6 29,.tmp 7] func251 fun X=>?_;iterate 5 refine u ?_
 refine u fun b6=>?_;repeat refine u ?_
 refine zB rfl rfl (yW7 (by omega) (by omega)) ?_;refine u fun b8=>?_;refine zH 0 rfl rfl (zR (zU (s:=8) 0 rfl rfl) ?_);iterate 2 refine u ?_
 apply yO 1 13 11 [(10,9,0),(11,1000011,0)] rfl rfl mixed rfl rfl rfl;repeat refine u ?_
 refine cx1 (oca rfl rfl fun _=>mZ (by omega) (by omega)) rfl ?_;repeat refine u ?_
 refine cx1 (oca rfl rfl fun _=>yL0 (by omega) (by omega)) rfl ?_;repeat refine u ?_
 refine cN rfl rfl (cal) (cS rfl rfl rfl (cst rfl rfl rfl) ?_);repeat refine u ?_
 refine cE (fun b9=>?_);refine fm ?_;repeat refine u ?_
 refine ti (fun c0=>?_) fun c0=>?_;repeat refine u ?_
 refine zB rfl rfl (k7of (by(simp;done))) ?_;refine zH 1 rfl rfl ?_;repeat refine u ?_
 refine⟨[_,_],zN 1 rfl (rst rfl rs0),aF ?_ ?_⟩;rotate_left;refine psb ?_;rotate_left;iterate 2 refine u ?_
 refine zL 9 mixed rfl rfl ?_;repeat refine u ?_
 refine zC rfl rfl (fE (by omega)) ?_;repeat refine u ?_
 refine zC rfl rfl (nA (by omega)) ?_;repeat refine u ?_
 refine zH 1 rfl rfl ?_;repeat refine u ?_
 refine⟨[_,_],zN 1 rfl (rst rfl rs0),aF ?_ ?_⟩;rotate_left;refine psb ?_;rotate_left
 ·have h:=of_decide_eq_true c0.h;have h0:b.1-a.1=0:=Classical.byContradiction fun c=>h (by rw[e,if_neg c]);exact uT (by unfold zM;rw[if_pos h0];rfl) (by omega)
 ·have h:=of_decide_eq_true c0.h;have h0:b.1-a.1=0:=Classical.byContradiction fun c=>h (by rw[e,if_neg c]);rw[eq_comm,decide_eq_false_iff_not];exact fun c=>c h0
 ·have h:=of_decide_eq_false c0.h;have h0:b.1-a.1≠0:=fun c=>h (by rw[e,if_pos c];decide);exact uT (by unfold zM;rw[if_neg h0];rfl) (by omega)
 ·have h:=of_decide_eq_false c0.h;rw[eq_comm,decide_eq_true_eq];exact fun c=>h (by rw[e,if_pos c];decide)
abbrev nxP (p:List P2)(i:Nat):P2:=p.getD ((i+1)%p.length) (0,0)
def stillP (p q:List P2)(x y:Rat):Prop:=∀ i k,i<p.length→k<q.length→pG (p.getD i (0,0)) (nxP p i) x=true→pG (q.getD k (0,0)) (nxP q k) x=true→pG (p.getD i (0,0)) (nxP p i) y=true→pG (q.getD k (0,0)) (nxP q k) y=true→cmpR (zM (p.getD i (0,0)) (nxP p i) x) (zM (q.getD k (0,0)) (nxP q k) x)=cmpR (zM (p.getD i (0,0)) (nxP p i) y) (zM (q.getD k (0,0)) (nxP q k) y)
end Go.Proofs.YtalkinejknjidaaGreatDoor
namespace Go.SL
theorem mM {a b:Rat}(h:a*b=0)(ha:a≠0):b=0:=by grind
theorem xP {a b:P2}(h:a.1≠b.1):∃ k,(∀ z,zM a b z=a.2+k*(z-a.1))∧k*(b.1-a.1)=b.2-a.2:=by
 refine⟨(b.2-a.2)/(b.1-a.1),fun z=>?_,by grind⟩;unfold zM;rw[if_neg (by grind)];unfold atP addP gI subP;simp only;grind
theorem bI {a b p:P2}(h:a.1≠b.1)(hs:kQ (xI a b) p=0):p.2=zM a b p.1:=by
 obtain⟨k,h1,h2⟩:=xP h;rw[h1];have h3:(b.1-a.1)*(p.2-(a.2+k*(p.1-a.1)))=0:=by
  unfold kQ xI zG subP at hs;split at hs<;>simp only at hs<;>grind
 have:=mM h3 (by grind);grind
theorem cV {a b:P2}{x:Rat}(h:a.1<x∧x<b.1∨x<a.1∧b.1<x):a.1≠b.1:=by grind
theorem zX2 {a b:P2}{x:Rat}(h:a.1<x∧x<b.1∨x<a.1∧b.1<x):hasP (xI a b) (x,zM a b x):=by
 have hn:=cV h;have e:atP a b ((x-a.1)/(b.1-a.1))=(x,zM a b x):=by
  unfold zM;rw[if_neg (by grind)];unfold atP addP gI subP;simp only;rw[Prod.mk.injEq];constructor<;>grind
 rw[← e];have h2:(x-a.1)/(b.1-a.1)*(b.1-a.1)=x-a.1:=by grind
 refine has_at ?_ ?_
 ·rcases h with h | h
  ·exact jC (D:=b.1-a.1) (by grind) (by grind)
  ·exact jC (D:=a.1-b.1) (by grind) (by grind)
 ·suffices h3:0≤1-(x-a.1)/(b.1-a.1) by grind
  rcases h with h | h
  ·exact jC (D:=b.1-a.1) (by grind) (by grind)
  ·exact jC (D:=a.1-b.1) (by grind) (by grind)
theorem zero_between {x y u v:Rat}(h:u<0∧0≤v∨0<u∧v≤0∨u=0∧v≠0):∃ t,0≤t∧t≤1∧u+t*(v-u)=0:=by
 by_cases h0:u=0
 ·exact⟨0,by grind,by grind,by grind⟩
 have e:u/(u-v)*(u-v)=u:=by grind
 refine⟨u/(u-v),?_,?_,by grind⟩
 ·rcases h with h | h | h
  ·exact jC (D:=v-u) (by grind) (by grind)
  ·exact jC (D:=u-v) (by grind) (by grind)
  ·grind
 ·suffices h3:0≤1-u/(u-v) by grind
  rcases h with h | h | h
  ·exact jC (D:=v-u) (by grind) (by grind)
  ·exact jC (D:=u-v) (by grind) (by grind)
  ·grind
theorem zR0 {t x y lo hi:Rat}(h0:0≤t)(h1:t≤1)(hx:lo<x∧x<hi)(hy:lo<y∧y<hi):lo<x+t*(y-x)∧x+t*(y-x)<hi:=by
 rcases (Rat.le_total:x≤y∨y≤x) with h | h
 ·have a:=zaF h0 (show 0≤y-x by grind);have b:=zaF (show 0≤1-t by grind) (show 0≤y-x by grind);grind
 ·have a:=zaF h0 (show 0≤x-y by grind);have b:=zaF (show 0≤1-t by grind) (show 0≤x-y by grind);grind
theorem thru_z {t x y a b:Rat}(h0:0≤t)(h1:t≤1)(k1:a<x∧x<b∨x<a∧b<x)(k2:a<y∧y<b∨y<a∧b<y):a<x+t*(y-x)∧x+t*(y-x)<b∨x+t*(y-x)<a∧b<x+t*(y-x):=by
 rcases k1 with k1 | k1
 ·exact .inl (zR0 h0 h1 k1 (by rcases k2 with k2 | k2;exact k2;grind))
 ·have:=zR0 h0 h1 (lo:=b) (hi:=a) ⟨k1.2,k1.1⟩ (by rcases k2 with k2 | k2;grind;exact⟨k2.2,k2.1⟩);exact .inr ⟨this.2,this.1⟩
theorem still_core {a b c d:P2}{x y lo hi:Rat}(h1:a.1<x∧x<b.1∨x<a.1∧b.1<x)(h2:c.1<x∧x<d.1∨x<c.1∧d.1<x)(h3:a.1<y∧y<b.1∨y<a.1∧b.1<y)(h4:c.1<y∧y<d.1∨y<c.1∧d.1<y)
  (hx:lo<x∧x<hi) (hy:lo<y∧y<hi) (H:∀ p∈qF (yG (xI a b) (xI c d)),p.1≤lo∨hi≤p.1):cmpR (zM a b x) (zM c d x)=cmpR (zM a b y) (zM c d y):=by
 obtain⟨k,f1,f2⟩:=xP (cV h1);obtain⟨l,g1,g2⟩:=xP (cV h2);refine Classical.byContradiction fun hc=>?_;obtain⟨u,hu⟩:∃ u,u=zM a b x-zM c d x:=⟨_,rfl⟩;obtain⟨v,hv⟩:∃ v,v=zM a b y-zM c d y:=⟨_,rfl⟩;have hs:u<0∧0≤v∨0<u∧v≤0∨u=0∧v≠0:=by
  subst hu hv;revert hc;generalize zM a b x=p;generalize zM c d x=q;generalize zM a b y=r;generalize zM c d y=s;intro hc;unfold cmpR at hc;grind
 obtain⟨t,zA0,zA1,e⟩:=zero_between (x:=x) (y:=y) hs;obtain⟨z,hz⟩:∃ z,z=x+t*(y-x):=⟨_,rfl⟩;have hzl:=zR0 zA0 zA1 hx hy;rw[← hz] at hzl;have hzt:∀ {p q:P2},(p.1<x∧x<q.1∨x<p.1∧q.1<x)→(p.1<y∧y<q.1∨y<p.1∧q.1<y)→p.1<z∧z<q.1∨z<p.1∧q.1<z:=fun {p q} k1 k2=>by rw[hz];exact thru_z zA0 zA1 k1 k2
 have e2:zM c d z=zM a b z:=by
  rw[f1,g1] at hu hv;rw[f1,g1];subst hz hu hv;grind
 have p1:=zX2 (hzt h1 h3);have p2:=zX2 (hzt h2 h4);rw[e2] at p2;obtain⟨m0,m1,m2,m3,m4,m5,_⟩:=iL p1 p2;have hb:=zP9 m5;simp only at hb;have q1:=H _ (show (yG (xI a b) (xI c d)).2.1∈_ by unfold qF;rw[if_neg m0];simp);have q2:=H _ (show (yG (xI a b) (xI c d)).2.2∈_ by unfold qF;rw[if_neg m0];simp);have s1:=bI (cV h1) m1.2;have s2:=bI (cV h2) m2.2;have s3:=bI (cV h1) m3.2;have s4:=bI (cV h2) m4.2;generalize (yG (xI a b) (xI c d)).2.1=A at *;generalize (yG (xI a b) (xI c d)).2.2=B at *;rw[f1] at s1 s3;rw[g1] at s2 s4;have hAB:A.1<B.1:=by grind
 have hk:(k-l)*(B.1-A.1)=0:=by grind
 have hkl:B.1-A.1=0∨k-l=0:=by
  by_cases c0:k-l=0
  ·exact .inr c0
  ·exact .inl (mM hk c0)
 have:k=l:=by grind
 subst this;rw[f1,g1] at hu;rw[f1,g1] at hv;grind
end Go.SL
namespace Go.Proofs.YtalkinejknjidaaGreatDoor
open Go.SL Go.RowKit Go.Proofs Tryz
theorem cM (ls:zD)(b:P2×P2):jM (cutsOf ls b):=fun i hi=>by
 have h:=List.pairwise_iff_getElem.1 (xN jQ (rawC ls b)).rise i (i+1) (by unfold cutsOf at hi;omega) hi (by omega);rw[zag,zag,zah (show i<(cutsOf ls b).length by omega),zah hi];exact xH.1 h
theorem cuts_find {ls:zD}{b:P2×P2}{x:Rat}(h:x∈cutsOf ls b):∃ i,i<(cutsOf ls b).length∧(cutsOf ls b).getD i 0=x∧yZ2 (cutsOf ls b) x=(i,true,true):=by
 obtain⟨i,hi,e⟩:=zaZ.1 h;have e2:(cutsOf ls b).getD i 0=x:=by rw[zag,zah hi];exact e
 exact⟨i,hi,e2,by rw[← e2];exact find_wall (cM ls b) hi⟩
theorem meet_mem {ls:zD}{b:P2×P2}{i k m n:Nat}(hk:k<i)(hi:i<ls.length)(hm:m<(ls.getD i []).length)(hn:n<(ls.getD k []).length){p:P2}(h:p∈qF (yG (qH (ls.getD i []) m) (qH (ls.getD k []) n))):p.1∈cutsOf ls b:=by
 unfold cutsOf;rw[yN jQ];unfold rawC;refine zad.2 (.inr (iM.2 ⟨k,i,hk,hi,?_⟩));rw[allOf_comm,aS];exact zaj.2 ⟨p,(yN uU).2 (eG.2 ⟨_,bD.2 ⟨m,hm,rfl⟩,_,bD.2 ⟨n,hn,rfl⟩,h⟩),rfl⟩
theorem lZ {a b:P2}{x:Rat}(h:pG a b x=true):a.1<x∧x<b.1∨x<a.1∧b.1<x:=by
 unfold pG at h;simpa only[Bool.or_eq_true,Bool.and_eq_true,decide_eq_true_eq] using h
theorem still_cuts {ls:zD}{b:P2×P2}{j i k:Nat}{x y:Rat}(hj:j+1<(cutsOf ls b).length)(hk:k<i)(hi:i<ls.length)
  (hx:(cutsOf ls b).getD j 0<x∧x<(cutsOf ls b).getD (j+1) 0) (hy:(cutsOf ls b).getD j 0<y∧y<(cutsOf ls b).getD (j+1) 0):stillP (ls.getD i []) (ls.getD k []) x y:=fun m n hm hn zA1 zA2 t3 t4=>by
 refine still_core (lZ zA1) (lZ zA2) (lZ t3) (lZ t4) hx hy fun p hp=>?_;obtain⟨c,hc,e,_⟩:=cuts_find (meet_mem (b:=b) hk hi hm hn hp);have hr:=cM ls b;rcases zbH c j with h | h | h
 ·exact .inl (by rw[← e];exact zaP (qW hr h (by omega)))
 ·exact .inl (by rw[← e,h];exact zaK)
 ·rcases zaf (j+1) c with h2 | h2
  ·exact .inr (by rw[← e];exact zaP (qW hr h2 hc))
  ·obtain rfl:c=j+1:=by omega
   exact .inr (by rw[← e];exact zaK)
section
variable {Ψ Φ Ξ : PV} {n m l : Nat} {p q x : P2} {t : Rat}
theorem w8cross (hn:n≤400)(hm:m≤400):CTy prog 209 [ag (ptq n p),ag (ptq m q)] (ag (rtc (4*max n m+19) (zG p q))):=by
 refine fw [.cell 4 29] func209 fun X=>?_;iterate 4 refine u ?_
 refine u fun b4=>?_;iterate 2 refine u ?_
 refine zL 13 mixed rfl rfl ?_;repeat refine u ?_
 refine zC rfl rfl (fE (by omega)) ?_;repeat refine u ?_
 refine zC rfl rfl (fE (by omega)) ?_;refine zC rfl rfl (mZ (by omega) (by omega)) ?_;repeat refine u ?_
 refine e ?_;exact uT rfl (by omega)
theorem w8dot (hn:n≤400)(hm:m≤400):CTy prog 282 [ag (ptq n p),ag (ptq m q)] (ag (rtc (4*max n m+24) (p.1*q.1+p.2*q.2))):=by
 refine fw [.cell 4 29] func282 fun X=>?_;iterate 4 refine u ?_
 refine u fun b4=>?_;iterate 2 refine u ?_
 refine zL 14 mixed rfl rfl ?_;repeat refine u ?_
 refine zC rfl rfl (fE (by omega)) ?_;repeat refine u ?_
 refine zC rfl rfl (fE (by omega)) ?_;repeat refine u ?_
 refine zC rfl rfl (nA (by omega)) ?_;repeat refine u ?_
 refine e ?_;exact uT rfl (by omega)
theorem w8scale (hn:n≤400)(hm:m≤400):CTy prog 118 [ag (ptq n p),ag (rtq m t)] (ag (ptc (2*max n m+8) (gI p t))):=by
 refine fw [.cell 4 39] func118 fun X=>?_;iterate 4 refine u ?_
 refine u fun b4=>?_;iterate 2 refine u ?_
 refine zL 11 mixed rfl rfl ?_;repeat refine u ?_
 refine zC rfl rfl (fE (by omega)) ?_;repeat refine u ?_
 refine zC rfl rfl (fE (by omega)) ?_;repeat refine u ?_
 refine zH 0 rfl rfl ?_;repeat refine u ?_
 refine⟨[_],zN 0 rfl rs0,yJ ?_⟩;exact sV (p:=gI p t) rfl (by omega)
theorem w8cmp (hn:n≤1990)(hm:m≤1990):CTy prog 78 [ag (ptq n p),ag (ptq m q)] (exP (.int .i64 (cmpP p q))):=by
 refine fw [.tmp 4] func78 fun X=>?_;repeat refine u ?_
 refine zB rfl rfl (gO (by omega) (by omega)) ?_;repeat refine u ?_
 refine ti (fun c0=>?_) fun c0=>?_;repeat refine u ?_
 refine e ?_;refine ps_i ?_;rotate_left;repeat refine u ?_
 refine zB rfl rfl (gO (by omega) (by omega)) ?_;repeat refine u ?_
 refine e ?_;refine ps_i ?_;rotate_left
 ·unfold cmpP;rw[if_pos (dt c0)]
 ·unfold cmpP;rw[if_neg (df c0)]
theorem rK [h:QP Ψ n p][k:QP Φ m q](hn:n≤400)(hm:m≤400):CTy prog 209 [Ψ,Φ] (ag (rtc (4*max n m+19) (zG p q))):=yE (w8cross hn hm) (fs1 qp_q (fs1 qp_q fs0))
theorem k8dot [h:QP Ψ n p][k:QP Φ m q](hn:n≤400)(hm:m≤400):CTy prog 282 [Ψ,Φ] (ag (rtc (4*max n m+24) (p.1*q.1+p.2*q.2))):=yE (w8dot hn hm) (fs1 qp_q (fs1 qp_q fs0))
theorem k8scale [h:QP Ψ n p][k:QR Φ m t](hn:n≤400)(hm:m≤400):CTy prog 118 [Ψ,Φ] (ag (ptc (2*max n m+8) (gI p t))):=yE (w8scale hn hm) (fs1 qp_q (fs1 qr_q fs0))
theorem yW9 [h:QP Ψ n p][k:QP Φ m q](hn:n≤1990)(hm:m≤1990):CTy prog 78 [Ψ,Φ] (exP (.int .i64 (cmpP p q))):=yE (w8cmp hn hm) (fs1 qp_q (fs1 qp_q fs0))
theorem kD [h:QP Ψ n p][k:QP Φ m q](hn:n≤900)(hm:m≤900):CTy prog 73 [Ψ,Φ] (ag (ptc (n+m+3) (subP p q))):=yE (yW7 hn hm) (fs1 qp_q (fs1 qp_q fs0))
theorem yC6 [h:QP Ψ n p][k:QP Φ m q](hn:n≤400)(hm:m≤400):CTy prog 74 [Ψ,Φ] (ag (ptc (2*max n m+8) (addP p q))):=yE (k8add hn hm) (fs1 qp_q (fs1 qp_q fs0))
end
theorem k8same {p q:P2}{n m:Nat}(hn:n≤1990)(hm:m≤1990):CTy prog 193 [ag (ptq n p),ag (ptq m q)] (exP (.bool (decide (cmpP p q=0)))):=by
 refine fw [.tmp 4] func193 fun X=>?_;repeat refine u ?_
 refine zB rfl rfl (yW9 (by omega) (by omega)) ?_;repeat refine u ?_
 exact e
theorem w8at {a b:P2}{t:Rat}{n m:Nat}(hn:n≤40)(hm:m≤190):CTy prog 47 [ag (ptq n a),ag (ptq n b),ag (rtq m t)] (ag (ptc (4*max (2*n+3) m+24) (atP a b t))):=by
 refine fw [.cell 6 39] func47 fun X=>?_;iterate 5 refine u ?_
 refine u fun b6=>?_;iterate 2 refine u ?_
 refine zL 7 mixed rfl rfl ?_;repeat refine u ?_
 refine zC rfl rfl (kD (by omega) (by omega)) ?_;repeat refine u ?_
 refine zC rfl rfl (k8scale (by omega) (by omega)) ?_;refine zC rfl rfl (yC6 (by omega) (by omega)) ?_;repeat refine u ?_
 refine zH 0 rfl rfl ?_;repeat refine u ?_
 refine⟨[_],zN 0 rfl rs0,yJ ?_⟩;exact sV (p:=atP a b t) rfl (by omega)
theorem k8at {Ξ:PV}{a b:P2}{t:Rat}{n m:Nat}[h:QR Ξ m t](hn:n≤40)(hm:m≤190):CTy prog 47 [ag (ptq n a),ag (ptq n b),Ξ] (ag (ptc (4*max (2*n+3) m+24) (atP a b t))):=yE (w8at hn hm) (fs1 (PSub.refl _) (fs1 (PSub.refl _) (fs1 qr_q fs0)))
theorem zP6 {l:List P2}{n:Nat}(hn:n≤1990)(hl:l.length≤1000000):CTy prog 77 [sv (sl 6 (l.map (ptq n)))] (sv (sl 6 (l.map (ptc (n+1))))):=by
 refine fw [.tmp 2] func77 fun X=>?_;repeat refine u ?_
 refine t_ts (xQ 39 6) ?_;refine lp (σ:=Nat×Value) [0,2] (fun s=>[(3,True,exP s.2),(4,True,zI s.1)]) (fun s=>[.row s.2 39 6 ((l.take s.1).map (ptc (n+1)))]) (fun s=>s.1≤l.length) (fun s=>l.length-s.1) ((0,.slice none 0 0)) ((by simp)) fun s hJ Y _=>?_;repeat refine u ?_
 refine ti (fun c0=>?_) fun c0=>?_;iterate 3 refine u ?_
 refine zL 15 mixed rfl rfl ?_;repeat refine u ?_
 refine d1 (oix _ rfl rfl rfl (fun _=>rfl) (fun _=>(by(have e0:=dt c0;omega)))) ?_;repeat refine u ?_
 refine zC rfl rfl (jO (by omega)) ?_;repeat refine u ?_
 refine d1 (oix _ rfl rfl rfl (fun _=>rfl) (fun _=>(by(have e0:=dt c0;omega)))) ?_;repeat refine u ?_
 refine zC rfl rfl (jO (by omega)) ?_;iterate 4 refine u ?_
 refine u fun r26=>?_;repeat refine u ?_
 rotate_left;iterate 7 refine u ?_
 refine t_ts (yK (s:=2) 0 rfl rfl) ?_;repeat refine u ?_
 refine e ?_;rotate_left
 ·refine⟨(s.1+1,r26),tes ?_ ?_ ?_,(by(have e0:=dt c0;omega)),(by(have e0:=dt c0;omega))⟩;refine zA rfl (zA rfl tn);refine zA rfl (zA rfl tn);rw[(zP (Df.d:P2) (show s.1<l.length by have:=dt c0;omega)).1,zaq];exact zaa _
 ·rw[zaw (by have:=df c0;omega)];exact PSub.refl _
def onB (a b p:P2):Bool:=decide (zG (subP b a) (subP p a)=0)&&decide ((subP p a).1*(subP p b).1+(subP p a).2*(subP p b).2≤0)
theorem w10on {a b p:P2}{m:Nat}(hm:m≤350):CTy prog 217 [ag (ptq 1 a),ag (ptq 1 b),ag (ptq m p)] (exP (.bool (onB a b p))):=by
 refine fw [.tmp 6] func217 fun X=>?_;iterate 9 refine u ?_
 refine zL 9 mixed rfl rfl ?_;repeat refine u ?_
 refine zC rfl rfl (kD (by omega) (by omega)) ?_;repeat refine u ?_
 refine zC rfl rfl (kD (by omega) (by omega)) ?_;refine zC rfl rfl (rK (by omega) (by omega)) ?_;refine zC rfl rfl (oR (by omega)) ?_;repeat refine u ?_
 refine ti (fun c0=>?_) fun c0=>?_;repeat refine u ?_
 refine e ?_;refine psb ?_;rotate_left;iterate 2 refine u ?_
 refine zL 10 mixed rfl rfl ?_;repeat refine u ?_
 refine zC rfl rfl (kD (by omega) (by omega)) ?_;repeat refine u ?_
 refine zC rfl rfl (kD (by omega) (by omega)) ?_;refine zC rfl rfl (k8dot (by omega) (by omega)) ?_;refine zC rfl rfl (oR (by omega)) ?_;repeat refine u ?_
 refine e ?_;refine psb ?_;rotate_left
 ·have h:=dt c0;unfold onB;rw[decide_eq_false (fun e=>h (fX.2 e)),Bool.false_and]
 ·have h:=df c0;unfold onB;rw[decide_eq_true (show zG (subP b a) (subP p a)=0 from fX.1 (Classical.not_not.1 h)),Bool.true_and,decide_eq_decide];exact zM9
theorem yM0 {Ψ:PV}{a b p:P2}{m:Nat}[h:QP Ψ m p](hm:m≤350):CTy prog 217 [ag (ptq 1 a),ag (ptq 1 b),Ψ] (exP (.bool (onB a b p))):=yE (w10on hm) (fs1 (PSub.refl _) (fs1 (PSub.refl _) (fs1 qp_q fs0)))
theorem k10lines {a b c d:P2}:CTy prog 216 [ag (ptq 1 a),ag (ptq 1 b),ag (ptq 1 c),ag (ptq 1 d)] (tu [ag (ptc 348 (xO a b c d)),exP (.bool (decide (yV a b c d)))]):=by
 have hz:∀ {x:Rat},decide ((if x=0 then(30:Int) else 0)≠0)=decide (x=0):=fun {x}=>by by_cases h:x=0<;>simp[h]
 refine fw [.cell 8 39,.tmp 9] func216 fun X=>?_;iterate 6 refine u ?_
 refine u fun b8=>?_;iterate 3 refine u ?_
 apply yO 2 9 8 [(6,10,0),(7,11,1),(8,1000008,0)] rfl rfl mixed rfl rfl rfl;repeat refine u ?_
 refine cx1 (oca rfl rfl fun _=>kD (by omega) (by omega)) rfl ?_;repeat refine u ?_
 refine cx1 (oca rfl rfl fun _=>kD (by omega) (by omega)) rfl ?_;refine cN rfl rfl (cal) (cN rfl rfl (cal) (cS rfl rfl rfl (cst rfl rfl rfl) ?_));refine cE (fun b10 b11=>?_);refine fm ?_;refine u ?_;refine zR (zU (s:=10) 1 rfl rfl) ?_;refine zH 0 rfl rfl (zR (zU (s:=11) 0 rfl rfl) ?_);repeat refine u ?_
 refine zB rfl rfl (rK (by omega) (by omega)) ?_;refine u fun b12=>?_;refine u ?_;refine zR (zU (s:=12) 0 rfl rfl) ?_;iterate 2 refine u ?_
 apply yO 1 13 11 [(10,13,0),(11,1000011,0)] rfl rfl mixed rfl rfl rfl;repeat refine u ?_
 refine cx1 (oca rfl rfl fun _=>kD (by omega) (by omega)) rfl ?_;repeat refine u ?_
 refine cx1 (oca rfl rfl fun _=>rK (by omega) (by omega)) rfl ?_;repeat refine u ?_
 refine cx1 (oca rfl rfl fun _=>yL0 (by omega) (by omega)) rfl ?_;repeat refine u ?_
 refine cN rfl rfl (cal) (cS rfl rfl rfl (cst rfl rfl rfl) ?_);repeat refine u ?_
 refine cE (fun b13=>?_);refine fm ?_;repeat refine u ?_
 refine ti (fun c0=>?_) fun c0=>?_;repeat refine u ?_
 refine zB rfl rfl (k8of (by(simp;done)) (by(simp;done))) ?_;refine zH 1 rfl rfl ?_;repeat refine u ?_
 refine⟨[_,_],zN 1 rfl (rst rfl rs0),aF ?_ ?_⟩;rotate_left;refine psb ?_;rotate_left;repeat refine u ?_
 refine zB rfl rfl (k8at (by omega) (by omega)) ?_;refine zH 1 rfl rfl ?_;repeat refine u ?_
 refine⟨[_,_],zN 1 rfl (rst rfl rs0),aF ?_ ?_⟩;rotate_left;refine psb ?_;rotate_left
 ·have h:=of_decide_eq_true ((hz (x:=zG (subP b a) (subP d c))).symm.trans c0.h);exact sV (p:=(((0:Nat):Rat),((0:Nat):Rat))) (by unfold xO;rw[if_neg (show ¬ yV a b c d from fun c=>c h)];rfl) (by omega)
 ·have h:=of_decide_eq_true ((hz (x:=zG (subP b a) (subP d c))).symm.trans c0.h);exact(decide_eq_false (fun c=>c h)).symm
 ·have h:=of_decide_eq_false ((hz (x:=zG (subP b a) (subP d c))).symm.trans c0.h);exact sV (p:=atP a b (zO9 a b c d)) (by unfold xO;rw[if_pos (show yV a b c d from h)]) (by omega)
 ·have h:=of_decide_eq_false ((hz (x:=zG (subP b a) (subP d c))).symm.trans c0.h);exact(decide_eq_true h).symm
end Go.Proofs.YtalkinejknjidaaGreatDoor
set_option maxHeartbeats 4000000
namespace Go.Proofs.YtalkinejknjidaaGreatDoor
open Go.SL Go.RowKit Go.Proofs Tryz
end Go.Proofs.YtalkinejknjidaaGreatDoor
namespace Go.SL
end Go.SL
namespace Go.Proofs.YtalkinejknjidaaGreatDoor
open Go.SL Go.RowKit Go.Proofs
section
variable {α : Type} {cf : α → α → Int}
theorem fG (h:COrd cf){raw:List α}{x:α}{k:Nat}(z:α)(hk:k≤(setOf cf raw).length)(h1:∀ j,j<k→cf ((setOf cf raw).getD j z) x<0)(h2:k<(setOf cf raw).length→¬ cf ((setOf cf raw).getD k z) x<0) :
  (k<(setOf cf raw).length→cf ((setOf cf raw).getD k z) x=0→setOf cf raw=setOf cf (raw++[x])) ∧
  ((k<(setOf cf raw).length→cf ((setOf cf raw).getD k z) x≠0)→(setOf cf raw).take k++x::(setOf cf raw).drop k=setOf cf (raw++[x])):=by
 have hs:=xN h raw;generalize setOf cf raw=l at *;have hg:∀ {j},(hj:j<l.length)→l.getD j z=l[j]:=fun {j} hj=>by rw[zag,zah hj];rfl
 constructor
 ·intro hl h0;rw[hg hl] at h0;have e:=(h.zero _ _).1 h0;refine IsSet.eq (cf:=cf) (l:=raw++[x]) h ⟨hs.rise,fun y=>?_⟩;rw[hs.mem,zad,zan];exact⟨.inl,fun c=>c.elim id fun c=>by subst c;rw[← e,← hs.mem];exact zaI hl⟩
 ·intro h0;refine IsSet.eq (cf:=cf) (l:=raw++[x]) h ⟨?_,fun y=>?_⟩
  ·have hr:=zci.1 hs.rise;have hb:∀ y∈l.drop k,cf x y<0:=fun y hy=>by
    obtain⟨j,hj,rfl⟩:=zaZ.1 hy;rw[zbo] at hj;rw[List.getElem_drop];have hkl:k<l.length:=by omega
    have h3:=h2 hkl;have h4:=h0 hkl;rw[hg hkl] at h3 h4;have h5:cf x l[k]<0:=(h.anti _ _).1 (by omega);rcases zbd j with c | c
    ·subst c;exact h5
    ·exact h.trans _ _ _ h5 (hr k (k+j) hkl (by omega) (by omega))
   have ha:∀ y∈l.take k,cf y x<0:=fun y hy=>by
    obtain⟨j,hj,rfl⟩:=zaZ.1 hy;rw[zaG] at hj;rw[List.getElem_take,← hg (by omega)];exact h1 j (by omega)
   refine zbK.2 ⟨hs.rise.sublist (List.take_sublist _ _),zaz.2 ⟨hb,hs.rise.sublist (List.drop_sublist _ _)⟩,fun a ha2 b hb2=>?_⟩;rcases zae.1 hb2 with c | c
   ·subst c;exact ha a ha2
   ·exact h.trans _ _ _ (ha a ha2) (hb b c)
  ·rw[zad,zae,zad,zan,← hs.mem]
   conv=>rhs;rw[← zbx k l,zad]
   exact⟨fun c=>by rcases c with c | c | c;exact .inl (.inl c);exact .inr c;exact .inl (.inr c),fun c=>by rcases c with(c | c) | c;exact .inl c;exact .inr (.inr c);exact .inr (.inl c)⟩
end
end Go.Proofs.YtalkinejknjidaaGreatDoor
namespace Go.Proofs.YtalkinejknjidaaGreatDoor
open Go.SL Go.RowKit Go.Proofs Tryz
theorem mX {Ψ Φ:PV}{n m:Nat}{p q:P2}[h:QP Ψ n p][k:QP Φ m q](hn:n≤1990)(hm:m≤1990):CTy prog 193 [Ψ,Φ] (exP (.bool (decide (cmpP p q=0)))):=yE (k8same hn hm) (fs1 qp_q (fs1 qp_q fs0))
theorem yH5 {B:List CT}{c c':CT}{M:Nat→Prop}{w:World}(h:∀ us,c.p M w us→c'.p M w us):∀ {A:List CT} {us:List Value},stp (A++c::B) M w us→stp (A++c'::B) M w us
 | [],_,⟨x,y,e,h1,h2⟩=>⟨x,y,e,h _ h1,h2⟩
 | _::_,_,⟨x,y,e,h1,h2⟩=>⟨x,y,e,h1,yH5 h h2⟩
theorem yR7 {A B:List CT}{c c':CT}{k:Nat}(h:∀ M w us,c.p M w us→c'.p M w us)(hs:c'.sz=k):PSub (sv (sl k (A++c::B))) (sv (sl k (A++c'::B))):=fun M w v ⟨u,vs,e,h1,h2,h3⟩ =>
 ⟨u,vs,e,by simpa using h1,yH5 (h M w) h2,fun x hx=>by
  rcases zad.1 hx with h | h
  ·exact h3 x (by simp[h])
  ·rcases zae.1 h with h | h
   ·rw[h];exact hs
   ·exact h3 x (by simp[h])⟩
theorem rM {α:Type}{f g:α→CT}{k sz:Nat}{l l':List α}{p:α}(hl:l.take k++p::l.drop k=l')(h:∀ M w us,(g p).p M w us→(f p).p M w us)(hs:(f p).sz=sz):PSub (sv (sl sz ((l.take k).map f++[p].map g++((l.drop k).take (l.length-k)).map f))) (sv (sl sz (l'.map f))):=by
 subst hl;rw[zaw (l:=l.drop k) (by rw[zbo];omega),zaM,zba,zaB,List.singleton_append,zaq,zaM];exact yR7 h hs
theorem wJ {n m:Nat}{p:P2}(h:rlen p.1 n∧rlen p.2 n)(M:Nat→Prop)(w:World)(us:List Value)(k:(ptc m p).p M w us):(ptc n p).p M w us:=by
 obtain⟨x,y,e,⟨s,a,d,e2,g⟩,z,o,e3,⟨t,b,f,e4,g2⟩,e5⟩:=k;exact⟨x,y,e,⟨s,a,d,e2,g.relen h.1⟩,z,o,e3,⟨t,b,f,e4,g2.relen h.2⟩,e5⟩
theorem yC9 {raw:List P2}{p:P2}{n m:Nat}(hm:m≤1900)(hn:n≤1900)(hL:(setOf cmpP raw).length≤100000)(h1:rlen p.1 n∧rlen p.2 n):CTy prog 150 [sv (sl 6 ((setOf cmpP raw).map (ptc n))),ag (ptq m p)] (sv (sl 6 ((setOf cmpP (raw++[p])).map (ptc n)))):=by
 refine fw [.tmp 4] func150 fun X=>?_;repeat refine u ?_
 refine lp (σ:=Nat) [0,3,4] (fun k=>[(5,True,zI k)]) (fun k=>[]) (fun k=>k≤(setOf cmpP raw).length∧∀ j,j<k→cmpP ((setOf cmpP raw).getD j (0,0)) p<0) (fun k=>(setOf cmpP raw).length-k) (0) (⟨by omega,by omega⟩) fun k hJ Y _=>?_;obtain⟨hk,hlt⟩:=hJ;iterate 2 refine u ?_
 refine zL 13 mixed rfl rfl ?_;repeat refine u ?_
 refine d1g rfl rfl (oca rfl rfl fun g=>yW9 (by omega) (by omega)) ?_;repeat refine u ?_
 refine ti (fun c0=>?_) fun c0=>?_;repeat refine u ?_
 rotate_left;iterate 4 refine u ?_
 refine zL 12 mixed rfl rfl ?_;repeat refine u ?_
 refine d1g rfl rfl (oca rfl rfl fun g=>mX (by omega) (by omega)) ?_;repeat refine u ?_
 refine ti (fun c1=>?_) fun c1=>?_;repeat refine u ?_
 refine e ?_;rotate_left;iterate 3 refine u ?_
 refine tbs0 fun r35=>?_;iterate 3 refine u ?_
 refine u fun r39=>?_;iterate 3 refine u ?_
 refine uH 0 9 0 [(4,44,0),(8,48,0)] rfl rfl rfl mixed rfl rfl ?_;repeat refine u ?_
 refine cx1 (obs rfl rfl rfl rfl rfl rfl) rfl (cx1 (oca rfl rfl fun _=>zP6 (l:=[p]) (by omega) (by(simp;done))) rfl ?_);refine cB rfl rfl (cap0 rfl rfl (by(simp;omega)) rfl) ?_;repeat refine u ?_
 refine cA rfl rfl rfl (cap rfl (by(simp;omega)) rfl) ?_;refine cE (fun r48=>?_);refine fm ?_;iterate 3 refine u ?_
 refine t_ts (yK (s:=4) 0 rfl rfl) ?_;repeat refine u ?_
 refine e ?_;rotate_left
 ·have hc:=dand c0;refine⟨k+1,tes ?_ ?_ (zaa _),?_,(by omega)⟩;refine zA rfl tn;refine zA rfl (zA rfl (zA rfl tn));refine⟨by omega,fun j hj=>?_⟩;rcases zaf j k with c | c
  ·exact hlt j c
  ·rw[show j=k by omega];exact hc.2
 ·have hc:=dand c1;rw[(fG uU (x:=p) (k:=k) (0,0) hk hlt fun h=>(fun c=>dor c0 ⟨by omega,c⟩)).1 (by omega) hc.2];exact PSub.refl _
 ·have hi:=(fG uU (x:=p) (k:=k) (0,0) hk hlt fun h=>(fun c=>dor c0 ⟨by omega,c⟩)).2 fun h c=>dor c1 ⟨by omega,c⟩;exact rM (f:=ptc n) hi (wJ h1) rfl
theorem r_up {n m:Nat}{p:Rat}(h:rlen p n)(M:Nat→Prop)(w:World)(us:List Value)(k:(rtc m p).p M w us):(rtc n p).p M w us:=by
 obtain⟨s,a,d,e2,g⟩:=k;exact⟨s,a,d,e2,g.relen h⟩
theorem zL3 {raw:List Rat}{p:Rat}{n m:Nat}(hm:m≤1900)(hn:n≤1900)(hL:(setOf cmpR raw).length≤100000)(h1:rlen p n):CTy prog 75 [sv (sl 3 ((setOf cmpR raw).map (rtc n))),ag (rtq m p)] (sv (sl 3 ((setOf cmpR (raw++[p])).map (rtc n)))):=by
 refine fw [.tmp 4] func75 fun X=>?_;repeat refine u ?_
 refine lp (σ:=Nat) [0,3,4] (fun k=>[(5,True,zI k)]) (fun k=>[]) (fun k=>k≤(setOf cmpR raw).length∧∀ j,j<k→cmpR ((setOf cmpR raw).getD j 0) p<0) (fun k=>(setOf cmpR raw).length-k) (0) (⟨by omega,by omega⟩) fun k hJ Y _=>?_;obtain⟨hk,hlt⟩:=hJ;iterate 2 refine u ?_
 refine zL 13 mixed rfl rfl ?_;repeat refine u ?_
 refine d1g rfl rfl (oca rfl rfl fun g=>gO (by omega) (by omega)) ?_;repeat refine u ?_
 refine ti (fun c0=>?_) fun c0=>?_;repeat refine u ?_
 rotate_left;iterate 4 refine u ?_
 refine zL 13 mixed rfl rfl ?_;repeat refine u ?_
 refine d1g rfl rfl (oca rfl rfl fun g=>gO (by omega) (by omega)) ?_;repeat refine u ?_
 refine ti (fun c1=>?_) fun c1=>?_;repeat refine u ?_
 refine e ?_;rotate_left;iterate 3 refine u ?_
 refine tbs0 fun r35=>?_;iterate 3 refine u ?_
 refine u fun r40=>?_;iterate 3 refine u ?_
 refine uH 0 9 0 [(4,45,0),(8,49,0)] rfl rfl rfl mixed rfl rfl ?_;repeat refine u ?_
 refine cx1 (oca rfl rfl fun _=>jO (by omega)) rfl ?_;refine cx1 (obs rfl rfl rfl rfl rfl rfl) rfl (cB rfl rfl (cap0 rfl rfl (by(simp;omega)) rfl) ?_);repeat refine u ?_
 refine cA rfl rfl rfl (cap rfl (by(simp;omega)) rfl) ?_;refine cE (fun r49=>?_);refine fm ?_;iterate 3 refine u ?_
 refine t_ts (yK (s:=4) 0 rfl rfl) ?_;repeat refine u ?_
 refine e ?_;rotate_left
 ·have hc:=dand c0;refine⟨k+1,tes ?_ ?_ (zaa _),?_,(by omega)⟩;refine zA rfl tn;refine zA rfl (zA rfl (zA rfl tn));refine⟨by omega,fun j hj=>?_⟩;rcases zaf j k with c | c
  ·exact hlt j c
  ·rw[show j=k by omega];exact hc.2
 ·have hc:=dand c1;rw[(fG jQ (x:=p) (k:=k) 0 hk hlt fun h=>(fun c=>dor c0 ⟨by omega,c⟩)).1 (by omega) hc.2];exact PSub.refl _
 ·have hi:=(fG jQ (x:=p) (k:=k) 0 hk hlt fun h=>(fun c=>dor c0 ⟨by omega,c⟩)).2 fun h c=>dor c1 ⟨by omega,c⟩;exact rM (f:=rtc n) hi (r_up h1) rfl
theorem yC4 {a b:Rat}(ha:0≤a)(hb:b≤0):a*b≤0:=by have:=zaF ha (show 0 ≤ -b by grind);grind
theorem yU2 {x u:Rat}(h:x*(x-u)≤0)(hu:0≤u):0≤x∧x≤u:=by
 constructor
 ·refine Classical.byContradiction fun c=>?_;have:=zaD (show 0 < -x by grind) (show 0<u-x by grind);grind
 ·refine Classical.byContradiction fun c=>?_;have:=zaD (show 0<x by grind) (show 0<x-u by grind);grind
theorem zM5 {x:Rat}(h:x≠0):0<x*x:=by
 rcases (Rat.le_total:x≤0∨0≤x) with c | c
 ·have:=zaD (show 0 < -x by grind) (show 0 < -x by grind);grind
 ·exact zaD (by grind) (by grind)
theorem mI (x:Rat):0≤x*x:=by
 by_cases h:x=0
 ·subst h;simp
 ·exact zaP (zM5 h)
theorem xE2 {x k:Rat}(h:x*k≤0)(hk:0<k):x≤0:=Classical.byContradiction fun c=>by
 have:=zaD (show 0<x by grind) hk;grind
theorem iI {a b p:P2}:onB a b p=true↔zG (subP b a) (subP p a)=0∧(p.1-a.1)*(p.1-b.1)+(p.2-a.2)*(p.2-b.2)≤0:=by
 unfold onB;rw[Bool.and_eq_true,decide_eq_true_eq,decide_eq_true_eq];rfl
theorem onB_swap {a b p:P2}:onB a b p=true↔onB b a p=true:=by
 rw[iI,iI];unfold zG subP;simp only;constructor<;>rintro⟨h1,h2⟩<;>constructor<;>grind
theorem on_parts {x y u v:Rat}(h1:u*y-v*x=0)(h2:x*(x-u)+y*(y-v)≤0)(h:u≠0∨v≠0):x*(x-u)≤0∧y*(y-v)≤0:=by
 have hk:0<u*u+v*v:=by
  have:=mI u;have:=mI v;rcases h with h | h<;>have:=zM5 h<;>grind
 have e1:x*(x-u)*(u*u+v*v)=(x*(x-u)+y*(y-v))*(u*u):=by grind
 have e2:y*(y-v)*(u*u+v*v)=(x*(x-u)+y*(y-v))*(v*v):=by grind
 have k1:=yC4 (mI u) h2;have k2:=yC4 (mI v) h2;exact⟨xE2 (k:=u*u+v*v) (by grind) hk,xE2 (k:=u*u+v*v) (by grind) hk⟩
theorem wQ {a b p:P2}(hle:leP a b)(h:onB a b p=true):hasP (a,b) p:=by
 obtain⟨h1,h2⟩:=iI.1 h;refine⟨?_,h1⟩;unfold zG subP at h1;simp only at h1;unfold uW leP;unfold leP at hle;simp only;by_cases hz:b.1-a.1≠0∨b.2-a.2≠0
 ·obtain⟨k1,k2⟩:=on_parts (x:=p.1-a.1) (y:=p.2-a.2) (u:=b.1-a.1) (v:=b.2-a.2) (by grind) (by grind) hz;have b1:=yU2 k1 (by grind);by_cases hu:b.1-a.1=0
  ·have b2:=yU2 k2 (by grind);grind
  ·have hu2:0<b.1-a.1:=by grind
   rcases (show a.1<p.1∨p.1=a.1 by grind) with c | c
   ·refine⟨.inl c,?_⟩;rcases (show p.1<b.1∨p.1=b.1 by grind) with d | d
    ·exact .inl d
    ·refine .inr ⟨d,?_⟩;have:(b.1-a.1)*(p.2-b.2)=0:=by rw[d] at h1;grind
     have:=mM this hu;grind
   ·have:(b.1-a.1)*(p.2-a.2)=0:=by rw[c] at h1;grind
    have:=mM this hu;exact⟨.inr ⟨c.symm,by grind⟩,.inl (by grind)⟩
 ·have e1:b.1=a.1:=by grind
  have e2:b.2=a.2:=by grind
  rw[e1,e2] at h2;have q1:=mI (p.1-a.1);have q2:=mI (p.2-a.2);have z1:p.1-a.1=0:=Classical.byContradiction fun c=>by have:=zM5 c;grind
  have z2:p.2-a.2=0:=Classical.byContradiction fun c=>by have:=zM5 c;grind
  grind
theorem eR {a b p:P2}:onB a b p=true↔hasP (xI a b) p:=by
 constructor
 ·intro h;unfold xI;split
  ·rename_i c;exact wQ (by have:=aP.1 c;exact(uB a b).resolve_left this) (onB_swap.1 h)
  ·rename_i c;exact wQ (yN9.1 (by omega)) h
 ·intro h;have hb:=zP9 h;obtain⟨_,hs⟩:=h;rw[iI];have hx:∀ {l h p:Rat},l≤p→p≤h→(p-l)*(p-h)≤0:=fun {l h p} c d=>yC4 (by grind) (by grind);unfold kQ xI at *;split at hb<;>rename_i c
  ·rw[if_pos c] at hs;simp only at hs hb;refine⟨by unfold zG subP at *; simp only at *; grind,?_⟩;have y1:=hx hb.1 hb.2.1;rcases hb.2.2 with d | d
   ·have:=hx d.1 d.2;grind
   ·have:=hx d.1 d.2;grind
  ·rw[if_neg c] at hs;simp only at hs hb;refine⟨hs,?_⟩;have y1:=hx hb.1 hb.2.1;rcases hb.2.2 with d | d
   ·have:=hx d.1 d.2;grind
   ·have:=hx d.1 d.2;grind
def yM7 (a b c d:P2):List P2:=[a,b,c,d].filter fun p=>onB a b p&&onB c d p
noncomputable def endS (a b c d:P2):List P2:=setOf cmpP (yM7 a b c d)
noncomputable def segR (a b c d:P2):Mt :=
 if 2≤(endS a b c d).length then(2,(endS a b c d).getD 0 (0,0),(endS a b c d).getD ((endS a b c d).length-1) (0,0))
 else if (endS a b c d).length=1 then(1,(endS a b c d).getD 0 (0,0),(endS a b c d).getD 0 (0,0))
 else if yV a b c d∧onB a b (xO a b c d)=true∧onB c d (xO a b c d)=true then(1,xO a b c d,xO a b c d) else yJ7
theorem ends_mem {a b c d p:P2}:p∈endS a b c d↔p∈[a,b,c,d]∧hasP (xI a b) p∧hasP (xI c d) p:=by
 unfold endS yM7;rw[yN uU,List.mem_filter,Bool.and_eq_true,eR,eR]
theorem rP (a b:P2):(xI a b).1∈[a,b]∧(xI a b).2∈[a,b]:=by unfold xI;split<;>simp
theorem lo_in (a b c d:P2):loP (xI a b) (xI c d)∈[a,b,c,d]∧hiP (xI a b) (xI c d)∈[a,b,c,d]:=by
 have h1:=rP a b;have h2:=rP c d;simp only[zae,zaN,or_false] at h1 h2 ⊢;unfold loP hiP;constructor
 ·split
  ·rcases h2.1 with e | e<;>rw[e]<;>simp
  ·rcases h1.1 with e | e<;>rw[e]<;>simp
 ·split
  ·rcases h2.2 with e | e<;>rw[e]<;>simp
  ·rcases h1.2 with e | e<;>rw[e]<;>simp
theorem pL (s t:P2×P2):yG s t=yJ7∨((yG s t).1≠0∧(yG s t).2=(loP s t,hiP s t))∨yV s.1 s.2 t.1 t.2∧yG s t=(1,xO s.1 s.2 t.1 t.2,xO s.1 s.2 t.1 t.2):=by
 unfold yG;split
 ·exact .inl rfl
 ·split
  ·refine .inr (.inl ⟨?_,rfl⟩);dsimp only;split<;>decide
  ·split
   ·rename_i h;exact .inr (.inr ⟨h.1,rfl⟩)
   ·exact .inl rfl
theorem segR_eq (a b c d:P2):segR a b c d=zT8 a b c d:=by
 unfold zT8;obtain⟨s,hs⟩:∃ s,s=xI a b:=⟨_,rfl⟩;obtain⟨t,ht⟩:∃ t,t=xI c d:=⟨_,rfl⟩;have hmem:∀ p,p∈endS a b c d↔p∈[a,b,c,d]∧hasP s p∧hasP t p:=fun p=>by rw[hs,ht];exact ends_mem
 have hli:=lo_in a b c d;have hon:∀ {p},(yV a b c d→hasP s p∧hasP t p→p=xO a b c d):=fun {p} ho hp=>by
  have k:=fA ho;refine lQ ho ?_ ?_ k.1 k.2
  ·have:=(iI.1 (eR.2 (by rw[← hs];exact hp.1))).1;exact this
  ·have:=(iI.1 (eR.2 (by rw[← ht];exact hp.2))).1;exact this
 have hok:yV s.1 s.2 t.1 t.2→yV a b c d:=fun h=>by
  rw[hs,ht] at h;unfold xI at h;unfold yV zG subP at *;split at h<;>split at h<;>(simp only at h ⊢; grind)
 rw[← hs,← ht] at hli ⊢;rcases pL s t with h0 | ⟨hk,h2⟩ | ⟨ho,h1⟩
 ·have hno:∀ p,¬ (hasP s p∧hasP t p):=fun p hp=>(iL hp.1 hp.2).1 (by rw[h0];rfl);have hE:endS a b c d=[]:=zcB.2 fun p hp=>hno p ((hmem p).1 hp).2;unfold segR;rw[hE,h0];rw[if_neg (by simp),if_neg (by simp),if_neg fun c=>hno _ ⟨by rw[hs];exact eR.1 c.2.1,by rw[ht];exact eR.1 c.2.2⟩]
 ·have hm:=tN hk;rw[h2] at hm;have hA:loP s t∈endS a b c d:=(hmem _).2 ⟨hli.1,hm.1,hm.2.1⟩;have hB:hiP s t∈endS a b c d:=(hmem _).2 ⟨hli.2,hm.2.2.1,hm.2.2.2⟩;have hbt:∀ p∈endS a b c d,leP (loP s t) p∧leP p (hiP s t):=fun p hp=>by
   have:=(iL ((hmem p).1 hp).2.1 ((hmem p).1 hp).2.2).2.2.2.2.2.1;rw[h2] at this;exact this.1
  have h12:=iL hm.1 hm.2.1;have hr:=zci.1 (xN uU (yM7 a b c d)).rise;unfold segR;change ∀(i j:Nat) (hi:i<(endS a b c d).length) (hj:j<(endS a b c d).length),i<j→cmpP (endS a b c d)[i] (endS a b c d)[j]<0 at hr;generalize endS a b c d=E at *;have hg:∀ {j} (hj:j<E.length),E.getD j (0,0)=E[j]:=fun {j} hj=>by rw[zag,zah hj];rfl
  have hpos:0<E.length:=zcW hA;have e0:E.getD 0 (0,0)=loP s t:=by
   obtain⟨j,hj,e⟩:=zaZ.1 hA;rw[hg hpos];have k1:=(hbt _ (zaI hpos)).1;rcases zbd j with c | c
   ·subst c;exact e
   ·have:=kL.1 (hr 0 j hpos hj c);rw[e] at this;exact absurd k1 this
  have e1:E.getD (E.length-1) (0,0)=hiP s t:=by
   obtain⟨j,hj,e⟩:=zaZ.1 hB;rw[hg (by omega)];have k1:=(hbt _ (zaI (show E.length-1<E.length by omega))).2;rcases zaf j (E.length-1) with c | c
   ·have:=kL.1 (hr j (E.length-1) hj (by omega) c);rw[e] at this;exact absurd k1 this
   ·have:j=E.length-1:=by omega
    subst this;exact e
  have hme:∀ k:Int,(yG s t).1=k→yG s t=(k,loP s t,hiP s t):=fun k h=>by rw[← h,← h2]
  have hiff:=h12.2.2.2.2.2.2.2.2;have hor:=h12.2.2.2.2.2.2.2.1;rw[h2] at hiff;dsimp only at hiff;by_cases he:loP s t=hiP s t
  ·have hl:¬ 2≤E.length:=fun c=>by
    have:=hr 0 (E.length-1) hpos (by omega) (by omega);rw[← hg hpos,← hg (by omega),e0,e1,he] at this;exact fM _ this
   rw[if_neg hl,if_pos (by omega),hme 1 (hiff.2 he),e0,← he]
  ·have hl:2≤E.length:=by
    rcases zaf 1 E.length with c | c
    ·exact c
    ·have:E.length-1=0:=by omega
     rw[this,e0] at e1;exact absurd e1 he
   rw[if_pos hl,hme 2 (hor.resolve_left fun c=>he (hiff.1 c)),e0,e1]
 ·have hk:(yG s t).1≠0:=by rw[h1];exact(by decide:(1:Int)≠0)
  have hm:=tN hk;rw[h1] at hm;have ho':=hok ho;have hL:=hon ho' ⟨hm.1,hm.2.1⟩;dsimp only at hL;have hE:∀ p∈endS a b c d,p=xO a b c d:=fun p hp=>hon ho' ((hmem p).1 hp).2;have hr:=zci.1 (xN uU (yM7 a b c d)).rise;unfold segR;change ∀(i j:Nat) (hi:i<(endS a b c d).length) (hj:j<(endS a b c d).length),i<j→cmpP (endS a b c d)[i] (endS a b c d)[j]<0 at hr;rw[h1,hL];generalize endS a b c d=E at *;have hl:¬ 2≤E.length:=fun c=>by
   have:=hr 0 1 (by omega) (by omega) (by omega);rw[hE _ (zaI (by omega)),hE _ (zaI (by omega))] at this;exact fM _ this
  rw[if_neg hl];by_cases h0:E.length=1
  ·rw[if_pos h0,zag,zah (show 0<E.length by omega),zbw,hE _ (zaI _)]
  ·rw[if_neg h0,if_pos ⟨ho',eR.2 (by rw[← hs,← hL];exact hm.1),eR.2 (by rw[← ht,← hL];exact hm.2.1)⟩]
theorem aB {k:Nat}:PSub (exP (.slice none 0 0)) (sv (sl k [])):=fun M w v h=>by
 obtain rfl:v=_:=h;exact⟨_,[],rfl,zM7,rfl,fun _ h=>by cases h⟩
theorem fZ {α:Type}{cf:α→α→Int}(h:COrd cf):setOf cf ([]:List α)=[]:=List.eq_nil_of_length_eq_zero (by have:=yY h ([]:List α);simpa using this)
theorem mN {α:Type}{cf:α→α→Int}(h:COrd cf){k:Nat}{f:α→CT}{l:List α}(hl:l=[]):PSub (exP (.slice none 0 0)) (sv (sl k ((setOf cf l).map f))):=by
 subst hl;rw[fZ h];exact aB
theorem xB {α:Type}[Df α]{l:List α}{i:Nat}(h:i<l.length):l.getD i Df.d∈l:=by rw[zag,zah h];exact zaI h
theorem k10ends {a b c d:P2}(hr:∀ p∈[a,b,c,d],rlen p.1 2∧rlen p.2 2):CTy prog 215 [ag (ptq 1 a),ag (ptq 1 b),ag (ptq 1 c),ag (ptq 1 d)] (sv (sl 6 ((endS a b c d).map (ptc 2)))):=by
 refine fw [.tmp 8] func215 fun X=>?_;repeat refine u ?_
 refine t_ts (qB (s:=10) rfl (ps_p (show _=sv (sl 6 ([a,b,c,d].map (ptq 1))) from rfl))) ?_;refine yR (σ:=Nat) (fun i=>[(9,True,sv (sl 6 ((setOf cmpP (([a,b,c,d].take i).filter fun p=>onB a b p&&onB c d p)).map (ptc 2)))),(11,True,zI i)]) (fun i=>[]) (fun i=>i≤4) (fun i=>4-i) (0) (tk 4 rfl (tk 5 rfl (tk 6 rfl (tk 7 rfl (tk 8 rfl (tk 10 rfl tn)))))) ?_ rfl ((by omega)) (fun i hJ Y _=>?_);refine tc rfl ?_ ?_;rotate_left;refine zA rfl tn;rotate_left
 ·exact mN uU rfl
 repeat refine u ?_
 refine ti (fun c0=>?_) fun c0=>?_;iterate 4 refine u ?_
 refine zL 16 mixed rfl rfl ?_;repeat refine u ?_
 refine d1 (oix _ rfl rfl rfl (fun _=>rfl) (fun _=>(by(have e0:=dt c0;simp;omega)))) ?_;repeat refine u ?_
 refine zC rfl rfl (yM0 (by omega)) ?_;repeat refine u ?_
 refine d1g rfl rfl (oix _ rfl rfl rfl (fun g=>rfl) (fun g=>(by(have e0:=dt c0;simp;omega)))) ?_;repeat refine u ?_
 refine d1g rfl rfl (oca rfl rfl fun g=>yM0 (by omega)) ?_;repeat refine u ?_
 refine ti (fun c1=>?_) fun c1=>?_;repeat refine u ?_
 refine zA1 (oix _ rfl rfl rfl (fun _=>rfl) (fun _=>(by(have e0:=dt c0;simp;omega)))) ?_;repeat refine u ?_
 refine zB rfl rfl (yC9 (by omega) (by omega) ?_ ?_) ?_;rotate_left;rotate_left;repeat refine u ?_
 rotate_left;repeat refine u ?_
 rotate_left;repeat refine u ?_
 refine e ?_;rotate_left
 ·exact zab (yY uU _) (zab (zcK _ _) (by rw[zaG];simp;omega))
 ·exact hr _ (xB (by have:=dt c0;simp;omega))
 ·have hi:=dt c0;refine⟨i+1,tes ?_ ?_ (zaa _),(by omega),(by omega)⟩;refine tc rfl ?_ ?_;rotate_left;refine zA rfl tn;refine zA rfl (zA rfl (zA rfl (zA rfl (zA rfl (zA rfl tn)))));have hc:(onB a b ([a,b,c,d].getD i Df.d)&&onB c d ([a,b,c,d].getD i Df.d))=true:=c1.h;rw[(zP (Df.d:P2) (l:=[a,b,c,d]) (s:=i) (by simp;omega)).1,zcJ,show List.filter (fun p=>onB a b p&&onB c d p) [[a,b,c,d].getD i Df.d]=[[a,b,c,d].getD i Df.d] from by rw[List.filter_cons,if_pos hc];rfl];exact PSub.refl _
 ·have hi:=dt c0;refine⟨i+1,tes ?_ ?_ (zaa _),(by omega),(by omega)⟩;refine tc rfl ?_ ?_;rotate_left;refine zA rfl tn;refine zA rfl (zA rfl (zA rfl (zA rfl (zA rfl (zA rfl tn)))));have hc:(onB a b ([a,b,c,d].getD i Df.d)&&onB c d ([a,b,c,d].getD i Df.d))=false:=c1.h;rw[(zP (Df.d:P2) (l:=[a,b,c,d]) (s:=i) (by simp;omega)).1,zcJ,show List.filter (fun p=>onB a b p&&onB c d p) [[a,b,c,d].getD i Df.d]=[] from by rw[List.filter_cons,if_neg (by rw[hc];exact Bool.false_ne_true)];rfl,zap];exact PSub.refl _
 ·have hi:=df c0;rw[show i=4 by omega];exact PSub.refl _
abbrev zMt:Value:=.agg #[.int .i8 0,.bool false,.slice none 0 0,.slice none 0 0,.bool false,.slice none 0 0,.slice none 0 0,.bool false,.slice none 0 0,.slice none 0 0,.bool false,.slice none 0 0,.slice none 0 0]
theorem upd6 {u v:List Value}(h1:u.length=6)(h2:v.length=6):updC zMt.cells.toList [(1,u),(7,v)] = .int .i8 0::(u++v):=by
 match u,v,h1,h2 with
 | [_,_,_,_,_,_],[_,_,_,_,_,_],_,_=>rfl
theorem obzm {P:Program}{r:Option Nat}{N:Nat}{ops:Array Oper}{M:Nat→Prop}{S:List Ow}{p q:Prop}{Γ:TE}{d:Nat}{t t':TypeId}{pos:String}{af:Array Edge}{x y:Operand}{τs:List PV}{c1 c2:CT}(hx:tvs Γ [x,y]=some (q,τs))[hi:Im p q][ht:TPl P t [1,6,6]][hc:CtL τs [c1,c2]][tz:TZ P t zMt](h1:c1.sz=6)(h2:c2.sz=6) :
  Ob P r N ops M S p ⟨some d,.build t #[(1,x),(2,y)],t',pos,af,none⟩ Γ (ag (st [xc (.int .i8 0),c1,c2])):=fun D E w d' hd hN hg hp' hT=>by
 obtain rfl:=Option.some.inj hd;obtain⟨vs,e1,k1⟩:=uG hT hx (hi.h hp') fun x hx=>qJ (by simpa [Op.operands] using hx);obtain⟨uss,g1,g2,g3⟩:=hc.h k1;obtain⟨sz,bytes,hz⟩:=tz.s;obtain⟨u1,u2,rfl⟩:∃ u1 u2,uss=[u1,u2]:=by
  have h3:=congrArg List.length g3
  match uss,h3 with
  | [u1,u2],_=>exact⟨_,_,rfl⟩
 have l1:u1.length=6:=by simp at g3;omega
 have l2:u2.length=6:=by simp at g3;omega
 refine cZ (zs:=zMt.cells.toList) hN ht.h hz (by simpa using e1) g1 (by simp[l1,l2];exact⟨by decide,by decide⟩) rfl (fin ⟨_,rfl,?_⟩);rw[show ((([(1,x),(2,y)]:List (Nat×Operand)).map (·.1)).map fun i=>(([1,6,6]:List Nat).take i).sum).zip [u1,u2]=[(1,u1),(7,u2)] from rfl,upd6 l1 l2];exact⟨[.int .i8 0],u1++u2,rfl,⟨rfl,rfl⟩,by simpa using g2⟩
theorem ends_len (a b c d:P2):(endS a b c d).length≤4:=zab (yY uU _) (zcK _ _)
theorem k10segs {a b c d:P2}(hr:∀ p∈[a,b,c,d],rlen p.1 2∧rlen p.2 2):CTy prog 149 [ag (ptq 1 a),ag (ptq 1 b),ag (ptq 1 c),ag (ptq 1 d)] (ag (mtc 348 (zT8 a b c d))):=by
 have hs:=segR_eq a b c d;unfold segR at hs;have hl:(endS a b c d).length≤4:=ends_len a b c d;refine fw [.cell 8 178] func149 fun X=>?_;iterate 6 refine u ?_
 refine u fun b8=>?_;repeat refine u ?_
 refine zB rfl rfl (k10ends (by omega)) ?_;repeat refine u ?_
 refine ti (fun c0=>?_) fun c0=>?_;refine u ?_;refine zL 10 mixed rfl rfl ?_;repeat refine u ?_
 refine d1 (oix _ rfl rfl rfl (fun _=>rfl) (fun _=>(by(have e0:=dt c0;simp;omega)))) ?_;repeat refine u ?_
 refine d1 (oix ((endS a b c d).length-1) rfl rfl rfl (fun _=>(by(have e0:=dt c0;omega))) (fun _=>(by(have e0:=dt c0;omega)))) ?_;repeat refine u ?_
 refine zH 0 rfl rfl ?_;repeat refine u ?_
 refine⟨[_],zN 0 rfl rs0,yJ ?_⟩;rotate_left;repeat refine u ?_
 refine ti (fun c1=>?_) fun c1=>?_;refine u ?_;refine zL 7 mixed rfl rfl ?_;repeat refine u ?_
 refine d1 (oix _ rfl rfl rfl (fun _=>rfl) (fun _=>(by(have e0:=dt c1;simp;omega)))) ?_;repeat refine u ?_
 refine d1 (oix _ rfl rfl rfl (fun _=>rfl) (fun _=>(by(have e0:=dt c1;simp;omega)))) ?_;repeat refine u ?_
 refine zH 0 rfl rfl ?_;repeat refine u ?_
 refine⟨[_],zN 0 rfl rs0,yJ ?_⟩;rotate_left;repeat refine u ?_
 refine zB rfl rfl k10lines ?_;iterate 3 refine u ?_
 refine u fun b10=>?_;refine zH 0 rfl rfl (zR (zU (s:=10) 0 rfl rfl) ?_);repeat refine u ?_
 refine t1g rfl rfl (oca rfl rfl fun g=>yM0 (by omega)) ?_;repeat refine u ?_
 refine t1g rfl rfl (oca rfl rfl fun g=>yM0 (by omega)) ?_;repeat refine u ?_
 refine ti (fun c2=>?_) fun c2=>?_;repeat refine u ?_
 refine zH 0 rfl rfl ?_;repeat refine u ?_
 refine⟨[_],zN 0 rfl rs0,yJ ?_⟩;rotate_left;repeat refine u ?_
 refine zB rfl rfl (k8of (k:=0) (l:=0) (by omega) (by omega)) ?_;refine zB rfl rfl (k8of (k:=0) (l:=0) (by omega) (by omega)) ?_;refine zA1 (obzm rfl rfl rfl) ?_;refine zH 0 rfl rfl ?_;repeat refine u ?_
 refine⟨[_],zN 0 rfl rs0,yJ ?_⟩;rotate_left
 ·exact yI4 (by rw[← hs,if_pos (by have:=dt c0;omega)];rfl) (by omega) (by omega)
 ·exact yI4 (by rw[← hs,if_neg (by have:=df c0;omega),if_pos (by have:=dt c1;omega)];rfl) (by omega) (by omega)
 ·have h2:=c2.h;rw[zam,zam,decide_eq_true_eq] at h2;exact yI4 (by rw[← hs,if_neg (by have:=df c0;omega),if_neg (by have:=df c1;omega),if_pos ⟨h2.1.1,h2.1.2,h2.2⟩]) (by omega) (by omega)
 ·have h2:=c2.h;rw[zcR,zcR,decide_eq_false_iff_not] at h2;have hn:¬ (yV a b c d∧onB a b (xO a b c d)=true∧onB c d (xO a b c d)=true):=fun⟨k1,k2,k3⟩=>by
   rcases h2 with(h | h) | h
   ·exact h k1
   ·rw[show onB a b (xO a b c d)=false from h] at k2;cases k2
   ·rw[show onB c d (xO a b c d)=false from h] at k3;cases k3
  refine yI4 (a:=2) (b:=2) (x:=(((0:Nat):Rat),((0:Nat):Rat))) (y:=(((0:Nat):Rat),((0:Nat):Rat))) ?_ (by omega) (by omega);rw[← hs,if_neg (by have:=df c0;omega),if_neg (by have:=df c1;omega),if_neg hn];rfl
theorem yL9 {raw:List P2}{p:P2}(hL:(setOf cmpP raw).length≤100000):CTy prog 150 [sv (sl 6 ((setOf cmpP raw).map (ptc 349))),ag (ptc 348 p)] (sv (sl 6 ((setOf cmpP (raw++[p])).map (ptc 349)))) :=
 ⟨(bo func150),fun M w vs hM hT hv=>by
  have h0:=hv;obtain⟨v,us,rfl,k1,u,us2,rfl,k2,k3⟩:=hv;obtain⟨s1,a1,d1,zA1,a2,d2,e1,g1⟩:=QP.h (Ψ:=ag (ptc 348 p)) k2;exact(yC9 (m:=348) (by omega) (by omega) hL ⟨g1.x.rlen,g1.y.rlen⟩).run M w _ hM hT ((fs1 (PSub.refl _) (fs1 qp_q fs0)) _ _ _ h0)⟩
theorem k22putc {raw:List Rat}{p:Rat}(hL:(setOf cmpR raw).length≤100000):CTy prog 75 [sv (sl 3 ((setOf cmpR raw).map (rtc 350))),ag (rtc 349 p)] (sv (sl 3 ((setOf cmpR (raw++[p])).map (rtc 350)))) :=
 ⟨(bo func75),fun M w vs hM hT hv=>by
  have h0:=hv;obtain⟨v,us,rfl,k1,u,us2,rfl,k2,k3⟩:=hv;obtain⟨s1,a1,d1,e1,g1⟩:=QR.h (Ψ:=ag (rtc 349 p)) k2;exact(zL3 (m:=349) (by omega) (by omega) hL g1.rlen).run M w _ hM hT ((fs1 (PSub.refl _) (fs1 qr_q fs0)) _ _ _ h0)⟩
theorem k22put0 {p:Rat}{n:Nat}(hn:n≤1900)(h1:rlen p n):CTy prog 75 [exP (.slice none 0 0),ag (rtq 1 p)] (sv (sl 3 ((setOf cmpR [p]).map (rtc n)))) :=
 yE (zL3 (raw:=[]) (m:=1) (by omega) hn (by rw[fZ jQ];simp) h1) (fs1 (mN jQ rfl) (fs1 (PSub.refl _) fs0))
theorem k10all {p q:List P2}(hp:p.length≤9)(hq:q.length≤9)(hr:∀ x∈p,rlen x.1 2∧rlen x.2 2)(hs:∀ x∈q,rlen x.1 2∧rlen x.2 2):CTy prog 76 [sv (pcs 1 p),sv (pcs 1 q)] (sv (sl 6 ((allOf p q).map (ptc 349)))):=by
 refine fw [.tmp 4] func76 fun X=>?_;repeat refine u ?_
 refine yR (σ:=Nat) (fun i=>[(5,True,sv (sl 6 ((setOf cmpP (rawL ((yI p).take i) (yI q))).map (ptc 349)))),(6,True,zI i)]) (fun i=>[]) (fun i=>i≤p.length) (fun i=>p.length-i) (0) (tk 0 rfl (tk 1 rfl (tk 4 rfl tn))) ?_ rfl ((by omega)) (fun i hJ Y _=>?_);refine tc rfl ?_ ?_;rotate_left;refine zA rfl tn;rotate_left
 ·exact mN uU (by simp[rawL])
 repeat refine u ?_
 refine ti (fun c0=>?_) fun c0=>?_;repeat refine u ?_
 rotate_left;repeat refine u ?_
 refine e ?_;rotate_left
 ·refine yR (σ:=Nat) (fun k=>[(5,True,sv (sl 6 ((setOf cmpP (rawL ((yI p).take i) (yI q)++((yI q).take k).flatMap fun t=>qF (yG (qH p i) t))).map (ptc 349)))),(7,True,zI k)]) (fun k=>[]) (fun k=>k≤q.length) (fun k=>q.length-k) (0) (tk 0 rfl (tk 1 rfl (tk 4 rfl (tk 6 rfl tn)))) ?_ rfl ((by omega)) (fun k hJ Y _=>?_);refine tc rfl ?_ ?_;rotate_left;refine zA rfl tn;rotate_left
  ·rw[zcy,List.flatMap_nil,zap];exact PSub.refl _
  have hlen:∀ r:List P2,r.length≤4→(setOf cmpP (rawL ((yI p).take i) (yI q)++(((yI q).take k).flatMap fun t=>qF (yG (qH p i) t))++r)).length≤100000:=fun r hr4=>by
   refine zab (yY uU _) ?_;have h1:=sU (yI q) ((yI p).take i);have h2:=sP (qH p i) ((yI q).take k);rw[zaG,qQ] at h2;rw[zaG,qQ,qQ] at h1;have h3:2*q.length*min i p.length≤2*9*9:=zaY (by omega) (by omega);rw[zak,zak];omega
  have hpk:∀ {l:List P2} {j:Nat},j<l.length→(∀ x∈l,rlen x.1 2∧rlen x.2 2)→rlen (l.getD j Df.d).1 2∧rlen (l.getD j Df.d).2 2:=fun {l j} hj h=>h _ (xB hj);repeat refine u ?_
  refine ti (fun c1=>?_) fun c1=>?_;iterate 4 refine u ?_
  apply yO 1 27 26 [(25,8,0),(26,1000026,0)] rfl rfl mixed rfl rfl rfl;repeat refine u ?_
  refine cx1 (oix _ rfl rfl rfl (fun _=>rfl) (fun _=>(by(have e0:=dt c0;have e1:=dt c1;omega)))) rfl ?_;repeat refine u ?_
  refine cx1 (orm rfl rfl (by(have e0:=dt c0;have e1:=dt c1;omega))) rfl ?_;refine cx1 (oix _ rfl rfl rfl (fun _=>rfl) (fun _=>?_)) rfl ?_;rotate_left;repeat refine u ?_
  refine cx1 (oix _ rfl rfl rfl (fun _=>rfl) (fun _=>(by(have e0:=dt c1;omega)))) rfl ?_;repeat refine u ?_
  refine cx1 (orm rfl rfl (by(have e0:=dt c1;omega))) rfl ?_;refine cx1 (oix _ rfl rfl rfl (fun _=>rfl) (fun _=>?_)) rfl ?_;rotate_left;repeat refine u ?_
  refine cx1 (oca rfl rfl fun _=>k10segs ?_) rfl ?_;rotate_left;refine cN rfl rfl (cal) (cS rfl rfl rfl (cst rfl rfl rfl) ?_);refine cE (fun b8=>?_);refine fm ?_;refine u ?_;refine zR (zU (s:=8) 0 rfl rfl) ?_;repeat refine u ?_
  refine ti (fun c2=>?_) fun c2=>?_;refine zL 8 mixed rfl rfl ?_;repeat refine u ?_
  refine zC rfl rfl (yL9 ?_) ?_;rotate_left;repeat refine u ?_
  refine zC rfl rfl (yL9 ?_) ?_;rotate_left;repeat refine u ?_
  refine zA1 (omv rfl) ?_;repeat refine u ?_
  rotate_left;repeat refine u ?_
  rotate_left;repeat refine u ?_
  rotate_left
  ·rw[zbu];exact zaJ _ (by have:=dt c0;omega)
  ·rw[zbu];exact zaJ _ (by have:=dt c1;omega)
  ·have h0:=dt c0;have h1:=dt c1;intro x hx;simp only[zae,zaN,or_false,zbu] at hx;rcases hx with rfl | rfl | rfl | rfl
   ·exact hpk (by omega) hr
   ·exact hpk (zaJ _ (by omega)) hr
   ·exact hpk (by omega) hs
   ·exact hpk (zaJ _ (by omega)) hs
  ·have:=hlen [] (by simp);rwa [zap] at this
  ·exact hlen [_] (by simp)
  ·have h0:=dt c0;have h1:=dt c1;have h2:=dt c2;rw[zbu,zbu] at h2;refine⟨k+1,tes ?_ ?_ (zaa _),(by omega),(by omega)⟩;refine tc rfl ?_ ?_;rotate_left;refine zA rfl tn;refine zA rfl (zA rfl (zA rfl (zA rfl tn)));rw[zbu,zbu,(fL (p:=q) (s:=k) (by omega)).2,zcS,← zaB,show ([qH q k].flatMap fun t=>qF (yG (qH p i) t))=qF (zT8 (p.getD i Df.d) (p.getD ((i+1)%p.length) Df.d) (q.getD k Df.d) (q.getD ((k+1)%q.length) Df.d)) from zap _];rw[qF,if_neg h2,zaB (bs:=[_]) (cs:=[_])];exact PSub.refl _
  ·have h0:=dt c0;have h1:=dt c1;have h2:=zcu.1 (df c2);rw[zbu,zbu] at h2;refine⟨k+1,tes ?_ ?_ (zaa _),(by omega),(by omega)⟩;refine tc rfl ?_ ?_;rotate_left;refine zA rfl tn;refine zA rfl (zA rfl (zA rfl (zA rfl tn)));rw[(fL (p:=q) (s:=k) (by omega)).2,zcS,← zaB,show ([qH q k].flatMap fun t=>qF (yG (qH p i) t))=qF (zT8 (p.getD i Df.d) (p.getD ((i+1)%p.length) Df.d) (q.getD k Df.d) (q.getD ((k+1)%q.length) Df.d)) from zap _];rw[qF,if_pos h2,zap];exact PSub.refl _
  ·have h0:=dt c0;have h1:=df c1;refine⟨i+1,tes ?_ ?_ (zaa _),(by omega),(by omega)⟩;refine tc rfl ?_ ?_;rotate_left;refine zA rfl tn;refine zA rfl (zA rfl (zA rfl tn));rw[zaw (l:=yI q) (by rw[qQ];omega),(fL (p:=p) (s:=i) (by omega)).2];rw[show rawL ((yI p).take i++[qH p i]) (yI q)=rawL ((yI p).take i) (yI q)++(yI q).flatMap fun t=>qF (yG (qH p i) t) from by unfold rawL;rw[List.flatMap_append];simp];exact PSub.refl _
 ·have h0:=df c0;rw[zaw (l:=yI p) (by rw[qQ];omega)];exact PSub.refl _
noncomputable def crossX (ls:zD)(i k:Nat):List Rat:=(allOf (ls.getD k []) (ls.getD i [])).map (·.1)
noncomputable def stepR (ls:zD)(i:Nat):List Rat:=(ls.getD i []).map (·.1)++(List.range i).flatMap (crossX ls i)
noncomputable def rawR (ls:zD)(b:P2×P2)(i:Nat):List Rat:=[b.1.1,b.2.1]++(List.range i).flatMap (stepR ls)
theorem nK {α β:Type}{f:α→List β}{c:Nat}:∀ {l:List α},(∀ a∈l,(f a).length≤c)→(l.flatMap f).length≤c*l.length
 | [],_=>by simp
 | a::l,h=>by
  rw[zbU,zak,zas,zat,Nat.mul_one];have h1:=h a (by simp);have h2:=nK (l:=l) fun x hx=>h x (by simp[hx]);omega
theorem vC {ls:zD}(h6:∀ l∈ls,l.length≤9)(i:Nat):(ls.getD i []).length≤9:=by
 rcases zaf i ls.length with h | h
 ·rw[zag,zah h];exact h6 _ (zaI h)
 ·rw[zag,zbX h];simp
theorem pB {ls:zD}(h6:∀ l∈ls,l.length≤9)(i k:Nat):(crossX ls i k).length≤162:=by
 unfold crossX;rw[List.length_map];have:=zK2 (ls.getD k []) (ls.getD i []);have h1:=vC h6 i;have h2:=vC h6 k;have h3:2*(ls.getD i []).length*(ls.getD k []).length≤2*9*9:=zaY (by omega) h2;omega
theorem step_len {ls:zD}(h6:∀ l∈ls,l.length≤9){i:Nat}(hi:i≤5):(stepR ls i).length≤900:=by
 unfold stepR;have h1:=vC h6 i;have h2:=nK (l:=List.range i) (f:=crossX ls i) (c:=162) fun k _=>pB h6 i k;rw[zbJ] at h2;rw[zak,zai];omega
theorem rawR_len {ls:zD}(h6:∀ l∈ls,l.length≤9){b:P2×P2}{i:Nat}(hi:i≤5):(rawR ls b i).length≤4502:=by
 unfold rawR;have h2:=nK (l:=List.range i) (f:=stepR ls) (c:=900) fun k hk=>step_len h6 (by have:=zaE.1 hk;omega);rw[zbJ] at h2;rw[zak];simp only[zas,zbb];omega
theorem gK {α:Type}(f:Nat→List α)(i:Nat):(List.range (i+1)).flatMap f=(List.range i).flatMap f++f i:=by rw[zaQ,zcS];simp
theorem rawR_cuts {ls:zD}{b:P2×P2}:setOf cmpR (rawR ls b ls.length)=cutsOf ls b:=setOf_congr jQ fun x=>by
 unfold rawR rawC nO;rw[zaB,zad,zad,zad,iM];refine or_congr Iff.rfl ?_;simp only[zaX,zaE];unfold stepR crossX;simp only[zad,zaX,zaE];constructor
 ·rintro⟨i,hi,h | ⟨k,hk,h⟩⟩
  ·exact .inl ⟨ls.getD i [],by rw[zag,zah hi];exact zaI hi,h⟩
  ·exact .inr ⟨k,i,hk,hi,h⟩
 ·rintro(⟨l,hl,h⟩ | ⟨k,i,hk,hi,h⟩)
  ·obtain⟨i,hi,rfl⟩:=zaZ.1 hl;exact⟨i,hi,.inl (by rw[zag,zah hi];exact h)⟩
  ·exact⟨i,hi,.inr ⟨k,hk,h⟩⟩
theorem map_fst_getD {l:List P2}{m:Nat}(h:m<l.length):(l.map (·.1)).getD m 0=(l.getD m Df.d).1:=by
 simp[zag,zah h]
theorem k22all {ls:zD}{b:P2×P2}(hl:ls.length≤5)(h6:∀ l∈ls,l.length≤9)(hr:∀ l∈ls,∀ x∈l,rlen x.1 2∧rlen x.2 2)(hb:rlen b.1.1 2∧rlen b.2.1 2):CTy prog 20 [sv (sl 1 (ls.map (pcs 1))),ag (st [ptq 1 b.1,ptq 1 b.2])] (sv (sl 3 ((cutsOf ls b).map (rtc 350)))):=by
 have hlen:∀ {i} (r:List Rat),i≤5→r.length≤2000→(setOf cmpR (rawR ls b i++r)).length≤100000:=fun {i} r hi h=>by
  refine zab (yY jQ _) ?_;have:=rawR_len h6 (b:=b) hi;rw[zak];omega
 refine fw [.tmp 4] func20 fun X=>?_;iterate 6 refine u ?_
 refine zL 9 mixed rfl rfl ?_;repeat refine u ?_
 refine zC rfl rfl (k22put0 (n:=350) (by omega) ?_) ?_;rotate_left;repeat refine u ?_
 refine zC rfl rfl (zL3 (by omega) (by omega) ?_ ?_) ?_;rotate_left;rotate_left;repeat refine u ?_
 rotate_left
 ·exact zO hb.1 (by omega)
 ·exact zab (yY jQ _) (by simp)
 ·exact zO hb.2 (by omega)
 have hat:∀ {i},i<ls.length→ls.getD i Df.d∈ls:=fun {i} hi=>xB hi;refine yR (σ:=Nat) (fun i=>[(5,True,sv (sl 3 ((setOf cmpR (rawR ls b i)).map (rtc 350)))),(6,True,zI i)]) (fun i=>[]) (fun i=>i≤ls.length) (fun i=>ls.length-i) (0) (tk 0 rfl (tk 4 rfl tn)) ?_ rfl ((by omega)) (fun i hJ Y _=>?_);refine zA rfl (zA rfl tn);repeat refine u ?_
 refine ti (fun c0=>?_) fun c0=>?_;repeat refine u ?_
 rotate_left;repeat refine u ?_
 refine e ?_;rotate_left
 ·refine yR (σ:=Nat) (fun k=>[(5,True,sv (sl 3 ((setOf cmpR (rawR ls b i++((ls.getD i Df.d).take k).map (·.1))).map (rtc 350)))),(7,True,zI k)]) (fun k=>[]) (fun k=>k≤(ls.getD i Df.d).length) (fun k=>(ls.getD i Df.d).length-k) (0) (tk 0 rfl (tk 4 rfl (tk 6 rfl tn))) ?_ rfl ((by omega)) (fun k hJ Y _=>?_);refine tc rfl ?_ ?_;rotate_left;refine zA rfl tn;rotate_left
  ·rw[zcy,zba,zap];exact PSub.refl _
  have h7:=h6 _ (hat (show i<ls.length by have:=dt c0;omega));have hii:=dt c0;repeat refine u ?_
  refine ti (fun c1=>?_) fun c1=>?_;repeat refine u ?_
  refine zA1 (oix _ rfl rfl rfl (fun _=>rfl) (fun _=>(by(have e0:=dt c1;omega)))) ?_;repeat refine u ?_
  refine zB rfl rfl (zL3 (by omega) (by omega) ?_ ?_) ?_;rotate_left;rotate_left;repeat refine u ?_
  rotate_left;repeat refine u ?_
  rotate_left
  ·exact hlen _ (by omega) (by rw[zai,zaG];omega)
  ·exact zO (hr _ (hat (by omega)) _ (xB (by have:=dt c1;omega))).1 (by omega)
  ·have hk:=dt c1;refine⟨k+1,tes ?_ ?_ (zaa _),(by omega),(by omega)⟩;refine tc rfl ?_ ?_;rotate_left;refine zA rfl tn;refine zA rfl (zA rfl (zA rfl tn));rw[(zP (Df.d:P2) (show k<(ls.getD i Df.d).length by omega)).1,zaq,← zaB];exact PSub.refl _
  ·have hk:=df c1;refine yR (σ:=Nat) (fun j=>[(5,True,sv (sl 3 ((setOf cmpR (rawR ls b i++((ls.getD i Df.d).map (·.1)++(List.range j).flatMap (crossX ls i)))).map (rtc 350)))),(8,True,zI j)]) (fun j=>[]) (fun j=>j≤i) (fun j=>i-j) (0) (tk 0 rfl (tk 4 rfl (tk 6 rfl tn))) ?_ rfl ((by omega)) (fun j hJ Y _=>?_);refine tc rfl ?_ ?_;rotate_left;refine zA rfl tn;rotate_left
   ·rw[zaw (by omega),List.range_zero,List.flatMap_nil,zap];exact PSub.refl _
   have hx:=pB h6 i j;have hxx:(crossX ls i j).length=(allOf (ls.getD j Df.d) (ls.getD i Df.d)).length:=zai ..;repeat refine u ?_
   refine ti (fun c2=>?_) fun c2=>?_;iterate 4 refine u ?_
   refine zL 10 mixed rfl rfl ?_;repeat refine u ?_
   refine zC rfl rfl (k10all ?_ (by omega) ?_ ?_) ?_;rotate_left;rotate_left;rotate_left;repeat refine u ?_
   rotate_left;repeat refine u ?_
   rotate_left
   ·exact h6 _ (hat (by have:=dt c2;omega))
   ·exact hr _ (hat (by have:=dt c2;omega))
   ·exact hr _ (hat (by omega))
   ·have hj:=dt c2;have hro:((List.range j).flatMap (crossX ls i)).length≤162*5:=zab (nK (c:=162) fun k _=>pB h6 i k) (by rw[zbJ];exact zbm _ (by omega));refine yR (σ:=Nat) (fun m=>[(5,True,sv (sl 3 ((setOf cmpR (rawR ls b i++((ls.getD i Df.d).map (·.1)++(List.range j).flatMap (crossX ls i))++(crossX ls i j).take m)).map (rtc 350)))),(10,True,zI m)]) (fun m=>[]) (fun m=>m≤(crossX ls i j).length) (fun m=>(crossX ls i j).length-m) (0) (tk 0 rfl (tk 4 rfl (tk 6 rfl (tk 8 rfl (tk 9 rfl tn))))) ?_ rfl ((by omega)) (fun m hJ Y _=>?_);refine tc rfl ?_ ?_;rotate_left;refine zA rfl tn;rotate_left
    ·rw[zcy,zap];exact PSub.refl _
    repeat refine u ?_
    refine ti (fun c3=>?_) fun c3=>?_;repeat refine u ?_
    refine zA1 (oix _ rfl rfl rfl (fun _=>rfl) (fun _=>(by(have e0:=dt c3;omega)))) ?_;repeat refine u ?_
    refine zB rfl rfl (k22putc ?_) ?_;rotate_left;repeat refine u ?_
    rotate_left;repeat refine u ?_
    rotate_left
    ·rw[zaB];exact hlen _ (by omega) (by rw[zak,zak,zai,zaG];omega)
    ·have hm:=dt c3;refine⟨m+1,tes ?_ ?_ (zaa _),(by omega),(by omega)⟩;refine tc rfl ?_ ?_;rotate_left;refine zA rfl tn;refine zA rfl (zA rfl (zA rfl (zA rfl (zA rfl tn))));refine ps_p (congrArg (fun x=>sv (sl 3 ((setOf cmpR x).map (rtc 350)))) ?_);rw[(zP (0:Rat) (show m<(crossX ls i j).length by omega)).1,show (crossX ls i j).getD m 0=((allOf (ls.getD j Df.d) (ls.getD i Df.d)).getD m Df.d).1 from map_fst_getD (l:=allOf (ls.getD j Df.d) (ls.getD i Df.d)) (by omega)];simp only[zaB]
    ·have hm:=df c3;refine⟨j+1,tes ?_ ?_ (zaa _),(by omega),(by omega)⟩;refine tc rfl ?_ ?_;rotate_left;refine zA rfl tn;refine zA rfl (zA rfl (zA rfl tn));refine ps_p (congrArg (fun x=>sv (sl 3 ((setOf cmpR x).map (rtc 350)))) ?_);rw[zaw (by omega),gK];simp only[zaB]
   ·have hj:=df c2;refine⟨i+1,tes ?_ ?_ (zaa _),(by omega),(by omega)⟩;refine tc rfl ?_ ?_;rotate_left;refine zA rfl tn;refine zA rfl (zA rfl tn);have e:j=i:=by omega
    subst e;refine ps_p (congrArg (fun x=>sv (sl 3 ((setOf cmpR x).map (rtc 350)))) ?_);unfold rawR;rw[gK];unfold stepR;simp only[zaB];rfl
 ·have:=df c0;rw[show i=ls.length by omega,rawR_cuts];exact PSub.refl _
theorem yG3 {Ψ Φ Ξ ρ σ τ:PV}(h:PSub Ψ ρ)(k:PSub Φ σ)(l:PSub Ξ τ):∀ M w vs,Fa [Ψ,Φ,Ξ] M w vs→(tu [ρ,σ,τ]).p M w (gJ vs):=fun M w vs ⟨v,us,e,h1,u,us2,e2,h2,x,us3,e3,h3,e4⟩=>by
 subst e e2 e3 e4;exact⟨_,rfl,_,_,rfl,h _ _ _ h1,_,_,rfl,k _ _ _ h2,_,_,rfl,l _ _ _ h3,rfl⟩
theorem zI3 {A B:Nat}(hB:0<B):(-(A:Int))/(B:Int)=if 0<A%B then -((A/B:Nat):Int)-1 else -((A/B:Nat):Int):=by
 have h:=zbP A B;have hm:=zaJ A hB;have e:(A:Int)=(B:Int)*((A/B:Nat):Int)+((A%B:Nat):Int):=by exact_mod_cast h.symm
 split
 ·refine((Int.ediv_emod_unique (a:=-(A:Int)) (b:=(B:Int)) (q:=-((A/B:Nat):Int)-1) (r:=(B:Int)-((A%B:Nat):Int)) (by omega)).2 ⟨?_,by omega,by omega⟩).1;rw[e,Int.mul_sub,Int.mul_neg,Int.mul_one];omega
 ·have h0:A%B=0:=by omega
  refine((Int.ediv_emod_unique (a:=-(A:Int)) (b:=(B:Int)) (q:=-((A/B:Nat):Int)) (r:=0) (by omega)).2 ⟨?_,by omega,by omega⟩).1;rw[h0] at e;rw[e,Int.mul_neg];omega
theorem w5div {a b:Bool×List Nat}{n:Nat}(ha:∀ x∈a.2,x<4294967296)(hb:∀ x∈b.2,x<4294967296)(la:a.2.length≤n)(lb:b.2.length≤n)(hn:n≤90000)(hz:0<zx b):CTy prog 368 [ag (itx a),ag (itx b)] (tu [ag (ztc (n+4) (zx a/zx b)),ag (ztc (4*n+40) (zx a-zx a/zx b*zx b)),exP (.int .i64 0)]):=by
 have hq:(limbs (val a.2/val b.2)).length≤n:=zab (zW (zbs _ _)) (zab (xL ha) la);have hzb:zx b=((val b.2:Nat):Int):=by cases hb1:b.1<;>simp only[zx,zv,hb1,if_true,if_false,Bool.false_eq_true] at hz ⊢ <;> omega
 have hB0:val b.2≠0:=by omega
 have hnb:decide (zx b<0)=false:=decide_eq_false (by omega);have hza:zx a<0→zx a = -((val a.2:Nat):Int):=fun h=>by cases ha1:a.1<;>simp only[zx,zv,ha1,if_true,if_false,Bool.false_eq_true] at h ⊢ <;> omega
 have hzp:¬ zx a<0→zx a=((val a.2:Nat):Int):=fun h=>by cases ha1:a.1<;>simp only[zx,zv,ha1,if_true,if_false,Bool.false_eq_true] at h ⊢ <;> omega
 refine fw [.cell 4 27,.cell 5 27,.tmp 6] func368 fun X=>?_;iterate 2 refine u ?_
 refine tbx (hc:=cts1) rfl fun b2=>(tbx (hc:=cts1) rfl fun b3=>(u fun b4=>(u fun b5=>?_)));repeat refine u ?_
 refine zA1 (oldf 3 1 rfl rfl rfl rfl) ?_;repeat refine u ?_
 refine zA1 (oldf 2 1 rfl rfl rfl rfl) (zB rfl rfl (yX3 (by omega) (by omega) (by omega)) ?_);repeat refine u ?_
 refine xW rfl rfl ?_;iterate 2 refine u ?_
 refine zL 4 mixed rfl rfl ?_;repeat refine u ?_
 refine zC rfl rfl (qP (by omega)) ?_;repeat refine u ?_
 refine zC rfl rfl (qP (by omega)) ?_;repeat refine u ?_
 refine zA1 (oldf 3 0 rfl rfl rfl rfl) ?_;repeat refine u ?_
 refine zA1 (oldf 2 0 rfl rfl rfl rfl) ?_;repeat refine u ?_
 refine zB rfl rfl (qP (by omega)) ?_;refine u fun b10=>?_;repeat refine u ?_
 refine zA1 (oldf 4 0 rfl rfl rfl rfl) ?_;repeat refine u ?_
 refine zA1 (oldf 3 0 rfl rfl rfl rfl) ?_;repeat refine u ?_
 refine ti (fun c1=>?_) fun c1=>?_;refine zL 3 mixed rfl rfl ?_;repeat refine u ?_
 refine zC rfl rfl (k5of (k:=1) (N:=2) (by omega) (by omega)) ?_;refine zC rfl rfl (zW4 (by omega) (by omega)) ?_;iterate 5 refine u ?_
 refine zL 7 mixed rfl rfl ?_;repeat refine u ?_
 refine d1 (zK 4 rfl) ?_;repeat refine u ?_
 refine d1 (zK 3 rfl) ?_;repeat refine u ?_
 refine zC rfl rfl (nB (by omega) (by(simp;done))) ?_;refine zC rfl rfl (zW4 (by omega) (by omega)) ?_;repeat refine u ?_
 refine zH 2 rfl rfl ?_;refine zH 1 rfl rfl ?_;repeat refine u ?_
 refine⟨[_,_,_],zN 2 rfl (zN 1 rfl (rst rfl rs0)),?_⟩;rotate_left;iterate 2 refine u ?_
 refine zL 7 mixed rfl rfl ?_;repeat refine u ?_
 refine d1 (zK 4 rfl) ?_;repeat refine u ?_
 refine d1 (zK 3 rfl) ?_;repeat refine u ?_
 refine zC rfl rfl (nB (by omega) (by(simp;done))) ?_;refine zC rfl rfl (zW4 (by omega) (by omega)) ?_;repeat refine u ?_
 refine zH 2 rfl rfl ?_;refine zH 1 rfl rfl ?_;repeat refine u ?_
 refine⟨[_,_,_],zN 2 rfl (zN 1 rfl (rst rfl rs0)),?_⟩;rotate_left
 ·have h1:=c1.h;rw[zam,hnb,decide_eq_true_eq] at h1;have e:(if (!decide (zx a<0) == decide (zx b<0))=true then -((val (limbs (val a.2/val b.2)):Nat):Int) else((val (limbs (val a.2/val b.2)):Nat):Int))-((1:Nat):Int)=zx a/zx b:=by
   have hlt:zx a<0:=by simpa using h1.1
   rw[hnb,if_pos h1.1,zJ,hzb,hza hlt,zI3 (by omega),if_pos (by
    have h2:=h1.2;rcases zbd (val a.2%val b.2) with c | c
    ·rw[c,yD] at h2;simp at h2
    ·exact c)]
   rfl
  exact yG3 (aI e (by omega)) (aI (by rw[e,mO]) (by omega)) (PSub.refl _)
 ·have h1:=c1.h;rw[zcR,hnb,decide_eq_false_iff_not] at h1;have e:(if (!decide (zx a<0) == decide (zx b<0))=true then -((val (limbs (val a.2/val b.2)):Nat):Int) else((val (limbs (val a.2/val b.2)):Nat):Int))=zx a/zx b:=by
   rw[hnb,zJ];by_cases hlt:zx a<0
   ·have hc:(!decide (zx a<0) == false)=true:=by rw[decide_eq_true hlt];rfl
    rw[if_pos hc,hzb,hza hlt,zI3 (by omega),if_neg fun c=>?_];rcases h1 with h1 | h1
    ·rw[hc] at h1;cases h1
    ·have:=(@zS (val a.2%val b.2));omega
   ·have hc:(!decide (zx a<0) == false)=false:=by rw[decide_eq_false hlt];rfl
    rw[hc,hzb,hzp hlt];rfl
  exact yG3 (aI e (by omega)) (aI (by rw[e,mO]) (by omega)) (PSub.refl _)
theorem k5div {Ψ Φ:PV}{n m:Nat}{y z:Int}[h:VZ Ψ n y][h':VZ Φ m z](hn:n≤90000)(hm:m≤90000)(hz:0<z):CTy prog 368 [Ψ,Φ] (tu [ag (ztc (max n m+4) (y/z)),ag (ztc (4*max n m+40) (y-y/z*z)),exP (.int .i64 0)]) :=
 ctz2 (bo func368) fun a b la ha hy lb hb hzz=>by
  subst hy hzz;exact w5div la lb (by omega) (by omega) (by omega) hz
theorem above_mk {z:Int}{d:Nat}(hd:d≠0):jV (mkRat z d)=z/(d:Int)+1:=by
 obtain⟨h1,h2⟩:=zV7 (z:=z) hd;unfold jV;rw[h1,h2];have hg:0<Nat.gcd z.natAbs d:=zda _ (zbf hd);obtain⟨c,hc⟩:((Nat.gcd z.natAbs d:Nat):Int) ∣ z:=Int.dvd_natAbs.1 (Int.natCast_dvd_natCast.2 (Nat.gcd_dvd_left _ _));obtain⟨e,he⟩:=Nat.gcd_dvd_right z.natAbs d;generalize Nat.gcd z.natAbs d=g at *;subst he hc;rw[Int.mul_ediv_cancel_left _ (by omega),Nat.mul_div_cancel_left _ hg,zcA,Int.mul_ediv_mul_of_pos _ _ (by omega)]
theorem yA2 (q:Rat)(s:Nat):jV (q*p2 s)=q.num*((2^s:Nat):Int)/(q.den:Int)+1:=by
 rw[← mk_p2,above_mk q.den_nz]
theorem zO0 {x n s:Nat}(h:(limbs x).length≤n)(hs:s≤4000):(limbs (x*2^s)).length≤n+126:=zT (by
 have h1:=yA h;have h0:∀ k,s≤32*k→2^s≤4294967296^k:=fun k h=>zab (zbe (by omega) h) (by rw[Nat.pow_mul,show (2:Nat)^32=4294967296 from rfl];exact zac _);have h2:=h0 126 (by omega);rw[zaL];exact Nat.mul_lt_mul_of_lt_of_le h1 h2 (zbO (by omega)))
theorem w7above {q:Rat}{n s:Nat}(hn:n≤100)(hs:s≤4000)(hr:rlen q n):CTy prog 343 [ag (rtc n q),zI s] (ag (ztc 300 (jV (q*p2 s)))):=by
 have e0:cntN ((s:Nat):Int) 65536=s:=rR (m:=65536) (by omega);have hl:=zO0 hr.1 hs;have hr1:=hr.1;have hd:0<(q.den:Int):=by have:=q.den_nz;omega
 have e1:((if decide (q.num<0)=true then -((val (limbs (val (limbs q.num.natAbs)*2^cntN ((s:Nat):Int) 65536)):Nat):Int) else((val (limbs (val (limbs q.num.natAbs)*2^cntN ((s:Nat):Int) 65536)):Nat):Int)))=q.num*((2^s:Nat):Int):=by
  rw[e0,zJ,zJ,zcA];split
  ·rename_i h;have:=of_decide_eq_true h;rw[show ((q.num.natAbs:Nat):Int) = -q.num by omega,Int.neg_mul,Int.neg_neg]
  ·rename_i h;have h2:¬ q.num<0:=fun c=>h (decide_eq_true c);rw[show ((q.num.natAbs:Nat):Int)=q.num by omega]
 have hl2:(limbs (val (limbs q.num.natAbs)*2^cntN ((s:Nat):Int) 65536)).length≤n+126:=by rw[e0,zJ];exact hl
 refine fw [.cell 4 27] func343 fun X=>?_;iterate 3 refine u ?_
 refine u fun b4=>?_;iterate 2 refine u ?_
 apply t_drawSS 2 21 19 20 [(17,5,0),(18,6,1),(19,1000019,0),(20,1000020,1)] rfl rfl mixed rfl rfl rfl rfl;repeat refine u ?_
 refine cx1 (oca rfl rfl fun _=>k2up (by omega)) rfl ?_;refine cx1 (obd rfl rfl rfl) rfl ?_;repeat refine u ?_
 refine cx1 (oca rfl rfl fun _=>wX (by omega)) rfl ?_;refine cx1 (oca rfl rfl fun _=>k5div (by omega) (by omega) (by omega)) rfl ?_;repeat refine u ?_
 refine cN rfl rfl (cal) (cN rfl rfl (cal) (cSa rfl rfl rfl (cst rfl rfl rfl) (cSb rfl rfl rfl rfl (cst rfl rfl rfl) ?_)));refine cE (fun b5 b6=>?_);refine fm ?_;refine u ?_;refine zR (zU (s:=6) 0 rfl rfl) ?_;iterate 3 refine u ?_
 refine zL 4 mixed rfl rfl ?_;repeat refine u ?_
 refine d1 (zK 0 rfl) (zC rfl rfl (k5of (k:=1) (N:=2) (by omega) (by omega)) ?_);repeat refine u ?_
 refine zC rfl rfl (yX2 (by omega) (by(simp;done))) ?_;repeat refine u ?_
 refine zH 1 rfl rfl ?_;repeat refine u ?_
 refine⟨[_],zN 1 rfl rs0,yJ ?_⟩;exact aI (by rw[e1,yA2];simp) (by omega)
theorem yB8 {n m:Nat}{q:Rat}(h:n≤m):PSub (ag (rtc n q)) (ag (rtc m q)):=cF h rfl
theorem zP7 {q:Rat}{n s:Nat}(hn:n≤99)(hs:s≤4000):CTy prog 343 [ag (rtc n q),zI s] (ag (ztc 300 (jV (q*p2 s)))) :=
 ⟨(bo func343),fun M w vs hM hT hv=>by
  have h0:=hv;obtain⟨v,us,rfl,k1,k2⟩:=hv;obtain⟨s1,a1,d1,e1,g1⟩:=QR.h (Ψ:=ag (rtc n q)) k1;exact(w7above (n:=n+1) (by omega) hs g1.rlen).run M w _ hM hT ((fs1 (yB8 (zbq n)) (fs1 (PSub.refl _) fs0)) _ _ _ h0)⟩
theorem w5cmp {y z:Int}{n m:Nat}(hn:n≤90000)(hm:m≤90000):CTy prog 367 [ag (ztq n y),ag (ztq m z)] (exP (.int .i64 (y-z).sign)):=by
 refine fw [.tmp 4] func367 fun X=>?_;repeat refine u ?_
 refine zB rfl rfl (zW4 (by omega) (by omega)) ?_;refine zB rfl rfl (yC7 (by omega)) ?_;repeat refine u ?_
 exact e
theorem k5cmp {Ψ Φ:PV}{n m:Nat}{y z:Int}[h:VZ Ψ n y][k:VZ Φ m z](hn:n≤90000)(hm:m≤90000):CTy prog 367 [Ψ,Φ] (exP (.int .i64 (y-z).sign)):=yE (w5cmp hn hm) (fs1 vz_q (fs1 vz_q fs0))
theorem dy_iff {p q:Rat}{s:Nat}:dyOk p q s↔jV (p*p2 s)*(q.den:Int)<q.num*((2^s:Nat):Int):=by
 unfold dyOk;have hd:(0:Rat)<((q.den:Int):Rat):=Rat.intCast_pos.2 (by have:=q.den_nz;omega);have e:q*p2 s*((q.den:Int):Rat)=((q.num*((2^s:Nat):Int):Int):Rat):=by
  rw[zbt];have:=kV q;have e2:((q.den:Int):Rat)=(q.den:Rat):=rfl;have e3:(((2^s:Nat):Int):Rat)=p2 s:=rfl;rw[e2,e3];grind
 rw[← mT hd,e,← zbt,Rat.intCast_lt_intCast]
theorem sgn_lt {x:Int}:x.sign<0↔x<0:=by
 rcases Int.lt_trichotomy x 0 with h | h | h
 ·rw[zcM h];omega
 ·subst h;simp
 ·rw[zcN h];omega
theorem w7room {p q:Rat}{n s:Nat}(hn:n≤90)(hs:s≤4000)(hr:rlen q n):CTy prog 342 [ag (rtc n p),ag (rtc n q),zI s] (exP (.bool (decide (dyOk p q s)))):=by
 have e0:cntN ((s:Nat):Int) 65536=s:=rR (m:=65536) (by omega);have hl:=zO0 hr.1 hs;have hr1:=hr.1;have hl2:(limbs (val (limbs q.num.natAbs)*2^cntN ((s:Nat):Int) 65536)).length≤n+126:=by rw[e0,zJ];exact hl
 have e1:((if decide (q.num<0)=true then -((val (limbs (val (limbs q.num.natAbs)*2^cntN ((s:Nat):Int) 65536)):Nat):Int) else((val (limbs (val (limbs q.num.natAbs)*2^cntN ((s:Nat):Int) 65536)):Nat):Int)))=q.num*((2^s:Nat):Int):=by
  rw[e0,zJ,zJ,zcA];split
  ·rename_i h;have:=of_decide_eq_true h;rw[show ((q.num.natAbs:Nat):Int) = -q.num by omega,Int.neg_mul,Int.neg_neg]
  ·rename_i h;have h2:¬ q.num<0:=fun c=>h (decide_eq_true c);rw[show ((q.num.natAbs:Nat):Int)=q.num by omega]
 refine fw [.tmp 6] func342 fun X=>?_;repeat refine u ?_
 refine zB rfl rfl (zP7 (by omega) (by omega)) ?_;refine u fun b7=>?_;refine u ?_;refine zR (zU (s:=7) 0 rfl rfl) ?_;iterate 2 refine u ?_
 refine zL 18 mixed rfl rfl ?_;repeat refine u ?_
 refine zC rfl rfl (wX (by omega)) ?_;repeat refine u ?_
 refine zC rfl rfl (nB (by omega) (by(simp;done))) ?_;repeat refine u ?_
 refine zC rfl rfl (k2up (by omega)) ?_;repeat refine u ?_
 refine zC rfl rfl (k5cmp (by omega) (by omega)) ?_;repeat refine u ?_
 refine e ?_;refine psb ?_;rw[e1,mO,decide_eq_decide,dy_iff,sgn_lt];omega
theorem yX0 {p q:Rat}{n s:Nat}(hn:n≤89)(hs:s≤4000):CTy prog 342 [ag (rtc n p),ag (rtc n q),zI s] (exP (.bool (decide (dyOk p q s)))) :=
 ⟨(bo func342),fun M w vs hM hT hv=>by
  have h0:=hv;obtain⟨v,us,rfl,k1,u,us2,rfl,k2,k3⟩:=hv;obtain⟨s1,a1,d1,e1,g1⟩:=QR.h (Ψ:=ag (rtc n q)) k2;exact(w7room (n:=n+1) (by omega) hs g1.rlen).run M w _ hM hT ((fs1 (yB8 (zbq n)) (fs1 (yB8 (zbq n)) (fs1 (PSub.refl _) fs0))) _ _ _ h0)⟩
theorem above_le {x:Rat}{k:Int}(h:x<(k:Rat)):jV x≤k:=by
 have h1:=(Rat.lt_iff x (k:Rat)).1 h;rw[Rat.den_intCast,Rat.num_intCast,Int.natCast_one,Int.mul_one] at h1;have hd:0<(x.den:Int):=by have:=x.den_nz;omega
 have:=Int.ediv_lt_of_lt_mul hd h1;unfold jV;omega
theorem zQ6 {lo hi:Rat}{s:Nat}:dyOk lo hi s ↔ ∃ k:Int,lo*p2 s<(k:Rat)∧(k:Rat)<hi*p2 s:=by
 constructor
 ·intro h;exact⟨jV (lo*p2 s),zK4 _,h⟩
 ·rintro⟨k,h1,h2⟩;have:=above_le h1;have h3:((jV (lo*p2 s):Int):Rat)≤(k:Rat):=Rat.intCast_le_intCast.2 this;unfold dyOk;grind
theorem yI7 (s:Nat):p2 (s+1)=2*p2 s:=by
 unfold p2;rw[Nat.pow_succ,Nat.mul_comm,Rat.natCast_mul];rfl
theorem dy_next {lo hi:Rat}{s:Nat}(h:dyOk lo hi s):dyOk lo hi (s+1):=by
 obtain⟨k,h1,h2⟩:=zQ6.1 h;have e:((2*k:Int):Rat)=2*(k:Rat):=by rw[zbt];rfl
 exact zQ6.2 ⟨2*k,by rw[e,yI7];grind,by rw[e,yI7];grind⟩
theorem yN0 {lo hi:Rat}{s t:Nat}(h:dyOk lo hi s)(hs:s≤t):dyOk lo hi t:=by
 obtain⟨d,rfl⟩:∃ d,t=s+d:=⟨t-s,by omega⟩;clear hs
 induction d with
 | zero=>exact h
 | succ d ih=>exact dy_next ih
theorem yZ3 {lo hi:Rat}{s:Nat}:dyOk (-hi) (-lo) s↔dyOk lo hi s:=by
 rw[zQ6,zQ6];constructor
 ·rintro⟨k,h1,h2⟩;exact⟨-k,by rw[zcm];grind,by rw[zcm];grind⟩
 ·rintro⟨k,h1,h2⟩;exact⟨-k,by rw[zcm];grind,by rw[zcm];grind⟩
instance:VX (sv (sl 1 [xc (.int .u32 1)])) [1]:=⟨fun⟨u,us,e,h1,⟨x,y,e1,e2,h2⟩,_⟩=>by
 rw[zbv.1 e];obtain rfl:y=[]:=h2;have h3:x=[.int .u32 1]:=e2.1;subst h3 e1;exact⟨h1,by simp⟩⟩
theorem w7betw {p q:Rat}{n:Nat}(hn:n≤26)(hr:rlen p (n+1))(hs:rlen q (n+1)):CTy prog 307 [ag (rtq n p),ag (rtq n q)] (tu [ag (rtc 400 (xU p q)),exP (.bool (decide (p<q)))]):=by
 have hB:=fun h:p<q=>zY5 h (yA hr.2) (yA hs.2);refine fw [.cell 4 29,.tmp 5] func307 fun X=>?_;iterate 2 refine u ?_
 refine tbx (hc:=cts1) rfl fun b2=>(tbx (hc:=cts1) rfl fun b3=>(u fun b4=>?_));iterate 3 refine u ?_
 refine zL 4 mixed rfl rfl ?_;repeat refine u ?_
 refine zC rfl rfl (jO (by omega)) ?_;repeat refine u ?_
 refine zC rfl rfl (jO (by omega)) ?_;repeat refine u ?_
 refine zB rfl rfl (gO (by omega) (by omega)) ?_;repeat refine u ?_
 refine ti (fun c0=>?_) fun c0=>?_;repeat refine u ?_
 refine zB rfl rfl (k7of (by(simp;done))) ?_;repeat refine u ?_
 refine e ⟨?_,?_⟩;rotate_left;refine psb ?_;rotate_left;repeat refine u ?_
 rotate_left
 ·have h:=aO.1 (dt c0);exact uT (by unfold xU;rw[if_neg (by grind)];rfl) (by omega)
 ·have h:=aO.1 (dt c0);rw[decide_eq_false (by grind)]
 have hlt:p<q:=by have h:=mt aO.2 (df c0);grind
 have hB2:=hB hlt;refine t_ts (zU 2 rfl (s:=2) rfl) (t_ts (zU 1 rfl (s:=3) rfl) ?_);refine lp (σ:=Nat) [2,3,4,5] (fun m=>[(6,True,zI m)]) (fun m=>[.blk b4 29 (zc (.agg #[.bool false,.slice none 0 0,.slice none 0 0]))]) (fun m=>1≤m∧m≤3500) (fun m=>3501-m) (1) (⟨by omega,by omega⟩) fun m hJ Y _=>?_;repeat refine u ?_
 refine zB rfl rfl (yX0 (by omega) (by omega)) ?_;repeat refine u ?_
 refine ti (fun c1=>?_) fun c1=>?_;repeat refine u ?_
 rotate_left;repeat refine u ?_
 rotate_left
 ·have h1:=c1.h;have hn1:¬ dyOk p q m:=by simpa using h1
  have hm:m<32*(n+1+(n+1)):=Nat.lt_of_not_le fun c=>hn1 (yN0 hB2 c);refine⟨2*m,tes ?_ ?_ (zaa _),(by omega),(by omega)⟩;refine zA rfl tn;refine zA rfl (zA rfl (zA rfl (zA rfl tn)))
 have hm:dyOk p q m:=by have h1:=c1.h;simpa using h1
 refine lp (σ:=Nat×Nat) [2,3,4,5] (fun s=>[(6,True,zI s.2),(7,True,zI s.1)]) (fun s=>[.blk b4 29 (zc (.agg #[.bool false,.slice none 0 0,.slice none 0 0]))]) (fun s=>s.1≤s.2∧s.2≤3500∧dyOk p q s.2∧∀ r,r<s.1→¬ dyOk p q r) (fun s=>s.2-s.1) ((0,m)) (⟨by omega,by omega,hm,by omega⟩) fun s hJ Y _=>?_;obtain⟨x,y⟩:=s;dsimp only at hJ ⊢;obtain⟨j1,j2,j3,j4⟩:=hJ;repeat refine u ?_
 refine t_if rfl (fun c2=>?_) (fun c2=>?_);repeat refine u ?_
 refine zB rfl rfl (yX0 (by omega) (by(simp;omega))) ?_;repeat refine u ?_
 refine ti (fun c3=>?_) fun c3=>?_;repeat refine u ?_
 rotate_left;repeat refine u ?_
 rotate_left;rotate_left
 ·have hc:=dt c2;have h3:dyOk p q ((x+y)/2):=dt c3;refine⟨(x,(x+y)/2),tes ?_ ?_ (zaa _),?_,(by omega)⟩;refine zA rfl (zA rfl tn);refine zA rfl (zA rfl (zA rfl (zA rfl tn)));exact⟨by dsimp only;omega,by dsimp only;omega,h3,j4⟩
 ·have hc:=dt c2;have h3:¬ dyOk p q ((x+y)/2):=df c3;refine⟨((x+y)/2+1,y),tes ?_ ?_ (zaa _),?_,(by omega)⟩;refine zA rfl (zA rfl tn);refine zA rfl (zA rfl (zA rfl (zA rfl tn)));exact⟨by dsimp only;omega,j2,j3,fun r (hr':r<(x+y)/2+1)=>fun c=>h3 (yN0 c (by omega))⟩
 have hxy:x=y:=by have:=df c2;omega
 subst hxy;have hS:dyS p q=x:=yZ4 hlt j3 j4;have e0:cntN ((x:Nat):Int) 65536=x:=rR (m:=65536) (by omega);have e1:val [1]=1:=rfl;have hL:(limbs (val [1]*2^cntN ((x:Nat):Int) 65536)).length≤127:=by
  rw[e0,e1];exact zO0 (x:=1) (n:=1) (by rw[xS];exact zac 1) (by omega)
 have e2:val (limbs (val [1]*2^cntN ((x:Nat):Int) 65536))=2^x:=by rw[zJ,e0,e1,zbh]
 repeat refine u ?_
 refine zB rfl rfl (k5of (k:=0) (N:=300) (by omega) (by omega)) ?_;refine u fun b9=>?_;repeat refine u ?_
 refine zB rfl rfl (oR (by omega)) ?_;repeat refine u ?_
 refine ti (fun c3=>?_) fun c3=>?_;repeat refine u ?_
 refine zB rfl rfl (zP7 (by omega) (by omega)) ?_;iterate 3 refine u ?_
 apply yO 1 11 9 [(8,10,0),(9,1000009,0)] rfl rfl mixed rfl rfl rfl;repeat refine u ?_
 refine cx1 (obs rfl rfl rfl rfl rfl rfl) rfl ?_;repeat refine u ?_
 refine cx1 (oca rfl rfl fun _=>k2up (xs:=[1]) (by(simp;done))) rfl ?_;refine cx1 (oca rfl rfl fun _=>zI0 (by omega) (by omega)) rfl ?_;repeat refine u ?_
 refine cN rfl rfl (cal) (cS rfl rfl rfl (cst rfl rfl rfl) ?_);repeat refine u ?_
 refine cE (fun b10=>?_);refine fm ?_;repeat refine u ?_
 refine e ⟨?_,?_⟩;rotate_left;refine psb (by(simp;omega));repeat refine u ?_
 refine zB rfl rfl (oR (by omega)) ?_;repeat refine u ?_
 refine ti (fun c4=>?_) fun c4=>?_;repeat refine u ?_
 refine zB rfl rfl (xG2 (by omega)) ?_;repeat refine u ?_
 refine zB rfl rfl (zP7 (by omega) (by omega)) ?_;refine zB rfl rfl (yX1 (by omega)) ?_;iterate 3 refine u ?_
 apply yO 1 11 9 [(8,10,0),(9,1000009,0)] rfl rfl mixed rfl rfl rfl;repeat refine u ?_
 refine cx1 (obs rfl rfl rfl rfl rfl rfl) rfl ?_;repeat refine u ?_
 refine cx1 (oca rfl rfl fun _=>k2up (xs:=[1]) (by(simp;done))) rfl ?_;refine cx1 (oca rfl rfl fun _=>zI0 (by omega) (by omega)) rfl ?_;repeat refine u ?_
 refine cN rfl rfl (cal) (cS rfl rfl rfl (cst rfl rfl rfl) ?_);repeat refine u ?_
 refine cE (fun b10=>?_);refine fm ?_;repeat refine u ?_
 refine e ⟨?_,?_⟩;rotate_left;refine psb (by(simp;omega));iterate 2 refine u ?_
 apply yO 1 11 9 [(8,10,0),(9,1000009,0)] rfl rfl mixed rfl rfl rfl;repeat refine u ?_
 refine cx1 (obs rfl rfl rfl rfl rfl rfl) rfl ?_;repeat refine u ?_
 refine cx1 (oca rfl rfl fun _=>k2up (xs:=[1]) (by(simp;done))) rfl ?_;refine cx1 (oca rfl rfl fun _=>zI0 (by omega) (by omega)) rfl ?_;repeat refine u ?_
 refine cN rfl rfl (cal) (cS rfl rfl rfl (cst rfl rfl rfl) ?_);repeat refine u ?_
 refine cE (fun b10=>?_);refine fm ?_;repeat refine u ?_
 refine e ⟨?_,?_⟩;rotate_left;refine psb (by(simp;omega))
 ·have h:=yH8.1 (dt c3);refine uT ?_ (by omega);rw[e2];unfold xU nT;rw[if_pos hlt,if_pos (by grind),if_neg (by grind),hS];rfl
 ·have h:=zM9.1 (dt c4);refine uT ?_ (by omega);have hS2:dyS (-q) (-p)=x:=yZ4 (by grind) (yZ3.2 j3) fun r hr c=>j4 r hr (yZ3.1 c);rw[e2];unfold xU nT;rw[if_pos hlt,if_neg (by grind),if_neg (by grind),hS2];unfold vJ;rw[Rat.neg_mkRat]
 ·have h:=mt yH8.2 (df c3);have h2:=mt zM9.2 (df c4);refine uT ?_ (by omega);unfold xU nT;rw[if_pos hlt,if_pos (by grind),if_pos (by grind)];exact Rat.zero_mkRat _
theorem k7betw {Ψ Φ:PV}{n:Nat}{p q:Rat}[h:QR Ψ n p][k:QR Φ n q](hn:n≤25):CTy prog 307 [Ψ,Φ] (tu [ag (rtc 400 (xU p q)),exP (.bool (decide (p<q)))]):=yZ8 (bo func307) fun g1 g2=>w7betw (n:=n+1) (by omega) (zO g1 (by omega)) (zO g2 (by omega))
theorem xG1 {k K:Nat}(hk:k<9223372036854775808)(hK:2≤K):CTy prog 46 [zI k] (ag (rtc K ((k:Nat):Rat))):=gQ (k7of hk) (uT rfl hK)
end Go.Proofs.YtalkinejknjidaaGreatDoor
namespace Go.SL
def trn (a b c:P2):Rat:=zG (subP b a) (subP c a)
def lexP (v:P2):Prop:=0<v.1∨v.1=0∧0<v.2
def lex0 (v:P2):Prop:=0<v.1∨v.1=0∧0≤v.2
theorem lexP.le {v:P2}(h:lexP v):lex0 v:=by unfold lexP lex0 at *; grind
theorem bQ {b x:Rat}(hb:0<b)(h:0≤b*x):0≤x:=Classical.byContradiction fun c=>by
 have:=zaD hb (show 0 < -x by grind);grind
theorem iD {b x:Rat}(hb:0<b)(h:0<b*x):0<x:=Classical.byContradiction fun c=>by
 have:=zaF (zaP hb) (show 0 ≤ -x by grind);grind
theorem yD8 (a b c:P2):b.1*zG a c=a.1*zG b c+c.1*zG a b∧b.2*zG a c=a.2*zG b c+c.2*zG a b:=by
 unfold zG;constructor<;>grind
theorem vY {a b c:P2}(ha:lex0 a)(hb:lexP b)(hc:lex0 c)(h1:0≤zG a b)(h2:0≤zG b c):0≤zG a c:=by
 have e:=(yD8 a b c).1;have a0:0≤a.1:=by unfold lex0 at ha;grind
 have c0:0≤c.1:=by unfold lex0 at hc;grind
 rcases hb with hb | ⟨hb,hb2⟩
 ·exact bQ hb (by rw[e];have:=zaF a0 h2;have:=zaF c0 h1;grind)
 ·have k:c.1=0:=by
   rcases hc with hc | hc
   ·have:=Rat.mul_pos hb2 hc;unfold zG at h2;rw[hb] at h2;grind
   ·exact hc.1
  have k2:0≤c.2:=by unfold lex0 at hc;grind
  have:=zaF a0 k2;unfold zG;rw[k];grind
theorem yQ6 {a b c:P2}(ha:lex0 a)(hb:lexP b)(hc:lexP c)(h1:0<zG a b)(h2:0≤zG b c):0<zG a c:=by
 have e:=(yD8 a b c).1;have a0:0≤a.1:=by unfold lex0 at ha;grind
 have ap:0<a.1∨a.1=0∧0≤a.2:=ha;rcases hb with hb | ⟨hb,hb2⟩
 ·rcases hc with hc | ⟨hc,hc2⟩
  ·exact iD hb (by rw[e];have:=zaF a0 h2;have:=zaD hc h1;grind)
  ·rcases ap with ap | ⟨ap,ap2⟩
   ·have:=Rat.mul_pos ap hc2;unfold zG;rw[hc];grind
   ·have:=Rat.mul_nonneg ap2 (Rat.le_of_lt hb);unfold zG at h1;rw[ap] at h1;grind
 ·have k:c.1=0:=by
   rcases hc with hc | hc
   ·have:=Rat.mul_pos hb2 hc;unfold zG at h2;rw[hb] at h2;grind
   ·exact hc.1
  have k2:0<c.2:=by unfold lexP at hc;grind
  have k3:0<a.1:=by
   refine iD hb2 ?_;unfold zG at h1;rw[hb] at h1;grind
  have:=zaD k3 k2;unfold zG;rw[k];grind
theorem tr_gp {a b c:P2}(ha:lexP a)(hb:lexP b)(hc:lex0 c)(h1:0≤zG a b)(h2:0<zG b c):0<zG a c:=by
 have e:=(yD8 a b c).1;have c0:0≤c.1:=by unfold lex0 at hc;grind
 rcases hb with hb | ⟨hb,hb2⟩
 ·rcases ha with ha | ⟨ha,ha2⟩
  ·exact iD hb (by rw[e];have:=zaD ha h2;have:=zaF c0 h1;grind)
  ·have:=Rat.mul_pos ha2 hb;unfold zG at h1;rw[ha] at h1;grind
 ·have:=Rat.mul_nonneg (Rat.le_of_lt hb2) c0;unfold zG at h2;rw[hb] at h2;grind
theorem lR {a b:P2}:leP a b↔lex0 (subP b a):=by unfold leP lex0 subP;simp only;grind
def ltP (a b:P2):Prop:=lexP (subP b a)
theorem yV0 {a b:P2}:ltP a b↔cmpP a b<0:=by rw[kL];unfold ltP leP lexP subP;simp only;grind
theorem ltP.le {a b:P2}(h:ltP a b):leP a b:=lR.2 (lexP.le h)
theorem ltP.ne {a b:P2}(h:ltP a b):a≠b:=fun e=>by subst e;unfold ltP lexP subP at h;simp only at h;grind
theorem zV8 {a b:P2}(h:leP a b)(k:a≠b):ltP a b:=by
 unfold ltP leP lexP subP at *; simp only;rw[Ne,Prod.ext_iff] at k;grind
theorem le_or_lt (a b:P2):leP a b∨ltP b a:=by unfold ltP leP lexP subP;simp only;grind
def uQ (p:P2):List P2→List P2
 | t::s::r=>if zG (subP t s) (subP p t)≤0 then uQ p (s::r) else t::s::r
 | l=>l
def jA:List P2→List P2→List P2
 | acc,[]=>acc
 | acc,p::l=>jA (p::uQ p acc) l
def kT (q:P2):List P2→Prop
 | t::s::r=>0≤trn s t q∧kT q (s::r)
 | _=>True
def gF:List P2→Prop
 | u::t::s::r=>0<trn s t u∧gF (t::s::r)
 | _=>True
def edgD (w:P2):List P2→Prop
 | t::s::r=>0<zG (subP t s) w∧edgD w (s::r)
 | _=>True
structure ChOk (S acc:List P2):Prop where
 sub:∀ x∈acc,x∈S
 dec:acc.Pairwise fun a b=>ltP b a
 top:∀ q∈S,∀ t,acc.head? = some t→leP q t
 bot:∀ q∈S,∀ t,acc.getLast? = some t→leP t q
 lef:∀ q∈S,kT q acc
 trs:gF acc
 ne:acc≠[]
theorem pU (s t p:P2):zG (subP t s) (subP p t)=trn s t p:=by unfold trn zG subP;simp only;grind
theorem zQ5 {w:P2}(hw:lexP w):∀ D:List P2,gF D→D.Pairwise (fun a b=>ltP b a)→(∀ t s r,D=t::s::r→0<zG (subP t s) w)→edgD w D
 | [],_,_,_=>trivial
 | [_],_,_,_=>trivial
 | [t,s],_,_,h=>⟨h t s [] rfl,trivial⟩
 | t::s::u::r,ht,hd,h=>by
  have h1:=h t s _ rfl;have h2:0<zG (subP s u) (subP t s):=by rw[pU];exact ht.1
  have a1:ltP s t:=(zaz.1 hd).1 s (by simp);have a2:ltP u s:=(zaz.1 (zaz.1 hd).2).1 u (by simp);exact⟨h1,zQ5 hw (s::u::r) ht.2 (zaz.1 hd).2 fun t' s' r' e=>by
   injection e with e1 e2;injection e2 with e2 e3;subst e1 e2;exact yQ6 (lexP.le a2) a1 hw h2 (zaP h1)⟩
theorem zW0 {p x:P2}:∀ D:List P2,edgD (subP p x) D→kT x D→kT p D
 | [],_,_=>trivial
 | [_],_,_=>trivial
 | t::s::r,h,k=>⟨by
   have h1:=h.1;have k1:=k.1;unfold trn zG subP at *; simp only at *; grind,zW0 (s::r) h.2 k.2⟩
theorem yN3 {S:List P2}{p:P2}(hp:∀ q∈S,ltP q p):∀ acc:List P2,acc≠[]→(∀ x∈acc,x∈S)→acc.Pairwise (fun a b=>ltP b a)→(∀ q∈S,kT q acc)→gF acc →
  (∀ q∈S,∀ t,acc.getLast? = some t→leP t q)→(∀ q∈S,∀ t,acc.head? = some t→leP q t∨0≤trn t p q) →
  (uQ p acc≠[]∧(∀ x∈uQ p acc,x∈S)∧(uQ p acc).Pairwise (fun a b=>ltP b a)∧(∀ q∈S,kT q (uQ p acc))∧gF (uQ p acc) ∧
   (∀ q∈S,∀ t,(uQ p acc).getLast? = some t→leP t q)∧(∀ q∈S,∀ t,(uQ p acc).head? = some t→0≤trn t p q)∧∀ t s r,uQ p acc=t::s::r→0<zG (subP t s) (subP p t))
 | [],h,_,_,_,_,_,_=>absurd rfl h
 | [t],h,hs,hd,hl,ht,hb,hh=>by
  refine⟨h,hs,hd,hl,ht,hb,fun q hq t' e=>?_,fun t' s r e=>by cases e⟩;obtain rfl:t=t':=Option.some.inj e;rcases hh q hq t rfl with h1 | h1
  ·obtain rfl:=jH h1 (hb q hq t rfl);unfold trn zG subP;simp only;grind
  ·exact h1
 | t::s::r,h,hs,hd,hl,ht,hb,hh=>by
  have a1:ltP s t:=(zaz.1 hd).1 s (by simp);have tS:=hs t (by simp);have sS:=hs s (by simp);by_cases c:zG (subP t s) (subP p t)≤0
  ·rw[uQ,if_pos c];refine yN3 hp (s::r) (by simp) (fun x hx=>hs x (zbj _ hx)) (zaz.1 hd).2 (fun q hq=>(hl q hq).2) ?_ (fun q hq u e=>hb q hq u (by rw[List.getLast?_cons_cons];exact e)) fun q hq u e=>?_
   ·cases r with
    | nil=>trivial
    | cons u r=>exact ht.2
   ·obtain rfl:s=u:=Option.some.inj e;rcases le_or_lt q s with h1 | h1
    ·exact .inl h1
    ·refine .inr ?_;have k1:0≤zG (subP t s) (subP q s):=(hl q hq).1;have k2:0≤zG (subP p s) (subP t s):=by unfold zG subP at *; simp only at *; grind
     exact vY (lexP.le (hp s sS)) a1 (lexP.le h1) k2 k1
  ·rw[uQ,if_neg c];have c':0<zG (subP t s) (subP p t):=by grind
   refine⟨h,hs,hd,hl,ht,hb,fun q hq u e=>?_,fun t' s' r' e=>by injection e with e1 e2;injection e2 with e2 e3;subst e1 e2;exact c'⟩;obtain rfl:t=u:=Option.some.inj e;rcases hh q hq t rfl with h1 | h1
   ·have k1:0≤zG (subP t s) (subP q s):=(hl q hq).1;have k2:0≤zG (subP t q) (subP t s):=by unfold zG subP at *; simp only at *; grind
    have k3:=vY (lR.1 h1) a1 (lexP.le (hp t tS)) k2 (zaP c');unfold trn zG subP at *; simp only at *; grind
   ·exact h1
theorem dV {a b c:P2}(h:leP a b)(k:ltP b c):ltP a c:=by
 refine zV8 (gE h k.le) fun e=>?_;subst e;exact k.ne (jH k.le h)
theorem ch_step {S acc:List P2}{p:P2}(h:ChOk S acc)(hp:∀ q∈S,ltP q p):ChOk (S++[p]) (p::uQ p acc):=by
 obtain⟨d1,d2,d3,d4,d5,d6,d7,d8⟩:=yN3 hp acc h.ne h.sub h.dec h.lef h.trs h.bot fun q hq t e => .inl (h.top q hq t e);generalize uQ p acc=D at *;have hS:∀ {q},q∈S++[p]→q∈S∨q=p:=fun hq=>by simpa using hq
 obtain⟨t,D',rfl⟩:=zcj d1;have tS:=d2 t (by simp);have hw:lexP (subP p t):=hp t tS;refine⟨fun x hx=>?_,zaz.2 ⟨fun x hx=>hp x (d2 x hx),d3⟩,fun q hq u e=>?_,fun q hq u e=>?_,fun q hq=>?_,?_,by simp⟩
 ·rcases zae.1 hx with rfl | hx
  ·simp
  ·exact zbI _ (d2 x hx)
 ·obtain rfl:p=u:=Option.some.inj e;rcases hS hq with hq | rfl
  ·exact(hp q hq).le
  ·exact jN _
 ·rw[List.getLast?_cons_cons] at e;rcases hS hq with hq | rfl
  ·exact d6 q hq u e
  ·exact gE (d6 t tS u e) (hp t tS).le
 ·rcases hS hq with hq | rfl
  ·exact⟨d7 q hq t rfl,d4 q hq⟩
  ·refine⟨by unfold trn zG;grind,zW0 _ (zQ5 hw _ d5 d3 fun t' s r e=>?_) (d4 t tS)⟩;have e':=e;injection e' with e1 e2;subst e1;exact d8 t s r e
 ·cases D' with
  | nil=>trivial
  | cons s r=>exact⟨by rw[← pU];exact d8 t s r rfl,d5⟩
theorem xA3:∀(l S acc:List P2),ChOk S acc→(S++l).Pairwise ltP→ChOk (S++l) (jA acc l)
 | [],S,acc,h,_=>by rw[zap];exact h
 | p::l,S,acc,h,hs=>by
  have h1:=ch_step h (p:=p) fun q hq=>(zbK.1 hs).2.2 q hq p (by simp);have h2:=xA3 l (S++[p]) (p::uQ p acc) h1 (by simpa using hs);simpa [jA] using h2
theorem xH2 {l:List P2}(h:l≠[])(hs:l.Pairwise ltP):ChOk l (jA [] l):=by
 obtain⟨p,l,rfl⟩:=zcj h;have h0:ChOk [p] [p]:=⟨fun _ h=>h,by simp,fun q hq t e=>by obtain rfl:p=t:=Option.some.inj e;rw[zan.1 hq];exact jN _,fun q hq t e=>by obtain rfl:p=t:=Option.some.inj e;rw[zan.1 hq];exact jN _,fun _ _=>trivial,trivial,by simp⟩;exact xA3 l [p] [p] h0 hs
def negP (a:P2):P2:=(-a.1,-a.2)
theorem mS (a:P2):negP (negP a)=a:=by unfold negP;rw[Prod.ext_iff];constructor<;>simp only<;>grind
theorem cU (a b c:P2):trn (negP a) (negP b) (negP c)=trn a b c:=by unfold trn zG subP negP;simp only;grind
theorem tP {a b:P2}:ltP (negP a) (negP b)↔ltP b a:=by unfold ltP lexP subP negP;simp only;grind
theorem tT {a b:P2}:leP (negP a) (negP b)↔leP b a:=by unfold leP negP;simp only;grind
theorem zY7 (p:P2):∀ l:List P2,uQ (negP p) (l.map negP)=(uQ p l).map negP
 | []=>rfl
 | [_]=>rfl
 | t::s::r=>by
  have e:zG (subP (negP t) (negP s)) (subP (negP p) (negP t))=zG (subP t s) (subP p t):=by rw[pU,cU,← pU]
  simp only[zaM,uQ,e];split
  ·exact zY7 p (s::r)
  ·rfl
theorem zJ6:∀(l acc:List P2),jA (acc.map negP) (l.map negP)=(jA acc l).map negP
 | [],_=>rfl
 | p::l,acc=>by
  rw[zaM,jA,jA,zY7,← zaM];exact zJ6 l _
theorem tR {q:P2}:∀ l:List P2,kT (negP q) (l.map negP)↔kT q l
 | [] => .rfl
 | [_] => .rfl
 | t::s::r=>by simp only[zaM,kT,cU];exact and_congr .rfl (tR (s::r))
theorem oE:∀ l:List P2,gF (l.map negP)↔gF l
 | [] => .rfl
 | [_] => .rfl
 | [_,_] => .rfl
 | u::t::s::r=>by simp only[zaM,gF,cU];exact and_congr .rfl (oE (t::s::r))
structure ChOk' (S acc:List P2):Prop where
 sub:∀ x∈acc,x∈S
 dec:acc.Pairwise fun a b=>ltP a b
 top:∀ q∈S,∀ t,acc.head? = some t→leP t q
 bot:∀ q∈S,∀ t,acc.getLast? = some t→leP q t
 lef:∀ q∈S,kT q acc
 trs:gF acc
 ne:acc≠[]
theorem ch_ok' {l:List P2}(h:l≠[])(hs:l.Pairwise ltP):ChOk' l (jA [] l.reverse):=by
 have h1:ChOk (l.reverse.map negP) (jA [] (l.reverse.map negP)):=xH2 (by simpa using h) (by
  rw[zcT,List.pairwise_reverse];exact hs.imp fun h=>tP.2 h)
 rw[show jA [] (l.reverse.map negP)=(jA [] l.reverse).map negP from zJ6 l.reverse []] at h1;generalize jA [] l.reverse=acc at *;have hm:∀ {q},q∈l→negP q∈l.reverse.map negP:=fun hq=>zaj.2 ⟨_,List.mem_reverse.2 hq,rfl⟩;refine⟨fun x hx=>?_,?_,fun q hq t e=>?_,fun q hq t e=>?_,fun q hq=>(tR acc).1 (h1.lef _ (hm hq)),(oE acc).1 h1.trs,fun c=>h1.ne (by rw[c];rfl)⟩
 ·obtain⟨y,hy,e⟩:=zaj.1 (h1.sub (negP x) (zaj.2 ⟨x,hx,rfl⟩));have:=congrArg negP e;rw[mS,mS] at this;rw[← this];exact List.mem_reverse.1 hy
 ·have:=h1.dec;rw[zcT] at this;exact this.imp fun h=>tP.1 h
 ·exact tT.1 (h1.top _ (hm hq) _ (by rw[List.head?_map,e];rfl))
 ·exact tT.1 (h1.bot _ (hm hq) _ (by rw[List.getLast?_map,e];rfl))
abbrev gp (h:List P2)(i:Nat):P2:=h.getD i (0,0)
abbrev nx (h:List P2)(i:Nat):P2:=gp h ((i+1)%h.length)
theorem jJ {h:List P2}{i:Nat}(hi:i<h.length):gp h i∈h:=by
 unfold gp;rw[List.getD_eq_getElem?_getD,List.getElem?_eq_getElem hi];exact List.getElem_mem hi
theorem lP {h:List P2}{c:P2}(hc:c∈h):∃ i,i<h.length∧gp h i=c:=by
 obtain⟨i,hi,rfl⟩:=zaZ.1 hc;exact⟨i,hi,by unfold gp;rw[List.getD_eq_getElem?_getD,List.getElem?_eq_getElem hi];rfl⟩
theorem nodup_inj {α:Type}{l:List α}(nd:l.Nodup){i k:Nat}(hi:i<l.length)(hk:k<l.length)(e:l[i]=l[k]):i=k:=by
 rcases zbH i k with c | c | c
 ·exact absurd e (zci.1 nd i k hi hk c)
 ·exact c
 ·exact absurd e.symm (zci.1 nd k i hk hi c)
theorem yS6 (a b:Rat):a<b∨b≤a:=by grind
theorem dI {h:List P2}(nd:h.Nodup){i k:Nat}(hi:i<h.length)(hk:k<h.length)(e:gp h i=gp h k):i=k:=by
 unfold gp at e;rw[zag,zag,zah hi,zah hk] at e;exact nodup_inj nd hi hk e
theorem iA {n i:Nat}(h:i<n):∃ p,p<n∧(p+1)%n=i:=by
 rcases zbd i with rfl | c
 ·exact⟨n-1,by omega,by rw[show n-1+1=n by omega];exact zbz n⟩
 ·exact⟨i-1,by omega,by rw[show i-1+1=i by omega];exact zau h⟩
theorem gN {n i:Nat}(h:i<n):(i+1)%n<n:=zaJ _ (by omega)
theorem dU {n i:Nat}(h:i<n)(h2:2≤n):(i+1)%n≠i:=by
 rcases zaf (i+1) n with c | c
 ·rw[zau c];omega
 ·rw[show i+1=n by omega,zbz];omega
theorem fB {c n x:P2}(h:trn c n x=0)(k:c≠n):∃ t:Rat,x.1=c.1+t*(n.1-c.1)∧x.2=c.2+t*(n.2-c.2):=by
 unfold trn zG subP at h;simp only at h;by_cases e:n.1-c.1=0
 ·have e2:n.2-c.2≠0:=fun e2=>k (zbi.2 ⟨by grind,by grind⟩);refine⟨(x.2-c.2)/(n.2-c.2),?_,?_⟩
  ·have:(n.2-c.2)*(x.1-c.1)=0:=by rw[e] at h;grind
   rcases zbp.1 this with h1 | h1
   ·exact absurd h1 e2
   ·rw[e];grind
  ·rw[zcz e2];grind
 ·refine⟨(x.1-c.1)/(n.1-c.1),?_,?_⟩
  ·rw[zcz e];grind
  ·have:(n.1-c.1)*(x.2-c.2)=(n.1-c.1)*((x.1-c.1)/(n.1-c.1)*(n.2-c.2)):=by
    have e3:=zcz (a:=x.1-c.1) e;have e4:(n.1-c.1)*((x.1-c.1)/(n.1-c.1)*(n.2-c.2))=((x.1-c.1)/(n.1-c.1)*(n.1-c.1))*(n.2-c.2):=by grind
    rw[e4,e3];grind
   have h2:(n.1-c.1)*((x.2-c.2)-(x.1-c.1)/(n.1-c.1)*(n.2-c.2))=0:=by grind
   rcases zbp.1 h2 with h1 | h1
   ·exact absurd h1 e
   ·grind
structure Poly (h:List P2):Prop where
 fst:∀ c∈h,leP (gp h 0) c
 nd:h.Nodup
 conv:3≤h.length→∀ i k,i<h.length→k<h.length→k≠i→k≠(i+1)%h.length→0<trn (gp h i) (nx h i) (gp h k)
def Sup (h:List P2)(q:P2):Prop:=∀ u v:Rat,∃ c∈h,u*q.1+v*q.2≤u*c.1+v*c.2
theorem eF {h:List P2}{c:P2}(hc:c∈h):Sup h c:=fun u v=>⟨c,hc,zaK⟩
theorem vZ {h h':List P2}{q:P2}(k:∀ c∈h,Sup h' c)(hq:Sup h q):Sup h' q:=fun u v=>by
 obtain⟨c,hc,h1⟩:=hq u v;obtain⟨d,hd,h2⟩:=k c hc u v;exact⟨d,hd,zck h1 h2⟩
theorem jY {h:List P2}{s t q:P2}(hl:∀ c∈h,0≤trn s t c)(hq:Sup h q):0≤trn s t q:=by
 obtain⟨c,hc,h1⟩:=hq (t.2-s.2) (-(t.1-s.1));have h2:=hl c hc;unfold trn zG subP at *; simp only at *; grind
theorem yU8 (u v:Rat):∀ {h:List P2},h≠[]→∃ c∈h,∀ x∈h,u*x.1+v*x.2≤u*c.1+v*c.2
 | [c],_=>⟨c,by simp,fun x hx=>by rw[zan.1 hx];exact zaK⟩
 | c::d::r,_=>by
  obtain⟨m,hm,k⟩:=yU8 u v (h:=d::r) (by simp);by_cases e:u*c.1+v*c.2≤u*m.1+v*m.2
  ·exact⟨m,zbj _ hm,fun x hx=>by
    rcases zae.1 hx with rfl | hx
    ·exact e
    ·exact k x hx⟩
  ·exact⟨c,by simp,fun x hx=>by
    rcases zae.1 hx with rfl | hx
    ·exact zaK
    ·have:=k x hx;grind⟩
theorem Poly.weak {h:List P2}(p:Poly h){i:Nat}(hi:i<h.length)(h3:3≤h.length):∀ c∈h,0≤trn (gp h i) (nx h i) c:=fun c hc=>by
 obtain⟨k,hk,rfl⟩:=lP hc;by_cases e1:k=i
 ·subst e1;unfold trn zG subP;simp only;grind
 by_cases e2:k=(i+1)%h.length
 ·rw[e2];unfold trn zG subP;simp only;grind
 exact zaP (p.conv h3 i k hi hk e1 e2)
theorem sup_of_left {h:List P2}{q:P2}(p:Poly h)(h3:3≤h.length)(hq:∀ i,i<h.length→0≤trn (gp h i) (nx h i) q):Sup h q:=fun u v=>by
 obtain⟨c,hc,hm⟩:=yU8 u v (h:=h) (by intro e;rw[e] at h3;simp at h3);refine⟨c,hc,?_⟩;obtain⟨i,hi,rfl⟩:=lP hc;obtain⟨j,hj,e⟩:=iA hi;have k1:=hq i hi;have k2:=hq j hj;have hne:j≠(i+1)%h.length:=fun e2=>by
  have h5:=dU hi (by omega);have h6:(j+1)%h.length=i:=e;rw[e2] at h6;rcases zaf (i+1) h.length with c | c
  ·rw[zau c] at h6;rcases zaf (i+1+1) h.length with d | d
   ·rw[zau d] at h6;omega
   ·rw[show i+1+1=h.length by omega,zbz] at h6;omega
  ·rw[show i+1=h.length by omega,zbz,zau (by omega)] at h6;omega
 have k3:=p.conv h3 i j hi hj (fun e2=>dU hj (by omega) (e.trans e2.symm)) hne;have m1:=hm _ (jJ hj);have m2:=hm _ (jJ (gN hi));unfold nx at k1 k2 k3;rw[e] at k2;generalize gp h i=c at *;generalize gp h ((i+1)%h.length)=n at *;generalize gp h j=r at *;have e1:trn c n r*(u*(q.1-c.1)+v*(q.2-c.2))=(u*(n.1-c.1)+v*(n.2-c.2))*trn r c q+(u*(r.1-c.1)+v*(r.2-c.2))*trn c n q:=by unfold trn zG subP;simp only;grind
 have a1:0 ≤ -(u*(n.1-c.1)+v*(n.2-c.2)):=by grind
 have a2:0 ≤ -(u*(r.1-c.1)+v*(r.2-c.2)):=by grind
 have b1:=zaF a1 k2;have b2:=zaF a2 k1;have:0≤trn c n r * -(u*(q.1-c.1)+v*(q.2-c.2)):=by grind
 have:=bQ k3 this;grind
theorem conv_of {h:List P2}(nd:h.Nodup)(h3:3≤h.length)(hl:∀ i k,i<h.length→k<h.length→0≤trn (gp h i) (nx h i) (gp h k))(ht:∀ i,i<h.length→0<trn (gp h i) (nx h i) (nx h ((i+1)%h.length))) :
  ∀ i k,i<h.length→k<h.length→k≠i→k≠(i+1)%h.length→0<trn (gp h i) (nx h i) (gp h k):=fun i k hi hk n1 n2=>by
 have h0:=hl i k hi hk;refine Classical.byContradiction fun hz=>?_;have hz:trn (gp h i) (nx h i) (gp h k)=0:=by grind
 have cn:gp h i≠nx h i:=fun e=>dU hi (by omega) (dI nd hi (gN hi) e).symm;obtain⟨t,e1,e2⟩:=fB hz cn;have xc:gp h k≠gp h i:=fun e=>n1 (dI nd hk hi e);have xn:gp h k≠nx h i:=fun e=>n2 (dI nd hk (gN hi) e);obtain⟨j,hj,ej⟩:=iA hi;obtain⟨l,hl',el⟩:=iA hk;have w1:=hl ((i+1)%h.length) k (gN hi) hk;have s1:=ht i hi;have w2:=hl j k hj hk;have s2:=ht j hj;have w3:=hl k i hk hi;have w4:=hl k _ hk (gN hi);have w5:=hl l i hl' hi;have w6:=hl l _ hl' (gN hi);have s3:=ht l hl';unfold nx at *;rw[ej] at w2 s2;rw[el] at w5 w6 s3;generalize gp h i=c at *;generalize gp h ((i+1)%h.length)=n at *;generalize gp h k=x at *;generalize gp h j=r at *;generalize gp h l=z at *;generalize gp h ((((i+1)%h.length)+1)%h.length)=m at *;generalize gp h ((k+1)%h.length)=y at *;rcases yS6 1 t with ht1 | ht1
 ·have e:trn n m x = -((t-1)*trn c n m):=by unfold trn zG subP;simp only;rw[e1,e2];grind
  have:=zaD (show 0<t-1 by grind) s1;grind
 rcases yS6 t 0 with ht0 | ht0
 ·have e:trn r c x=t*trn r c n:=by unfold trn zG subP;simp only;rw[e1,e2];grind
  have:=zaD (show 0 < -t by grind) s2;grind
 have zA0:0<t:=by
  refine Classical.byContradiction fun c0=>xc ?_;have:t=0:=by grind
  rw[zbi,e1,e2,this];constructor<;>grind
 have zA1:0<1-t:=by
  refine Classical.byContradiction fun c0=>xn ?_;have:t=1:=by grind
  rw[zbi,e1,e2,this];constructor<;>grind
 have g1:trn x y c=t * -zG (subP y x) (subP n c):=by unfold trn zG subP;simp only;rw[e1,e2];grind
 have g2:trn x y n=(1-t)*zG (subP y x) (subP n c):=by unfold trn zG subP;simp only;rw[e1,e2];grind
 have g3:trn z x c=t * -zG (subP x z) (subP n c):=by unfold trn zG subP;simp only;rw[e1,e2];grind
 have g4:trn z x n=(1-t)*zG (subP x z) (subP n c):=by unfold trn zG subP;simp only;rw[e1,e2];grind
 have f1:=bQ zA0 (g1 ▸ w3);have f2:=bQ zA1 (g2 ▸ w4);have f3:=bQ zA0 (g3 ▸ w5);have f4:=bQ zA1 (g4 ▸ w6);have z1:zG (subP y x) (subP n c)=0:=by grind
 have z2:zG (subP x z) (subP n c)=0:=by grind
 have z3:∀ k:Rat,(n.1-c.1=0→n.2-c.2=0→False)→k*(n.1-c.1)=0→k*(n.2-c.2)=0→k=0:=fun k hh a b=>by
  rcases zbp.1 a with a | a
  ·exact a
  ·rcases zbp.1 b with b | b
   ·exact b
   ·exact(hh a b).elim
 have:trn z x y=0:=z3 _ (fun a b=>cn (Prod.ext_iff.2 ⟨by grind,by grind⟩)) (by unfold trn zG subP at *; simp only at *; grind) (by unfold trn zG subP at *; simp only at *; grind);grind
theorem yG8 {h:List P2}{q:P2}(h2:h.length=2)(hq:Sup h q):trn (gp h 0) (gp h 1) q=0:=by
 match h,h2 with
 | [a,b],_ =>
  have k1:=jY (s:=a) (t:=b) (fun c hc=>by
   rcases zae.1 hc with rfl | hc
   ·unfold trn zG subP;simp only;grind
   ·rw[List.mem_singleton.1 hc];unfold trn zG subP;simp only;grind) hq
  have k2:=jY (s:=b) (t:=a) (fun c hc=>by
   rcases zae.1 hc with rfl | hc
   ·unfold trn zG subP;simp only;grind
   ·rw[List.mem_singleton.1 hc];unfold trn zG subP;simp only;grind) hq
  show trn a b q=0;unfold trn zG subP at *; simp only at *; grind
theorem zU4 {h h':List P2}(p:Poly h)(hs:∀ c∈h,Sup h' c)(hs':∀ c∈h',Sup h c){c:P2}(hc:c∈h):c∈h':=by
 -- a way in which c alone is the furthest
 rcases zaf 2 h.length with h3 | h3
 ·obtain⟨i,hi,rfl⟩:=lP hc;obtain⟨j,hj,e⟩:=iA hi;have w1:=p.weak hi h3;have w2:=p.weak hj h3;have k3:=p.conv h3 j ((i+1)%h.length) hj (gN hi) (fun e2=>by
   have h6:(j+1)%h.length=i:=e;rw[← e2] at h6;rcases zaf (i+1) h.length with c | c
   ·rw[zau c] at h6;rcases zaf (i+1+1) h.length with d | d
    ·rw[zau d] at h6;omega
    ·rw[show i+1+1=h.length by omega,zbz] at h6;omega
   ·rw[show i+1=h.length by omega,zbz,zau (by omega)] at h6;omega) (by rw[e];exact dU hi (by omega))
  unfold nx at *;rw[e] at w2 k3;have hs0:=hs _ hc;generalize gp h i=c at *;generalize gp h ((i+1)%h.length)=n at *;generalize gp h j=r at *;obtain⟨q,hq,h1⟩:=hs0 ((n.2-c.2)+(c.2-r.2)) (-((n.1-c.1)+(c.1-r.1)));have b1:=jY w1 (hs' q hq);have b2:=jY w2 (hs' q hq);have z1:trn c n q=0:=by unfold trn zG subP at *; simp only at *; grind
  have z2:trn r c q=0:=by unfold trn zG subP at *; simp only at *; grind
  have e1:trn r c n*(q.1-c.1)=0:=by unfold trn zG subP at *; simp only at *; grind
  have e2:trn r c n*(q.2-c.2)=0:=by unfold trn zG subP at *; simp only at *; grind
  have:q=c:=by
   rcases zbp.1 e1 with f | f
   ·grind
   rcases zbp.1 e2 with g | g
   ·grind
   exact zbi.2 ⟨by grind,by grind⟩
  exact this ▸ hq
 ·match h,p,hc,hs,hs',h3 with
  | [a],p,hc,hs,hs',_ =>
   obtain rfl:=zan.1 hc;obtain⟨q,hq,_⟩:=hs c (by simp) 0 0;have hS:=hs' q hq;have g:∀ u v:Rat,u*q.1+v*q.2≤u*c.1+v*c.2:=fun u v=>by
    obtain⟨x,hx,h1⟩:=hS u v;rw[zan.1 hx] at h1;exact h1
   have g1:=g 1 0;have g2:=g (-1) 0;have g3:=g 0 1;have g4:=g 0 (-1);have:q=c:=zbi.2 ⟨by grind,by grind⟩;exact this ▸ hq
  | [a,b],p,hc,hs,hs',_ =>
   have hab:a≠b:=by have:=p.nd;simp at this;exact this
   have hz:=fun q hq=>yG8 rfl (hs' q hq);simp only[gp,List.getD_cons_zero,List.getD_cons_succ] at hz;have key:∀ c d:P2,c≠d→(∀ x∈[a,b],x=c∨x=d)→c∈[a,b]→(∀ q∈h',trn c d q=0)→c∈h':=fun c d hcd hx hc hz=>by
    have hd:0<(c.1-d.1)*(c.1-d.1)+(c.2-d.2)*(c.2-d.2):=by
     have s1:∀ x:Rat,0≤x*x:=fun x=>by
      rcases (Rat.le_total:0≤x∨x≤0) with hx | hx
      ·exact zaF hx hx
      ·have:=zaF (show 0 ≤ -x by grind) (show 0 ≤ -x by grind);grind
     have s2:=s1 (c.1-d.1);have s3:=s1 (c.2-d.2);refine Classical.byContradiction fun c0=>hcd ?_;have z1:(c.1-d.1)*(c.1-d.1)=0:=by grind
     have z2:(c.2-d.2)*(c.2-d.2)=0:=by grind
     exact zbi.2 ⟨by rcases zbp.1 z1 with h | h<;>grind,by rcases zbp.1 z2 with h | h<;>grind⟩
    obtain⟨q,hq,h1⟩:=hs c hc (c.1-d.1) (c.2-d.2);obtain⟨x,hx',h2⟩:=hs' q hq (c.1-d.1) (c.2-d.2);have h3:(c.1-d.1)*q.1+(c.2-d.2)*q.2≤(c.1-d.1)*c.1+(c.2-d.2)*c.2:=by
     rcases hx x hx' with rfl | rfl<;>grind
    obtain⟨t,e1,e2⟩:=fB (hz q hq) hcd;rw[e1,e2] at h1 h3;have z:t*((c.1-d.1)*(c.1-d.1)+(c.2-d.2)*(c.2-d.2))=0:=by grind
    have:q=c:=by
     rcases zbp.1 z with z | z
     ·exact zbi.2 ⟨by rw[e1,z];grind,by rw[e2,z];grind⟩
     ·grind
    exact this ▸ hq
   rcases zae.1 hc with rfl | hc
   ·exact key c b hab (fun x hx=>by simpa using hx) (by simp) hz
   ·obtain rfl:=zan.1 hc;exact key c a (Ne.symm hab) (fun x hx=>by simp at hx;exact hx.symm) (by simp) fun q hq=>by
     have:=hz q hq;unfold trn zG subP at *; simp only at *; grind
theorem len_eq {h h':List P2}(nd:h.Nodup)(nd':h'.Nodup)(e:∀ c,c∈h↔c∈h'):h.length=h'.length :=
 Nat.le_antisymm (qZ nd fun x hx=>(e x).1 hx) (qZ nd' fun x hx=>(e x).2 hx)
theorem poly_uniq {h h':List P2}(p:Poly h)(p':Poly h')(hs:∀ c∈h,Sup h' c)(hs':∀ c∈h',Sup h c):h=h':=by
 have e:∀ c,c∈h↔c∈h':=fun c=>⟨zU4 p hs hs',zU4 p' hs' hs⟩;have hl:=len_eq p.nd p'.nd e;have h0:0<h.length→gp h 0=gp h' 0:=fun k=>jH (p.fst _ ((e _).2 (jJ (by omega)))) (p'.fst _ ((e _).1 (jJ k)));have hi:∀ i,i<h.length→gp h i=gp h' i:=fun i=>by
  induction i with
  | zero=>exact h0
  | succ i ih =>
   intro hi;have ei:=ih (by omega);rcases zaf 2 h.length with h3 | h3
   ·obtain⟨k,hk,ek⟩:=lP ((e _).1 (jJ hi));have w:=p.weak (i:=i) (by omega) h3 _ ((e _).2 (jJ (h:=h') (i:=i+1) (by omega)));have m1:(i+1)%h.length=i+1:=zau hi;have m2:(i+1)%h'.length=i+1:=zau (by omega);by_cases c1:k=i+1
    ·rw[← ek,c1]
    ·have c2:k≠i:=fun c=>by
      have:=dI p.nd hi (show i<h.length by omega) (by rw[ei,← ek,c]);omega
     have s:=p'.conv (by omega) i k (by omega) hk c2 (by rw[m2];exact c1);unfold nx at w s;rw[m1] at w;rw[m2,ek,← ei] at s;unfold trn zG subP at *; simp only at *; grind
   ·obtain⟨k,hk,ek⟩:=lP ((e _).1 (jJ hi));have c2:k≠i:=fun c=>by
     have:=dI p.nd hi (show i<h.length by omega) (by rw[ei,← ek,c]);omega
    rw[← ek,show k=i+1 by omega]
 refine zcq hl fun i h1 h2=>?_;have:=hi i h1;unfold gp at this;rw[zag,zag,zah h1,zah h2] at this;exact this
structure IsHull (l h:List P2):Prop where
 poly:Poly h
 sub:∀ c∈h,c∈l
 sup:∀ q∈l,Sup h q
theorem hull_uniq {l l' h h':List P2}(a:IsHull l h)(b:IsHull l' h')(e1:∀ q∈l,Sup l' q)(e2:∀ q∈l',Sup l q):h=h' :=
 poly_uniq a.poly b.poly (fun c hc=>vZ b.sup (e1 c (a.sub c hc))) fun c hc=>vZ a.sup (e2 c (b.sub c hc))
end Go.SL
