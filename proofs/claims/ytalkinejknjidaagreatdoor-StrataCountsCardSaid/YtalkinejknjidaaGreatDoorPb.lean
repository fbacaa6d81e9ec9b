/- Lemmas and walks of functions; no statement. -/
import Derived.Test.YtalkinejknjidaaGreatDoorPa
set_option linter.unusedVariables false
set_option linter.unusedSimpArgs false
set_option maxRecDepth 100000
namespace Go.Proofs.YtalkinejknjidaaGreatDoor
open Go.SL Go.RowKit Go.Proofs Tryz
section
variable {M : Nat → Prop} {w : World}
structure ZQ (M:Nat→Prop)(w:World)(n:Nat)(q:Int)(s:Bool)(a:Value):Prop where
  ex:∃ xs,IsNat M w a xs∧xs.length≤n∧zv s xs=q
section
variable {Fz M M' T S : Nat → Prop} {w w' w0 : World} {n m k : Nat} {q : Int} {s : Bool} {a : Value}
theorem ZQ.up (h:ZQ M w n q s a)(hm:n≤m):ZQ M w m q s a:=by obtain⟨xs,h1,h2,h3⟩:=h.ex;exact⟨xs,h1,by omega,h3⟩
theorem ZQ.one (h:ZQ M w n q s a):a.oneCell'=true∧True:=by obtain⟨xs,h1,_⟩:=h.ex;exact⟨vK h1,trivial⟩
end
structure ZC (M:Nat→Prop)(w:World)(n:Nat)(q:Int)(s:Bool)(a:Value):Prop where
  sgn:s=decide (q<0)
  num:IsNat M w a (limbs (q.natAbs))
  len:(limbs (q.natAbs)).length≤n
section
variable {Fz M M' T S : Nat → Prop} {w w' w0 : World} {n m k : Nat} {q : Int} {s : Bool} {a : Value}
theorem ZC.gen (h:ZC M w n q s a):ZQ M w n q s a:=⟨_,h.num,h.len,by rw[h.sgn];exact tN q⟩
end
structure NQ (M:Nat→Prop)(w:World)(n:Nat)(q:Nat)(a:Value):Prop where
  ex:∃ xs,IsNat M w a xs∧xs.length≤n∧val xs=q
section
variable {Fz M M' T S : Nat → Prop} {w w' w0 : World} {n m k : Nat} {q : Nat}  {a : Value}
theorem NQ.one (h:NQ M w n q a):a.oneCell'=true∧True:=by obtain⟨xs,h1,_⟩:=h.ex;exact⟨vK h1,trivial⟩
end
structure PQ (M:Nat→Prop)(w:World)(n:Nat)(q:P2)(s:Bool)(a:Value)(d:Value)(t:Bool)(b:Value)(e:Value):Prop where
  x:QC M w n q.1 s a d
  y:QC M w n q.2 t b e
section
variable {Fz M M' T S : Nat → Prop} {w w' w0 : World} {n m k : Nat} {q : P2} {p r : Rat} {s : Bool} {t : Bool} {a d b e : Value}
theorem PQ.up (h:PQ M w n q s a d t b e)(hm:n≤m):PQ M w m q s a d t b e:=⟨h.x.up hm,h.y.up hm⟩
end
end
end Go.Proofs.YtalkinejknjidaaGreatDoor
namespace Go.Proofs.YtalkinejknjidaaGreatDoor
open Go Go.SL Go.RowKit Tryz
section
variable {Fz M M' : Nat → Prop} {w w' : World}
end
end Go.Proofs.YtalkinejknjidaaGreatDoor
namespace Go.SL
open Go.RowKit
variable {G : Type}
section draw
variable {P : Program} {r : Option Nat} {N : Nat} {ops : Array Oper} {D : List Deferred} {E : Env} {x0 : World × G} {R : World × G → World × G → Prop} {R' : Nat → World × G → World × G → Prop} {Pr : Nat → World × G → Prop} {st : Option (Nat × (World × G → Prop) × (World × G → Prop))}
variable {F : List (Nat × VPS G) → Prop} {rest : List Oper} {i : Nat} {Γ : List (Nat × VPS G)}
end draw
end Go.SL
namespace Go.SL
open Go.RowKit
section flds
variable {P : Program} {r : Option Nat} {N : Nat} {all : Array Oper} {K : Pd} {D : List Deferred} {E : Env} {w : World} {rest : List Oper}
theorem ops_fielda {d:Nat}{x:Operand}{s t':TypeId}{pos:String}{af:Array Edge}{f:Nat}{fields:Array Field}{fd:Field}{us vs:List Value}{sz bytes:Nat}{z:Value}(hd:Nat.blt d N=true)
  (hs:P.underlying s=some (.struct fields)) (hf:fields[f]? = some fd) (hz:Sz P fd.type sz bytes z) (ha:Fold P fd.type) (hx:ev E x=some (.agg us.toArray)) (hl:Nat.ble (fd.offset+sz) us.length=true) (hv:(us.drop fd.offset).take sz=vs)
  (h:Ops P r N all K rest D ((d,.agg vs.toArray)::E) w):Ops P r N all K (⟨some d,.field s x f,t',pos,af,none⟩::rest) D E w:=by
 have hl':fd.offset+sz≤us.length:=by simpa [Nat.ble_eq] using hl
 refine oV hd hs hf hz hx hv (by rw[← hv];simp;omega) ?_ h;have e1:=ha w;subst hv;simp[Instr.field,run_underlying hs,hf,part,Result.andThen,asAgg,xK hz,e1,hl'];all_goals (try omega)
theorem ops_fieldc {d:Nat}{x:Operand}{s t':TypeId}{pos:String}{af:Array Edge}{f:Nat}{fields:Array Field}{fd:Field}{us:List Value}{v:Value}{bytes:Nat}{z:Value}(hd:Nat.blt d N=true)
  (hs:P.underlying s=some (.struct fields)) (hf:fields[f]? = some fd) (hz:Sz P fd.type 1 bytes z) (ha:Flat P fd.type) (hx:ev E x=some (.agg us.toArray)) (hv:us[fd.offset]? = some v)
  (h:Ops P r N all K rest D ((d,v)::E) w):Ops P r N all K (⟨some d,.field s x f,t',pos,af,none⟩::rest) D E w:=by
 have hlt:=(zaL.1 hv).1;refine oV hd hs hf hz hx rfl (by simp;omega) ?_ h;have e1:=ha w;simp[Instr.field,run_underlying hs,hf,part,Result.andThen,asAgg,xK hz,e1,hv];all_goals (try omega)
end flds
end Go.SL
namespace Go.Proofs.YtalkinejknjidaaGreatDoor
open Go.SL Go.RowKit Go.Proofs Tryz
section
variable {M : Nat → Prop} {w : World}
def RQ (n:Nat):RelV Rat:=fun M w p us=>∃ s a d,us=[.bool s,a,d]∧QC M w n p s a d
def RQc (n:Nat):RelV Rat:=fun M w p us=>∃ s a d,us=[.bool s,a,d]∧RC M w n p s a d
def RP (n:Nat):RelV P2:=fun M w p us=>∃ s a d t b e,us=[.bool s,a,d,.bool t,b,e]∧PQ M w n p s a d t b e
structure PL (M:Nat→Prop)(w:World)(n:Nat)(q:List P2)(v:Value):Prop where
  row:tL (RP n) 6 M w v q
structure QL (M:Nat→Prop)(w:World)(n:Nat)(q:List Rat)(v:Value):Prop where
  row:tL (RQ n) 3 M w v q
def RZ (n:Nat):RelV Int:=fun M w p us=>∃ s a,us=[.bool s,a]∧ZQ M w n p s a
structure ZL (M:Nat→Prop)(w:World)(n:Nat)(q:List Int)(v:Value):Prop where
  row:tL (RZ n) 2 M w v q
end
end Go.Proofs.YtalkinejknjidaaGreatDoor
namespace Go.Proofs.YtalkinejknjidaaGreatDoor
open Go Go.SL Go.RowKit Tryz
section
variable {Fz M M' : Nat → Prop} {w w' : World}
end
end Go.Proofs.YtalkinejknjidaaGreatDoor
namespace Go.Proofs.YtalkinejknjidaaGreatDoor
open Go.SL Go.RowKit Go.Proofs Tryz
section
variable {M : Nat → Prop} {w : World}
theorem zc_zero {n:Nat}:ZC M w n 0 false (.slice none 0 0):=⟨by simp,by simpa [yG] using (fF (M:=M) (w:=w)),by simp[yG]⟩
theorem sum_take {l:List Int}{s:Nat}(h:s<l.length):(l.take (s+1)).sum=(l.take s).sum+l.getD s 0:=by
  rw[(zT (0:Int) h).1,List.sum_append];simp
def xT (l:List Int):Int:=l.foldl (· * ·) 1
theorem prod_take {l:List Int}{s:Nat}(h:s<l.length):xT (l.take (s+1))=xT (l.take s)*l.getD s 0:=by
  rw[(zT (0:Int) h).1,xT,List.foldl_append];rfl
theorem zS2 {t:Nat}(h0:t≠0)(h:t%2=0):tz t=tz (t/2)+1:=by
  conv=>lhs;rw[tz]
  rw[dif_neg (by omega)]
theorem zO2 {t:Nat}(h:t%2=1):tz t=0:=by rw[tz,dif_pos (.inl h)]
theorem zO3:∀(k m:Nat),m≠0→tz (2^k*m)=k+tz m
  | 0,m,h=>by simp
  | k+1,m,h=>by
    have hp:2^k*m≠0:=Nat.mul_ne_zero (Nat.pos_iff_ne_zero.1 (zbO (by omega))) h;have e:2^(k+1)*m=2*(2^k*m):=by rw[zax,zat (2^k) 2,zau]
    rw[e,zS2 (by omega) (by omega),Nat.mul_div_cancel_left _ (by omega),zO3 k m h];omega
def od (x:Nat):Nat:=x/2^tz x
theorem fB {x:Nat}(h:x≠0):x=2^tz x*od x∧od x%2=1:=eM x h
theorem zV8 (x:Nat):od x≤x:=zbh _ _
theorem tz_low {x r:Nat}(hx:x≠0)(hx2:x<4294967296):tz (x+4294967296*r)=tz x:=by
  obtain⟨h1,h2⟩:=fB hx;have hk:=mH (n:=32) hx (zcA hx2 (by decide));obtain⟨i,hi⟩:∃ i,32=tz x+(i+1):=⟨32-tz x-1,by omega⟩;have e:x+4294967296*r=2^tz x*(od x+2*(2^i*r)):=by
    have:(4294967296:Nat)=2^tz x*(2^i*2):=by rw[← zax,← zaJ,← hi]
    rw[this,zap,← h1];congr 1;simp only[zau,zcg,zat]
  rw[e];generalize 2^i*r=q;rw[zO3 _ _ (by omega),zO2 (t:=od x+2*q) (by omega)];rfl
theorem zR8:∀(s:Nat) (xs:List Nat),(∀ j,j<s→xs.getD j 0=0)→s<xs.length→∃ r,val xs=2^(32*s)*(xs.getD s 0+4294967296*r)
  | 0,x::xs,_,_=>⟨val xs,by simp[val]⟩
  | s+1,x::xs,h,hl=>by
    obtain⟨r,hr⟩:=zR8 s xs (fun j hj=>by have:=h (j+1) (by omega);simpa using this) (by simpa using hl);have h0:x=0:=by have:=h 0 (by omega);simpa using this
    refine⟨r,?_⟩;have e:2^(32*(s+1))=4294967296*2^(32*s):=by rw[zap,zaJ,zat]
    rw[val,h0,hr,e,zau];simp
theorem tz_limbs {xs:List Nat}{s:Nat}(hlt:∀ x∈xs,x<4294967296)(h:∀ j,j<s→xs.getD j 0=0)(hs:s<xs.length)(h0:xs.getD s 0≠0):tz (val xs)=32*s+tz (xs.getD s 0):=by
  obtain⟨r,hr⟩:=zR8 s xs h hs;rw[hr,zO3 _ _ (by omega),tz_low h0 (yC hlt s)]
theorem val_zero_all {xs:List Nat}(h:∀ j,j<xs.length→xs.getD j 0=0):val xs=0:=by
  have:=dD (xs:=xs) (n:=0) (fun j _=>by
    rcases zaf j xs.length with c | c
    · exact h j c
    · exact yR c)
  simpa [val] using this.symm
theorem gcd_od {x y:Nat}(hx:x≠0)(hy:y≠0):Nat.gcd x y=Nat.gcd (od x) (od y)*2^min (tz x) (tz y):=by
  obtain⟨h1,h2⟩:=fB hx;obtain⟨k1,k2⟩:=fB hy;rcases Nat.le_total (tz x) (tz y) with h | h
  · obtain⟨i,hi⟩:∃ i,tz y=tz x+i:=⟨tz y-tz x,by omega⟩;rw[zaS h]
    conv=>lhs;rw[h1,k1,hi,zaJ,zau,Nat.gcd_mul_left,gO h2]
    rw[zat]
  · obtain⟨i,hi⟩:∃ i,tz x=tz y+i:=⟨tz x-tz y,by omega⟩;rw[Nat.min_eq_right h]
    conv=>lhs;rw[h1,k1,hi,zaJ,zau,Nat.gcd_mul_left,zbX,gO k2,zbX]
    rw[zat]
def GI (G A B:Nat):Prop:=B≠0∧(A≠0→Nat.gcd (od A) (od B)=G)∧(A=0→B=G)
theorem zY5 {G A B:Nat}(h:GI G A B)(hA:A≠0):(od B≤od A→GI G (od A-od B) (od B)∧od A-od B+od B<A+B)∧(od A≤od B→GI G (od B-od A) (od A)∧od B-od A+od A<A+B):=by
  have hg:=h.2.1 hA;obtain⟨a1,a2⟩:=fB hA;obtain⟨b1,b2⟩:=fB h.1;have la:=zV8 A;have lb:=zV8 B;have key:∀ a b:Nat,a%2=1→b%2=1→Nat.gcd a b=G→b≤a→GI G (a-b) b:=fun a b ha hb hab hle=>by
    refine⟨by omega,fun h0=>?_,fun h0=>?_⟩
    · obtain⟨c1,c2⟩:=fB h0;have ob:od b=b:=by unfold od;rw[zO2 hb];simp
      rw[ob,zbX,← gO (k:=tz (a-b)) hb,← c1,zbX];have:=Nat.gcd_sub_self_left (m:=b) (n:=a) (by omega);rw[this];exact hab
    · obtain rfl:a=b:=by omega
      rw[Nat.gcd_self] at hab;exact hab
  exact⟨fun hle=>⟨key _ _ a2 b2 hg hle,by omega⟩,fun hle=>⟨key _ _ b2 a2 (by rw[zbX];exact hg) hle,by omega⟩⟩
theorem cntN_id {n m:Nat}(h:n≤m):cntN ((n:Nat):Int) ((m:Nat):Int)=n:=by unfold cntN;omega
theorem cntN_min {a b:Nat}(h:min a b≤65536):cntN (min ((a:Nat):Int) ((b:Nat):Int)) 65536=min a b:=by unfold cntN;omega
theorem wO {x n:Nat}(h0:x≠0)(h:(limbs x).length≤n):tz x<32*n:=mH h0 (by have:=zV h;rwa [show (4294967296:Nat)=2^32 by decide,← zch] at this)
theorem zK2 {xs:List Nat}(h:∀ x∈xs,x<4294967296)(j:Nat):xs.getD j 0=val xs/2^(32*j)%2^32:=by
  have e:(2:Nat)^(32*j)=4294967296^j:=by rw[zch]
  rw[e,← oB h j];rcases zaf j xs.length with c | c
  · rw[uV c,show (2:Nat)^32=4294967296 by decide,Nat.add_mul_mod_self_left];exact(zao (yC h j)).symm
  · rw[zcN c,yR c];rfl
theorem tb (x i:Nat):x.testBit i=decide (x/2^i%2=1):=Nat.testBit_eq_decide_div_mod_eq
theorem bit_of {xs:List Nat}(h:∀ x∈xs,x<4294967296)(i:Nat):xs.getD (i/32) 0/2^(i%32)%2=val xs/2^i%2:=by
  have hk:i%32<32:=zaH _ (by omega);have e:32*(i/32)+i%32=i:=zbz i 32;have h1:(xs.getD (i/32) 0).testBit (i%32)=(val xs).testBit i:=by
    rw[zK2 h,Nat.testBit_mod_two_pow,Nat.testBit_div_two_pow,Nat.add_comm (i%32),e];simp[hk]
  rw[tb,tb] at h1;have h2:=decide_eq_decide.1 h1;have a1:=zbD (xs.getD (i/32) 0/2^(i%32));have a2:=zbD (val xs/2^i);generalize xs.getD (i/32) 0/2^(i%32)%2=p at *;generalize val xs/2^i%2=q at *;omega
theorem or_bit {zs:List Nat}{i c:Nat}(h:∀ z∈zs,z<4294967296)(hv:val zs=c*2^(i+1)):zs.getD (i/32) 0 ||| 2^(i%32)=zs.getD (i/32) 0+2^(i%32):=by
  have hk:i%32<32:=zaH _ (by omega);have e:32*(i/32)+i%32=i:=zbz i 32;obtain⟨q,hq⟩:∃ q,32=i%32+1+q:=⟨32-(i%32+1),by omega⟩;have h1:zs.getD (i/32) 0=2^(i%32+1)*(c%2^q):=by
    rw[zK2 h,hv];have:c*2^(i+1)=2^(32*(i/32))*(2^(i%32+1)*c):=by
      rw[← zau,← zaJ,show 32*(i/32)+(i%32+1)=i+1 by omega,zat]
    rw[this,Nat.mul_div_cancel_left _ (zbO (by omega))];rw[show (2:Nat)^32=2^(i%32+1)*2^q by rw[← zaJ,← hq],Nat.mul_mod_mul_left]
  rw[h1];have:=Nat.shiftLeft_add_eq_or_of_lt (b:=2^(i%32)) (i:=i%32+1) (zcn (by omega) (by omega)) (c%2^q);rw[Nat.shiftLeft_eq,zat] at this;exact this.symm
theorem set_bit {zs:List Nat}{i:Nat}(hj:i/32<zs.length):val (zs.set (i/32) (zs.getD (i/32) 0+2^(i%32)))=val zs+2^i:=by
  have hv:=aF (zs:=zs) (j:=i/32) (zs.getD (i/32) 0+2^(i%32)) hj;have e:(4294967296:Nat)^(i/32)*2^(i%32)=2^i:=by
    rw[show (4294967296:Nat)=2^32 by decide,← zch,← zaJ,zbz i 32]
  rw[zap,e] at hv;omega
theorem or_lt32 {a k:Nat}(ha:a<4294967296)(hk:k<32):a ||| 2^k<4294967296:=Nat.or_lt_two_pow (n:=32) ha (zcn (by omega) hk)
structure DI (X Y V R t:Nat):Prop where
  eq:X=V*Y+2^t*R+X%2^t
  lt:R<Y
  dv:∃ c,V=c*2^t
theorem wB {X Y V R t i:Nat}(h:DI X Y V R t)(ht:t=i+1)(b:Nat)(hb:X/2^i%2=b):(Y≤2*R+b→DI X Y (V+2^i) (2*R+b-Y) i)∧(2*R+b<Y→DI X Y V (2*R+b) i):=by
  subst ht;obtain⟨c,hc⟩:=h.dv;have hm:X%2^(i+1)=2^i*b+X%2^i:=by
    rw[zax,Nat.mod_mul,hb];omega
  have hE:=h.eq;rw[hm,zax] at hE;have hlt:=h.lt;constructor
  · intro hle;refine⟨?_,by have:=zbD (X/2^i);omega,⟨2*c+1,by rw[hc,zax,zaQ,zbm];congr 1;rw[zat 2 c,zau,zat 2]⟩⟩;obtain⟨d,hd⟩:∃ d,2*R+b=Y+d:=⟨2*R+b-Y,by omega⟩;rw[hd,Nat.add_sub_cancel_left,zaQ];have e1:2^i*(2*R+b)=2^i*Y+2^i*d:=by rw[hd,zap]
    have e2:2^i*2*R=2^i*(2*R):=by rw[zau]
    rw[zap] at e1;rw[e2] at hE;omega
  · intro hl;refine⟨?_,hl,⟨2*c,by rw[hc,zax,zat 2 c,zau,zat 2]⟩⟩;rw[zap];have e2:2^i*2*R=2^i*(2*R):=by rw[zau]
    rw[e2] at hE;omega
theorem di_start {xs:List Nat}{Y f:Nat}(h:∀ x∈xs,x<4294967296)(hf:xs.length-((limbs Y).length)+1≤f∨xs.length<(limbs Y).length)(hY:Y≠0):DI (val xs) Y 0 (val (xs.drop f)) (32*f):=by
  have e:(2:Nat)^(32*f)=4294967296^f:=by rw[zch]
  refine⟨?_,?_,⟨0,by simp⟩⟩
  · rw[oB h f,e,Nat.zero_mul,zba];exact(zbz _ _).symm
  · have h1:=yJ (xs.drop f) (fun x hx=>h x (zbB hx));rw[zaV] at h1;have hl:(limbs Y).length≠0:=fun c=>hY (zP.1 c);have h2:4294967296^((limbs Y).length-1)≤Y:=Classical.byContradiction fun c=>by
      have:=zS (Nat.lt_of_not_le c);omega
    exact zan h1 (zac (zbj (by omega) (by omega)) h2)
theorem di_end {X Y V R:Nat}(h:DI X Y V R 0):V=X/Y∧R=X%Y:=by
  have hE:=h.eq;rw[Nat.pow_zero,zbm,Nat.mod_one,zbM] at hE;have:=(Nat.div_mod_unique (a:=X) (b:=Y) (c:=R) (d:=V) (by have:=h.lt;omega)).2 ⟨by rw[zat];omega,h.lt⟩;exact⟨this.1.symm,this.2.symm⟩
theorem RC.relen {n m:Nat}{q:Rat}{s:Bool}{a d:Value}(h:RC M w n q s a d)(hl:rlen q m):RC M w m q s a d:=⟨h.sgn,h.num,h.den,hl⟩
theorem num_eq {z:Int}{k:Nat}(hk:k≠0):zv (decide (z<0)) (limbs (z.natAbs/Nat.gcd z.natAbs k))=(mkRat z k).num:=by
  have h:=kG (z:=z) hk;rw[← h.1,← h.2.1];exact tN _
theorem sgn_mk {z:Int}{k:Nat}(hk:k≠0):z.sign=sgnR (mkRat z k):=by
  have h:=kG (z:=z) hk;unfold sgnR;have h1:=decide_eq_decide.1 h.1;rcases Int.lt_trichotomy z 0 with c | c | c
  · rw[zcP c,zcP (h1.2 c)]
  · subst c;simp
  · have h2:(mkRat z k).num≠0:=fun e=>by
      rw[Rat.num_eq_zero] at e;rw[Rat.mkRat_eq_zero hk] at e;omega
    rw[zcQ c,zcQ (by omega)]
theorem rT (x y:Int):xT [x,y]=x*y:=by simp[xT]
theorem zQ4 (p q:Rat):mkRat ([xT [p.num,((q.den:Nat):Int)],xT [q.num,((p.den:Nat):Int)]].sum) (p.den*q.den)=p+q:=by
  conv=>rhs;rw[← zbF p,← zbF q]
  rw[Rat.mkRat_add_mkRat _ _ p.den_nz q.den_nz,rT,rT];simp
theorem zP5 (p q:Rat):mkRat (xT [p.num,q.num]) (p.den*q.den)=p*q:=by
  conv=>rhs;rw[← zbF p,← zbF q]
  rw[Rat.mkRat_mul_mkRat,rT]
def sumR (l:List Rat):Rat:=l.foldl (· + ·) 0
def fP (l:List Rat):Rat:=l.foldl (· * ·) 1
theorem rI {l:List Rat}{s:Nat}(h:s<l.length):sumR (l.take (s+1))=sumR (l.take s)+l.getD s 0:=by
  rw[(zT (0:Rat) h).1,sumR,List.foldl_append];rfl
theorem fT {l:List Rat}{s:Nat}(h:s<l.length):fP (l.take (s+1))=fP (l.take s)*l.getD s 0:=by
  rw[(zT (0:Rat) h).1,fP,List.foldl_append];rfl
theorem yL2 (p q:Rat):(xT [p.num,((q.den:Nat):Int)]-xT [q.num,((p.den:Nat):Int)]).sign=cmpR p q:=by rw[rT,rT];exact zZ9 p q
abbrev N4:=Nat×Nat×Nat×Nat
def m4 (k:N4):Nat:=max (max (max k.1 k.2.1) k.2.2.1) k.2.2.2
section
variable {P : Program} {r : Option Nat} {N : Nat} {all : Array Oper} {K : Pd} {D : List Deferred} {E : Env} {w : World} {rest : List Oper}
theorem ops_max4 {d:Nat}{x y z u:Operand}{ts:Array TypeId}{t':TypeId}{pos:String}{af:Array Edge}{k:IntKind}{a b c e:Nat}(hd:Nat.blt d N=true)
    (hx:ev E x=some (.int k (a:Int))) (hy:ev E y=some (.int k (b:Int))) (hz:ev E z=some (.int k (c:Int))) (hu:ev E u=some (.int k (e:Int)))
    (h:Ops P r N all K rest D ((d,.int k ((m4 (a,b,c,e):Nat):Int))::E) w):Ops P r N all K (⟨some d,.call ⟨.builtin .max,#[x,y,z,u],ts⟩,t',pos,af,none⟩::rest) D E w :=
  yB hd (by intro c hc;cases hc) (fun ac ha=>by
    have e1:(Builtin.max_ ts t' #[.int k (a:Int),.int k (b:Int),.int k (c:Int),.int k (e:Int)]).run P w = .ok (.int k ((m4 (a,b,c,e):Nat):Int)) w:=by
      have:(let m1:=if (b:Int) > (a:Int) then(b:Int) else a;let m2:=if (c:Int) > m1 then(c:Int) else m1;if (e:Int) > m2 then(e:Int) else m2)=((m4 (a,b,c,e):Nat):Int):=by
        unfold m4;simp only;split<;>split<;>split<;>omega
      rw[← this];rfl
    simp only[execOp,resolve,invoke,builtin,Sem.run_bind,Sem.run_pure,Result.andThen,zbL,zaG,zbe,ha.ev hx,ha.ev hy,ha.ev hz,ha.ev hu];rw[e1]) h
end
end
end Go.Proofs.YtalkinejknjidaaGreatDoor
namespace Go.Proofs.YtalkinejknjidaaGreatDoor
open Go Go.SL Go.RowKit Tryz
structure plen (p:P2)(n:Nat):Prop where
 x:rlen p.1 n
 y:rlen p.2 n
theorem dM {p q:Rat}{A B:Nat}(h1:rlen p A)(h2:rlen q B):rlen (p-q) (A+B+1):=by
 rw[zcI];exact jB h1 (qW h2)
theorem plen.sub {p q:P2}{A B:Nat}(h1:plen p A)(h2:plen q B):plen (subP p q) (A+B+1):=⟨dM h1.x h2.x,dM h1.y h2.y⟩
theorem plen.add {p q:P2}{A B:Nat}(h1:plen p A)(h2:plen q B):plen (addP p q) (A+B+1):=⟨jB h1.x h2.x,jB h1.y h2.y⟩
theorem plen.scale {p:P2}{q:Rat}{A B:Nat}(h1:plen p A)(h2:rlen q B):plen (qV p q) (A+B):=⟨gF h1.x h2,gF h1.y h2⟩
theorem plen.at_ {p q:P2}{t:Rat}{A B C:Nat}(h1:plen p A)(h2:plen q B)(h3:rlen t C):plen (atP p q t) (A+((B+A+1)+C)+1):=h1.add ((h2.sub h1).scale h3)
theorem fS:rlen 0 1:=by unfold rlen;rw[show (0:Rat).num.natAbs=0 from rfl,show (0:Rat).den=1 from rfl,yG,xQ];exact⟨Nat.zero_le _,Nat.le_refl _⟩
end Go.Proofs.YtalkinejknjidaaGreatDoor
namespace Go.Proofs.YtalkinejknjidaaGreatDoor
open Go.SL Go.RowKit Go.Proofs Tryz
section
variable {M : Nat → Prop} {w : World}
def dyS (lo hi:Rat):Nat:=((List.range (lo.den*hi.den+1)).find? fun s=>decide (dyOk lo hi s)).getD 0
def tI (lo hi:Rat):Rat:=if lo<0 then 0 else zZ1 lo (dyS lo hi)
def xM (lo hi:Rat):Rat:=if lo<hi then(if 0<hi then tI lo hi else -(tI (-hi) (-lo))) else 0
theorem dy_some {lo hi:Rat}(h:lo<hi):dyOk lo hi (lo.den*hi.den):=by
  apply zZ2;have hx:(lo.num*hi.den:Int)<hi.num*lo.den:=(Rat.lt_iff lo hi).1 h;have d1:=lo.den_nz;have d2:=hi.den_nz;have hD:(0:Rat)<((lo.den*hi.den:Nat):Rat):=by
    exact(show ((0:Nat):Rat)=0 from rfl) ▸ zcR.2 (Nat.mul_pos (by omega) (by omega))
  have e:(hi-lo)*((lo.den*hi.den:Nat):Rat)=((hi.num*lo.den-lo.num*hi.den:Int):Rat):=by
    have a1:hi*(hi.den:Rat)=(hi.num:Rat):=aA hi;have a2:lo*(lo.den:Rat)=(lo.num:Rat):=aA lo;rw[Rat.natCast_mul,zbw,zbG,zbG];have b1:((lo.den:Int):Rat)=(lo.den:Rat):=rfl;have b2:((hi.den:Int):Rat)=(hi.den:Rat):=rfl;rw[b1,b2];grind
  have h1:(1:Rat)≤(hi-lo)*((lo.den*hi.den:Nat):Rat):=by
    rw[e];exact(show ((1:Int):Rat)=1 from rfl) ▸ Rat.intCast_le_intCast.2 (by omega)
  have h2:((lo.den*hi.den:Nat):Rat)<p2 (lo.den*hi.den):=zcR.2 Nat.lt_two_pow_self;have hpos:0<hi-lo:=by grind
  have h3:((lo.den*hi.den:Nat):Rat)*(hi-lo)<p2 (lo.den*hi.den)*(hi-lo):=(mul_lt_r hpos).2 h2;grind
theorem zM6 {lo hi:Rat}(h:lo<hi):dyOk lo hi (dyS lo hi)∧∀ r,r<dyS lo hi→¬ dyOk lo hi r:=by
  unfold dyS;cases hf:(List.range (lo.den*hi.den+1)).find? fun s=>decide (dyOk lo hi s) with
  | none =>
    rw[List.find?_eq_none] at hf;have:=hf (lo.den*hi.den) (by simp);simp[dy_some h] at this
  | some s =>
    rw[List.find?_range_eq_some] at hf;obtain⟨h1,_,h3⟩:=hf;simp only[decide_eq_true_eq] at h1;refine⟨h1,fun r hr=>?_⟩;have:=h3 r hr;simpa using this
theorem zV3 (s:Nat):p2 (s+1)=p2 s*2:=by
  unfold p2;rw[Nat.pow_succ,Rat.natCast_mul];rfl
theorem p2_zero:p2 0=1:=rfl
theorem dbl_mk (q:Rat):mkRat (zv (decide (q.num<0)) (limbs (val (limbs q.num.natAbs)*2^1))) (val (limbs q.den))=q*2:=by
  have e:zv (decide (q.num<0)) (limbs (val (limbs q.num.natAbs)*2^1))=q.num*2:=by
    rw[zv,zI,zI];by_cases h:q.num<0
    · rw[if_pos (by simpa using h)];omega
    · rw[if_neg (by simpa using h)];omega
  rw[e,zI];have h1:mkRat (q.num*2) q.den=mkRat q.num q.den*mkRat 2 1:=by rw[Rat.mkRat_mul_mkRat];simp
  rw[h1,zbF];rfl
theorem p2_len {p:Rat}{n s:Nat}(h1:(limbs p.num.natAbs).length≤n)(h2:(limbs p.den).length≤n):(limbs (p*p2 s).num.natAbs).length≤n+(s/32+1)∧(limbs (p*p2 s).den).length≤n:=by
  have e:p*p2 s=mkRat (p.num*(2^s:Nat)) p.den:=by
    have:mkRat (p.num*((2^s:Nat):Int)) p.den=mkRat p.num p.den*mkRat ((2^s:Nat):Int) 1:=by rw[Rat.mkRat_mul_mkRat];simp
    rw[this,zbF,Rat.mkRat_one];rfl
  have hm:=kG (z:=p.num*(2^s:Nat)) p.den_nz;rw[e,hm.2.1,hm.2.2];have hs:2^s<4294967296^(s/32+1):=by
    rw[show 4294967296=2^32 by decide,← zch];exact zcn (by omega) (by omega)
  refine⟨zS (zbr (zbh _ _) ?_),zac (zS (zbr (zbh _ _) (zV h2))) (zab _)⟩;rw[zbH,zbY];exact xU (zV h1) hs
theorem yP2 {q:Rat}{k:Nat}:mkRat (q.num*((2^k:Nat):Int)) q.den=q*p2 k:=by
  have:mkRat (q.num*((2^k:Nat):Int)) q.den=mkRat q.num q.den*mkRat ((2^k:Nat):Int) 1:=by rw[Rat.mkRat_mul_mkRat];simp
  rw[this,zbF,Rat.mkRat_one];rfl
theorem dyS_eq {lo hi:Rat}{s:Nat}(h:lo<hi)(h1:dyOk lo hi s)(h2:∀ r,r<s→¬ dyOk lo hi r):dyS lo hi=s:=by
  obtain⟨k1,k2⟩:=zM6 h;rcases zcy (dyS lo hi) s with c | c | c
  · exact absurd k1 (h2 _ c)
  · exact c
  · exact absurd h1 (k2 _ c)
end
end Go.Proofs.YtalkinejknjidaaGreatDoor
namespace Go.SL
def kQ (lo hi x:Rat):Rat:=if lo<hi then(x-lo)/(hi-lo) else 0
def jJ (l:P2)(t:Rat):Rat:=l.1+t*(l.2-l.1)
def hsL (lo hi x:Rat)(ls:List P2):List Rat:=ls.map fun l=>jJ l (kQ lo hi x)
theorem vS (lo hi x:Rat)(ls:List P2):(hsL lo hi x ls).length=ls.length:=by simp[hsL]
theorem pO {lo hi x:Rat}{ls:List P2}{s:Nat}(h:s<ls.length):(hsL lo hi x ls).getD s 0=jJ (ls.getD s (0,0)) (kQ lo hi x):=by
 unfold hsL;simp[List.getD_eq_getElem?_getD,List.getElem?_eq_getElem h]
def cmpL (a b:P2):Int:=if cmpR (a.1+a.2) (b.1+b.2)≠0 then cmpR (a.1+a.2) (b.1+b.2) else cmpR a.1 b.1
def leL (a b:P2):Prop:=a.1+a.2<b.1+b.2∨a.1+a.2=b.1+b.2∧a.1≤b.1
theorem lE {a b:P2}:cmpL a b<0 ↔ ¬ leL b a:=by
 unfold cmpL leL;have h1:=@cM (a.1+a.2) (b.1+b.2);have h2:=@xC (a.1+a.2) (b.1+b.2);have h3:=@yO a.1 b.1;have h4:=@yO (a.1+a.2) (b.1+b.2);grind
theorem tD {a b:P2}:cmpL a b=0↔a=b:=by
 unfold cmpL;have h2:=@xC (a.1+a.2) (b.1+b.2);have h3:=@xC a.1 b.1;rw[zbd];grind
theorem leL_refl (a:P2):leL a a:=by unfold leL;grind
theorem leL_trans {a b c:P2}(h:leL a b)(k:leL b c):leL a c:=by unfold leL at *; grind
theorem sF (a b:P2):leL a b∨leL b a:=by unfold leL;grind
theorem zK5 {a b:P2}(h:leL a b)(k:leL b a):a=b:=by unfold leL at *; rw[Prod.ext_iff];grind
def belowY (ys:List Rat)(y:Rat):Nat→Int
 | 0=>0
 | s+1=>belowY ys y s+(if ys.getD s 0<y then 1 else 0)
def uP (lo hi:Rat)(e:P2×P2):Prop:=¬ lo<e.1.1∧¬ e.2.1<hi∧e.1.1<e.2.1
instance (lo hi:Rat)(e:P2×P2):Decidable (uP lo hi e):=inferInstanceAs (Decidable (_∧_))
def qG (lo hi:Rat)(e:P2×P2):P2:=(zM e.1 e.2 lo,zM e.1 e.2 hi)
def xP (lo hi:Rat)(es:List (P2×P2)):Nat→List P2
 | 0=>[]
 | s+1=>xP lo hi es s++(if uP lo hi (es.getD s ((0,0),(0,0))) then [qG lo hi (es.getD s ((0,0),(0,0)))] else [])
theorem thru_skip {lo hi:Rat}{es:List (P2×P2)}{s:Nat}(h:¬ uP lo hi (es.getD s ((0,0),(0,0)))):xP lo hi es (s+1)=xP lo hi es s:=by rw[xP,if_neg h,zas]
theorem rG {lo hi:Rat}{es:List (P2×P2)}{s:Nat}(h:uP lo hi (es.getD s ((0,0),(0,0)))):xP lo hi es (s+1)=xP lo hi es s++[qG lo hi (es.getD s ((0,0),(0,0)))]:=by rw[xP,if_pos h]
theorem oE (lo hi:Rat)(es:List (P2×P2)):∀ s,(xP lo hi es s).length≤s
 | 0=>by simp[xP]
 | s+1=>by
  have:=oE lo hi es s;rw[xP,zal];split<;>simp<;>omega
def zU6 (a b:P2):Prop:=a.1≤b.1∧a.2≤b.2∧a≠b
def lQ (ls:List P2):Prop:=∀ i,i+1<ls.length→zU6 (ls.getD i (0,0)) (ls.getD (i+1) (0,0))
noncomputable instance (ls:List P2):Decidable (lQ ls):=Classical.propDecidable _
theorem lF (a:P2):¬ cmpL a a<0:=by rw[lE];exact fun c=>c (leL_refl a)
theorem aR {a b c:P2}(h:cmpL a b<0)(k:cmpL b c<0):cmpL a c<0:=by
 rw[lE] at *;exact fun x=>h (leL_trans (Classical.byContradiction fun y=>by rcases sF b c with z | z;exact y z;exact k z) x)
theorem zU8:∀ {l m:List P2},l.Pairwise (fun a b=>cmpL a b<0)→m.Pairwise (fun a b=>cmpL a b<0)→(∀ x,x∈l↔x∈m)→l=m
 | [],[],_,_,_=>rfl
 | [],b::m,_,_,h=>absurd ((h b).2 (by simp)) (by simp)
 | a::l,[],_,_,h=>absurd ((h a).1 (by simp)) (by simp)
 | a::l,b::m,h1,h2,h=>by
  obtain⟨a1,a2⟩:=zav.1 h1;obtain⟨b1,b2⟩:=zav.1 h2;have e:a=b:=by
   rcases zad.1 ((h a).1 (by simp)) with c | c
   ·exact c
   rcases zad.1 ((h b).2 (by simp)) with d | d
   ·exact d.symm
   exact absurd (aR (a1 b d) (b1 a c)) (lF a)
  subst e;rw[zU8 a2 b2 fun x=>⟨fun hx=>?_,fun hx=>?_⟩]
  ·rcases zad.1 ((h x).1 (zbE _ hx)) with c | c
   ·subst c;exact absurd (a1 x hx) (lF x)
   ·exact c
  ·rcases zad.1 ((h x).2 (zbE _ hx)) with c | c
   ·subst c;exact absurd (b1 x hx) (lF x)
   ·exact c
structure IsLv (lo hi yl yh:Rat)(es:List (P2×P2))(l:List P2):Prop where
 rise:l.Pairwise (fun a b=>cmpL a b<0)
 mem:∀ x,x∈l↔x∈xP lo hi es es.length++[(yl,yl),(yh,yh)]
theorem lv_uniq {lo hi yl yh:Rat}{es:List (P2×P2)}{l m:List P2}(h:IsLv lo hi yl yh es l)(k:IsLv lo hi yl yh es m):l=m:=zU8 h.rise k.rise fun x=>by rw[h.mem,k.mem]
end Go.SL
namespace Go.SL
open Go.RowKit
def Cl (M:Nat→Prop)(w:World)(M':Nat→Prop)(w':World):Prop :=
 ∀ k cur t fz,¬ M k→w.heap[k]? = some (.cells cur t fz)→¬ M' k∧w'.heap[k]? = some (.cells cur t fz)
section
variable {Fz T M M' M'' M0 : Nat → Prop} {n : Nat} {w w' w'' w0 : World}
theorem Le.cl (l:Le Fz M w M' w'):Cl M w M' w':=fun k _ _ _ hm hw=>let h:=l.kept (zaB.1 hw).1 hm;⟨h.1,h.2.trans hw⟩
theorem Cl.less (h:∀ k,M' k→M k):Cl M w M' w:=fun k _ _ _ hm hw=>⟨fun c=>hm (h k c),hw⟩
theorem Cl.bel (h:Bel w.heap.size w w'):Cl M w M w':=(Le.of_below (Fz:=fun _=>False) h).cl
theorem Seg.cl {b off:Nat}{cs:List Value}(h:Seg w b off cs)(l:Cl M w M' w')(hm:¬ M b):¬ M' b∧Seg w' b off cs:=by
 obtain⟨cur,t,fz,h7,h8⟩:=h;have hk:=l b _ _ _ hm h7;exact⟨hk.1,cur,t,fz,hk.2,h8⟩
theorem Slc.cl {sz m:Nat}{v:Value}{cs:List Value}(h:Slc M w sz v m cs)(l:Cl M w M' w'):Slc M' w' sz v m cs:=by
 obtain⟨h1,h2,ad,cap,h3,h4,h5⟩:=h;refine⟨h1,h2,ad,cap,h3,h4,?_⟩;rcases h5 with h5 | ⟨b,off,h5,h6,h7⟩
 ·exact .inl h5
 ·have hk:=h7.cl l h6;exact .inr ⟨b,off,h5,hk.1,hk.2⟩
theorem IsNat.cl {v:Value}{xs:List Nat}(h:IsNat M w v xs)(l:Cl M w M' w'):IsNat M' w' v xs:=⟨h.slc.cl l,h.lt⟩
theorem Tab.cl (h:Tab M w)(l:Cl M w M' w'):Tab M' w':=let k:=h.2.cl l h.1;⟨k.1,k.2⟩
end
structure CT where
 sz:Nat
 p:(Nat→Prop)→World→List Value→Prop
 len:∀ {M w cs},p M w cs→cs.length=sz
 one:∀ {M w cs},p M w cs→∀ u∈cs,u.oneCell'=true
 mono:∀ {M M' w w' cs},p M w cs→Cl M w M' w'→p M' w' cs
def xc (v:Value):CT:=⟨1,fun _ _ cs=>cs=[v]∧v.oneCell'=true,fun h=>by rw[h.1];rfl,fun h u hu=>by rw[h.1] at hu;rw[zak.1 hu];exact h.2,fun h _=>h⟩
def stp:List CT→(Nat→Prop)→World→List Value→Prop
 | [],_,_,cs=>cs=[]
 | c::r,M,w,cs=>∃ a b,cs=a++b∧c.p M w a∧stp r M w b
def szs:List CT→Nat
 | []=>0
 | c::r=>c.sz+szs r
section
variable {M M' : Nat → Prop} {w w' : World}
theorem jN:∀ {l:List CT} {cs:List Value},stp l M w cs→cs.length=szs l
 | [],_,h=>by rw[show _=[] from h];rfl
 | c::r,_,⟨a,b,e,h1,h2⟩=>by rw[e,zal,c.len h1,jN h2];rfl
theorem nB:∀ {l:List CT} {cs:List Value},stp l M w cs→∀ u∈cs,u.oneCell'=true
 | [],_,h,u,hu=>by rw[show _=[] from h] at hu;cases hu
 | c::r,_,⟨a,b,e,h1,h2⟩,u,hu=>by rw[e] at hu;exact(zae.1 hu).elim (c.one h1 u) (nB h2 u)
theorem yX:∀ {l:List CT} {cs:List Value},stp l M w cs→Cl M w M' w'→stp l M' w' cs
 | [],_,h,_=>h
 | c::r,_,⟨a,b,e,h1,h2⟩,k=>⟨a,b,e,c.mono h1 k,yX h2 k⟩
theorem uM:∀ {l m:List CT} {a b:List Value},stp l M w a→stp m M w b→stp (l++m) M w (a++b)
 | [],_,_,_,h,k=>by rw[show _=[] from h];exact k
 | c::r,_,_,_,⟨a,b,e,h1,h2⟩,k=>⟨a,b++_,by rw[e,zaA],h1,uM h2 k⟩
theorem jS:∀ {l m:List CT} {cs:List Value},stp (l++m) M w cs→∃ a b,cs=a++b∧stp l M w a∧stp m M w b
 | [],_,cs,h=>⟨[],cs,rfl,rfl,h⟩
 | c::r,_,_,⟨a,b,e,h1,h2⟩=>let ⟨x,y,e2,h3,h4⟩:=jS h2;⟨a++x,y,by rw[e,e2,zaA],⟨a,x,rfl,h1,h3⟩,h4⟩
theorem fR:∀ {l:List CT} {cs:List Value} {i:Nat} {c:CT},stp l M w cs→l[i]? = some c→c.p M w ((cs.drop (szs (l.take i))).take c.sz)
 | [],_,_,_,_,h=>by simp at h
 | d::r,_,0,c,⟨a,b,e,h1,h2⟩,h=>by
  simp at h;subst h;show d.p M w (_);rw[show szs ((d::r).take 0)=0 from rfl,e,List.drop_zero,← d.len h1,zcB];exact h1
 | d::r,_,i+1,c,⟨a,b,e,h1,h2⟩,h=>by
  have:=fR h2 (by simpa using h);rw[show szs ((d::r).take (i+1))=d.sz+szs (r.take i) from rfl,e,← d.len h1,← zbW,zbI];exact this
theorem tW:∀ {l:List CT} {cs us:List Value} {i:Nat} {c d:CT},stp l M w cs→l[i]? = some c→d.p M w us→d.sz=c.sz→stp (l.set i d) M w (cs.take (szs (l.take i))++us++cs.drop (szs (l.take i)+c.sz))
 | [],_,_,_,_,_,_,h,_,_=>by simp at h
 | e::r,_,us,0,c,d,⟨a,b,e1,h1,h2⟩,h,hd,hs=>by
  simp at h;subst h;refine⟨us,b,?_,hd,h2⟩;rw[show szs ((e::r).take 0)=0 from rfl,e1,zba,← e.len h1,zbI];simp
 | e::r,_,us,i+1,c,d,⟨a,b,e1,h1,h2⟩,h,hd,hs=>by
  refine⟨a,_,?_,h1,tW h2 (by simpa using h) hd hs⟩;rw[show szs ((e::r).take (i+1))=e.sz+szs (r.take i) from rfl,e1,← e.len h1,List.take_length_add_append,zaO,← zbW,zbI];simp[zaA]
end
def st (l:List CT):CT:=⟨szs l,stp l,jN,nB,yX⟩
def uB (k:Nat)(l:List CT):Prop:=∀ c∈l,c.sz=k
theorem eN {k:Nat}:∀ {l:List CT},uB k l→szs l=l.length*k
 | [],_=>by simp[szs]
 | c::r,h=>by rw[szs,h c (by simp),eN (l:=r) fun d hd=>h d (by simp[hd]),zaw,zco];omega
theorem uQ {k i:Nat}{l:List CT}(h:uB k l)(hi:i≤l.length):szs (l.take i)=i*k:=by
 rw[eN (k:=k) fun d hd=>h d (zbc hd),zaE,zaS hi]
def sl (k:Nat)(l:List CT):CT where
 sz:=1
 p M w cs:=∃ v us,cs=[v]∧Slc M w k v l.length us∧stp l M w us∧uB k l
 len h:=by obtain⟨v,us,e,_⟩:=h;rw[e];rfl
 one h u hu:=by obtain⟨v,us,e,⟨_,_,ad,cap,rfl,_⟩,_⟩:=h;rw[e] at hu;rw[zak.1 hu];rfl
 mono h k:=by obtain⟨v,us,e,h1,h2,h3⟩:=h;exact⟨v,us,e,h1.cl k,yX h2 k,h3⟩
structure PV where
 p:(Nat→Prop)→World→Value→Prop
 mono:∀ {M M' w w' v},p M w v→Cl M w M' w'→p M' w' v
def exP (v:Value):PV:=⟨fun _ _ u=>u=v,fun h _=>h⟩
def sv (c:CT):PV:=⟨fun M w v=>c.p M w [v],fun h k=>c.mono h k⟩
def ag (c:CT):PV:=⟨fun M w v=>∃ us:List Value,v = .agg us.toArray∧c.p M w us,fun h k=>let ⟨us,e,h⟩:=h;⟨us,e,c.mono h k⟩⟩
def pa (c:CT):PV:=⟨fun M w v=>∃ b o us,v = .pointer (some ⟨b,o,none⟩)∧¬ M b∧Seg w b o us∧c.p M w us,
 fun⟨b,o,us,e,h1,h2,h3⟩ k=>let h:=h2.cl k h1;⟨b,o,us,e,h.1,h.2,c.mono h3 k⟩⟩
def Fa:List PV→(Nat→Prop)→World→List Value→Prop
 | [],_,_,vs=>vs=[]
 | τ::τs,M,w,vs=>∃ v us,vs=v::us∧τ.p M w v∧Fa τs M w us
theorem Fa.mono {M M':Nat→Prop}{w w':World}:∀ {τs:List PV} {vs:List Value},Fa τs M w vs→Cl M w M' w'→Fa τs M' w' vs
 | [],_,h,_=>h
 | τ::τs,_,⟨v,us,e,h1,h2⟩,k=>⟨v,us,e,τ.mono h1 k,Fa.mono h2 k⟩
theorem Fa.len {M:Nat→Prop}{w:World}:∀ {τs:List PV} {vs:List Value},Fa τs M w vs→vs.length=τs.length
 | [],_,h=>by rw[show _=[] from h];rfl
 | τ::τs,_,⟨v,us,e,h1,h2⟩=>by rw[e];simp[Fa.len h2]
def tu (l:List PV):PV:=⟨fun M w v=>∃ vs:List Value,v = .tuple vs.toArray∧Fa l M w vs,fun h k=>let ⟨us,e,h⟩:=h;⟨us,e,h.mono k⟩⟩
def PSub (Ψ Φ:PV):Prop:=∀ M w v,Ψ.p M w v→Φ.p M w v
theorem PSub.refl (Ψ:PV):PSub Ψ Ψ:=fun _ _ _ h=>h
abbrev TE:=List (Nat×Prop×PV)
def tf:TE→Nat→Option (Prop×PV)
 | [],_=>none
 | (k,q)::Γ,i=>bif Nat.beq k i then some q else tf Γ i
def tv (Γ:TE):Operand→Option (Prop×PV)
 | .tmp t=>tf Γ t
 | .const v=>some (True,exP v)
 | .global g=>some (True,exP (.pointer (some ⟨g,0,none⟩)))
 | .func f=>some (True,exP (.func (.func f) #[] #[]))
def Tok (q:Prop×PV)(M:Nat→Prop)(E:Env)(w:World)(s:Nat):Prop:=(q.1→∃ v,get E s=some v∧q.2.p M w v)∧(¬ q.1→get E s=some undef)
def Tm (Γ:TE)(ss:List Nat)(M:Nat→Prop)(E:Env)(w:World):Prop:=∀ s∈ss,∀ q,tf Γ s=some q→Tok q M E w s
def TM (Γ:TE)(M:Nat→Prop)(E:Env)(w:World):Prop:=∀ s q,tf Γ s=some q→Tok q M E w s
section
variable {M M' : Nat → Prop} {w w' : World} {E : Env} {Γ : TE}
theorem Tok.mono {q:Prop×PV}{s:Nat}(h:Tok q M E w s)(k:Cl M w M' w'):Tok q M' E w' s:=⟨fun c=>let ⟨v,h1,h2⟩:=h.1 c;⟨v,h1,q.2.mono h2 k⟩,h.2⟩
theorem TM.mono (h:TM Γ M E w)(k:Cl M w M' w'):TM Γ M' E w':=fun s q hs=>(h s q hs).mono k
theorem TM.tm (h:TM Γ M E w)(ss:List Nat):Tm Γ ss M E w:=fun s _ q hs=>h s q hs
theorem TM.put {d:Nat}{v:Value}{q:Prop×PV}(h:TM Γ M E w)(hv:q.1→q.2.p M w v)(hu:¬ q.1→v=undef):TM ((d,q)::Γ) M ((d,v)::E) w:=fun s r hs=>by
 unfold tf at hs;cases hb:Nat.beq d s with
 | true =>
  rw[hb] at hs;obtain rfl:=Option.some.inj hs;exact⟨fun c=>⟨v,xO hb,hv c⟩,fun c=>by rw[xO hb,hu c]⟩
 | false =>
  rw[hb] at hs;have:=h s r hs;exact⟨fun c=>by rw[kV hb];exact this.1 c,fun c=>by rw[kV hb];exact this.2 c⟩
theorem oD {ss:List Nat}{x:Operand}{q:Prop}{Ψ:PV}(h:Tm Γ ss M E w)(hx:tv Γ x=some (q,Ψ))(hs:∀ t,x = .tmp t→t∈ss)(hq:q):∃ v,ev E x=some v∧Ψ.p M w v:=by
 cases x with
 | tmp t=>exact(h t (hs t rfl) _ hx).1 hq
 | const u=>obtain⟨rfl,rfl⟩:=Prod.mk.inj (Option.some.inj hx);exact⟨u,rfl,rfl⟩
 | global g=>obtain⟨rfl,rfl⟩:=Prod.mk.inj (Option.some.inj hx);exact⟨_,rfl,rfl⟩
 | func f=>obtain⟨rfl,rfl⟩:=Prod.mk.inj (Option.some.inj hx);exact⟨_,rfl,rfl⟩
end
class Im (p q:Prop):Prop where h:p→q
instance {p:Prop}:Im p True:=⟨fun _=>trivial⟩
instance {p:Prop}:Im p p:=⟨id⟩
inductive Ow where
 | blk (b:Nat) (ty:TypeId) (cs:List CT)
 | row (v:Value) (ty:TypeId) (k:Nat) (l:List CT)
def Ow.bk:Ow→Option Nat
 | .blk b _ _=>some b
 | .row v _ _ _=>v.ownBlock
def Ow.ok (M:Nat→Prop)(w:World):Ow→Prop
 | .blk b ty cs=>∃ us,Blk w b ty us∧stp cs M w us
 | .row v ty k l=>∃ us,w.ownsRow 0 ty k v l.length us∧stp l M w us∧uB k l
def Mk (S:List Ow)(M0:Nat→Prop):Nat→Prop:=fun k=>(∃ o∈S,o.bk=some k)∨M0 k
structure Gd (M:Nat→Prop)(S:List Ow)(w:World):Prop where
 ok:OkM M w
 tab:Tab M w
 own:∀ o∈S,o.ok M w
theorem Ow.ok_mono {M M':Nat→Prop}{w w':World}{o:Ow}(h:o.ok M w)(k:Cl M w M' w')(hb:∀ b,o.bk=some b→b<w.heap.size→w'.heap[b]? = w.heap[b]?):o.ok M' w':=by
 cases o with
 | blk b ty cs=>obtain⟨us,h1,h2⟩:=h;exact⟨us,(hb b rfl h1.lt).trans h1,yX h2 k⟩
 | row v ty sz l =>
  obtain⟨us,h1,h2,h3⟩:=h;refine⟨us,?_,yX h2 k,h3⟩;obtain⟨g1,g2 | ⟨g,cap,cur,rfl,g4,g5,g6⟩⟩:=h1
  ·exact⟨g1,.inl g2⟩
  ·exact⟨g1,.inr ⟨g,cap,cur,rfl,g4,(hb g rfl (zaB.1 g5).1).trans g5,g6⟩⟩
theorem Gd.bel {M:Nat→Prop}{S:List Ow}{w w':World}(h:Gd M S w)(hb:Bel w.heap.size w w'):Gd M S w' :=
 ⟨fun k hk=>zan (h.ok k hk) hb.size,h.tab.cl (Cl.bel hb),fun o ho=>Ow.ok_mono (h.own o ho) (Cl.bel hb) fun b _ hlt=>hb.block b hlt⟩
def Apt:List Ow→Prop
 | []=>True
 | o::S=>(∀ b,o.bk=some b→∀ p∈S,p.bk≠some b)∧Apt S
structure Cx where
 M:Nat→Prop
 w:World
 z:Nat→Prop
 n:Nat:=0
 ms:List Deferred:=[]
 lp:Option Nat:=none
structure BZ (X:Cx)(w':World):Prop where
 os:w'.os=X.w.os
 tape:Tp X.w w'
 output:w'.output=X.w.output
 size:X.w.heap.size≤w'.heap.size
 block:∀ k,k<X.w.heap.size→¬ X.z k→w'.heap[k]? = X.w.heap[k]?
theorem BZ.bel {X:Cx}{w w':World}(h:BZ X w)(k:Rb w w'):BZ X w' :=
 ⟨k.os.trans h.os,k.tape.trans h.tape,k.output.trans h.output,zac h.size k.size,fun i hi hz=>(k.block i (zan hi h.size)).trans (h.block i hi hz)⟩
structure MkO (X:Cx)(w:World):Prop where
 m:Marks (fun _=>False) X.n X.ms w
 n:X.n≤X.w.heap.size
 o:∀ l,X.lp=some l→∃ ρ,w.heap[l]? = some (.loop ρ)
def NC (w w':World):Prop:=∀(b:Nat) (o:Obj),w.heap[b]? = some o→(∀ cs t fz,o ≠ .cells cs t fz)→w'.heap[b]? = some o
theorem MkO.nc {X:Cx}{w w':World}(h:MkO X w)(k:NC w w'):MkO X w' :=
 ⟨⟨fun d hd=>let ⟨b,h1,h2,h3⟩:=h.m.at_ d hd;⟨b,h1,h2,k b _ h3.at_ (by simp),h3.not⟩,h.m.apart⟩,h.n,fun l e=>let ⟨ρ,h1⟩:=h.o l e;⟨ρ,k l _ h1 (by simp)⟩⟩
theorem NC.rb {w w':World}(k:Rb w w'):NC w w':=fun b o h _=>(k.block b (zaB.1 h).1).trans h
theorem NC.but {w w':World}{z:Nat→Prop}(k:∀ b,b<w.heap.size→¬ z b→w'.heap[b]? = w.heap[b]?)(hz:∀ b,z b→∃ cs t fz,w.heap[b]? = some (.cells cs t fz)):NC w w':=fun b o h hc =>
 (k b (zaB.1 h).1 fun c=>let ⟨cs,t,fz,e⟩:=hz b c;hc cs t fz (Option.some.inj (h.symm.trans e))).trans h
abbrev cx (M:Nat→Prop)(w:World)(z:Nat→Prop):Cx:=⟨M,w,z,w.heap.size,[],none⟩
class Eqx (X X':Cx):Prop where
 h:∃ ms,X'={ X with ms:=ms }
instance {X:Cx}:Eqx X X:=⟨X.ms,rfl⟩
theorem Eqx.trans {X Y Z:Cx}(h:Eqx X Y)(k:Eqx Y Z):Eqx X Z:=by
 obtain⟨a,rfl⟩:=h.h;obtain⟨b,rfl⟩:=k.h;exact⟨b,rfl⟩
inductive Exj {σ:Sort _}(X X':Cx)(p:σ→Prop):Prop where
 | mk [Eqx X X'] (s:σ) (h:p s):Exj X X' p
theorem Exj.eqx {σ:Sort _}{X X':Cx}{p:σ→Prop}:Exj X X' p→Eqx X X' | @Exj.mk _ _ _ _ h _ _=>h
theorem Exj.ex {σ:Sort _}{X X':Cx}{p:σ→Prop}:Exj X X' p→∃ s,p s | @Exj.mk _ _ _ _ _ s h=>⟨s,h⟩
structure St (X:Cx)(Γ:TE)(S:List Ow)(E:Env)(w:World):Prop where
 bel:BZ X w
 gd:Gd (Mk S X.M) S w
 new:∀ o∈S,∀ b,o.bk=some b→X.w.heap.size≤b∨X.z b
 apt:Apt S
 ok0:OkM X.M X.w
 zm:∀ b,X.z b→¬ X.M b
 mko:MkO X w
 tm:TM Γ (Mk S X.M) E w
abbrev TK:=Cx→TE→List Ow→Prop
def lf (K:TK)(D:List Deferred):Pd:=fun D' E w=>∃ X Γ S,D'=X.ms++D∧K X Γ S∧St X Γ S E w
def okN (N:Nat)(l:List Oper):Bool:=l.all fun o=>match o.dst with | some d=>Nat.blt d N | none=>true
section
variable {X : Cx} {w w' : World} {Γ : TE} {S : List Ow} {E : Env}
theorem St.pure (h:St X Γ S E w)(hb:Rb w w'):St X Γ S E w' :=
 ⟨h.bel.bel hb,h.gd.bel hb,h.new,h.apt,h.ok0,h.zm,h.mko.nc (.rb hb),h.tm.mono (Cl.bel hb)⟩
theorem St.put (h:St X Γ S E w)(hb:Rb w w'){d:Nat}{q:Prop×PV}{v:Value}(hv:q.1→q.2.p (Mk S X.M) w' v)(hu:¬ q.1→v=undef):St X ((d,q)::Γ) S ((d,v)::E) w' :=
 let k:=h.pure hb;⟨k.bel,k.gd,k.new,k.apt,k.ok0,k.zm,k.mko,k.tm.put hv hu⟩
end
theorem jQ {M:Nat→Prop}{w:World}:∀ {o:Ow},o.ok M w→∀ b,o.bk=some b→∃ cs t fz,w.heap[b]? = some (.cells cs t fz)
 | .blk b ty cs,⟨us,h,_⟩,b',e=>by obtain rfl:=Option.some.inj e;exact⟨_,_,_,h⟩
 | .row v ty k l,⟨us,⟨_,h⟩,_⟩,b',e=>by
  rcases h with⟨rfl,_⟩ | ⟨g,cap,cur,rfl,_,h,_⟩
  ·cases e
  ·obtain rfl:=Option.some.inj e;exact⟨_,_,_,h⟩
theorem gK {M:Nat→Prop}{n:Nat}{w w':World}(h:Drift NoT n w w'):Cl M w M w':=fun k cur t fz hk hw=>⟨hk,h.cells k cur t fz (fun c=>c) hw⟩
theorem St.leave {X:Cx}{Γ:TE}{S:List Ow}{E:Env}{n:Nat}{w w':World}(h:St X Γ S E w)(hd:Drift NoT n w w')(hn:X.w.heap.size≤n){ms:List Deferred}(hm:MkO { X with ms:=ms } w'):St { X with ms:=ms } Γ S E w':=by
 refine⟨⟨hd.os.trans h.bel.os,hd.tape.trans h.bel.tape,hd.output.trans h.bel.output,zac h.bel.size hd.size,fun k hk hz=>(hd.low k (zan hk hn) (fun c=>c)).trans (h.bel.block k hk hz)⟩,⟨fun k hk=>zan (h.gd.ok k hk) hd.size,h.gd.tab.cl (gK hd),fun o ho=>?_⟩,h.new,h.apt,h.ok0,h.zm,hm,h.tm.mono (gK hd)⟩;refine Ow.ok_mono (h.gd.own o ho) (gK hd) fun b hb hlt=>?_;obtain⟨cs,t,fz,e⟩:=jQ (h.gd.own o ho) b hb;exact(hd.cells b cs t fz (fun c=>c) e).trans e.symm
theorem St.end_ {X:Cx}{Γ:TE}{S:List Ow}{E:Env}{w w':World}(h:St X Γ S E w)(hd:Drift NoT X.n w w')(hn:X.n=X.w.heap.size)(hl:X.lp=none):St { X with ms:=[] } Γ S E w' :=
 h.leave hd (zcp hn.symm) ⟨uH,zcp hn,fun l e=>by rw[show X.lp=some l from e] at hl;cases hl⟩
section
variable (P : Program) (r : Option Nat) (N : Nat)
def TW (X:Cx)(c:Code)(Kn:TK)(Ke:Nat→TK)(Kr:TK):TE→List Ow→Prop:=fun Γ S =>
 ∀ D E w,St X Γ S E w→Wp P r N c (lf Kn D) (fun i=>lf (Ke i) D) (lf Kr D) (X.ms++D) E w
def TO (ops:Array Oper)(X:Cx)(K:TK)(l:List Oper):TE→List Ow→Prop:=fun Γ S =>
 okN N l=true→∀ D E w,St X Γ S E w→Ops P r N ops (lf K D) l (X.ms++D) E w
def Ob (ops:Array Oper)(M:Nat→Prop)(S:List Ow)(p:Prop)(o:Oper)(Γ:TE)(Ψ:PV):Prop :=
 ∀(D:List Deferred) (E:Env) (w:World) (d:Nat),o.dst=some d→Nat.blt d N=true→Gd M S w→p→Tm Γ (yE ops o) M E w →
  Ops P r N ops (fun D' E' w'=>D'=D∧Rb w w'∧∃ v,get E' d=some v∧Ψ.p M w' v) [o] D E w
def O2 (ops:Array Oper)(M:Nat→Prop)(S:List Ow)(o:Oper)(Γ:TE)(q:Prop×PV):Prop :=
 ∀(D:List Deferred) (E:Env) (w:World) (d:Nat),o.dst=some d→Nat.blt d N=true→Gd M S w→Tm Γ (yE ops o) M E w →
  Ops P r N ops (fun D' E' w'=>D'=D∧Rb w w'∧∃ v,get E' d=some v∧(q.1→q.2.p M w' v)∧(¬ q.1→v=undef)) [o] D E w
def TD (ops:Array Oper)(S:List Ow)(F:TE→Prop):List Oper→TE→Prop
 | [],Γ=>F Γ
 | o::l,Γ=>∃ d q,o.dst=some d∧(∀ M,O2 P r N ops M S o Γ q)∧TD ops S F l ((d,q)::Γ)
end
def updT (Ke:Nat→TK)(id:Nat)(K:TK):Nat→TK:=fun i=>bif Nat.beq i id then K else Ke i
class Tr (q:Prop):Prop where h:q
instance:Tr True:=⟨trivial⟩
instance {p q:Prop}[hp:Tr p][hq:Tr q]:Tr (p∧q):=⟨⟨hp.h,hq.h⟩⟩
instance {p q:Prop}[hp:Tr q]:Im p q:=⟨fun _=>hp.h⟩
instance {p a b:Prop}[ha:Im p a][hb:Im p b]:Im p (a∧b):=⟨fun h=>⟨ha.h h,hb.h h⟩⟩
instance {a b c:Prop}[h:Im a c]:Im (a∧b) c:=⟨fun k=>h.h k.1⟩
instance {a b:Prop}:Im (a∧b) b:=⟨fun k=>k.2⟩
class VB (Ψ:PV)(b:outParam Bool):Prop where h:∀ {M w v},Ψ.p M w v→v = .bool b
instance {b:Bool}:VB (exP (.bool b)) b:=⟨id⟩
class VI (Ψ:PV)(k:outParam IntKind)(a:outParam Int):Prop where h:∀ {M w v},Ψ.p M w v→v = .int k a
instance {k:IntKind}{a:Int}:VI (exP (.int k a)) k a:=⟨id⟩
def Ts (X:Cx)(Γ:TE)(S:List Ow)(Γ':TE)(S':List Ow):Prop:=∀ E w,St X Γ S E w→St X Γ' S' E w
theorem yL {Γ:TE}{M:Nat→Prop}{E:Env}{w:World}{ops:Array Oper}{o:Oper}{x:Operand}{p q:Prop}{Ψ:PV}(h:Tm Γ (yE ops o) M E w)(hx:tv Γ x=some (q,Ψ))[hi:Im p q](hp:p)(hm:x∈o.op.operands.toList):∃ v,ev E x=some v∧Ψ.p M w v :=
 oD h hx (fun t e=>by
  subst e;unfold yE;exact zbJ _ (List.mem_filterMap.2 ⟨_,hm,rfl⟩)) (hi.h hp)
section rules
variable {P : Program} {r : Option Nat} {N : Nat} {X : Cx} {Kn Kr : TK} {Ke : Nat → TK} {Γ : TE} {S : List Ow} {ops : Array Oper}
theorem wp_kn {c:Code}{K K' Kr:Pd}{Ke Ke':Nat→Pd}{D:List Deferred}{E:Env}{w:World}(h:Wp P r N c K Ke Kr D E w)(hk:∀ D E w,K D E w→K' D E w)(he:∀ i D E w,Ke i D E w→Ke' i D E w):Wp P r N c K' Ke' Kr D E w:=by
 intro a ha hd;refine wpIn_mono (h a ha hd) fun e a' w' hq=>?_;cases e with
 | normal=>obtain⟨E',h1,h2⟩:=hq;exact⟨E',h1,hk _ _ _ h2⟩
 | exit id=>obtain⟨E',h1,h2⟩:=hq;exact⟨E',h1,he _ _ _ _ h2⟩
 | ret=>exact hq
 | goto l=>exact hq
 | panic c=>exact hq
 | outgrown=>exact hq
theorem zR {x y:Code}(h:TW P r N X x (fun X=>TW P r N X y Kn Ke Kr) Ke Kr Γ S):TW P r N X (.seq x y) Kn Ke Kr Γ S:=fun D E w hs =>
 nU (tQ (h D E w hs) fun D' E' w' ⟨X',Γ',S',h1,h2,h3⟩=>by subst h1;exact h2 D E' w' h3)
theorem qT (h:Kn X Γ S):TW P r N X .skip Kn Ke Kr Γ S:=fun D E w hs=>zQ9 ⟨_,_,_,rfl,h,hs⟩
theorem xJ (h:Kr X Γ S):TW P r N X .ret Kn Ke Kr Γ S:=fun D E w hs=>yB6 ⟨_,_,_,rfl,h,hs⟩
theorem zO5 {id:Nat}(h:Ke id X Γ S):TW P r N X (.exit id) Kn Ke Kr Γ S:=fun D E w hs=>SL.wp_exit ⟨_,_,_,rfl,h,hs⟩
theorem iG {id:Nat}{c:Code}(h:TW P r N X c Kn (updT Ke id Kn) Kr Γ S):TW P r N X (.block id c) Kn Ke Kr Γ S:=fun D E w hs =>
 SL.wp_block (wp_kn (h D E w hs) (fun _ _ _ h=>h) fun i D' E' w' h=>by
  unfold upd;cases hb:Nat.beq i id with
  | true=>obtain rfl:=Nat.eq_of_beq_eq_true hb;rw[if_pos rfl];simpa [updT] using h
  | false=>rw[if_neg (Nat.ne_of_beq_eq_false hb)];simpa [updT,hb] using h)
theorem zS6 {c:Code}(h:TW P r N X c Kn Ke Kr Γ S):TW P r N X (.scope c) Kn Ke Kr Γ S:=fun D E w hs=>wp_scope (h D E w hs)
theorem zS7 {l:Nat}(h:Kn X Γ S):TW P r N X (.label l) Kn Ke Kr Γ S:=fun D E w hs=>wp_label ⟨_,_,_,rfl,h,hs⟩
theorem t_ts {c:Code}{Γ':TE}{S':List Ow}(hs:Ts X Γ S Γ' S')(h:TW P r N X c Kn Ke Kr Γ' S'):TW P r N X c Kn Ke Kr Γ S:=fun D E w h1=>h D E w (hs E w h1)
theorem zO {l:List Oper}{K:TK}{Γ':TE}{S':List Ow}(hs:Ts X Γ S Γ' S')(h:TO P r N ops X K l Γ' S'):TO P r N ops X K l Γ S:=fun hN D E w h1=>h hN D E w (hs E w h1)
theorem gR {E:Env}{w:World}{x:Operand}{q:Prop}{Ψ:PV}(hs:St X Γ S E w)(hx:tv Γ x=some (q,Ψ))[hq:Tr q]:∃ v,ev E x=some v∧Ψ.p (Mk S X.M) w v:=by
 cases x with
 | tmp t=>exact(hs.tm t _ hx).1 hq.h
 | const u=>obtain⟨rfl,rfl⟩:=Prod.mk.inj (Option.some.inj hx);exact⟨u,rfl,rfl⟩
 | global g=>obtain⟨rfl,rfl⟩:=Prod.mk.inj (Option.some.inj hx);exact⟨_,rfl,rfl⟩
 | func f=>obtain⟨rfl,rfl⟩:=Prod.mk.inj (Option.some.inj hx);exact⟨_,rfl,rfl⟩
theorem t_if {c:Operand}{x y:Code}{q:Prop}{Ψ:PV}{b:Bool}(hx:tv Γ c=some (q,Ψ))[Tr q][hb:VB Ψ b](ht:Tr (b=true)→TW P r N X x Kn Ke Kr Γ S)(hf:Tr (b=false)→TW P r N X y Kn Ke Kr Γ S) :
  TW P r N X (.cond c x y) Kn Ke Kr Γ S:=fun D E w hs=>by
 obtain⟨v,h1,h2⟩:=gR hs hx;obtain rfl:=hb.h h2;exact zR0 h1 (fun e=>ht ⟨e⟩ D E w hs) (fun e=>hf ⟨e⟩ D E w hs)
theorem zZ {id:Nat}{l:List Oper}(hN:okN N l=true)(h:TO P r N l.toArray X Kn l Γ S):TW P r N X (.region id l.toArray false) Kn Ke Kr Γ S:=fun D E w hs=>eJ (h hN D E w hs)
theorem wJ {σ:Type}{body:Code}{Kn Kr:Pd}{Ke:Nat→Pd}{D:List Deferred}{E:Env}{w:World}(I:σ→Pd)(μ:σ→Nat)(s0:σ)(hI:I s0 D E w)
  (round:∀ s D E w,I s D E w→Wp P r N body (fun D' E' w'=>∃ s',I s' D' E' w'∧μ s'<μ s) Ke Kr D E w):Wp P r N (.loop body) Kn Ke Kr D E w:=by
 intro a ha hd;have least:∀(p:Nat→Prop),(∃ j,p j)→∃ j,p j∧∀ k,p k→j≤k:=by
  rintro p ⟨j,hj⟩
  induction j using Nat.strongRecOn with
  | _ j ih =>
   by_cases hm:∃ k,k<j∧p k
   ·obtain⟨k,hk,hs⟩:=hm;exact ih k hk hs
   ·refine⟨j,hj,fun k hk=>?_⟩;rcases zaf k j with h | h
    ·exact absurd ⟨k,h,hk⟩ hm
    ·exact h
 refine wpIn_loop (fun a' w'=>∃ j s E,μ s=j∧Has a' N E∧I s a'.defers E w') (fun a' w'=>Classical.epsilon fun j=>(∃ s E,μ s=j∧Has a' N E∧I s a'.defers E w')∧∀ k,(∃ s E,μ s=k∧Has a' N E∧I s a'.defers E w')→j≤k) ⟨_,s0,E,rfl,ha,by rw[hd];exact hI⟩ ?_;intro a1 w1 hI1;obtain⟨⟨s,E1,hs,hE1,hJ1⟩,hmin⟩:=zcT (least _ hI1);refine wpIn_mono (round s _ E1 w1 hJ1 a1 hE1 rfl) ?_;intro e a2 w2 hq;cases e with
 | normal =>
  obtain⟨E',hE',s',hJ',hlt⟩:=hq;have h2:∃ s E,μ s=μ s'∧Has a2 N E∧I s a2.defers E w2:=⟨s',E',rfl,hE',hJ'⟩;refine⟨⟨_,h2⟩,?_⟩;have hsp2:=zcT (least (fun j=>∃ s E,μ s=j∧Has a2 N E∧I s a2.defers E w2) ⟨_,h2⟩);exact zbr (hsp2.2 _ h2) (by rw[← hs];exact hlt)
 | exit id=>exact hq
 | ret=>exact hq
 | goto l=>exact hq
 | panic c=>exact hq
 | outgrown=>exact hq
theorem yD1 {σ:Type}{body:Code}(Γi:σ→TE)(Si:σ→List Ow)(J:σ→Prop)(μ:σ→Nat)(s0:σ)(h0:Ts X Γ S (Γi s0) (Si s0))(hJ:J s0)
  (round:∀ s,J s→∀ Y,(∀ {Z:Cx} [Eqx Z X],Eqx Z Y)→TW P r N Y body (fun Z Γ' S'=>Exj X Z fun s'=>Ts Z Γ' S' (Γi s') (Si s')∧J s'∧μ s'<μ s) Ke Kr (Γi s) (Si s)):TW P r N X (.loop body) Kn Ke Kr Γ S:=fun D E w hs=>by
 refine wJ (fun s D' E' w'=>∃ Y,Eqx X Y∧D'=Y.ms++D∧J s∧St Y (Γi s) (Si s) E' w') μ s0 ⟨X,inferInstance,rfl,hJ,h0 E w hs⟩ fun s D' E' w' ⟨Y,hY,hD,h1,h2⟩=>?_;subst hD;exact tQ (round s h1 Y (fun {Z} k=>k.trans hY) D E' w' h2) fun D2 E2 w2 ⟨Z,Γ2,S2,e,(@Exj.mk _ _ _ _ hz s' ⟨k1,k2,k3⟩),k4⟩=>⟨s',⟨Z,hz,e,k2,k1 _ _ k4⟩,k3⟩
theorem yD2 {σ:Type}{c:Code}(Γj:σ→TE)(Sj:σ→List Ow)(J:σ→Prop)(h:TW P r N X c (fun Y Γ' S'=>Exj X Y fun s=>Ts Y Γ' S' (Γj s) (Sj s)∧J s) Ke Kr Γ S)(hk:∀ s,J s→∀ Y,(∀ {Z:Cx} [Eqx Z X],Eqx Z Y)→Kn Y (Γj s) (Sj s)):TW P r N X c Kn Ke Kr Γ S:=fun D E w hs =>
 tQ (h D E w hs) fun D' E' w' ⟨Y,Γ2,S2,e,(@Exj.mk _ _ _ _ hz s ⟨k1,k2⟩),k3⟩=>⟨Y,_,_,e,hk s k2 Y (fun {Z} k=>k.trans hz),k1 _ _ k3⟩
end rules
section ops
variable {P : Program} {r : Option Nat} {N : Nat} {X : Cx} {K : TK} {Γ : TE} {S : List Ow} {ops : Array Oper} {M : Nat → Prop}
theorem zA0 (h:K X Γ S):TO P r N ops X K [] Γ S:=fun _ D E w hs=>xH ⟨_,_,_,rfl,h,hs⟩
theorem o_of {o:Oper}{Ψ:PV}(h:Ob P r N ops M S True o Γ Ψ):O2 P r N ops M S o Γ (True,Ψ):=fun D E w d hd hN hg hT a Q ha hD hk =>
 h D E w d hd hN hg trivial hT a Q ha hD fun a' w' E' h1 ⟨h2,h3,v,h4,h5⟩=>hk a' w' E' h1 ⟨h2,h3,v,h4,fun _=>h5,fun c=>absurd trivial c⟩
theorem ops_guard_n {D:List Deferred}{E:Env}{w:World}{K:Pd}{rest:List Oper}{d:Nat}{op:Op}{t:TypeId}{pos:String}{af:Array Edge}{j dj:Nat}{b:Bool}(hd:Nat.blt d N=true)(hj:(ops[j]?).bind (·.dst)=some dj)(hv:get E dj=some undef)
  (h:Ops P r N ops K rest D ((d,undef)::E) w):Ops P r N ops K (⟨some d,op,t,pos,af,some (j,b)⟩::rest) D E w:=by
 intro a Q ha hD hk;have h1:=h (a.put (some d) undef) Q (ha.put hd undef) hD hk;have hy:yielded ops a.tmps j=none:=by simp[yielded,hj,ha.at_ dj _ hv,undef]
 unfold wpListIn;simp only[Region.wanted,hy];rw[if_neg (by simp)];exact⟨fun _ _=>trivial,h1⟩
theorem og {d:Nat}{op:Op}{t:TypeId}{pos:String}{af:Array Edge}{j dj:Nat}{b γ:Bool}{q:Prop}{Φ Ψ:PV}(hj:(ops[j]?).bind (·.dst)=some dj)(hΓ:tf Γ dj=some (q,Φ))[hb:VB Φ γ](h:Ob P r N ops M S (q∧γ=b) ⟨some d,op,t,pos,af,none⟩ Γ Ψ) :
  O2 P r N ops M S ⟨some d,op,t,pos,af,some (j,b)⟩ Γ (q∧γ=b,Ψ):=fun D E w d' hd hN hg hT=>by
 obtain rfl:=Option.some.inj hd;have hjs:dj∈yE ops ⟨some d,op,t,pos,af,some (j,b)⟩:=by unfold yE;simp only[hj];exact List.mem_append_right _ (by simp)
 have hT':Tm Γ (yE ops ⟨some d,op,t,pos,af,none⟩) M E w:=fun s hs=>hT s (by unfold yE at hs ⊢; exact List.mem_append_left _ (by simpa using hs));have hk:=hT dj hjs _ hΓ;by_cases hq:q
 ·obtain⟨v,h1,h2⟩:=hk.1 hq;obtain rfl:=hb.h h2;by_cases hγ:γ=b
  ·subst hγ;refine mL hj h1 fun a Q ha hD hk=>h D E w d rfl hN hg ⟨hq,rfl⟩ hT' a Q ha hD fun a' w' E' k1 ⟨k2,k3,v,k4,k5⟩=>hk a' w' E' k1 ⟨k2,k3,v,k4,fun _=>k5,fun c=>absurd ⟨hq,rfl⟩ c⟩
  ·exact mM hN hj h1 (by simpa using hγ) (xH ⟨rfl,xI _,undef,xO (by simp),fun c=>absurd c.2 hγ,fun _=>rfl⟩)
 ·exact ops_guard_n hN hj (hk.2 hq) (xH ⟨rfl,xI _,undef,xO (by simp),fun c=>absurd c.1 hq,fun _=>rfl⟩)
theorem ops_then {D:List Deferred}{E:Env}{w:World}{K:Pd}{rest:List Oper}{o:Oper}{d:Nat}{Q:Value→World→Prop}(ho:o.dst=some d)(hd:Nat.blt d N=true)
  (h1:Ops P r N ops (fun D' E' w'=>D'=D∧Rb w w'∧∃ v,get E' d=some v∧Q v w') [o] D E w) (h2:∀ v w',Rb w w'→Q v w'→Ops P r N ops K rest D ((d,v)::E) w') :
  Ops P r N ops K (o::rest) D E w:=by
 intro a Qx ha hD hk;have h3:=h1 a (fun e a' w'=>match e with | .normal=>a'.defers=D∧Rb w w'∧∃ E',Has a' N E'∧∃ v,get E' d=some v∧Q v w' | e=>Qx e a' w') ha hD (fun a' w' E' h4 h5=>⟨h5.1,h5.2.1,E',h4,h5.2.2⟩);have key:∀(a':Act) (w':World),(a'.defers=D∧Rb w w'∧∃ E',Has a' N E'∧∃ v,get E' d=some v∧Q v w')→(∃ v,a'.tmps=(a.put o.dst v).tmps)→wpListIn (Fr r) 0 P ops Qx rest a' w':=by
  rintro a' w' ⟨g1,g2,E',g3,v,g4,g5⟩ ⟨u,g6⟩;have hp:=(ha.put hd u);rw[ho] at g6;have e1:=g3.at_ d v g4;have e2:=hp.at_ d u (xO (by simp));rw[g6] at e1;rw[e2] at e1;obtain rfl:=Option.some.inj e1;exact h2 u w' g2 g5 a' Qx ⟨by rw[g6];exact hp.size,fun i x hi=>by rw[g6];exact hp.at_ i x hi⟩ g1 hk
 unfold wpListIn at h3 ⊢;split
 ·rename_i hw;rw[if_pos hw] at h3;exact nV h3 (fun a' w' hk' hf=>key a' w' hk' hf) (fun c a w h=>h) (fun h=>h)
 ·rename_i hw;rw[if_neg hw] at h3;exact⟨fun _ _=>trivial,key _ _ h3.2 ⟨_,rfl⟩⟩
theorem zA2 {o:Oper}{d:Nat}{q:Prop×PV}{l:List Oper}(hd:o.dst=some d)(h1:O2 P r N ops (Mk S X.M) S o Γ q)(h2:TO P r N ops X K l ((d,q)::Γ) S):TO P r N ops X K (o::l) Γ S:=fun hN D E w hs=>by
 unfold okN at hN;simp only[zaX,zaq] at hN;have hdN:Nat.blt d N=true:=by have:=hN.1;rw[hd] at this;exact this
 exact ops_then hd hdN (h1 (X.ms++D) E w d hd hdN hs.gd (hs.tm.tm _)) fun v w' hr ⟨hv,hu⟩=>h2 hN.2 D _ w' (hs.put hr hv hu)
theorem zA1 {d:Nat}{op:Op}{t:TypeId}{pos:String}{af:Array Edge}{Ψ:PV}{l:List Oper}(h1:Ob P r N ops (Mk S X.M) S True ⟨some d,op,t,pos,af,none⟩ Γ Ψ)(h2:TO P r N ops X K l ((d,True,Ψ)::Γ) S):TO P r N ops X K (⟨some d,op,t,pos,af,none⟩::l) Γ S :=
 zA2 rfl (o_of h1) h2
theorem t1g {d:Nat}{op:Op}{t:TypeId}{pos:String}{af:Array Edge}{j dj:Nat}{b γ:Bool}{q:Prop}{Φ Ψ:PV}{l:List Oper}(hj:(ops[j]?).bind (·.dst)=some dj)(hΓ:tf Γ dj=some (q,Φ))[hb:VB Φ γ]
  (h1:Ob P r N ops (Mk S X.M) S (q∧γ=b) ⟨some d,op,t,pos,af,none⟩ Γ Ψ) (h2:TO P r N ops X K l ((d,q∧γ=b,Ψ)::Γ) S):TO P r N ops X K (⟨some d,op,t,pos,af,some (j,b)⟩::l) Γ S :=
 zA2 rfl (og hj hΓ h1) h2
variable {F : TE → Prop}
theorem d0 (h:F Γ):TD P r N ops S F [] Γ:=h
theorem d1 {d:Nat}{op:Op}{t:TypeId}{pos:String}{af:Array Edge}{Ψ:PV}{l:List Oper}(h1:∀ {M},Ob P r N ops M S True ⟨some d,op,t,pos,af,none⟩ Γ Ψ)(h2:TD P r N ops S F l ((d,True,Ψ)::Γ)):TD P r N ops S F (⟨some d,op,t,pos,af,none⟩::l) Γ :=
 ⟨d,_,rfl,fun _=>o_of h1,h2⟩
theorem d1g {d:Nat}{op:Op}{t:TypeId}{pos:String}{af:Array Edge}{j dj:Nat}{b γ:Bool}{q:Prop}{Φ Ψ:PV}{l:List Oper}(hj:(ops[j]?).bind (·.dst)=some dj)(hΓ:tf Γ dj=some (q,Φ))[hb:VB Φ γ]
  (h1:∀ {M},Ob P r N ops M S (q∧γ=b) ⟨some d,op,t,pos,af,none⟩ Γ Ψ) (h2:TD P r N ops S F l ((d,q∧γ=b,Ψ)::Γ)):TD P r N ops S F (⟨some d,op,t,pos,af,some (j,b)⟩::l) Γ :=
 ⟨d,_,rfl,fun _=>og hj hΓ h1,h2⟩
end ops
theorem qC {s:Nat}:∀ {l Γ:TE},tf (l++Γ) s=(match tf l s with | some q=>some q | none=>tf Γ s)
 | [],Γ=>rfl
 | (k,q)::l,Γ=>by
  show (bif Nat.beq k s then some q else tf (l++Γ) s)=(match (bif Nat.beq k s then some q else tf l s) with | some q=>some q | none=>tf Γ s);cases Nat.beq k s with
  | true=>rfl
  | false=>exact qC (l:=l) (Γ:=Γ)
theorem dG:∀ {Γ:TE} {s:Nat} {q:Prop×PV},tf Γ s=some q→s∈Γ.map (·.1)
 | [],s,q,h=>by simp[tf] at h
 | (k,Φ)::Γ,s,q,h=>by
  unfold tf at h;cases hb:Nat.beq k s with
  | true=>obtain rfl:=zaj hb;simp
  | false=>rw[hb] at h;exact zbE _ (dG h)
section
variable {P : Program} {r : Option Nat} {N : Nat} {ops : Array Oper} {D : List Deferred} {E : Env} {w : World}
theorem zS5 {q:Prop×PV}{M:Nat→Prop}{F:Env}{s:Nat}{v:Value}(h:get F s=some v)(hv:(q.1→q.2.p M w v)∧(¬ q.1→v=undef)):Tok q M F w s:=⟨fun c=>⟨v,h,hv.1 c⟩,fun c=>by rw[h,hv.2 c]⟩
end
class TSl (P:Program)(t:TypeId)(e:outParam TypeId)(sz bytes:outParam Nat):Prop where
 u:P.underlying t=some (.slice e)
 n:Nat.beq sz 0=false
 s:∃ z,Sz P e sz bytes z∧z.cells.size=sz
class TLd (P:Program)(t:TypeId)(a:outParam Bool)(sz:outParam Nat):Prop where
 s:∃ bytes z,Sz P t sz bytes z
 h:bif a then Fold P t else Flat P t∧sz=1
class TFd (P:Program)(s:TypeId)(f:Nat)(a:outParam Bool)(off sz:outParam Nat):Prop where
 h:∃ fields fd bytes z,P.underlying s=some (.struct fields)∧fields[f]? = some fd∧fd.offset=off∧Sz P fd.type sz bytes z∧Nat.beq sz 0=false∧bif a then Fold P fd.type else Flat P fd.type∧sz=1
class TPl (P:Program)(t:TypeId)(szs:outParam (List Nat)):Prop where
 h:Plc P t szs
class TBo (P:Program)(t:TypeId):Prop where
 h:P.underlying t=some .bool
class LdA (a:Bool)(c:CT)(Ψ:outParam PV):Prop where
 h:∀ {M w us},c.p M w us→bif a then Ψ.p M w (.agg us.toArray) else ∀ v,us=[v]→Ψ.p M w v
instance {c:CT}:LdA true c (ag c):=⟨fun h=>⟨_,rfl,h⟩⟩
instance (priority:=low){c:CT}:LdA false c (sv c):=⟨fun h v e=>by subst e;exact h⟩
instance {v:Value}:LdA false (xc v) (exP v):=⟨fun h u e=>by subst e;exact zbp.1 h.1⟩
class CtOf (Ψ:PV)(c:outParam CT):Prop where
 h:∀ {M w v},Ψ.p M w v→∃ us:List Value,v.cells=us.toArray∧c.p M w us
instance {c:CT}:CtOf (ag c) c:=⟨fun⟨us,e,h⟩=>⟨us,by rw[e];rfl,h⟩⟩
instance {c:CT}:CtOf (sv c) c:=⟨fun {M w v} h=>⟨[v],yL4 (c.one h v (by simp)),h⟩⟩
instance {b:Bool}:CtOf (exP (.bool b)) (xc (.bool b)):=⟨fun h=>⟨[_],by rw[h];rfl,rfl,rfl⟩⟩
instance {k:IntKind}{b:Int}:CtOf (exP (.int k b)) (xc (.int k b)):=⟨fun h=>⟨[_],by rw[h];rfl,rfl,rfl⟩⟩
instance {a:Option Addr}{i j:Nat}:CtOf (exP (.slice a i j)) (xc (.slice a i j)):=⟨fun h=>⟨[_],by rw[h];rfl,rfl,rfl⟩⟩
class CtL (l:List PV)(cs:outParam (List CT)):Prop where
 h:∀ {M w vs},Fa l M w vs→∃ uss:List (List Value),Cls vs uss∧stp cs M w uss.flatten∧uss.map List.length=cs.map CT.sz
instance:CtL [] []:=⟨fun h=>⟨[],by rw[show _=[] from h];trivial,rfl,rfl⟩⟩
instance {Ψ:PV}{l:List PV}{c:CT}{cs:List CT}[h1:CtOf Ψ c][h2:CtL l cs]:CtL (Ψ::l) (c::cs):=⟨fun⟨v,us,e,k1,k2⟩=>by
 obtain⟨a,g1,g2⟩:=h1.h k1;obtain⟨az,g3,g4,g5⟩:=h2.h k2;subst e;exact⟨a::az,⟨g1,g3⟩,⟨a,_,rfl,g2,g4⟩,by simp[g5,c.len g2]⟩⟩
class VS (Ψ:PV)(k:outParam Nat)(l:outParam (List CT)):Prop where
 h:∀ {M w v},Ψ.p M w v→(sl k l).p M w [v]
instance {k:Nat}{l:List CT}:VS (sv (sl k l)) k l:=⟨id⟩
class LL (l:List CT)(n:outParam Nat):Prop where
 h:l.length=n
instance {α:Type}{f:α→CT}{xs:List α}:LL (xs.map f) xs.length:=⟨by simp⟩
instance (priority:=low){l:List CT}:LL l l.length:=⟨rfl⟩
class Df (α:Type) where
 d:α
class LA (l:List CT)(j:Nat)(c:outParam CT):Prop where
 h:j<l.length→l[j]? = some c
instance {α:Type}[Df α]{f:α→CT}{xs:List α}{j:Nat}:LA (xs.map f) j (f (xs.getD j Df.d)):=⟨fun h=>by
 have h:j<xs.length:=by simpa using h
 simp[zag h]⟩
instance {c:CT}{l:List CT}:LA (c::l) 0 c:=⟨fun _=>rfl⟩
instance {c d:CT}{l:List CT}{j:Nat}[h:LA l j d]:LA (c::l) (j+1) d:=⟨fun k=>h.h (by simpa using k)⟩
class LP (S:List Ow)(Ψ:PV)(c:outParam CT):Prop where
 h:∀ {M w v},Gd M S w→Ψ.p M w v→∃ b o us,v = .pointer (some ⟨b,o,none⟩)∧(∀(j:Nat) (u:Value),us[j]? = some u→w.cell? ⟨b,o+j,none⟩=some u)∧c.p M w us
instance {S:List Ow}{c:CT}:LP S (pa c) c:=⟨fun _ ⟨b,o,us,e,_,h2,h3⟩=>⟨b,o,us,e,fun _ _ hj=>h2.cell hj,h3⟩⟩
def dA:List CT→Nat→Option CT
 | [],_=>none
 | c::r,o=>bif Nat.beq o 0 then some c else bif Nat.ble c.sz o then dA r (o-c.sz) else none
theorem zN3:∀ {l:List CT} {o:Nat} {c:CT},dA l o=some c→∃ i,l[i]? = some c∧szs (l.take i)=o
 | [],o,c,h=>by cases h
 | d::r,o,c,h=>by
  unfold dA at h;cases h1:Nat.beq o 0 with
  | true=>rw[h1] at h;have:=zaj h1;exact⟨0,h,this.symm⟩
  | false =>
   rw[h1] at h;cases h2:Nat.ble d.sz o with
   | false=>rw[h2] at h;cases h
   | true =>
    rw[h2] at h;have hle:=zbZ h2;obtain⟨i,k1,k2⟩:=zN3 (l:=r) h;exact⟨i+1,by simpa using k1,by rw[List.take_succ_cons,szs,k2];omega⟩
theorem gQ {M:Nat→Prop}{w:World}{l:List CT}{o:Nat}{c:CT}{cs:List Value}(h:stp l M w cs)(ha:dA l o=some c):c.p M w ((cs.drop o).take c.sz):=by
 obtain⟨i,h1,h2⟩:=zN3 ha;rw[← h2];exact fR h h1
def fn (f:FuncId)(l:List PV):PV:=⟨fun M w v=>∃ vs:List Value,v = .func (.func f) #[] vs.toArray∧Fa l M w vs,fun h k=>let ⟨us,e,h⟩:=h;⟨us,e,h.mono k⟩⟩
class VF (Ψ:PV)(f:outParam FuncId)(l:outParam (List PV)):Prop where
 h:∀ {M w v},Ψ.p M w v→(fn f l).p M w v
instance {f:FuncId}:VF (exP (.func (.func f) #[] #[])) f []:=⟨fun h=>⟨[],h,rfl⟩⟩
instance {f:FuncId}{l:List PV}:VF (fn f l) f l:=⟨id⟩
structure CTy (P:Program)(f:FuncId)(τs:List PV)(ρ:PV):Prop where
 bod:Bod P f
 run:∀(M:Nat→Prop) (w:World) (vs:List Value),OkM M w→Tab M w→Fa τs M w vs→CallsV P f vs w fun v w'=>Rb w w'∧ρ.p M w' v
def tvs (Γ:TE):List Operand→Option (Prop×List PV)
 | []=>some (True,[])
 | x::r=>match tv Γ x,tvs Γ r with
  | some (q,Ψ),some (qs,l)=>some (q∧qs,Ψ::l)
  | _,_=>none
theorem Fa.app {M:Nat→Prop}{w:World}:∀ {l m:List PV} {a b:List Value},Fa l M w a→Fa m M w b→Fa (l++m) M w (a++b)
 | [],_,_,_,h,k=>by rw[show _=[] from h];exact k
 | τ::l,_,_,_,⟨v,us,e,h1,h2⟩,k=>⟨v,us++_,by rw[e];rfl,h1,Fa.app h2 k⟩
theorem Fa.at_ {M:Nat→Prop}{w:World}:∀ {l:List PV} {vs:List Value} {i:Nat} {Ψ:PV},Fa l M w vs→l[i]? = some Ψ→∃ v,vs[i]? = some v∧Ψ.p M w v
 | [],_,_,_,_,h=>by simp at h
 | τ::l,_,0,Ψ,⟨v,us,e,h1,h2⟩,h=>by simp at h;subst h;subst e;exact⟨v,rfl,h1⟩
 | τ::l,_,i+1,Ψ,⟨v,us,e,h1,h2⟩,h=>by
  subst e;obtain⟨u,k1,k2⟩:=Fa.at_ (l:=l) (vs:=us) (i:=i) h2 (by simpa using h);exact⟨u,by simpa using k1,k2⟩
theorem gU {Γ:TE}{M:Nat→Prop}{E:Env}{w:World}{ss:List Nat}(h:Tm Γ ss M E w):∀ {xs:List Operand} {q:Prop} {l:List PV},tvs Γ xs=some (q,l)→q→(∀ x∈xs,∀ t,x = .tmp t→t∈ss)→∃ vs,evs E xs=some vs∧Fa l M w vs
 | [],q,l,hx,_,_=>by
  obtain⟨rfl,rfl⟩:=Prod.mk.inj (Option.some.inj hx);exact⟨[],rfl,rfl⟩
 | x::r,q,l,hx,hq,hm=>by
  unfold tvs at hx;cases h1:tv Γ x with
  | none=>rw[h1] at hx;cases hx
  | some a =>
   obtain⟨q1,Ψ⟩:=a;cases h2:tvs Γ r with
   | none=>rw[h1,h2] at hx;cases hx
   | some b =>
    obtain⟨q2,l2⟩:=b;rw[h1,h2] at hx;obtain⟨rfl,rfl⟩:=Prod.mk.inj (Option.some.inj hx);obtain⟨v,k1,k2⟩:=oD h h1 (hm x (by simp)) hq.1;obtain⟨vs,k3,k4⟩:=gU h h2 hq.2 fun y hy=>hm y (by simp[hy]);exact⟨v::vs,by unfold evs;rw[k1,k3],v,vs,rfl,k2,k4⟩
theorem gA {ops:Array Oper}{o:Oper}{x:Operand}(hm:x∈o.op.operands.toList):∀ t,x = .tmp t→t∈yE ops o:=fun t e=>by
 subst e;unfold yE;exact zbJ _ (List.mem_filterMap.2 ⟨_,hm,rfl⟩)
class Pk (γ:Bool)(Ψ Φ:PV)(Θ:outParam PV):Prop where
 t:γ=true→PSub Ψ Θ
 f:γ=false→PSub Φ Θ
instance {γ a:Bool}:Pk γ (exP (.bool true)) (exP (.bool a)) (exP (.bool (γ || a))):=⟨fun e _ _ _ h=>by rw[show _=_ from h,e];rfl,fun e _ _ _ h=>by rw[show _=_ from h,e];rfl⟩
instance {γ a:Bool}:Pk γ (exP (.bool a)) (exP (.bool false)) (exP (.bool (γ&&a))):=⟨fun e _ _ _ h=>by rw[show _=_ from h,e];rfl,fun e _ _ _ h=>by rw[show _=_ from h,e];rfl⟩
instance (priority:=low){γ a b:Bool}:Pk γ (exP (.bool a)) (exP (.bool b)) (exP (.bool (bif γ then a else b))):=⟨fun e _ _ _ h=>by rw[show _=_ from h,e];rfl,fun e _ _ _ h=>by rw[show _=_ from h,e];rfl⟩
instance {γ:Bool}{k:IntKind}{a b:Int}:Pk γ (exP (.int k a)) (exP (.int k b)) (exP (.int k (bif γ then a else b))):=⟨fun e _ _ _ h=>by rw[show _=_ from h,e];rfl,fun e _ _ _ h=>by rw[show _=_ from h,e];rfl⟩
section ops
variable {P : Program} {r : Option Nat} {N : Nat} {ops : Array Oper} {M : Nat → Prop} {S : List Ow} {p qx qy qc q : Prop} {Γ : TE} {Ψx Ψy Ψc Ψ : PV}
variable {d : Nat} {x y c : Operand} {t t' tx ty : TypeId} {pos : String} {af : Array Edge}
theorem fin {D:List Deferred}{E:Env}{w:World}{v:Value}(h:Ψ.p M w v):Ops P r N ops (fun D' E' w'=>D'=D∧Rb w w'∧∃ v,get E' d=some v∧Ψ.p M w' v) [] D ((d,v)::E) w :=
 xH ⟨rfl,xI _,v,xO (by simp),h⟩
theorem omv (hx:tv Γ x=some (qx,Ψx))[Im p qx]:Ob P r N ops M S p ⟨some d,.move x,t',pos,af,none⟩ Γ Ψx:=fun D E w d' hd hN hg hp hT=>by
 obtain rfl:=Option.some.inj hd;obtain⟨v,e1,h1⟩:=yL hT hx hp (by simp[Op.operands]);exact iM hN e1 (fin h1)
theorem oas (hx:tv Γ x=some (qx,Ψx))[Im p qx]:Ob P r N ops M S p ⟨some d,.assign x,t',pos,af,none⟩ Γ Ψx:=fun D E w d' hd hN hg hp hT=>by
 obtain rfl:=Option.some.inj hd;obtain⟨v,e1,h1⟩:=yL hT hx hp (by simp[Op.operands]);exact fV hN e1 (fin h1)
theorem opk {γ:Bool}(hc:tv Γ c=some (qc,Ψc))(hx:tv Γ x=some (qx,Ψx))(hy:tv Γ y=some (qy,Ψy))[Im p qc][hb:VB Ψc γ][h1:Im (p∧γ=true) qx][h2:Im (p∧γ=false) qy][hk:Pk γ Ψx Ψy Ψ] :
  Ob P r N ops M S p ⟨some d,.pick c x y,t',pos,af,none⟩ Γ Ψ:=fun D E w d' hd hN hg hp hT=>by
 obtain rfl:=Option.some.inj hd;obtain⟨v,e1,k1⟩:=yL hT hc hp (by simp[Op.operands]);obtain rfl:=hb.h k1;cases hγ:γ with
 | true =>
  obtain⟨u,e2,k2⟩:=yL hT hx (And.intro hp hγ) (by simp[Op.operands]);exact zJ3 (b:=γ) hN e1 (by rw[hγ];exact e2) (fin (hk.t hγ _ _ _ k2))
 | false =>
  obtain⟨u,e2,k2⟩:=yL hT hy (And.intro hp hγ) (by simp[Op.operands]);exact zJ3 (b:=γ) hN e1 (by rw[hγ];exact e2) (fin (hk.f hγ _ _ _ k2))
theorem ont {γ:Bool}(hx:tv Γ x=some (qx,Ψx))[Im p qx][hb:VB Ψx γ]:Ob P r N ops M S p ⟨some d,.unOp .not t x,t',pos,af,none⟩ Γ (exP (.bool (!γ))):=fun D E w d' hd hN hg hp hT=>by
 obtain rfl:=Option.some.inj hd;obtain⟨v,e1,h1⟩:=yL hT hx hp (by simp[Op.operands]);obtain rfl:=hb.h h1;exact ops_not hN e1 (fin rfl)
theorem oex {i:Nat}{l:List PV}(hx:tv Γ x=some (qx,tu l))(hi:l[i]? = some Ψ)[Im p qx]:Ob P r N ops M S p ⟨some d,.extract x i,t',pos,af,none⟩ Γ Ψ:=fun D E w d' hd hN hg hp hT=>by
 obtain rfl:=Option.some.inj hd;obtain⟨v,e1,vs,rfl,h1⟩:=yL hT hx hp (by simp[Op.operands]);obtain⟨u,h2,h3⟩:=h1.at_ hi;exact ops_extract hN e1 (by simpa using h2) (fin h3)
theorem omf {f:FuncId}{ca:List Operand}{l:List PV}(hx:tvs Γ ca=some (q,l))[hi:Im p q]:Ob P r N ops M S p ⟨some d,.makeFunc (.func f) #[] ca.toArray,t',pos,af,none⟩ Γ (fn f l):=fun D E w d' hd hN hg hp hT=>by
 obtain rfl:=Option.some.inj hd;obtain⟨vs,e1,h1⟩:=gU hT hx (hi.h hp) fun x hx=>gA (by simp[Op.operands,hx]);exact ops_makeFunc hN (by simpa using e1) (fin ⟨vs,rfl,h1⟩)
theorem ob1 {op:Op}(hx:tv Γ x=some (qx,Ψx))[Im p qx](hm:x∈op.operands.toList)
  (h:∀ D E w u,Nat.blt d N=true→Gd M S w→ev E x=some u→Ψx.p M w u→Ops P r N ops (fun D' E' w'=>D'=D∧Rb w w'∧∃ v,get E' d=some v∧Ψ.p M w' v) [⟨some d,op,t',pos,af,none⟩] D E w):Ob P r N ops M S p ⟨some d,op,t',pos,af,none⟩ Γ Ψ:=fun D E w d' hd hN hg hp hT=>by
 obtain rfl:=Option.some.inj hd;obtain⟨u,e1,h1⟩:=yL hT hx hp hm;exact h D E w u hN hg e1 h1
theorem ob2 {op:Op}(hx:tv Γ x=some (qx,Ψx))(hy:tv Γ y=some (qy,Ψy))[Im p qx][Im p qy](hm:x∈op.operands.toList)(hn:y∈op.operands.toList)
  (h:∀ D E w u v,Nat.blt d N=true→Gd M S w→ev E x=some u→ev E y=some v→Ψx.p M w u→Ψy.p M w v→Ops P r N ops (fun D' E' w'=>D'=D∧Rb w w'∧∃ v,get E' d=some v∧Ψ.p M w' v) [⟨some d,op,t',pos,af,none⟩] D E w):Ob P r N ops M S p ⟨some d,op,t',pos,af,none⟩ Γ Ψ:=fun D E w d' hd hN hg hp hT=>by
 obtain rfl:=Option.some.inj hd;obtain⟨u,e1,h1⟩:=yL hT hx hp hm;obtain⟨v,e2,h2⟩:=yL hT hy hp hn;exact h D E w u v hN hg e1 e2 h1 h2
section
variable {k : IntKind} {a b : Int} {γ δ : Bool}
theorem olt (hx:tv Γ x=some (qx,Ψx))(hy:tv Γ y=some (qy,Ψy))[Im p qx][Im p qy][ha:VI Ψx k a][hb:VI Ψy k b]:Ob P r N ops M S p ⟨some d,.binOp .lss tx x y ty,t',pos,af,none⟩ Γ (exP (.bool (decide (a<b)))) :=
 ob2 hx hy (by simp[Op.operands]) (by simp[Op.operands]) fun D E w u v hN _ e1 e2 h1 h2=>by rw[ha.h h1] at e1;rw[hb.h h2] at e2;exact ops_lt hN e1 e2 (fin rfl)
theorem ole (hx:tv Γ x=some (qx,Ψx))(hy:tv Γ y=some (qy,Ψy))[Im p qx][Im p qy][ha:VI Ψx k a][hb:VI Ψy k b]:Ob P r N ops M S p ⟨some d,.binOp .leq tx x y ty,t',pos,af,none⟩ Γ (exP (.bool (decide (a≤b)))) :=
 ob2 hx hy (by simp[Op.operands]) (by simp[Op.operands]) fun D E w u v hN _ e1 e2 h1 h2=>by rw[ha.h h1] at e1;rw[hb.h h2] at e2;exact ops_le hN e1 e2 (fin rfl)
theorem ogt (hx:tv Γ x=some (qx,Ψx))(hy:tv Γ y=some (qy,Ψy))[Im p qx][Im p qy][ha:VI Ψx k a][hb:VI Ψy k b]:Ob P r N ops M S p ⟨some d,.binOp .gtr tx x y ty,t',pos,af,none⟩ Γ (exP (.bool (decide (b<a)))) :=
 ob2 hx hy (by simp[Op.operands]) (by simp[Op.operands]) fun D E w u v hN _ e1 e2 h1 h2=>by rw[ha.h h1] at e1;rw[hb.h h2] at e2;exact ops_gt hN e1 e2 (fin rfl)
theorem oge (hx:tv Γ x=some (qx,Ψx))(hy:tv Γ y=some (qy,Ψy))[Im p qx][Im p qy][ha:VI Ψx k a][hb:VI Ψy k b]:Ob P r N ops M S p ⟨some d,.binOp .geq tx x y ty,t',pos,af,none⟩ Γ (exP (.bool (decide (b≤a)))) :=
 ob2 hx hy (by simp[Op.operands]) (by simp[Op.operands]) fun D E w u v hN _ e1 e2 h1 h2=>by rw[ha.h h1] at e1;rw[hb.h h2] at e2;exact ops_ge hN e1 e2 (fin rfl)
theorem oeq (hx:tv Γ x=some (qx,Ψx))(hy:tv Γ y=some (qy,Ψy))[Im p qx][Im p qy][ha:VI Ψx k a][hb:VI Ψy k b]:Ob P r N ops M S p ⟨some d,.binOp .eql tx x y ty,t',pos,af,none⟩ Γ (exP (.bool (decide (a=b)))) :=
 ob2 hx hy (by simp[Op.operands]) (by simp[Op.operands]) fun D E w u v hN _ e1 e2 h1 h2=>by rw[ha.h h1] at e1;rw[hb.h h2] at e2;exact yF8 hN e1 e2 (fin rfl)
theorem oni (hx:tv Γ x=some (qx,Ψx))(hy:tv Γ y=some (qy,Ψy))[Im p qx][Im p qy][ha:VI Ψx k a][hb:VI Ψy k b]:Ob P r N ops M S p ⟨some d,.binOp .neq tx x y ty,t',pos,af,none⟩ Γ (exP (.bool (decide (a≠b)))) :=
 ob2 hx hy (by simp[Op.operands]) (by simp[Op.operands]) fun D E w u v hN _ e1 e2 h1 h2=>by rw[ha.h h1] at e1;rw[hb.h h2] at e2;exact ops_ne hN e1 e2 (fin rfl)
theorem oad (hx:tv Γ x=some (qx,Ψx))(hy:tv Γ y=some (qy,Ψy))[Im p qx][Im p qy][ha:VI Ψx .i64 a][hb:VI Ψy .i64 b](hs:-9223372036854775808≤a+b∧a+b≤9223372036854775807):Ob P r N ops M S p ⟨some d,.binOp .add tx x y ty,t',pos,af,none⟩ Γ (exP (.int .i64 (a+b))) :=
 ob2 hx hy (by simp[Op.operands]) (by simp[Op.operands]) fun D E w u v hN _ e1 e2 h1 h2=>by rw[ha.h h1] at e1;rw[hb.h h2] at e2;exact ops_add hN e1 e2 hs (fin rfl)
theorem osb (hx:tv Γ x=some (qx,Ψx))(hy:tv Γ y=some (qy,Ψy))[Im p qx][Im p qy][ha:VI Ψx .i64 a][hb:VI Ψy .i64 b](hs:-9223372036854775808≤a-b∧a-b≤9223372036854775807):Ob P r N ops M S p ⟨some d,.binOp .sub tx x y ty,t',pos,af,none⟩ Γ (exP (.int .i64 (a-b))) :=
 ob2 hx hy (by simp[Op.operands]) (by simp[Op.operands]) fun D E w u v hN _ e1 e2 h1 h2=>by rw[ha.h h1] at e1;rw[hb.h h2] at e2;exact ops_sub hN e1 e2 hs (fin rfl)
theorem oml (hx:tv Γ x=some (qx,Ψx))(hy:tv Γ y=some (qy,Ψy))[Im p qx][Im p qy][ha:VI Ψx .i64 a][hb:VI Ψy .i64 b](hs:-9223372036854775808≤a*b∧a*b≤9223372036854775807):Ob P r N ops M S p ⟨some d,.binOp .mul tx x y ty,t',pos,af,none⟩ Γ (exP (.int .i64 (a*b))) :=
 ob2 hx hy (by simp[Op.operands]) (by simp[Op.operands]) fun D E w u v hN _ e1 e2 h1 h2=>by rw[ha.h h1] at e1;rw[hb.h h2] at e2;exact ops_mul hN e1 e2 hs (fin rfl)
theorem oqu (hx:tv Γ x=some (qx,Ψx))(hy:tv Γ y=some (qy,Ψy))[Im p qx][Im p qy][ha:VI Ψx .i64 a][hb:VI Ψy .i64 b](hs:0≤a∧a≤9223372036854775807∧1≤b):Ob P r N ops M S p ⟨some d,.binOp .quo tx x y ty,t',pos,af,none⟩ Γ (exP (.int .i64 (a/b))) :=
 ob2 hx hy (by simp[Op.operands]) (by simp[Op.operands]) fun D E w u v hN _ e1 e2 h1 h2=>by rw[ha.h h1] at e1;rw[hb.h h2] at e2;exact ops_quo hN e1 e2 hs (fin rfl)
theorem orm (hx:tv Γ x=some (qx,Ψx))(hy:tv Γ y=some (qy,Ψy))[Im p qx][Im p qy][ha:VI Ψx .i64 a][hb:VI Ψy .i64 b](hs:0≤a∧1≤b):Ob P r N ops M S p ⟨some d,.binOp .rem tx x y ty,t',pos,af,none⟩ Γ (exP (.int .i64 (a%b))) :=
 ob2 hx hy (by simp[Op.operands]) (by simp[Op.operands]) fun D E w u v hN _ e1 e2 h1 h2=>by rw[ha.h h1] at e1;rw[hb.h h2] at e2;exact ops_rem hN e1 e2 hs (fin rfl)
theorem obe (hx:tv Γ x=some (qx,Ψx))(hy:tv Γ y=some (qy,Ψy))[Im p qx][Im p qy][ha:VB Ψx γ][hb:VB Ψy δ][ht:TBo P tx]:Ob P r N ops M S p ⟨some d,.binOp .eql tx x y ty,t',pos,af,none⟩ Γ (exP (.bool (γ == δ))) :=
 ob2 hx hy (by simp[Op.operands]) (by simp[Op.operands]) fun D E w u v hN _ e1 e2 h1 h2=>by rw[ha.h h1] at e1;rw[hb.h h2] at e2;exact ops_beq hN e1 e2 ht.h (fin rfl)
theorem obn (hx:tv Γ x=some (qx,Ψx))(hy:tv Γ y=some (qy,Ψy))[Im p qx][Im p qy][ha:VB Ψx γ][hb:VB Ψy δ][ht:TBo P tx]:Ob P r N ops M S p ⟨some d,.binOp .neq tx x y ty,t',pos,af,none⟩ Γ (exP (.bool (!(γ == δ)))) :=
 ob2 hx hy (by simp[Op.operands]) (by simp[Op.operands]) fun D E w u v hN _ e1 e2 h1 h2=>by rw[ha.h h1] at e1;rw[hb.h h2] at e2;exact ops_bne hN e1 e2 ht.h (fin rfl)
end
theorem oln {e:TypeId}{sz bytes:Nat}{k n:Nat}{l:List CT}(hx:tv Γ x=some (qx,Ψx))[Im p qx][ht:TSl P t e sz bytes][hv:VS Ψx k l][hl:LL l n]:Ob P r N ops M S p ⟨some d,.call ⟨.builtin .len,#[x],#[t]⟩,t',pos,af,none⟩ Γ (exP (.int .i64 (n:Int))) :=
 ob1 hx (by simp[Op.operands,Call.operands]) fun D E w u hN _ e1 h1=>by
  obtain⟨v,us,e,h2,h3,h4⟩:=hv.h h1;obtain rfl:=zbp.1 e;have:=zJ5 (rest:=[]) (K:=fun D' E' w'=>D'=D∧Rb w w'∧∃ v,get E' d=some v∧(exP (.int .i64 (n:Int))).p M w' v) (r:=r) (all:=ops) (D:=D) (t':=t') (pos:=pos) (af:=af) hN ht.u e1 h2 (by rw[hl.h];exact fin rfl);exact this
theorem oix {ix:Operand}{qi:Prop}{Ψi:PV}{e:TypeId}{sz bytes:Nat}{k n:Nat}{l:List CT}{ki:IntKind}{i:Int}{c:CT}(j:Nat)(hx:tv Γ x=some (qx,Ψx))(hi:tv Γ ix=some (qi,Ψi))[Im p qx][Im p qi][ht:TSl P t e sz bytes][hv:VS Ψx k l][hki:VI Ψi ki i][hl:LL l n][ha:LA l j c]
  (hk:Nat.beq k sz=true) (hij:p→i=(j:Int)) (hj:p→j<n):Ob P r N ops M S p ⟨some d,.indexAddr t x ix,t',pos,af,none⟩ Γ (pa c):=fun D E w d' hd hN hg hp hT=>by
 obtain rfl:=Option.some.inj hd;obtain⟨u,e1,h1⟩:=yL hT hx hp (by simp[Op.operands]);obtain⟨u2,e2,h2⟩:=yL hT hi hp (by simp[Op.operands]);rw[hki.h h2] at e2;obtain rfl:=zaj hk;obtain⟨v,us,ee,h3,h4,h5⟩:=hv.h h1;obtain rfl:=zbp.1 ee;have hjl:j<l.length:=by rw[hl.h];exact hj hp
 have hcl:=ha.h hjl;have h6:=fR h4 hcl;rw[uQ h5 (zbU hjl),h5 c (zam hcl)] at h6;obtain⟨g1,g2,ad,cap,rfl,g3,g4⟩:=h3;obtain⟨z,hz,_⟩:=ht.s;rcases g4 with g4 | ⟨b,off,rfl,g5,g6⟩
 ·omega
 ·refine yB hN (by intro c hc;cases hc) (fun a ha=>?_) (fin ⟨b,off+j*k,_,rfl,g5,g6.sub (j*k) k,h6⟩);have e3:(Instr.indexAt t (.slice (some ⟨b,off,none⟩) l.length cap) (.int ki i)).run P w = .ok (.pointer (some ⟨b,off+j*k,none⟩)) w:=by
   rw[hij hp];simp[Instr.indexAt,asIntOf,run_underlying ht.u,Result.andThen,xK hz,hjl,xV]
  simp only[execOp,ha.ev e1,ha.ev e2,Sem.run_bind,e3,Result.andThen];rfl
theorem old {a:Bool}{sz:Nat}{c:CT}(hx:tv Γ x=some (qx,Ψx))[Im p qx][ht:TLd P t a sz][hp:LP S Ψx c](hs:Nat.beq c.sz sz=true)[hl:LdA a c Ψ]:Ob P r N ops M S p ⟨some d,.load t x,t',pos,af,none⟩ Γ Ψ :=
 ob1 hx (by simp[Op.operands]) fun D E w u hN hg e1 h1=>by
  obtain⟨b,o,us,rfl,h2,h3⟩:=hp.h hg h1;have h4:=hl.h h3;have h5:=ht.h;have h6:=zaj hs;have h7:=c.len h3;cases a with
  | true =>
   obtain⟨bytes,z,k2⟩:=ht.s;exact bC hN h5 k2 e1 h2 (h7.trans h6) (fin h4)
  | false =>
   obtain⟨k1,rfl⟩:=h5;rw[h6] at h7;obtain⟨v,rfl⟩:=zcC.1 h7;exact bD hN k1 e1 (by have:=h2 0 v rfl;simpa using this) (fin (h4 v rfl))
theorem ofa {a:Bool}{f off sz:Nat}{l:List CT}{c:CT}(hx:tv Γ x=some (qx,pa (st l)))[Im p qx][ht:TFd P t f a off sz](ha:dA l off=some c):Ob P r N ops M S p ⟨some d,.fieldAddr t x f,t',pos,af,none⟩ Γ (pa c) :=
 ob1 hx (by simp[Op.operands]) fun D E w u hN hg e1 ⟨b,o,us,e,h1,h2,h3⟩=>by
  subst e;obtain⟨fields,fd,bytes,z,k1,k2,k3,k4,k5,_⟩:=ht.h;exact uN off hN k1 k2 k3 k4 k5 e1 (fin ⟨b,o+off,_,rfl,h1,h2.sub off c.sz,gQ h3 ha⟩)
theorem onc {c:CT}(hx:tv Γ x=some (qx,pa c))[Im p qx]:Ob P r N ops M S p ⟨some d,.nilCheck x,t',pos,af,none⟩ Γ (pa c) :=
 ob1 hx (by simp[Op.operands]) fun D E w u hN hg e1 ⟨b,o,us,e,h⟩=>by
  subst e;exact rY hN e1 (fin ⟨b,o,us,rfl,h⟩)
theorem obd {szs':List Nat}{parts:List (Nat×Operand)}{τs:List PV}{cs:List CT}(hx:tvs Γ (parts.map (·.2))=some (q,τs))[hi:Im p q][ht:TPl P t szs'][hc:CtL τs cs](hp:parts.map (·.1)=List.range szs'.length)(hs:cs.map CT.sz=szs') :
  Ob P r N ops M S p ⟨some d,.build t parts.toArray,t',pos,af,none⟩ Γ (ag (st cs)):=fun D E w d' hd hN hg hp' hT=>by
 obtain rfl:=Option.some.inj hd;obtain⟨vs,e1,h1⟩:=gU hT hx (hi.h hp') fun x hx=>gA (by simpa [Op.operands] using hx);obtain⟨uss,g1,g2,g3⟩:=hc.h h1;exact ops_build hN ht.h (by simpa using hp) (by simpa using e1) g1 (g3.trans hs) (fin ⟨_,rfl,g2⟩)
theorem obs {e:TypeId}{sz bytes len:Nat}{parts:List (Nat×Operand)}{τs:List PV}{cs:List CT}(hx:tvs Γ (parts.map (·.2))=some (q,τs))[hi:Im p q][ht:TSl P t e sz bytes][hc:CtL τs cs](hp:parts.map (·.1)=List.range len)(hs:(cs.all fun c=>Nat.beq c.sz sz)=true)(hl:Nat.ble (len*sz) 1000=true)(h0:Nat.beq len 0=false)(hn:cs.length=len) :
  Ob P r N ops M S p ⟨some d,.buildSlice t len parts.toArray,t',pos,af,none⟩ Γ (sv (sl sz cs)):=fun D E w d' hd hN hg hp' hT=>by
 obtain rfl:=Option.some.inj hd;obtain⟨vs,e1,h1⟩:=gU hT hx (hi.h hp') fun x hx=>gA (by simpa [Op.operands] using hx);obtain⟨uss,g1,g2,g3⟩:=hc.h h1;have hall:uB sz cs:=fun c hc=>zaj (zaC.1 hs c hc);have hlen:=jN g2;rw[eN hall,hn] at hlen;obtain⟨z,hz,hzc⟩:=ht.s;refine qB hN ht.u hz hzc ht.n (by simpa using hp) (by simpa using e1) g1 ?_ hl h0 fun w' b hw=>?_
 ·refine zaC.2 fun c hc=>?_;have:c.length∈uss.map List.length:=zcj hc;rw[g3] at this;obtain⟨ct,h3,h4⟩:=zai.1 this;rw[← h4,hall ct h3];simp
 ·refine xH ⟨rfl,hw.below,_,xO (by simp),_,uss.flatten,rfl,?_,yX g2 (Cl.bel hw.below),hall⟩;rw[hn];have hle:len≤1000:=by
   have:=zbZ hl;have h0:=zby ht.n;exact zac (zci _ (zaW h0)) this
  exact hw.blk.slc (hg.ok.new hw) hlen (fun j u hj=>by simpa using hj) (by omega) (Nat.le_refl _)
theorem oca {f:FuncId}{xs:List Operand}{ts:Array TypeId}{τs ca:List PV}{ρ:PV}(hf:tv Γ x=some (qx,Ψx))(hx:tvs Γ xs=some (q,τs))[Im p qx][hi:Im p q][hv:VF Ψx f ca](hk:p→CTy P f (τs++ca) ρ) :
  Ob P r N ops M S p ⟨some d,.call ⟨.value x,xs.toArray,ts⟩,t',pos,af,none⟩ Γ ρ:=fun D E w d' hd hN hg hp hT=>by
 obtain rfl:=Option.some.inj hd;obtain⟨u,e1,h1⟩:=yL hT hf hp (by simp[Op.operands,Call.operands]);obtain⟨vs,e2,h2⟩:=gU hT hx (hi.h hp) fun x hx=>gA (by simp[Op.operands,Call.operands,hx]);obtain⟨us,rfl,h3⟩:=hv.h h1;refine lS hN (hk hp).bod e1 e2 (((hk hp).run M w (vs++us) hg.ok hg.tab (h2.app h3)).mono fun v w' ⟨k1,k2⟩=>?_);exact xH ⟨rfl,k1,v,xO (by simp),k2⟩
end ops
def par:Nat→List PV→TE
 | _,[]=>[]
 | i,τ::τs=>(i,True,τ)::par (i+1) τs
theorem vE {M:Nat→Prop}{w:World}:∀ {τs:List PV} {vs:List Value} {i:Nat},Fa τs M w vs→TM (par i τs) M (env0 i vs) w
 | [],_,i,h=>fun s q hs=>by simp[par,tf] at hs
 | τ::τs,_,i,⟨v,us,e,h1,h2⟩=>by
  subst e;exact TM.put (vE h2) (fun _=>h1) (fun c=>absurd trivial c)
def TR (X0:Cx)(rs:List Nat)(ρs:List PV):TK:=fun X Γ S=>Exj X0 X fun q=>∃ l,tvs Γ (rs.map .tmp)=some (q,l)∧q∧∀ M w vs,Fa l M w vs→Fa ρs M w vs
theorem yE8 {P:Program}{E:Env}{w:World}:∀ {rs:List Nat} {vs:List Value},evs E (rs.map .tmp)=some vs→Res P E w (rs.map .tmp) vs
 | [],vs,h=>by obtain rfl:=Option.some.inj h;trivial
 | t::rs,vs,h=>by
  rw[zaG] at h;unfold evs at h;cases h1:ev E (.tmp t) with
  | none=>rw[h1] at h;cases h
  | some v =>
   cases h2:evs E (rs.map .tmp) with
   | none=>rw[h1,h2] at h;cases h
   | some us =>
    rw[h1,h2] at h;obtain rfl:=Option.some.inj h;exact⟨h1,yE8 h2⟩
theorem ct {P:Program}{f:FuncId}{fn:Func}{c:Code}{N:Nat}{τs ρs:List PV}{ρ:PV}{rs:List Nat}(hf:P.funcs[f]? = some fn)(hb:fn.body=some c)(hn:fn.ntmps=N)(hN:Nat.ble τs.length N=true)(hr:fn.results.toList=rs.map .tmp)
    (hnm:(fn.name == "runtime.NumGoroutine")=false) (hρ:∀ M w vs,Fa ρs M w vs→ρ.p M w (gW vs)) (h:∀ X,TW P none N X c (TR X rs ρs) (fun _ _ _ _=>False) (TR X rs ρs) (par 0 τs) []):CTy P f τs ρ:=by
  refine⟨⟨fn,hf,by rw[hb];rfl,hnm⟩,fun M w vs hM hT hv=>?_⟩;have hmk:Mk [] M=M:=by funext k;simp[Mk]
  let X0:Cx:=cx M w fun _=>False
  have hs:St X0 (par 0 τs) [] (env0 0 vs) w:=⟨⟨rfl,Tp.refl _,rfl,zab _,fun _ _ _=>rfl⟩,⟨by rw[hmk];exact hM,by rw[hmk];exact hT,by simp⟩,by simp,trivial,hM,fun _ h=>h.elim,⟨uH,zab _,fun _ h=>by cases h⟩,by rw[hmk];exact vE hv⟩;refine aM hf hb hn (by rw[hv.len];exact hN) ?_;have hfin:∀ D E w',lf (TR X0 rs ρs) [] D E w'→Fin P fn.results.toList (fun v w'=>Rb w w'∧ρ.p M w' v) D E w':=by
    rintro _ E w' ⟨X,Γ,S,rfl,hx,h4⟩;obtain⟨ms,rfl⟩:=hx.eqx.h;obtain⟨q,l,h1,h2,h3⟩:=hx.ex;rw[zas];refine dW h4.mko.m fun w2 hd=>?_;have h4:=h4.end_ hd rfl rfl;obtain⟨us,e1,e2⟩:=gU (h4.tm.tm (rs)) h1 h2 fun x hx t e=>by subst e;simpa using hx
    exact⟨us,by rw[hr];exact yE8 e1,⟨h4.bel.os,h4.bel.tape,h4.bel.output,h4.bel.size,fun k hk=>h4.bel.block k hk id⟩,hρ _ _ _ (h3 _ _ _ (e2.mono (Cl.less fun k hk => .inr hk)))⟩
  have h1:=h X0 [] _ w hs;intro a ha hd;refine wpIn_mono (h1 a ha hd) fun e a' w' hq=>?_;cases e with
  | normal=>obtain⟨E',h1,h2⟩:=hq;exact⟨E',h1,hfin _ _ _ h2⟩
  | exit id=>obtain⟨E',h1,_,_,_,_,h2,_⟩:=hq;exact h2.elim
  | ret=>obtain⟨E',h1,h2⟩:=hq;exact⟨E',h1,hfin _ _ _ h2⟩
  | goto l=>exact hq
  | panic c=>exact hq
  | outgrown=>exact hq
theorem mO {ρ:PV}:∀ M w vs,Fa [ρ] M w vs→ρ.p M w (gW vs):=fun M w vs ⟨v,us,e,h1,h2⟩=>by
 subst e;rw[show us=[] from h2];exact h1
theorem bY {o:Ow}{S:List Ow}{M:Nat→Prop}{k:Nat}:Mk (o::S) M k↔o.bk=some k∨Mk S M k:=by
 unfold Mk;simp only[List.mem_cons];constructor
 ·rintro(⟨p,rfl | hp,h⟩ | h)
  ·exact .inl h
  ·exact .inr (.inl ⟨p,hp,h⟩)
  ·exact .inr (.inr h)
 ·rintro(h | ⟨p,hp,h⟩ | h)
  ·exact .inl ⟨o,.inl rfl,h⟩
  ·exact .inl ⟨p,.inr hp,h⟩
  ·exact .inr h
theorem tr1 {t:Nat}{q:Prop}{Ψ ρ:PV}{Γ:TE}{S:List Ow}(h:tv Γ (.tmp t)=some (q,Ψ))[hq:Tr q]{X0 X:Cx}[Eqx X0 X](hs:PSub Ψ ρ):TR X0 [t] [ρ] X Γ S :=
 ⟨q∧True,[Ψ],by show tvs Γ [.tmp t]=_;unfold tvs;rw[h];rfl,⟨hq.h,trivial⟩,fun M w vs ⟨v,us,e,h1,h2⟩=>⟨v,us,e,hs _ _ _ h1,h2⟩⟩
theorem psb {b c:Bool}(h:b=c):PSub (exP (.bool b)) (exP (.bool c)):=fun _ _ _ k=>h ▸ k
theorem Cl.new {M M':Nat→Prop}{w w':World}{b:Nat}(hb:Rb w w')(h1:w.heap.size≤b)(hm:∀ k,M' k→k=b∨M k):Cl M w M' w':=fun k cur t fz hk hw=>by
 have hlt:=(zaB.1 hw).1;exact⟨fun c=>(hm k c).elim (fun e=>by omega) hk,(hb.block k hlt).trans hw⟩
section
variable {X : Cx} {w w' : World} {Γ : TE} {S : List Ow} {E : Env}
theorem St.okS (h:St X Γ S E w):∀ o∈S,∀ k,o.bk=some k→k<w.heap.size:=fun o ho k hk=>h.gd.ok k (.inl ⟨o,ho,hk⟩)
theorem St.addb (h:St X Γ S E w){b:Nat}{ty:TypeId}{cs:List CT}{us:List Value}(hn:New w w' b (.cells us.toArray ty (0,0)))(hc:stp cs (Mk S X.M) w us):St X Γ (.blk b ty cs::S) E w':=by
 have hb:=hn.below;have hbs:w.heap.size≤b:=by rw[hn.at_];exact zab _
 have cl:Cl (Mk S X.M) w (Mk (.blk b ty cs::S) X.M) w':=Cl.new hb hbs fun k hk=>(bY.1 hk).imp (fun e=>(Option.some.inj e).symm) id;refine⟨h.bel.bel hb,⟨fun k hk=>?_,h.gd.tab.cl cl,fun o ho=>?_⟩,fun o ho k hk=>?_,⟨fun k hk p hp e=>?_,h.apt⟩,h.ok0,h.zm,h.mko.nc (.rb hb),h.tm.mono cl⟩
 ·rcases bY.1 hk with e | hk
  ·rw[← Option.some.inj e,hn.size,hn.at_];omega
  ·exact zan (h.gd.ok k hk) hb.size
 ·rcases zad.1 ho with rfl | ho
  ·exact⟨us,by have:=hn.blk;simpa using this,yX hc cl⟩
  ·exact Ow.ok_mono (h.gd.own o ho) cl fun k _ hlt=>hb.block k hlt
 ·rcases zad.1 ho with rfl | ho
  ·rw[← Option.some.inj hk];exact .inl (zac h.bel.size hbs)
  ·exact h.new o ho k hk
 ·have:=h.okS p hp k e;rw[← Option.some.inj hk] at this;omega
theorem eG:∀ {S:List Ow} {i j:Nat} {o p:Ow} {b:Nat},Apt S→S[i]? = some o→S[j]? = some p→i≠j→o.bk=some b→p.bk≠some b
 | [],_,_,_,_,_,_,h,_,_,_=>by simp at h
 | q::S,0,0,o,p,b,_,_,_,hne,_=>absurd rfl hne
 | q::S,0,j+1,o,p,b,⟨h1,h2⟩,hi,hj,_,hb=>by
  simp at hi hj;subst hi;exact h1 b hb p (zam hj)
 | q::S,i+1,0,o,p,b,⟨h1,h2⟩,hi,hj,_,hb=>by
  simp at hi hj;subst hj;exact fun e=>h1 b e o (zam hi) hb
 | q::S,i+1,j+1,o,p,b,⟨h1,h2⟩,hi,hj,hne,hb=>eG h2 (by simpa using hi) (by simpa using hj) (by omega) hb
theorem cO:∀ {S:List Ow} {i:Nat} {o p:Ow},Apt S→S[i]? = some o→(∀ b,p.bk=some b→o.bk=some b ∨ ∀ q∈S,q.bk≠some b)→Apt (S.set i p)
 | [],_,_,_,_,h,_=>by simp at h
 | q::S,0,o,p,⟨h1,h2⟩,h,hb=>by
  simp at h;subst h;exact⟨fun b e r hr=>(hb b e).elim (fun k=>h1 b k r hr) (fun k=>k r (by simp[hr])),h2⟩
 | q::S,i+1,o,p,⟨h1,h2⟩,h,hb=>by
  refine⟨fun b e r hr=>?_,cO h2 (by simpa using h) fun b e=>(hb b e).imp id fun k r hr=>k r (by simp[hr])⟩;rcases zbC hr with hr | rfl
  ·exact h1 b e r hr
  ·intro c;rcases hb b c with k | k
   ·exact h1 b e o (List.mem_of_getElem? (by simpa using h)) k
   ·exact k q (by simp) e
theorem bZ {S:List Ow}{i:Nat}{p r:Ow}(h:r∈S.set i p):r=p ∨ ∃ j,j≠i∧S[j]? = some r:=by
 obtain⟨j,hj⟩:=zbR.1 h;by_cases e:i=j
 ·subst e;rw[List.getElem?_set_self (by have:=(List.getElem?_eq_some_iff.1 hj).1;simpa using this)] at hj;exact .inl (Option.some.inj hj).symm
 ·rw[zbl e] at hj;exact .inr ⟨j,fun c=>e c.symm,hj⟩
theorem St.setb (h:St X Γ S E w){i b:Nat}{ty:TypeId}{cs ds:List CT}{us:List Value}(hi:S[i]? = some (.blk b ty cs))(hc:Chg w w' b)(hB:Blk w' b ty us)(hd:stp ds (Mk S X.M) w us):St X Γ (S.set i (.blk b ty ds)) E w':=by
 have hS:Ow.blk b ty cs∈S:=zam hi;have hm:Mk S X.M b:=.inl ⟨_,hS,rfl⟩;have hmk:∀ k,Mk (S.set i (.blk b ty ds)) X.M k→Mk S X.M k:=fun k hk=>hk.elim (fun⟨o,ho,e⟩=>by
  rcases zbC ho with ho | rfl
  ·exact .inl ⟨o,ho,e⟩
  ·exact Option.some.inj e ▸ hm) .inr
 have cl:Cl (Mk S X.M) w (Mk (S.set i (.blk b ty ds)) X.M) w':=fun k cur t fz hk hw=>⟨fun c=>hk (hmk k c),(hc.other k fun e=>hk (e ▸ hm)).trans hw⟩;refine⟨⟨hc.os.trans h.bel.os,hc.tape.trans h.bel.tape,hc.output.trans h.bel.output,by rw[hc.size];exact h.bel.size,fun k hk hz=>?_⟩,⟨fun k hk=>by rw[hc.size];exact h.gd.ok k (hmk k hk),h.gd.tab.cl cl,fun o ho=>?_⟩,fun o ho k hk=>?_,cO h.apt hi fun k e => .inl e,h.ok0,h.zm,h.mko.nc (.but (z:=fun k=>k=b) (fun k _ h=>hc.other k h) fun k e=>e ▸ jQ (h.gd.own _ hS) b rfl),h.tm.mono cl⟩
 ·refine(hc.other k fun e=>?_).trans (h.bel.block k hk hz);subst e;exact(h.new _ hS _ rfl).elim (fun c=>by omega) hz
 ·rcases bZ ho with rfl | ⟨j,hj,hjo⟩
  ·exact⟨us,hB,yX hd cl⟩
  ·exact Ow.ok_mono (h.gd.own o (zam hjo)) cl fun k hk hlt=>hc.other k fun e=>eG h.apt hi hjo (fun c=>hj c.symm) rfl (e ▸ hk)
 ·rcases bZ ho with rfl | ⟨j,hj,hjo⟩
  ·exact h.new _ hS k hk
  ·exact h.new o (zam hjo) k hk
end
def cutT:List CT→Nat→Option (List CT×List CT)
 | cs,0=>some ([],cs)
 | [],_+1=>none
 | c::r,o+1=>bif Nat.ble c.sz (o+1) then(match cutT r (o+1-c.sz) with | some (a,b)=>some (c::a,b) | none=>none) else none
theorem aB:∀ {cs:List CT} {o:Nat} {a b:List CT},cutT cs o=some (a,b)→cs=a++b∧szs a=o
 | cs,0,a,b,h=>by
  cases cs<;>(unfold cutT at h;obtain⟨rfl,rfl⟩:=Prod.mk.inj (Option.some.inj h);exact⟨rfl,rfl⟩)
 | [],o+1,a,b,h=>by simp[cutT] at h
 | c::r,o+1,a,b,h=>by
  unfold cutT at h;cases h1:Nat.ble c.sz (o+1) with
  | false=>rw[h1] at h;cases h
  | true =>
   rw[h1] at h;cases h2:cutT r (o+1-c.sz) with
   | none=>rw[h2] at h;cases h
   | some x =>
    obtain⟨a',b'⟩:=x;rw[h2] at h;obtain⟨rfl,rfl⟩:=Prod.mk.inj (Option.some.inj h);obtain⟨k1,k2⟩:=aB h2;have:=zbZ h1;exact⟨by rw[k1];rfl,by rw[szs,k2];omega⟩
class CtsOf (Ψ:PV)(cs:outParam (List CT)):Prop where
 h:∀ {M w v},Ψ.p M w v→∃ us:List Value,v.cells=us.toArray∧stp cs M w us
instance {l:List CT}:CtsOf (ag (st l)) l:=⟨fun⟨us,e,h⟩=>⟨us,by rw[e];rfl,h⟩⟩
instance (priority:=low){Ψ:PV}{c:CT}[h:CtOf Ψ c]:CtsOf Ψ [c]:=⟨fun k=>let ⟨us,e,g⟩:=h.h k;⟨us,e,us,[],(zas _).symm,g,rfl⟩⟩
section ops
variable {P : Program} {r : Option Nat} {N : Nat} {X : Cx} {K : TK} {Γ : TE} {S : List Ow} {ops : Array Oper} {M : Nat → Prop} {p q qx qy : Prop} {Ψ Ψx Ψy : PV} {d : Nat} {x y : Operand} {t t' : TypeId} {pos : String} {af : Array Edge} {l : List Oper}
theorem obx {c:CT}(hx:tv Γ x=some (qx,Ψx))[Im p qx][hc:CtOf Ψx c]:Ob P r N ops M S p ⟨some d,.box t x,t',pos,af,none⟩ Γ (pa c) :=
 ob1 hx (by simp[Op.operands]) fun D E w u hN hg e1 h1=>by
  obtain⟨us,k1,k2⟩:=hc.h h1;refine zV4 hN e1 fun w' b hn=>xH ⟨rfl,hn.below,_,xO (by simp),b,0,us,rfl,hg.ok.new hn,?_,c.mono k2 (Cl.bel hn.below)⟩;exact⟨u.cells,t,(0,0),hn.obj,fun j v hj=>by rw[k1];simpa using hj⟩
theorem oldo {a:Bool}{sz b o:Nat}{ty:TypeId}{cs:List CT}{c:CT}(i:Nat)(hx:tv Γ x=some (qx,exP (.pointer (some ⟨b,o,none⟩))))[Im p qx](hi:S[i]? = some (.blk b ty cs))[ht:TLd P t a sz](ha:dA cs o=some c)(hs:Nat.beq c.sz sz=true)[hl:LdA a c Ψ]:Ob P r N ops M S p ⟨some d,.load t x,t',pos,af,none⟩ Γ Ψ :=
 ob1 hx (by simp[Op.operands]) fun D E w u hN hg e1 h1=>by
  obtain rfl:u=_:=h1;obtain⟨vs,k3,k4⟩:=hg.own _ (zam hi);have h3:=gQ k4 ha;have h4:=hl.h h3;have h7:=c.len h3;have h6:=zaj hs;have h2:∀(j:Nat) (u:Value),((vs.drop o).take c.sz)[j]? = some u→w.cell? ⟨b,o+j,none⟩=some u:=fun j u hj=>by
   rw[k3.cell];rw[zaN] at hj;split at hj
   ·simpa using hj
   ·cases hj
  have h5:=ht.h;cases a with
  | true =>
   obtain⟨bytes,z,k2⟩:=ht.s;exact bC hN h5 k2 e1 h2 (h7.trans h6) (fin h4)
  | false =>
   obtain⟨k1,rfl⟩:=h5;rw[h6] at h7 h2 h4;obtain⟨v,hv⟩:=zcC.1 h7;rw[hv] at h2 h4;exact bD hN k1 e1 (by have:=h2 0 v rfl;simpa using this) (fin (h4 v rfl))
theorem tbx {cs:List CT}(hx:tv Γ x=some (qx,Ψx))[Tr qx][hc:CtsOf Ψx cs](h:∀ b,TO P r N ops X K l ((d,True,exP (.pointer (some ⟨b,0,none⟩)))::Γ) (.blk b t cs::S)) :
  TO P r N ops X K (⟨some d,.box t x,t',pos,af,none⟩::l) Γ S:=fun hN D E w hs=>by
 unfold okN at hN;simp only[zaX,zaq] at hN;obtain⟨u,e1,h1⟩:=gR hs hx;obtain⟨us,k1,k2⟩:=hc.h h1;refine zV4 hN.1 e1 fun w' b hn=>?_;rw[k1] at hn;exact h b hN.2 D _ w' ((hs.addb hn k2).put (xI _) (fun _=>rfl) (fun c=>absurd trivial c))
theorem tst {b o:Nat}{ty:TypeId}{cs A B B1 B2:List CT}{c:CT}{a:Bool}{sz:Nat}(i:Nat)(hi:S[i]? = some (.blk b ty cs))(hx:tv Γ x=some (qx,exP (.pointer (some ⟨b,o,none⟩))))(hy:tv Γ y=some (qy,Ψy))[Tr qx][Tr qy][hc:CtOf Ψy c][ht:TLd P t a sz]
  (hs:Nat.beq c.sz sz=true) (hA:cutT cs o=some (A,B)) (hB:cutT B c.sz=some (B1,B2)) (h:TO P r N ops X K l Γ (S.set i (.blk b ty (A++c::B2)))) :
  TO P r N ops X K (⟨none,.store t x y,t',pos,af,none⟩::l) Γ S:=fun hN D E w hst=>by
 unfold okN at hN;simp only[zaX,zaq] at hN;obtain⟨u,e1,h1⟩:=gR hst hx;obtain rfl:u=_:=h1;obtain⟨v,e2,h2⟩:=gR hst hy;obtain⟨us,k1,k2⟩:=hc.h h2;obtain⟨vs,k3,k4⟩:=hst.gd.own _ (zam hi);obtain⟨rfl,f2⟩:=aB hA;obtain⟨rfl,f4⟩:=aB hB;obtain⟨va,vb,rfl,g1,g2⟩:=jS k4;obtain⟨vc,vd,rfl,g3,g4⟩:=jS g2;have hl1:=jN g1;have hl3:=jN g3;have hl:=c.len k2;have hsz:=zaj hs;obtain⟨bytes,z,hz⟩:=ht.s;refine uG e1 e2 hz k3 (by rw[k1];simp;omega) (by simp;omega) (by rw[k1];exact fun u hu=>c.one k2 u (by simpa using hu)) fun w' hch hB'=>?_;refine h hN.2 D E w' (hst.setb hi hch hB' ?_);have e:va++(vc++vd)=va++(vc++vd):=rfl;rw[k1];have e3:(va++(vc++vd)).take o=va:=by rw[← f2,← hl1,zcB]
 have e4:(va++(vc++vd)).drop (o+sz)=vd:=by rw[← hsz,← f4,← hl3,← f2,← hl1,← zbW,zbI,zbI]
 rw[e3,e4,zaA];exact uM g1 ⟨us,vd,rfl,k2,g4⟩
end ops
class TZ (P:Program)(t:TypeId)(z:outParam Value):Prop where
 s:∃ sz bytes,Sz P t sz bytes z
 o:(z.cells.toList.all fun u=>u.oneCell')=true
def zc (z:Value):List CT:=z.cells.toList.map xc
theorem zO7 {M:Nat→Prop}{w:World}:∀ {us:List Value},(us.all fun u=>u.oneCell')=true→stp (us.map xc) M w us
 | [],_=>rfl
 | u::us,h=>by
  simp only[zaX,zaq] at h;exact⟨[u],us,rfl,⟨rfl,h.1⟩,zO7 h.2⟩
def bks (S:List Ow):Nat→Prop:=fun b=>∃ o∈S,o.bk=some b
structure CTo (P:Program)(f:FuncId)(τs:List PV)(Si:List Ow)(Q:PV→List Ow→Prop):Prop where
 bod:Bod P f
 run:∀(M:Nat→Prop) (w:World) (vs:List Value),Gd (Mk Si M) Si w→Apt Si→(∀ b,bks Si b→¬ M b)→OkM M w→Fa τs (Mk Si M) w vs →
  CallsV P f vs w fun v w'=>BZ (cx M w (bks Si)) w'∧∃ ρ So,Q ρ So∧Gd (Mk So M) So w'∧Apt So∧(∀ b,bks So b→w.heap.size≤b∨bks Si b)∧ρ.p (Mk So M) w' v
def qN:List Ow→Nat→List Nat→List Ow×List Ow
 | [],_,_=>([],[])
 | o::S,i,is=>let r:=qN S (i+1) is;bif is.any (Nat.beq i) then(o::r.1,r.2) else(r.1,o::r.2)
theorem dQ:∀ {S:List Ow} {i:Nat} {is:List Nat} {o:Ow},o∈S↔o∈(qN S i is).1∨o∈(qN S i is).2
 | [],i,is,o=>by simp[qN]
 | p::S,i,is,o=>by
  have ih:=@dQ S (i+1) is o;unfold qN;cases is.any (Nat.beq i)<;>simp only[cond_true,cond_false,zad,ih]
  ·constructor
   ·rintro(h | h | h);exact .inr (.inl h);exact .inl h;exact .inr (.inr h)
   ·rintro(h | h | h);exact .inr (.inl h);exact .inl h;exact .inr (.inr h)
  ·constructor
   ·rintro(h | h | h);exact .inl (.inl h);exact .inl (.inr h);exact .inr h
   ·rintro((h | h) | h);exact .inl h;exact .inr (.inl h);exact .inr (.inr h)
theorem iK:∀ {S:List Ow} {i:Nat} {is:List Nat},Apt S→Apt (qN S i is).1∧Apt (qN S i is).2∧∀ o∈(qN S i is).1,∀ b,o.bk=some b→∀ p∈(qN S i is).2,p.bk≠some b
 | [],i,is,_=>⟨trivial,trivial,by simp[qN]⟩
 | p::S,i,is,⟨h1,h2⟩=>by
  obtain⟨a1,a2,a3⟩:=@iK S (i+1) is h2;have hm:∀ q,q∈(qN S (i+1) is).1∨q∈(qN S (i+1) is).2→q∈S:=fun q h=>dQ.2 h;unfold qN;cases is.any (Nat.beq i)<;>simp only[cond_true,cond_false]
  ·refine⟨a1,⟨fun b hb q hq=>h1 b hb q (hm q (.inr hq)),a2⟩,fun o ho b hb q hq=>?_⟩;rcases zad.1 hq with rfl | hq
   ·exact fun e=>h1 b e o (hm o (.inl ho)) hb
   ·exact a3 o ho b hb q hq
  ·refine⟨⟨fun b hb q hq=>h1 b hb q (hm q (.inl hq)),a1⟩,a2,fun o ho b hb q hq=>?_⟩;rcases zad.1 ho with rfl | ho
   ·exact h1 b hb q (hm q (.inr hq))
   ·exact a3 o ho b hb q hq
theorem nQ:∀ {S T:List Ow},Apt S→Apt T→(∀ o∈S,∀ b,o.bk=some b→∀ p∈T,p.bk≠some b)→Apt (S++T)
 | [],T,_,h,_=>h
 | o::S,T,⟨h1,h2⟩,h,hc=>⟨fun b hb p hp=>(zae.1 hp).elim (h1 b hb p) (hc o (by simp) b hb p),nQ h2 h fun q hq=>hc q (by simp[hq])⟩
theorem kT {S T:List Ow}{M:Nat→Prop}:Mk (S++T) M=Mk S (Mk T M):=by
 funext k;apply propext;unfold Mk;simp only[List.mem_append]
 constructor
 ·rintro(⟨p,hp | hp,h⟩ | h)
  ·exact .inl ⟨p,hp,h⟩
  ·exact .inr (.inl ⟨p,hp,h⟩)
  ·exact .inr (.inr h)
 ·rintro(⟨p,hp,h⟩ | ⟨p,hp,h⟩ | h)
  ·exact .inl ⟨p,.inl hp,h⟩
  ·exact .inl ⟨p,.inr hp,h⟩
  ·exact .inr h
theorem fK:∀ {S T:List Ow},S.Sublist T→Apt T→Apt S
 | _,_,.slnil,h=>h
 | _,_,.cons _ h,⟨_,h2⟩=>fK h h2
 | _,_,.cons_cons _ h,⟨h1,h2⟩=>⟨fun b hb p hp=>h1 b hb p (h.subset hp),fK h h2⟩
theorem dU {S T:List Ow}{M:Nat→Prop}(h:S.Sublist T):∀ k,Mk S M k→Mk T M k:=fun k hk=>hk.imp (fun⟨o,ho,e⟩=>⟨o,h.subset ho,e⟩) id
theorem Gd.sub {S T:List Ow}{M:Nat→Prop}{w:World}(h:Gd (Mk T M) T w)(hs:S.Sublist T):Gd (Mk S M) S w :=
 ⟨fun k hk=>h.ok k (dU hs k hk),h.tab.cl (Cl.less (dU hs)),fun o ho=>Ow.ok_mono (h.own o (hs.subset ho)) (Cl.less (dU hs)) fun _ _ _=>rfl⟩
section
variable {X : Cx} {w w' : World} {Γ : TE} {S Si Sr So : List Ow} {E : Env}
theorem St.call (h:St X Γ S E w){is:List Nat}(hp:qN S 0 is=(Si,Sr))(hb:BZ (cx (Mk Sr X.M) w (bks Si)) w')(hg:Gd (Mk So (Mk Sr X.M)) So w')(ha:Apt So)(hn:∀ b,bks So b→w.heap.size≤b∨bks Si b):St X Γ (So++Sr) E w':=by
 have hm:∀ o,o∈S↔o∈Si∨o∈Sr:=fun o=>by have:=@dQ S 0 is o;rw[hp] at this;exact this
 have hap:=@iK S 0 is h.apt;rw[hp] at hap;obtain⟨a1,a2,a3⟩:=hap;have hSi:∀ b,bks Si b→Mk S X.M b:=fun b ⟨o,ho,e⟩ => .inl ⟨o,(hm o).2 (.inl ho),e⟩;have hSr:∀ k,Mk Sr X.M k→Mk S X.M k:=fun k hk=>hk.imp (fun⟨o,ho,e⟩=>⟨o,(hm o).2 (.inr ho),e⟩) id;have cl:Cl (Mk S X.M) w (Mk (So++Sr) X.M) w':=fun k cur t fz hk hw=>by
  have hlt:=(zaB.1 hw).1;refine⟨fun c=>?_,(hb.block k hlt fun c=>hk (hSi k c)).trans hw⟩;rw[kT] at c;rcases c with c | c
  ·exact(hn k c).elim (fun c=>by omega) fun c=>hk (hSi k c)
  ·exact hk (hSr k c)
 refine⟨⟨hb.os.trans h.bel.os,hb.tape.trans h.bel.tape,hb.output.trans h.bel.output,zac h.bel.size hb.size,fun k hk hz=>?_⟩,⟨by rw[kT];exact hg.ok,by rw[kT];exact hg.tab,fun o ho=>?_⟩,fun o ho b e=>?_,nQ ha a2 fun o ho b e p hp'=>?_,h.ok0,h.zm,h.mko.nc (.but (z:=bks Si) (fun b hb' hz=>hb.block b hb' hz) fun b ⟨o,ho,e⟩=>jQ (h.gd.own o ((hm o).2 (.inl ho))) b e),h.tm.mono cl⟩
 ·refine(hb.block k (zan hk h.bel.size) fun⟨o,ho,e⟩=>?_).trans (h.bel.block k hk hz);exact(h.new o ((hm o).2 (.inl ho)) k e).elim (fun c=>by omega) hz
 ·rcases zae.1 ho with ho | ho
  ·rw[kT];exact hg.own o ho
  ·exact Ow.ok_mono (h.gd.own o ((hm o).2 (.inr ho))) cl fun b e hlt=>hb.block b hlt fun⟨p,hp',e'⟩=>a3 p hp' b e' o ho e
 ·rcases zae.1 ho with ho | ho
  ·rcases hn b ⟨o,ho,e⟩ with c | ⟨p,hp',e'⟩
   ·exact .inl (zac h.bel.size c)
   ·exact h.new p ((hm p).2 (.inl hp')) b e'
  ·exact h.new o ((hm o).2 (.inr ho)) b e
 ·rcases hn b ⟨o,ho,e⟩ with c | ⟨q,hq,e'⟩
  ·intro e2;have:=h.okS p ((hm p).2 (.inr hp')) b e2;omega
  ·exact a3 q hq b e' p hp'
theorem St.hand (h:St X Γ S E w){is:List Nat}(hp:qN S 0 is=(Si,Sr)):Mk Si (Mk Sr X.M)=Mk S X.M∧Gd (Mk Si (Mk Sr X.M)) Si w∧Apt Si∧(∀ b,bks Si b→¬ Mk Sr X.M b)∧OkM (Mk Sr X.M) w:=by
 have hm:∀ o,o∈S↔o∈Si∨o∈Sr:=fun o=>by have:=@dQ S 0 is o;rw[hp] at this;exact this
 have hap:=@iK S 0 is h.apt;rw[hp] at hap;obtain⟨a1,a2,a3⟩:=hap;have e:Mk Si (Mk Sr X.M)=Mk S X.M:=by
  funext k;apply propext;unfold Mk
  constructor
  ·rintro(⟨o,ho,e⟩ | ⟨o,ho,e⟩ | c)
   ·exact .inl ⟨o,(hm o).2 (.inl ho),e⟩
   ·exact .inl ⟨o,(hm o).2 (.inr ho),e⟩
   ·exact .inr c
  ·rintro(⟨o,ho,e⟩ | c)
   ·rcases (hm o).1 ho with ho | ho
    ·exact .inl ⟨o,ho,e⟩
    ·exact .inr (.inl ⟨o,ho,e⟩)
   ·exact .inr (.inr c)
 have hSr:∀ k,Mk Sr X.M k→Mk S X.M k:=fun k hk=>hk.imp (fun⟨o,ho,e⟩=>⟨o,(hm o).2 (.inr ho),e⟩) id;refine⟨e,by rw[e];exact⟨h.gd.ok,h.gd.tab,fun o ho=>h.gd.own o ((hm o).2 (.inl ho))⟩,a1,fun b ⟨o,ho,eb⟩ c=>?_,fun k hk=>h.gd.ok k (hSr k hk)⟩;rcases c with⟨p,hp',e'⟩ | c
 ·exact a3 o ho b eb p hp' e'
 ·rcases h.new o ((hm o).2 (.inl ho)) b eb with hb | hb
  ·have:=h.ok0 b c;omega
  ·exact h.zm b hb c
end
section ops
variable {P : Program} {r : Option Nat} {N : Nat} {X : Cx} {K : TK} {Γ : TE} {S Si Sr : List Ow} {ops : Array Oper} {M : Nat → Prop} {p q qx qy : Prop} {Ψ Ψx Ψy : PV} {d : Nat} {x y : Operand} {t t' : TypeId} {pos : String} {af : Array Edge} {l : List Oper}
theorem tco {f:FuncId}{xs:List Operand}{ts:Array TypeId}{τs ca:List PV}{Q:PV→List Ow→Prop}(is:List Nat)(hp:qN S 0 is=(Si,Sr))(hf:tv Γ x=some (qx,Ψx))(hx:tvs Γ xs=some (q,τs))[hqx:Tr qx][hq:Tr q][hv:VF Ψx f ca](hk:CTo P f (τs++ca) Si Q)
  (h:∀ ρ So,Q ρ So→TO P r N ops X K l ((d,True,ρ)::Γ) (So++Sr)):TO P r N ops X K (⟨some d,.call ⟨.value x,xs.toArray,ts⟩,t',pos,af,none⟩::l) Γ S:=fun hN D E w hs=>by
 unfold okN at hN;simp only[zaX,zaq] at hN;obtain⟨u,e1,h1⟩:=gR hs hf;obtain⟨vs,e2,h2⟩:=gU (hs.tm.tm (Γ.map (·.1))) hx hq.h fun x hxm t e=>by
  subst e;have:∀ {xs:List Operand} {q:Prop} {l:List PV},tvs Γ xs=some (q,l) → .tmp t∈xs→∃ q,tf Γ t=some q:=by
   intro xs
   induction xs with
   | nil=>intro _ _ _ h;simp at h
   | cons y ys ih =>
    intro q l hy hm;unfold tvs at hy;cases h3:tv Γ y with
    | none=>rw[h3] at hy;cases hy
    | some a =>
     cases h4:tvs Γ ys with
     | none=>rw[h3,h4] at hy;cases hy
     | some b =>
      rcases zad.1 hm with rfl | hm
      ·exact⟨a,h3⟩
      ·exact ih h4 hm
  obtain⟨q',hq'⟩:=this hx hxm;exact dG hq'
 obtain⟨us,rfl,h3⟩:=hv.h h1;obtain⟨g1,g2,g3,g4,g5⟩:=hs.hand hp;refine lS hN.1 hk.bod e1 e2 ((hk.run (Mk Sr X.M) w (vs++us) g2 g3 g4 g5 (by rw[g1];exact h2.app h3)).mono ?_);rintro v w' ⟨k1,ρ,So,k2,k3,k4,k5,k6⟩;exact h ρ So k2 hN.2 D _ w' ((hs.call hp k1 k3 k4 k5).put (xI _) (fun _=>by rw[kT];exact k6) (fun c=>absurd trivial c))
end ops
theorem vF {M:Nat→Prop}{w:World}{v:Value}{ty:TypeId}{k n:Nat}{us:List Value}(h:w.ownsRow 0 ty k v n us)(hm:∀ b,v.ownBlock=some b→¬ M b):Slc M w k v n us:=by
 obtain⟨h1,⟨rfl,rfl⟩ | ⟨g,cap,cur,rfl,_,hg,hnc,hcm,hcs,htk⟩⟩:=h
 ·exact⟨h1,by omega,none,0,rfl,zab _,.inl rfl⟩
 ·refine⟨h1,by simp[maxLen] at hcm;omega,_,cap,rfl,hnc,.inr ⟨g,0,rfl,hm g rfl,cur,ty,_,hg,fun j u hj=>?_⟩⟩;rw[← htk,zaN] at hj;split at hj
  ·simpa using hj
  ·cases hj
theorem dR {w:World}{v:Value}{ty:TypeId}{k n:Nat}{us:List Value}(h:w.ownsRow 0 ty k v n us)(hn:0<n):∃ g cap cur,v = .slice (some ⟨g,0,none⟩) n cap∧w.heap[g]? = some (.cells cur ty (0,0))∧n≤cap∧cap≤maxLen∧cur.size=cap*k∧cur.toList.take (n*k)=us:=by
 obtain⟨h1,⟨rfl,rfl⟩ | ⟨g,cap,cur,rfl,_,h⟩⟩:=h
 ·omega
 ·exact⟨g,cap,cur,rfl,h⟩
theorem bF {S:List Ow}{i:Nat}{p:Ow}(h:p∈S.eraseIdx i):∃ j,j≠i∧S[j]? = some p:=by
 obtain⟨j,h1,h2⟩:=zcX.1 h;exact⟨j,h1,h2⟩
section
variable {X : Cx} {w w' : World} {Γ Γ' : TE} {S S' : List Ow} {E : Env}
theorem St.sub (h:St X Γ S E w)(hs:S'.Sublist S):St X Γ S' E w :=
 ⟨h.bel,h.gd.sub hs,fun o ho=>h.new o (hs.subset ho),fK hs h.apt,h.ok0,h.zm,h.mko,h.tm.mono (Cl.less (dU hs))⟩
theorem St.frz (h:St X Γ S E w){i:Nat}{v:Value}{ty:TypeId}{k:Nat}{l:List CT}(hi:S[i]? = some (.row v ty k l)):(sl k l).p (Mk (S.eraseIdx i) X.M) w [v]:=by
 have hm:Ow.row v ty k l∈S:=zam hi;obtain⟨us,h1,h2,h3⟩:=h.gd.own _ hm;refine⟨v,us,rfl,vF h1 fun b hb c=>?_,yX h2 (Cl.less (dU (zca S i))),h3⟩;rcases c with⟨p,hp,e⟩ | c
 ·obtain⟨j,hj,hp⟩:=bF hp;exact eG h.apt hi hp (fun c=>hj c.symm) hb e
 ·rcases h.new _ hm b hb with h4 | h4
  ·have:=h.ok0 b c;omega
  ·exact h.zm b h4 c
theorem St.setr (h:St X Γ S E w){i:Nat}{v v':Value}{ty:TypeId}{k:Nat}{l l':List CT}{us:List Value}(hi:S[i]? = some (.row v ty k l))(hg:Gro w w' v.ownBlock)(ho:w'.ownsRow 0 ty k v' l'.length us)(hv:v'.ownBlock=v.ownBlock∨v'.ownBlock=some w.heap.size)(hl:stp l' (Mk S X.M) w us)(ha:uB k l')(hv0:∀ b,v'.ownBlock=some b→b<w'.heap.size):St X Γ (S.set i (.row v' ty k l')) E w':=by
 have hS:Ow.row v ty k l∈S:=zam hi;have hmk:∀ b,Mk (S.set i (.row v' ty k l')) X.M b→Mk S X.M b∨b=w.heap.size:=fun b hk=>hk.elim (fun⟨o,ho',e⟩=>by
  rcases zbC ho' with ho' | rfl
  ·exact .inl (.inl ⟨o,ho',e⟩)
  ·rcases hv with c | c
   ·exact .inl (.inl ⟨_,hS,c.symm.trans e⟩)
   ·exact .inr (Option.some.inj (e.symm.trans c))) (fun c => .inl (.inr c))
 have hown:∀ b,Mk S X.M b∨some b≠v.ownBlock:=fun b=>by
  by_cases e:some b=v.ownBlock
  ·exact .inl (.inl ⟨_,hS,e.symm⟩)
  ·exact .inr e
 have cl:Cl (Mk S X.M) w (Mk (S.set i (.row v' ty k l')) X.M) w':=fun b cur t fz hk hw=>by
  have hlt:=(zaB.1 hw).1;exact⟨fun c=>(hmk b c).elim hk (fun e=>by omega),(hg.block b hlt ((hown b).elim (fun c=>absurd c hk) id)).trans hw⟩
 refine⟨⟨hg.os.trans h.bel.os,hg.tape.trans h.bel.tape,hg.output.trans h.bel.output,zac h.bel.size hg.size,fun b hb hz=>?_⟩,⟨fun b hb=>?_,h.gd.tab.cl cl,fun o ho'=>?_⟩,fun o ho' b hb=>?_,cO h.apt hi fun b e=>?_,h.ok0,h.zm,h.mko.nc (.but (z:=fun b=>some b=v.ownBlock) (fun b h k=>hg.block b h k) fun b e=>jQ (h.gd.own _ (zam hi)) b e.symm),h.tm.mono cl⟩
 ·refine(hg.block b (zan hb h.bel.size) fun e=>?_).trans (h.bel.block b hb hz);exact(h.new _ hS b e.symm).elim (fun c=>by omega) hz
 ·rcases hb with⟨o,ho',e⟩ | c
  ·rcases zbC ho' with ho' | rfl
   ·exact zan (h.okS o ho' b e) hg.size
   ·exact hv0 b e
  ·exact zan (h.gd.ok b (.inr c)) hg.size
 ·rcases bZ ho' with rfl | ⟨j,hj,hjo⟩
  ·exact⟨us,ho,yX hl cl,ha⟩
  ·exact Ow.ok_mono (h.gd.own o (zam hjo)) cl fun b hb hlt=>hg.block b hlt fun e=>eG h.apt hi hjo (fun c=>hj c.symm) e.symm hb
 ·rcases bZ ho' with rfl | ⟨j,hj,hjo⟩
  ·rcases hv with c | c
   ·exact h.new _ hS b (c.symm.trans hb)
   ·obtain rfl:w.heap.size=b:=Option.some.inj (c.symm.trans hb);exact .inl h.bel.size
  ·exact h.new o (zam hjo) b hb
 ·rcases hv with c | c
  ·exact .inl (c.symm.trans e)
  ·obtain rfl:w.heap.size=b:=Option.some.inj (c.symm.trans e);exact .inr fun q hq e2=>by have:=h.okS q hq _ e2;omega
theorem jG (ty:TypeId)(k:Nat):Ts X Γ S Γ (.row (.slice none 0 0) ty k []::S):=fun E w h=>by
 have hmk:∀ M,Mk (.row (.slice none 0 0) ty k []::S) M=Mk S M:=fun M=>funext fun b=>propext (by rw[bY];exact⟨fun c=>c.elim (fun e=>by cases e) id,.inr⟩);refine⟨h.bel,⟨by rw[hmk];exact h.gd.ok,by rw[hmk];exact h.gd.tab,fun o ho=>?_⟩,fun o ho b e=>?_,⟨fun b e=>(by cases e),h.apt⟩,h.ok0,h.zm,h.mko,by rw[hmk];exact h.tm⟩
 ·rw[hmk];rcases zad.1 ho with rfl | ho
  ·exact⟨[],World.ownsRow_nil w 0 ty k,rfl,by simp[uB]⟩
  ·exact h.gd.own o ho
 ·rcases zad.1 ho with rfl | ho
  ·cases e
  ·exact h.new o ho b e
theorem yV {v:Value}{ty:TypeId}{k s:Nat}{l:List CT}{q:Prop}(i:Nat)(hi:S[i]? = some (.row v ty k l))(hs:tf Γ s=some (q,exP v)):Ts X Γ S ((s,q,sv (sl k l))::Γ) (S.eraseIdx i):=fun E w h=>by
 have h1:=h.frz hi;have h2:=h.sub (zca S i);refine⟨h2.bel,h2.gd,h2.new,h2.apt,h2.ok0,h2.zm,h2.mko,fun t q' ht=>?_⟩;unfold tf at ht;cases hb:Nat.beq s t with
 | true =>
  rw[hb] at ht;obtain rfl:=zaj hb;obtain rfl:=Option.some.inj ht;have h3:=h.tm s _ hs;exact⟨fun c=>let ⟨u,h4,h5⟩:=h3.1 c;⟨u,h4,by rw[show u=v from h5];exact h1⟩,h3.2⟩
 | false=>rw[hb] at ht;exact h2.tm t q' ht
theorem ts_sub (hs:S'.Sublist S):Ts X Γ S Γ S':=fun E w h=>h.sub hs
theorem Ts.trans {Γ1 Γ2 Γ3:TE}{S1 S2 S3:List Ow}(h:Ts X Γ1 S1 Γ2 S2)(k:Ts X Γ2 S2 Γ3 S3):Ts X Γ1 S1 Γ3 S3:=fun E w h1=>k E w (h E w h1)
def Tsub (Γ Γ':TE):Prop:=∀ s q,tf Γ' s=some q→∃ q0,tf Γ s=some q0∧(q.1↔q0.1)∧PSub q0.2 q.2
theorem tn:Tsub Γ []:=fun s q h=>by cases h
theorem tc {s:Nat}{q:Prop}{Ψ Φ:PV}(h:tf Γ s=some (q,Ψ))[hq:Tr q](hp:PSub Ψ Φ)(k:Tsub Γ Γ'):Tsub Γ ((s,True,Φ)::Γ'):=fun t r ht=>by
 unfold tf at ht;cases hb:Nat.beq s t with
 | true =>
  rw[hb] at ht;obtain rfl:=zaj hb;obtain rfl:=Option.some.inj ht;exact⟨_,h,⟨fun _=>hq.h,fun _=>trivial⟩,hp⟩
 | false=>rw[hb] at ht;exact k t r ht
theorem fN (h:Tsub Γ Γ')(e:S=S'):Ts X Γ S Γ' S':=fun E w k=>by
 subst e;refine⟨k.bel,k.gd,k.new,k.apt,k.ok0,k.zm,k.mko,fun s q hs=>?_⟩;obtain⟨q0,h1,h2,h3⟩:=h s q hs;have h4:=k.tm s q0 h1;exact⟨fun c=>let ⟨v,g1,g2⟩:=h4.1 (h2.1 c);⟨v,g1,h3 _ _ _ g2⟩,fun c=>h4.2 fun d=>c (h2.2 d)⟩
end
theorem ps_r (Ψ:PV):PSub Ψ Ψ:=PSub.refl Ψ
theorem ps_i {k:IntKind}{a b:Int}(h:a=b):PSub (exP (.int k a)) (exP (.int k b)):=fun _ _ _ k=>h ▸ k
def eP (v:Value)(k j:Nat):PV:=⟨fun _ _ u=>∃ g n c,v = .slice (some ⟨g,0,none⟩) n c∧u = .pointer (some ⟨g,j*k,none⟩),fun h _=>h⟩
class DT (l:List CT)(a b:Nat)(l':outParam (List CT)):Prop where
 h:(l.drop a).take (b-a)=l'
instance {α:Type}{f:α→CT}{xs:List α}{a b:Nat}:DT (xs.map f) a b (((xs.drop a).take (b-a)).map f):=⟨by rw[← List.map_drop,← List.map_take]⟩
theorem iH {k a:Nat}{l:List CT}{us:List Value}{M:Nat→Prop}{w:World}(h3:uB k l)(h:stp l M w us)(ha:a≤l.length):stp (l.take a) M w (us.take (a*k))∧stp (l.drop a) M w (us.drop (a*k)):=by
 rw[← zbb a l] at h;obtain⟨x,y,rfl,h1,h2⟩:=jS h;have hx:=jN h1;rw[uQ h3 ha] at hx;rw[← hx,zcB,zbI];exact⟨h1,h2⟩
section ops
variable {P : Program} {r : Option Nat} {N : Nat} {X : Cx} {K : TK} {Γ : TE} {S : List Ow} {ops : Array Oper} {M : Nat → Prop} {p q qx qy qi : Prop} {Ψ Ψx Ψy Ψi : PV} {d : Nat} {x y ix : Operand} {t t' : TypeId} {pos : String} {af : Array Edge} {l : List Oper}
variable {v : Value} {ty e : TypeId} {k bytes : Nat} {cs : List CT} {c : CT}
theorem olno {n:Nat}(i:Nat)(hx:tv Γ x=some (qx,exP v))[Im p qx](hi:S[i]? = some (.row v ty k cs))[ht:TSl P t e k bytes][hl:LL cs n]:Ob P r N ops M S p ⟨some d,.call ⟨.builtin .len,#[x],#[t]⟩,t',pos,af,none⟩ Γ (exP (.int .i64 (n:Int))) :=
 ob1 hx (by simp[Op.operands,Call.operands]) fun D E w u hN hg e1 h1=>by
  obtain rfl:u=v:=h1;obtain⟨us,h1,h2,h3⟩:=hg.own _ (zam hi);have h4:=vF (M:=fun _=>False) h1 (fun _ _ c=>c);have:=zJ5 (rest:=[]) (K:=fun D' E' w'=>D'=D∧Rb w w'∧∃ v,get E' d=some v∧(exP (.int .i64 (n:Int))).p M w' v) (r:=r) (all:=ops) (D:=D) (t':=t') (pos:=pos) (af:=af) hN ht.u e1 h4 (by rw[hl.h];exact fin rfl);exact this
theorem oixo {ki:IntKind}{a:Int}(i j:Nat)(hi:S[i]? = some (.row v ty k cs))(hx:tv Γ x=some (qx,exP v))(hix:tv Γ ix=some (qi,Ψi))[Im p qx][Im p qi][ht:TSl P t e k bytes][hki:VI Ψi ki a](hij:p→a=(j:Int))(hj:p→j<cs.length) :
  Ob P r N ops M S p ⟨some d,.indexAddr t x ix,t',pos,af,none⟩ Γ (eP v k j):=fun D E w d' hd hN hg hp hT=>by
 obtain rfl:=Option.some.inj hd;obtain⟨u,e1,h1⟩:=yL hT hx hp (by simp[Op.operands]);obtain rfl:u=v:=h1;obtain⟨u2,e2,h2⟩:=yL hT hix hp (by simp[Op.operands]);rw[hki.h h2] at e2;obtain⟨us,g1,g2,g3⟩:=hg.own _ (zam hi);have hjl:=hj hp;obtain⟨g,cap,cur,rfl,_⟩:=dR g1 (by omega);obtain⟨z,hz,_⟩:=ht.s;refine yB hN (by intro c hc;cases hc) (fun ac ha=>?_) (fin ⟨g,_,_,rfl,rfl⟩);have e3:(Instr.indexAt t (.slice (some ⟨g,0,none⟩) cs.length cap) (.int ki a)).run P w = .ok (.pointer (some ⟨g,j*k,none⟩)) w:=by
  rw[hij hp];simp[Instr.indexAt,asIntOf,run_underlying ht.u,Result.andThen,xK hz,hjl,xV]
 simp only[execOp,ha.ev e1,ha.ev e2,Sem.run_bind,e3,Result.andThen];rfl
theorem oldr {a:Bool}{sz j:Nat}(i:Nat)(hi:S[i]? = some (.row v ty k cs))(hx:tv Γ x=some (qx,eP v k j))[Im p qx][ht:TLd P t a sz](hj:p→j<cs.length)[hl:LA cs j c](hs:Nat.beq k sz=true)[hl2:LdA a c Ψ]:Ob P r N ops M S p ⟨some d,.load t x,t',pos,af,none⟩ Γ Ψ:=fun D E w d' hd hN hg hp hT=>by
 obtain rfl:=Option.some.inj hd;obtain⟨u,e1,g,n,cc,rfl,rfl⟩:=yL hT hx hp (by simp[Op.operands]);obtain⟨us,g1,g2,g3⟩:=hg.own _ (zam hi);have hjl:=hj hp;obtain⟨g',cap,cur,e2,hb,hnc,hcm,hcs,htk⟩:=dR g1 (by omega);injection e2 with e2 e3 e4;injection e2 with e2;injection e2 with e2;subst e2;have hc:=hl.h hjl;have h6:=fR g2 hc;rw[uQ g3 (zbU hjl),g3 c (zam hc)] at h6;have h4:=hl2.h h6;have h5:=ht.h;have h7:=c.len h6;have hk:=g3 c (zam hc);have hsz:=zaj hs;have h2:∀(q:Nat) (u:Value),((us.drop (j*k)).take k)[q]? = some u→w.cell? ⟨g,j*k+q,none⟩=some u:=fun q u hq=>by
  rw[zaN] at hq;split at hq
  ·rw[List.getElem?_drop,← htk,zaN] at hq;split at hq
   ·simp only[World.cell?,hb];simpa using hq
   ·cases hq
  ·cases hq
 cases a with
 | true =>
  obtain⟨by2,z,k2⟩:=ht.s;exact bC hN h5 k2 e1 h2 (h7.trans (hk.trans hsz)) (fin h4)
 | false =>
  obtain⟨k1,rfl⟩:=h5;subst hsz;rw[hk] at h7;obtain⟨v,hv⟩:=zcC.1 h7;rw[hv] at h2 h4;exact bD hN k1 e1 (by have:=h2 0 v rfl;simpa using this) (fin (h4 v rfl))
theorem tapw {m:List CT}(i:Nat)(hi:S[i]? = some (.row v e k cs))(hx:tv Γ x=some (qx,exP v))(hy:tv Γ y=some (qy,Ψy))[Tr qx][Tr qy][ht:TSl P t e k bytes][hv:VS Ψy k m](hn:cs.length+m.length≤140737488355328)(hb:(cs.length+m.length)*bytes≤140737488355328)
  (h:∀ v',TO P r N ops X K l ((d,True,exP v')::Γ) (S.set i (.row v' e k (cs++m)))):TO P r N ops X K (⟨some d,.call ⟨.builtin .append,#[x,y],#[t,t]⟩,t',pos,af,none⟩::l) Γ S:=fun hN D E w hs=>by
 unfold okN at hN;simp only[zaX,zaq] at hN;obtain⟨u,e1,h1⟩:=gR hs hx;obtain rfl:u=v:=h1;obtain⟨u2,e2,h2⟩:=gR hs hy;obtain⟨us,g1,g2,g3⟩:=hs.gd.own _ (zam hi);obtain⟨u3,vs,e3,h3,h4,h5⟩:=hv.h h2;obtain rfl:=zbp.1 e3;obtain⟨z,hz,hzc⟩:=ht.s;refine mN hN.1 ht.u hz hzc (by have:=zby ht.n;rw[Nat.blt_eq];omega) e1 e2 g1 h3 (nB h4) hn hb fun v' w' k1 k2 k3=>?_;have hb2:∀ b,v'.ownBlock=some b→b<w'.heap.size:=fun b hb=>by
  obtain⟨_,⟨rfl,_⟩ | ⟨g,cap,cur,rfl,_,hg,_⟩⟩:=k1
  ·cases hb
  ·rw[← Option.some.inj hb];exact(zaB.1 hg).1
 have h6:=hs.setr (l':=cs++m) hi k2 (by rw[zal];exact k1) k3 (uM g2 h4) (fun c hc=>(zae.1 hc).elim (g3 c) (h5 c)) hb2;exact h v' hN.2 D _ w' (h6.put (xI _) (fun _=>rfl) (fun c=>absurd trivial c))
theorem tap {m:List CT}(i:Nat)(hi:S[i]? = some (.row v e k cs))(hx:tv Γ x=some (qx,exP v))(hy:tv Γ y=some (qy,Ψy))[Tr qx][Tr qy][ht:TSl P t e k bytes][hv:VS Ψy k m](hn:cs.length+m.length≤1000000000)(hb:Nat.ble bytes 1000=true)
  (h:∀ v',TO P r N ops X K l ((d,True,exP v')::Γ) (S.set i (.row v' e k (cs++m)))):TO P r N ops X K (⟨some d,.call ⟨.builtin .append,#[x,y],#[t,t]⟩,t',pos,af,none⟩::l) Γ S :=
 tapw i hi hx hy (by omega) (zac (zaT hn (zbZ hb)) (by omega)) h
theorem osl {lo hi:Option Operand}{cs':List CT}(a b:Nat)(hx:tv Γ x=some (qx,Ψx))[hq:Im p qx][ht:TSl P t e k bytes][hv:VS Ψx k cs][hd':DT cs a b cs']
  (hlo:match lo with | none=>a=0 | some o=>∃ q Ψ ki i,tv Γ o=some (q,Ψ)∧(p→q)∧VI Ψ ki i∧(p→i=(a:Int))) (hhi:match hi with | none=>p→b=cs.length | some o=>∃ q Ψ ki i,tv Γ o=some (q,Ψ)∧(p→q)∧VI Ψ ki i∧(p→i=(b:Int))) (hab:p→a≤b) (hbl:p→b≤cs.length) :
  Ob P r N ops M S p ⟨some d,.slice t x lo hi none,t',pos,af,none⟩ Γ (sv (sl k cs')):=fun D E w d' hd hN hg hp hT=>by
 obtain rfl:=Option.some.inj hd;obtain⟨u,e1,h1⟩:=yL hT hx hp (by simp[Op.operands]);obtain⟨u2,us,e2,h2,h3,h4⟩:=hv.h h1;obtain rfl:=zbp.1 e2;obtain⟨z,hz,_⟩:=ht.s;have hab:=hab hp;have hbl:=hbl hp;refine oU a b hN ht.u hz e1 h2 ?_ ?_ trivial hab hbl fun u hu=>fin (Ψ:=sv (sl k cs')) (show ∃ v us,[u]=[v]∧Slc M w k v cs'.length us∧stp cs' M w us∧uB k cs' from⟨u,(us.drop (a*k)).take ((b-a)*k),rfl,?_,?_,?_⟩)
 ·cases lo with
  | none=>exact hlo
  | some o =>
   obtain⟨q,Ψ,ki,i,g1,g2,g3,g4⟩:=hlo;obtain⟨v,g5,g6⟩:=oD hT g1 (fun s e=>by subst e;exact gA (o:=⟨some d,.slice t x (some (.tmp s)) hi none,t',pos,af,none⟩) (by cases hi<;>simp[Op.operands]) s rfl) (g2 hp);exact⟨ki,by rw[g5,g3.h g6,g4 hp]⟩
 ·cases hi with
  | none=>exact hhi hp
  | some o =>
   obtain⟨q,Ψ,ki,i,g1,g2,g3,g4⟩:=hhi;obtain⟨v,g5,g6⟩:=oD hT g1 (fun s e=>by subst e;exact gA (o:=⟨some d,.slice t x lo (some (.tmp s)) none,t',pos,af,none⟩) (by cases lo<;>simp[Op.operands]) s rfl) (g2 hp);exact⟨ki,by rw[g5,g3.h g6,g4 hp]⟩
 ·have e3:cs'.length=b-a:=by rw[← hd'.h,zaE,zaV];omega
  rw[e3];exact hu
 ·rw[← hd'.h];exact(iH (fun c hc=>h4 c (zbB hc)) (iH h4 h3 (by omega)).2 (by rw[zaV];omega)).1
 ·rw[← hd'.h];exact fun c hc=>h4 c (zbB (zbc hc))
theorem tsh {hi:Operand}{ki:IntKind}{a:Int}(i b:Nat)(hS:S[i]? = some (.row v e k cs))(hx:tv Γ x=some (qx,exP v))(hy:tv Γ hi=some (qy,Ψy))[Tr qx][Tr qy][ht:TSl P t e k bytes][hv:VI Ψy ki a](hab:a=(b:Int))(hb:b≤cs.length)
  (h:∀ v',TO P r N ops X K l ((d,True,exP v')::Γ) (S.set i (.row v' e k (cs.take b)))):TO P r N ops X K (⟨some d,.slice t x none (some hi) none,t',pos,af,none⟩::l) Γ S:=fun hN D E w hs=>by
 unfold okN at hN;simp only[zaX,zaq] at hN;obtain⟨u,e1,h1⟩:=gR hs hx;obtain rfl:u=v:=h1;obtain⟨u2,e2,h2⟩:=gR hs hy;rw[hv.h h2,hab] at e2;obtain⟨us,g1,g2,g3⟩:=hs.gd.own _ (zam hS);obtain⟨z,hz,hzc⟩:=ht.s;have hcut:=iH g3 g2 hb;have hall:uB k (cs.take b):=fun c hc=>g3 c (zbc hc);have hg0:∀ r,Gro w w r:=fun r=>⟨⟨rfl,rfl,rfl,zab _,fun _ _ _=>rfl⟩,zab _⟩;have hln:(cs.take b).length=b:=by rw[zaE];omega
 rcases g1 with⟨h1,⟨rfl,h0⟩ | ⟨g,cap,cur,rfl,hbg,hg,hnc,hcm,hcs,htk⟩⟩
 ·obtain rfl:b=0:=by omega
  refine qO 0 0 0 hN.1 ht.u hz e1 rfl ⟨ki,e2⟩ rfl (zab _) (zab _) (zab _) ?_;have h6:=hs.setr (v':=.slice none 0 0) (l':=cs.take 0) (us:=[]) hS (hg0 _) (by simpa using World.ownsRow_nil w 0 e k) (.inl rfl) rfl hall (fun b hb=>by cases hb);have h7:=h _ hN.2 D _ w (h6.put (xI _) (q:=(True,exP _)) (fun _=>rfl) (fun c=>absurd trivial c));simpa using h7
 ·refine qO 0 b cap hN.1 ht.u hz e1 rfl ⟨ki,e2⟩ rfl (zaD _) (by omega) (zab _) ?_;have hif:(if cap=0 then some (⟨g,0,none⟩:Addr) else(some (⟨g,0,none⟩:Addr)).map (·.add (0*k)))=some ⟨g,0,none⟩:=by split<;>simp[xV]
  rw[hif];have h6:=hs.setr (v':=.slice (some ⟨g,0,none⟩) b cap) (l':=cs.take b) (us:=us.take (b*k)) hS (hg0 _) ⟨by rw[hln,zaE,h1];have:=zaU k hb;omega,.inr ⟨g,cap,cur,by rw[hln],hbg,hg,by omega,hcm,hcs,by
   rw[hln,← htk,List.take_take,zaS (zaU k hb)]⟩⟩ (.inl rfl) hcut.1 hall (fun b hb=>by rw[← Option.some.inj hb];exact(zaB.1 hg).1)
  exact h _ hN.2 D _ w (h6.put (xI _) (fun _=>rfl) (fun c=>absurd trivial c))
theorem tsr {a:Bool}{sz:Nat}{cs':List CT}(i j:Nat)(hS:S[i]? = some (.row v ty k cs))(hx:tv Γ x=some (qx,eP v k j))(hy:tv Γ y=some (qy,Ψy))[Tr qx][Tr qy][hc:CtOf Ψy c][ht:TLd P t a sz](hsz:Nat.beq c.sz sz=true)(hsk:Nat.beq k sz=true)(hj:j<cs.length)(he:cs.set j c=cs')
  (h:TO P r N ops X K l Γ (S.set i (.row v ty k cs'))):TO P r N ops X K (⟨none,.store t x y,t',pos,af,none⟩::l) Γ S:=fun hN D E w hs=>by
 unfold okN at hN;simp only[zaX,zaq] at hN;subst he;obtain⟨u,e1,g,n,cc,hve,rfl⟩:=gR hs hx;obtain⟨u2,e2,h2⟩:=gR hs hy;obtain⟨us,g1,g2,g3⟩:=hs.gd.own _ (zam hS);obtain⟨vs,k1,k2⟩:=hc.h h2;obtain⟨by2,z,hz⟩:=ht.s;have h7:=c.len k2;have hsz:=zaj hsz;have hsk:=zaj hsk;have hul:=g1.1;obtain⟨g',cap,cur,rfl,hg,hnc,hcm,hcs,htk⟩:=dR g1 (by omega);injection hve with e3 e4 e5;injection e3 with e3;injection e3 with e3;subst e3;have hB:Blk w g' ty cur.toList:=by unfold Blk;simpa using hg
 have hcl:cur.toList.length=cap*k:=by simpa using hcs
 have hjk:j*k+k≤cs.length*k:=by have:=zaU k (show j+1≤cs.length from hj);rw[zaQ,zbm] at this;exact this
 have hck:cs.length*k≤cap*k:=zaU k hnc;refine uG e1 e2 hz hB (by rw[k1];simp;omega) (by omega) (by rw[k1];exact fun u hu=>c.one k2 u (by simpa using hu)) fun w' hch hB'=>?_;rw[k1] at hB';have hw:Gro w w' (Value.ownBlock (.slice (some ⟨g',0,none⟩) cs.length cap)):=⟨⟨hch.os,hch.tape.eq,hch.output,by rw[hch.size];exact zab _,fun b hb hne=>hch.other b fun e=>hne (by rw[e];rfl)⟩,hch.tape.le⟩;have hst:stp (cs.set j c) (Mk S X.M) w (us.take (j*k)++vs++us.drop (j*k+k)):=by
  have hjc:cs[j]? = some cs[j]:=zag hj;have h8:=tW (d:=c) g2 hjc k2 (by rw[g3 _ (zaP hj)];omega);rwa [uQ g3 (by omega),g3 _ (zaP hj)] at h8
 have h6:=hs.setr (v':=.slice (some ⟨g',0,none⟩) cs.length cap) (l':=cs.set j c) (us:=us.take (j*k)++vs++us.drop (j*k+k)) hS hw ⟨by simp[zbx];omega,.inr ⟨g',cap,_,by rw[zbx],zaD _,hB',by rw[zbx];exact hnc,hcm,by simp;omega,?_⟩⟩ (.inl rfl) hst (fun x hx=>(zbC hx).elim (g3 x) fun e=>by rw[e];omega) (fun b hb=>by rw[← Option.some.inj hb,hch.size];exact hB.lt)
 ·exact h hN.2 D _ w' h6
 ·rw[zbx,← htk];simp only[zaA];have h1:(cur.toList.take (j*k)).length=j*k:=by rw[zaE];omega
  have h2:(cur.toList.take (cs.length*k)).take (j*k)=cur.toList.take (j*k):=by rw[List.take_take,zaS (by omega)]
  have h3:(cur.toList.take (j*k)).take (cs.length*k)=cur.toList.take (j*k):=zaz (by omega);rw[h2,List.drop_take];simp only[zcx,h1,h3];rw[zaz (show vs.length≤cs.length*k-j*k by omega),show cs.length*k-j*k-vs.length=cs.length*k-(j*k+k) by omega,show j*k+sz=j*k+k by omega]
end ops
inductive Pv:Type 1 where
 | non
 | slot (g d:Nat) {α:Type} (sh:α→Value×Ow)
 | st (g d:Nat) {α:Type} (sh:α→Value×Ow) (g0:Nat) (sh0:α→Value×Ow)
 | val (v:Value) (o:Ow)
 | sv (g:Nat) (v:Value) (o:Ow)
abbrev Gh:=Nat→Option (Value×Ow)
def QS (g i:Nat){α:Type}(sh0 sh:α→Value×Ow):World×Gh→Prop:=fun x=>∃ a,x.2 g=some (sh0 a)∧x.2 (i+1)=some (sh a)
def QV (i:Nat)(v:Value)(o:Ow):World×Gh→Prop:=fun x=>x.2 (i+1)=some (v,o)
def bkM (o:Ow)(M:Nat→Prop):Nat→Prop:=fun b=>o.bk=some b∨M b
section
variable (P : Program) (r : Option Nat) (N : Nat) (ops : Array Oper) (S : List Ow) (th : Nat → Option (World × Gh → Prop))
def CkN (o:Oper)(Γ:TE){α:Type}(sh:α→Value×Ow):Prop:=∀(M:Nat→Prop) (D:List Deferred) (E:Env) (w:World) (d:Nat),o.dst=some d→Nat.blt d N=true→Gd M S w→Tm Γ (yE ops o) M E w →
 Ops P r N ops (fun D' E' w'=>D'=D∧Rb w w'∧∃ a,get E' d=some (sh a).1∧(∀ b,(sh a).2.bk=some b→w.heap.size≤b)∧(sh a).2.ok (bkM (sh a).2 M) w') [o] D E w
def CkA (o:Oper)(Γ:TE)(ev:Env→Value→Prop)(os:Value→Ow→Prop){α:Type}(sh:α→Value×Ow):Prop:=∀(M:Nat→Prop) (D:List Deferred) (E:Env) (w:World) (d:Nat) (v:Value) (ob:Ow),o.dst=some d→Nat.blt d N=true→Gd M S w→Tm Γ (yE ops o) M E w→ev E v→os v ob→ob.ok M w→(∀ b,ob.bk=some b→M b) →
 Ops P r N ops (fun D' E' w'=>D'=D∧Gro w w' ob.bk∧∃ a,get E' d=some (sh a).1∧((sh a).2.bk=ob.bk∨(sh a).2.bk=some w.heap.size)∧(sh a).2.ok (bkM (sh a).2 M) w') [o] D E w
def CkS (o:Oper)(Γ:TE)(dp:Nat){α:Type}(sh0 sh:α→Value×Ow):Prop:=(∀ a,(sh a).1=(sh0 a).1∧(sh a).2.bk=(sh0 a).2.bk)∧∀(M:Nat→Prop) (D:List Deferred) (E:Env) (w:World) (a:α),Gd M S w→Tm Γ (yE ops o) M E w→get E dp=some (sh0 a).1→(sh0 a).2.ok M w→(∀ b,(sh0 a).2.bk=some b→M b) →
 Ops P r N ops (fun D' E' w'=>D'=D∧Gro w w' (sh0 a).2.bk∧(sh a).2.ok M w') [o] D E w
def CkV (o:Oper)(Γ:TE)(o0 o1:Ow):Prop:=o1.bk=o0.bk∧∀(M:Nat→Prop) (D:List Deferred) (E:Env) (w:World),Gd M S w→Tm Γ (yE ops o) M E w→o0.ok M w→(∀ b,o0.bk=some b→M b) →
 Ops P r N ops (fun D' E' w'=>D'=D∧Gro w w' o0.bk∧o1.ok M w') [o] D E w
def CkP (o:Oper)(Γ:TE){α:Type}(sh:α→Value×Ow):Pv→Prop
 | .non=>CkN P r N ops S o Γ sh
 | .slot _ d sh0=>(yE ops o).any (Nat.beq d)=true∧CkA P r N ops S o Γ (fun E v=>get E d=some v) (fun v ob=>∃ a,(v,ob)=sh0 a) sh
 | .val v0 o0=>CkA P r N ops S o Γ (fun _ v=>v=v0) (fun v ob=>v=v0∧ob=o0) sh
 | .st _ _ _ _ _ | .sv _ _ _=>False
def TDC (F:List Pv→TE→Prop):List Oper→Nat→List Pv→List (Nat×Nat×Nat)→TE→Prop
 | [],_,ps,cs,Γ=>cs=[]∧F ps Γ
 | o::l,i,ps,cs,Γ=>(∃ d q,o.dst=some d∧(∀ c∈cs,c.1≠i)∧(∀ M,O2 P r N ops M S o Γ q)∧TDC F l (i+1) ps cs ((d,q)::Γ)) ∨
  (∃ d c cs' p,∃(α:Type) (sh:α→Value×Ow),cs=(i,d,c)::cs'∧o.dst=some d∧ps[c]? = some p∧CkP P r N ops S o Γ sh p∧TDC F l (i+1) (ps.set c (.slot (i+1) d sh)) cs' Γ) ∨
  (∃ dd c cs' g dp,∃(α:Type) (sh0 sh:α→Value×Ow),cs=(i,dd,c)::cs'∧th i=some (QS g i sh0 sh)∧o.dst=none∧ps[c]? = some (.slot g dp sh0)∧(yE ops o).any (Nat.beq dp)=true∧CkS P r N ops S o Γ dp sh0 sh∧TDC F l (i+1) (ps.set c (.st (i+1) dp sh g sh0)) cs' Γ) ∨
  ∃ dd c cs' v0 o0 o1,cs=(i,dd,c)::cs'∧th i=some (QV i v0 o1)∧o.dst=none∧ps[c]? = some (.val v0 o0)∧CkV P r N ops S o Γ o0 o1∧TDC F l (i+1) (ps.set c (.sv (i+1) v0 o1)) cs' Γ
end
section
variable {P : Program} {r : Option Nat} {N : Nat} {ops : Array Oper} {S : List Ow} {th : Nat → Option (World × Gh → Prop)} {F : List Pv → TE → Prop} {Γ : TE} {i d c : Nat} {l : List Oper} {ps : List Pv} {cs : List (Nat × Nat × Nat)}
theorem cE (h:F ps Γ):TDC P r N ops S th F [] i ps [] Γ:=⟨rfl,h⟩
theorem cx1 {op:Op}{t:TypeId}{pos:String}{af:Array Edge}{Ψ:PV}(h1:∀ {M},Ob P r N ops M S True ⟨some d,op,t,pos,af,none⟩ Γ Ψ)(hi:(cs.all fun c=>!Nat.beq c.1 i)=true)(h2:TDC P r N ops S th F l (i+1) ps cs ((d,True,Ψ)::Γ)) :
  TDC P r N ops S th F (⟨some d,op,t,pos,af,none⟩::l) i ps cs Γ:=.inl ⟨d,_,rfl,fun c hc e=>(by have:=zaC.1 hi c hc;rw[e] at this;simp at this),fun _=>o_of h1,h2⟩
theorem cN {α:Type}{sh:α→Value×Ow}{o:Oper}(ho:o.dst=some d)(hc:ps[c]? = some .non)(h1:CkN P r N ops S o Γ sh)(h2:TDC P r N ops S th F l (i+1) (ps.set c (.slot (i+1) d sh)) cs Γ):TDC P r N ops S th F (o::l) i ps ((i,d,c)::cs) Γ:=.inr (.inl ⟨d,c,cs,_,α,sh,rfl,ho,hc,h1,h2⟩)
theorem cA {α β:Type}{sh0:β→Value×Ow}{sh:α→Value×Ow}{o:Oper}{g dp:Nat}(ho:o.dst=some d)(hc:ps[c]? = some (.slot g dp sh0))(hs:(yE ops o).any (Nat.beq dp)=true)(h1:CkA P r N ops S o Γ (fun E v=>get E dp=some v) (fun v ob=>∃ a,(v,ob)=sh0 a) sh)(h2:TDC P r N ops S th F l (i+1) (ps.set c (.slot (i+1) d sh)) cs Γ):TDC P r N ops S th F (o::l) i ps ((i,d,c)::cs) Γ:=.inr (.inl ⟨d,c,cs,_,α,sh,rfl,ho,hc,⟨hs,h1⟩,h2⟩)
theorem cB {α:Type}{sh:α→Value×Ow}{o:Oper}{v0:Value}{o0:Ow}(ho:o.dst=some d)(hc:ps[c]? = some (.val v0 o0))(h1:CkA P r N ops S o Γ (fun _ v=>v=v0) (fun v ob=>v=v0∧ob=o0) sh)(h2:TDC P r N ops S th F l (i+1) (ps.set c (.slot (i+1) d sh)) cs Γ):TDC P r N ops S th F (o::l) i ps ((i,d,c)::cs) Γ:=.inr (.inl ⟨d,c,cs,_,α,sh,rfl,ho,hc,h1,h2⟩)
def th1 (i:Nat)(Q:World×Gh→Prop):Nat→Option (World×Gh→Prop):=fun j=>bif Nat.beq j i then some Q else none
theorem yC7 {i:Nat}{Q:World×Gh→Prop}:th1 i Q i=some Q:=by unfold th1;rw[Nat.beq_refl];rfl
theorem cSt {α:Type}{sh0 sh:α→Value×Ow}{o:Oper}{g dp dd:Nat}(ho:o.dst=none)(hc:ps[c]? = some (.slot g dp sh0))(hs:(yE ops o).any (Nat.beq dp)=true)(h1:CkS P r N ops S o Γ dp sh0 sh)(h2:TDC P r N ops S th F l (i+1) (ps.set c (.st (i+1) dp sh g sh0)) cs Γ)(ht:th i=some (QS g i sh0 sh)):TDC P r N ops S th F (o::l) i ps ((i,dd,c)::cs) Γ:=.inr (.inr (.inl ⟨dd,c,cs,g,dp,α,sh0,sh,rfl,ht,ho,hc,hs,h1,h2⟩))
theorem cV {o:Oper}{v0:Value}{o0 o1:Ow}{dd:Nat}(ho:o.dst=none)(hc:ps[c]? = some (.val v0 o0))(h1:CkV P r N ops S o Γ o0 o1)(h2:TDC P r N ops S (th1 i (QV i v0 o1)) F l (i+1) (ps.set c (.sv (i+1) v0 o1)) cs Γ):TDC P r N ops S (th1 i (QV i v0 o1)) F (o::l) i ps ((i,dd,c)::cs) Γ:=.inr (.inr (.inr ⟨dd,c,cs,v0,o0,o1,rfl,yC7,ho,hc,h1,h2⟩))
theorem cS {α:Type}{sh0 sh:α→Value×Ow}{o:Oper}{g dp dd:Nat}(ho:o.dst=none)(hc:ps[c]? = some (.slot g dp sh0))(hs:(yE ops o).any (Nat.beq dp)=true)(h1:CkS P r N ops S o Γ dp sh0 sh)(h2:TDC P r N ops S (th1 i (QS g i sh0 sh)) F l (i+1) (ps.set c (.st (i+1) dp sh g sh0)) cs Γ):TDC P r N ops S (th1 i (QS g i sh0 sh)) F (o::l) i ps ((i,dd,c)::cs) Γ:=cSt ho hc hs h1 h2 yC7
def QA (th:Nat→Option (World×Gh→Prop)):World×Gh→Prop:=fun x=>∀ i Θ,th i=some Θ→Θ x
end
def gup (g:Gh)(i:Nat)(a:Value×Ow):Gh:=fun j=>if j=i then some a else g j
def gbk (g:Gh):Nat→Prop:=fun b=>∃ i a,g i=some a∧a.2.bk=some b
def MH (S:List Ow)(M:Nat→Prop)(g:Gh):Nat→Prop:=fun b=>gbk g b∨Mk S M b
structure GI (n:Nat)(b0:Option Nat)(S:List Ow)(M:Nat→Prop)(ic:Nat→Prop)(ch:Nat→Nat)(x:World×Gh):Prop where
 dom:∀ i a,x.2 i=some a→ic i
 lo:∀ i a,x.2 i=some a→∀ b,a.2.bk=some b→¬ Mk S M b∧(n≤b∨b0=some b)∧b<x.1.heap.size
 cl:∀ i j a,j<i→ch j=ch i→ic j→x.2 i=some a→x.2 j≠none
 dis:∀ i j a c,x.2 i=some a→x.2 j=some c→ch i≠ch j→∀ b,a.2.bk=some b→c.2.bk≠some b
 row:∀ i a,x.2 i=some a→(∀ j,i<j→ch j=ch i→x.2 j=none)→a.2.ok (MH S M x.2) x.1
structure RH (I:World×Gh→Prop)(a b:World×Gh):Prop where
 os:b.1.os=a.1.os
 tape:Tp a.1 b.1
 output:b.1.output=a.1.output
 size:a.1.heap.size≤b.1.heap.size
 blk:∀ i,i<a.1.heap.size→¬ gbk a.2 i→b.1.heap[i]? = a.1.heap[i]?
 mon:∀ i c,a.2 i=some c→b.2 i=some c
 new:∀ i,gbk b.2 i→gbk a.2 i∨a.1.heap.size≤i
 inv:I a→I b
theorem RH.trans {I:World×Gh→Prop}{a b c:World×Gh}(h:RH I a b)(g:RH I b c):RH I a c :=
 ⟨g.os.trans h.os,g.tape.trans h.tape,g.output.trans h.output,zac h.size g.size,fun i hi hn=>(g.blk i (zan hi h.size) fun c=>(h.new i c).elim hn fun c=>by omega).trans (h.blk i hi hn),fun i c hc=>g.mon i c (h.mon i c hc),fun i hi=>(g.new i hi).elim (h.new i) fun c => .inr (zac h.size c),fun hI=>g.inv (h.inv hI)⟩
theorem RH.cl {I:World×Gh→Prop}{S:List Ow}{M:Nat→Prop}{a b:World×Gh}(h:RH I a b):Cl (MH S M a.2) a.1 (MH S M b.2) b.1:=fun i cur t fz hk hw=>by
 have hlt:=(zaB.1 hw).1;refine⟨fun c=>?_,(h.blk i hlt fun c=>hk (.inl c)).trans hw⟩;rcases c with c | c
 ·rcases h.new i c with c | c
  ·exact hk (.inl c)
  ·omega
 ·exact hk (.inr c)
theorem Ow.ok_lt {o:Ow}{M:Nat→Prop}{w:World}(h:o.ok M w){b:Nat}(hb:o.bk=some b):b<w.heap.size:=by
 cases o with
 | blk b' ty cs=>obtain⟨us,h1,_⟩:=h;obtain rfl:=Option.some.inj hb;exact h1.lt
 | row v ty k l =>
  obtain⟨us,⟨_,⟨rfl,_⟩ | ⟨c,cap,cur,rfl,_,h6,_⟩⟩,_⟩:=h
  ·cases hb
  ·rw[← Option.some.inj (show some c=some b from hb)];exact(zaB.1 h6).1
section
variable {n : Nat} {b0 : Option Nat} {S : List Ow} {M : Nat → Prop} {ic : Nat → Prop} {ch : Nat → Nat} {w w' : World} {g : Gh}
theorem zU7 (h:Rb w w'):RH (GI n b0 S M ic ch) (w,g) (w',g) :=
 ⟨h.os,h.tape,h.output,h.size,fun i hi _=>h.block i hi,fun _ _ h=>h,fun i h => .inl h,fun hI=>⟨hI.dom,fun i a ha b hb=>let q:=hI.lo i a ha b hb;⟨q.1,q.2.1,zan q.2.2 h.size⟩,hI.cl,hI.dis,fun i a ha hn =>
  Ow.ok_mono (hI.row i a ha hn) (Cl.bel h) fun b _ hlt=>h.block b hlt⟩⟩
theorem vC {i:Nat}{a:Value×Ow}{rw:Option Nat}(hg:Gro w w' rw)(hrw:∀ b,rw=some b→∃ j c,g j=some c∧c.2.bk=some b∧ch j=ch i)(hM:OkM (Mk S M) w)(hi:g i=none)(hic:ic i)(hpast:∀ j,j<i→ch j=ch i→ic j→g j≠none)(hfut:∀ j,i<j→ch j=ch i→g j=none)(hv:∀ b,a.2.bk=some b→(∃ j c,g j=some c∧c.2.bk=some b∧ch j=ch i)∨w.heap.size≤b)(hn:n≤w.heap.size)
  (ho:a.2.ok (MH S M (gup g i a)) w'):RH (GI n b0 S M ic ch) (w,g) (w',gup g i a):=by
 have hup:∀ j c,gup g i a j=some c→(j=i∧c=a)∨(j≠i∧g j=some c):=fun j c h=>by
  unfold gup at h;split at h
  ·rename_i e;exact .inl ⟨e,(Option.some.inj h).symm⟩
  ·rename_i e;exact .inr ⟨e,h⟩
 have hself:gup g i a i=some a:=if_pos rfl;have hoth:∀ j,j≠i→gup g i a j=g j:=fun j e=>if_neg e;have hnb:∀ b,gbk (gup g i a) b→gbk g b∨w.heap.size≤b:=fun b ⟨j,c,h1,h2⟩=>by
  rcases hup j c h1 with⟨rfl,rfl⟩ | ⟨e,h1⟩
  ·exact(hv b h2).imp (fun⟨j,c,h3,h4,_⟩=>⟨j,c,h3,h4⟩) id
  ·exact .inl ⟨j,c,h1,h2⟩
 refine⟨hg.os,hg.tape,hg.output,hg.size,fun b hb hnb=>hg.block b hb fun e=>hnb (let ⟨j,c,h1,h2,_⟩:=hrw b e.symm;⟨j,c,h1,h2⟩),fun j c hc=>?_,hnb,fun hI=>⟨fun j c h=>?_,fun j c h b hb=>?_,fun j q c hq hch hiq h=>?_,fun j q c e h1 h2 hne b hb hb2=>?_,fun j c h hno=>?_⟩⟩
 ·show gup g i a j=some c;rw[hoth j fun e=>by subst e;rw[show g j=some c from hc] at hi;cases hi];exact hc
 ·rcases hup j c h with⟨rfl,_⟩ | ⟨_,h⟩
  ·exact hic
  ·exact hI.dom j c h
 ·rcases hup j c h with⟨rfl,rfl⟩ | ⟨_,h⟩
  ·refine⟨?_,?_,Ow.ok_lt ho hb⟩
   ·rcases hv b hb with⟨q,e,h1,h2,_⟩ | h2
    ·exact(hI.lo q e h1 b h2).1
    ·exact fun c=>by have:=hM b c;omega
   ·rcases hv b hb with⟨q,e,h1,h2,_⟩ | h2
    ·exact(hI.lo q e h1 b h2).2.1
    ·exact .inl (zac hn h2)
  ·have:=hI.lo j c h b hb;exact⟨this.1,this.2.1,zan this.2.2 hg.size⟩
 ·by_cases e:q=i
  ·subst e;show gup g q a q≠none;rw[hself];simp
  ·show gup g i a q≠none;rw[hoth q e];rcases hup j c h with⟨rfl,_⟩ | ⟨_,h⟩
   ·exact hpast q hq hch hiq
   ·exact hI.cl j q c hq hch hiq h
 ·have key:∀(k:Nat) (f:Value×Ow),g k=some f→ch k≠ch i→a.2.bk=some b→f.2.bk≠some b:=fun k f hk hne hab hfb=>by
   rcases hv b hab with⟨m,c,h3,h4,h5⟩ | h3
   ·exact hI.dis m k c f h3 hk (fun e=>hne (e.symm.trans h5)) b h4 hfb
   ·have:=(hI.lo k f hk b hfb).2.2;simp only at this;omega
  rcases hup j c h1 with⟨ej,ea⟩ | ⟨_,h1'⟩
  ·rcases hup q e h2 with⟨eq,_⟩ | ⟨_,h2'⟩
   ·exact hne (by rw[ej,eq])
   ·exact key q e h2' (fun e=>hne (by rw[ej];exact e.symm)) (ea ▸ hb) hb2
  ·rcases hup q e h2 with⟨eq,ea⟩ | ⟨_,h2'⟩
   ·exact key j c h1' (fun e=>hne (by rw[eq];exact e)) (ea ▸ hb2) hb
   ·exact hI.dis j q c e h1' h2' hne b hb hb2
 ·rcases hup j c h with⟨rfl,rfl⟩ | ⟨e,h⟩
  ·exact ho
  ·by_cases hcc:ch j=ch i
   ·rcases zcy j i with c2 | c2 | c2
    ·have this:gup g i a i=none:=hno i c2 hcc.symm;rw[hself] at this;cases this
    ·exact absurd c2 e
    ·have h:g j=some c:=h;rw[hfut j c2 hcc] at h;cases h
   ·have h1:=hI.row j c h fun q hq hch=>by
     have:gup g i a q=none:=hno q hq hch;unfold gup at this;split at this
     ·cases this
     ·exact this
    refine Ow.ok_mono h1 (fun b cur t fz hk hw=>?_) fun b hb hlt=>hg.block b hlt fun e2=>?_
    ·have hlt:b<w.heap.size:=(zaB.1 hw).1;refine⟨fun c=>?_,(hg.block b hlt fun e2=>hk (.inl (let ⟨j,c,h1,h2,_⟩:=hrw b e2.symm;⟨j,c,h1,h2⟩))).trans hw⟩;rcases c with c | c
     ·exact(hnb b c).elim (fun c=>hk (.inl c)) fun c=>by omega
     ·exact hk (.inr c)
    ·obtain⟨m,f,h3,h4,h5⟩:=hrw b e2.symm;exact hI.dis j m c f h h3 (fun e=>hcc (e.trans h5)) b hb h4
end
def vph (S:List Ow)(M:Nat→Prop)(q:Prop×PV):VPS Gh:=fun v x=>(q.1→q.2.p (MH S M x.2) x.1 v)∧(¬ q.1→v=undef)
def vpg (i:Nat){α:Type}(sh:α→Value×Ow):VPS Gh:=fun v x=>∃ a,x.2 i=some (sh a)∧v=(sh a).1
theorem vph_mono {I:World×Gh→Prop}{S:List Ow}{M:Nat→Prop}{q:Prop×PV}:∀ v a b,vph S M q v a→RH I a b→vph S M q v b:=fun v a b h r=>⟨fun c=>q.2.mono (h.1 c) r.cl,h.2⟩
def RelH (S:List Ow)(M:Nat→Prop)(sl:Nat→Prop)(Γ0:List (Nat×VPS Gh))(dr:TE):Prop:=∀ s,¬ sl s→match Γ0.find? (fun p=>Nat.beq p.1 s) with
 | some p=>∃ q,tf dr s=some q∧p.2=vph S M q
 | none=>tf dr s=none
theorem bX {E:Env}{S:List Ow}{M:Nat→Prop}{sl:Nat→Prop}{Γ0:List (Nat×VPS Gh)}{dr Γ:TE}{x:World×Gh}{body:Env→Prop}(hR:RelH S M sl Γ0 dr)(hda:∀ s,sl s→tf (dr++Γ) s=none)(hE:TM Γ (MH S M x.2) E x.1):∀(ss:List Nat) (F:Env) (done:List Nat),Tm (dr++Γ) done (MH S M x.2) F x.1 →
  (∀ s∈done,∀ p,Γ0.find? (fun p=>Nat.beq p.1 s)=some p→∃ v,get F s=some v∧p.2 v x)→(∀ F',Tm (dr++Γ) (ss++done) (MH S M x.2) F' x.1→(∀ s∈ss++done,∀ p,Γ0.find? (fun p=>Nat.beq p.1 s)=some p→∃ v,get F' s=some v∧p.2 v x)→body F')→OblS Γ0 E x body ss F
 | [],F,done,h,h0,hb=>hb F (by simpa using h) (by simpa using h0)
 | s::ss,F,done,h,h0,hb=>by
  have next:∀ v,(∀ q,tf (dr++Γ) s=some q→(q.1→q.2.p (MH S M x.2) x.1 v)∧(¬ q.1→v=undef))→(∀ p,Γ0.find? (fun p=>Nat.beq p.1 s)=some p→p.2 v x)→OblS Γ0 E x body ss ((s,v)::F):=fun v hv hp=>by
   refine bX hR hda hE ss _ (s::done) (fun i hi q hq=>?_) (fun i hi p hf=>?_) (fun F' hF hG=>hb F' (fun i hi=>hF i (by simp only[zae,zad] at hi ⊢; rcases hi with(h1 | h1) | h1<;>simp[h1])) fun i hi=>hG i (by simp only[zae,zad] at hi ⊢; rcases hi with(h1 | h1) | h1<;>simp[h1]))
   ·cases hbq:Nat.beq s i with
    | true =>
     obtain rfl:=zaj hbq;exact zS5 (xO (by simp)) (hv q hq)
    | false =>
     rcases zad.1 hi with rfl | hi
     ·simp at hbq
     ·have:=h i hi q hq;exact⟨fun c=>by rw[kV hbq];exact this.1 c,fun c=>by rw[kV hbq];exact this.2 c⟩
   ·cases hbq:Nat.beq s i with
    | true =>
     obtain rfl:=zaj hbq;exact⟨v,xO (by simp),hp p hf⟩
    | false =>
     rcases zad.1 hi with rfl | hi
     ·simp at hbq
     ·obtain⟨u,h1,h2⟩:=h0 i hi p hf;exact⟨u,by rw[kV hbq];exact h1,h2⟩
  unfold OblS;cases hf:Γ0.find? (fun p=>Nat.beq p.1 s) with
  | some p =>
   intro v hv;refine next v (fun Φ hΦ=>?_) (fun p' hp'=>by rw[hf] at hp'; obtain rfl:=Option.some.inj hp'; exact hv)
   by_cases hsl:sl s
   ·rw[hda s hsl] at hΦ;cases hΦ
   ·have hr:=hR s hsl;rw[hf] at hr;obtain⟨q,h1,h2⟩:=hr;rw[qC,h1] at hΦ;obtain rfl:=Option.some.inj hΦ;rw[h2] at hv;exact hv
  | none =>
   have hno:∀ p,Γ0.find? (fun p=>Nat.beq p.1 s)=some p→∀ v,p.2 v x:=fun p hp=>by rw[hf] at hp;cases hp
   have hdr:∀ q,tf (dr++Γ) s=some q→tf Γ s=some q:=fun q hq=>by
    by_cases hsl:sl s
    ·rw[hda s hsl] at hq;cases hq
    ·have hr:=hR s hsl;rw[hf] at hr;rw[qC,hr] at hq;exact hq
   cases hg:get E s with
   | some v =>
    refine next v (fun Φ hΦ=>?_) fun p hp=>hno p hp v
    have h2:=hE s Φ (hdr Φ hΦ);refine⟨fun c=>?_,fun c=>?_⟩
    ·obtain⟨u,h3,h4⟩:=h2.1 c;rw[hg] at h3;obtain rfl:=Option.some.inj h3;exact h4
    ·have:=h2.2 c;rw[hg] at this;exact Option.some.inj this
   | none =>
    refine bX hR hda hE ss _ (s::done) (fun i hi q hq=>?_) (fun i hi p hf'=>?_) (fun F' hF hG=>hb F' (fun i hi=>hF i (by simp only[zae,zad] at hi ⊢; rcases hi with(h1 | h1) | h1<;>simp[h1])) fun i hi=>hG i (by simp only[zae,zad] at hi ⊢; rcases hi with(h1 | h1) | h1<;>simp[h1]))
    ·rcases zad.1 hi with rfl | hi
     ·have h2:=hE _ q (hdr q hq);by_cases c:q.1
      ·obtain⟨u,h3,_⟩:=h2.1 c;rw[hg] at h3;cases h3
      ·have:=h2.2 c;rw[hg] at this;cases this
     ·exact h i hi q hq
    ·rcases zad.1 hi with rfl | hi
     ·rw[hf] at hf'; cases hf'
     ·exact h0 i hi p hf'
def pidx:Pv→Option Nat
 | .non=>none
 | .slot g _ _=>some g
 | .val _ _=>some 0
 | .st g _ _ _ _=>some g
 | .sv g _ _=>some g
def past (ps:List Pv)(ch:Nat→Nat)(j:Nat):Prop:=∃ p g,ps[ch j]? = some p∧pidx p=some g∧j≤g
def pok (Q:World×Gh→Prop)(sl:Nat→Prop)(g0:Gh)(Γ0:List (Nat×VPS Gh)):Pv→Prop
 | .non=>True
 | .slot g d sh=>sl d∧Γ0.find? (fun p=>Nat.beq p.1 d)=some (d,vpg g sh)
 | .val v o=>g0 0=some (v,o)
 | .sv g v o=>∀ x,Q x→x.2 g=some (v,o)
 | .st g d sh g1 sh0=>sl d∧Γ0.find? (fun p=>Nat.beq p.1 d)=some (d,vpg g1 sh0)∧(∀ a,(sh a).1=(sh0 a).1)∧∀ x,Q x→∃ a,x.2 g1=some (sh0 a)∧x.2 g=some (sh a)
def psl (d:Nat):Pv→Prop
 | .slot _ d' _=>d=d'
 | .st _ d' _ _ _=>d=d'
 | _=>False
section
variable {P : Program} {r : Option Nat} {N : Nat} {ops : Array Oper} {D : List Deferred} {E : Env} {S : List Ow} {M : Nat → Prop} {n : Nat} {b0 : Option Nat} {ic sl : Nat → Prop} {ch : Nat → Nat} {w : World} {g0 : Gh} {Γ : TE} {F : List Pv → TE → Prop} {th : Nat → Option (World × Gh → Prop)}
theorem iF (hT:TM Γ (MH S M g0) E w)(hG:Gd (MH S M g0) S w)(hok:OkM (Mk S M) w)(hI:GI n b0 S M ic ch (w,g0))(hn:n≤w.heap.size)(hsl:∀ s,sl s→tf Γ s=none):∀(l:List Oper) (i:Nat) (ps:List Pv) (cs:List (Nat×Nat×Nat)) (dr:TE) (Γ0:List (Nat×VPS Gh)),okN N l=true →
  TDC P r N ops S th F l i ps cs (dr++Γ)→RelH S M sl Γ0 dr→(∀ s,sl s→tf dr s=none)→(∀ j o d,l[j]? = some o→o.dst=some d→sl d→∃ c,(i+j,d,c)∈cs)→cs.Pairwise (fun a b=>a.1<b.1∧a.2.1≠b.2.1)→(∀ c∈cs,i≤c.1∧ic (c.1+1)∧sl c.2.1∧ch (c.1+1)=c.2.2)→(∀ j,ic j→past ps ch j ∨ ∃ c∈cs,j=c.1+1) →
  (∀(c:Nat) (p:Pv) (g:Nat),ps[c]? = some p→pidx p=some g→g≤i∧ch g=c)→(∀(c:Nat) (p:Pv),ps[c]? = some p→pok (QA th) sl g0 Γ0 p∧∀ d,psl d p→∀ c'∈cs,c'.2.1≠d) →
  DRsT P r N ops D E (w,g0) (RH (GI n b0 S M ic ch)) (fun i a b=>RH (GI n b0 S M ic ch) a b∧∀ j,j≠i+1→b.2 j=a.2 j) (fun i x=>x.2 (i+1)=none) none th
   (fun Γ1=>∃ dr' ps',RelH S M sl Γ1 dr'∧(∀ s,sl s→tf dr' s=none)∧(∀ j,ic j→past ps' ch j)∧(∀(c:Nat) (p:Pv),ps'[c]? = some p→pok (QA th) sl g0 Γ1 p∧∀ g,pidx p=some g→ch g=c)∧(∀ s,s∈dr'.map (·.1)→s∈(l.filterMap (·.dst))++dr.map (·.1))∧F ps' (dr'++Γ)) l i Γ0
 | [],i,ps,cs,dr,Γ0,_,⟨hc,h⟩,hR,hd,_,_,_,hic,hpi,hp=>⟨dr,ps,hR,hd,fun j hj=>(hic j hj).elim id fun⟨c,hc',_⟩=>(by subst hc;cases hc'),fun c p h=>⟨(hp c p h).1,fun g hg=>(hpi c p g h hg).2⟩,by simp,h⟩
 | o::l,i,ps,cs,dr,Γ0,hN,h,hR,hd,hdst,hcs,hc,hic,hpi,hp=>by
  unfold okN at hN;simp only[zaX,zaq] at hN;have hx:∀ x,RH (GI n b0 S M ic ch) (w,g0) x→TM Γ (MH S M x.2) E x.1∧Gd (MH S M x.2) S x.1∧GI n b0 S M ic ch x∧OkM (Mk S M) x.1∧n≤x.1.heap.size:=fun x hr=>by
   have hg:=hr.inv hI;refine⟨hT.mono hr.cl,⟨fun b hb=>?_,hG.tab.cl hr.cl,fun o ho=>Ow.ok_mono (hG.own o ho) hr.cl fun b hb hlt=>hr.blk b hlt fun⟨j,a,h1,h2⟩=>?_⟩,hg,fun b hb=>zan (hok b hb) hr.size,zac hn hr.size⟩
   ·rcases hb with⟨j,a,h1,h2⟩ | hb
    ·exact(hg.lo j a h1 b h2).2.2
    ·exact zan (hok b hb) hr.size
   ·exact(hI.lo j a h1 b h2).1 (.inl ⟨o,ho,hb⟩)
  have hst:∀ d,o.dst=some d→∀ k pre post,(none:Option (Nat×(World×Gh→Prop)×(World×Gh→Prop)))=some (k,pre,post)→i≠k:=fun _ _ _ _ _ h=>by cases h
  rcases h with⟨d,q,ho,hne,h1,h2⟩ | ⟨d,c,cs',p,α,sh,rfl,ho,hpc,h1,h2⟩ | ⟨dd,c,cs',g,dp,α,sh0,sh,rfl,hke,ho,hpc,hsd,h1,h2⟩ | ⟨dd,c,cs',v0,o0,o1,rfl,hke,ho,hpc,h1,h2⟩
  ·have hdN:Nat.blt d N=true:=by have:=hN.1;rw[ho] at this;exact this
   have hnsl:¬ sl d:=fun c=>let ⟨c',h3⟩:=hdst 0 o d rfl ho c;hne _ h3 rfl;have hbeq:∀ s,sl s→Nat.beq d s=false:=fun s hs=>by cases hb:Nat.beq d s with | true=>(obtain rfl:=zaj hb;exact absurd hs hnsl) | false=>rfl
   have h3:=iF hT hG hok hI hn hsl l (i+1) ps cs ((d,q)::dr) ((d,vph S M q)::Γ0) hN.2 h2 (fun s hs=>by
    rw[zbK];show match (match Nat.beq d s with | true=>some (d,vph S M q) | false=>Γ0.find? fun p=>Nat.beq p.1 s) with | some p=>∃ q',(bif Nat.beq d s then some q else tf dr s)=some q'∧p.2=vph S M q' | none=>(bif Nat.beq d s then some q else tf dr s)=none
    cases hb:Nat.beq d s with
    | true=>exact⟨q,rfl,rfl⟩
    | false=>exact hR s hs) (fun s hs=>by unfold tf;rw[hbeq s hs];exact hd s hs) (fun j o' d' hj hd' hs'=>by have:=hdst (j+1) o' d' (by simpa using hj) hd' hs'; rwa [show i+1+j=i+(j+1) by omega]) hcs
    (fun c hc'=>⟨by have:=(hc c hc').1;have:=hne c hc'; omega,(hc c hc').2⟩) hic (fun c p g h4 hg=>⟨by have:=(hpi c p g h4 hg).1;omega,(hpi c p g h4 hg).2⟩) (fun c p h4=>⟨by
     have h5:=(hp c p h4).1;cases p with
     | non=>trivial
     | slot g d' sh=>exact⟨h5.1,by rw[zbK];simp only[hbeq _ h5.1];exact h5.2⟩
     | st g d' sh g1 sh0=>exact⟨h5.1,by rw[zbK];simp only[hbeq _ h5.1];exact h5.2.1,h5.2.2⟩
     | sv g v o=>exact h5
     | val v l0=>exact h5,(hp c p h4).2⟩)
   refine⟨vph S M q,?_,?_⟩
   ·unfold aS;rw[ho];refine⟨vph_mono,.inl ⟨hst d ho,fun x hr _ _=>?_⟩⟩;obtain⟨k1,k2,k3,k4,k5⟩:=hx x hr;refine bX hR (fun s hs=>by rw[qC,hd s hs];exact hsl s hs) k1 _ _ [] (fun i hi=>by simp at hi) (fun i hi=>by simp at hi) fun F' hF' _=>?_;intro a Q ha hD hk;refine h1 _ D F' x.1 d ho hdN k2 (by simpa using hF') a Q ha hD fun a' w' E' g1 ⟨g2,g3,v,g4,g5⟩=>hk a' w' E' g1 ⟨g2,x.2,⟨zU7 g3,fun _ _=>rfl⟩,v,g4,g5⟩
   ·unfold iW;rw[ho];refine uJ (fun Γ1 ⟨dr',p',g1,g2,g3,g4,g5,g6⟩=>⟨dr',p',g1,g2,g3,g4,fun s hs=>?_,g6⟩) _ _ _ h3;have:=g5 s hs;simp only[zae,zcJ,ho,zad,zaG] at this ⊢;rcases this with c | c | c
    ·exact .inl (.inr c)
    ·exact .inl (.inl c)
    ·exact .inr c
  ·have hdN:Nat.blt d N=true:=by have:=hN.1;rw[ho] at this;exact this
   obtain⟨_,hici,hsld,hchi⟩:=hc (i,d,c) (by simp);have hchi:ch (i+1)=c:=hchi;have hlt:∀ c'∈cs',i<c'.1∧d≠c'.2.1:=fun c' hc'=>(zav.1 hcs).1 c' hc';have hcl:c<ps.length:=(zaL.1 hpc).1;have h3:=iF hT hG hok hI hn hsl l (i+1) (ps.set c (.slot (i+1) d sh)) cs' dr ((d,vpg (i+1) sh)::Γ0) hN.2 h2 (fun s hs=>by
    have hb:Nat.beq d s=false:=by cases hb:Nat.beq d s with | true=>(obtain rfl:=zaj hb;exact absurd hsld hs) | false=>rfl
    rw[zbK];simp only[hb];exact hR s hs) hd (fun j o' d' hj hd' hs'=>by
     obtain⟨c2,h4⟩:=hdst (j+1) o' d' (by simpa using hj) hd' hs';rw[show i+1+j=i+(j+1) by omega];rcases zad.1 h4 with e | e
     ·have:=(Prod.mk.inj e).1;omega
     ·exact⟨c2,e⟩) (zav.1 hcs).2 (fun c' hc'=>⟨(hlt c' hc').1,(hc c' (by simp[hc'])).2⟩) (fun j hj=>by
     rcases hic j hj with⟨p1,g,h5,h6,h7⟩ | ⟨c',hc',e⟩
     ·by_cases e:ch j=c
      ·exact .inl ⟨_,i+1,by rw[e,zbf hcl],rfl,by have:=(hpi _ _ _ h5 h6).1;omega⟩
      ·exact .inl ⟨p1,g,by rw[zbl (fun e2=>e e2.symm)];exact h5,h6,h7⟩
     ·rcases zad.1 hc' with rfl | hc'
      ·exact .inl ⟨_,i+1,by rw[e,hchi,zbf hcl],rfl,by rw[e];exact zab _⟩
      ·exact .inr ⟨c',hc',e⟩) (fun c' p1 g h5 h6=>by
     by_cases e:c=c'
     ·subst e;rw[zbf hcl] at h5;obtain rfl:=Option.some.inj h5;obtain rfl:=Option.some.inj h6;exact⟨zab _,hchi⟩
     ·rw[zbl e] at h5;exact⟨Nat.le_succ_of_le (hpi _ _ _ h5 h6).1,(hpi _ _ _ h5 h6).2⟩) (fun c' p1 h5=>by
     by_cases e:c=c'
     ·subst e;rw[zbf hcl] at h5;obtain rfl:=Option.some.inj h5;exact⟨⟨hsld,by rw[zbK];simp⟩,fun d' hd' c2 hc2=>by obtain rfl:d'=d:=hd'; exact fun e=>(hlt c2 hc2).2 e.symm⟩
     ·rw[zbl e] at h5;have h6:=hp c' p1 h5;refine⟨?_,fun d' hd' c2 hc2=>h6.2 d' hd' c2 (by simp[hc2])⟩;cases p1 with
      | non=>trivial
      | slot g d' sh1 =>
       have hne:d≠d':=h6.2 d' rfl (i,d,c) (by simp);have hb:Nat.beq d d'=false:=by cases hb:Nat.beq d d' with | true=>exact absurd (zaj hb) hne | false=>rfl
       exact⟨h6.1.1,by rw[zbK];simp only[hb];exact h6.1.2⟩
      | st g d' sh1 g1 sh0 =>
       have hne:d≠d':=h6.2 d' rfl (i,d,c) (by simp);have hb:Nat.beq d d'=false:=by cases hb:Nat.beq d d' with | true=>exact absurd (zaj hb) hne | false=>rfl
       exact⟨h6.1.1,by rw[zbK];simp only[hb];exact h6.1.2.1,h6.1.2.2⟩
      | sv g v o=>exact h6.1
      | val v l0=>exact h6.1)
   have hall:∀ x,RH (GI n b0 S M ic ch) (w,g0) x→x.2 (i+1)=none→(∀ j,i+1<j→ch j=c→x.2 j=none)∧∀ g,pidx p=some g→∀ a,x.2 g=some a→(∀ j,j<i+1→ch j=c→ic j→x.2 j≠none)∧∀ j,g<j→ch j=c→x.2 j=none:=fun x hr hpr=>by
    have hg:=hr.inv hI;have hf:∀ j,i+1<j→ch j=c→x.2 j=none:=fun j hj hcj=>by
     cases hxj:x.2 j with
     | none=>rfl
     | some a=>exact absurd hpr (hg.cl j (i+1) a hj (hchi.trans hcj.symm) hici hxj)
    refine⟨hf,fun g hgp a ha=>⟨fun j hj hcj hjc=>?_,fun j hj hcj=>?_⟩⟩
    ·rcases hic j hjc with⟨p1,g',h5,h6,h7⟩ | ⟨c',hc',e⟩
     ·rw[hcj,hpc] at h5;obtain rfl:=Option.some.inj h5;obtain rfl:g=g':=Option.some.inj (hgp.symm.trans h6);rcases zaf j g with c2 | c2
      ·exact hg.cl g j a c2 (hcj.trans (hpi _ _ _ hpc hgp).2.symm) hjc ha
      ·obtain rfl:j=g:=by omega
       rw[ha];simp
     ·have:=(hc c' hc').1;omega
    ·cases hxj:x.2 j with
     | none=>rfl
     | some b =>
      rcases hic j (hg.dom j b hxj) with⟨p1,g',h5,h6,h7⟩ | ⟨c',hc',e⟩
      ·rw[hcj,hpc] at h5;obtain rfl:=Option.some.inj h5;obtain rfl:g=g':=Option.some.inj (hgp.symm.trans h6);omega
      ·have:=(hc c' hc').1;rcases zaf (i+1) j with c2 | c2
       ·rw[hf j c2 hcj] at hxj;cases hxj
       ·obtain rfl:j=i+1:=by omega
        rw[hpr] at hxj;cases hxj
   refine⟨vpg (i+1) sh,?_,?_⟩
   ·unfold aS;rw[ho];refine⟨fun v a b ⟨q,h4,h5⟩ hr=>⟨q,hr.mon _ _ h4,h5⟩,.inl ⟨hst d ho,fun x hr _ hpr=>?_⟩⟩;obtain⟨k1,k2,k3,k4,k5⟩:=hx x hr;obtain⟨a1,a2⟩:=hall x hr hpr;have hpr:x.2 (i+1)=none:=hpr;refine bX hR (fun s hs=>by rw[qC,hd s hs];exact hsl s hs) k1 _ _ [] (fun i hi=>by simp at hi) (fun i hi=>by simp at hi) fun F' hF' hV=>?_;have lift:∀(a:α) (w':World),(sh a).2.ok (bkM (sh a).2 (MH S M x.2)) w'→(sh a).2.ok (MH S M (gup x.2 (i+1) (sh a))) w':=fun a w' h4 =>
     Ow.ok_mono h4 (Cl.less fun b hb=>by
      rcases hb with⟨j,f,h6,h7⟩ | f
      ·unfold gup at h6;split at h6
       ·obtain rfl:=Option.some.inj h6;exact .inl h7
       ·exact .inr (.inl ⟨j,f,h6,h7⟩)
      ·exact .inr (.inr f)) fun _ _ _=>rfl
    have chg:∀(v:Value) (ob:Ow) (g:Nat),pidx p=some g→x.2 g=some (v,ob)→(ob.ok (MH S M x.2) x.1→(∀ b,ob.bk=some b→MH S M x.2 b)→Ops P r N ops (fun D' E' w'=>D'=D∧Gro x.1 w' ob.bk∧∃ a,get E' d=some (sh a).1∧((sh a).2.bk=ob.bk∨(sh a).2.bk=some x.1.heap.size)∧(sh a).2.ok (bkM (sh a).2 (MH S M x.2)) w') [o] D F' x.1) →
      Ops P r N ops (fun D' E' w'=>D'=D∧∃ g',(RH (GI n b0 S M ic ch) x (w',g')∧∀ j,j≠i+1→g' j=x.2 j)∧∃ v,get E' d=some v∧vpg (i+1) sh v (w',g')) [o] D F' x.1:=fun v ob g hgp hxg h5=>by
     obtain⟨b1,b2⟩:=a2 g hgp _ hxg;have hcg:=(hpi _ _ _ hpc hgp).2;have r1:=k3.row g _ hxg fun j hj hcj=>b2 j hj (hcj.trans hcg);intro a Q ha hD hk;refine h5 r1 (fun b hb => .inl ⟨g,_,hxg,hb⟩) a Q ha hD fun a' w' E' g1 ⟨g2,g3,q,g4,g5,g6⟩=>hk a' w' E' g1 ⟨g2,gup x.2 (i+1) (sh q),⟨?_,fun j hj=>if_neg hj⟩,_,g4,q,if_pos rfl,rfl⟩;have hmine:∀ b,ob.bk=some b→∃ j e,x.2 j=some e∧e.2.bk=some b∧ch j=ch (i+1):=fun b hb=>⟨g,_,hxg,hb,hcg.trans hchi.symm⟩;refine vC g3 hmine k4 hpr hici (fun j hj hcj hjc=>b1 j hj (hcj.trans hchi) hjc) (fun j hj hcj=>a1 j hj (hcj.trans hchi)) (fun b hb=>g5.elim (fun e => .inl (hmine b (e.symm.trans hb))) fun e => .inr (zcp (Option.some.inj (e.symm.trans hb)))) k5 (lift q w' g6)
    cases p with
    | non =>
     have h1:CkN P r N ops S o (dr++Γ) sh:=h1;intro a Q ha hD hk;refine h1 _ D F' x.1 d ho hdN k2 (by simpa using hF') a Q ha hD fun a' w' E' g1 ⟨g2,g3,q,g4,g5,g6⟩=>hk a' w' E' g1 ⟨g2,gup x.2 (i+1) (sh q),⟨?_,fun j hj=>if_neg hj⟩,_,g4,q,if_pos rfl,rfl⟩;refine vC (rw:=none) ⟨⟨g3.os,g3.tape.eq,g3.output,g3.size,fun b hb _=>g3.block b hb⟩,g3.tape.le⟩ (fun b hb=>by cases hb) k4 hpr hici (fun j hj hcj hjc=>?_) (fun j hj hcj=>a1 j hj (hcj.trans hchi)) (fun b hb => .inr (g5 b hb)) k5 (lift q w' g6);rcases hic j hjc with⟨p1,g',h5,h6,_⟩ | ⟨c',hc',e⟩
     ·rw[hcj,hchi,hpc] at h5;obtain rfl:=Option.some.inj h5;cases h6
     ·have:=(hc c' hc').1;omega
    | slot g dp sh0 =>
     obtain⟨h5,h6⟩:(yE ops o).any (Nat.beq dp)=true∧CkA P r N ops S o (dr++Γ) (fun E v=>get E dp=some v) (fun v ob=>∃ a,(v,ob)=sh0 a) sh:=h1;have hm:dp∈yE ops o:=by
      obtain⟨s,h7,h8⟩:=List.any_eq_true.1 h5;obtain rfl:=zaj h8;exact h7
     obtain⟨v,h7,q,h8,h9⟩:=hV dp (by simpa using hm) _ (hp c _ hpc).1.2;refine chg (sh0 q).1 (sh0 q).2 g rfl h8 fun r1 r2=>h6 _ D F' x.1 d _ _ ho hdN k2 (by simpa using hF') (show get F' dp=some (sh0 q).1 by rw[h7,h9]) ⟨q,rfl⟩ r1 r2
    | st g d2 sh2 g1 sh0=>exact(show False from h1).elim
    | sv g v o=>exact(show False from h1).elim
    | val v0 o0 =>
     have h6:CkA P r N ops S o (dr++Γ) (fun _ v=>v=v0) (fun v ob=>v=v0∧ob=o0) sh:=h1;have h8:x.2 0=some (v0,o0):=hr.mon 0 _ (hp c _ hpc).1;exact chg v0 o0 0 rfl h8 fun r1 r2=>h6 _ D F' x.1 d v0 o0 ho hdN k2 (by simpa using hF') rfl ⟨rfl,rfl⟩ r1 r2
   ·unfold iW;rw[ho];refine uJ (fun Γ1 ⟨dr',p',g1,g2,g3,g4,g5,g6⟩=>⟨dr',p',g1,g2,g3,g4,fun s hs=>?_,g6⟩) _ _ _ h3;have:=g5 s hs;simp only[zae,zcJ,ho,zad] at this ⊢;rcases this with c | c
    ·exact .inl (.inr c)
    ·exact .inr c
  ·obtain⟨_,hici,hsld,hchi⟩:=hc (i,dd,c) (by simp);have hchi:ch (i+1)=c:=hchi;have hlt:∀ c'∈cs',i<c'.1∧dd≠c'.2.1:=fun c' hc'=>(zav.1 hcs).1 c' hc';have hcl:c<ps.length:=(zaL.1 hpc).1;obtain⟨h0,h1⟩:=h1;have hpg:=hp c _ hpc;have h3:=iF hT hG hok hI hn hsl l (i+1) (ps.set c (.st (i+1) dp sh g sh0)) cs' dr Γ0 hN.2 h2 hR hd (fun j o' d' hj hd' hs'=>by
     obtain⟨c2,h4⟩:=hdst (j+1) o' d' (by simpa using hj) hd' hs';rw[show i+1+j=i+(j+1) by omega];rcases zad.1 h4 with e | e
     ·have:=(Prod.mk.inj e).1;omega
     ·exact⟨c2,e⟩) (zav.1 hcs).2 (fun c' hc'=>⟨(hlt c' hc').1,(hc c' (by simp[hc'])).2⟩) (fun j hj=>by
     rcases hic j hj with⟨p1,g',h5,h6,h7⟩ | ⟨c',hc',e⟩
     ·by_cases e:ch j=c
      ·exact .inl ⟨_,i+1,by rw[e,zbf hcl],rfl,by have:=(hpi _ _ _ h5 h6).1;omega⟩
      ·exact .inl ⟨p1,g',by rw[zbl (fun e2=>e e2.symm)];exact h5,h6,h7⟩
     ·rcases zad.1 hc' with rfl | hc'
      ·exact .inl ⟨_,i+1,by rw[e,hchi,zbf hcl],rfl,by rw[e];exact zab _⟩
      ·exact .inr ⟨c',hc',e⟩) (fun c' p1 g' h5 h6=>by
     by_cases e:c=c'
     ·subst e;rw[zbf hcl] at h5;obtain rfl:=Option.some.inj h5;obtain rfl:=Option.some.inj h6;exact⟨zab _,hchi⟩
     ·rw[zbl e] at h5;exact⟨Nat.le_succ_of_le (hpi _ _ _ h5 h6).1,(hpi _ _ _ h5 h6).2⟩) (fun c' p1 h5=>by
     by_cases e:c=c'
     ·subst e;rw[zbf hcl] at h5;obtain rfl:=Option.some.inj h5;exact⟨⟨hpg.1.1,hpg.1.2,fun a=>(h0 a).1,fun x hx=>hx i _ hke⟩,fun d' hd' c2 hc2=>hpg.2 d' hd' c2 (by simp[hc2])⟩
     ·rw[zbl e] at h5;have h6:=hp c' p1 h5;exact⟨h6.1,fun d' hd' c2 hc2=>h6.2 d' hd' c2 (by simp[hc2])⟩)
   refine⟨fun _ _=>True,?_,?_⟩
   ·unfold aS;rw[ho];refine .inr ⟨_,hke,fun _ _ _ h=>(by cases h),fun a b ⟨q,e1,e2⟩ hab=>⟨q,hab.mon _ _ e1,hab.mon _ _ e2⟩,fun x hr _ hpr=>?_⟩;obtain⟨k1,k2,k3,k4,k5⟩:=hx x hr;have hpr:x.2 (i+1)=none:=hpr;refine bX hR (fun s hs=>by rw[qC,hd s hs];exact hsl s hs) k1 _ _ [] (fun i hi=>by simp at hi) (fun i hi=>by simp at hi) fun F' hF' hV=>?_;have hm:dp∈yE ops o:=by
     obtain⟨s,h7,h8⟩:=List.any_eq_true.1 hsd;obtain rfl:=zaj h8;exact h7
    obtain⟨v,h7,q,h8,h9⟩:=hV dp (by simpa using hm) _ hpg.1.2;have hcg:=(hpi _ _ _ hpc rfl).2;have hfut:∀ j,g<j→ch j=c→x.2 j=none:=fun j hj hcj=>by
     cases hxj:x.2 j with
     | none=>rfl
     | some b =>
      rcases hic j (k3.dom j b hxj) with⟨p1,g',h5,h6,h10⟩ | ⟨c',hc',e⟩
      ·rw[hcj,hpc] at h5;obtain rfl:=Option.some.inj h5;have:=Option.some.inj h6;omega
      ·have:=(hc c' hc').1;rcases zaf (i+1) j with c2 | c2
       ·exact absurd hpr (k3.cl j (i+1) b c2 (hchi.trans hcj.symm) hici hxj)
       ·obtain rfl:j=i+1:=by omega
        rw[hpr] at hxj;cases hxj
    have r1:=k3.row g _ h8 fun j hj hcj=>hfut j hj (hcj.trans hcg);intro a Q2 ha hD hk;refine h1 _ D F' x.1 q k2 (by simpa using hF') (by rw[h7,h9]) r1 (fun b hb => .inl ⟨g,_,h8,hb⟩) a Q2 ha hD fun a' w' E' g1 ⟨g2,g3,g6⟩=>hk a' w' E' g1 ⟨g2,gup x.2 (i+1) (sh q),⟨?_,fun j hj=>if_neg hj⟩,⟨q,by(show gup x.2 (i+1) (sh q) g=_);unfold gup;rw[if_neg (by have:=(hpi _ _ _ hpc rfl).1;omega)];exact h8,if_pos rfl⟩⟩
    ·have hmine:∀ b,(sh0 q).2.bk=some b→∃ j e,x.2 j=some e∧e.2.bk=some b∧ch j=ch (i+1):=fun b hb=>⟨g,_,h8,hb,hcg.trans hchi.symm⟩;refine vC g3 hmine k4 hpr hici (fun j hj hcj hjc=>?_) (fun j hj hcj=>?_) (fun b hb => .inl (hmine b ((h0 q).2.symm.trans hb))) k5 (Ow.ok_mono g6 (Cl.less fun b hb=>?_) fun _ _ _=>rfl)
     ·rcases hic j hjc with⟨p1,g',h5,h6,h10⟩ | ⟨c',hc',e⟩
      ·rw[hcj,hchi,hpc] at h5;obtain rfl:=Option.some.inj h5;obtain rfl:g=g':=Option.some.inj h6;rcases zaf j g with c2 | c2
       ·exact k3.cl g j _ c2 ((hcj.trans hchi).trans hcg.symm) hjc h8
       ·obtain rfl:j=g:=by omega
        rw[h8];simp
      ·have:=(hc c' hc').1;omega
     ·exact hfut j (by have:=(hpi _ _ _ hpc rfl).1;omega) (hcj.trans hchi)
     ·rcases hb with⟨j,f,h10,h11⟩ | f
      ·unfold gup at h10;split at h10
       ·obtain rfl:=Option.some.inj h10;exact .inl ⟨g,_,h8,(h0 q).2.symm.trans h11⟩
       ·exact .inl ⟨j,f,h10,h11⟩
      ·exact .inr f
   ·unfold iW;rw[ho];refine uJ (fun Γ1 ⟨dr',p',g1,g2,g3,g4,g5,g6⟩=>⟨dr',p',g1,g2,g3,g4,fun s hs=>?_,g6⟩) _ _ _ h3;have:=g5 s hs;simp only[zae,zcJ,ho] at this ⊢;exact this
  ·obtain⟨_,hici,hsld,hchi⟩:=hc (i,dd,c) (by simp);have hchi:ch (i+1)=c:=hchi;have hlt:∀ c'∈cs',i<c'.1∧dd≠c'.2.1:=fun c' hc'=>(zav.1 hcs).1 c' hc';have hcl:c<ps.length:=(zaL.1 hpc).1;obtain⟨h0,h1⟩:=h1;have hpg:=hp c _ hpc;have h3:=iF hT hG hok hI hn hsl l (i+1) (ps.set c (.sv (i+1) v0 o1)) cs' dr Γ0 hN.2 h2 hR hd (fun j o' d' hj hd' hs'=>by
     obtain⟨c2,h4⟩:=hdst (j+1) o' d' (by simpa using hj) hd' hs';rw[show i+1+j=i+(j+1) by omega];rcases zad.1 h4 with e | e
     ·have:=(Prod.mk.inj e).1;omega
     ·exact⟨c2,e⟩) (zav.1 hcs).2 (fun c' hc'=>⟨(hlt c' hc').1,(hc c' (by simp[hc'])).2⟩) (fun j hj=>by
     rcases hic j hj with⟨p1,g',h5,h6,h7⟩ | ⟨c',hc',e⟩
     ·by_cases e:ch j=c
      ·exact .inl ⟨_,i+1,by rw[e,zbf hcl],rfl,by have:=(hpi _ _ _ h5 h6).1;omega⟩
      ·exact .inl ⟨p1,g',by rw[zbl (fun e2=>e e2.symm)];exact h5,h6,h7⟩
     ·rcases zad.1 hc' with rfl | hc'
      ·exact .inl ⟨_,i+1,by rw[e,hchi,zbf hcl],rfl,by rw[e];exact zab _⟩
      ·exact .inr ⟨c',hc',e⟩) (fun c' p1 g' h5 h6=>by
     by_cases e:c=c'
     ·subst e;rw[zbf hcl] at h5;obtain rfl:=Option.some.inj h5;obtain rfl:=Option.some.inj h6;exact⟨zab _,hchi⟩
     ·rw[zbl e] at h5;exact⟨Nat.le_succ_of_le (hpi _ _ _ h5 h6).1,(hpi _ _ _ h5 h6).2⟩) (fun c' p1 h5=>by
     by_cases e:c=c'
     ·subst e;rw[zbf hcl] at h5;obtain rfl:=Option.some.inj h5;exact⟨fun x hx=>hx i _ hke,fun d' hd'=>hd'.elim⟩
     ·rw[zbl e] at h5;have h6:=hp c' p1 h5;exact⟨h6.1,fun d' hd' c2 hc2=>h6.2 d' hd' c2 (by simp[hc2])⟩)
   refine⟨fun _ _=>True,?_,?_⟩
   ·unfold aS;rw[ho];refine .inr ⟨_,hke,fun _ _ _ h=>(by cases h),fun a b e hab=>hab.mon _ _ e,fun x hr _ hpr=>?_⟩;obtain⟨k1,k2,k3,k4,k5⟩:=hx x hr;have hpr:x.2 (i+1)=none:=hpr;refine bX hR (fun s hs=>by rw[qC,hd s hs];exact hsl s hs) k1 _ _ [] (fun i hi=>by simp at hi) (fun i hi=>by simp at hi) fun F' hF' hV=>?_;have h8:x.2 0=some (v0,o0):=hr.mon 0 _ hpg.1;have hcg:=(hpi _ _ _ hpc rfl).2;have hfut:∀ j,0<j→ch j=c→x.2 j=none:=fun j hj hcj=>by
     cases hxj:x.2 j with
     | none=>rfl
     | some b =>
      rcases hic j (k3.dom j b hxj) with⟨p1,g',h5,h6,h10⟩ | ⟨c',hc',e⟩
      ·rw[hcj,hpc] at h5;obtain rfl:=Option.some.inj h5;have:=Option.some.inj h6;omega
      ·have:=(hc c' hc').1;rcases zaf (i+1) j with c2 | c2
       ·exact absurd hpr (k3.cl j (i+1) b c2 (hchi.trans hcj.symm) hici hxj)
       ·obtain rfl:j=i+1:=by omega
        rw[hpr] at hxj;cases hxj
    have r1:=k3.row 0 _ h8 fun j hj hcj=>hfut j hj (hcj.trans hcg);intro a Q2 ha hD hk;refine h1 _ D F' x.1 k2 (by simpa using hF') r1 (fun b hb => .inl ⟨0,_,h8,hb⟩) a Q2 ha hD fun a' w' E' g1 ⟨g2,g3,g6⟩=>hk a' w' E' g1 ⟨g2,gup x.2 (i+1) (v0,o1),⟨?_,fun j hj=>if_neg hj⟩,if_pos rfl⟩
    ·have hmine:∀ b,o0.bk=some b→∃ j e,x.2 j=some e∧e.2.bk=some b∧ch j=ch (i+1):=fun b hb=>⟨0,_,h8,hb,hcg.trans hchi.symm⟩;refine vC g3 hmine k4 hpr hici (fun j hj hcj hjc=>?_) (fun j hj hcj=>?_) (fun b hb => .inl (hmine b (h0.symm.trans hb))) k5 (Ow.ok_mono g6 (Cl.less fun b hb=>?_) fun _ _ _=>rfl)
     ·rcases hic j hjc with⟨p1,g',h5,h6,h10⟩ | ⟨c',hc',e⟩
      ·rw[hcj,hchi,hpc] at h5;obtain rfl:=Option.some.inj h5;obtain rfl:0=g':=Option.some.inj h6;rcases zaf j 0 with c2 | c2
       ·exact k3.cl 0 j _ c2 ((hcj.trans hchi).trans hcg.symm) hjc h8
       ·obtain rfl:j=0:=by omega
        rw[h8];simp
      ·have:=(hc c' hc').1;omega
     ·exact hfut j (by have:=(hpi _ _ _ hpc rfl).1;omega) (hcj.trans hchi)
     ·rcases hb with⟨j,f,h10,h11⟩ | f
      ·unfold gup at h10;split at h10
       ·obtain rfl:=Option.some.inj h10;exact .inl ⟨0,_,h8,h0.symm.trans h11⟩
       ·exact .inl ⟨j,f,h10,h11⟩
      ·exact .inr f
   ·unfold iW;rw[ho];refine uJ (fun Γ1 ⟨dr',p',g1,g2,g3,g4,g5,g6⟩=>⟨dr',p',g1,g2,g3,g4,fun s hs=>?_,g6⟩) _ _ _ h3;have:=g5 s hs;simp only[zae,zcJ,ho] at this ⊢;exact this
end
def RegW (d:Bool)(P:Program)(r:Option Nat)(N:Nat)(ops:Array Oper)(Kn:Pd)(Ke:Nat→Pd)(Kr:Pd)(D:List Deferred)(E:Env)(w:World):Prop :=
 ∀ a,Has a N E→a.defers=D→wpAnyIn (Fr r) 0 P .any ops (toQ N Kn Ke Kr) ops.size (Array.replicate ops.size false) a (bif d then { w with drawn:=w.drawn+1 } else w)
def TRg (d:Bool)(P:Program)(r:Option Nat)(N:Nat)(X:Cx)(ops:Array Oper)(Kn:TK)(Ke:Nat→TK)(Kr:TK):TE→List Ow→Prop:=fun Γ S =>
 ∀ D E w,St X Γ S E w→RegW d P r N ops (lf Kn D) (fun i=>lf (Ke i) D) (lf Kr D) (X.ms++D) E w
theorem yD0 {P:Program}{r:Option Nat}{N:Nat}{ops:Array Oper}{S:List Ow}{X:Cx}{Γ:TE}{Kn Kr:TK}{Ke:Nat→TK}{rid:Nat}(hm:P.follows .mixedOrders=true)(h:TRg true P r N X ops Kn Ke Kr Γ S):TW P r N X (.region rid ops true) Kn Ke Kr Γ S:=fun D E w hs a ha hd=>wpIn_region_any hm (h D E w hs a ha hd)
def csOk (ops:Array Oper)(m k:Nat)(cs:List (Nat×Nat×Nat)):Bool:=decide (cs.Pairwise fun a b=>a.1<b.1∧a.2.1≠b.2.1)&&cs.all (fun c=>Nat.blt c.2.2 k)&&(ops.toList.take m).zipIdx.all fun(o,j)=>match o.dst with
 | some d=>cs.all fun c=>!Nat.beq c.2.1 d || Nat.beq c.1 j
 | none=>true
def chOf (cs:List (Nat×Nat×Nat))(j:Nat):Nat:=match cs.find? (fun c=>Nat.beq (c.1+1) j) with
 | some c=>c.2.2
 | none=>0
theorem yA3:∀ {cs:List (Nat×Nat×Nat)},cs.Pairwise (fun a b=>a.1<b.1∧a.2.1≠b.2.1)→∀ {c},c∈cs→chOf cs (c.1+1)=c.2.2
 | a::cs,h,c,hc=>by
  obtain⟨h1,h2⟩:=zav.1 h;unfold chOf;rw[zbK];rcases zad.1 hc with rfl | hc
  ·simp
  ·have hne:Nat.beq (a.1+1) (c.1+1)=false:=by
    have:=(h1 c hc).1;cases hb:Nat.beq (a.1+1) (c.1+1) with
    | true=>have:=zaj hb;omega
    | false=>rfl
   simp only[hne];exact yA3 h2 hc
section
variable {P : Program} {r : Option Nat} {N : Nat} {ops : Array Oper} {S S0 : List Ow} {X : Cx} {Γ : TE} {Kn Kr : TK} {Ke : Nat → TK} {rid : Nat} {th : Nat → Option (World × Gh → Prop)}
def FinM (P:Program)(r:Option Nat)(N:Nat)(ops:Array Oper)(X:Cx)(Kn:TK)(m:Nat):List Pv→TE→List Ow→Prop
 | [],Γ,S=>TO P r N ops X Kn (ops.toList.drop m) Γ S
 | .sv _ _ o::ps,Γ,S=>FinM P r N ops X Kn m ps Γ (o::S)
 | .slot _ d sh::ps,Γ,S | .st _ d sh _ _::ps,Γ,S=>∀ a,FinM P r N ops X Kn m ps ((d,True,exP (sh a).1)::Γ) ((sh a).2::S)
 | _::_,_,_=>False
def accΓ:List (Option Nat×Value×Ow)→TE→TE
 | [],Γ=>Γ
 | (none,_)::os,Γ=>accΓ os Γ
 | (some d,x)::os,Γ=>accΓ os ((d,True,exP x.1)::Γ)
def accS:List (Option Nat×Value×Ow)→List Ow→List Ow
 | [],S=>S
 | x::os,S=>accS os (x.2.2::S)
theorem vU {m:Nat}{x2:Gh}{E:Env}:∀ {ps:List Pv} {c0:Nat} {Γ:TE} {S:List Ow},FinM P r N ops X Kn m ps Γ S→(∀(c:Nat) (p:Pv),ps[c]? = some p→match p with
  | .slot g d sh | .st g d sh _ _=>∃ a,x2 g=some (sh a)∧get E d=some (sh a).1∧True
  | .sv g v o=>x2 g=some (v,o)
  | _=>True) →
  ∃ os:List (Option Nat×Value×Ow),TO P r N ops X Kn (ops.toList.drop m) (accΓ os Γ) (accS os S)∧os.length=ps.length∧∀(c:Nat) (x:Option Nat×Value×Ow),os[c]? = some x→(∀ d,x.1=some d→get E d=some x.2.1)∧∃ g p,ps[c]? = some p∧pidx p=some g∧x2 g=some x.2
 | [],_,Γ,S,h,_=>⟨[],h,rfl,fun c x hx=>by simp at hx⟩
 | .non::_,_,_,_,h,_=>h.elim
 | .val _ _::_,_,_,_,h,_=>h.elim
 | .sv g v o::ps,c0,Γ,S,h,hp=>by
  have h1:=hp 0 _ rfl;obtain⟨os,h3,h4,h5⟩:=vU (c0:=c0+1) (show FinM P r N ops X Kn m ps Γ (o::S) from h) fun c p hc=>hp (c+1) p (by simpa using hc);refine⟨(none,v,o)::os,h3,by simp[h4],fun c x hx=>?_⟩;cases c with
  | zero=>simp at hx;subst hx;exact⟨fun d h=>(by cases h),g,_,rfl,rfl,h1⟩
  | succ c =>
   obtain⟨h6,g',p,h7,h8,h9⟩:=h5 c x (by simpa using hx);exact⟨h6,g',p,by simpa using h7,h8,h9⟩
 | .slot g d sh::ps,c0,Γ,S,h,hp | .st g d sh _ _::ps,c0,Γ,S,h,hp=>by
  obtain⟨a,h1,h2,_⟩:=hp 0 _ rfl;obtain⟨os,h3,h4,h5⟩:=vU (c0:=c0+1) (h a) fun c p hc=>hp (c+1) p (by simpa using hc);refine⟨(some d,sh a)::os,h3,by simp[h4],fun c x hx=>?_⟩;cases c with
  | zero=>simp at hx;subst hx;exact⟨fun d' e=>by rw[← Option.some.inj e];exact h2,g,_,rfl,rfl,h1⟩
  | succ c =>
   obtain⟨h6,g',p,h7,h8,h9⟩:=h5 c x (by simpa using hx);exact⟨h6,g',p,by simpa using h7,h8,h9⟩
theorem iP:∀ {os:List (Option Nat×Value×Ow)} {S:List Ow} {o:Ow},o∈accS os S↔(∃ x∈os,o=x.2.2)∨o∈S
 | [],S,o=>by simp[accS]
 | x::os,S,o=>by
  unfold accS;rw[iP];simp only[zad];constructor
  ·rintro(⟨y,h1,h2⟩ | h | h)
   ·exact .inl ⟨y,.inr h1,h2⟩
   ·exact .inl ⟨x,.inl rfl,h⟩
   ·exact .inr h
  ·rintro(⟨y,h1 | h1,h2⟩ | h)
   ·subst h1;exact .inr (.inl h2)
   ·exact .inl ⟨y,h1,h2⟩
   ·exact .inr (.inr h)
theorem zN4:∀ {os:List (Option Nat×Value×Ow)} {S:List Ow},Apt S→(∀ x∈os,∀ b,x.2.2.bk=some b→∀ p∈S,p.bk≠some b)→os.Pairwise (fun x y=>∀ b,x.2.2.bk=some b→y.2.2.bk≠some b)→Apt (accS os S)
 | [],_,h,_,_=>h
 | x::os,S,h,h1,h2=>by
  obtain⟨h3,h4⟩:=zav.1 h2;refine zN4 (S:=x.2.2::S) ⟨h1 x (by simp),h⟩ (fun y hy b hb p hp=>?_) h4;rcases zad.1 hp with rfl | hp
  ·exact fun e=>h3 y hy b e hb
  ·exact h1 y (by simp[hy]) b hb p hp
theorem tm_accΓ {M:Nat→Prop}{E:Env}{w:World}:∀ {os:List (Option Nat×Value×Ow)} {Γ:TE},TM Γ M E w→(∀ x∈os,∀ d,x.1=some d→get E d=some x.2.1)→TM (accΓ os Γ) M E w
 | [],_,h,_=>h
 | (none,x)::os,Γ,h,h1=>tm_accΓ (os:=os) h fun y hy=>h1 y (by simp[hy])
 | (some d,x)::os,Γ,h,h1=>tm_accΓ (os:=os) (fun s q hq=>by
  unfold tf at hq;cases hb:Nat.beq d s with
  | true =>
   rw[hb] at hq;obtain rfl:=zaj hb;obtain rfl:=Option.some.inj hq;exact⟨fun _=>⟨_,h1 (some d,x) (by simp) d rfl,rfl⟩,fun c=>absurd trivial c⟩
  | false=>rw[hb] at hq;exact h s q hq) fun y hy=>h1 y (by simp[hy])
theorem zT1 (d:Bool)(m:Nat)(cs:List (Nat×Nat×Nat))(g0:Gh)(b0:Option Nat)(ps0:List Pv)(hcs:csOk ops m ps0.length cs=true)(hda:(cs.all fun c=>(tf Γ c.2.1).isNone)=true)(hlook:xR ops m=true)(hN:okN N ops.toList=true)
  (hg0:∀ i,g0 (i+1)=none) (hp0:∀(c:Nat) (p:Pv),ps0[c]? = some p→match p with | .non=>True | .slot _ _ _ | .st _ _ _ _ _ | .sv _ _ _=>False | .val v o=>g0 0=some (v,o)∧c=0)
  (hst:∀ E w,St X Γ S0 E w→TM Γ (MH S X.M g0) E w∧Gd (MH S X.M g0) S w∧OkM (Mk S X.M) w∧GI w.heap.size b0 S X.M (fun j=>past ps0 (chOf cs) j ∨ ∃ c∈cs,j=c.1+1) (chOf cs) (w,g0)∧(∀ b,b0=some b→X.w.heap.size≤b∨X.z b)∧(∀ b,gbk g0 b→X.w.heap.size≤b∨X.z b)∧Apt S∧(∀ o∈S,∀ b,o.bk=some b→X.w.heap.size≤b∨X.z b))
  (hk:∀ i Θ,th i=some Θ→i<m∧∃ o,ops[i]? = some o∧o.dst=none)
  (h:TDC P r N ops S th (fun ps Γ'=>FinM P r N ops X Kn m ps Γ' S) (ops.toList.take m) 0 ps0 cs Γ):TRg d P r N X ops Kn Ke Kr Γ S0:=fun D E w hs=>by
 obtain⟨s1,s2,s3,s4,s5,s6,s7,s8⟩:=hst E w hs;have hN1:okN N (ops.toList.take m)=true:=zaC.2 fun o ho=>zaC.1 hN o (zbc ho);have hN2:okN N (ops.toList.drop m)=true:=zaC.2 fun o ho=>zaC.1 hN o (zbB ho);unfold csOk at hcs;simp only[zaq,decide_eq_true_eq] at hcs;obtain⟨⟨hc1,hc2⟩,hc3⟩:=hcs;have hsl:∀ s,(∃ c∈cs,c.2.1=s)→tf Γ s=none:=fun s ⟨c,hc,e⟩=>by
  have:=zaC.1 hda c hc;subst e;simpa using this
 have hch0:chOf cs 0=0:=by
  unfold chOf;have:cs.find? (fun c=>Nat.beq (c.1+1) 0)=none:=List.find?_eq_none.2 fun c _=>by
   have:Nat.beq (c.1+1) 0=false:=rfl;simp
  rw[this]
 have h1:=iF (D:=X.ms++D) (sl:=fun s=>∃ c∈cs,c.2.1=s) s1 s2 s3 s4 (zab _) hsl (ops.toList.take m) 0 ps0 cs [] [] hN1 h (fun s _=>rfl) (fun s _=>rfl) (fun j o d hj hd ⟨c,hc,e⟩=>by
   have h2:=bM hc3 hj;simp only[hd] at h2;have h3:=zaC.1 h2 c hc;rw[e] at h3;have:c.1=j:=by simpa using h3
   exact⟨c.2.2,by rw[zba,← this,← e];exact hc⟩) hc1 (fun c hc=>⟨zaD _,.inr ⟨c,hc,rfl⟩,⟨c,hc,rfl⟩,yA3 hc1 hc⟩) (fun j hj=>hj) (fun c p g hp hg=>by
   have h2:=hp0 c p hp;cases p with
   | non=>cases hg
   | slot _ _ _=>exact h2.elim
   | st _ _ _ _ _=>exact h2.elim
   | sv _ _ _=>exact h2.elim
   | val v l=>obtain rfl:=Option.some.inj hg;exact⟨zab _,by rw[hch0,h2.2]⟩) (fun c p hp=>by
   have h2:=hp0 c p hp;cases p with
   | non=>exact⟨trivial,fun d hd=>hd.elim⟩
   | slot _ _ _=>exact h2.elim
   | st _ _ _ _ _=>exact h2.elim
   | sv _ _ _=>exact h2.elim
   | val v l=>exact⟨h2.1,fun d hd=>hd.elim⟩)
 refine wK (g0:=g0) (R:=RH (GI w.heap.size b0 S X.M (fun j=>past ps0 (chOf cs) j ∨ ∃ c∈cs,j=c.1+1) (chOf cs))) (R':=fun i a b=>RH (GI w.heap.size b0 S X.M (fun j=>past ps0 (chOf cs) j ∨ ∃ c∈cs,j=c.1+1) (chOf cs)) a b∧∀ j,j≠i+1→b.2 j=a.2 j) (Pr:=fun i x=>x.2 (i+1)=none) (st:=none) (th:=th) m (((ops.toList.take m).filterMap (·.dst))++cs.map (·.2.1)++Γ.map (·.1)) (mR hlook) (fun _ _ _ h g=>h.trans g) (fun _ _ _ h=>h.1)
  (zU7 (by cases d;exact xI _;exact vD _)) (fun k pre post e=>by cases e) (fun i=>hg0 i) (fun i j a b hij hp ⟨_,h2⟩=>(h2 (i+1) (by omega)).trans hp) ?_
 refine uJ (fun Γ1 ⟨dr',ps',hR,hd',hpast,hp',hkeys,hF⟩=>?_) _ _ _ h1;intro x hr _ hpo;have hg:=hr.inv s4;refine bX hR (fun s hs=>by rw[qC,hd' s hs];exact hsl s hs) (s1.mono hr.cl) _ _ [] (fun i hi=>by simp at hi) (fun i hi=>by simp at hi) fun F' hF' hV=>?_;obtain⟨os,q1,q2,q3⟩:=vU (x2:=x.2) (E:=F') (c0:=0) hF fun c p hc=>by
  cases p with
  | non=>trivial
  | val _ _=>trivial
  | sv g v o =>
   have hq:QA th x:=fun i Θ hi=>by
    obtain⟨him,o,ho,hd⟩:=hk i Θ hi;exact hpo i o Θ (by rw[List.getElem?_take,if_pos him];simpa using ho) hd (fun _ _ _ h=>by cases h) hi
   exact(hp' c _ hc).1 x hq
  | st g d sh g1 sh0 =>
   obtain⟨⟨⟨c2,h5,h6⟩,h7,h8,h9⟩,_⟩:=hp' c _ hc;obtain⟨v,hv1,a,hv2,hv3⟩:=hV d (by simp only[zas,zae];exact .inl (.inr (zai.2 ⟨c2,h5,h6⟩))) _ h7;have hq:QA th x:=fun i Θ hi=>by
    obtain⟨him,o,ho,hd⟩:=hk i Θ hi;exact hpo i o Θ (by rw[List.getElem?_take,if_pos him];simpa using ho) hd (fun _ _ _ h=>by cases h) hi
   obtain⟨a',h10,h11⟩:=h9 x hq;have e:=Option.some.inj (hv2.symm.trans h10);exact⟨a',h11,by rw[hv1,hv3,h8,e],trivial⟩
  | slot g d sh =>
   obtain⟨⟨⟨c2,h5,h6⟩,h7⟩,_⟩:=hp' c _ hc;obtain⟨v,hv1,a,hv2,hv3⟩:=hV d (by simp only[zas,zae];exact .inl (.inr (zai.2 ⟨c2,h5,h6⟩))) _ h7;exact⟨a,hv2,by rw[hv1,hv3],trivial⟩
 have q4:∀ y∈os,∃ c g,os[c]? = some y∧x.2 g=some y.2∧chOf cs g=c∧(∀ d,y.1=some d→get F' d=some y.2.1)∧y.2.2.ok (MH S X.M x.2) x.1:=fun y hy=>by
  obtain⟨c,hc⟩:=zbR.1 hy;obtain⟨h5,g,p,h6,h7,h8⟩:=q3 c y hc;have h9:=(hp' c p h6).2 g h7;refine⟨c,g,hc,h8,h9,h5,hg.row g _ h8 fun j hj hcj=>?_⟩;cases hxj:x.2 j with
  | none=>rfl
  | some a =>
   obtain⟨p2,g2,h10,h11,h12⟩:=hpast j (hg.dom j a hxj);rw[hcj,h9,h6] at h10;obtain rfl:=Option.some.inj h10;have:=Option.some.inj (h7.symm.trans h11);omega
 have hsub:∀ b,Mk (accS os S) X.M b→MH S X.M x.2 b:=fun b hb=>by
  rcases hb with⟨o,ho,e⟩ | hb
  ·rcases iP.1 ho with⟨y,hy,rfl⟩ | ho
   ·obtain⟨c,g,_,h6,_⟩:=q4 y hy;exact .inl ⟨g,_,h6,e⟩
   ·exact .inr (.inl ⟨o,ho,e⟩)
  ·exact .inr (.inr hb)
 have cl:=Cl.less (w:=x.1) hsub;have hgb:=hr.cl (S:=S) (M:=X.M);have hpw:os.Pairwise (fun y z=>∀ b,y.2.2.bk=some b→z.2.2.bk≠some b):=by
  refine zcK.2 fun i j hi hj hij b hb hb2=>?_;obtain⟨h5,g,p,h6,h7,h8⟩:=q3 i _ (zag hi);obtain⟨h5',g',p',h6',h7',h8'⟩:=q3 j _ (zag hj);have e1:=(hp' i p h6).2 g h7;have e2:=(hp' j p' h6').2 g' h7';exact hg.dis g g' _ _ h8 h8' (by rw[e1,e2];omega) b hb hb2
 refine q1 hN2 D F' x.1 ⟨⟨hr.os.trans hs.bel.os,hr.tape.trans hs.bel.tape,hr.output.trans hs.bel.output,zac hs.bel.size hr.size,fun b hb hz=>?_⟩,⟨fun b hb=>?_,(s2.tab.cl hgb).cl cl,fun o ho=>?_⟩,fun o ho b hb=>?_,zN4 s7 (fun y hy b hb p hp e=>?_) hpw,hs.ok0,hs.zm,hs.mko.nc (.but (z:=gbk g0) (fun b h k=>hr.blk b h k) fun b ⟨i,a,h5,h6⟩=>by
   cases i with
   | zero=>exact jQ (s4.row 0 a h5 fun j hj _=>by
     cases j with
     | zero=>omega
     | succ j=>exact hg0 j) b h6
   | succ i=>rw[hg0] at h5;cases h5),tm_accΓ (fun s q hq=>?_) fun y hy=>?_⟩
 ·refine(hr.blk b (zan hb hs.bel.size) fun c=>?_).trans (hs.bel.block b hb hz);exact(s6 b c).elim (fun c=>by omega) hz
 ·rcases hsub b hb with⟨j,a,h5,h6⟩ | h5
  ·exact(hg.lo j a h5 b h6).2.2
  ·exact zan (s3 b h5) hr.size
 ·rcases iP.1 ho with⟨y,hy,rfl⟩ | ho
  ·obtain⟨c,g,_,_,_,_,h9⟩:=q4 y hy;exact Ow.ok_mono h9 cl fun _ _ _=>rfl
  ·refine Ow.ok_mono (Ow.ok_mono (s2.own o ho) hgb fun b hb hlt=>hr.blk b hlt fun⟨j,a,h5,h6⟩=>?_) cl fun _ _ _=>rfl;exact(s4.lo j a h5 b h6).1 (.inl ⟨o,ho,hb⟩)
 ·rcases iP.1 ho with⟨y,hy,rfl⟩ | ho
  ·obtain⟨c,g,_,h6,_⟩:=q4 y hy;rcases (hg.lo g _ h6 b hb).2.1 with h5 | h5
   ·exact .inl (zac hs.bel.size h5)
   ·exact s5 b h5
  ·exact s8 o ho b hb
 ·obtain⟨c,g,_,h6,_⟩:=q4 y hy;exact(hg.lo g _ h6 b hb).1 (.inl ⟨p,hp,e⟩)
 ·have h3:tf (dr'++Γ) s=some q:=hq;refine(hF' s ?_ q h3).mono cl;rw[qC] at h3;simp only[zas,zae];cases h4:tf dr' s with
  | some Φ =>
   have:=hkeys s (dG h4);simp only[zbe,zas] at this;exact .inl (.inl this)
  | none=>rw[h4] at h3;exact .inr (dG h3)
 ·obtain⟨c,g,_,_,_,h8,_⟩:=q4 y hy;exact h8
end
abbrev rowS (ty:TypeId)(k:Nat)(l:List CT):Value→Value×Ow:=fun v=>(v,.row v ty k l)
abbrev blkS (ty:TypeId)(cs:List CT):Nat→Value×Ow:=fun b=>(.pointer (some ⟨b,0,none⟩),.blk b ty cs)
section
variable {P : Program} {r : Option Nat} {N : Nat} {ops : Array Oper} {S : List Ow} {X : Cx} {Γ : TE} {Kn Kr : TK} {Ke : Nat → TK} {rid : Nat}
theorem st_ok {m i:Nat}(hk:(Nat.blt i m&&(match ops[i]? with | some o=>o.dst.isNone | none=>false))=true):i<m∧∃ o,ops[i]? = some o∧o.dst=none:=by
 simp only[zaq,Nat.blt_eq] at hk;refine⟨hk.1,?_⟩;cases ho:ops[i]? with
 | some o=>rw[ho] at hk;exact⟨o,rfl,Option.isNone_iff_eq_none.1 hk.2⟩
 | none=>rw[ho] at hk;cases hk.2
theorem yC6 {m i0 i:Nat}{Q Θ:World×Gh→Prop}(hk:(Nat.blt i0 m&&(match ops[i0]? with | some o=>o.dst.isNone | none=>false))=true)(h:th1 i0 Q i=some Θ):i<m∧∃ o,ops[i]? = some o∧o.dst=none:=by
 unfold th1 at h;cases hb:Nat.beq i i0 with
 | true=>obtain rfl:=zaj hb;exact st_ok hk
 | false=>rw[hb] at h;cases h
theorem t_drawKd {th:Nat→Option (World×Gh→Prop)}(d:Bool)(k m:Nat)(cs:List (Nat×Nat×Nat))(hcs:csOk ops m k cs=true)(hda:(cs.all fun c=>(tf Γ c.2.1).isNone)=true)(hlook:xR ops m=true)(hN:okN N ops.toList=true)
  (hk:∀ i Θ,th i=some Θ→i<m∧∃ o,ops[i]? = some o∧o.dst=none)
  (h:TDC P r N ops S th (fun ps Γ'=>FinM P r N ops X Kn m ps Γ' S) (ops.toList.take m) 0 (List.replicate k .non) cs Γ):TRg d P r N X ops Kn Ke Kr Γ S:=by
 have hnon:∀(c:Nat) (p:Pv),(List.replicate k Pv.non)[c]? = some p→p = .non:=fun c p hp=>by
  rw[zcU] at hp;split at hp
  ·exact(Option.some.inj hp).symm
  ·cases hp
 refine zT1 d m cs (fun _=>none) none (List.replicate k .non) (by rw[zbA];exact hcs) hda hlook hN (fun _=>rfl) (fun c p hp=>by rw[hnon c p hp];trivial) (fun E w hs=>?_) hk h;have e:MH S X.M (fun _=>none)=Mk S X.M:=funext fun b=>propext ⟨fun c=>c.elim (fun⟨_,_,c,_⟩=>by cases c) (fun h=>h),.inr⟩;rw[e];exact⟨hs.tm,hs.gd,hs.gd.ok,⟨fun i a h=>(by cases h),fun i a h=>(by cases h),fun i j a _ _ _ h=>(by cases h),fun i j a c h=>(by cases h),fun i a h=>(by cases h)⟩,fun b h=>(by cases h),fun b ⟨_,_,h,_⟩=>(by cases h),hs.apt,hs.new⟩
theorem zT0 {th:Nat→Option (World×Gh→Prop)}(k m:Nat)(cs:List (Nat×Nat×Nat))(hcs:csOk ops m k cs=true)(hda:(cs.all fun c=>(tf Γ c.2.1).isNone)=true)(hm:P.follows .mixedOrders=true)(hlook:xR ops m=true)(hN:okN N ops.toList=true)
  (hk:∀ i Θ,th i=some Θ→i<m∧∃ o,ops[i]? = some o∧o.dst=none)
  (h:TDC P r N ops S th (fun ps Γ'=>FinM P r N ops X Kn m ps Γ' S) (ops.toList.take m) 0 (List.replicate k .non) cs Γ):TW P r N X (.region rid ops true) Kn Ke Kr Γ S:=yD0 hm (t_drawKd true k m cs hcs hda hlook hN hk h)
theorem mZ (k m:Nat)(cs:List (Nat×Nat×Nat))(hcs:csOk ops m k cs=true)(hda:(cs.all fun c=>(tf Γ c.2.1).isNone)=true)(hm:P.follows .mixedOrders=true)(hlook:xR ops m=true)(hN:okN N ops.toList=true)
  (h:TDC P r N ops S (fun _=>none) (fun ps Γ'=>FinM P r N ops X Kn m ps Γ' S) (ops.toList.take m) 0 (List.replicate k .non) cs Γ):TW P r N X (.region rid ops true) Kn Ke Kr Γ S:=zT0 k m cs hcs hda hm hlook hN (fun _ _ h=>by cases h) h
theorem qU (k m i0:Nat)(cs:List (Nat×Nat×Nat))(hcs:csOk ops m k cs=true)(hda:(cs.all fun c=>(tf Γ c.2.1).isNone)=true)(hm:P.follows .mixedOrders=true)(hlook:xR ops m=true)(hN:okN N ops.toList=true)
  (hk:(Nat.blt i0 m&&(match ops[i0]? with | some o=>o.dst.isNone | none=>false))=true) {g:Nat} {α:Type} {sh0 sh:α→Value×Ow}
  (h:TDC P r N ops S (th1 i0 (QS g i0 sh0 sh)) (fun ps Γ'=>FinM P r N ops X Kn m ps Γ' S) (ops.toList.take m) 0 (List.replicate k .non) cs Γ):TW P r N X (.region rid ops true) Kn Ke Kr Γ S:=zT0 k m cs hcs hda hm hlook hN (fun i Θ h=>yC6 hk h) h
theorem yC8 {F:TE→Prop}{F':List Pv→TE→Prop}(hF:∀ Γ,F Γ→F' [] Γ):∀(l:List Oper) (i:Nat) (Γ:TE),TD P r N ops S F l Γ→TDC P r N ops S (fun _=>none) F' l i [] [] Γ
 | [],_,_,h=>⟨rfl,hF _ h⟩
 | _::l,i,_,⟨d,q,hd,h1,h2⟩ => .inl ⟨d,q,hd,fun c hc=>(by cases hc),h1,yC8 hF l (i+1) _ h2⟩
theorem zK (m:Nat)(hm:P.follows .mixedOrders=true)(hlook:xR ops m=true)(hN:okN N ops.toList=true)
  (h:TD P r N ops S (fun Γ'=>TO P r N ops X Kn (ops.toList.drop m) Γ' S) (ops.toList.take m) Γ):TW P r N X (.region rid ops true) Kn Ke Kr Γ S :=
 mZ 0 m [] (by unfold csOk;simp only[List.all_nil,Bool.and_true,List.Pairwise.nil,decide_true,Bool.true_and];exact List.all_eq_true.2 fun x _=>by cases x.1.dst<;>rfl) rfl hm hlook hN (yC8 (fun _ h=>h) _ _ _ h)
theorem zS9 {th:Nat→Option (World×Gh→Prop)}{v:Value}{o:Ow}(k m i:Nat)(cs:List (Nat×Nat×Nat))(hi:S[i]? = some o)(hcs:csOk ops m (k+1) cs=true)(hda:(cs.all fun c=>(tf Γ c.2.1).isNone)=true)(hm:P.follows .mixedOrders=true)(hlook:xR ops m=true)(hN:okN N ops.toList=true)
  (hk:∀ i Θ,th i=some Θ→i<m∧∃ o,ops[i]? = some o∧o.dst=none)
  (h:TDC P r N ops (S.eraseIdx i) th (fun ps Γ'=>FinM P r N ops X Kn m ps Γ' (S.eraseIdx i)) (ops.toList.take m) 0 (.val v o::List.replicate k .non) cs Γ):TW P r N X (.region rid ops true) Kn Ke Kr Γ S:=by
 have hm':o∈S:=zam hi;have hnon:∀(c:Nat) (p:Pv),(List.replicate k Pv.non)[c]? = some p→p = .non:=fun c p hp=>by
  rw[zcU] at hp;split at hp
  ·exact(Option.some.inj hp).symm
  ·cases hp
 refine yD0 hm ?_;refine zT1 true m cs (fun j=>if j=0 then some (v,o) else none) o.bk (.val v o::List.replicate k .non) (by rw[zaw,zbA];exact hcs) hda hlook hN (fun _=>rfl) (fun c p hp=>by
  cases c with
  | zero=>obtain rfl:=Option.some.inj hp;exact⟨rfl,rfl⟩
  | succ c=>rw[hnon c p (by simpa using hp)];trivial) (fun E w hs=>?_) hk h
 have hback:∀ p,p∈S→p=o∨p∈S.eraseIdx i:=fun p ho=>by
  obtain⟨j,hj⟩:=zbR.1 ho;by_cases e:j=i
  ·subst e;rw[hi] at hj;exact .inl (Option.some.inj hj).symm
  ·exact .inr (zcX.2 ⟨j,e,hj⟩)
 have hgb:∀ b,gbk (fun j=>if j=0 then some (v,o) else none) b↔o.bk=some b:=fun b =>
  ⟨fun⟨j,a,h1,h2⟩=>(by
   dsimp only at h1;split at h1
   ·rw[← Option.some.inj h1] at h2;exact h2
   ·cases h1),fun c=>⟨0,_,rfl,c⟩⟩
 have e:MH (S.eraseIdx i) X.M (fun j=>if j=0 then some (v,o) else none)=Mk S X.M:=funext fun b=>propext ⟨fun c=>c.elim (fun c => .inl ⟨_,hm',(hgb b).1 c⟩) (dU (zca S i) b),fun c=>by
  rcases c with⟨p,ho,eo⟩ | c
  ·rcases hback p ho with rfl | ho
   ·exact .inl ((hgb b).2 eo)
   ·exact .inr (.inl ⟨p,ho,eo⟩)
  ·exact .inr (.inr c)⟩
 have hne:∀ b,o.bk=some b→¬ Mk (S.eraseIdx i) X.M b:=fun b hb c=>by
  rcases c with⟨p,hp,ep⟩ | c
  ·obtain⟨j,hj,hp⟩:=bF hp;exact eG hs.apt hi hp (fun c=>hj c.symm) hb ep
  ·rcases hs.new _ hm' b hb with h4 | h4
   ·have:=hs.ok0 b c;omega
   ·exact hs.zm b h4 c
 have hsub:=hs.sub (zca S i);refine⟨by rw[e];exact hs.tm,by rw[e];exact⟨hs.gd.ok,hs.gd.tab,fun p ho=>hs.gd.own p ((zca S i).subset ho)⟩,hsub.gd.ok,⟨fun j a h=>?_,fun j a h b hb=>?_,fun j q a hq _ _ h=>?_,fun j q a c h h2 hne2=>?_,fun j a h _=>?_⟩,fun b hb=>hs.new _ hm' b hb,fun b hb=>hs.new _ hm' b ((hgb b).1 hb),hsub.apt,hsub.new⟩
 ·dsimp only at h;split at h
  ·rename_i e;subst e;refine .inl ⟨.val v o,0,?_,rfl,zab _⟩;have:chOf cs 0=0:=by
    unfold chOf;rw[List.find?_eq_none.2 fun c _=>by simp]
   rw[this];rfl
  ·cases h
 ·dsimp only at h;split at h
  ·obtain rfl:=Option.some.inj h;exact⟨hne b hb,.inr hb,hs.okS _ hm' b hb⟩
  ·cases h
 ·dsimp only at h;split at h
  ·omega
  ·cases h
 ·dsimp only at h h2;split at h
  ·split at h2
   ·rename_i e1 e2;exact absurd (by rw[e1,e2]) hne2
   ·cases h2
  ·cases h
 ·dsimp only at h;split at h
  ·obtain rfl:=Option.some.inj h;rw[e];exact hs.gd.own _ hm'
  ·cases h
theorem zT2 {v:Value}{ty:TypeId}{sz:Nat}{l:List CT}(k m i:Nat)(cs:List (Nat×Nat×Nat))(hi:S[i]? = some (.row v ty sz l))(hcs:csOk ops m (k+1) cs=true)(hda:(cs.all fun c=>(tf Γ c.2.1).isNone)=true)(hm:P.follows .mixedOrders=true)(hlook:xR ops m=true)(hN:okN N ops.toList=true)
  (h:TDC P r N ops (S.eraseIdx i) (fun _=>none) (fun ps Γ'=>FinM P r N ops X Kn m ps Γ' (S.eraseIdx i)) (ops.toList.take m) 0 (.val v (.row v ty sz l)::List.replicate k .non) cs Γ):TW P r N X (.region rid ops true) Kn Ke Kr Γ S :=
 zS9 k m i cs hi hcs hda hm hlook hN (fun _ _ h=>by cases h) h
theorem t_drawV {b:Nat}{ty:TypeId}{l:List CT}{o1:Ow}(k m i i0:Nat)(cs:List (Nat×Nat×Nat))(hi:S[i]? = some (.blk b ty l))(hcs:csOk ops m (k+1) cs=true)(hda:(cs.all fun c=>(tf Γ c.2.1).isNone)=true)(hm:P.follows .mixedOrders=true)(hlook:xR ops m=true)(hN:okN N ops.toList=true)
  (hk:(Nat.blt i0 m&&(match ops[i0]? with | some o=>o.dst.isNone | none=>false))=true)
  (h:TDC P r N ops (S.eraseIdx i) (th1 i0 (QV i0 (.pointer (some ⟨b,0,none⟩)) o1)) (fun ps Γ'=>FinM P r N ops X Kn m ps Γ' (S.eraseIdx i)) (ops.toList.take m) 0 (.val (.pointer (some ⟨b,0,none⟩)) (.blk b ty l)::List.replicate k .non) cs Γ):TW P r N X (.region rid ops true) Kn Ke Kr Γ S :=
 zS9 k m i cs hi hcs hda hm hlook hN (fun i Θ h=>yC6 hk h) h
end
section
variable {P : Program} {r : Option Nat} {N : Nat} {ops : Array Oper} {S : List Ow} {ty : TypeId} {k bytes : Nat} {Γ : TE} {d : Nat} {x y : Operand} {t t' : TypeId} {pos : String} {af : Array Edge} {q qx qy : Prop} {Ψ Ψx Ψy : PV} {m l : List CT}
theorem bkM_mk {o:Ow}{M:Nat→Prop}:Mk [o] M=bkM o M:=funext fun b=>propext ⟨fun h=>h.imp (fun⟨p,hp,e⟩=>(zak.1 hp) ▸ e) (fun h=>h),fun h=>h.imp (fun e=>⟨o,by simp,e⟩) (fun h=>h)⟩
theorem yA5 {ev':Env→Value→Prop}{os:Value→Ow→Prop}(hos:∀ v ob,os v ob→ob = .row v ty k l)(hx:∀ {M E w v},Tm Γ (yE ops ⟨some d,.call ⟨.builtin .append,#[x,y],#[t,t]⟩,t',pos,af,none⟩) M E w→ev' E v→ev E x=some v)(hy:tv Γ y=some (qy,Ψy))[hq:Tr qy][ht:TSl P t ty k bytes][hv:VS Ψy k m](hn:l.length+m.length≤140737488355328)(hb:(l.length+m.length)*bytes≤140737488355328) :
  CkA P r N ops S ⟨some d,.call ⟨.builtin .append,#[x,y],#[t,t]⟩,t',pos,af,none⟩ Γ ev' os (rowS ty k (l++m)):=fun M D E w d' v ob hd hN hg hT he ho hok hmo=>by
 obtain rfl:=Option.some.inj hd;obtain rfl:=hos v ob ho;obtain⟨us,g1,g2,g3⟩:=hok;obtain⟨u2,e2,h2⟩:=yL (p:=True) hT hy trivial (by simp[Op.operands,Call.operands]);obtain⟨u3,vs,e3,h3,h4,h5⟩:=hv.h h2;obtain rfl:=zbp.1 e3;obtain⟨z,hz,hzc⟩:=ht.s;refine mN hN ht.u hz hzc (by have:=zby ht.n;rw[Nat.blt_eq];omega) (hx hT he) e2 g1 h3 (nB h4) hn hb fun v' w' k1 k2 k3=>?_;refine xH ⟨rfl,k2,v',xO (by simp),k3,_,by rw[zal];exact k1,yX (uM g2 h4) fun b cur ty' fz hk hw=>?_,fun c hc=>(zae.1 hc).elim (g3 c) (h5 c)⟩;have hlt:b<w.heap.size:=(zaB.1 hw).1;refine⟨fun c=>?_,(k2.block b hlt fun e=>hk (hmo b e.symm)).trans hw⟩;rcases c with c | c
 ·rcases k3 with e | e
  ·exact hk (hmo b (e.symm.trans c))
  ·have:=Option.some.inj (e.symm.trans c);omega
 ·exact hk c
theorem capw {dp:Nat}(hy:tv Γ y=some (qy,Ψy))[hq:Tr qy][ht:TSl P t ty k bytes][hv:VS Ψy k m](hn:l.length+m.length≤140737488355328)(hb:(l.length+m.length)*bytes≤140737488355328) :
  CkA P r N ops S ⟨some d,.call ⟨.builtin .append,#[.tmp dp,y],#[t,t]⟩,t',pos,af,none⟩ Γ (fun E v=>get E dp=some v) (fun v ob=>∃ a,(v,ob)=rowS ty k l a) (rowS ty k (l++m)) :=
 yA5 (fun v ob ⟨a,e⟩=>by obtain⟨rfl,rfl⟩:=Prod.mk.inj e;rfl) (fun _ h=>h) hy hn hb
theorem cap0w {v0:Value}(hx:tv Γ x=some (qx,exP v0))[hqx:Tr qx](hy:tv Γ y=some (qy,Ψy))[hq:Tr qy][ht:TSl P t ty k bytes][hv:VS Ψy k m](hn:l.length+m.length≤140737488355328)(hb:(l.length+m.length)*bytes≤140737488355328) :
  CkA P r N ops S ⟨some d,.call ⟨.builtin .append,#[x,y],#[t,t]⟩,t',pos,af,none⟩ Γ (fun _ v=>v=v0) (fun v ob=>v=v0∧ob = .row v0 ty k l) (rowS ty k (l++m)) :=
 yA5 (fun v ob ⟨e1,e2⟩=>by rw[e1,e2]) (fun hT h=>by
  obtain⟨u,e,h1⟩:=yL (p:=True) hT hx trivial (by simp[Op.operands,Call.operands]);rw[e,h,show u=v0 from h1]) hy hn hb
theorem cap {dp:Nat}(hy:tv Γ y=some (qy,Ψy))[hq:Tr qy][ht:TSl P t ty k bytes][hv:VS Ψy k m](hn:l.length+m.length≤1000000000)(hb:Nat.ble bytes 1000=true) :
  CkA P r N ops S ⟨some d,.call ⟨.builtin .append,#[.tmp dp,y],#[t,t]⟩,t',pos,af,none⟩ Γ (fun E v=>get E dp=some v) (fun v ob=>∃ a,(v,ob)=rowS ty k l a) (rowS ty k (l++m)) :=
 capw hy (by omega) (zac (zaT hn (zbZ hb)) (by omega))
theorem cap0 {v0:Value}(hx:tv Γ x=some (qx,exP v0))[hqx:Tr qx](hy:tv Γ y=some (qy,Ψy))[hq:Tr qy][ht:TSl P t ty k bytes][hv:VS Ψy k m](hn:l.length+m.length≤1000000000)(hb:Nat.ble bytes 1000=true) :
  CkA P r N ops S ⟨some d,.call ⟨.builtin .append,#[x,y],#[t,t]⟩,t',pos,af,none⟩ Γ (fun _ v=>v=v0) (fun v ob=>v=v0∧ob = .row v0 ty k l) (rowS ty k (l++m)) :=
 cap0w hx hy (by omega) (zac (zaT hn (zbZ hb)) (by omega))
theorem cco {f:FuncId}{xs:List Operand}{ts:Array TypeId}{τs ca:List PV}{l':List CT}(hf:tv Γ x=some (qx,Ψx))(hx:tvs Γ xs=some (q,τs))[hqx:Tr qx][hq:Tr q][hv:VF Ψx f ca](hk:CTo P f (τs++ca) [] fun ρ So=>∃ v,ρ=exP v∧So=[.row v ty k l']) :
  CkN P r N ops S ⟨some d,.call ⟨.value x,xs.toArray,ts⟩,t',pos,af,none⟩ Γ (rowS ty k l'):=fun M D E w d' hd hN hg hT=>by
 obtain rfl:=Option.some.inj hd;obtain⟨u,e1,h1⟩:=yL (p:=True) hT hf trivial (by simp[Op.operands,Call.operands]);obtain⟨vs,e2,h2⟩:=gU hT hx hq.h fun x hx=>gA (by simp[Op.operands,Call.operands,hx]);obtain⟨us,rfl,h3⟩:=hv.h h1;have hmk:Mk [] M=M:=by funext k;simp[Mk]
 refine lS hN hk.bod e1 e2 ((hk.run M w (vs++us) ⟨by rw[hmk];exact hg.ok,by rw[hmk];exact hg.tab,by simp⟩ trivial (fun b ⟨o,ho,_⟩=>by cases ho) hg.ok (by rw[hmk];exact h2.app h3)).mono ?_);rintro v' w' ⟨k1,ρ,So,⟨v,rfl,rfl⟩,k3,k4,k5,k6⟩;obtain rfl:v'=v:=k6;have r1:=k3.own (.row v' ty k l') (by simp);rw[bkM_mk] at r1;exact xH ⟨rfl,⟨k1.os,k1.tape,k1.output,k1.size,fun b hb=>k1.block b hb fun⟨o,ho,_⟩=>(by cases ho)⟩,v',xO (by simp),fun b hb=>(k5 b ⟨.row v' ty k l',by simp,hb⟩).elim (fun h=>h) fun⟨o,ho,_⟩=>(by cases ho),r1⟩
theorem ops_bs0 {K:Pd}{D:List Deferred}{E:Env}{w:World}{rest:List Oper}{e:TypeId}(hd:Nat.blt d N=true)(ht:P.underlying t=some (.slice e))(hs:∃ z,Sz P e k bytes z)
  (h:∀ w' b,New w w' b (.cells #[] e (0,0))→Ops P r N ops K rest D ((d,.slice (some ⟨b,0,none⟩) 0 0)::E) w'):Ops P r N ops K (⟨some d,.buildSlice t 0 #[],t',pos,af,none⟩::rest) D E w:=by
 refine yB hd (by intro c hc;cases hc) (fun a ha=>?_) (h _ _ (New.of_alloc w (.cells #[] e)));obtain⟨z,q,q1,q2,q3,q4⟩:=hs;have e1:(Instr.buildSlice t 0 #[]).run P w = .ok (.slice (some ⟨w.heap.size,0,none⟩) 0 0) (w.alloc (.cells #[] e)):=by
  unfold Instr.buildSlice;simp[run_underlying ht,sizeOf,typeInfo,q1,newRow,zeroValue,q4,Instr.fill,Array.range];congr 2;exact Array.eq_empty_of_size_eq_zero (by simp)
 simp only[execOp,Sem.run_bind,zbL,zbe];rw[e1];rfl
theorem own_bs0 {w w':World}{b:Nat}(h:New w w' b (.cells #[] ty (0,0))):w'.ownsRow 0 ty k (.slice (some ⟨b,0,none⟩) 0 0) 0 [] :=
 ⟨by simp,.inr ⟨b,0,#[],rfl,zaD _,h.obj,zab _,zaD _,by simp,by simp⟩⟩
theorem yF6 {sz len:Nat}{us:List Value}{w w':World}{b:Nat}(h:New w w' b (.cells us.toArray ty (0,0)))(hl:us.length=len*sz)(hm:len≤1000):w'.ownsRow 0 ty sz (.slice (some ⟨b,0,none⟩) len len) len us :=
 ⟨hl,.inr ⟨b,len,us.toArray,rfl,zaD _,h.obj,zab _,by simp[maxLen];omega,by simp;exact hl,by simp[← hl]⟩⟩
theorem cbs {len:Nat}{parts:List (Nat×Operand)}{τs:List PV}{cs:List CT}(hx:tvs Γ (parts.map (·.2))=some (q,τs))[hi:Tr q][ht:TSl P t ty k bytes][hc:CtL τs cs](hp:parts.map (·.1)=List.range len)(hs:(cs.all fun c=>Nat.beq c.sz k)=true)(hl:Nat.ble (len*k) 1000=true)(h0:Nat.beq len 0=false)(hn:cs.length=len) :
  CkN P r N ops S ⟨some d,.buildSlice t len parts.toArray,t',pos,af,none⟩ Γ (rowS ty k cs):=fun M D E w d' hd hN hg hT=>by
 obtain rfl:=Option.some.inj hd;obtain⟨vs,e1,h1⟩:=gU hT hx hi.h fun x hx=>gA (by simpa [Op.operands] using hx);obtain⟨uss,g1,g2,g3⟩:=hc.h h1;have hall:uB k cs:=fun c hc=>zaj (zaC.1 hs c hc);have hlen:=jN g2;rw[eN hall,hn] at hlen;obtain⟨z,hz,hzc⟩:=ht.s;have hle:len≤1000:=by
  have:=zbZ hl;have h0:=zby ht.n;exact zac (zci _ (zaW h0)) this
 refine qB hN ht.u hz hzc ht.n (by simpa using hp) (by simpa using e1) g1 ?_ hl h0 fun w' b hw=>?_
 ·refine zaC.2 fun c hc=>?_;have:c.length∈uss.map List.length:=zcj hc;rw[g3] at this;obtain⟨ct,h3,h4⟩:=zai.1 this;rw[← h4,hall ct h3];simp
 ·refine xH ⟨rfl,hw.below,.slice (some ⟨b,0,none⟩) len len,xO (by simp),fun c hc=>?_,uss.flatten,by rw[hn];exact yF6 hw hlen hle,yX g2 (Cl.new hw.below (by rw[hw.at_];exact zab _) fun c hc=>hc.imp (fun e=>(Option.some.inj (show some b=some c from e)).symm) (fun h=>h)),hall⟩;rw[← Option.some.inj (show some b=some c from hc),hw.at_];exact zab _
theorem cal {z:Value}[tz:TZ P t z]:CkN P r N ops S ⟨some d,.alloc t,t',pos,af,none⟩ Γ (blkS t (zc z)):=fun M D E w d' hd hN hg hT=>by
 obtain rfl:=Option.some.inj hd;obtain⟨sz,b2,hz⟩:=tz.s;refine rZ hN hz fun w' b hn=>xH ⟨rfl,hn.below,b,xO (by simp),fun c hc=>?_,z.cells.toList,by have:=hn.blk;simpa using this,zO7 tz.o⟩;rw[← Option.some.inj (show some b=some c from hc),hn.at_];exact zab _
theorem cst {dp sz:Nat}{c:CT}{cs B1 B2:List CT}{a:Bool}(hy:tv Γ y=some (qy,Ψy))[hq:Tr qy][hc:CtOf Ψy c][ht:TLd P t a sz](hs:Nat.beq c.sz sz=true)(hB:cutT cs c.sz=some (B1,B2)) :
  CkS P r N ops S ⟨none,.store t (.tmp dp) y,t',pos,af,none⟩ Γ dp (blkS ty cs) (blkS ty (c::B2)):=⟨fun a=>⟨rfl,rfl⟩,fun M D E w b hg hT he hok hm=>by
 obtain⟨v,e2,h2⟩:=yL (p:=True) hT hy trivial (by simp[Op.operands]);obtain⟨us,k1,k2⟩:=hc.h h2;obtain⟨vs,k3,k4⟩:=hok;obtain⟨rfl,f4⟩:=aB hB;obtain⟨vc,vd,rfl,g3,g4⟩:=jS k4;have hl3:=jN g3;have hl:=c.len k2;have hsz:=zaj hs;obtain⟨bytes,z,hz⟩:=ht.s;refine uG he e2 hz k3 (by rw[k1];simp;omega) (by simp;omega) (by rw[k1];exact fun u hu=>c.one k2 u (by simpa using hu)) fun w' hch hB'=>?_;have cl:Cl M w M w':=fun k cur t fz hk hw=>⟨hk,(hch.other k fun e=>hk (e ▸ hm b rfl)).trans hw⟩;rw[k1] at hB';have e4:(vc++vd).drop (0+sz)=vd:=by rw[zba,← hsz,← f4,← hl3,zbI]
 rw[e4] at hB';refine xH ⟨rfl,⟨⟨hch.os,hch.tape.eq,hch.output,zcp hch.size.symm,fun k _ hk=>hch.other k fun e=>hk (e ▸ rfl)⟩,hch.tape.le⟩,us++vd,hB',yX (show stp ([c]++B2) M w (us++vd) from uM ⟨us,[],by simp,k2,rfl⟩ g4) cl⟩⟩
theorem cstv {b sz:Nat}{c:CT}{cs B1 B2:List CT}{a:Bool}(hx:tv Γ x=some (qx,exP (.pointer (some ⟨b,0,none⟩))))[hqx:Tr qx](hy:tv Γ y=some (qy,Ψy))[hq:Tr qy][hc:CtOf Ψy c][ht:TLd P t a sz](hs:Nat.beq c.sz sz=true)(hB:cutT cs c.sz=some (B1,B2)) :
  CkV P r N ops S ⟨none,.store t x y,t',pos,af,none⟩ Γ (.blk b ty cs) (.blk b ty (c::B2)):=⟨rfl,fun M D E w hg hT hok hm=>by
 obtain⟨u,e1,h1⟩:=yL (p:=True) hT hx trivial (by simp[Op.operands]);obtain rfl:u = .pointer (some ⟨b,0,none⟩):=h1;obtain⟨v,e2,h2⟩:=yL (p:=True) hT hy trivial (by simp[Op.operands]);obtain⟨us,k1,k2⟩:=hc.h h2;obtain⟨vs,k3,k4⟩:=hok;obtain⟨rfl,f4⟩:=aB hB;obtain⟨vc,vd,rfl,g3,g4⟩:=jS k4;have hl3:=jN g3;have hl:=c.len k2;have hsz:=zaj hs;obtain⟨bytes,z,hz⟩:=ht.s;refine uG e1 e2 hz k3 (by rw[k1];simp;omega) (by simp;omega) (by rw[k1];exact fun u hu=>c.one k2 u (by simpa using hu)) fun w' hch hB'=>?_;have cl:Cl M w M w':=fun k cur t fz hk hw=>⟨hk,(hch.other k fun e=>hk (e ▸ hm b rfl)).trans hw⟩;rw[k1] at hB';have e4:(vc++vd).drop (0+sz)=vd:=by rw[zba,← hsz,← f4,← hl3,zbI]
 rw[e4] at hB';refine xH ⟨rfl,⟨⟨hch.os,hch.tape.eq,hch.output,zcp hch.size.symm,fun k _ hk=>hch.other k fun e=>hk (e ▸ rfl)⟩,hch.tape.le⟩,us++vd,hB',yX (show stp ([c]++B2) M w (us++vd) from uM ⟨us,[],by simp,k2,rfl⟩ g4) cl⟩⟩
end
class FA (c:CT)(off:Nat)(c':outParam CT):Prop where
 h:∀ {M w us},c.p M w us→c'.p M w ((us.drop off).take c'.sz)
section
variable {X : Cx} {Γ : TE} {S : List Ow}
theorem qL {s:Nat}{q:Prop}{Ψ Φ:PV}(h:tf Γ s=some (q,Ψ))(hp:PSub Ψ Φ):Ts X Γ S ((s,q,Φ)::Γ) S:=fun E w k =>
 ⟨k.bel,k.gd,k.new,k.apt,k.ok0,k.zm,k.mko,fun t r ht=>by
  unfold tf at ht;cases hb:Nat.beq s t with
  | true =>
   rw[hb] at ht;obtain rfl:=zaj hb;obtain rfl:=Option.some.inj ht;have h3:=k.tm s _ h;exact⟨fun c=>let ⟨u,h4,h5⟩:=h3.1 c;⟨u,h4,hp _ _ _ h5⟩,h3.2⟩
  | false=>rw[hb] at ht;exact k.tm t r ht⟩
variable {P : Program} {r : Option Nat} {N : Nat} {K : TK} {ops : Array Oper} {M : Nat → Prop} {p q qx qy : Prop} {Ψ Ψx Ψy : PV} {d : Nat} {x y : Operand} {t t' : TypeId} {pos : String} {af : Array Edge} {l : List Oper}
theorem t_len {Kn Kr:TK}{Ke:Nat→TK}{c:Code}{k:Nat}{cs:List CT}(s:Nat)(hx:tf Γ s=some (q,sv (sl k cs)))[hq:Tr q](h:cs.length≤9223372036854775807→TW P r N X c Kn Ke Kr Γ S):TW P r N X c Kn Ke Kr Γ S:=fun D E w hs=>by
 obtain⟨v,e,u,us,_,h1,_⟩:=(hs.tm s _ hx).1 hq.h;exact h h1.2.1 D E w hs
theorem wpk {c:Code}{N:Nat}{K K':Pd}{Ke:Nat→Pd}{D:List Deferred}{E:Env}{w:World}(h:Wp P r N c K Ke K D E w)(hk:∀ D E w,K D E w→K' D E w):Wp P r N c K' Ke K' D E w:=by
 intro a ha hd;refine wpIn_mono (h a ha hd) fun e a' w' hq=>?_;cases e with
 | normal=>obtain⟨E',h1,h2⟩:=hq;exact⟨E',h1,hk _ _ _ h2⟩
 | ret=>obtain⟨E',h1,h2⟩:=hq;exact⟨E',h1,hk _ _ _ h2⟩
 | exit id=>exact hq
 | goto l=>exact hq
 | panic c=>exact hq
 | outgrown=>exact hq
theorem bn_t {a:Prop}[Decidable a](h:Tr ((!decide a)=true)):¬ a:=by have:=h.h;simpa using this
theorem tal {z:Value}[tz:TZ P t z](h:∀ b,TO P r N ops X K l ((d,True,exP (.pointer (some ⟨b,0,none⟩)))::Γ) (.blk b t (zc z)::S)):TO P r N ops X K (⟨some d,.alloc t,t',pos,af,none⟩::l) Γ S:=fun hN D E w hs=>by
 unfold okN at hN;simp only[zaX,zaq] at hN;obtain⟨sz,bytes,hz⟩:=tz.s;refine rZ hN.1 hz fun w' b hn=>?_;exact h b hN.2 D _ w' ((hs.addb hn (zO7 tz.o)).put (xI _) (fun _=>rfl) (fun c=>absurd trivial c))
theorem ofx {a:Bool}{f off sz:Nat}{c c':CT}(hx:tv Γ x=some (qx,pa c))[Im p qx][ht:TFd P t f a off sz][ha:FA c off c']:Ob P r N ops M S p ⟨some d,.fieldAddr t x f,t',pos,af,none⟩ Γ (pa c') :=
 ob1 hx (by simp[Op.operands]) fun D E w u hN hg e1 ⟨b,o,us,e,h1,h2,h3⟩=>by
  subst e;obtain⟨fields,fd,bytes,z,k1,k2,k3,k4,k5,_⟩:=ht.h;exact uN off hN k1 k2 k3 k4 k5 e1 (fin ⟨b,o+off,_,rfl,h1,h2.sub off c'.sz,ha.h h3⟩)
def rsT (P:Program)(Γ:TE)(S:List Ow):List ResultVar→List PV→Prop
 | [],l=>l=[]
 | .tmp t::r,l=>∃ q Ψ l',l=Ψ::l'∧tf Γ t=some (q,Ψ)∧q∧rsT P Γ S r l'
 | .cell a t::r,l=>∃(q:Prop) (b i:Nat) (ty:TypeId) (cs:List CT) (c:CT) (f:Bool) (sz:Nat) (Ψ:PV) (l':List PV),l=Ψ::l'∧tf Γ a=some (q,exP (.pointer (some ⟨b,0,none⟩)))∧q∧S[i]? = some (.blk b ty cs)∧dA cs 0=some c∧c.sz=sz∧TLd P t f sz∧LdA f c Ψ∧rsT P Γ S r l'
theorem rs0:rsT P Γ S [] []:=rfl
theorem rst {t:Nat}{rs:List ResultVar}{l:List PV}(h:tf Γ t=some (q,Ψ))[hq:Tr q](k:rsT P Γ S rs l):rsT P Γ S (.tmp t::rs) (Ψ::l):=⟨q,Ψ,l,rfl,h,hq.h,k⟩
theorem rsc {a b sz:Nat}{ty:TypeId}{cs:List CT}{c:CT}{f:Bool}{rs:List ResultVar}{l:List PV}(i:Nat)(h:tf Γ a=some (q,exP (.pointer (some ⟨b,0,none⟩))))[hq:Tr q](hi:S[i]? = some (.blk b ty cs))(ha:dA cs 0=some c)[ht:TLd P t f sz](hs:Nat.beq c.sz sz=true)[hl:LdA f c Ψ](k:rsT P Γ S rs l):rsT P Γ S (.cell a t::rs) (Ψ::l) :=
 ⟨q,b,i,ty,cs,c,f,sz,Ψ,l,rfl,h,hq.h,hi,ha,zaj hs,ht,hl,k⟩
theorem zP0 {E:Env}{w:World}(hG:Gd M S w)(hT:TM Γ M E w):∀ {rs:List ResultVar} {l:List PV},rsT P Γ S rs l→∃ vs,Res P E w rs vs∧Fa l M w vs
 | [],_,h=>⟨[],trivial,by rw[show _=[] from h];rfl⟩
 | .tmp t::rs,_,⟨q,Ψ,l',e,h1,h2,h3⟩=>by
  subst e;obtain⟨v,k1,k2⟩:=(hT t _ h1).1 h2;obtain⟨vs,k3,k4⟩:=zP0 hG hT h3;exact⟨v::vs,⟨k1,k3⟩,v,vs,rfl,k2,k4⟩
 | .cell a t::rs,_,⟨q,b,i,ty,cs,c,f,sz,Ψ,l',e,h1,h2,h3,h4,h5,h6,h7,h8⟩=>by
  subst e;obtain⟨v,k1,k2⟩:=(hT a _ h1).1 h2;obtain rfl:v=_:=k2;obtain⟨vs,k3,k4⟩:=zP0 hG hT h8;obtain⟨us,g1,g2⟩:=hG.own _ (zam h3);have g3:=gQ g2 h4;have g4:=h7.h g3;have g5:=c.len g3;have hld:=h6.h;have key:∃ u,(loadVar t ⟨b,0,none⟩).run P w = .ok u w∧Ψ.p M w u:=by
   cases f with
   | true =>
    obtain⟨bytes,z,hz⟩:=h6.s;exact⟨_,load_blks hld hz g1 (by rw[← h5]) (g5.trans h5),g4⟩
   | false =>
    obtain⟨k5,rfl⟩:=hld;rw[h5] at g5 g4;obtain⟨u,hu⟩:=zcC.1 g5;rw[hu] at g4;refine⟨u,load_blk k5 g1 ?_,g4 u rfl⟩;have:=congrArg (fun l:List Value=>l[0]?) hu;simpa using this
  obtain⟨u,k5,k6⟩:=key;exact⟨u::vs,⟨⟨_,k1,k5⟩,k3⟩,u,vs,rfl,k6,k4⟩
def TRc (X0:Cx)(P:Program)(rs:List ResultVar)(ρ:PV):TK:=fun X Γ S=>Exj X0 X fun l=>rsT P Γ S rs l∧∀ M w vs,Fa l M w vs→ρ.p M w (gW vs)
def TRd (X0:Cx)(P:Program)(rs:List ResultVar)(Q:PV→List Ow→Prop):TK:=fun X Γ S=>Exj X0 X fun l=>∃ ρ So,rsT P Γ S rs l∧So.Sublist S∧Q ρ So∧∀ M w vs,Fa l M w vs→ρ.p M w (gW vs)
theorem ctd {f:FuncId}{fn:Func}{c:Code}{N:Nat}{τs:List PV}{Si:List Ow}{Q:PV→List Ow→Prop}(hf:P.funcs[f]? = some fn)(hb:fn.body=some c)(hn:fn.ntmps=N)(hN:Nat.ble τs.length N=true)
    (hnm:(fn.name == "runtime.NumGoroutine")=false) (hsc:∀ ρ So,Q ρ So→∀ {T:List Ow} {M:Nat→Prop} {w:World} {v:Value},So.Sublist T→ρ.p (Mk T M) w v→ρ.p (Mk So M) w v) (h:∀ X,TW P none N X c (TRd X P fn.results.toList Q) (fun _ _ _ _=>False) (TRd X P fn.results.toList Q) (par 0 τs) Si):CTo P f τs Si Q:=by
  refine⟨⟨fn,hf,by rw[hb];rfl,hnm⟩,fun M w vs hG hA hZ hM hv=>?_⟩;have hs:St (cx M w (bks Si)) (par 0 τs) Si (env0 0 vs) w:=⟨⟨rfl,Tp.refl _,rfl,zab _,fun _ _ _=>rfl⟩,hG,fun o ho b hb => .inr ⟨o,ho,hb⟩,hA,hM,hZ,⟨uH,zab _,fun _ h=>by cases h⟩,vE hv⟩;refine aM hf hb hn (by rw[hv.len];exact hN) ?_;have hfin:∀ D E w',lf (TRd (cx M w (bks Si)) P fn.results.toList Q) [] D E w'→Fin P fn.results.toList (fun v w'=>BZ (cx M w (bks Si)) w'∧∃ ρ So,Q ρ So∧Gd (Mk So M) So w'∧Apt So∧(∀ b,bks So b→w.heap.size≤b∨bks Si b)∧ρ.p (Mk So M) w' v) D E w':=by
    rintro _ E w' ⟨X,Γ,S,rfl,hx,h4⟩;obtain⟨ms,rfl⟩:=hx.eqx.h;obtain⟨l,ρ,So,h1,h3,h5,h6⟩:=hx.ex;rw[zas];refine dW h4.mko.m fun w2 hd=>?_;have h4:=h4.end_ hd rfl rfl;obtain⟨us,e1,e2⟩:=zP0 h4.gd h4.tm h1;exact⟨us,e1,h4.bel,ρ,So,h5,h4.gd.sub h3,fK h3 h4.apt,fun b ⟨o,ho,e⟩=>h4.new o (h3.subset ho) b e,hsc ρ So h5 h3 (h6 _ _ _ e2)⟩
  have h1:=h (cx M w (bks Si)) [] _ w hs;intro a ha hd;refine wpIn_mono (h1 a ha hd) fun e a' w' hq=>?_;cases e with
  | normal=>obtain⟨E',h1,h2⟩:=hq;exact⟨E',h1,hfin _ _ _ h2⟩
  | exit id=>obtain⟨E',h1,_,_,_,_,h2,_⟩:=hq;exact h2.elim
  | ret=>obtain⟨E',h1,h2⟩:=hq;exact⟨E',h1,hfin _ _ _ h2⟩
  | goto l=>exact hq
  | panic c=>exact hq
  | outgrown=>exact hq
theorem yE5 {ρ:PV}{So T:List Ow}{M:Nat→Prop}{w:World}{v:Value}(hs:So.Sublist T)(h:ρ.p (Mk T M) w v):ρ.p (Mk So M) w v:=ρ.mono h (Cl.less (dU hs))
theorem ctc {f:FuncId}{fn:Func}{c:Code}{N:Nat}{τs:List PV}{ρ:PV}(hf:P.funcs[f]? = some fn)(hb:fn.body=some c)(hn:fn.ntmps=N)(hN:Nat.ble τs.length N=true)
    (hnm:(fn.name == "runtime.NumGoroutine")=false) (h:∀ X,TW P none N X c (TRc X P fn.results.toList ρ) (fun _ _ _ _=>False) (TRc X P fn.results.toList ρ) (par 0 τs) []):CTy P f τs ρ:=by
  have h2:CTo P f τs [] fun ρ' So=>ρ'=ρ∧So=[]:=ctd hf hb hn hN hnm (fun _ _ _ _ _ _ _ hs hp=>yE5 hs hp) fun X D E w hs =>
    wpk (h X D E w hs) fun D' E' w' ⟨Y,Γ',S',e,@Exj.mk _ _ _ _ hz l ⟨k1,k2⟩,k3⟩=>⟨Y,Γ',S',e,⟨l,ρ,[],k1,List.nil_sublist _,⟨rfl,rfl⟩,k2⟩,k3⟩
  refine⟨h2.bod,fun M w vs hM hT hv=>?_⟩;have hmk:Mk [] M=M:=by funext k;simp[Mk]
  refine(h2.run M w vs ⟨by rw[hmk];exact hM,by rw[hmk];exact hT,by simp⟩ trivial (fun b ⟨o,ho,_⟩=>by cases ho) hM (by rw[hmk];exact hv)).mono ?_;rintro v w' ⟨k1,_,_,⟨rfl,rfl⟩,_,_,_,k6⟩;exact⟨⟨k1.os,k1.tape,k1.output,k1.size,fun b hb=>k1.block b hb fun⟨o,ho,_⟩=>(by cases ho)⟩,by rw[hmk] at k6;exact k6⟩
end
theorem zO8 {α:Type}{R:RelV α}{f:α→CT}{k:Nat}{M:Nat→Prop}{w:World}(hR:∀ a us,us.length=k→R M w a us→(f a).p M w us):∀ {xs:List α} {cs:List Value},cs.length=xs.length*k →
    (∀(i:Nat) (a:α),xs[i]? = some a→∃ us:List Value,us.length=k∧(∀(q:Nat) (u:Value),us[q]? = some u→cs[i*k+q]? = some u)∧R M w a us)→stp (xs.map f) M w cs
  | [], cs, h, _ => by have h0 : cs = [] := by simpa using h
                       exact h0
  | a::xs,cs,h,h2=>by
    obtain⟨us,k1,k2,k3⟩:=h2 0 a rfl;rw[zaw,zco] at h;have e:cs.take k=us:=by
      apply List.ext_getElem?;intro q;rw[zaN];split
      · rename_i hq;have h5:=k2 q (us[q]'(by omega)) (zag (by omega));simp only[Nat.zero_mul,zba] at h5;rw[h5,zag (by omega)]
      · rw[zcH (by omega)]
    refine⟨us,cs.drop k,by rw[← e,zbb],hR a us k1 k3,zO8 hR (by rw[zaV];omega) fun i b hb=>?_⟩;obtain⟨vs,g1,g2,g3⟩:=h2 (i+1) b (by simpa using hb);refine⟨vs,g1,fun q u hq=>?_,g3⟩;have:=g2 q u hq;rw[List.getElem?_drop,show k+(i*k+q)=(i+1)*k+q by rw[zco];omega];exact this
section
variable {P : Program} {r : Option Nat} {N : Nat} {X : Cx} {K : TK} {F : TE → Prop} {Γ Γ' : TE} {S : List Ow} {ops : Array Oper} {q qx : Prop} {Ψ Ψx : PV} {d s : Nat} {x : Operand} {t : TypeId} {pos : String} {af : Array Edge} {l : List Oper} {f : FuncId} {xs : List Operand} {ts : Array TypeId} {τs ca : List PV} {ρ : PV}
theorem zB (hf:tv Γ x=some (qx,Ψx))(hx:tvs Γ xs=some (q,τs))[Im True qx][Im True q][VF Ψx f ca](hk:CTy P f (τs++ca) ρ)(h:TO P r N ops X K l ((d,True,ρ)::Γ) S):TO P r N ops X K (⟨some d,.call ⟨.value x,xs.toArray,ts⟩,t,pos,af,none⟩::l) Γ S:=zA1 (oca hf hx fun _=>hk) h
theorem zC (hf:tv Γ x=some (qx,Ψx))(hx:tvs Γ xs=some (q,τs))[Im True qx][Im True q][VF Ψx f ca](hk:CTy P f (τs++ca) ρ)(h:TD P r N ops S F l ((d,True,ρ)::Γ)):TD P r N ops S F (⟨some d,.call ⟨.value x,xs.toArray,ts⟩,t,pos,af,none⟩::l) Γ:=d1 (oca hf hx fun _=>hk) h
theorem zA (h:tf Γ s=some (q,Ψ))[Tr q](k:Tsub Γ Γ'):Tsub Γ ((s,True,Ψ)::Γ'):=tc h (ps_r _) k
end
section
variable {P : Program} {r : Option Nat} {N : Nat} {X : Cx} {K : TK} {Γ : TE} {S : List Ow} {ops : Array Oper} {M : Nat → Prop} {p q qx qy : Prop} {Ψ Ψx Ψy : PV} {d : Nat} {x y : Operand} {t t' ty : TypeId} {pos : String} {af : Array Edge} {l : List Oper} {b o sz : Nat} {cs A B B1 B2 : List CT} {c : CT} {a : Bool}
theorem zD (i:Nat)(h0:(S[i]?,tv Γ x,tv Γ y)=(some (.blk b ty cs),some (qx,exP (.pointer (some ⟨b,o,none⟩))),some (qy,Ψy)))[Tr qx][Tr qy][CtOf Ψy c][TLd P t a sz](h1:(Nat.beq c.sz sz,cutT cs o,cutT B c.sz)=(true,some (A,B),some (B1,B2)))(h:TO P r N ops X K l Γ (S.set i (.blk b ty (A++c::B2)))):TO P r N ops X K (⟨none,.store t x y,t',pos,af,none⟩::l) Γ S:=by
  simp only[Prod.mk.injEq] at h0 h1;exact tst i h0.1 h0.2.1 h0.2.2 h1.1 h1.2.1 h1.2.2 h
theorem zG (i:Nat)[TLd P t a sz](h0:(tv Γ x,S[i]?,dA cs o,Nat.beq c.sz sz)=(some (qx,exP (.pointer (some ⟨b,o,none⟩))),some (.blk b ty cs),some c,true))[Im p qx][LdA a c Ψ]:Ob P r N ops M S p ⟨some d,.load t x,t',pos,af,none⟩ Γ Ψ:=by
  simp only[Prod.mk.injEq] at h0;exact oldo i h0.1 h0.2.1 h0.2.2.1 h0.2.2.2
theorem zL {g:Nat}{rs:List ResultVar}{m:List PV}(i:Nat)[TLd P t a sz](h0:(tf Γ g,S[i]?,dA cs 0,Nat.beq c.sz sz)=(some (q,exP (.pointer (some ⟨b,0,none⟩))),some (.blk b ty cs),some c,true))[Tr q][LdA a c Ψ](k:rsT P Γ S rs m):rsT P Γ S (.cell g t::rs) (Ψ::m):=by
  simp only[Prod.mk.injEq] at h0;exact rsc i h0.1 h0.2.1 h0.2.2.1 h0.2.2.2 k
end
abbrev zJ (n:Nat):PV:=exP (.int .i64 (n:Int))
abbrev zU (b o:Nat):PV:=exP (.pointer (some ⟨b,o,none⟩))
structure Rnd (n l:Nat)(C:Nat→Prop)(w:World)(C':Nat→Prop)(w':World):Prop where
 os:w'.os=w.os
 tape:Tp w w'
 output:w'.output=w.output
 size:w.heap.size≤w'.heap.size
 cells:∀ k cs t fz,¬ C k→w.heap[k]? = some (.cells cs t fz)→w'.heap[k]? = some (.cells cs t fz)
 own:∀ k,n≤k→k<w.heap.size→¬ C k→k≠l→w'.heap[k]? = w.heap[k]?
 new:∀ k,C' k→C k∨w.heap.size≤k
 ok:OkM C' w'
structure Stp (n:Nat)(I:Nat→Prop)(w:World)(I':Nat→Prop)(w':World):Prop where
 os:w'.os=w.os
 tape:Tp w w'
 output:w'.output=w.output
 size:w.heap.size≤w'.heap.size
 cells:∀ k cs t fz,¬ I k→w.heap[k]? = some (.cells cs t fz)→w'.heap[k]? = some (.cells cs t fz)
 low:∀ k,k<n→¬ I k→w'.heap[k]? = w.heap[k]?
 new:∀ k,I' k→I k∨w.heap.size≤k∧k<w'.heap.size
theorem Stp.mono {n m:Nat}{I I':Nat→Prop}{w w':World}(h:Stp n I w I' w')(k:m≤n):Stp m I w I' w':=⟨h.os,h.tape,h.output,h.size,h.cells,fun i hi=>h.low i (by omega),h.new⟩
theorem Stp.of_drift {n m:Nat}{I:Nat→Prop}{w w':World}(d:Drift NoT m w w')(h:n≤m):Stp n I w I w':=⟨d.os,d.tape,d.output,d.size,fun k cs t fz _ hc=>d.cells k cs t fz (fun c=>c) hc,fun k hk _=>d.low k (by omega) (fun c=>c),fun k hk => .inl hk⟩
def yS6 (fin:Prop)(P:Program)(g:FuncId)(cap:List Value)(M I0:Nat→Prop)(w0:World){α:Type}(xs:List α)(Rl:α→(Nat→Prop)→World→List Value→Prop)(Fi:(Nat→Prop)→(Nat→Prop)→World→Prop):Prop :=
 ∀(n l:Nat) (w:World) (J:(Nat→Prop)→(Nat→Prop)→List α→World→Prop) (X:(Nat→Prop)→World→Prop),w0.heap.size≤n→n≤w.heap.size→l<n→Drift NoT w0.heap.size w0 w→(fin ∨ ∀ C I w,¬ J C I xs w)→J M I0 [] w →
  (∀ C I I' pre w w',J C I pre w→n≤w.heap.size→Stp n I w I' w'→J C I' pre w')→(∀ I I' w w',X I w→n≤w.heap.size→Stp n I w I' w'→X I' w')→(∀ C I pre w,J C I pre w→OkM C w∧∀ k,C k→¬ I k) →
  (∀ C I pre x vs post w,xs=pre++x::post→J C I pre w→Rl x (fun k=>C k∨I k) w vs→n≤w.heap.size→YieldV P l vs w fun b w'=>n≤w'.heap.size∧∃ C',Rnd n l C w C' w'∧((b=true∧J C' I (pre++[x]) w')∨(b=false∧X I w'))) →
  CallsV P g (.func (.yield l) #[] #[]::cap) w fun _ w'=>(∃ C I,J C I xs w'∧Fi C I w') ∨ ∃ I,X I w'
section range
variable {P : Program} {r : Option Nat} {N : Nat} {Kn Kr : Pd} {Ke : Nat → Pd} {D : List Deferred} {E : Env} {w : World}
theorem wp_rangeg {fin:Prop}{α:Type}{fo:Operand}{ps:Array Tmp}{assign body:Code}{g:FuncId}{cap:Array Value}{M I0:Nat→Prop}(xs:List α)(Rl:α→(Nat→Prop)→World→List Value→Prop)(Fi:(Nat→Prop)→(Nat→Prop)→World→Prop)
  (hf:ev E fo=some (.func (.func g) #[] cap)) (hb:Bod P g) (it:yS6 fin P g cap.toList M I0 w xs Rl Fi) (hI0:∀ k,I0 k→k<w.heap.size) (hFn:∀ C I w1 w2,Fi C I w1→Drift NoT w.heap.size w1 w2→Fi C I w2) (hout:Outer r w)
  (henc:∀ x C w vs,Rl x C w vs→vs.length=ps.size) (hps:(ps.toList.all fun p=>Nat.blt p N)=true)
  (J:(Nat→Prop)→(Nat→Prop)→List α→World→Prop) (X:Nat→(Nat→Prop)→World→Prop) (Rt:(Nat→Prop)→World→Prop) (hfin:fin ∨ ∀ C I w,¬ J C I xs w) (hJ0:J M I0 [] w)
  (hJd:∀ C I I' pre w1 w2,J C I pre w1→Stp w.heap.size I w1 I' w2→J C I' pre w2) (hXd:∀ id I I' w1 w2,X id I w1→Stp w.heap.size I w1 I' w2→X id I' w2) (hRd:∀ I I' w1 w2,Rt I w1→Stp w.heap.size I w1 I' w2→Rt I' w2)
  (hdis:∀ C I pre w',J C I pre w'→OkM C w'∧∀ k,C k→¬ I k)
  (round:∀ C I pre x vs post l b w1 ρ δ,xs=pre++x::post→J C I pre w1→Rl x (fun k=>C k∨I k) w1 vs→w.heap.size≤l→w.heap.size≤b→(∀ k,I k→k≠l∧k≠b)→¬ C l∧¬ C b→w1.heap[l]? = some (.loop ρ)→w1.heap[b]? = some δ→(∀ cs t fz,δ ≠ .cells cs t fz) →
   Wp P (some l) N assign (fun D2 E2 w2=>w2.heap[l]? = some (.loop ρ)∧w2.heap[b]? = some δ∧D2=[]∧∀ w3 ρ' δ',Drift NoT w.heap.size w2 w3→(∀ k,k≠l→w3.heap[k]? = w2.heap[k]?)→w3.heap[l]? = some (.loop ρ')→w3.heap[b]? = some δ'→(∀ cs t fz,δ' ≠ .cells cs t fz) →
    Wp P (some l) N body (fun _ _ w'=>w'.heap[l]? = some (.loop ρ')∧w'.heap[b]? = some δ'∧∃ C',Rnd w.heap.size l C w1 C' w'∧J C' I (pre++[x]) w')
     (fun id _ _ w'=>w'.heap[l]? = some (.loop ρ')∧w'.heap[b]? = some δ'∧∃ C',Rnd w.heap.size l C w1 C' w'∧X id I w')
     (fun _ _ w'=>w'.heap[l]? = some (.loop ρ')∧w'.heap[b]? = some δ'∧∃ C',Rnd w.heap.size l C w1 C' w'∧Rt I w') [] E2 w3)
    (fun _ _ _ _=>False) (fun _ _ _=>False) [] (tH E (ps.toList.zip vs)) w1)
  (done:∀ C I w',J C I xs w'→Fi C I w'→(∀ b,r=none→b=w.heap.size→w'.heap[b]? = some (.deferred (some [])))→Kn (kH r w++D) E w')
  (exit:∀ id I w',X id I w'→(∀ b,r=none→b=w.heap.size→w'.heap[b]? = some (.deferred (some [])))→Ke id (kH r w++D) E w')
  (ret:∀ I w',Rt I w'→(∀ b,r=none→b=w.heap.size→w'.heap[b]? = some (.deferred (some [])))→Kr (kH r w++D) E w') :
  Wp P r N (.rangeFunc fo ps assign body) Kn Ke Kr D E w:=by
 intro a ha hd;refine wpIn_rangeFunc fun fn _=>?_
 -- the record
 have henter:∃(l b:Nat) (δ:Obj) (w₁:World) (df:Nat),(Instr.enterLoop fn a.tmps ps assign body r).run P w = .ok (l,kH r w) w₁ ∧
   w₁.heap[l]? = some (.loop { state:=.ready,pending:=none,fn:=fn,tmps:=a.tmps,params:=ps,assign:=assign,body:=body,defers:=df })∧w.heap.size≤l∧w.heap.size≤b∧l<w₁.heap.size∧b<w₁.heap.size ∧
   Bel w.heap.size w w₁∧w₁.heap[b]? = some δ∧(∀ cs t fz,δ ≠ .cells cs t fz)∧(r=none→b=w.heap.size∧δ = .deferred (some [])∧b≠l)∧(r≠none→b=l):=by
  cases r with
  | none =>
   refine⟨_,w.heap.size,.deferred (some []),_,w.heap.size,run_enterLoop_outer (w:=w) fn a.tmps ps assign body,?_,zbt _,zab _,(by rw[World.size_alloc,World.size_alloc];omega),(by rw[World.size_alloc,World.size_alloc];omega),?_,?_,by simp,fun _=>⟨rfl,rfl,(Nat.ne_of_lt (Nat.lt_succ_self _))⟩,fun h=>absurd rfl h⟩
   ·have:=World.alloc_heap_new (w.alloc (.deferred (some []))) (.loop { state:=.ready,pending:=none,fn:=fn,tmps:=a.tmps,params:=ps,assign:=assign,body:=body,defers:=w.heap.size });simpa using this
   ·exact((Bel.refl _ w).alloc (zab _) _).alloc (by simp) _
   ·rw[Below.heap_alloc _ _ _ (by simp)];exact World.alloc_heap_new w _
  | some l₀ =>
   obtain⟨r₀,hr₀⟩:=hout;exact⟨_,w.heap.size,_,_,r₀.defers,run_enterLoop_inner (w:=w) hr₀ fn a.tmps ps assign body,World.alloc_heap_new w _,by omega,by omega,by simp,by simp,(Bel.refl _ w).alloc (zab _) _,World.alloc_heap_new w _,by simp,fun h=>by simp at h,fun _=>rfl⟩
 obtain⟨l,b,δ,w₁,df,e1,hl,hnl,hnb,hll,hbl,hbel,hbδ,hδc,hbn,hbs⟩:=henter;obtain⟨fu,hf1,hf2,hf3⟩:=hb;have hcall:(invoke (.fn (.func g) cap) (#[] ++ #[.func (.yield l) #[] #[]])).run P w₁ = .ok (.enter g (Value.func (.yield l) #[] #[]::cap.toList).toArray) w₁:=by
  simp only[invoke];have:(callFunc g (#[] ++ #[Value.func (.yield l) #[] #[]]++cap)).run P w₁ = .ok (.enter g (#[] ++ #[Value.func (.yield l) #[] #[]]++cap)) w₁:=by
   unfold callFunc;simp only[Sem.run_bind,program,Sem.run,Result.andThen,hf1,hf2,hf3];rfl
  rw[this];simp
 refine⟨l,kH r w,w₁,{ target:=.fn (.func g) cap,args:=#[] ++ #[.func (.yield l) #[] #[]] },w₁,g,_,w₁,e1,?_,fun _ _=>trivial,hcall,by simp[Fr],?_⟩
 ·have e5:Array.map a.eval #[Operand.const (Value.func (Fn.yield l) #[] #[])]=#[Value.func (Fn.yield l) #[] #[]]:=by simp[Act.eval]
  simp only[resolve,rangeCall,ha.ev hf,Deferred.ofValue,e5];rfl
 -- what holds between two rounds
 let ρ0:Loop:={ state:=.ready,pending:=none,fn:=fn,tmps:=a.tmps,params:=ps,assign:=assign,body:=body,defers:=df }
 let Dl:World→Prop:=fun w'=>r=none→w'.heap[b]? = some (.deferred (some []))
 let J':(Nat→Prop)→(Nat→Prop)→List α→World→Prop:=fun C I pre w'=>(J C I pre w'∧(w'.heap[l]? = some (.loop ρ0)∧¬ C l∧¬ C b)∧Dl w')∧∀ k,I k→w₁.heap.size≤k∨I0 k
 let X':(Nat→Prop)→World→Prop:=fun I w'=>((∃ id ρ,X id I w'∧w'.heap[l]? = some (.loop ρ)∧ρ.state ≠ .busy∧ρ.pending=some (.exit id)∧Dl w')∨(∃ ρ,Rt I w'∧w'.heap[l]? = some (.loop ρ)∧ρ.state ≠ .busy∧ρ.pending=some .ret∧Dl w'))∧∀ k,I k→w₁.heap.size≤k∨I0 k
 have hlow:∀ I w1 I' w2,Stp w₁.heap.size I w1 I' w2→(∀ k,I k→w₁.heap.size≤k∨I0 k)→∀ k,k<w₁.heap.size→w.heap.size≤k→w2.heap[k]? = w1.heap[k]?:=fun I w1 I' w2 d hI k h2 h3=>d.low k h2 fun c=>(hI k c).elim (fun c=>by omega) fun c=>by have:=hI0 k c;omega
 have hsI:∀ I w1 I' w2,Stp w₁.heap.size I w1 I' w2→w₁.heap.size≤w1.heap.size→(∀ k,I k→w₁.heap.size≤k∨I0 k)→∀ k,I' k→w₁.heap.size≤k∨I0 k:=fun I w1 I' w2 d hs hI k h=>(d.new k h).elim (hI k) fun c => .inl (zac hs c.1);have hd0:Drift NoT w.heap.size w w₁:=Drift.of_below hbel (zab _);have hlt:∀(w1:World) (ρ:Loop),w1.heap[l]? = some (.loop ρ)→l<w1.heap.size:=fun w1 ρ h=>(zaB.1 h).1;have hit:=it w₁.heap.size l w₁ J' X' hbel.size (zab _) hll hd0 (hfin.imp id fun h C I w k=>h C I w k.1.1)
  ⟨⟨hJd _ _ _ _ _ _ hJ0 (.of_drift hd0 (zab _)),⟨hl,fun c=>(by have:=(hdis _ _ _ _ hJ0).1 l c;omega),fun c=>(by have:=(hdis _ _ _ _ hJ0).1 b c;omega)⟩,fun hr=>by obtain⟨_,h2,_⟩:=hbn hr;rw[← h2];exact hbδ⟩,fun _ h => .inr h⟩
  (fun C I I' pre w1 w2 h hs d=>⟨⟨hJd _ _ _ _ _ _ h.1.1 (d.mono hbel.size),⟨(hlow _ _ _ _ d h.2 l hll hnl).trans h.1.2.1.1,h.1.2.1.2⟩,fun hr=>(hlow _ _ _ _ d h.2 b hbl hnb).trans (h.1.2.2 hr)⟩,hsI _ _ _ _ d hs h.2⟩)
  (fun I I' w1 w2 h hs d=>by
   obtain⟨h,hI⟩:=h;refine⟨?_,hsI _ _ _ _ d hs hI⟩;rcases h with⟨id,ρ,h1,h2,h3,h4,h5⟩ | ⟨ρ,h1,h2,h3,h4,h5⟩
   ·exact .inl ⟨id,ρ,hXd _ _ _ _ _ h1 (d.mono hbel.size),(hlow _ _ _ _ d hI l hll hnl).trans h2,h3,h4,fun hr=>(hlow _ _ _ _ d hI b hbl hnb).trans (h5 hr)⟩
   ·exact .inr ⟨ρ,hRd _ _ _ _ h1 (d.mono hbel.size),(hlow _ _ _ _ d hI l hll hnl).trans h2,h3,h4,fun hr=>(hlow _ _ _ _ d hI b hbl hnb).trans (h5 hr)⟩)
  (fun C I pre w' h=>hdis _ _ _ _ h.1.1)
  (fun C I pre x vs post w1 hx hJ1 hvs hn1=>by
   obtain⟨⟨hJ1,⟨hl1,hCl⟩,hD1⟩,hI1⟩:=hJ1;have hy:=run_yield (P:=P) (w:=w1) (args:=vs.toArray) hl1 (by simpa using henc x _ _ vs hvs);refine⟨_,_,_,_,hy,roundIn_of_wpIn trivial ?_⟩;have hb1:∃ δ1,w1.heap[b]? = some δ1∧(∀ cs t fz,δ1 ≠ .cells cs t fz):=by
    by_cases hr:r=none
    ·exact⟨_,hD1 hr,by simp⟩
    ·rw[hbs hr];exact⟨_,hl1,by simp⟩
   obtain⟨δ1,hδ1,hδ1c⟩:=hb1;have hrd:=round C I pre x vs post l b w1 ρ0 δ1 hx hJ1 hvs hnl hnb (fun k hk=>⟨fun e=>(hI1 k hk).elim (fun c=>by omega) fun c=>by have:=hI0 k c;omega,fun e=>(hI1 k hk).elim (fun c=>by omega) fun c=>by have:=hI0 k c;omega⟩) hCl hl1 hδ1 hδ1c;have hz:(ρ0.params.zip vs.toArray).foldl (fun tmps (x:Tmp×Value)=>tmps.setIfInBounds x.1 x.2) a.tmps=(ps.toList.zip vs).foldl (fun tmps (x:Tmp×Value)=>tmps.setIfInBounds x.1 x.2) a.tmps:=by
    show (ps.zip vs.toArray).foldl _ _=_;rw[← Array.foldl_toList];simp
   have hE:=zN2 (ps.toList.zip vs) { tmps:=a.tmps,defers:=[] } E ⟨ha.size,ha.at_⟩ (by
    rw[zaC] at hps ⊢;intro p hp;exact hps p.1 (List.of_mem_zip hp).1)
   have hw:=hrd { tmps:=(ps.toList.zip vs).foldl (fun tmps (x:Tmp×Value)=>tmps.setIfInBounds x.1 x.2) a.tmps,defers:=[] } hE rfl;have hzz:(Array.foldl (fun tmps (x:Tmp×Value)=>match x with | (t,a)=>tmps.setIfInBounds t a) ρ0.tmps (ρ0.params.zip vs.toArray))=(ps.toList.zip vs).foldl (fun tmps (x:Tmp×Value)=>tmps.setIfInBounds x.1 x.2) a.tmps:=hz;show Code.wpIn (Fence.wide.inRound l) 0 P assign _ { tmps:=_,defers:=[] } w1;rw[hzz];refine wpIn_mono hw fun e a1 w2 hq=>?_;cases e with
   | normal =>
    obtain⟨E2,hE2,hl2,hb2,hD2,hbody⟩:=hq;have hbr:=run_beginRound (P:=P) (w:=w2) hl2 rfl;refine⟨_,hbr,?_⟩;have hl2s:l<w2.heap.size:=(zaB.1 hl2).1;have hb3:∃ δ3,(w2.putObj l (.loop { ρ0 with state:=.busy })).heap[b]? = some δ3∧(∀ cs t fz,δ3 ≠ .cells cs t fz)∧(r=none→δ3 = .deferred (some [])):=by
     by_cases hr:r=none
     ·obtain⟨_,_,hne⟩:=hbn hr;rw[World.putObj_heap_other hne,hb2];exact⟨_,rfl,hδ1c,fun _=>by have:=hD1 hr;rw[hδ1] at this;injection this⟩
     ·rw[hbs hr,World.putObj_heap_same hl2s];exact⟨_,rfl,by simp,fun h=>absurd h hr⟩
    obtain⟨δ3,hδ3,hδ3c,hδ3n⟩:=hb3;have hbw:=hbody (w2.putObj l (.loop { ρ0 with state:=.busy })) { ρ0 with state:=.busy } δ3 (Drift.put hl2 (by simp) hnl) (fun k hk=>World.putObj_heap_other hk) (World.putObj_heap_same hl2s) hδ3 hδ3c a1 hE2 hD2;refine wpIn_mono hbw fun e3 a3 w3 hq3=>?_;have hput:∀(w3:World) (o:Obj),w3.heap[b]? = some δ3→(r=none→(w3.putObj l o).heap[b]? = some (.deferred (some []))):=fun w3 o h hr=>by
     obtain⟨_,_,hne⟩:=hbn hr;rw[World.putObj_heap_other hne,h,hδ3n hr]
    have hkT:∀(w3:World) (o:Obj) (ρ:Loop) (C':Nat→Prop),w3.heap[l]? = some (.loop ρ)→Rnd w.heap.size l C w1 C' w3→w₁.heap.size≤(w3.putObj l o).heap.size∧Rnd w₁.heap.size l C w1 C' (w3.putObj l o):=fun w3 o ρ C' hlp k =>
     ⟨by simp[World.putObj];exact zac hn1 k.size,k.os,⟨k.tape.eq,k.tape.le⟩,k.output,by simp[World.putObj];exact k.size,fun i cs t fz hi hc=>by
      have h1:=k.cells i cs t fz hi hc;rw[World.putObj_heap_other (fun e=>by subst e;rw[hlp] at h1;cases h1)];exact h1,fun i h1 h2 h3 h4=>by
      rw[World.putObj_heap_other h4];exact k.own i (zac hbel.size h1) h2 h3 h4,k.new,fun i hi=>by simp[World.putObj];exact k.ok i hi⟩
    cases e3 with
    | normal =>
     obtain⟨_,_,hl3,hb3,C',hk3,hJ3⟩:=hq3;have hl3s:l<w3.heap.size:=(zaB.1 hl3).1;refine⟨_,_,run_endRound (P:=P) (w:=w3) none hl3,true,rfl,(hkT w3 _ _ _ hl3 hk3).1,C',(hkT w3 _ _ _ hl3 hk3).2,.inl ⟨rfl,⟨hJd _ _ _ _ _ _ hJ3 (.of_drift (Drift.put hl3 (by simp) hnl) (zab _)),?_,hput w3 _ hb3⟩,hI1⟩⟩;exact⟨World.putObj_heap_same hl3s,fun c=>(hk3.new l c).elim hCl.1 fun c=>(by have:=hlt w1 _ hl1;omega),fun c=>(hk3.new b c).elim hCl.2 fun c=>(by have:=(zaB.1 hδ1).1;omega)⟩
    | exit id =>
     obtain⟨_,_,hl3,hb3,C',hk3,hX3⟩:=hq3;have hl3s:l<w3.heap.size:=(zaB.1 hl3).1;exact⟨_,_,run_endRound (P:=P) (w:=w3) (some (.exit id)) hl3,false,rfl,(hkT w3 _ _ _ hl3 hk3).1,C',(hkT w3 _ _ _ hl3 hk3).2,.inr ⟨rfl,.inl ⟨id,_,hXd _ _ _ _ _ hX3 (.of_drift (Drift.put hl3 (by simp) hnl) (zab _)),World.putObj_heap_same hl3s,by simp,rfl,hput w3 _ hb3⟩,hI1⟩⟩
    | ret =>
     obtain⟨_,_,hl3,hb3,C',hk3,hX3⟩:=hq3;have hl3s:l<w3.heap.size:=(zaB.1 hl3).1;exact⟨_,_,run_endRound (P:=P) (w:=w3) (some .ret) hl3,false,rfl,(hkT w3 _ _ _ hl3 hk3).1,C',(hkT w3 _ _ _ hl3 hk3).2,.inr ⟨rfl,.inr ⟨_,hRd _ _ _ _ hX3 (.of_drift (Drift.put hl3 (by simp) hnl) (zab _)),World.putObj_heap_same hl3s,by simp,rfl,hput w3 _ hb3⟩,hI1⟩⟩
    | goto t=>exact hq3.elim
    | panic c=>exact hq3.elim
    | outgrown=>exact hq3.elim
   | exit id=>obtain⟨_,_,h⟩:=hq;exact h.elim
   | ret=>obtain⟨_,_,h⟩:=hq;exact h.elim
   | goto t=>exact hq.elim
   | panic c=>exact hq.elim
   | outgrown=>exact hq.elim)
 have hit':CallsIn (Fr r) (0-1) P g (Value.func (.yield l) #[] #[]::cap.toList).toArray w₁ _:=(callsIn_wide (n:=0-1)).2 hit;refine hit'.mono ?_;rintro e w3 ⟨v,rfl,hv⟩;have hpb:∀(w3:World) (o:Obj),w3.heap[l]? ≠ none→Dl w3→(∀ b',r=none→b'=w.heap.size→(w3.putObj l o).heap[b']? = some (.deferred (some []))):=fun w3 o _ h b' hr hb'=>by
  obtain⟨h1,_,hne⟩:=hbn hr;rw[hb',← h1,World.putObj_heap_other hne];exact h hr
 rcases hv with⟨C,I,⟨⟨hJ3,⟨hl3,_⟩,hD3⟩,hI3⟩,hF3⟩ | ⟨I,⟨id,ρ,hX3,hl3,hst,hpe,hD3⟩ | ⟨ρ,hX3,hl3,hst,hpe,hD3⟩,hI3⟩
 ·refine⟨_,_,run_endLoop (P:=P) (w:=w3) hl3 (by simp[ρ0]),E,⟨ha.size,ha.at_⟩,?_⟩;have:=done _ _ _ (hJd _ _ _ _ _ _ hJ3 (.of_drift (Drift.put (o':=.loop { ρ0 with state:=.exhausted }) hl3 (by simp) hnl) (zab _))) (hFn _ _ _ _ hF3 (Drift.put hl3 (by simp) hnl)) (hpb w3 _ (by rw[hl3];simp) hD3);rw[hd];exact this
 ·refine⟨_,_,run_endLoop (P:=P) (w:=w3) hl3 hst,?_⟩;simp only[hpe];refine wpIn_exit ⟨E,⟨ha.size,ha.at_⟩,?_⟩;have:=exit id _ _ (hXd _ _ _ _ _ hX3 (.of_drift (Drift.put (o':=.loop { ρ with state:=.exhausted }) hl3 (by simp) hnl) (zab _))) (hpb w3 _ (by rw[hl3];simp) hD3);rw[hd];rw[hpe] at this;exact this
 ·refine⟨_,_,run_endLoop (P:=P) (w:=w3) hl3 hst,?_⟩;simp only[hpe];refine wpIn_ret ⟨E,⟨ha.size,ha.at_⟩,?_⟩;have:=ret _ _ (hRd _ _ _ _ hX3 (.of_drift (Drift.put (o':=.loop { ρ with state:=.exhausted }) hl3 (by simp) hnl) (zab _))) (hpb w3 _ (by rw[hl3];simp) hD3);rw[hd];rw[hpe] at this;exact this
end range
def yM1 (Q:List Ow→Prop)(C I:Nat→Prop)(w:World):Prop:=∃ So,Q So∧Gd (Mk So C) So w∧Apt So∧∀ b,bks So b→I b
structure CItS (fin:Prop)(P:Program)(g:FuncId)(caps:List PV)(S1:List Ow){α:Type}(xs:List α)(τ:α→List PV)(Q:List Ow→Prop):Prop where
 bod:Bod P g
 run:∀(M:Nat→Prop) (w:World) (cap:List Value),Gd (Mk S1 M) S1 w→Apt S1→(∀ b,bks S1 b→¬ M b)→OkM M w→Fa caps (Mk S1 M) w cap→yS6 fin P g cap M (bks S1) w xs (fun x C w vs=>Fa (τ x) C w vs) (yM1 Q)
abbrev CItF (fin:Prop)(P:Program)(g:FuncId)(caps:List PV){α:Type}(xs:List α)(τ:α→List PV):Prop:=CItS fin P g caps [] xs τ (fun So=>So=[])
abbrev CIt (P:Program)(g:FuncId)(caps:List PV){α:Type}(xs:List α)(τ:α→List PV):Prop:=CItF True P g caps xs τ
theorem mk_or {S:List Ow}{M I:Nat→Prop}:(fun k=>Mk S M k∨I k)=Mk S (fun k=>M k∨I k):=funext fun k=>propext (or_assoc)
theorem St.notM {X:Cx}{Γ:TE}{S:List Ow}{E:Env}{w:World}(h:St X Γ S E w){b:Nat}(hb:bks S b):¬ X.M b:=fun c=>by
 obtain⟨o,ho,e⟩:=hb;rcases h.new o ho b e with h1 | h1
 ·have:=h.ok0 b c;omega
 ·exact h.zm b h1 c
theorem bK {M:Nat→Prop}{S:List Ow}{w:World}(h:Gd M S w){b:Nat}(hb:bks S b):∃ cs t fz,w.heap[b]? = some (.cells cs t fz):=let ⟨o,ho,e⟩:=hb;jQ (h.own o ho) b e
def rA:TE→List (Tmp×PV)→TE
 | Γ,[]=>Γ
 | Γ,(t,τ)::r=>rA ((t,True,τ)::Γ) r
theorem yA6 {M:Nat→Prop}{w:World}:∀ {ps:List Tmp} {τs:List PV} {vs:List Value} {Γ:TE} {E:Env},Fa τs M w vs→TM Γ M E w→τs.length=ps.length→TM (rA Γ (ps.zip τs)) M (tH E (ps.zip vs)) w
 | [],τs,vs,Γ,E,_,h,_=>by simpa [rA,tH] using h
 | p::ps,[],vs,Γ,E,_,_,hl=>by cases hl
 | p::ps,τ::τs,vs,Γ,E,⟨v,us,e,h1,h2⟩,h,hl=>by
  subst e;exact yA6 (ps:=ps) h2 (h.put (q:=(True,τ)) (fun _=>h1) (fun c=>absurd trivial c)) (by simpa using hl)
structure Cor (I0:Nat→Prop)(X:Cx)(n:Nat)(Γ:TE)(S:List Ow)(E:Env)(I:Nat→Prop)(w:World):Prop where
 bel:BZ X w
 gd:Gd (Mk S (fun k=>X.M k∨I k)) S w
 new:∀ o∈S,∀ b,o.bk=some b→X.w.heap.size≤b∨X.z b
 apt:Apt S
 mko:MkO X w
 tm:TM Γ (Mk S (fun k=>X.M k∨I k)) E w
 dis:∀ k,Mk S X.M k→¬ I k
 lo:∀ k,I k→n≤k∨I0 k
 io:∀ k,I0 k→(X.w.heap.size≤k∨X.z k)∧(∀ d∈X.ms,d.target ≠ .collected k)∧X.lp≠some k
 sz:n≤w.heap.size
 mlt:(∀ d∈X.ms,∀ b,d.target = .collected b→b<n)∧∀ l,X.lp=some l→l<n
 xn:X.w.heap.size≤n
 nM:∀ b,bks S b→¬ X.M b
 ok0:OkM X.M X.w
 zm:∀ b,X.z b→¬ X.M b
theorem Cor.step {I0:Nat→Prop}{X:Cx}{n:Nat}{Γ:TE}{S:List Ow}{E:Env}{I I':Nat→Prop}{w w':World}(h:Cor I0 X n Γ S E I w)(d:Stp n I w I' w'):Cor I0 X n Γ S E I' w':=by
 have hlow:∀ k,k<n→¬ I0 k→w'.heap[k]? = w.heap[k]?:=fun k hk hi=>d.low k hk fun c=>(h.lo k c).elim (fun c=>by omega) hi;have cl:Cl (Mk S (fun k=>X.M k∨I k)) w (Mk S (fun k=>X.M k∨I' k)) w':=fun k cur t fz hk hw=>by
  have hlt:=(zaB.1 hw).1;refine⟨fun c=>?_,d.cells k _ _ _ (fun c=>hk (.inr (.inr c))) hw⟩;rcases c with c | c | c
  ·exact hk (.inl c)
  ·exact hk (.inr (.inl c))
  ·exact(d.new k c).elim (fun c=>hk (.inr (.inr c))) fun c=>by omega
 refine⟨⟨d.os.trans h.bel.os,d.tape.trans h.bel.tape,d.output.trans h.bel.output,zac h.bel.size d.size,fun k hk hz=>(hlow k (zan hk h.xn) fun c=>(h.io k c).1.elim (fun c=>by omega) hz).trans (h.bel.block k hk hz)⟩,⟨fun k hk=>?_,h.gd.tab.cl cl,fun o ho=>?_⟩,h.new,h.apt,⟨⟨fun x hx=>?_,h.mko.m.apart⟩,h.mko.n,fun l e=>?_⟩,h.tm.mono cl,fun k hk c=>?_,fun k c=>?_,h.io,zac h.sz d.size,h.mlt,h.xn,h.nM,h.ok0,h.zm⟩
 ·rcases hk with c | c | c
  ·exact zan (h.gd.ok k (.inl c)) d.size
  ·exact zan (h.gd.ok k (.inr (.inl c))) d.size
  ·exact(d.new k c).elim (fun c=>zan (h.gd.ok k (.inr (.inr c))) d.size) fun c=>c.2
 ·refine Ow.ok_mono (h.gd.own o ho) cl fun b hb hlt=>?_;obtain⟨cs,t,fz,e⟩:=jQ (h.gd.own o ho) b hb;exact(d.cells b cs t fz (h.dis b (.inl ⟨o,ho,hb⟩)) e).trans e.symm
 ·obtain⟨b,h1,h2,h3⟩:=h.mko.m.at_ x hx;exact⟨b,h1,h2,(hlow b (h.mlt.1 x hx b h1) fun c=>(h.io b c).2.1 x hx h1).trans h3.at_,h3.not⟩
 ·obtain⟨ρ,h1⟩:=h.mko.o l e;exact⟨ρ,(hlow l (h.mlt.2 l e) fun c=>(h.io l c).2.2 e).trans h1⟩
 ·rcases d.new k c with c | c
  ·exact h.dis k hk c
  ·have:=h.gd.ok k (hk.imp id .inl);omega
 ·rcases d.new k c with c | c
  ·exact h.lo k c
  ·exact .inl (zac h.sz c.1)
theorem Cor.rnd {I0:Nat→Prop}{X:Cx}{n:Nat}{Γ:TE}{S:List Ow}{E:Env}{I:Nat→Prop}{w:World}(h:Cor I0 X n Γ S E I w){ps:List Tmp}{τs:List PV}{vs:List Value}(hl:τs.length=ps.length)(hv:Fa τs (fun k=>Mk S X.M k∨I k) w vs){l:Nat}{ρ:Loop}(hlp:w.heap[l]? = some (.loop ρ)) :
  St ⟨fun k=>X.M k∨I k,w,bks S,w.heap.size,[],some l⟩ (rA Γ (ps.zip τs)) S (tH E (ps.zip vs)) w :=
 ⟨⟨rfl,Tp.refl _,rfl,zab _,fun _ _ _=>rfl⟩,h.gd,fun o ho b hb => .inr ⟨o,ho,hb⟩,h.apt,fun b hb=>h.gd.ok b (.inr hb),fun b hb c=>c.elim (h.nM b hb) (h.dis b (.inl hb)),⟨uH,zab _,fun _ e=>by cases e;exact⟨ρ,hlp⟩⟩,yA6 (by rw[mk_or] at hv;exact hv) h.tm hl⟩
theorem St.again {Y:Cx}{Γ:TE}{S:List Ow}{E:Env}{n l:Nat}{w2 w3:World}{ρ:Loop}(h:St Y Γ S E w2)(hd:Drift NoT n w2 w3)(hlp:w3.heap[l]? = some (.loop ρ)) :
  St ⟨Y.M,w3,bks S,w3.heap.size,[],some l⟩ Γ S E w3:=by
 refine⟨⟨rfl,Tp.refl _,rfl,zab _,fun _ _ _=>rfl⟩,⟨fun k hk=>zan (h.gd.ok k hk) hd.size,h.gd.tab.cl (gK hd),fun o ho=>?_⟩,fun o ho b hb => .inr ⟨o,ho,hb⟩,h.apt,fun b hb=>zan (h.gd.ok b (.inr hb)) hd.size,fun b hb=>h.notM hb,⟨uH,zab _,fun _ e=>by cases e;exact⟨ρ,hlp⟩⟩,h.tm.mono (gK hd)⟩;refine Ow.ok_mono (h.gd.own o ho) (gK hd) fun b hb hlt=>?_;obtain⟨cs,t,fz,e⟩:=jQ (h.gd.own o ho) b hb;exact(hd.cells b cs t fz (fun c=>c) e).trans e.symm
theorem Cor.aft {I0:Nat→Prop}{X:Cx}{n:Nat}{Γ Γ2 Γ3:TE}{S S2 S3 S':List Ow}{E E2 E3:Env}{I:Nat→Prop}{w1 w2 w3 w':World}{l b:Nat}{ρ ρ':Loop}{δ δ':Obj}(h:Cor I0 X n Γ S E I w1)(hnl:n≤l)
  (hl1:w1.heap[l]? = some (.loop ρ)) (hb1:w1.heap[b]? = some δ) (hδ:∀ cs t fz,δ ≠ .cells cs t fz)
  (g1:St ⟨fun k=>X.M k∨I k,w1,bks S,w1.heap.size,[],some l⟩ Γ2 S2 E2 w2) (hd:Drift NoT n w2 w3) (ho:∀ k,k≠l→w3.heap[k]? = w2.heap[k]?) (hl3:w3.heap[l]? = some (.loop ρ')) (hb3:w3.heap[b]? = some δ') (hδ':∀ cs t fz,δ' ≠ .cells cs t fz)
  {Z:Cx} (hZ:Eqx ⟨fun k=>X.M k∨I k,w3,bks S2,w3.heap.size,[],some l⟩ Z) (g2:St Z Γ3 S3 E3 w') (hs:S'.Sublist S3) :
  w'.heap[l]? = some (.loop ρ')∧w'.heap[b]? = some δ'∧Rnd n l (Mk S X.M) w1 (Mk S' X.M) w'∧Cor I0 X n Γ S' E I w':=by
 obtain⟨ms,rfl⟩:=hZ.h;have s12:w1.heap.size≤w2.heap.size:=g1.bel.size;have s23:w2.heap.size≤w3.heap.size:=hd.size;have s3:w3.heap.size≤w'.heap.size:=g2.bel.size;have n2:∀ k,bks S2 k→w1.heap.size≤k∨bks S k:=fun k ⟨o,ho,e⟩=>g1.new o ho k e;have n3:∀ k,bks S3 k→w1.heap.size≤k∨bks S k:=fun k ⟨o,ho,e⟩=>(g2.new o ho k e).elim (fun c => .inl (zac (zac s12 s23) c)) (n2 k);have hS':∀ k,bks S' k→bks S3 k:=fun k ⟨o,ho,e⟩=>⟨o,hs.subset ho,e⟩;have keep:∀ k,k<w1.heap.size→¬ bks S k→k≠l→w'.heap[k]? = w1.heap[k]?:=fun k hk hz hne =>
  ((g2.bel.block k (by have:=zac s12 s23;exact zan hk this) fun c=>(n2 k c).elim (fun c=>by omega) hz).trans (ho k hne)).trans (g1.bel.block k hk hz)
 have nc3:∀(k:Nat) (o:Obj),w3.heap[k]? = some o→(∀ cs t fz,o ≠ .cells cs t fz)→w'.heap[k]? = some o:=fun k o hk hc=>by
  refine(g2.bel.block k (zaB.1 hk).1 fun c=>?_).trans hk;obtain⟨cs,t,fz,e⟩:=bK g1.gd c;have:=hd.cells k cs t fz (fun c=>c) e;rw[hk] at this;exact hc _ _ _ (Option.some.inj this)
 have nb:∀ k o,w1.heap[k]? = some o→(∀ cs t fz,o ≠ .cells cs t fz)→¬ bks S k:=fun k o hk hc c=>by
  obtain⟨cs,t,fz,e⟩:=bK h.gd c;rw[hk] at e;exact hc _ _ _ (Option.some.inj e)
 have cl:Cl (Mk S (fun k=>X.M k∨I k)) w1 (Mk S' (fun k=>X.M k∨I k)) w':=fun k cur t fz hk hw=>by
  have hlt:=(zaB.1 hw).1;refine⟨fun c=>?_,(keep k hlt (fun c=>hk (.inl c)) (fun e=>by subst e;rw[hl1] at hw;cases hw)).trans hw⟩;rcases c with c | c
  ·exact(n3 k (hS' k c)).elim (fun c=>by omega) fun c=>hk (.inl c)
  ·exact hk (.inr c)
 have tp:Tp w1 w':=(g2.bel.tape.trans hd.tape).trans g1.bel.tape;refine⟨nc3 l _ hl3 (by simp),nc3 b _ hb3 hδ',⟨g2.bel.os.trans (hd.os.trans g1.bel.os),tp,g2.bel.output.trans (hd.output.trans g1.bel.output),by omega,fun k cs t fz hk hw=>?_,fun k h1 h2 h3 h4=>keep k h2 (fun c=>h3 (.inl c)) h4,fun k hk=>?_,fun k hk=>?_⟩,?_⟩
 ·exact(keep k (zaB.1 hw).1 (fun c=>hk (.inl c)) (fun e=>by subst e;rw[hl1] at hw;cases hw)).trans hw
 ·rcases hk with c | c
  ·exact(n3 k (hS' k c)).elim .inr fun c => .inl (.inl c)
  ·exact .inl (.inr c)
 ·rcases hk with c | c
  ·exact g2.gd.ok k (.inl (hS' k c))
  ·exact g2.gd.ok k (.inr (.inl c))
 ·refine⟨⟨g2.bel.os.trans (hd.os.trans (g1.bel.os.trans h.bel.os)),tp.trans h.bel.tape,g2.bel.output.trans (hd.output.trans (g1.bel.output.trans h.bel.output)),by have:=h.bel.size;omega,fun k hk hz=>?_⟩,g2.gd.sub hs,fun o ho k hk=>?_,fK hs g2.apt,⟨⟨fun x hx=>?_,h.mko.m.apart⟩,h.mko.n,fun l' e=>?_⟩,h.tm.mono cl,fun k hk c=>?_,h.lo,h.io,by have:=h.sz;omega,h.mlt,h.xn,fun k hk c=>g2.notM (hS' k hk) (.inl c),h.ok0,h.zm⟩
  ·have hkn:=zan hk h.xn;refine(keep k (zan hkn h.sz) (fun⟨o,ho,e⟩=>?_) (by omega)).trans (h.bel.block k hk hz);exact(h.new o ho k e).elim (fun c=>by omega) hz
  ·rcases n3 k (hS' k ⟨o,ho,hk⟩) with c | ⟨p,hp,e⟩
   ·exact .inl (by have:=h.sz;have:=h.xn;omega)
   ·exact h.new p hp k e
  ·obtain⟨c,h1,h2,h3⟩:=h.mko.m.at_ x hx;have hlt:=h.mlt.1 x hx c h1;exact⟨c,h1,h2,(keep c (zan hlt h.sz) (nb c _ h3.at_ (by simp)) (by omega)).trans h3.at_,h3.not⟩
  ·obtain⟨ρ2,h1⟩:=h.mko.o l' e;have hlt:=h.mlt.2 l' e;exact⟨ρ2,(keep l' (zan hlt h.sz) (nb l' _ h1 (by simp)) (by omega)).trans h1⟩
  ·rcases hk with d | d
   ·exact g2.notM (hS' k d) (.inr c)
   ·exact h.dis k (.inr d) c
theorem wG:∀ {S T:List Ow},Apt (S++T)→∀ o∈S,∀ b,o.bk=some b→∀ p∈T,p.bk≠some b
 | o::S,T,⟨h1,h2⟩,q,hq,b,hb,p,hp=>(zad.1 hq).elim (fun e=>h1 b (e ▸ hb) p (List.mem_append_right _ hp)) fun hq=>wG h2 q hq b hb p hp
theorem Cor.out {I0:Nat→Prop}{X:Cx}{Γ:TE}{S So:List Ow}{E:Env}{I:Nat→Prop}{w w':World}(h:Cor I0 X w.heap.size Γ S E I w')(g1:Gd (Mk So (Mk S X.M)) So w')(g2:Apt So)(g3:∀ b,bks So b→I b){r:Option Nat}(hm:∀ b,r=none→b=w.heap.size→w'.heap[b]? = some (.deferred (some []))) :
  St { X with ms:=kH r w++X.ms } Γ (So++S) E w':=by
 have cl:Cl (Mk S (fun k=>X.M k∨I k)) w' (Mk (So++S) X.M) w':=Cl.less fun k hk=>by
  rw[kT] at hk;rcases hk with c | c | c
  ·exact .inr (.inr (g3 k c))
  ·exact .inl c
  ·exact .inr (.inl c)
 rw[← kT] at g1;refine⟨⟨h.bel.os,h.bel.tape,h.bel.output,h.bel.size,h.bel.block⟩,⟨g1.ok,h.gd.tab.cl cl,fun o ho=>(zae.1 ho).elim (g1.own o) fun ho=>Ow.ok_mono (h.gd.own o ho) cl fun _ _ _=>rfl⟩,fun o ho b hb=>(zae.1 ho).elim (fun ho=>(h.lo b (g3 b ⟨o,ho,hb⟩)).elim (fun c => .inl (zac h.xn c)) fun c=>(h.io b c).1) fun ho=>h.new o ho b hb,
  nQ g2 h.apt fun o ho b hb p hp e=>h.dis b (.inl ⟨p,hp,e⟩) (g3 b ⟨o,ho,hb⟩),h.ok0,fun b hb=>h.zm b hb,⟨?_,h.mko.n,h.mko.o⟩,h.tm.mono cl⟩
 cases hr':r with
 | some l=>exact h.mko.m
 | none =>
  refine h.mko.m.cons (zac h.mko.n h.xn) ⟨hm _ hr' rfl,fun c=>c⟩ fun d hd c=>?_;have:=h.mlt.1 d hd _ c;omega
theorem St.cor {X:Cx}{Γ:TE}{S1 S:List Ow}{E:Env}{w:World}(h:St X Γ (S1++S) E w):Cor (bks S1) X w.heap.size Γ S E (bks S1) w:=by
 have e:Mk S (fun k=>X.M k∨bks S1 k)=Mk (S1++S) X.M:=by
  rw[kT];funext k;exact propext ⟨fun c=>c.elim (fun c => .inr (.inl c)) fun c=>c.elim (fun c => .inr (.inr c)) .inl,fun c=>c.elim (fun c => .inr (.inr c)) fun c=>c.elim .inl fun c => .inr (.inl c)⟩
 have hb:∀ k,bks S1 k→∃ cs t fz,w.heap[k]? = some (.cells cs t fz):=fun k ⟨o,ho,hk⟩=>bK h.gd ⟨o,zbJ _ ho,hk⟩;have hsub:=h.sub (List.sublist_append_right S1 S);refine⟨h.bel,⟨by rw[e];exact h.gd.ok,by rw[e];exact h.gd.tab,fun o ho=>by rw[e];exact h.gd.own o (List.mem_append_right _ ho)⟩,hsub.new,hsub.apt,h.mko,by rw[e];exact h.tm,fun k hk ⟨o,ho,hb⟩=>?_,fun _ c => .inr c,fun k ⟨o,ho,hk⟩=>⟨h.new o (zbJ _ ho) k hk,fun d hd c=>?_,fun c=>?_⟩,zab _,⟨fun d hd b hb=>by
  obtain⟨c,h1,_,h3⟩:=h.mko.m.at_ d hd;rw[h1] at hb;injection hb with hb;subst hb;exact(zaB.1 h3.at_).1,fun l hl=>let ⟨ρ,h1⟩:=h.mko.o l hl;(zaB.1 h1).1⟩,h.bel.size,fun b hb=>hsub.notM hb,h.ok0,h.zm⟩
 ·rcases hk with⟨p,hp,e2⟩ | c
  ·exact wG h.apt o ho k hb p hp e2
  ·exact h.notM ⟨o,zbJ _ ho,hb⟩ c
 ·obtain⟨b,h1,_,h3⟩:=h.mko.m.at_ d hd;rw[h1] at c;injection c with c;subst c;obtain⟨cs,t,fz,e3⟩:=hb b ⟨o,ho,hk⟩;rw[h3.at_] at e3;cases e3
 ·obtain⟨ρ,h1⟩:=h.mko.o k c;obtain⟨cs,t,fz,e3⟩:=hb k ⟨o,ho,hk⟩;rw[h1] at e3;cases e3
theorem zO0 {P:Program}{r:Option Nat}{N:Nat}{c:Code}{K K' Kr Kr':Pd}{Ke Ke':Nat→Pd}{D:List Deferred}{E:Env}{w:World}(h:Wp P r N c K Ke Kr D E w)(hk:∀ D E w,K D E w→K' D E w)(he:∀ i D E w,Ke i D E w→Ke' i D E w)(hr:∀ D E w,Kr D E w→Kr' D E w):Wp P r N c K' Ke' Kr' D E w:=by
 intro a ha hd;refine wpIn_mono (h a ha hd) fun e a' w' hq=>?_;cases e with
 | normal=>obtain⟨E',h1,h2⟩:=hq;exact⟨E',h1,hk _ _ _ h2⟩
 | exit id=>obtain⟨E',h1,h2⟩:=hq;exact⟨E',h1,he _ _ _ _ h2⟩
 | ret=>obtain⟨E',h1,h2⟩:=hq;exact⟨E',h1,hr _ _ _ h2⟩
 | goto l=>exact hq
 | panic c=>exact hq
 | outgrown=>exact hq
theorem kR {X:Cx}:∀ l,(none:Option Nat)=some l→X.lp=some l:=fun _ h=>by cases h
section
variable {P : Program} {r : Option Nat} {N : Nat} {X : Cx} {Kn Kr : TK} {Ke : Nat → TK} {Γ : TE} {S : List Ow}
theorem wU {fin:Prop}{α σ:Type}{fo:Operand}{ps:Array Tmp}{assign body:Code}{g:FuncId}{caps:List PV}{xs:List α}{τ:α→List PV}{qf:Prop}{Ψf:PV}{S1:List Ow}{Q:List Ow→Prop}(Sj:σ→List Ow)(J:List α→σ→Prop)(s0:σ)
  (hf:tv Γ fo=some (qf,Ψf)) [hq:Tr qf] [hv:VF Ψf g caps] (it:CItS fin P g caps S1 xs τ Q) (hτ:∀ x,(τ x).length=ps.toList.length) (hps:(ps.toList.all fun p=>Nat.blt p N)=true) (hr:∀ l,r=some l→X.lp=some l) (hfin:fin ∨ ∀ s,¬ J xs s) (h0:Ts X Γ S Γ (S1++Sj s0)) (hJ0:J [] s0)
  (round:∀ pre x post s,xs=pre++x::post→J pre s→∀(Y:Cx) (l:Nat),Y.lp=some l→TW P (some l) N Y assign
   (fun Z Γ' S'=>Z=Y∧∀ Y:Cx,Y.lp=some l→TW P (some l) N Y body (fun Z _ S3=>Exj Y Z fun s'=>(Sj s').Sublist S3∧J (pre++[x]) s') (fun id Z _ S3=>Exj Y Z fun s'=>(Sj s').Sublist S3∧∀ Y,(∀ {Z:Cx} [Eqx Z X],Eqx Z Y)→Ke id Y Γ (Sj s')) (fun Z _ S3=>Exj Y Z fun s'=>(Sj s').Sublist S3∧∀ Y,(∀ {Z:Cx} [Eqx Z X],Eqx Z Y)→Kr Y Γ (Sj s')) Γ' S')
   (fun _ _ _ _=>False) (fun _ _ _=>False) (rA Γ (ps.toList.zip (τ x))) (Sj s))
  (done:∀ s,J xs s→∀ So,Q So→∀ Y,(∀ {Z:Cx} [Eqx Z X],Eqx Z Y)→Kn Y Γ (So++Sj s)):TW P r N X (.rangeFunc fo ps assign body) Kn Ke Kr Γ S:=fun D E w hs=>by
 replace hs:=h0 E w hs;obtain⟨v,e1,h1⟩:=gR hs hf;obtain⟨cap,rfl,h2⟩:=hv.h h1;have hx:∀ ms,∀ {Z:Cx} [Eqx Z X],Eqx Z { X with ms:=ms }:=fun ms {Z} k=>k.trans ⟨ms,rfl⟩;refine wp_rangeg (M:=Mk (Sj s0) X.M) (I0:=bks S1) xs _ (yM1 Q) (cap:=cap.toArray) (by rw[e1]) it.bod (it.run _ w cap (by have:=hs.gd;rw[kT] at this;exact⟨this.ok,this.tab,fun o ho=>this.own o (zbJ _ ho)⟩) (fK (List.sublist_append_left _ _) hs.apt) (fun b ⟨o,ho,hb⟩ c=>c.elim (fun⟨p,hp,e⟩=>wG hs.apt o ho b hb p hp e) (hs.notM ⟨o,zbJ _ ho,hb⟩)) (fun k hk=>hs.gd.ok k (by rw[kT];exact .inr hk)) (by rw[kT] at h2;exact h2)) (fun k ⟨o,ho,hk⟩=>let ⟨_,_,_,e⟩:=bK hs.gd ⟨o,zbJ _ ho,hk⟩;(zaB.1 e).1) (fun C I w1 w2 ⟨So,f1,f2,f3,f4⟩ d=>⟨So,f1,⟨fun k hk=>zan (f2.ok k hk) d.size,f2.tab.cl (gK d),fun o ho=>Ow.ok_mono (f2.own o ho) (gK d) fun b hb hlt=>let ⟨_,_,_,e⟩:=jQ (f2.own o ho) b hb;(d.cells b _ _ _ (fun c=>c) e).trans e.symm⟩,f3,f4⟩) ?_ (fun x C w vs h=>by rw[h.len,hτ];simp) hps
  (fun C I pre w'=>∃ s,J pre s∧C=Mk (Sj s) X.M∧Cor (bks S1) X w.heap.size Γ (Sj s) E I w')
  (fun id I w'=>∃ s,(∀ Y,(∀ {Z:Cx} [Eqx Z X],Eqx Z Y)→Ke id Y Γ (Sj s))∧Cor (bks S1) X w.heap.size Γ (Sj s) E I w')
  (fun I w'=>∃ s,(∀ Y,(∀ {Z:Cx} [Eqx Z X],Eqx Z Y)→Kr Y Γ (Sj s))∧Cor (bks S1) X w.heap.size Γ (Sj s) E I w')
  (hfin.imp id fun h C I w ⟨s,k1,_⟩=>h s k1) ⟨s0,hJ0,rfl,hs.cor⟩ (fun C I I' pre w1 w2 ⟨s,k1,k2,k3⟩ d=>⟨s,k1,k2,k3.step d⟩) (fun id I I' w1 w2 ⟨s,k1,k3⟩ d=>⟨s,k1,k3.step d⟩) (fun I I' w1 w2 ⟨s,k1,k3⟩ d=>⟨s,k1,k3.step d⟩)
  (fun C I pre w' ⟨s,k1,k2,k3⟩=>⟨by subst k2;exact fun k hk=>k3.gd.ok k (hk.imp id .inl),fun k hk=>k3.dis k (by subst k2;exact hk)⟩) ?_
  (fun C I w' ⟨s,k1,k2,k3⟩ ⟨So,f1,f2,f3,f4⟩ hm=>⟨{ X with ms:=kH r w++X.ms },Γ,So++Sj s,by simp,done s k1 So f1 _ (hx _),k3.out (k2 ▸ f2) f3 f4 hm⟩)
  (fun id I w' ⟨s,k1,k3⟩ hm=>⟨{ X with ms:=kH r w++X.ms },Γ,Sj s,by simp,k1 _ (hx _),k3.out (So:=[]) ⟨fun k hk=>k3.gd.ok k (hk.elim (fun⟨_,h,_⟩=>absurd h zaY) (·.imp (fun c=>c) .inl)),k3.gd.tab.cl (Cl.less fun k hk=>hk.elim (fun⟨_,h,_⟩=>absurd h zaY) (·.imp (fun c=>c) .inl)),fun _ h=>absurd h zaY⟩ trivial (fun _ ⟨_,h,_⟩=>absurd h zaY) hm⟩)
  (fun I w' ⟨s,k1,k3⟩ hm=>⟨{ X with ms:=kH r w++X.ms },Γ,Sj s,by simp,k1 _ (hx _),k3.out (So:=[]) ⟨fun k hk=>k3.gd.ok k (hk.elim (fun⟨_,h,_⟩=>absurd h zaY) (·.imp (fun c=>c) .inl)),k3.gd.tab.cl (Cl.less fun k hk=>hk.elim (fun⟨_,h,_⟩=>absurd h zaY) (·.imp (fun c=>c) .inl)),fun _ h=>absurd h zaY⟩ trivial (fun _ ⟨_,h,_⟩=>absurd h zaY) hm⟩)
 ·cases r with
  | none=>trivial
  | some l0=>exact hs.mko.o l0 (hr l0 rfl)
 ·rintro C I pre x vs post l b w1 ρ δ hxs ⟨s,k1,rfl,k3⟩ hRl hnl hnb hIlb _ hl1 hb1 hδ;have st1:=k3.rnd (ps:=ps.toList) (τs:=τ x) (vs:=vs) (hτ x) hRl hl1;have nb1:∀ k (o:Obj),w1.heap[k]? = some o→(∀ cs t fz,o ≠ .cells cs t fz)→¬ bks (Sj s) k:=fun k o hk hc c=>by
   obtain⟨cs,t,fz,e⟩:=bK k3.gd c;rw[hk] at e;exact hc _ _ _ (Option.some.inj e)
  refine zO0 (round pre x post s hxs k1 _ l rfl [] _ w1 st1) ?_ (fun id D' E' w' ⟨_,_,_,_,h,_⟩=>h) (fun D' E' w' ⟨_,_,_,_,h,_⟩=>h);rintro D2 E2 w2 ⟨Z,Γ2,S2,rfl,⟨rfl,hbody⟩,g1⟩;refine⟨(g1.bel.block l (zaB.1 hl1).1 (nb1 l _ hl1 (by simp))).trans hl1,(g1.bel.block b (zaB.1 hb1).1 (nb1 b _ hb1 hδ)).trans hb1,rfl,fun w3 ρ' δ' hd ho hl3 hb3 hδ'=>?_⟩;have h3:=hbody _ rfl [] E2 w3 (g1.again hd hl3);refine zO0 h3 ?_ ?_ ?_
  ·rintro D' E' w' ⟨Z,Γ3,S3,rfl,hk,g2⟩;obtain⟨s',hs1,hs2⟩:=hk.ex;obtain⟨a1,a2,a3,a4⟩:=k3.aft hnl hl1 hb1 hδ g1 hd ho hl3 hb3 hδ' hk.eqx g2 hs1;exact⟨a1,a2,_,a3,s',hs2,rfl,a4⟩
  ·rintro id D' E' w' ⟨Z,Γ3,S3,rfl,hk,g2⟩;obtain⟨s',hs1,hs2⟩:=hk.ex;obtain⟨a1,a2,a3,a4⟩:=k3.aft hnl hl1 hb1 hδ g1 hd ho hl3 hb3 hδ' hk.eqx g2 hs1;exact⟨a1,a2,_,a3,s',hs2,a4⟩
  ·rintro D' E' w' ⟨Z,Γ3,S3,rfl,hk,g2⟩;obtain⟨s',hs1,hs2⟩:=hk.ex;obtain⟨a1,a2,a3,a4⟩:=k3.aft hnl hl1 hb1 hδ g1 hd ho hl3 hb3 hδ' hk.eqx g2 hs1;exact⟨a1,a2,_,a3,s',hs2,a4⟩
theorem wV {fin:Prop}{α σ:Type}{fo:Operand}{ps:Array Tmp}{assign body:Code}{g:FuncId}{caps:List PV}{xs:List α}{τ:α→List PV}{qf:Prop}{Ψf:PV}(Sj:σ→List Ow)(J:List α→σ→Prop)(s0:σ)
  (hf:tv Γ fo=some (qf,Ψf)) [hq:Tr qf] [hv:VF Ψf g caps] (it:CItF fin P g caps xs τ) (hτ:∀ x,(τ x).length=ps.toList.length) (hps:(ps.toList.all fun p=>Nat.blt p N)=true) (hr:∀ l,r=some l→X.lp=some l) (hfin:fin ∨ ∀ s,¬ J xs s) (h0:S=Sj s0) (hJ0:J [] s0)
  (round:∀ pre x post s,xs=pre++x::post→J pre s→∀(Y:Cx) (l:Nat),Y.lp=some l→TW P (some l) N Y assign
   (fun Z Γ' S'=>Z=Y∧∀ Y:Cx,Y.lp=some l→TW P (some l) N Y body (fun Z _ S3=>Exj Y Z fun s'=>(Sj s').Sublist S3∧J (pre++[x]) s') (fun id Z _ S3=>Exj Y Z fun s'=>(Sj s').Sublist S3∧∀ Y,(∀ {Z:Cx} [Eqx Z X],Eqx Z Y)→Ke id Y Γ (Sj s')) (fun Z _ S3=>Exj Y Z fun s'=>(Sj s').Sublist S3∧∀ Y,(∀ {Z:Cx} [Eqx Z X],Eqx Z Y)→Kr Y Γ (Sj s')) Γ' S')
   (fun _ _ _ _=>False) (fun _ _ _=>False) (rA Γ (ps.toList.zip (τ x))) (Sj s))
  (done:∀ s,J xs s→∀ Y,(∀ {Z:Cx} [Eqx Z X],Eqx Z Y)→Kn Y Γ (Sj s)):TW P r N X (.rangeFunc fo ps assign body) Kn Ke Kr Γ S :=
 wU Sj J s0 hf it hτ hps hr hfin (h0 ▸ fun _ _ h=>h) hJ0 round fun s h So e=>e ▸ done s h
theorem jZ {α σ:Type}{fo:Operand}{ps:Array Tmp}{assign body:Code}{g:FuncId}{caps:List PV}{xs:List α}{τ:α→List PV}{qf:Prop}{Ψf:PV}(Sj:σ→List Ow)(J:List α→σ→Prop)(s0:σ)
  (hf:tv Γ fo=some (qf,Ψf)) [hq:Tr qf] [hv:VF Ψf g caps] (it:CIt P g caps xs τ) (hτ:∀ x,(τ x).length=ps.toList.length) (hps:(ps.toList.all fun p=>Nat.blt p N)=true) (hr:∀ l,r=some l→X.lp=some l) (h0:S=Sj s0) (hJ0:J [] s0)
  (round:∀ pre x post s,xs=pre++x::post→J pre s→∀(Y:Cx) (l:Nat),Y.lp=some l→TW P (some l) N Y assign
   (fun Z Γ' S'=>Z=Y∧∀ Y:Cx,Y.lp=some l→TW P (some l) N Y body (fun Z _ S3=>Exj Y Z fun s'=>(Sj s').Sublist S3∧J (pre++[x]) s') (fun id Z _ S3=>Exj Y Z fun s'=>(Sj s').Sublist S3∧∀ Y,(∀ {Z:Cx} [Eqx Z X],Eqx Z Y)→Ke id Y Γ (Sj s')) (fun Z _ S3=>Exj Y Z fun s'=>(Sj s').Sublist S3∧∀ Y,(∀ {Z:Cx} [Eqx Z X],Eqx Z Y)→Kr Y Γ (Sj s')) Γ' S')
   (fun _ _ _ _=>False) (fun _ _ _=>False) (rA Γ (ps.toList.zip (τ x))) (Sj s))
  (done:∀ s,J xs s→∀ Y,(∀ {Z:Cx} [Eqx Z X],Eqx Z Y)→Kn Y Γ (Sj s)):TW P r N X (.rangeFunc fo ps assign body) Kn Ke Kr Γ S :=
 wV Sj J s0 hf it hτ hps hr (.inl trivial) h0 hJ0 round done
end
structure Yl (P:Program){α:Type}(xs:List α)(τ:α→List PV)(l:Nat)(YS:List α→Cx→Prop)(YX:Cx→Prop):Prop where
 y:∀ {pre:List α} {x:α} {post:List α} {X:Cx} {Γ:TE} {S:List Ow} {E:Env} {w:World} {vs:List Value},xs=pre++x::post→YS pre X→St X Γ S E w→Fa (τ x) (Mk S X.M) w vs →
  X.ms=[]∧YieldV P l vs w fun b w'=>∃ Y,St Y Γ S E w'∧Y.ms=[]∧((b=true∧YS (pre++[x]) Y)∨(b=false∧YX Y))
 raw:∃(n m:Nat) (J:(Nat→Prop)→(Nat→Prop)→List α→World→Prop) (Xx:(Nat→Prop)→World→Prop),l<n ∧
  (∀ C I I' pre w w',J C I pre w→n≤w.heap.size→Stp n I w I' w'→J C I' pre w')∧(∀ I I' w w',Xx I w→n≤w.heap.size→Stp n I w I' w'→Xx I' w')∧(∀ C I pre w,J C I pre w→OkM C w∧∀ k,C k→¬ I k) ∧
  (∀ C I pre x vs post w,xs=pre++x::post→J C I pre w→Fa (τ x) (fun k=>C k∨I k) w vs→n≤w.heap.size→YieldV P l vs w fun b w'=>n≤w'.heap.size∧∃ C',Rnd n l C w C' w'∧((b=true∧J C' I (pre++[x]) w')∨(b=false∧Xx I w'))) ∧
  (∀ pre X,YS pre X↔J X.M X.z pre X.w∧n≤X.w.heap.size∧m≤X.w.heap.size∧X.ms=[]∧X.lp=none)∧∀ X,YX X↔Xx X.z X.w∧n≤X.w.heap.size∧X.ms=[]∧X.lp=none
theorem zQ3 {n:Nat}{X:Cx}{Γ:TE}{S:List Ow}{E:Env}{w:World}(h:St X Γ S E w)(hn:n≤X.w.heap.size):Stp n X.z X.w (bks S) w :=
 ⟨h.bel.os,h.bel.tape,h.bel.output,h.bel.size,fun k cs t fz hk hc=>(h.bel.block k (zaB.1 hc).1 hk).trans hc,fun k hk hz=>h.bel.block k (by omega) hz,fun k ⟨o,ho,e⟩=>(h.new o ho k e).elim (fun c => .inr ⟨c,h.gd.ok k (.inl ⟨o,ho,e⟩)⟩) .inl⟩
theorem St.yielded {X:Cx}{Γ:TE}{S:List Ow}{E:Env}{n l m:Nat}{w w':World}{C':Nat→Prop}(h:St X Γ S E w)(d:Rnd n l X.M w C' w')(hm:m≤w'.heap.size):St ⟨C',w',bks S,m,[],none⟩ Γ S E w':=by
 have cl:Cl (Mk S X.M) w (Mk S C') w':=fun k cur t fz hk hw=>by
  have hlt:=(zaB.1 hw).1;refine⟨fun c=>?_,d.cells k _ _ _ (fun c=>hk (.inr c)) hw⟩;rcases c with c | c
  ·exact hk (.inl c)
  ·exact(d.new k c).elim (fun c=>hk (.inr c)) fun c=>by omega
 refine⟨⟨rfl,Tp.refl _,rfl,zab _,fun _ _ _=>rfl⟩,⟨fun k hk=>?_,h.gd.tab.cl cl,fun o ho=>?_⟩,fun o ho b hb => .inr ⟨o,ho,hb⟩,h.apt,d.ok,fun b hb c=>?_,⟨uH,hm,fun _ e=>by cases e⟩,h.tm.mono cl⟩
 ·rcases hk with c | c
  ·exact zan (h.gd.ok k (.inl c)) d.size
  ·exact d.ok k c
 ·refine Ow.ok_mono (h.gd.own o ho) cl fun b hb hlt=>?_;obtain⟨cs,t,fz,e⟩:=jQ (h.gd.own o ho) b hb;exact(d.cells b cs t fz (h.notM ⟨o,ho,hb⟩) e).trans e.symm
 ·rcases d.new b c with c | c
  ·exact h.notM hb c
  ·have:=h.gd.ok b (.inl hb);omega
theorem citS {fin:Prop}{P:Program}{f:FuncId}{fn:Func}{c:Code}{N:Nat}{caps:List PV}{α:Type}{xs:List α}{τ:α→List PV}{S1:List Ow}{Q:List Ow→Prop}(hf:P.funcs[f]? = some fn)(hb:fn.body=some c)(hn:fn.ntmps=N)(hN:Nat.ble (caps.length+1) N=true)
    (hnm:(fn.name == "runtime.NumGoroutine")=false) (hrs:fn.results.toList=[]) (h:∀ (X:Cx) (l:Nat) (YS:List α→Cx→Prop) (YX:Cx→Prop),Yl P xs τ l YS YX→(fin ∨ ∀ Z,¬ YS xs Z)→YS [] X →
      TW P none N X c (fun Z Γ S=>(YS xs Z∧∃ So,Q So∧Ts Z Γ S [] So)∨YX Z) (fun _ _ _ _=>False) (fun Z Γ S=>(YS xs Z∧∃ So,Q So∧Ts Z Γ S [] So)∨YX Z) (par 0 (exP (.func (.yield l) #[] #[])::caps)) S1):CItS fin P f caps S1 xs τ Q:=by
  refine⟨⟨fn,hf,by rw[hb];rfl,hnm⟩,fun M w0 cap hG hA hS1 hM hc n l w J Xx h0 h1 hln hd hfi hJ hJd hXd hdis hy=>?_⟩;have hsz:w0.heap.size≤w.heap.size:=hd.size
  let X0:Cx:=⟨M,w,bks S1,w.heap.size,[],none⟩
  have hs:St X0 (par 0 (exP (.func (.yield l) #[] #[])::caps)) S1 (env0 0 (.func (.yield l) #[] #[]::cap)) w :=
    ⟨⟨rfl,Tp.refl _,rfl,zab _,fun _ _ _=>rfl⟩,⟨fun k hk=>zan (hG.ok k hk) hsz,hG.tab.cl (gK hd),fun o ho=>Ow.ok_mono (hG.own o ho) (gK hd) fun b hb hlt=>let ⟨_,_,_,e⟩:=jQ (hG.own o ho) b hb;(hd.cells b _ _ _ (fun c=>c) e).trans e.symm⟩,fun o ho b hb => .inr ⟨o,ho,hb⟩,hA,fun k hk=>zan (hM k hk) hsz,hS1,⟨uH,zab _,fun _ e=>by cases e⟩,vE ⟨_,_,rfl,rfl,hc.mono (gK hd)⟩⟩
  let YS:List α→Cx→Prop:=fun pre X=>J X.M X.z pre X.w∧n≤X.w.heap.size∧w.heap.size≤X.w.heap.size∧X.ms=[]∧X.lp=none
  let YX:Cx→Prop:=fun X=>Xx X.z X.w∧n≤X.w.heap.size∧X.ms=[]∧X.lp=none
  have hYl:Yl P xs τ l YS YX:=⟨fun {pre x post X Γ S E w1 vs} hx ⟨k1,k2,k2',k3,k4⟩ st hv=>⟨k3,by
    have hst:=zQ3 st k2;have hJ1:=hJd _ _ _ _ _ _ k1 k2 hst;have hsw:X.w.heap.size≤w1.heap.size:=st.bel.size;have hv2:Fa (τ x) (fun k=>X.M k∨bks S k) w1 vs:=hv.mono (Cl.less fun k hk=>hk.symm);refine(hy _ _ pre x vs post w1 hx hJ1 hv2 (zac k2 hsw)).mono ?_;rintro b w' ⟨g1,C',g2,g3⟩;have hs2:w.heap.size≤w'.heap.size:=zac (zac k2' hsw) g2.size;refine⟨⟨C',w',bks S,w.heap.size,[],none⟩,st.yielded g2 hs2,rfl,?_⟩;rcases g3 with⟨e,g3⟩ | ⟨e,g3⟩
    · exact .inl ⟨e,g3,g1,hs2,rfl,rfl⟩
    · exact .inr ⟨e,g3,g1,rfl,rfl⟩⟩,n,w.heap.size,J,Xx,hln,hJd,hXd,hdis,hy,fun _ _=>Iff.rfl,fun _=>Iff.rfl⟩
  have h1:=h X0 l YS YX hYl (hfi.imp id fun h Z k=>h _ _ _ k.1) ⟨hJ,h1,zab _,rfl,rfl⟩ [] _ w hs;have hl:(.func (.yield l) #[] #[]::cap:List Value).length=caps.length+1:=by simp[hc.len]
  refine aM hf hb hn (by rw[hl];exact hN) ?_;have hfin:∀ D E w',lf (fun Z Γ S=>(YS xs Z∧∃ So,Q So∧Ts Z Γ S [] So)∨YX Z) [] D E w'→Fin P fn.results.toList (fun v w'=>(∃ C I,J C I xs w'∧yM1 Q C I w') ∨ ∃ I,Xx I w') D E w':=by
    rintro _ E w' ⟨X,Γ,S,rfl,hk,h4⟩;rw[hrs];rcases hk with⟨⟨k1,k2,_,k3,k4⟩,So,q1,q2⟩ | ⟨k1,k2,k3,k4⟩
    · have h5:=q2 _ _ h4;rw[k3];exact lW ⟨[],trivial,.inl ⟨_,_,hJd _ _ _ _ _ _ k1 k2 (zQ3 h5 k2),So,q1,h5.gd,h5.apt,fun _ h=>h⟩⟩
    · rw[k3];exact lW ⟨[],trivial,.inr ⟨_,hXd _ _ _ _ k1 k2 (zQ3 h4 k2)⟩⟩
  intro a ha hd;refine wpIn_mono (h1 a ha hd) fun e a' w' hq=>?_;cases e with
  | normal=>obtain⟨E',h1,h2⟩:=hq;exact⟨E',h1,hfin _ _ _ h2⟩
  | exit id=>obtain⟨E',h1,_,_,_,_,h2,_⟩:=hq;exact h2.elim
  | ret=>obtain⟨E',h1,h2⟩:=hq;exact⟨E',h1,hfin _ _ _ h2⟩
  | goto l=>exact hq
  | panic c=>exact hq
  | outgrown=>exact hq
theorem citF {fin:Prop}{P:Program}{f:FuncId}{fn:Func}{c:Code}{N:Nat}{caps:List PV}{α:Type}{xs:List α}{τ:α→List PV}(hf:P.funcs[f]? = some fn)(hb:fn.body=some c)(hn:fn.ntmps=N)(hN:Nat.ble (caps.length+1) N=true)
    (hnm:(fn.name == "runtime.NumGoroutine")=false) (hrs:fn.results.toList=[]) (h:∀ (X:Cx) (l:Nat) (YS:List α→Cx→Prop) (YX:Cx→Prop),Yl P xs τ l YS YX→(fin ∨ ∀ Z,¬ YS xs Z)→YS [] X →
      TW P none N X c (fun Z _ _=>YS xs Z∨YX Z) (fun _ _ _ _=>False) (fun Z _ _=>YS xs Z∨YX Z) (par 0 (exP (.func (.yield l) #[] #[])::caps)) []):CItF fin P f caps xs τ :=
  have e:∀(p q:Prop) Z Γ S,p∨q→(p∧∃ So,So=[]∧Ts Z Γ S [] So)∨q:=fun p q Z Γ S h=>h.imp (fun h=>⟨h,[],rfl,fun E w h=>⟨h.bel,(h.sub (List.nil_sublist _)).gd,by simp,trivial,h.ok0,h.zm,h.mko,fun t q h=>by cases h⟩⟩) id
  citS hf hb hn hN hnm hrs fun X l YS YX a b c D E w hs=>zO0 (h X l YS YX a b c D E w hs) (fun D E w ⟨Z,Γ,S,h1,h2,h3⟩=>⟨Z,Γ,S,h1,e _ _ _ _ _ h2,h3⟩) (fun _ _ _ _ h=>h) fun D E w ⟨Z,Γ,S,h1,h2,h3⟩=>⟨Z,Γ,S,h1,e _ _ _ _ _ h2,h3⟩
theorem cit {P:Program}{f:FuncId}{fn:Func}{c:Code}{N:Nat}{caps:List PV}{α:Type}{xs:List α}{τ:α→List PV}(hf:P.funcs[f]? = some fn)(hb:fn.body=some c)(hn:fn.ntmps=N)(hN:Nat.ble (caps.length+1) N=true)
    (hnm:(fn.name == "runtime.NumGoroutine")=false) (hrs:fn.results.toList=[]) (h:∀ (X:Cx) (l:Nat) (YS:List α→Cx→Prop) (YX:Cx→Prop),Yl P xs τ l YS YX→YS [] X →
      TW P none N X c (fun Z _ _=>YS xs Z∨YX Z) (fun _ _ _ _=>False) (fun Z _ _=>YS xs Z∨YX Z) (par 0 (exP (.func (.yield l) #[] #[])::caps)) []):CIt P f caps xs τ :=
  citF hf hb hn hN hnm hrs fun X l YS YX a _ b=>h X l YS YX a b
section
variable {P : Program} {r : Option Nat} {N : Nat} {X : Cx} {Kn Kr : TK} {Ke : Nat → TK} {Γ : TE} {S : List Ow} {ops : Array Oper} {K : TK}
theorem t_loopY {σ:Type}{body:Code}(Γi:σ→TE)(Si:σ→List Ow)(G:σ→Cx→Prop)(μ:σ→Nat)(s0:σ)(h0:Ts X Γ S (Γi s0) (Si s0))(hJ:G s0 X)
  (round:∀ s Y,G s Y→TW P r N Y body (fun Z Γ' S'=>∃ s',Ts Z Γ' S' (Γi s') (Si s')∧G s' Z∧μ s'<μ s) Ke Kr (Γi s) (Si s)):TW P r N X (.loop body) Kn Ke Kr Γ S:=fun D E w hs=>by
 refine wJ (fun s D' E' w'=>∃ Y,D'=Y.ms++D∧G s Y∧St Y (Γi s) (Si s) E' w') μ s0 ⟨X,rfl,hJ,h0 E w hs⟩ fun s D' E' w' ⟨Y,hD,h1,h2⟩=>?_;subst hD;exact tQ (round s Y h1 D E' w' h2) fun D2 E2 w2 ⟨Z,Γ2,S2,e,⟨s',k1,k2,k3⟩,k4⟩=>⟨s',⟨Z,e,k2,k1 _ _ k4⟩,k3⟩
theorem tT {t:Nat}:∀ {xs:List Operand} {q:Prop} {l:List PV},tvs Γ xs=some (q,l) → .tmp t∈xs→t∈Γ.map (·.1)
 | [],_,_,_,h=>by simp at h
 | y::ys,q,l,hy,hm=>by
  unfold tvs at hy;cases h3:tv Γ y with
  | none=>rw[h3] at hy;cases hy
  | some a =>
   cases h4:tvs Γ ys with
   | none=>rw[h3,h4] at hy;cases hy
   | some b =>
    rcases zad.1 hm with rfl | hm
    ·exact dG h3
    ·exact tT h4 hm
theorem gM {α:Type}{xs:List α}{τ:α→List PV}{y:Nat}{YS:List α→Cx→Prop}{YX:Cx→Prop}{pre post:List α}{x:α}{d:Nat}{fo:Operand}{azz:List Operand}{ts:Array TypeId}{t':TypeId}{pos:String}{af:Array Edge}{l:List Oper}{q q':Prop}{τs:List PV}(hY:Yl P xs τ y YS YX)(hS:YS pre X)(hx:xs=pre++x::post)
  (hf:tv Γ fo=some (q,exP (.func (.yield y) #[] #[]))) (ha:tvs Γ azz=some (q',τs)) [Tr q] [hq':Tr q'] (hτ:∀ M w vs,Fa τs M w vs→Fa (τ x) M w vs)
  (h1:∀ Y,YS (pre++[x]) Y→TO P r N ops Y K l ((d,True,exP (.bool true))::Γ) S) (h2:∀ Y,YX Y→TO P r N ops Y K l ((d,True,exP (.bool false))::Γ) S) :
  TO P r N ops X K (⟨some d,.call ⟨.value fo,azz.toArray,ts⟩,t',pos,af,none⟩::l) Γ S:=fun hN D E w hs=>by
 unfold okN at hN;simp only[zaX,zaq] at hN;obtain⟨u,e1,h3⟩:=gR hs hf;obtain rfl:u=_:=h3;obtain⟨vs,e2,h4⟩:=gU (hs.tm.tm (Γ.map (·.1))) ha hq'.h fun x hxm t e=>by subst e;exact tT ha hxm
 obtain⟨hms,hy⟩:=hY.y hx hS hs (hτ _ _ _ h4);refine rW hN.1 e1 e2 (hy.mono ?_);rintro b w' ⟨Y,k1,k2,⟨rfl,k3⟩ | ⟨rfl,k3⟩⟩
 ·have:=h1 Y k3 hN.2 D _ w' (k1.put (xI _) (fun _=>rfl) (fun c=>absurd trivial c));rw[k2] at this;rw[hms];exact this
 ·have:=h2 Y k3 hN.2 D _ w' (k1.put (xI _) (fun _=>rfl) (fun c=>absurd trivial c));rw[k2] at this;rw[hms];exact this
end
section
variable {P : Program} {r : Option Nat} {N : Nat} {X : Cx} {K : TK} {Γ : TE} {S : List Ow} {ops : Array Oper} {q qx qy : Prop} {x y : Operand} {t t' : TypeId} {pos : String} {af : Array Edge} {l : List Oper}
theorem tsw {b o k:Nat}{ty e:TypeId}{v:Value}{cs A B B1 B2 cr:List CT}{a:Bool}{sz:Nat}(i j:Nat)(hi:S[i]? = some (.blk b ty cs))(hj:S[j]? = some (.row v e k cr))(hx:tv Γ x=some (qx,zU b o))(hy:tv Γ y=some (qy,exP v))[Tr qx][Tr qy][ht:TLd P t a sz]
  (hs:Nat.beq 1 sz=true) (hA:cutT cs o=some (A,B)) (hB:cutT B 1=some (B1,B2)) (h:TO P r N ops X K l Γ (S.set i (.blk b ty (A++xc v::B2)))) :
  TO P r N ops X K (⟨none,.store t x y,t',pos,af,none⟩::l) Γ S:=fun hN D E w hst=>by
 have hv:v.oneCell'=true:=by
  obtain⟨us,⟨_,h1⟩,_⟩:=hst.gd.own _ (zam hj);rcases h1 with⟨rfl,_⟩ | ⟨g,cap,cur,rfl,_⟩<;>rfl
 have hc:CtOf (exP v) (xc v):=⟨fun h=>⟨[v],by rw[show _=v from h];exact yL4 hv,rfl,hv⟩⟩;exact tst i hi hx hy (hc:=hc) hs hA hB h hN D E w hst
end
theorem mQ:∀ M w vs,Fa [] M w vs→(tu []).p M w (gW vs):=fun M w vs h=>by rw[show vs=[] from h];exact⟨[],rfl,rfl⟩
section
variable {Γ Γ' A B : TE} {S S' : List Ow} {X : Cx}
theorem tk (s:Nat){q:Prop}{Ψ:PV}(h:tf Γ s=some (q,Ψ))[Tr q](k:Tsub Γ Γ'):Tsub Γ ((s,True,Ψ)::Γ'):=tc h (PSub.refl _) k
theorem oC (h:Tsub Γ A)(k:Tsub Γ B):Tsub Γ (A++B):=fun s q hs=>by
 rw[qC] at hs;cases ha:tf A s with
 | some a=>rw[ha] at hs;exact h s q (by rw[ha];exact hs)
 | none=>rw[ha] at hs;exact k s q hs
theorem te (h:Tsub Γ A)(k:Tsub Γ B)(e:S=S'):Ts X Γ S (A++B) S':=fN (oC h k) e
theorem tes (h:Tsub Γ A)(k:Tsub Γ B)(e:S'.Sublist S):Ts X Γ S (A++B) S':=fun E w hs=>fN (oC h k) rfl E w (hs.sub e)
variable {P : Program} {r : Option Nat} {N : Nat} {Kn Kr : TK} {Ke : Nat → TK}
theorem yZ {σ:Type}{body:Code}(A:σ→TE)(Si:σ→List Ow)(J:σ→Prop)(μ:σ→Nat)(s0:σ)(hk:Tsub Γ B)(h0:Tsub Γ (A s0))(hS:S=Si s0)(hJ:J s0)
  (round:∀ s,J s→∀ Y,(∀ {Z:Cx} [Eqx Z X],Eqx Z Y)→TW P r N Y body (fun Z Γ' S'=>Exj X Z fun s'=>Ts Z Γ' S' (A s'++B) (Si s')∧J s'∧μ s'<μ s) Ke Kr (A s++B) (Si s)):TW P r N X (.loop body) Kn Ke Kr Γ S :=
 yD1 (fun s=>A s++B) Si J μ s0 (te h0 hk hS) hJ round
theorem kD {c:Operand}{x y:Code}{q:Prop}{Ψ:PV}{b:Bool}(hx:tv Γ c=some (q,Ψ))[Tr q][hb:VB Ψ b](e:b=true)(ht:TW P r N X x Kn Ke Kr Γ S):TW P r N X (.cond c x y) Kn Ke Kr Γ S:=t_if hx (fun _=>ht) fun h=>absurd h.h (by simp[e])
theorem gZ {c:Operand}{x y:Code}{q:Prop}{Ψ:PV}{b:Bool}(hx:tv Γ c=some (q,Ψ))[Tr q][hb:VB Ψ b](e:b=false)(ht:TW P r N X y Kn Ke Kr Γ S):TW P r N X (.cond c x y) Kn Ke Kr Γ S:=t_if hx (fun h=>absurd h.h (by simp[e])) fun _=>ht
theorem dI {σ:Type}{body:Code}(A:σ→TE)(Si:σ→List Ow)(G:σ→Cx→Prop)(μ:σ→Nat)(s0:σ)(hk:Tsub Γ B)(h0:Tsub Γ (A s0))(hS:S=Si s0)(hG:G s0 X)
  (round:∀ s Y,G s Y→TW P r N Y body (fun Z Γ' S'=>∃ s',Ts Z Γ' S' (A s'++B) (Si s')∧G s' Z∧μ s'<μ s) Ke Kr (A s++B) (Si s)):TW P r N X (.loop body) Kn Ke Kr Γ S :=
 t_loopY (fun s=>A s++B) Si G μ s0 (te h0 hk hS) hG round
theorem zO6 {σ:Type}{c:Code}(A:σ→TE)(Sj:σ→List Ow)(J:σ→Prop)(hk:Tsub Γ B)(h:Tsub Γ B→TW P r N X c (fun Y Γ' S'=>Exj X Y fun s=>Ts Y Γ' S' (A s++B) (Sj s)∧J s) Ke Kr Γ S)(hn:∀ s,J s→∀ Y,(∀ {Z:Cx} [Eqx Z X],Eqx Z Y)→Kn Y (A s++B) (Sj s)):TW P r N X c Kn Ke Kr Γ S :=
 yD2 (fun s=>A s++B) Sj J (h hk) hn
end
end Go.SL
namespace Go.SL
open Go.RowKit Go.Shelf Go.Proofs Go.Sort
theorem bod_enter {P:Program}{g:Nat}(h:Bod P g)(args:Array Value)(w:World):(callFunc g args).run P w = .ok (.enter g args) w:=by
  obtain⟨fn,h1,h2,h3⟩:=h;have h2':fn.body≠none:=fun c=>by rw[c] at h2;cases h2
  have h3':fn.name ≠ "runtime.NumGoroutine":=fun c=>by rw [c] at h3; simp at h3
  simp[callFunc,h1,h2',h3']
theorem yC3 {α:Type}[Inhabited α]{P:Program}{ρ:Ren}{f:α→CT}{k g fs:Nat}{ty:TypeId}{cf:α→α→Int}{v:Value}{l:List α}(L:SlLaysF0.n6 P ρ)(hfs:ρ.f 6=fs)(aE:∀ w,(isAgg (ρ.t 24)).run P w = .ok true w)(zE:∀ w,(Go.sizeOf (ρ.t 24)).run P w = .ok k w)(hsz:∀ a,(f a).sz=k)(hO:SWO (ltOf cf))(hb:Bod P fs)
    (hc:∀ x y,CTy P g [ag (f x),ag (f y)] (exP (.int .i64 (cf x y)))) (hl:l.length≤1000000) :
    CTo P fs [exP v,exP (.func (.func g) #[] #[])] [.row v ty k (l.map f)] (fun r So=>r=tu []∧∃ l':List α,l'.Perm l∧(∀ i j,i<j→j<l'.length→¬ cf l'[j]! l'[i]! < 0)∧So=[.row v ty k (l'.map f)]):=by
  subst hfs;refine⟨hb,fun M w vs hG hA hZ hM hv=>?_⟩;obtain⟨v',_,rfl,hv1,_,_,rfl,rfl,rfl⟩:=hv;obtain rfl:v=v':=(show v'=v from hv1).symm;have hS:Ow.row v ty k (l.map f)∈[Ow.row v ty k (l.map f)]:=by simp
  obtain⟨us,g1,g2,g3⟩:=hG.own _ hS;rw[zar] at g1;by_cases h0:0<l.length
  · obtain⟨b,cap,cur,rfl,hw,hnc,hcm,hcs,htk⟩:=dR g1 h0;have hul:us.length=l.length*k:=g1.1;have hm:Mk [Ow.row (.slice (some ⟨b,0,none⟩) l.length cap) ty k (l.map f)] M b:=.inl ⟨_,hS,rfl⟩;have hbk:∀ i,bks [Ow.row (.slice (some ⟨b,0,none⟩) l.length cap) ty k (l.map f)] i↔i=b:=fun i=>by simp[bks,Ow.bk,Value.ownBlock];exact eq_comm
    have hE:EB (fun M w (a:α) us=>(f a).p M w us) k (Mk [Ow.row (.slice (some ⟨b,0,none⟩) l.length cap) ty k (l.map f)] M) w cur.toList l:=by
      refine ⟨by have : cur.toList.length = cap * k := by simpa using hcs
                 rw[this];exact zaU k hnc,fun i a ha=>?_⟩
      have hi:=(zaL.1 ha).1;have h4:=fR g2 (i:=i) (c:=f a) (by rw[zbQ,ha];rfl);rw[uQ g3 (by rw[zar];omega),hsz] at h4;refine⟨_,((f a).len h4).trans (hsz a),fun q u hq=>?_,h4⟩;rw[zaN] at hq;split at hq
      · rw[List.getElem?_drop,← htk,zaN] at hq;split at hq
        · exact hq
        · cases hq
      · cases hq
    have hs:=sort_row (g:=g) (k:=k) (b:=b) (cap:=cap) (te:=ty) (Fz:=fun i=>i≠b) (M:=Mk [Ow.row (.slice (some ⟨b,0,none⟩) l.length cap) ty k (l.map f)] M) (w:=w) (cur:=cur.toList) (l:=l) (cf:=cf) L aE zE (bod_enter (hc default default).bod) hO
      (fun a us h=>(f a).one h) hm (fun c=>c rfl) (fun W hle a us h=>(f a).mono h hle.cl)
      (fun W hle x y us vs h1 h2=>(hc x y).run _ W [.agg us.toArray,.agg vs.toArray] (fun i hi=>zan (hG.ok i hi) hle.size) (hG.tab.cl hle.cl) ⟨_,_,rfl,⟨us,rfl,h1⟩,_,_,rfl,⟨vs,rfl,h2⟩,rfl⟩)
      (show Blk w b ty cur.toList by unfold Blk;simpa using hw) hE h0 (by omega)
    refine hs.mono ?_;rintro e w' ⟨rfl,cur',l',hp,hso,hcl,B',hE',hle⟩;have hll:=hp.length_eq;have hmk:Mk [Ow.row (.slice (some ⟨b,0,none⟩) l.length cap) ty k (l'.map f)] M=Mk [Ow.row (.slice (some ⟨b,0,none⟩) l.length cap) ty k (l.map f)] M:=by
      funext i;simp[Mk,Ow.bk]
    refine⟨_,rfl,⟨hle.os,hle.tape,hle.output,hle.size,fun i hi hz=>hle.frz i hi fun c=>hz ((hbk i).2 c)⟩,tu [],_,⟨rfl,l',hp,hso,rfl⟩,⟨by rw[hmk];exact fun i hi=>zan (hG.ok i hi) hle.size,by rw[hmk];exact hG.tab.cl hle.cl,fun o ho=>?_⟩,⟨fun _ _ p hp=>by simp at hp,trivial⟩,fun i hi => .inr (by
      obtain⟨o,ho,e⟩:=hi;obtain rfl:=zak.1 ho;exact⟨_,hS,e⟩),⟨[],rfl,rfl⟩⟩
    obtain rfl:=zak.1 ho;rw[hmk];have hcl2:cur'.length=cap*k:=by rw[hcl];simpa using hcs
    refine⟨cur'.take (l'.length*k),?_,zO8 (k:=k) (R:=fun M w (a:α) us=>(f a).p M w us) (fun a us _ h=>h) (by rw[zaE,hcl2];have:=zaU k (show l'.length≤cap by omega);omega) (fun i a ha=>?_),fun c hc=>by obtain⟨a,_,rfl⟩:=zai.1 hc;exact hsz a⟩
    · rw[zar,hll];refine⟨by rw[List.length_take,hcl2];have:=Nat.mul_le_mul_right k hnc;omega,.inr ⟨b,cap,cur'.toArray,rfl,Nat.zero_le _,by have:=B'; unfold Blk at this;simpa using this,hnc,hcm,by simpa using hcl2,by simp⟩⟩
    · obtain⟨vs,k1,k2,k3⟩:=hE'.at_ i a ha;refine⟨vs,k1,fun q u hq=>?_,k3⟩;have hq':q<k:=k1 ▸ (zaL.1 hq).1;have:=mul_in (k:=k) (zaL.1 ha).1;rw[zaN,if_pos (by omega)];exact k2 q u hq
  · have hl0:l=[]:=zcv.1 (by omega);subst hl0;obtain⟨ad,cap,rfl⟩:∃ ad cap,v = .slice ad 0 cap:=by
      obtain⟨_,⟨rfl,_⟩ | ⟨g,cap,cur,rfl,_⟩⟩:=g1
      · exact⟨_,_,rfl⟩
      · exact⟨_,_,rfl⟩
    refine(AnyF.slices_SortFunc_none L ad cap _ w).mono ?_;rintro e w' ⟨rfl,rfl⟩;exact⟨_,rfl,⟨rfl,Tp.refl _,rfl,zab _,fun _ _ _=>rfl⟩,tu [],_,⟨rfl,[],.refl _,fun i j _ h=>by simp at h,rfl⟩,hG,hA,fun i hi => .inr hi,⟨[],rfl,rfl⟩⟩
end Go.SL
namespace Go.SL
open Go.RowKit
def sP (v:Value)(k j:Nat):PV:=⟨fun _ _ u=>∃ g n c,v = .slice (some ⟨g,0,none⟩) n c∧u = .slice (some ⟨g,j*k,none⟩) (n-j) (c-j),fun h _=>h⟩
def anyC (k:Nat):CT:=⟨k,fun _ _ cs=>cs.length=k∧∀ u∈cs,u.oneCell'=true,fun h=>h.1,fun h=>h.2,fun h _=>h⟩
theorem zU2 {k:Nat}{M:Nat→Prop}{w:World}:∀ {m:Nat} {us:List Value},us.length=m*k→(∀ u∈us,u.oneCell'=true)→stp (List.replicate m (anyC k)) M w us
 | 0,us,h,_=>by have:us=[]:=List.length_eq_zero_iff.1 (by simpa using h);exact this
 | m+1,us,h,h1=>by
  rw[zco] at h;exact⟨us.take k,us.drop k,(zbb k us).symm,⟨by rw[zaE];omega,fun u hu=>h1 u (zbc hu)⟩,zU2 (by rw[zaV];omega) fun u hu=>h1 u (zbB hu)⟩
section
variable {P : Program} {r : Option Nat} {N : Nat} {X : Cx} {K : TK} {Γ : TE} {S : List Ow} {ops : Array Oper} {M : Nat → Prop} {p q qx qy qi : Prop} {Ψ Ψx Ψy Ψi : PV} {d : Nat} {x y ix lo : Operand} {t t' : TypeId} {pos : String} {af : Array Edge} {l : List Oper}
variable {v : Value} {ty e : TypeId} {k bytes : Nat} {cs : List CT} {c : CT}
theorem osv {ki:IntKind}{a:Int}(i j:Nat)(hi:S[i]? = some (.row v ty k cs))(hx:tv Γ x=some (qx,exP v))(hy:tv Γ lo=some (qy,Ψy))[Im p qx][Im p qy][ht:TSl P t e k bytes][hki:VI Ψy ki a](hij:p→a=(j:Int))(hj:p→j<cs.length) :
  Ob P r N ops M S p ⟨some d,.slice t x (some lo) none none,t',pos,af,none⟩ Γ (sP v k j):=fun D E w d' hd hN hg hp hT=>by
 obtain rfl:=Option.some.inj hd;obtain⟨u,e1,h1⟩:=yL hT hx hp (by simp[Op.operands]);obtain rfl:u=v:=h1;obtain⟨u2,e2,h2⟩:=yL hT hy hp (by simp[Op.operands]);rw[hki.h h2,hij hp] at e2;obtain⟨us,g1,g2,g3⟩:=hg.own _ (zam hi);have hjl:=hj hp;obtain⟨g,cap,cur,rfl,_,hnc,_⟩:=dR g1 (by omega);obtain⟨z,hz,_⟩:=ht.s;exact ops_slicelo j hN ht.u hz e1 e2 hjl hnc (fin ⟨g,_,_,rfl,rfl⟩)
theorem olv {j:Nat}(i:Nat)(hx:tv Γ x=some (qx,sP v k j))[Im p qx](hi:S[i]? = some (.row v ty k cs))[ht:TSl P t e k bytes]:Ob P r N ops M S p ⟨some d,.call ⟨.builtin .len,#[x],#[t]⟩,t',pos,af,none⟩ Γ (exP (.int .i64 ((cs.length-j:Nat):Int))) :=
 ob1 hx (by simp[Op.operands,Call.operands]) fun D E w u hN hg e1 ⟨g,n,c,h1,h2⟩=>by
  subst h1;subst h2;obtain⟨us,g1,_⟩:=hg.own _ (zam hi);have hn:n=cs.length:=by
   obtain⟨_,⟨h,_⟩ | ⟨_,_,_,h,_⟩⟩:=g1
   ·cases h
   ·injection h with _ h
  rw[hn] at e1;exact nD hN ht.u e1 (fin rfl)
theorem oixv {j0:Nat}{ki:IntKind}{a:Int}(i j:Nat)(hi:S[i]? = some (.row v ty k cs))(hx:tv Γ x=some (qx,sP v k j0))(hix:tv Γ ix=some (qi,Ψi))[Im p qx][Im p qi][ht:TSl P t e k bytes][hki:VI Ψi ki a](hij:p→a=(j:Int))(hj:p→j0+j<cs.length) :
  Ob P r N ops M S p ⟨some d,.indexAddr t x ix,t',pos,af,none⟩ Γ (eP v k (j0+j)):=fun D E w d' hd hN hg hp hT=>by
 obtain rfl:=Option.some.inj hd;obtain⟨u,e1,g,n,cp,rfl,rfl⟩:=yL hT hx hp (by simp[Op.operands]);obtain⟨u2,e2,h2⟩:=yL hT hix hp (by simp[Op.operands]);rw[hki.h h2] at e2;obtain⟨us,g1,g2,g3⟩:=hg.own _ (zam hi);have hjl:=hj hp;have hn:n=cs.length:=by
  obtain⟨_,⟨h,_⟩ | ⟨_,_,_,h,_⟩⟩:=g1
  ·cases h
  ·injection h with _ h
 obtain⟨z,hz,_⟩:=ht.s;refine yB hN (by intro c hc;cases hc) (fun ac ha=>?_) (fin ⟨g,_,_,rfl,rfl⟩);have e3:(Instr.indexAt t (.slice (some ⟨g,j0*k,none⟩) (n-j0) (cp-j0)) (.int ki a)).run P w = .ok (.pointer (some ⟨g,(j0+j)*k,none⟩)) w:=by
  rw[hij hp];simp[Instr.indexAt,asIntOf,run_underlying ht.u,Result.andThen,xK hz,show j<n-j0 by omega,xV,zaQ]
 simp only[execOp,ha.ev e1,ha.ev e2,Sem.run_bind,e3,Result.andThen];rfl
theorem tclr {j:Nat}{z:Value}(i:Nat)(hS:S[i]? = some (.row v e k cs))(hx:tv Γ x=some (qx,sP v k j))[Tr qx][ht:TSl P t e k bytes][tz:TZ P e z](hj:j<cs.length)
  (h:TO P r N ops X K l Γ (S.set i (.row v e k (cs.take j++List.replicate (cs.length-j) (anyC k))))):TO P r N ops X K (⟨none,.call ⟨.builtin .clear,#[x],#[t]⟩,t',pos,af,none⟩::l) Γ S:=fun hN D E w hs=>by
 unfold okN at hN;simp only[zaX,zaq] at hN;obtain⟨u,e1,g,n,cp,rfl,rfl⟩:=gR hs hx;obtain⟨us,g1,g2,g3⟩:=hs.gd.own _ (zam hS);obtain⟨g',cap,cur,e2,hb,hnc,hcm,hcs,htk⟩:=dR g1 (by omega);injection e2 with e2 e3 e4;injection e2 with e2;injection e2 with e2;subst e2;subst e3;subst e4;obtain⟨z',hz',hzc⟩:=ht.s;obtain⟨sz2,by2,hz2⟩:=tz.s;obtain rfl:z'=z:=by
  obtain⟨i1,a1,a2,a3,a4⟩:=hz';obtain⟨i2,b1,b2,b3,b4⟩:=hz2;rw[a1] at b1;cases b1;rw[a4] at b4;injection b4
 have hB:Blk w g e cur.toList:=by unfold Blk;simpa using hb
 have hcl:cur.toList.length=cp*k:=by simpa using hcs
 have hck:cs.length*k≤cp*k:=zaU k hnc;have hjk:j*k≤cs.length*k:=zaU k (zbU hj);have hsub:(cs.length-j)*k=cs.length*k-j*k:=Nat.sub_mul _ _ _;refine ops_clear2 ht.u hz' hzc (fun u hu=>zaC.1 tz.o u hu) e1 hB (by omega) (by have:=zby ht.n;omega) (by omega) fun w' cur' hch hB' hl' hlo hone=>?_;have hw:Gro w w' (Value.ownBlock (.slice (some ⟨g,0,none⟩) cs.length cp)):=⟨⟨hch.os,hch.tape.eq,hch.output,by rw[hch.size];exact zab _,fun b hb hne=>hch.other b fun e=>hne (by rw[e];rfl)⟩,hch.tape.le⟩;have hln:(cs.take j++List.replicate (cs.length-j) (anyC k)).length=cs.length:=by simp;omega
 have e5:cur'.take (j*k)=us.take (j*k):=by
  rw[← htk,List.take_take,zaS hjk];apply List.ext_getElem?;intro q;rw[zaN,zaN];split
  ·exact hlo q (by assumption)
  ·rfl
 have h6:=hs.setr (v':=.slice (some ⟨g,0,none⟩) cs.length cp) (l':=cs.take j++List.replicate (cs.length-j) (anyC k)) (us:=us.take (j*k)++(cur'.take (cs.length*k)).drop (j*k)) hS hw
  ⟨by rw[hln,List.length_append,List.length_take,List.length_drop,List.length_take,g1.1];omega,.inr ⟨g,cp,cur'.toArray,by rw[hln],Nat.zero_le _,by have:=hB'; unfold Blk at this;simpa using this,by rw[hln];exact hnc,hcm,by simp;omega,by
   rw[hln,← e5];have:cur'.take (j*k)=(cur'.take (cs.length*k)).take (j*k):=by rw[List.take_take,zaS hjk]
   rw[this,zbb]⟩⟩ (.inl rfl)
  (uM (iH g3 g2 (zbU hj)).1 (zU2 (by rw[zaV,zaE];omega) fun u hu=>by
   obtain⟨q,hq⟩:=zbR.1 hu;rw[List.getElem?_drop,zaN] at hq;split at hq
   ·exact hone (j*k+q) u (by omega) (by omega) hq
   ·cases hq))
  (fun c hc=>(zae.1 hc).elim (fun hc=>g3 c (zbc hc)) fun hc=>by rw[zcV hc];rfl) (fun b hb=>by rw[← Option.some.inj hb,hch.size];exact hB.lt)
 exact h hN.2 D _ w' h6
end
def jE {α:Type}(e:α→α→Bool)(d:α)(l:List α):Nat→List α
 | 0=>[]
 | m+1=>jE e d l m++if 0<m∧e (l.getD m d) (l.getD (m-1) d)=true then [] else [l.getD m d]
section
variable {α : Type} {e : α → α → Bool} {d : α} {l l2 : List α} {s k m : Nat}
theorem jU:∀ {s:Nat},s≤l.length→(∀ i,0<i→i<s→e (l.getD i d) (l.getD (i-1) d)=false)→jE e d l s=l.take s
 | 0,_,_=>by simp[jE]
 | s+1,hs,h=>by
  rw[jE,jU (by omega) fun i h1 h2=>h i h1 (by omega),(zT d (show s<l.length by omega)).1,if_neg];rintro⟨h1,h2⟩;rw[h s h1 (by omega)] at h2;cases h2
theorem cH (h0:0<s)(hs:s<l.length)(h:∀ i,0<i→i<s→e (l.getD i d) (l.getD (i-1) d)=false)(hc:e (l.getD s d) (l.getD (s-1) d)=true):l.take s=jE e d l (s+1):=by
 rw[jE,if_pos ⟨h0,hc⟩,jU (by omega) h,zas]
theorem cG (h0:0<m)(ht:l2.take k=jE e d l m)(hc:e (l.getD m d) (l.getD (m-1) d)=true):l2.take k=jE e d l (m+1):=by
 rw[jE,if_pos ⟨h0,hc⟩,zas,ht]
theorem fE (hk:k<l2.length)(ht:l2.take k=jE e d l m)(hc:¬ e (l.getD m d) (l.getD (m-1) d)=true):(l2.set k (l.getD m d)).take (k+1)=jE e d l (m+1):=by
 rw[jE,if_neg (fun c=>hc c.2),← ht,List.take_add_one,zbf hk,List.take_set_of_le (zab _)];rfl
theorem kK {i:Nat}{p:α}(h:k≠i):(l.set k p).getD i d=l.getD i d:=by
 rw[zah,zah,zbl h]
end
end Go.SL
