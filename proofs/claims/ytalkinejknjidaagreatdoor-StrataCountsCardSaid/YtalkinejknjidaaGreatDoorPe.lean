/- Lemmas and walks of functions; no statement. -/
import Derived.Test.YtalkinejknjidaaGreatDoorPd
set_option linter.unusedVariables false
set_option linter.unusedSimpArgs false
set_option maxRecDepth 100000
set_option maxHeartbeats 4000000
namespace Go.SL
theorem nodup_rev {α:Type}{l:List α}:l.reverse.Nodup↔l.Nodup:=by
 unfold List.Nodup;rw[List.pairwise_reverse];exact⟨fun h=>h.imp Ne.symm,fun h=>h.imp Ne.symm⟩
theorem zK4 {q:P2}:∀(X:List P2) (m:P2) (Y:List P2),uU q (X++[m])→uU q (m::Y)→uU q (X++m::Y)
 | [],_,_,_,h=>h
 | [_],_,_,h,k=>⟨h.1,k⟩
 | _::y::X,m,Y,h,k=>⟨h.1,zK4 (y::X) m Y h.2 k⟩
theorem kU {q:P2}:∀(X Y:List P2),uU q (X++Y)→uU q Y
 | [],_,h=>h
 | [x],[],_=>trivial
 | [x],y::Y,h=>h.2
 | x::y::X,Y,h=>kU (y::X) Y h.2
theorem lK:∀(X Y:List P2),jV (X++Y)→jV Y
 | [],_,h=>h
 | [x],[],_=>trivial
 | [x],[_],_=>trivial
 | [x],_::_::_,h=>h.2
 | [x,y],[],_=>trivial
 | [x,y],_::Y,h=>lK [y] _ h.2
 | x::y::z::X,Y,h=>lK (y::z::X) Y h.2
theorem rE:∀(X:List P2) (b m a:P2) (Y:List P2),jV (X++[b,m])→jV (m::a::Y)→0<trn a m b→jV (X++b::m::a::Y)
 | [],_,_,_,_,_,h,k=>⟨k,h⟩
 | [x],b,m,a,Y,g,h,k=>⟨g.1,k,h⟩
 | [x,y],b,m,a,Y,g,h,k=>⟨g.1,g.2.1,k,h⟩
 | x::y::z::X,b,m,a,Y,g,h,k=>⟨g.1,rE (y::z::X) b m a Y g.2 h k⟩
theorem zW3 {q:P2}:∀(C:List P2) (j:Nat),uU q C→j+1<C.length→0≤trn (gp C (j+1)) (gp C j) q
 | [],_,_,h=>by simp at h
 | [_],_,_,h=>by simp at h
 | _::_::_,0,h,_=>h.1
 | t::s::r,j+1,h,hj=>zW3 (s::r) j h.2 (by simp only[zaw] at hj ⊢; omega)
theorem zS3:∀(C:List P2) (j:Nat),jV C→j+2<C.length→0<trn (gp C (j+2)) (gp C (j+1)) (gp C j)
 | [],_,_,h=>by simp at h
 | [_],_,_,h=>by simp at h
 | [_,_],_,_,h=>by simp only[zaw,zbk] at h;omega
 | _::_::_::_,0,h,_=>h.1
 | u::t::s::r,j+1,h,hj=>zS3 (t::s::r) j h.2 (by simp only[zaw] at hj ⊢; omega)
theorem deg {l:List P2}{a m b:P2}(hm:∀ q∈l,leP q m)(ha:ltP a m)(hb:ltP b m)(h0:trn a m b=0)(h1:∀ q∈l,0≤trn a m q)(h2:∀ q∈l,0≤trn m b q) :
  ∀ x∈l,∀ y∈l,∀ z∈l,trn x y z=0:=by
 have k0:0≤zH (subP m a) (subP m b):=by unfold trn zH subP at *; simp only at *; grind
 have kz:∀ q∈l,zH (subP m a) (subP m q)=0:=fun q hq=>by
  have a1:=h1 q hq;have a2:=h2 q hq;have:=rF (lexP.le ha) hb (fX.1 (hm q hq)) k0 (by unfold trn zH subP at *; simp only at *; grind);unfold trn zH subP at *; simp only at *; grind
 have kk:∀ x∈l,∀ y∈l,0≤zH (subP m x) (subP m y):=fun x hx y hy=>rF (fX.1 (hm x hx)) ha (fX.1 (hm y hy)) (by have:=kz x hx;unfold zH subP at *; simp only at *; grind) (by rw[kz y hy];exact Rat.le_refl);intro x hx y hy z hz;have b1:=kk x hx y hy;have b2:=kk y hy x hx;have b3:=kk y hy z hz;have b4:=kk z hz y hy;have b5:=kk x hx z hz;have b6:=kk z hz x hx;unfold trn zH subP at *; simp only at *; grind
theorem apart3 {l:List P2}{a b c a' b':P2}(hb':b'∈l)(hb:b∈l)(h1:ltP a c)(h2:ltP c b)(h3:0<trn a c b)(h4:∀ q∈l,0≤trn a c q)(g1:ltP b' c)(g2:∀ q∈l,0≤trn c b' q):False:=by
 have k1:=h4 b' hb';have k2:=g2 b hb;have:=tr_gp (a:=subP c b') (b:=subP c a) (c:=subP b c) g1 h1 (lexP.le h2) (by unfold trn zH subP at *; simp only at *; grind) (by unfold trn zH subP at *; simp only at *; grind);unfold trn zH subP at *; simp only at *; grind
theorem fC {α:Type}{l:List α}(h:l≠[]):∃ r x,l=r++[x]:=⟨_,_,(List.dropLast_concat_getLast h).symm⟩
def qR (l:List P2):List P2:=if l.length<3 then l else(xZ [] l).reverse.dropLast++(xZ [] l.reverse).reverse.dropLast
theorem two_sup {a b q:P2}(hab:ltP a b)(h0:trn a b q=0)(h1:leP a q)(h2:leP q b):Sup [a,b] q:=fun u v=>by
 obtain⟨t,e1,e2⟩:=dV h0 hab.ne;have ht0:0≤t:=by
  refine Classical.byContradiction fun c=>?_;have c:0 < -t:=by grind
  unfold ltP lexP subP leP at *; simp only at *;rcases hab with hab | ⟨hab,hb2⟩
  ·have:=zaK c hab;grind
  ·have:=zaK c hb2;grind
 have ht1:0≤1-t:=by
  refine Classical.byContradiction fun c=>?_;have c:0<t-1:=by grind
  unfold ltP lexP subP leP at *; simp only at *;rcases hab with hab | ⟨hab,hb2⟩
  ·have:=zaK c hab;grind
  ·have:=zaK c hb2;grind
 by_cases c:u*a.1+v*a.2≤u*b.1+v*b.2
 ·refine⟨b,by simp,?_⟩;rw[e1,e2];have:=zaI ht1 (show 0≤(u*b.1+v*b.2)-(u*a.1+v*a.2) by grind);grind
 ·refine⟨a,by simp,?_⟩;rw[e1,e2];have:=zaI ht0 (show 0≤(u*a.1+v*a.2)-(u*b.1+v*b.2) by grind);grind
theorem mA {l:List P2}(h2:2≤l.length)(hs:l.Pairwise ltP):∃ mn mx A B,ChOk l (mx::(A++[mn]))∧ChOk' l (mn::(B++[mx]))∧qR l=mn::(A.reverse++mx::B.reverse)∧mn∈l∧mx∈l∧ltP mn mx∧(∀ q∈l,leP q mx)∧(∀ q∈l,leP mn q)∧xZ [] l=mx::(A++[mn])∧xZ [] l.reverse=mn::(B++[mx]):=by
 have hne:l≠[]:=fun e=>by rw[e] at h2;simp at h2
 have hS:qR l=(xZ [] l).reverse.dropLast++(xZ [] l.reverse).reverse.dropLast:=by
  unfold qR;split
  ·match l,h2 with
   | [p,q],_=>simp[xZ,uA]
   | _::_::_::_,_=>rename_i h;simp at h;omega
  ·rfl
 have cl:=yS3 hne hs;have ch:=ch_ok' hne hs;generalize eL:xZ [] l=L at *;generalize eH:xZ [] l.reverse=H at *;obtain⟨mx,L1,rfl⟩:=zcb cl.ne;obtain⟨mn,H1,rfl⟩:=zcb ch.ne;have hmx:∀ q∈l,leP q mx:=fun q hq=>cl.top q hq mx rfl;have hmn:∀ q∈l,leP mn q:=fun q hq=>ch.top q hq mn rfl;have mxl:=cl.sub mx (by simp);have mnl:=ch.sub mn (by simp);have hlt:ltP mn mx:=by
  refine zK1 (hmx mn mnl) fun e=>?_
  match l,hs,h2,hmx,hmn with
  | p::p2::r,hs,h3,hmx,hmn =>
   have h1:=(zav.1 hs).1 p2 (by simp);have h4:=jD (jT (hmx p2 (by simp)) (e ▸ hmn p (by simp))) h1.le;exact h1.ne h4.symm
  | [p],_,h3,_,_=>simp at h3
 have l1:L1≠[]:=fun e=>by
  subst e;exact hlt.ne (jD hlt.le (cl.bot mn mnl mx rfl))
 have h1:H1≠[]:=fun e=>by
  subst e;exact hlt.ne (jD hlt.le (ch.bot mx mxl mn rfl))
 obtain⟨A,z,rfl⟩:=fC l1;obtain⟨B,y,rfl⟩:=fC h1;have ez:z=mn:=jD (cl.bot mn mnl z (by rw[← zaR,List.getLast?_concat])) (hmn z (cl.sub z (by simp)));have ey:y=mx:=jD (hmx y (ch.sub y (by simp))) (ch.bot mx mxl y (by rw[← zaR,List.getLast?_concat]));subst ez ey;exact⟨_,_,A,B,cl,ch,by rw[hS,show (y::(A++[z])).reverse=(z::A.reverse)++[y] by simp,show (z::(B++[y])).reverse=(y::B.reverse)++[z] by simp,List.dropLast_concat,List.dropLast_concat];rfl,mnl,mxl,hlt,hmx,hmn,rfl,rfl⟩
theorem hullS_ok {l:List P2}(hs:l.Pairwise ltP):IsHull l (qR l):=by
 have hnd:l.Nodup:=hs.imp fun h=>ltP.ne h;by_cases h3:l.length<2
 ·have e:qR l=l:=by unfold qR;rw[if_pos (by omega)]
  rw[e];refine⟨⟨fun c hc=>?_,hnd,fun h=>by omega⟩,fun _ h=>h,fun q hq=>dJ hq⟩
  match l,hs,hc with
  | p::r,hs,hc =>
   rcases zad.1 hc with rfl | hc
   ·exact jK _
   ·exact((zav.1 hs).1 c hc).le
 obtain⟨mn,mx,A,B,cl,ch,eS,mnl,mxl,hlt,hmx,hmn,_⟩:=mA (by omega) hs;rw[eS];have sub:∀ c∈mn::(A.reverse++mx::B.reverse),c∈l:=fun c hc=>by
  simp only[zad,zae,List.mem_reverse] at hc;rcases hc with rfl | hc | rfl | hc
  ·exact mnl
  ·exact cl.sub c (by simp[hc])
  ·exact mxl
  ·exact ch.sub c (by simp[hc])
 have dL:=cl.dec;have dH:=ch.dec;have nd:(mn::(A.reverse++mx::B.reverse)).Nodup:=by
  have n1:(mx::(A++[mn])).Nodup:=dL.imp fun h=>(ltP.ne h).symm;have n2:(mn::(B++[mx])).Nodup:=dH.imp fun h=>ltP.ne h;have n3:∀ c,c∈A→c∈B→False:=fun c hA hB=>by
   obtain⟨A1,A2,rfl⟩:=List.append_of_mem hA;obtain⟨B1,B2,rfl⟩:=List.append_of_mem hB;obtain⟨r1,b,e1⟩:=fC (l:=mx::A1) (by simp);obtain⟨r2,b',e2⟩:=fC (l:=mn::B1) (by simp);obtain⟨a,s1,e3⟩:=zcb (l:=A2++[mn]) (by simp);obtain⟨a',s2,e4⟩:=zcb (l:=B2++[mx]) (by simp);have E1:mx::((A1++c::A2)++[mn])=r1++b::c::a::s1:=by
    rw[show mx::((A1++c::A2)++[mn])=(mx::A1)++c::(A2++[mn]) by simp,e1,e3];simp
   have E2:mn::((B1++c::B2)++[mx])=r2++b'::c::a'::s2:=by
    rw[show mn::((B1++c::B2)++[mx])=(mn::B1)++c::(B2++[mx]) by simp,e2,e4];simp
   rw[E1] at cl dL;rw[E2] at ch dH;have p1:=zav.1 (zck.1 dL).2.1;have p2:=zav.1 (zck.1 dH).2.1;exact apart3 (l:=l) (a:=a) (b:=b) (c:=c) (a':=a') (b':=b') (ch.sub b' (by simp)) (cl.sub b (by simp)) ((zav.1 p1.2).1 a (by simp)) (p1.1 c (by simp)) (lK r1 _ cl.trs).1 (fun q hq=>(kU r1 _ (cl.lef q hq)).2.1) (p2.1 c (by simp)) fun q hq=>(kU r2 _ (ch.lef q hq)).1
  simp only[List.nodup_cons,zae,zad,List.mem_reverse,List.nodup_append,nodup_rev,zak,zaY,not_false_eq_true,List.nodup_nil,true_and,and_true] at n1 n2 ⊢;grind
 have fst:∀ c∈mn::(A.reverse++mx::B.reverse),leP (gp (mn::(A.reverse++mx::B.reverse)) 0) c:=fun c hc=>hmn c (sub c hc);by_cases hAB:A=[]∧B=[]
 ·obtain⟨rfl,rfl⟩:=hAB;refine⟨⟨fst,nd,fun h=>absurd h (by simp)⟩,sub,fun q hq=>two_sup hlt ?_ (hmn q hq) (hmx q hq)⟩;have a1:0≤trn mn mx q:=(cl.lef q hq).1;have a2:0≤trn mx mn q:=(ch.lef q hq).1;unfold trn zH subP at *; simp only at *; grind
 have hn3:3≤(mn::(A.reverse++mx::B.reverse)).length:=by
  simp only[zaw,zal,List.length_reverse];rcases A with _ | ⟨a,A⟩
  ·rcases B with _ | ⟨b,B⟩
   ·exact absurd ⟨rfl,rfl⟩ hAB
   ·simp only[zaw,zbk];omega
  ·simp only[zaw];omega
 obtain⟨r1,b1,e1⟩:=fC (l:=mx::A) (by simp);obtain⟨r2,b2,e2⟩:=fC (l:=mn::B) (by simp);obtain⟨a1,s1,e3⟩:=zcb (l:=A++[mn]) (by simp);obtain⟨a2,s2,e4⟩:=zcb (l:=B++[mx]) (by simp);have EL1:mx::(A++[mn])=r1++[b1,mn]:=by rw[← zaR,e1];simp
 have EL2:mx::(A++[mn])=mx::a1::s1:=by rw[e3]
 have EH1:mn::(B++[mx])=r2++[b2,mx]:=by rw[← zaR,e2];simp
 have EH2:mn::(B++[mx])=mn::a2::s2:=by rw[e4]
 have ndeg:¬ ∀ x∈l,∀ y∈l,∀ z∈l,trn x y z=0:=fun hd=>by
  rcases A with _ | ⟨a,A⟩
  ·rcases B with _ | ⟨b,B⟩
   ·exact hAB ⟨rfl,rfl⟩
   ·obtain⟨c,s,e⟩:=zcb (l:=B++[mx]) (by simp);have t:=ch.trs;have s':=ch.sub;rw[zaR,e] at t s';have:=hd c (s' c (by simp)) b (s' b (by simp)) mn (s' mn (by simp));have:=t.1;grind
  ·obtain⟨c,s,e⟩:=zcb (l:=A++[mn]) (by simp);have t:=cl.trs;have s':=cl.sub;rw[zaR,e] at t s';have:=hd c (s' c (by simp)) a (s' a (by simp)) mx (s' mx (by simp));have:=t.1;grind
 have sb1:=cl.sub b1 (by rw[EL1];simp);have sb2:=ch.sub b2 (by rw[EH1];simp);have sa1:=cl.sub a1 (by rw[EL2];simp);have sa2:=ch.sub a2 (by rw[EH2];simp);have la1:ltP a1 mx:=by rw[EL2] at dL;exact(zav.1 dL).1 a1 (by simp)
 have lb1:ltP mn b1:=by rw[EL1] at dL;exact(zav.1 (zck.1 dL).2.1).1 mn (by simp)
 have la2:ltP mn a2:=by rw[EH2] at dH;exact(zav.1 dH).1 a2 (by simp)
 have lb2:ltP b2 mx:=by rw[EH1] at dH;exact(zav.1 (zck.1 dH).2.1).1 mx (by simp)
 have fa1:∀ q∈l,0≤trn a1 mx q:=fun q hq=>by have:=cl.lef q hq;rw[EL2] at this;exact this.1
 have fb1:∀ q∈l,0≤trn mn b1 q:=fun q hq=>by have:=cl.lef q hq;rw[EL1] at this;exact(kU r1 _ this).1
 have fa2:∀ q∈l,0≤trn a2 mn q:=fun q hq=>by have:=ch.lef q hq;rw[EH2] at this;exact this.1
 have fb2:∀ q∈l,0≤trn mx b2 q:=fun q hq=>by have:=ch.lef q hq;rw[EH1] at this;exact(kU r2 _ this).1
 have jmx:0<trn a1 mx b2:=by
  have:=fa1 b2 sb2;refine Classical.byContradiction fun c=>ndeg (deg hmx la1 lb2 (by grind) fa1 fb2)
 have jmn:0<trn a2 mn b1:=by
  have:=fa2 b1 sb1;refine Classical.byContradiction fun c=>ndeg ?_;have hd:=deg (l:=l.map negP) (a:=negP a2) (m:=negP mn) (b:=negP b1) (fun q hq=>by obtain⟨x,hx,rfl⟩:=zai.1 hq;exact pE.2 (hmn x hx)) (pA.2 la2) (pA.2 lb1) (by rw[bP];grind)
   (fun q hq=>by obtain⟨x,hx,rfl⟩:=zai.1 hq;rw[bP];exact fa2 x hx) (fun q hq=>by obtain⟨x,hx,rfl⟩:=zai.1 hq;rw[bP];exact fb1 x hx)
  intro x hx y hy z hz;rw[← bP];exact hd _ (zai.2 ⟨x,hx,rfl⟩) _ (zai.2 ⟨y,hy,rfl⟩) _ (zai.2 ⟨z,hz,rfl⟩)
 -- the way round,backwards
 have lC:∀ q∈l,uU q (mn::B++mx::(A++[mn])):=fun q hq=>zK4 (mn::B) mx _ (by have:=ch.lef q hq;simpa using this) (cl.lef q hq);have tC:jV (mn::B++mx::(A++[mn])):=by
  have zA1:=ch.trs;have zA2:=cl.trs;rw[EH1] at zA1;rw[EL2] at zA2;rw[e2,e3,zaA];exact rE r2 b2 mx a1 s1 zA1 zA2 jmx
 have hC:(mn::B++mx::(A++[mn])).length=(mn::(A.reverse++mx::B.reverse)).length+1:=by simp;omega
 have eC:mn::(A.reverse++mx::B.reverse)=(mn::B++mx::(A++[mn])).tail.reverse:=by simp
 have c1:gp (mn::B++mx::(A++[mn])) 1=a2:=by
  rw[show mn::B++mx::(A++[mn])=(mn::(B++[mx]))++(A++[mn]) by simp,EH2];rfl
 have c2:gp (mn::B++mx::(A++[mn])) 0=mn:=rfl;have c3:gp (mn::B++mx::(A++[mn])) ((mn::(A.reverse++mx::B.reverse)).length-1)=b1:=by
  rw[show mn::B++mx::(A++[mn])=(mn::B)++(mx::(A++[mn])) by simp,EL1,← zaA,gp,zah,List.getElem?_append_right (by have:=congrArg List.length EL1;simp at this ⊢; omega)];have:(mn::(A.reverse++mx::B.reverse)).length-1-(mn::B++r1).length=0:=by have:=congrArg List.length EL1;simp at this ⊢; omega
  rw[this];rfl
 generalize mn::B++mx::(A++[mn])=C at *;generalize hh:mn::(A.reverse++mx::B.reverse)=h at *;have c4:gp h 0=mn:=by rw[← hh];rfl
 have g1:∀ i,i<h.length→gp h i=gp C (h.length-i):=fun i hi=>by
  have ht:C.tail.length=h.length:=by rw[List.length_tail];omega
  have:gp h i=gp C.tail (C.tail.length-1-i):=by
   conv=>lhs;rw[eC]
   unfold gp;rw[zah,zah,List.getElem?_reverse (by omega)]
  rw[this,ht];unfold gp;rw[zah,zah,List.getElem?_tail,show h.length-1-i+1=h.length-i by omega]
 have g2:∀ i,i<h.length→nx h i=gp C (h.length-1-i):=fun i hi=>by
  unfold nx;rcases zaf (i+1) h.length with c | c
  ·rw[zao c,g1 _ c,show h.length-(i+1)=h.length-1-i by omega]
  ·rw[show i+1=h.length by omega,zbs,c4,show h.length-1-i=0 by omega,c2]
 have weak:∀ i,i<h.length→∀ q∈l,0≤trn (gp h i) (nx h i) q:=fun i hi q hq=>by
  have:=zW3 C (h.length-1-i) (lC q hq) (by omega);rw[show h.length-1-i+1=h.length-i by omega] at this;rw[g1 i hi,g2 i hi];exact this
 have turn:∀ i,i<h.length→0<trn (gp h i) (nx h i) (nx h ((i+1)%h.length)):=fun i hi=>by
  rcases zaf (i+1) h.length with c | c
  ·have:=zS3 C (h.length-2-i) tC (by omega);rw[zao c,g1 i hi,g2 i hi,g2 _ c,show h.length-1-(i+1)=h.length-2-i by omega,show h.length-1-i=h.length-2-i+1 by omega,show h.length-i=h.length-2-i+2 by omega];exact this
  ·have e:i=h.length-1:=by omega
   rw[show i+1=h.length by omega,zbs,g1 i hi,g2 i hi,g2 0 (by omega),e,show h.length-(h.length-1)=1 by omega,show h.length-1-(h.length-1)=0 by omega,Nat.sub_zero,c1,c2,c3];exact jmn
 have po:Poly h:=⟨fst,nd,fun h3=>conv_of nd h3 (fun i k hi hk=>weak i hi _ (sub _ (jH hk))) turn⟩;exact⟨po,sub,fun q hq=>sup_of_left po hn3 fun i hi=>weak i hi q hq⟩
def yN (d:P2):Int:=if 0<d.1 then 0 else if d.1=0∧0<d.2 then 1 else if d.1<0 then 2 else 3
def qJ (a b:P2):Bool:=if yN a≠yN b then decide (yN a<yN b) else decide (0<zH a b)
def lexN (v:P2):Prop:=v.1<0∨v.1=0∧v.2<0
theorem qt0 {d:P2}(h:0<d.1):yN d=0:=if_pos h
theorem qt1 {d:P2}(h:d.1=0)(k:0<d.2):yN d=1:=by unfold yN;rw[if_neg (by grind),if_pos ⟨h,k⟩]
theorem qt2 {d:P2}(h:d.1<0):yN d=2:=by unfold yN;rw[if_neg (by grind),if_neg (by grind),if_pos h]
theorem qt3 {d:P2}(h:d.1=0)(k:d.2<0):yN d=3:=by unfold yN;rw[if_neg (by grind),if_neg (by grind),if_neg (by grind)]
theorem cP {a b:P2}(h:yN a=yN b):qJ a b=true↔0<zH a b:=by
 unfold qJ;rw[if_neg (by simp[h]),decide_eq_true_eq]
theorem uK {a b:P2}(h:yN a≠yN b):qJ a b=true↔yN a<yN b:=by
 unfold qJ;rw[if_pos h,decide_eq_true_eq]
theorem ahead_pp {a b:P2}(ha:lexP a)(hb:lexP b):qJ a b=true↔0<zH a b:=by
 rcases ha with ha | ⟨ha,ha2⟩<;>rcases hb with hb | ⟨hb,hb2⟩
 ·exact cP ((qt0 ha).trans (qt0 hb).symm)
 ·have h:=zaK ha hb2;rw[uK (by rw[qt0 ha,qt1 hb hb2];decide),qt0 ha,qt1 hb hb2];unfold zH;rw[hb];exact iff_of_true (by decide) (by grind)
 ·have h:=zaK ha2 hb;rw[uK (by rw[qt1 ha ha2,qt0 hb];decide),qt1 ha ha2,qt0 hb];unfold zH;rw[ha];exact iff_of_false (by decide) (by grind)
 ·exact cP ((qt1 ha ha2).trans (qt1 hb hb2).symm)
theorem zN6 {a b:P2}(ha:lexP a)(hb:lexN b):qJ a b=true∧qJ b a=false:=by
 have h1:yN a=0∨yN a=1:=by rcases ha with ha | ⟨ha,ha2⟩;exact .inl (qt0 ha);exact .inr (qt1 ha ha2)
 have h2:yN b=2∨yN b=3:=by rcases hb with hb | ⟨hb,hb2⟩;exact .inl (qt2 hb);exact .inr (qt3 hb hb2)
 have h3:yN b≠yN a:=by omega
 refine⟨(uK h3.symm).2 (by omega),?_⟩;rw[Bool.eq_false_iff];exact fun c=>by have:=(uK h3).1 c;omega
theorem ahead_nn {a b:P2}(ha:lexN a)(hb:lexN b):qJ a b=true↔0<zH a b:=by
 have k:∀ x y:Rat,x<0→y<0→0<x*y:=fun x y hx hy=>by
  have h:=zaK (show 0 < -x by grind) (show 0 < -y by grind);rw[Rat.neg_mul,Rat.mul_neg,Rat.neg_neg] at h;exact h
 rcases ha with ha | ⟨ha,ha2⟩<;>rcases hb with hb | ⟨hb,hb2⟩
 ·exact cP ((qt2 ha).trans (qt2 hb).symm)
 ·have h:=k _ _ ha hb2;clear k;rw[uK (by rw[qt2 ha,qt3 hb hb2];decide),qt2 ha,qt3 hb hb2];unfold zH;rw[hb];exact iff_of_true (by decide) (by grind)
 ·have h:=k _ _ ha2 hb;clear k;rw[uK (by rw[qt3 ha ha2,qt2 hb];decide),qt3 ha ha2,qt2 hb];unfold zH;rw[ha];exact iff_of_false (by decide) (by grind)
 ·exact cP ((qt3 ha ha2).trans (qt3 hb hb2).symm)
def mrg:List P2→List P2→List P2
 | [],q=>q
 | a::p,[]=>a::p
 | a::p,b::q=>if qJ a b then a::mrg p (b::q) else b::mrg (a::p) q
termination_by p q=>p.length+q.length
theorem mrg_nil (p:List P2):mrg p []=p:=by cases p<;>simp[mrg]
theorem mrg_len (p q:List P2):(mrg p q).length=p.length+q.length:=by
 fun_induction mrg p q<;>simp_all<;>omega
theorem mrg_cut {p1 p2 q1 q2:List P2}(h1:∀ x∈p1,∀ y∈q2,qJ x y=true)(h2:∀ y∈q1,∀ x∈p2,qJ x y=false):mrg (p1++p2) (q1++q2)=mrg p1 q1++mrg p2 q2:=by
 fun_induction mrg p1 q1 with
 | case1 q =>
  induction q with
  | nil=>rfl
  | cons b q ih =>
   cases p2 with
   | nil=>simp[mrg]
   | cons a p =>
    have:=h2 b (by simp) a (by simp);have ih':=ih fun y hy=>h2 y (by simp[hy]);simp only[zcm,zaR] at ih' ⊢;rw[mrg,this,if_neg (by simp),ih']
 | case2 a p =>
  clear h2;generalize ha:a::p=p' at *;clear ha
  induction p' with
  | nil=>simp[mrg]
  | cons a p ih =>
   have ih':=ih fun x hx y hy=>h1 x (by simp[hx]) y hy;cases q2 with
   | nil=>simp[mrg_nil]
   | cons b q =>
    have:=h1 a (by simp) b (by simp);simp only[zcm,zaR] at ih' ⊢;rw[mrg,this,if_pos rfl,ih']
 | case3 a p b q h ih =>
  simp only[zaR] at ih ⊢;rw[mrg,if_pos h,ih (fun x hx y hy=>h1 x (by simp[hx]) y hy) h2]
 | case4 a p b q h ih =>
  simp only[zaR] at ih ⊢;rw[mrg,if_neg h,ih h1 fun y hy x hx=>h2 y (by simp[hy]) x hx]
def sumP:List P2→P2
 | []=>(0,0)
 | e::l=>addP e (sumP l)
theorem wX (l m:List P2):sumP (l++m)=addP (sumP l) (sumP m):=by
 induction l with
 | nil=>unfold addP sumP;rw[Prod.ext_iff];constructor<;>simp[Rat.zero_add]
 | cons a l ih=>rw[List.cons_append,sumP,ih,sumP];unfold addP;rw[Prod.ext_iff];constructor<;>simp only<;>grind
theorem wW (p q:List P2):sumP (mrg p q)=addP (sumP p) (sumP q):=by
 fun_induction mrg p q with
 | case1 q=>unfold addP;rw[Prod.ext_iff];constructor<;>simp[sumP,Rat.zero_add]
 | case2 a p=>unfold addP;rw[Prod.ext_iff];constructor<;>simp[sumP,addP,Rat.add_zero]
 | case3 a p b q h ih=>rw[sumP,ih];unfold addP;rw[Prod.ext_iff];constructor<;>simp only[sumP,addP]<;>grind
 | case4 a p b q h ih=>rw[sumP,ih];unfold addP;rw[Prod.ext_iff];constructor<;>simp only[sumP,addP]<;>grind
def wayS (at':P2):List P2→List P2
 | []=>[]
 | [_]=>[]
 | e::f::l=>addP at' e::wayS (addP at' e) (f::l)
def yT:List P2→List P2
 | a::b::r=>subP b a::yT (b::r)
 | _=>[]
theorem fI:∀(X:List P2) (m:P2) (Y:List P2),yT (X++m::Y)=yT (X++[m])++yT (m::Y)
 | [],m,Y=>by simp[yT]
 | [x],m,Y=>by simp[yT]
 | x::y::X,m,Y=>by
  have:=fI (y::X) m Y;simp only[zaR,yT] at this ⊢;rw[this]
theorem fH:∀(a:P2) (X:List P2) (b:P2),sumP (yT (a::(X++[b])))=subP b a
 | a,[],b=>by simp only[List.nil_append,yT,sumP];unfold addP subP;rw[Prod.ext_iff];constructor<;>simp only<;>grind
 | a,x::X,b=>by
  rw[zaR,yT,sumP,fH x X b];unfold addP subP;rw[Prod.ext_iff];constructor<;>simp only<;>grind
def edgN (w:P2):List P2→Prop
 | t::s::r=>zH (subP t s) w≤0∧edgN w (s::r)
 | _=>True
theorem cK (X:List P2)(a b:P2):yT (X++[a,b])=yT (X++[a])++[subP b a]:=by
 rw[show X++[a,b]=X++a::[b] by rfl,fI];rfl
theorem wA {g:P2}:∀ acc:List P2,edgD g acc→∀ e∈yT acc.reverse,0<zH e g
 | [],_,e,he=>by simp[yT] at he
 | [_],_,e,he=>by simp[yT] at he
 | t::s::r,h,e,he=>by
  rw[show (t::s::r).reverse=r.reverse++[s,t] by simp,cK,zae,zak] at he;rcases he with he | rfl
  ·exact wA (s::r) h.2 e (by simpa using he)
  ·exact h.1
theorem vZ {g:P2}:∀ acc:List P2,edgN g acc→∀ e∈yT acc.reverse,zH e g≤0
 | [],_,e,he=>by simp[yT] at he
 | [_],_,e,he=>by simp[yT] at he
 | t::s::r,h,e,he=>by
  rw[show (t::s::r).reverse=r.reverse++[s,t] by simp,cK,zae,zak] at he;rcases he with he | rfl
  ·exact vZ (s::r) h.2 e (by simpa using he)
  ·exact h.1
theorem sX:∀ acc:List P2,acc.Pairwise (fun a b=>ltP b a)→∀ e∈yT acc.reverse,lexP e
 | [],_,e,he=>by simp[yT] at he
 | [_],_,e,he=>by simp[yT] at he
 | t::s::r,h,e,he=>by
  rw[show (t::s::r).reverse=r.reverse++[s,t] by simp,cK,zae,zak] at he;rcases he with he | rfl
  ·exact sX (s::r) (List.pairwise_cons.1 h).2 e (by simpa using he)
  ·exact(zav.1 h).1 s (by simp)
theorem wZ {g:P2}(hg:lexP g):∀ acc:List P2,acc≠[]→jV acc→acc.Pairwise (fun a b=>ltP b a)→∃ Y w X,acc=Y++w::X∧edgN g (Y++[w])∧edgD g (w::X)
 | [],h,_,_=>absurd rfl h
 | [t],_,_,_=>⟨[],t,[],rfl,trivial,trivial⟩
 | t::s::r,_,ht,hd=>by
  by_cases c:0<zH (subP t s) g
  ·exact⟨[],t,s::r,rfl,trivial,vY hg _ ht hd fun t' s' r' e=>by injection e with e1 e2;injection e2 with e2 e3;subst e1 e2;exact c⟩
  ·have ht':jV (s::r):=by
    cases r with
    | nil=>trivial
    | cons u r=>exact ht.2
   obtain⟨Y,w,X,e,h1,h2⟩:=wZ hg (s::r) (by simp) ht' (zav.1 hd).2;refine⟨t::Y,w,X,by rw[e];rfl,?_,h2⟩;cases Y with
   | nil=>injection e with e1 e2;subst e1;exact⟨by grind,trivial⟩
   | cons y Y=>injection e with e1 e2;subst e1;exact⟨by grind,h1⟩
theorem zW0 {S acc:List P2}{g:P2}(hc:ChOk S acc)(hg:lexP g):∃ Y w X,acc=Y++w::X∧edgN g (Y++[w])∧edgD g (w::X)∧∀ q∈S,zH (subP q w) g≤0:=by
 obtain⟨Y,w,X,rfl,h1,h2⟩:=wZ hg acc hc.ne hc.trs hc.dec;refine⟨Y,w,X,rfl,h1,h2,fun q hq=>?_⟩;have hl:=hc.lef q hq;have hd:=hc.dec;rcases uI w q with k | k
 ·rcases List.eq_nil_or_concat Y with rfl | ⟨Y',n,rfl⟩
  ·have:=jD (hc.top q hq w rfl) k;subst this;unfold zH subP;simp only;grind
  ·rw[List.concat_eq_append] at hl hd h1;rw[zaA] at hl hd;have k1:=(kU Y' _ hl).1;have k2:zH (subP n w) g≤0:=by
    have:∀ Z:List P2,edgN g (Z++[n,w])→zH (subP n w) g≤0:=fun Z=>by
     induction Z with
     | nil=>exact fun h=>h.1
     | cons z Z ih=>intro h;cases Z with
      | nil=>exact h.2.1
      | cons z' Z=>exact ih h.2
    exact this Y' (by simpa using h1)
   have k3:ltP w n:=(zav.1 (zck.1 hd).2.1).1 w (by simp);have:=rF (a:=g) (b:=subP n w) (c:=subP q w) (lexP.le hg) k3 (fX.1 k) (by unfold zH at *; grind) k1;unfold zH at *; grind
 ·rcases X with _ | ⟨p,X⟩
  ·have:=jD (hc.bot q hq w (by simp)) k;subst this;unfold zH subP;simp only;grind
  ·have k1:=(kU Y _ hl).1;have k2:=h2.1;have k3:ltP p w:=(zav.1 (zck.1 hd).2.1).1 p (by simp);have:=rF (a:=subP w q) (b:=subP w p) (c:=g) (fX.1 k) k3 (lexP.le hg) (by unfold trn zH subP at *; simp only at *; grind) (Rat.le_of_lt k2);unfold trn zH subP at *; simp only at *; grind
theorem ahead_asym {a b:P2}(h:qJ a b=true):qJ b a=false:=by
 unfold qJ at *;by_cases c:yN a=yN b
 ·rw[if_neg (by simp[c])] at h;rw[if_neg (by simp[c]),decide_eq_false];have:=of_decide_eq_true h;unfold zH at *; grind
 ·rw[if_pos c] at h;rw[if_pos (Ne.symm c),decide_eq_false];have:=of_decide_eq_true h;omega
theorem iT {a:P2}:lexP (negP a)↔lexN a:=by unfold lexP lexN negP;simp only;grind
structure Cut (g:P2)(e1 e2:List P2):Prop where
 pos:lexP g→(∀ e∈e1,lexP e∧0<zH e g)∧∀ e∈e2,lexN e∨lexP e∧zH e g≤0
 neg:lexN g→(∀ e∈e1,lexP e∨lexN e∧0<zH e g)∧∀ e∈e2,lexN e∧zH e g≤0
theorem sZ {g:P2}{e1 e2 f1 f2:List P2}(hg:lexP g∨lexN g)(a:Cut g e1 e2)(b:Cut g f1 f2):∀ x∈e1,∀ y∈f2,qJ x y=true:=fun x hx y hy=>by
 rcases hg with hg | hg
 ·obtain⟨h1,h2⟩:=(a.pos hg).1 x hx;rcases (b.pos hg).2 y hy with h3 | ⟨h3,h4⟩
  ·exact(zN6 h1 h3).1
  ·exact(ahead_pp h1 h3).2 (yC4 (lexP.le h1) hg h3 h2 (by unfold zH at *; grind))
 ·obtain⟨h3,h4⟩:=(b.neg hg).2 y hy;rcases (a.neg hg).1 x hx with h1 | ⟨h1,h2⟩
  ·exact(zN6 h1 h3).1
  ·have:=yC4 (lexP.le (iT.2 h1)) (iT.2 hg) (iT.2 h3) (by unfold zH negP at *; simp only;grind) (by unfold zH negP at *; simp only;grind);exact(ahead_nn h1 h3).2 (by unfold zH negP at *; simp only at this;grind)
theorem ChOk'.flip {S acc:List P2}(h:ChOk' S acc):ChOk (S.map negP) (acc.map negP):=by
 refine⟨fun x hx=>?_,?_,fun q hq t e=>?_,fun q hq t e=>?_,fun q hq=>?_,(lL acc).2 h.trs,fun c=>h.ne (List.map_eq_nil_iff.1 c)⟩
 ·obtain⟨y,hy,rfl⟩:=zai.1 hx;exact zai.2 ⟨y,h.sub y hy,rfl⟩
 ·rw[List.pairwise_map];exact h.dec.imp fun h=>pA.2 h
 ·obtain⟨y,hy,rfl⟩:=zai.1 hq;rw[List.head?_map] at e;obtain⟨u,hu,rfl⟩:=Option.map_eq_some_iff.1 e;exact pE.2 (h.top y hy u hu)
 ·obtain⟨y,hy,rfl⟩:=zai.1 hq;rw[List.getLast?_map] at e;obtain⟨u,hu,rfl⟩:=Option.map_eq_some_iff.1 e;exact pE.2 (h.bot y hy u hu)
 ·obtain⟨y,hy,rfl⟩:=zai.1 hq;exact(pD acc).2 (h.lef y hy)
theorem zM4 {g:P2}:∀ l:List P2,edgD (negP g) (l.map negP)↔edgD g l
 | [] => .rfl
 | [_] => .rfl
 | t::s::r=>by
  have e:zH (subP (negP t) (negP s)) (negP g)=zH (subP t s) g:=by unfold zH subP negP;simp only;grind
  simp only[zaG,edgD,e];exact and_congr .rfl (zM4 (s::r))
theorem zM3 {g:P2}:∀ l:List P2,edgN (negP g) (l.map negP)↔edgN g l
 | [] => .rfl
 | [_] => .rfl
 | t::s::r=>by
  have e:zH (subP (negP t) (negP s)) (negP g)=zH (subP t s) g:=by unfold zH subP negP;simp only;grind
  simp only[zaG,edgN,e];exact and_congr .rfl (zM3 (s::r))
theorem high_cut {S acc:List P2}{g:P2}(hc:ChOk' S acc)(hg:lexN g):∃ Y w X,acc=Y++w::X∧edgN g (Y++[w])∧edgD g (w::X)∧∀ q∈S,zH (subP q w) g≤0:=by
 obtain⟨Y,w,X,e,h1,h2,h3⟩:=zW0 hc.flip (iT.2 hg);have hn:∀ l:List P2,(l.map negP).map negP=l:=fun l=>by
  rw[List.map_map];conv=>rhs;rw[← List.map_id l]
  exact List.map_congr_left fun x _=>iO x
 have e':acc=Y.map negP++negP w::X.map negP:=by
  have:=congrArg (List.map negP) e;rw[hn] at this;simpa using this
 refine⟨Y.map negP,negP w,X.map negP,e',?_,?_,fun q hq=>?_⟩
 ·refine(zM3 _).1 ?_;rw[zay,hn,zaG,iO];exact h1
 ·refine(zM4 _).1 ?_;rw[zaG,iO,hn];exact h2
 ·have:=h3 (negP q) (zai.2 ⟨q,hq,rfl⟩);unfold zH subP negP at *; simp only at *; grind
theorem pU:∀ acc:List P2,acc.Pairwise (fun a b=>ltP a b)→∀ e∈yT acc.reverse,lexN e
 | [],_,e,he=>by simp[yT] at he
 | [_],_,e,he=>by simp[yT] at he
 | t::s::r,h,e,he=>by
  rw[show (t::s::r).reverse=r.reverse++[s,t] by simp,cK,zae,zak] at he;rcases he with he | rfl
  ·exact pU (s::r) (List.pairwise_cons.1 h).2 e (by simpa using he)
  ·have:=(zav.1 h).1 s (by simp);unfold ltP lexP subP at this;unfold lexN subP;simp only at *; grind
def gJ (h:List P2):List P2:=if 1<h.length then yT (h++[gp h 0]) else []
theorem nS (a b:P2):addP a (subP b a)=b:=by unfold addP subP;rw[Prod.ext_iff];constructor<;>simp only<;>grind
theorem yY (a:P2):addP a (0,0)=a:=by unfold addP;rw[Prod.ext_iff];constructor<;>simp only<;>grind
theorem qK (a b c:P2):addP (addP a b) c=addP a (addP b c):=by unfold addP;rw[Prod.ext_iff];constructor<;>simp only<;>grind
theorem tK (a b:P2):addP a b=addP b a:=by unfold addP;rw[Prod.ext_iff];constructor<;>simp only<;>grind
theorem yD9 {m w:P2}{X':List P2}(Y X:List P2)(e:Y++w::X=X'++[m]):addP m (sumP (yT (w::X).reverse))=w:=by
 rcases List.eq_nil_or_concat X with rfl | ⟨X,x,hX⟩
 ·have:w=m:=by
   have:=congrArg List.getLast? e;simpa using this
  subst this;exact yY _
 ·rw[List.concat_eq_append] at hX;subst hX;have:x=m:=by
   have:=congrArg List.getLast? e;rw[show Y++w::(X++[x])=(Y++w::X)++[x] by simp,List.getLast?_concat,List.getLast?_concat] at this;exact Option.some.inj this
  subst this;rw[show (w::(X++[x])).reverse=x::(X.reverse++[w]) by simp,fH,nS]
theorem zL4 {l:List P2}{g:P2}(hs:l.Pairwise ltP)(hne:l≠[])(hg:lexP g∨lexN g) :
  ∃ e1 e2,gJ (qR l)=e1++e2∧Cut g e1 e2∧∀ q∈l,zH (subP q (addP (gp (qR l) 0) (sumP e1))) g≤0:=by
 by_cases h2:l.length<2
 ·match l,hne,h2 with
  | [p],_,_ =>
   refine⟨[],[],rfl,⟨fun _=>by simp,fun _=>by simp⟩,fun q hq=>?_⟩;rw[zak.1 hq,show addP (gp (qR [p]) 0) (sumP [])=p from yY p];unfold zH subP;simp only;grind
 obtain⟨mn,mx,A,B,cl,ch,eS,mnl,mxl,hlt,hmx,hmn,_⟩:=mA (by omega) hs;have eE:gJ (qR l)=yT (mx::(A++[mn])).reverse++yT (mn::(B++[mx])).reverse:=by
  unfold gJ;rw[eS,if_pos (by simp only[zaw,zal];omega),show mn::(A.reverse++mx::B.reverse)++[gp (mn::(A.reverse++mx::B.reverse)) 0]=(mn::A.reverse)++mx::(B.reverse++[mn]) by simp,fI];congr 1<;>congr 1<;>simp
 have e0:gp (qR l) 0=mn:=by rw[eS];rfl
 rw[e0,eE];have low:∀ e∈yT (mx::(A++[mn])).reverse,lexP e:=sX _ cl.dec;have high:∀ e∈yT (mn::(B++[mx])).reverse,lexN e:=pU _ ch.dec;have np:∀ g:P2,lexP g→lexN g→False:=fun g a b=>by unfold lexP lexN at *; grind
 have cut:∀(Y:List P2) (w:P2) (X:List P2),yT (Y++w::X).reverse=yT (w::X).reverse++yT (Y++[w]).reverse:=fun Y w X=>by
  rw[show (Y++w::X).reverse=X.reverse++w::Y.reverse by simp,fI];simp
 rcases hg with hg | hg
 ·obtain⟨Y,w,X,e,h1,h3,h4⟩:=zW0 cl hg;refine⟨yT (w::X).reverse,yT (Y++[w]).reverse++yT (mn::(B++[mx])).reverse,?_,⟨fun _=>⟨fun x hx=>⟨low x ?_,wA _ h3 x hx⟩,fun x hx=>?_⟩,fun h=>(np g hg h).elim⟩,?_⟩
  ·rw[e,cut,zaA]
  ·rw[e,cut];exact zbJ _ hx
  ·rcases zae.1 hx with hx | hx
   ·exact .inr ⟨low x (by rw[e,cut];exact List.mem_append_right _ hx),vZ _ h1 x hx⟩
   ·exact .inl (high x hx)
  ·rw[yD9 Y X (X':=mx::A) (m:=mn) (by rw[← e];simp)];exact h4
 ·obtain⟨Y,w,X,e,h1,h3,h4⟩:=high_cut ch hg;refine⟨yT (mx::(A++[mn])).reverse++yT (w::X).reverse,yT (Y++[w]).reverse,?_,⟨fun h=>(np g h hg).elim,fun _=>⟨fun x hx=>?_,fun x hx=>⟨high x ?_,vZ _ h1 x hx⟩⟩⟩,?_⟩
  ·rw[e,cut,zaA]
  ·rcases zae.1 hx with hx | hx
   ·exact .inl (low x hx)
   ·exact .inr ⟨high x (by rw[e,cut];exact zbJ _ hx),wA _ h3 x hx⟩
  ·rw[e,cut];exact List.mem_append_right _ hx
  ·rw[wX,← qK,show (mx::(A++[mn])).reverse=mn::(A.reverse++[mx]) by simp,fH,nS,yD9 Y X (X':=mn::B) (m:=mx) (by rw[← e];simp)];exact h4
def outS (h k:List P2):List P2:=addP (gp h 0) (gp k 0)::wayS (addP (gp h 0) (gp k 0)) (mrg (gJ h) (gJ k))
theorem pT {h:List P2}:sumP (gJ h)=(0,0):=by
 unfold gJ;split
 ·match h with
  | a::r =>
   rw[show a::r++[gp (a::r) 0]=a::(r++[a]) from rfl,fH];unfold subP;rw[Prod.ext_iff];constructor<;>simp only<;>grind
 ·rfl
theorem zR5:∀(e1 e2:List P2) (at':P2),e1≠[]→e2≠[]→addP at' (sumP e1)∈wayS at' (e1++e2)
 | [],_,_,h,_=>absurd rfl h
 | [e],f::e2,a,_,_=>by simp only[zaR,zcm,wayS,sumP];rw[yY];simp
 | e::f::e1,e2,a,_,h=>by
  have:=zR5 (f::e1) e2 (addP a e) (by simp) h;rw[zaR,zaR,wayS,sumP,← qK];exact zbE _ this
 | [_],[],_,_,h=>absurd rfl h
theorem out_mem {h k e1 e2:List P2}(e:mrg (gJ h) (gJ k)=e1++e2):addP (addP (gp h 0) (gp k 0)) (sumP e1)∈outS h k:=by
 unfold outS;have z:addP (sumP e1) (sumP e2)=(0,0):=by rw[← wX,← e,wW,pT,pT];exact yY _
 by_cases c1:e1=[]
 ·subst c1;rw[show sumP []=(0,0) from rfl,yY];simp
 by_cases c2:e2=[]
 ·subst c2;rw[show sumP []=(0,0) from rfl,yY] at z;rw[z,yY];simp
 ·rw[e];exact zbE _ (zR5 e1 e2 _ c1 c2)
theorem out_sup {l m:List P2}(hl:l.Pairwise ltP)(hm:m.Pairwise ltP)(nl:l≠[])(nm:m≠[]){a b:P2}(ha:a∈l)(hb:b∈m):Sup (outS (qR l) (qR m)) (addP a b):=fun u v=>by
 by_cases hz:lexP (-v,u)∨lexN (-v,u)
 ·obtain⟨e1,e2,ee,ec,eb⟩:=zL4 hl nl hz;obtain⟨f1,f2,fe,fc,fb⟩:=zL4 hm nm hz;have h1:=sZ hz ec fc;have h2:=sZ hz fc ec;have em:mrg (gJ (qR l)) (gJ (qR m))=mrg e1 f1++mrg e2 f2:=by
   rw[ee,fe];exact mrg_cut h1 fun y hy x hx=>ahead_asym (h2 y hy x hx)
  refine⟨_,out_mem em,?_⟩;rw[wW];have k1:=eb a ha;have k2:=fb b hb;generalize gp (qR l) 0=p at *;generalize gp (qR m) 0=q at *;generalize sumP e1=s at *;generalize sumP f1=t at *;unfold zH subP addP at *; simp only at *; grind
 ·have hu:u=0:=by unfold lexP lexN at hz;simp only at hz;grind
  have hv:v=0:=by unfold lexP lexN at hz;simp only at hz;grind
  refine⟨_,List.mem_cons_self,?_⟩;rw[hu,hv];grind
theorem sO {h:List P2}(hne:h≠[]){e1 e2:List P2}(e:gJ h=e1++e2):addP (gp h 0) (sumP e1)∈h:=by
 unfold gJ at e;split at e
 ·match h,hne with
  | a::r,_ =>
   have e':yT (a::(r++[a]))=e1++e2:=e;have key:∀(r:List P2) (b z:P2) (e1:List P2),yT (b::(r++[z]))=e1++e2→addP b (sumP e1)∈b::(r++[z]):=fun r=>by
    induction r with
    | nil =>
     intro b z e1 e
     match e1,e with
     | [],_=>rw[show sumP []=(0,0) from rfl,yY];simp
     | [x],e=>
      simp only[zcm,yT,zaR,List.cons.injEq] at e;rw[← e.1,sumP,show sumP []=(0,0) from rfl,yY,nS];simp
     | x::y::s,e=>simp[yT] at e
    | cons c r ih =>
     intro b z e1 e
     match e1,e with
     | [],_=>rw[show sumP []=(0,0) from rfl,yY];simp
     | x::s,e =>
      rw[zaR,yT,zaR,List.cons.injEq] at e;have:=ih c z s e.2;rw[← e.1,sumP,← qK,nS];exact zbE _ this
   have:=key r a a e1 e';show addP a (sumP e1)∈a::r;simp only[zad,zae,zak,zaY,or_false] at this ⊢;grind
 ·match h,hne with
  | a::r,_ =>
   obtain⟨rfl,rfl⟩:=List.append_eq_nil_iff.1 e.symm;rw[show sumP []=(0,0) from rfl,yY];simp
theorem mrg_pre (p q:List P2):∀ {s t:List P2},mrg p q=s++t→∃ p1 p2 q1 q2,p=p1++p2∧q=q1++q2∧sumP s=addP (sumP p1) (sumP q1):=by
 fun_induction mrg p q with
 | case1 q=>exact fun {s t} e=>⟨[],[],s,t,rfl,e,by rw[show sumP []=(0,0) from rfl,tK,yY]⟩
 | case2 a p=>exact fun {s t} e=>⟨s,t,[],[],e,rfl,by rw[show sumP []=(0,0) from rfl,yY]⟩
 | case3 a p b q h ih =>
  intro s t e
  match s,e with
  | [],e=>exact⟨[],_,[],_,rfl,rfl,by rw[show sumP []=(0,0) from rfl,yY]⟩
  | x::s,e =>
   rw[zaR,List.cons.injEq] at e;obtain⟨p1,p2,q1,q2,h1,h2,h3⟩:=ih e.2;exact⟨a::p1,p2,q1,q2,by rw[h1];rfl,h2,by rw[sumP,sumP,h3,← e.1,qK]⟩
 | case4 a p b q h ih =>
  intro s t e
  match s,e with
  | [],e=>exact⟨[],_,[],_,rfl,rfl,by rw[show sumP []=(0,0) from rfl,yY]⟩
  | x::s,e =>
   rw[zaR,List.cons.injEq] at e;obtain⟨p1,p2,q1,q2,h1,h2,h3⟩:=ih e.2;exact⟨p1,p2,b::q1,q2,h1,by rw[h2];rfl,by rw[sumP,sumP,h3,← e.1,← qK,tK b,qK]⟩
theorem yC0:∀(es:List P2) (at' c:P2),c∈wayS at' es→∃ s t,es=s++t∧c=addP at' (sumP s)
 | [],_,_,h=>by simp[wayS] at h
 | [_],_,_,h=>by simp[wayS] at h
 | e::f::l,a,c,h=>by
  rw[wayS] at h;rcases zad.1 h with rfl | h
  ·exact⟨[e],f::l,rfl,by rw[sumP,show sumP []=(0,0) from rfl,yY]⟩
  ·obtain⟨s,t,h1,h2⟩:=yC0 (f::l) _ c h;exact⟨e::s,t,by rw[h1];rfl,by rw[h2,sumP,qK]⟩
theorem out_of {h k:List P2}(hh:h≠[])(hk:k≠[]){c:P2}(hc:c∈outS h k):∃ a∈h,∃ b∈k,c=addP a b:=by
 have key:∀ s t,mrg (gJ h) (gJ k)=s++t→c=addP (addP (gp h 0) (gp k 0)) (sumP s)→∃ a∈h,∃ b∈k,c=addP a b:=fun s t e ec=>by
  obtain⟨p1,p2,q1,q2,h1,h2,h3⟩:=mrg_pre _ _ e;refine⟨_,sO hh h1,_,sO hk h2,?_⟩;rw[ec,h3];unfold addP;rw[Prod.ext_iff];constructor<;>simp only<;>grind
 unfold outS at hc;rcases zad.1 hc with rfl | hc
 ·exact key [] _ rfl (by rw[show sumP []=(0,0) from rfl,yY])
 ·obtain⟨s,t,h1,h2⟩:=yC0 _ _ _ hc;exact key s t h1 h2
theorem aC:COrd cmpP:=⟨fun a b=>xG,fun a b=>by rw[aL,aK],fun a b c h k=>by rw[← yG8] at *; exact cW h.le k⟩
noncomputable def hullF (l:List P2):List P2:=qR (setOf cmpP l)
theorem eT (l:List P2):(setOf cmpP l).Pairwise ltP:=(gE aC l).rise.imp fun h=>yG8.2 h
theorem jF (l:List P2):IsHull l (hullF l):=by
 have h:=hullS_ok (eT l);exact⟨h.poly,fun c hc=>(yM aC).1 (h.sub c hc),fun q hq=>h.sup q ((yM aC).2 hq)⟩
theorem zY3 {l m:List P2}(h1:∀ q∈l,Sup m q)(h2:∀ q∈m,Sup l q):hullF l=hullF m:=hull_uniq (jF l) (jF m) h1 h2
theorem hull_congr {l m:List P2}(e:∀ q,q∈l↔q∈m):hullF l=hullF m:=zY3 (fun q hq=>dJ ((e q).1 hq)) fun q hq=>dJ ((e q).2 hq)
theorem bG {l:List P2}:hullF l=[]↔l=[]:=by
 constructor
 ·intro h
  match l,h with
  | [],_=>rfl
  | p::r,h=>obtain⟨c,hc,_⟩:=(jF (p::r)).sup p (by simp) 0 0;rw[h] at hc;cases hc
 ·intro h;subst h
  match e:hullF [],(jF []).sub with
  | [],_=>rfl
  | p::r,k=>exact absurd (k p (by simp)) (by simp)
theorem iV (l:List P2):(hullF l).length≤l.length:=bE (jF l).poly.nd (jF l).sub
theorem hullS_fst {l:List P2}(hs:l.Pairwise ltP):∀ q∈l,leP (gp (qR l) 0) q:=fun q hq=>by
 by_cases h2:l.length<2
 ·match l,hq,h2 with
  | [p],hq,_=>rw[zak.1 hq];exact jK _
 obtain⟨mn,mx,A,B,cl,ch,eS,mnl,mxl,hlt,hmx,hmn,_⟩:=mA (by omega) hs;rw[eS];exact hmn q hq
theorem hull_fst {l:List P2}:∀ q∈l,leP (gp (hullF l) 0) q:=fun q hq=>hullS_fst (eT l) q ((yM aC).2 hq)
theorem dE (a b c:P2):trn a a c=0∧trn a b a=0∧trn a b b=0:=by unfold trn zH subP;simp only;grind
theorem hull_left {l:List P2}{q:P2}(hq:Sup (hullF l) q){i:Nat}(hi:i<(hullF l).length):0≤trn (gp (hullF l) i) (nx (hullF l) i) q:=by
 have p:=(jF l).poly;generalize hullF l=h at *;rcases zaf 2 h.length with h3 | h3
 ·exact jR (p.weak hi h3) hq
 ·match h,h3,hi with
  | [a],_,hi =>
   obtain rfl:i=0:=by simpa using hi
   rw[show nx [a] 0=a by simp[nx,gp],show gp [a] 0=a from rfl,(dE a a q).1];exact zaM
  | [a,b],_,hi =>
   have:=zT4 rfl hq;rcases zaf i 1 with c | c
   ·obtain rfl:i=0:=by omega
    have:trn a b q=0:=this;rw[show nx [a,b] 0=b by simp[nx,gp],show gp [a,b] 0=a from rfl,this];exact zaM
   ·obtain rfl:i=1:=by simp only[zaw,zbk] at hi;omega
    rw[show nx [a,b] 1=a by simp[nx,gp],show gp [a,b] 1=b from rfl];have:trn a b q=0:=this;unfold trn zH subP at *; simp only at *; grind
def gH (a b:List P2):List P2:=a.flatMap fun x=>b.map fun y=>addP x y
theorem lT {a b:List P2}{q:P2}:q∈gH a b ↔ ∃ x∈a,∃ y∈b,q=addP x y:=by
 unfold gH;simp only[List.mem_flatMap,List.mem_map];exact⟨fun⟨x,hx,y,hy,e⟩=>⟨x,hx,y,hy,e.symm⟩,fun⟨x,hx,y,hy,e⟩=>⟨x,hx,y,hy,e.symm⟩⟩
noncomputable def sumF (a b:List P2):List P2:=hullF (gH a b)
theorem sum_made {a b:List P2}(ha:a≠[])(hb:b≠[]):hullF (outS (hullF a) (hullF b))=sumF a b:=by
 refine zY3 (fun q hq=>?_) fun q hq=>?_
 ·obtain⟨x,hx,y,hy,rfl⟩:=out_of (fun e=>ha (bG.1 e)) (fun e=>hb (bG.1 e)) hq;exact dJ (lT.2 ⟨x,(jF a).sub x hx,y,(jF b).sub y hy,rfl⟩)
 ·obtain⟨x,hx,y,hy,rfl⟩:=lT.1 hq;have h:∀ {l:List P2} {x:P2},x∈l→setOf cmpP l≠[]:=fun {l x} hx e=>by have:=(yM aC (l:=l)).2 hx;rw[e] at this;cases this
  exact out_sup (eT a) (eT b) (h hx) (h hy) ((yM aC).2 hx) ((yM aC).2 hy)
theorem zT6 {a b:List P2}:sumF a b=[]↔a=[]∨b=[]:=by
 unfold sumF;rw[bG];constructor
 ·intro h
  match a,b,h with
  | [],_,_=>exact .inl rfl
  | _::_,[],_=>exact .inr rfl
  | _::_,_::_,h=>simp[gH] at h
 ·rintro(rfl | rfl)
  ·rfl
  ·simp[gH]
theorem zR6:∀(es:List P2) (a:P2),(wayS a es).length=es.length-1
 | [],_=>rfl
 | [_],_=>rfl
 | e::f::l,a=>by rw[wayS,zaw,zR6 (f::l)];simp
theorem sY:∀ C:List P2,(yT C).length=C.length-1
 | []=>rfl
 | [_]=>rfl
 | a::b::r=>by rw[yT,zaw,sY (b::r)];simp
theorem sR (h:List P2):(gJ h).length=if 1<h.length then h.length else 0:=by
 unfold gJ;split
 ·rw[sY];simp
 ·rfl
theorem out_len (h k:List P2):(outS h k).length≤max 1 (h.length+k.length):=by
 unfold outS;rw[List.length_cons,zR6,mrg_len,sR,sR];split<;>split<;>omega
theorem sumF_len {a b:List P2}(ha:a≠[])(hb:b≠[]):(sumF a b).length≤a.length+b.length:=by
 rw[← sum_made ha hb];have h1:=iV (outS (hullF a) (hullF b));have h2:=out_len (hullF a) (hullF b);have h3:=iV a;have h4:=iV b;have:=List.length_pos_iff.2 ha;omega
theorem yN5 (x:Rat):0≤x*x:=by
 rcases (Rat.le_total:0≤x∨x≤0) with hx | hx
 ·exact zaI hx hx
 ·have:=zaI (show 0 ≤ -x by grind) (show 0 ≤ -x by grind);grind
theorem zZ6 {c n:P2}(h:c≠n):0<(n.1-c.1)*(n.1-c.1)+(n.2-c.2)*(n.2-c.2):=by
 have s1:=yN5 (n.1-c.1);have s2:=yN5 (n.2-c.2);refine Classical.byContradiction fun k=>h ?_;have z1:(n.1-c.1)*(n.1-c.1)=0:=by grind
 have z2:(n.2-c.2)*(n.2-c.2)=0:=by grind
 exact zbd.2 ⟨by rcases zbn.1 z1 with h | h<;>grind,by rcases zbn.1 z2 with h | h<;>grind⟩
theorem seg_two {c n q:P2}(hcn:c≠n)(h:∀ u v:Rat,u*q.1+v*q.2≤u*c.1+v*c.2∨u*q.1+v*q.2≤u*n.1+v*n.2):∃ t:Rat,0≤t∧t≤1∧q.1=c.1+t*(n.1-c.1)∧q.2=c.2+t*(n.2-c.2):=by
 have h1:=h (n.2-c.2) (-(n.1-c.1));have h2:=h (-(n.2-c.2)) (n.1-c.1);have hz:trn c n q=0:=by unfold trn zH subP;simp only;grind
 obtain⟨t,e1,e2⟩:=dV hz hcn;have hd:=zZ6 hcn;have h3:=h (n.1-c.1) (n.2-c.2);have h4:=h (-(n.1-c.1)) (-(n.2-c.2));rw[e1,e2] at h3 h4;refine⟨t,aQ hd ?_,?_,e1,e2⟩
 ·grind
 ·have:=aQ (x:=1-t) hd (by grind);grind
theorem Poly.seg {h:List P2}(p:Poly h)(h2:2≤h.length){i:Nat}(hi:i<h.length){q:P2}(hq:Sup h q) :
  0<trn (gp h i) (nx h i) q ∨ ∃ t:Rat,0≤t∧t≤1∧q.1=(gp h i).1+t*((nx h i).1-(gp h i).1)∧q.2=(gp h i).2+t*((nx h i).2-(gp h i).2):=by
 have hcn:gp h i≠nx h i:=fun e=>cU hi h2 (cI p.nd hi (gI hi) e).symm;rcases zaf 2 h.length with h3 | h3
 ·by_cases k:0<trn (gp h i) (nx h i) q
  ·exact .inl k
  have w:=jR (p.weak hi h3) hq;obtain⟨t,e1,e2⟩:=dV (show trn (gp h i) (nx h i) q=0 by grind) hcn;refine .inr ⟨t,?_,?_,e1,e2⟩
  ·obtain⟨j,hj,ej⟩:=eU hi;have w2:=jR (p.weak hj h3) hq;have hne:(i+1)%h.length≠j:=fun e2=>by
    have h6:(j+1)%h.length=i:=ej;rw[← e2] at h6;rcases zaf (i+1) h.length with c | c
    ·rw[zao c] at h6;rcases zaf (i+1+1) h.length with d | d
     ·rw[zao d] at h6;omega
     ·rw[show i+1+1=h.length by omega,zbs] at h6;omega
    ·rw[show i+1=h.length by omega,zbs,zao (by omega)] at h6;omega
   have k3:=p.conv h3 j ((i+1)%h.length) hj (gI hi) hne (by rw[ej];exact cU hi (by omega));unfold nx at *;rw[ej] at w2 k3;have e:trn (gp h j) (gp h i) q=trn (gp h j) (gp h i) (gp h ((i+1)%h.length))*t:=by unfold trn zH subP;simp only;rw[e1,e2];grind
   rw[e] at w2;exact aQ k3 w2
  ·have w2:=jR (p.weak (gI hi) h3) hq;have hne:((i+1)%h.length+1)%h.length≠i:=fun h6=>by
    rcases zaf (i+1) h.length with c | c
    ·rw[zao c] at h6;rcases zaf (i+1+1) h.length with d | d
     ·rw[zao d] at h6;omega
     ·rw[show i+1+1=h.length by omega,zbs] at h6;omega
    ·rw[show i+1=h.length by omega,zbs,zao (by omega)] at h6;omega
   have k3:=p.conv h3 i _ hi (gI (gI hi)) hne (cU (gI hi) h2);unfold nx at *;have e:trn (gp h ((i+1)%h.length)) (gp h (((i+1)%h.length+1)%h.length)) q=trn (gp h i) (gp h ((i+1)%h.length)) (gp h (((i+1)%h.length+1)%h.length))*(1-t):=by unfold trn zH subP;simp only;rw[e1,e2];grind
   rw[e] at w2;have:=aQ k3 w2;grind
 ·refine .inr (seg_two hcn fun u v=>?_);obtain⟨x,hx,k⟩:=hq u v;obtain⟨m,hm,rfl⟩:=fW hx;by_cases c:m=i
  ·subst c;exact .inl k
  ·have:(i+1)%h.length=m:=by
    have h5:=gI hi;have h6:=cU hi h2;omega
   unfold nx;rw[this];exact .inr k
theorem Poly.far {h:List P2}(p:Poly h)(h2:2≤h.length){i:Nat}(hi:i<h.length):∃ u v:Rat,∀ q,Sup h q→q≠gp h i→u*(gp h i).1+v*(gp h i).2<u*q.1+v*q.2:=by
 have hcn:gp h i≠nx h i:=fun e=>cU hi h2 (cI p.nd hi (gI hi) e).symm;rcases zaf 2 h.length with h3 | h3
 ·obtain⟨j,hj,ej⟩:=eU hi;have hne:(i+1)%h.length≠j:=fun e2=>by
   have h6:(j+1)%h.length=i:=ej;rw[← e2] at h6;rcases zaf (i+1) h.length with c | c
   ·rw[zao c] at h6;rcases zaf (i+1+1) h.length with d | d
    ·rw[zao d] at h6;omega
    ·rw[show i+1+1=h.length by omega,zbs] at h6;omega
   ·rw[show i+1=h.length by omega,zbs,zao (by omega)] at h6;omega
  have k3:=p.conv h3 j ((i+1)%h.length) hj (gI hi) hne (by rw[ej];exact cU hi (by omega));have w1:=fun q hq=>jR (q:=q) (p.weak hi h3) hq;have w2:=fun q hq=>jR (q:=q) (p.weak hj h3) hq;unfold nx at *;rw[ej] at w2 k3;generalize gp h i=c at *;generalize gp h ((i+1)%h.length)=n at *;generalize gp h j=r at *;refine⟨-((n.2-c.2)+(c.2-r.2)),(n.1-c.1)+(c.1-r.1),fun q hq hqc=>?_⟩;have a1:=w1 q hq;have a2:=w2 q hq;refine Classical.byContradiction fun hn=>hqc ?_;have z1:trn c n q=0:=by unfold trn zH subP at *; simp only at *; grind
  have z2:trn r c q=0:=by unfold trn zH subP at *; simp only at *; grind
  have e1:trn r c n*(q.1-c.1)=0:=by unfold trn zH subP at *; simp only at *; grind
  have e2:trn r c n*(q.2-c.2)=0:=by unfold trn zH subP at *; simp only at *; grind
  rcases zbn.1 e1 with f | f
  ·grind
  rcases zbn.1 e2 with g | g
  ·grind
  exact zbd.2 ⟨by grind,by grind⟩
 ·have hd:=zZ6 hcn;refine⟨(nx h i).1-(gp h i).1,(nx h i).2-(gp h i).2,fun q hq hqc=>?_⟩;rcases p.seg h2 hi hq with k | ⟨t,zA0,zA1,e1,e2⟩
  ·have hz:trn (gp h i) (nx h i) q=0:=by
    have hm:∀ x∈h,trn (gp h i) (nx h i) x=0:=fun x hx=>by
     obtain⟨m,hm,rfl⟩:=fW hx;by_cases c:m=i
     ·subst c;exact(dE _ _ (gp h m)).2.1
     ·have:(i+1)%h.length=m:=by
       have h5:=gI hi;have h6:=cU hi h2;omega
      unfold nx;rw[this];exact(dE _ _ (gp h m)).2.2
    have a1:=jR (s:=gp h i) (t:=nx h i) (fun x hx=>by rw[hm x hx];exact zaM) hq;have a2:=jR (s:=nx h i) (t:=gp h i) (fun x hx=>by have:=hm x hx;unfold trn zH subP at *; simp only at *; grind) hq;unfold trn zH subP at *; simp only at *; grind
   rw[hz] at k;exact absurd k (by grind)
  ·have tp:0<t:=Classical.byContradiction fun c=>hqc (by
    have:t=0:=by grind
    rw[zbd,e1,e2,this];constructor<;>grind)
   have:=zaK tp hd;rw[e1,e2];grind
def gS (a best x:P2):P2:=if x=a then best else if best=a then x else if trn a best x<0∨trn a best x=0∧farP a best<farP a x then x else best
def dS (l:List P2)(a:P2):P2:=l.foldl (gS a) a
theorem far_seg {c n q:P2}{t:Rat}(ht:0≤t)(e1:q.1=c.1+t*(n.1-c.1))(e2:q.2=c.2+t*(n.2-c.2)):farP c q=t*farP c n:=by
 have h:∀ x:Rat,absR (t*x)=t*absR x:=fun x=>by
  unfold absR;by_cases c1:x<0
  ·rw[if_pos c1];by_cases c2:t*x<0
   ·rw[if_pos c2];grind
   ·rw[if_neg c2];have:=zaI ht (show 0 ≤ -x by grind);grind
  ·rw[if_neg c1,if_neg];have:=zaI ht (show 0≤x by grind);grind
 unfold farP;rw[e1,e2,show c.1-(c.1+t*(n.1-c.1))=t*(c.1-n.1) by grind,show c.2-(c.2+t*(n.2-c.2))=t*(c.2-n.2) by grind,h,h];grind
theorem far_pos {c n:P2}(h:c≠n):0<farP c n:=by
 have k:∀ x:Rat,0≤absR x∧(absR x=0→x=0):=fun x=>by unfold absR;split<;>grind
 unfold farP;have a:=k (c.1-n.1);have b:=k (c.2-n.2);refine Classical.byContradiction fun z=>h (zbd.2 ⟨?_,?_⟩)
 ·have:=a.2 (by grind);grind
 ·have:=b.2 (by grind);grind
theorem yR9 {c:P2}{u v:Rat}:∀(l pre:List P2) (best:P2),(∀ q∈pre++l,q≠c→u*c.1+v*c.2<u*q.1+v*q.2) →
  ((best=c∧∀ q∈pre,q=c)∨best∈pre∧best≠c∧∀ q∈pre,q≠c→0<trn c best q∨trn c best q=0∧farP c q≤farP c best) →
  (l.foldl (gS c) best=c∧∀ q∈pre++l,q=c)∨l.foldl (gS c) best∈pre++l∧l.foldl (gS c) best≠c∧∀ q∈pre++l,q≠c→0<trn c (l.foldl (gS c) best) q∨trn c (l.foldl (gS c) best) q=0∧farP c q≤farP c (l.foldl (gS c) best)
 | [],pre,best,_,h=>by simpa using h
 | x::l,pre,best,hf,h=>by
  have key:=yR9 l (pre++[x]) (gS c best x) (by simpa using hf) ?_
  ·simpa using key
  unfold gS;by_cases hx:x=c
  ·rw[if_pos hx];rcases h with⟨h1,h2⟩ | ⟨h1,h2,h3⟩
   ·refine .inl ⟨h1,fun q hq=>?_⟩;rcases zae.1 hq with hq | hq
    ·exact h2 q hq
    ·rw[zak.1 hq,hx]
   ·refine .inr ⟨zbJ _ h1,h2,fun q hq hqc=>?_⟩;rcases zae.1 hq with hq | hq
    ·exact h3 q hq hqc
    ·exact absurd ((zak.1 hq).trans hx) hqc
  rw[if_neg hx];rcases h with⟨h1,h2⟩ | ⟨h1,h2,h3⟩
  ·rw[if_pos h1];refine .inr ⟨by simp,hx,fun q hq hqc=>?_⟩;rcases zae.1 hq with hq | hq
   ·exact absurd (h2 q hq) hqc
   ·rw[zak.1 hq];exact .inr ⟨(dE c x x).2.2,zaM⟩
  rw[if_neg h2];have fx:=hf x (by simp) hx;have fb:=hf best (by simp[h1]) h2;by_cases hb:trn c best x<0∨trn c best x=0∧farP c best<farP c x
  ·rw[if_pos hb];refine .inr ⟨by simp,hx,fun q hq hqc=>?_⟩;rcases zae.1 hq with hq | hq
   ·have fq:=hf q (by simp[hq]) hqc;have e:((u*best.1+v*best.2)-(u*c.1+v*c.2))*trn c x q=((u*x.1+v*x.2)-(u*c.1+v*c.2))*trn c best q+((u*q.1+v*q.2)-(u*c.1+v*c.2)) * -trn c best x:=by unfold trn zH subP;simp only;grind
    have pb:0<(u*best.1+v*best.2)-(u*c.1+v*c.2):=by grind
    have px:0<(u*x.1+v*x.2)-(u*c.1+v*c.2):=by grind
    have pq:0<(u*q.1+v*q.2)-(u*c.1+v*c.2):=by grind
    generalize (u*best.1+v*best.2)-(u*c.1+v*c.2)=B at *;generalize (u*x.1+v*x.2)-(u*c.1+v*c.2)=Xx at *;generalize (u*q.1+v*q.2)-(u*c.1+v*c.2)=Q at *;rcases h3 q hq hqc with g | ⟨g,g2⟩
    ·refine .inl (eZ pb ?_);have m1:=zaK px g;have m2:=zaI (zaZ pq) (show 0 ≤ -trn c best x by grind);grind
    ·rcases hb with hb | ⟨hb,hb2⟩
     ·refine .inl (eZ pb ?_);have m2:=zaK pq (show 0 < -trn c best x by grind);rw[e,g];grind
     ·refine .inr ⟨?_,Rat.le_trans g2 (zaZ hb2)⟩;have:B*trn c x q=0:=by rw[e,g,hb];grind
      rcases zbn.1 this with z | z
      ·rw[z] at pb;exact absurd pb (by grind)
      ·exact z
   ·rw[zak.1 hq];exact .inr ⟨(dE c x x).2.2,zaM⟩
  ·rw[if_neg hb];refine .inr ⟨zbJ _ h1,h2,fun q hq hqc=>?_⟩;rcases zae.1 hq with hq | hq
   ·exact h3 q hq hqc
   ·rw[zak.1 hq];by_cases z:trn c best x=0
    ·exact .inr ⟨z,by grind⟩
    ·exact .inl (by grind)
theorem next_ok {l:List P2}(h2:2≤(hullF l).length){i:Nat}(hi:i<(hullF l).length):dS l (gp (hullF l) i)=nx (hullF l) i:=by
 have k:=jF l;obtain⟨u,v,hf⟩:=k.poly.far h2 hi;have hcn:gp (hullF l) i≠nx (hullF l) i:=fun e=>cU hi h2 (cI k.poly.nd hi (gI hi) e).symm;have hn:=k.sub _ (jH (gI hi));have key:=yR9 (c:=gp (hullF l) i) (u:=u) (v:=v) l [] (gp (hullF l) i) (fun q hq hqc=>hf q (k.sup q (by simpa using hq)) hqc) (.inl ⟨rfl,by simp⟩);rw[zcm] at key;change ((dS l (gp (hullF l) i))=_∧_)∨(dS l (gp (hullF l) i))∈l∧(dS l (gp (hullF l) i))≠_∧∀ q∈l,q≠_→0<trn _ (dS l (gp (hullF l) i)) q∨trn _ (dS l (gp (hullF l) i)) q=0∧_≤farP _ (dS l (gp (hullF l) i)) at key;generalize dS l (gp (hullF l) i)=best at *;rcases key with⟨_,h⟩ | ⟨h3,h4,h5⟩
 ·exact absurd (h _ hn).symm hcn
 have g:=h5 _ hn (Ne.symm hcn);have hs:=k.poly.seg h2 hi (k.sup best h3);unfold nx at *;generalize gp (hullF l) i=c at *;generalize gp (hullF l) ((i+1)%(hullF l).length)=n at *;have e0:trn c best n = -trn c n best:=by unfold trn zH subP;simp only;grind
 rcases hs with hs | ⟨t,zA0,zA1,e1,e2⟩
 ·rw[e0] at g;grind
 ·have ez:trn c n best=0:=by unfold trn zH subP;simp only;rw[e1,e2];grind
  rcases g with g | ⟨_,g⟩
  ·rw[e0,ez] at g;exact absurd g (by grind)
  ·rw[far_seg zA0 e1 e2] at g;have fp:=far_pos hcn;have:t=1:=by
    refine Classical.byContradiction fun c0=>?_;have:=zaK (show 0<1-t by grind) fp;grind
   rw[zbd,e1,e2,this];constructor<;>grind
end Go.SL
namespace Go.Proofs.YtalkinejknjidaaGreatDoor
open Go.SL Go.RowKit Go.Proofs Tryz
section
variable {Ψ Φ : PV} {n m N : Nat} {p q : P2} {a b : List P2}
theorem vpt_pl [h:VPt Ψ n a]{M:Nat→Prop}{w:World}{v:Value}(h1:Ψ.p M w v):∀ x∈a,plen x (n+1):=fun x hx=>by
 obtain⟨cs,h3,h2⟩:=(h.h h1).row;obtain⟨i,hi,rfl⟩:=zbg.1 hx;obtain⟨us,_,_,s,x,d,t,b,e,_,g⟩:=h2 i _ (zag hi);exact⟨g.x.rlen,g.y.rlen⟩
end
theorem ps_nil0 {k:Nat}:PSub (exP (.slice none 0 0)) (sv (sl k [])):=fun M w v h=>by
 obtain rfl:v = .slice none 0 0:=h;exact⟨_,[],rfl,⟨by simp,by simp,none,0,rfl,zab _,.inl rfl⟩,rfl,by simp[uB]⟩
theorem sub_nought (p:P2):subP (((0:Nat):Rat),((0:Nat):Rat)) p=negP p:=by
 unfold subP negP;rw[Prod.ext_iff];constructor<;>simp only<;>grind
theorem k8neg {Ψ:PV}{p:P2}{n:Nat}[h:QP Ψ n p](hn:n≤800):CTy prog 256 [Ψ] (ag (ptc (n+5) (negP p))):=by
 refine yI (σs:=[ag (ptq n p)]) ?_ (fs1 qp_q fs0);refine fw [.cell 2 39] func256 fun X=>?_;iterate 3 refine u ?_
 refine u fun b2=>?_;iterate 2 refine u ?_
 refine zK 3 mixed rfl rfl ?_;repeat refine u ?_
 refine zC rfl rfl (k8of (by(simp;done)) (by(simp;done))) ?_;repeat refine u ?_
 refine zC rfl rfl (vR (by omega) (by omega)) ?_;repeat refine u ?_
 refine zD 0 rfl rfl ?_;repeat refine u ?_
 refine⟨[_],zL 0 rfl rs0,yD ?_⟩;exact rS (p:=subP (((0:Nat):Rat),((0:Nat):Rat)) p) (sub_nought p) (by omega)
theorem k8alike {p q:P2}{n m:Nat}(hn:n≤1990)(hm:m≤1990):CTy prog 121 [ag (ptc n p),ag (ptc m q)] (exP (.bool (decide (p=q)))):=by
 refine fw [.tmp 4] func121 fun X=>?_;repeat refine u ?_
 refine zB rfl rfl (yI6 (by omega) (by omega)) ?_;repeat refine u ?_
 refine t1g rfl rfl (oca rfl rfl fun g=>yI6 (by omega) (by omega)) ?_;repeat refine u ?_
 refine e ?_;refine psb ?_;rw[← Bool.decide_and,decide_eq_decide,zbd]
theorem pcx_n {n:Nat}{l:List PX}(h:∀ a∈l,big2 a≤n):PSub (sv (pcx l)) (sv (pcs n (l.map px))):=fun M w v k=>by
 unfold pcx pcs at *;rw[List.map_map];exact cL (f:=ptx) (g:=ptq n ∘ px) (fun a ha _ _ _=>by
  have:=h a ha;unfold big2 m4 at this;dsimp only at this;exact yO0 a (by omega) (by omega) (by omega) (by omega)) (fun _=>rfl) k
theorem sum_len' (a b:List P2):(sumF a b).length≤a.length+b.length:=by
 by_cases ha:a=[]
 ·rw[zT6.2 (.inl ha)];simp
 by_cases hb:b=[]
 ·rw[zT6.2 (.inr hb)];simp
 exact sumF_len ha hb
instance:TAr prog 100 3 6:=⟨_,_,_,_,_,underlying100,sz39,yD8,rfl⟩
theorem cp_q {c:CT}{n:Nat}{q:P2}[h:CP c n q]{M:Nat→Prop}{w:World}{us:List Value}(k:c.p M w us):(ptq n q).p M w us:=by
 obtain⟨us',e,k'⟩:=qp_q (Ψ:=ag c) (n:=n) (q:=q) M w (.agg us.toArray) ⟨us,rfl,k⟩;have:us=us':=by simpa using e
 rw[this];exact k'
theorem tri_q {c1 c2 c3:CT}{m:Nat}{a b c:P2}[h1:CP c1 m a][h2:CP c2 m b][h3:CP c3 m c]:PSub (ag (st [c1,c2,c3])) (ag (st [ptq m a,ptq m b,ptq m c])):=fun M w v ⟨us,e,x,y,e1,k1,x2,y2,e2,k2,x3,y3,e3,k3,k4⟩ =>
 ⟨us,e,x,y,e1,cp_q k1,x2,y2,e2,cp_q k2,x3,y3,e3,cp_q k3,k4⟩
theorem k18corn {n:Nat}{a b c:P2}:CTy prog 97 [ag (st [ptq n a,ptq n b,ptq n c])] (sv (sl 6 ([a,b,c].map (ptq n)))):=by
 refine fw [.tmp 2] func97 fun X=>?_;repeat refine u ?_
 refine zA1 (oia 0 rfl rfl rfl rfl rfl) ?_;repeat refine u ?_
 refine zA1 (oia 1 rfl rfl rfl rfl rfl) ?_;repeat refine u ?_
 refine zA1 (oia 2 rfl rfl rfl rfl rfl) ?_;repeat refine u ?_
 exact e
theorem yF0 {d:PX}{n:Nat}(h:big2 d≤n){M:Nat→Prop}{w:World}{us:List Value}(k:(ptx d).p M w us):(ptq n (px d)).p M w us:=by
 unfold big2 m4 at h;dsimp only at h;exact yO0 d (by omega) (by omega) (by omega) (by omega) k
theorem trx_c {a b c:PX}{n:Nat}(h1:big2 a≤n)(h2:big2 b≤n)(h3:big2 c≤n):∀ M w us,(st [ptx a,ptx b,ptx c]).p M w us→(st [ptq n (px a),ptq n (px b),ptq n (px c)]).p M w us:=fun M w us ⟨x,y,e1,k1,x2,y2,e2,k2,x3,y3,e3,k3,k4⟩ =>
 ⟨x,y,e1,yF0 h1 k1,x2,y2,e2,yF0 h2 k2,x3,y3,e3,yF0 h3 k3,k4⟩
theorem k18cornc {c1 c2 c3:CT}{m:Nat}{a b c:P2}[h1:CP c1 m a][h2:CP c2 m b][h3:CP c3 m c]:CTy prog 97 [ag (st [c1,c2,c3])] (sv (sl 6 ([a,b,c].map (ptq m)))):=yI k18corn (fs1 tri_q fs0)
abbrev TX3:=PX×PX×PX
def trx (t:TX3):CT:=st [ptx t.1,ptx t.2.1,ptx t.2.2]
def trl (t:TX3):List PX:=[t.1,t.2.1,t.2.2]
instance:Df TX3:=⟨(Df.d,Df.d,Df.d)⟩
theorem zL2 {a b c:PX}:CTy prog 97 [ag (st [ptx a,ptx b,ptx c])] (sv (pcx [a,b,c])):=by
 refine fw [.tmp 2] func97 fun X=>?_;repeat refine u ?_
 refine zA1 (oia 0 rfl rfl rfl rfl rfl) ?_;repeat refine u ?_
 refine zA1 (oia 1 rfl rfl rfl rfl rfl) ?_;repeat refine u ?_
 refine zA1 (oia 2 rfl rfl rfl rfl rfl) ?_;repeat refine u ?_
 exact e
def pP (l:List TX3):Bool:=decide (8<l.length) || l.any fun t=>gr18 (trl t)
theorem gtris_at {l:List TX3}{i:Nat}(h:i<l.length)(k:gr18 (trl (l.getD i Df.d))=true):pP l=true:=by
 rw[zah,zag h,zbu] at k;unfold pP;rw[Bool.or_eq_true];exact .inr (List.any_eq_true.2 ⟨_,zaP h,k⟩)
theorem kgtris {l:List TX3}:CTy prog 96 [sv (sl 18 (l.map trx))] (exP (.bool (pP l))):=by
 refine fw [.tmp 2] func96 fun X=>?_;repeat refine u ?_
 refine lp (σ:=Nat) [0] (fun i=>[(3,True,zJ i)]) (fun i=>[]) (fun i=>i≤l.length∧i≤9∧∀ j,j<i→gr18 (trl (l.getD j Df.d))=false) (fun i=>l.length-i) (0) (⟨by omega,by omega,by omega⟩) fun i hJ Y _=>?_;obtain⟨hi,h9,hs⟩:=hJ;repeat refine u ?_
 refine ti (fun c0=>?_) fun c0=>?_;repeat refine u ?_
 refine zA1 (oix _ rfl rfl rfl (fun _=>rfl) (fun _=>(by(have e0:=dand c0;omega)))) ?_;repeat refine u ?_
 refine zB rfl rfl zL2 ?_;refine zB rfl rfl kg18 ?_;repeat refine u ?_
 refine ti (fun c1=>?_) fun c1=>?_;repeat refine u ?_
 refine e ?_;refine psb ?_;rotate_left;repeat refine u ?_
 rotate_left;repeat refine u ?_
 refine e ?_;refine psb ?_;rotate_left
 ·have:=dand c0;exact(gtris_at (i:=i) (by omega) c1.h).symm
 ·have:=dand c0;refine nxt (i+1) ?_;refine⟨by omega,by omega,fun j hj=>?_⟩;rcases zaf j i with c | c
  ·exact hs j c
  ·rw[show j=i by omega];exact c1.h
 ·have:=dor c0;unfold pP;rw[zcz,zcf,decide_eq_true_eq,decide_eq_true_eq,List.any_eq_true];refine⟨fun h => .inl (by omega),fun h=>?_⟩;rcases h with h | ⟨a,ha,h⟩
  ·omega
  ·obtain⟨k,hk,rfl⟩:=zbg.1 ha;rcases zaf k i with c | c
   ·have h2:=hs k c;rw[zah,zag hk,zbu,h] at h2;cases h2
   ·omega
theorem yR1 {Ψ:PV}{p:Rat}{n:Nat}[h:QR Ψ n p](hn:n≤900):CTy prog 191 [Ψ] (ag (rtc (n+5) (absR p))):=by
 refine yI (σs:=[ag (rtq n p)]) ?_ (fs1 qr_q fs0);refine fw [.cell 2 29] func191 fun X=>?_;iterate 3 refine u ?_
 refine u fun b2=>?_;repeat refine u ?_
 refine zB rfl rfl (yI7 (by omega)) ?_;repeat refine u ?_
 refine ti (fun c0=>?_) fun c0=>?_;refine u ?_;refine zK 3 mixed rfl rfl ?_;repeat refine u ?_
 refine zC rfl rfl (k7of (by(simp;done))) ?_;repeat refine u ?_
 refine zC rfl rfl (zX8 (by omega) (by omega)) ?_;repeat refine u ?_
 refine e ?_;rotate_left;repeat refine u ?_
 refine zB rfl rfl (dX (by omega)) ?_;repeat refine u ?_
 refine e ?_;rotate_left
 ·have h:=eR.1 (dt c0);exact bB (by omega) (by unfold absR;rw[if_pos h];grind)
 ·have h:¬ p<0:=fun k=>df c0 (eR.2 k);exact bB (by omega) (by unfold absR;rw[if_neg h])
theorem k20turn {Ψ Φ Θ:PV}{a b c:P2}{n m k:Nat}[h1:QP Ψ n a][h2:QP Φ m b][h3:QP Θ k c](hn:n≤90)(hm:m≤90)(hk:k≤90):CTy prog 344 [Ψ,Φ,Θ] (exP (.int .i64 (sgnR (trn a b c)))):=by
 refine yI (σs:=[ag (ptq n a),ag (ptq m b),ag (ptq k c)]) ?_ (fs1 qp_q (fs1 qp_q (fs1 qp_q fs0)));refine fw [.tmp 6] func344 fun X=>?_;iterate 8 refine u ?_
 refine zK 9 mixed rfl rfl ?_;repeat refine u ?_
 refine zC rfl rfl (vR (by omega) (by omega)) ?_;repeat refine u ?_
 refine zC rfl rfl (vR (by omega) (by omega)) ?_;refine zC rfl rfl (k8cross (by omega) (by omega)) ?_;refine zC rfl rfl (yI7 (by omega)) ?_;repeat refine u ?_
 exact e
theorem yQ9 {Ψ Φ:PV}{a b:P2}{n m:Nat}[h1:QP Ψ n a][h2:QP Φ m b](hn:n≤90)(hm:m≤90):CTy prog 116 [Ψ,Φ] (ag (rtc (2*(n+m+8)+8) (farP a b))):=by
 refine yI (σs:=[ag (ptq n a),ag (ptq m b)]) ?_ (fs1 qp_q (fs1 qp_q fs0));refine fw [.cell 4 29] func116 fun X=>?_;iterate 4 refine u ?_
 refine u fun b4=>?_;repeat refine u ?_
 refine zB rfl rfl (vR (by omega) (by omega)) ?_;refine u fun b5=>?_;refine zD 0 rfl rfl (zO (zY (s:=5) 0 rfl rfl) ?_);iterate 2 refine u ?_
 refine zK 8 mixed rfl rfl ?_;repeat refine u ?_
 refine zC rfl rfl (yR1 (by omega)) ?_;repeat refine u ?_
 refine zC rfl rfl (yR1 (by omega)) ?_;repeat refine u ?_
 refine zC rfl rfl (zX9 (by omega)) ?_;repeat refine u ?_
 refine zD 0 rfl rfl ?_;repeat refine u ?_
 refine⟨[_],zL 0 rfl rs0,yD ?_⟩;exact bB (by omega) rfl
theorem k20next {l:List P2}{a:P2}{n:Nat}(hn:n≤90)(hl:l.length≤1000):CTy prog 309 [sv (sl 6 (l.map (ptc n))),ag (ptc n a)] (ag (ptc n (dS l a))):=by
 refine fw [.cell 4 39] func309 fun X=>?_;iterate 3 refine u ?_
 refine u fun b4=>?_;iterate 4 refine u ?_
 refine u fun b5=>?_;refine zD 0 rfl rfl ?_;repeat refine u ?_
 have step:∀ i,i<l.length→(l.take (i+1)).foldl (gS a) a=gS a ((l.take i).foldl (gS a) a) (gp l i):=fun i hi=>by
  rw[(zT (Df.d:P2) hi).1,List.foldl_append];rfl
 refine lp (σ:=Nat) [0,3,4,5] (fun i=>[(6,True,zJ i)]) (fun i=>[.blk b5 39 [ptc n ((l.take i).foldl (gS a) a)],.blk b4 39 (zc (.agg #[.bool false,.slice none 0 0,.slice none 0 0,.bool false,.slice none 0 0,.slice none 0 0]))]) (fun i=>i≤l.length) (fun i=>l.length-i) (0) ((by simp)) fun i hJ Y _=>?_;generalize hb:(l.take i).foldl (gS a) a=best;repeat refine u ?_
 refine ti (fun c0=>?_) fun c0=>?_;iterate 5 refine u ?_
 refine zK 6 mixed rfl rfl ?_;repeat refine u ?_
 refine d1 (oix _ rfl rfl rfl (fun _=>rfl) (fun _=>(by(have e0:=dt c0;omega)))) ?_;repeat refine u ?_
 refine zC rfl rfl (nH (by omega) (by omega)) ?_;repeat refine u ?_
 refine ti (fun c1=>?_) fun c1=>?_;repeat refine u ?_
 rotate_left;repeat refine u ?_
 refine zB rfl rfl (nH (by omega) (by omega)) ?_;repeat refine u ?_
 refine ti (fun c2=>?_) fun c2=>?_;repeat refine u ?_
 refine zA1 (oix _ rfl rfl rfl (fun _=>rfl) (fun _=>(by(have e0:=dt c0;have e1:=df c1;have e2:=dt c2;omega)))) ?_;repeat refine u ?_
 refine zD 0 rfl rfl ?_;repeat refine u ?_
 rotate_left;iterate 2 refine u ?_
 refine zK 8 mixed rfl rfl ?_;repeat refine u ?_
 refine d1 (oix _ rfl rfl rfl (fun _=>rfl) (fun _=>(by(have e0:=dt c0;have e1:=df c1;have e2:=df c2;omega)))) ?_;repeat refine u ?_
 refine zC rfl rfl (k20turn (by omega) (by omega) (by omega)) ?_;iterate 5 refine u ?_
 refine zK 19 mixed rfl rfl ?_;repeat refine u ?_
 refine d1g rfl rfl (oca rfl rfl fun g=>yQ9 (by omega) (by omega)) ?_;repeat refine u ?_
 refine d1g rfl rfl (oix _ rfl rfl rfl (fun g=>rfl) (fun g=>(by(have e0:=dt c0;have e1:=df c1;have e2:=df c2;omega)))) ?_;repeat refine u ?_
 refine d1g rfl rfl (oca rfl rfl fun g=>yQ9 (by omega) (by omega)) ?_;refine d1g rfl rfl (oca rfl rfl fun g=>zK9 (by omega) (by omega)) ?_;repeat refine u ?_
 refine ti (fun c3=>?_) fun c3=>?_;repeat refine u ?_
 refine zA1 (omv rfl) ?_;refine zA1 (omv rfl) ?_;refine zA1 (oix _ rfl rfl rfl (fun _=>rfl) (fun _=>(by(have e0:=dt c0;have e1:=df c1;have e2:=df c2;omega)))) ?_;repeat refine u ?_
 refine zD 0 rfl rfl ?_;repeat refine u ?_
 refine zA1 (omv rfl) ?_;repeat refine u ?_
 rotate_left;repeat refine u ?_
 rotate_left;repeat refine u ?_
 refine zD 1 rfl rfl ?_;repeat refine u ?_
 refine⟨[_],zL 1 rfl rs0,yD ?_⟩;rotate_left
 ·have e:(l.take (i+1)).foldl (gS a) a=best:=by
   rw[step i (by have:=dt c0;omega),hb];unfold gS;rw[if_pos (show gp l i=a from xG.1 (dt c1))]
  refine⟨i+1,tes ?_ ?_ ?_,(by(have e0:=dt c0;have e1:=dt c1;omega)),(by(have e0:=dt c0;have e1:=dt c1;omega))⟩;refine zA rfl tn;refine zA rfl (zA rfl (zA rfl (zA rfl tn)));rw[e];exact zaa _
 ·have h1:¬ gp l i=a:=fun c=>df c1 (xG.2 c);have e:(l.take (i+1)).foldl (gS a) a=gp l i:=by
   rw[step i (by have:=dt c0;omega),hb];unfold gS;rw[if_neg h1,if_pos (show best=a from xG.1 (dt c2))]
  refine⟨i+1,tes ?_ ?_ ?_,(by(have e0:=dt c0;have e1:=df c1;have e2:=dt c2;omega)),(by(have e0:=dt c0;have e1:=df c1;have e2:=dt c2;omega))⟩;refine zA rfl tn;refine zA rfl (zA rfl (zA rfl (zA rfl tn)));rw[e];exact zaa _
 ·have h1:¬ gp l i=a:=fun c=>df c1 (xG.2 c);have h2:¬ best=a:=fun c=>df c2 (xG.2 c);have h3:trn a best (gp l i)<0∨trn a best (gp l i)=0∧farP a best<farP a (gp l i):=by
   have h:=c3.h;rw[zcf,zaq,decide_eq_true_eq,decide_eq_true_eq,decide_eq_true_eq,eR,lM,yO] at h;exact h
  have e:(l.take (i+1)).foldl (gS a) a=gp l i:=by
   rw[step i (by have:=dt c0;omega),hb];unfold gS;rw[if_neg h1,if_neg h2,if_pos h3]
  refine⟨i+1,tes ?_ ?_ ?_,(by(have e0:=dt c0;have e1:=df c1;have e2:=df c2;omega)),(by(have e0:=dt c0;have e1:=df c1;have e2:=df c2;omega))⟩;refine zA rfl tn;refine zA rfl (zA rfl (zA rfl (zA rfl tn)));rw[e];exact zaa _
 ·have h1:¬ gp l i=a:=fun c=>df c1 (xG.2 c);have h2:¬ best=a:=fun c=>df c2 (xG.2 c);have h3:¬ (trn a best (gp l i)<0∨trn a best (gp l i)=0∧farP a best<farP a (gp l i)):=by
   have h:=c3.h;rw[Bool.or_eq_false_iff,Bool.and_eq_false_iff,decide_eq_false_iff_not,decide_eq_false_iff_not,decide_eq_false_iff_not,eR,lM,yO] at h;exact fun k=>k.elim h.1 fun k=>h.2.elim (fun h=>h k.1) fun h=>h k.2
  have e:(l.take (i+1)).foldl (gS a) a=best:=by
   rw[step i (by have:=dt c0;omega),hb];unfold gS;rw[if_neg h1,if_neg h2,if_neg h3]
  refine⟨i+1,tes ?_ ?_ ?_,(by(have e0:=dt c0;have e1:=df c1;have e2:=df c2;omega)),(by(have e0:=dt c0;have e1:=df c1;have e2:=df c2;omega))⟩;refine zA rfl tn;refine zA rfl (zA rfl (zA rfl (zA rfl tn)));rw[e];exact zaa _
 ·have:=df c0;rw[← hb,zaz (by omega)];exact PSub.refl _
theorem zT5 {x q:P2}(h:Sup [x] q):q=x:=by
 have e:∀ u v:Rat,u*q.1+v*q.2≤u*x.1+v*x.2:=fun u v=>by
  obtain⟨c,hc,h⟩:=h u v;rw[zak] at hc;rw[hc] at h;exact h
 have a:=e 1 0;have b:=e (-1) 0;have c:=e 0 1;have d:=e 0 (-1);rw[zbd];constructor<;>grind
theorem iU (l:List P2):hullF (setOf cmpP l)=hullF l:=hull_congr fun q=>yM aC
theorem hull_few {l:List P2}(h:(setOf cmpP l).length<2):setOf cmpP l=hullF l:=by
 unfold hullF qR;rw[if_pos (by omega)]
theorem hull_two {l:List P2}(h:2≤(setOf cmpP l).length):2≤(hullF l).length:=by
 have ok:=jF l;refine zcu fun c=>?_
 match hs:setOf cmpP l,h with
 | x::y::r,_ =>
  have hp:=eT l;rw[hs] at hp;have hxy:=(zav.1 hp).1 y (by simp);have hx:x∈l:=(yM aC).1 (by rw[hs];simp);have hy:y∈l:=(yM aC).1 (by rw[hs];simp)
  match he:hullF l,c with
  | [],_=>rw[bG] at he;rw[he] at hx;cases hx
  | [z],_ =>
   have h1:=ok.sup _ hx;have h2:=ok.sup _ hy;rw[he] at h1 h2;have h1:=zT5 h1;have h2:=zT5 h2;exact hxy.ne (h1.trans h2.symm)
  | _::_::_,c=>simp only[zaw] at c;omega
theorem set_fst {l:List P2}(h:l≠[]):gp (setOf cmpP l) 0=gp (hullF l) 0:=by
 have ok:=jF l;have hn:hullF l≠[]:=fun c=>h (bG.1 c);have h1:gp (hullF l) 0∈setOf cmpP l:=(yM aC).2 (ok.sub _ (jH (List.length_pos_iff.2 hn)))
 match hs:setOf cmpP l,h1 with
 | x::r,h1 =>
  have hp:=eT l;rw[hs] at hp;have hx:x∈l:=(yM aC).1 (by rw[hs];simp);have h2:=hull_fst _ hx;show x=_;rcases zad.1 h1 with e | e
  ·exact e.symm
  ·have h3:=(zav.1 hp).1 _ e;exfalso;generalize gp (hullF l) 0=y at *;exact(cW h2 h3).ne rfl
theorem k20hull {l:List P2}{n:Nat}(hn:n≤80)(hl:l.length≤100)(h1:∀ x∈l,plen x (n+1)):CTy prog 255 [sv (sl 6 (l.map (ptq n)))] (sv (sl 6 ((hullF l).map (ptc (n+1))))):=by
 refine fw [.tmp 2] func255 fun X=>?_;repeat refine u ?_
 refine yZ (σ:=Nat) (fun i=>[(4,True,zJ i),(3,True,sv (sl 6 ((setOf cmpP (l.take i)).map (ptc (n+1)))))]) (fun i=>[]) (fun i=>i≤l.length) (fun i=>l.length-i) (0) (tk 0 rfl (tk 2 rfl tn)) ?_ rfl ((by omega)) (fun i hJ Y _=>?_);refine zA rfl ?_;refine tc rfl ?_ ?_;rotate_left;refine tn;rotate_left
 ·rw[List.take_zero,show setOf cmpP ([]:List P2)=[] from zcv.1 (Nat.le_zero.1 (kL aC [])),zbe];exact ps_nil0
 have hsl:∀ i,(setOf cmpP (l.take i)).length≤100:=fun i=>zac (kL aC _) (by rw[zaE];omega);have hsl2:(setOf cmpP l).length≤100:=zac (kL aC _) hl;repeat refine u ?_
 refine ti (fun c0=>?_) fun c0=>?_;repeat refine u ?_
 refine zA1 (oix _ rfl rfl rfl (fun _=>rfl) (fun _=>(by(have e0:=dt c0;omega)))) ?_;repeat refine u ?_
 refine zB rfl rfl (k10put (by omega) (by omega) ?_ ?_) ?_;rotate_left;rotate_left;repeat refine u ?_
 rotate_left;repeat refine u ?_
 refine ti (fun c1=>?_) fun c1=>?_;repeat refine u ?_
 refine e ?_;rotate_left;repeat refine u ?_
 refine zA1 (oix _ rfl rfl rfl (fun _=>rfl) (fun _=>(by(have e0:=df c1;simp;omega)))) ?_;refine u ?_;refine tbs rfl rfl rfl rfl rfl rfl fun r27=>?_;repeat refine u ?_
 rotate_left
 ·exact zac (hsl i) (by omega)
 ·have h:=h1 _ (jH (h:=l) (i:=i) (by have:=dt c0;omega));exact⟨h.x,h.y⟩
 ·refine⟨i+1,tes ?_ ?_ (zaa _),(by(have e0:=dt c0;omega)),(by(have e0:=dt c0;omega))⟩;refine zA rfl ?_;refine tc rfl ?_ ?_;rotate_left;refine tn;refine zA rfl (zA rfl tn);rw[(zT (Df.d:P2) (show i<l.length by have:=dt c0;omega)).1];exact PSub.refl _
 ·have h0:=df c0;have h:=dt c1;rw[zaz (by omega)] at h ⊢;rw[hull_few (by omega)];exact PSub.refl _
 have h0:=df c0;rw[zaz (show l.length≤i by omega)] at *;have h2:=hull_two (l:=l) (by have:=df c1;omega);have hL:l≠[]:=fun e=>by rw[e,bG.2 rfl] at h2;simp at h2
 have ok:=jF l;have hlen:(hullF l).length≤(setOf cmpP l).length:=by have:=iV (setOf cmpP l);rw[iU] at this;exact this
 have hf:(setOf cmpP l).getD 0 Df.d=gp (hullF l) 0:=set_fst hL;refine yZ (σ:=Nat×Value) (fun s=>[(6,True,zJ s.1),(5,True,exP s.2)]) (fun s=>[.row s.2 39 6 (((hullF l).take (s.1+1)).map (ptc (n+1)))]) (fun s=>s.1+1≤(hullF l).length) (fun s=>(setOf cmpP l).length-s.1) ((0,r27)) (tk 3 rfl tn) ?_ ?_ ((by dsimp only;omega)) (fun s hJ Y _=>?_);refine zA rfl (zA rfl tn);rotate_left;rotate_left
 ·rw[hf]
  match he:hullF l,h2 with
  | x::r,_=>rfl
 obtain⟨i',v⟩:=s;dsimp only at hJ ⊢;have hll:((hullF l).take (i'+1)).length=i'+1:=by rw[zaE];omega
 have hla:((hullF l).take (i'+1)).getD i' Df.d=gp (hullF l) i':=by
  rw[zah,zaN,if_pos (by omega),← zah];rfl
 have hx:dS (setOf cmpP l) (((hullF l).take (i'+1)).getD i' Df.d)=nx (hullF l) i':=by
  have h:=next_ok (l:=setOf cmpP l) (by rw[iU];exact h2) (i:=i') (by rw[iU];omega);rw[iU] at h;rw[hla];exact h
 repeat refine u ?_
 refine ti (fun c2=>?_) fun c2=>?_;iterate 10 refine u ?_
 refine zA1 (oixo 0 i' rfl rfl rfl (fun _=>(by omega)) (fun _=>(by(simp;omega)))) ?_;repeat refine u ?_
 refine zB rfl rfl (k20next (by omega) (by omega)) ?_;refine u fun b7=>?_;refine zD 0 rfl rfl (zO (zY (s:=7) 0 rfl rfl) ?_);iterate 3 refine u ?_
 refine zK 5 mixed rfl rfl ?_;repeat refine u ?_
 refine zC rfl rfl (nH (by omega) (by omega)) ?_;repeat refine u ?_
 refine ti (fun c3=>?_) fun c3=>?_;iterate 5 refine u ?_
 refine t_ts (yV (s:=2) 0 rfl rfl) ?_;repeat refine u ?_
 refine e ?_;rotate_left;repeat refine u ?_
 refine tap 0 rfl rfl rfl (by(simp;omega)) rfl fun r51=>?_;repeat refine u ?_
 rotate_left;iterate 7 refine u ?_
 refine t_ts (yV (s:=2) 0 rfl rfl) ?_;repeat refine u ?_
 refine e ?_;rotate_left
 ·have h:=xG.1 (dt c3);have h3:nx (hullF l) i'=gp (hullF l) 0:=hx.symm.trans (Eq.trans h hf);have h4:i'+1=(hullF l).length:=by
   refine Nat.le_antisymm hJ (zcu fun c=>?_);unfold nx at h3;rw[zao c] at h3;exact absurd (cI ok.poly.nd c (by omega) h3) (by omega)
  rw[h4,zaF];exact PSub.refl _
 ·have h:¬ nx (hullF l) i'=gp (hullF l) 0:=fun e=>df c3 (xG.2 (Eq.trans hx (e.trans hf.symm)));have h4:i'+1<(hullF l).length:=by
   refine Nat.lt_of_le_of_ne hJ fun e=>h ?_;unfold nx;rw[e,zbs]
  have h5:nx (hullF l) i'=gp (hullF l) (i'+1):=by unfold nx;rw[Nat.mod_eq_of_lt h4]
  refine nxt ((i'+1,r51)) (by omega) (hS:=?_);dsimp only;rw[(zT (Df.d:P2) h4).1,zay,show (hullF l).getD (i'+1) Df.d=dS (setOf cmpP l) (((hullF l).take (i'+1)).getD i' Df.d) from(hx.trans h5).symm];exact zaa _
 ·have:=df c2;omega
theorem k20hullc {Ψ:PV}{l:List P2}{n:Nat}[h:VPt Ψ n l](hn:n≤80)(hl:l.length≤100):CTy prog 255 [Ψ] (sv (sl 6 ((hullF l).map (ptc (n+1))))) :=
 ⟨(bo func255),fun M w vs hM hT hv=>by
  obtain⟨v,e,h1⟩:=fa1 hv;exact(k20hull hn hl (vpt_pl h1)).run M w vs hM hT ((fs1 rD fs0) _ _ _ hv)⟩
theorem k20flip {Ψ:PV}{l:List P2}{n:Nat}[h:VPt Ψ n l](hn:n≤300)(hl:l.length≤100):CTy prog 178 [Ψ] (sv (sl 6 ((l.map negP).map (ptc (n+5))))):=by
 refine yI (σs:=[sv (sl 6 (l.map (ptq n)))]) ?_ (fs1 rD fs0);refine fw [.tmp 2] func178 fun X=>?_;repeat refine u ?_
 refine t_ts (jG 39 6) ?_;refine lp (σ:=Nat×Value) [0,2] (fun s=>[(3,True,exP s.2),(4,True,zJ s.1)]) (fun s=>[.row s.2 39 6 (((l.take s.1).map negP).map (ptc (n+5)))]) (fun s=>s.1≤l.length) (fun s=>l.length-s.1) ((0,.slice none 0 0)) ((by simp)) fun s hJ Y _=>?_;repeat refine u ?_
 refine ti (fun c0=>?_) fun c0=>?_;repeat refine u ?_
 refine zA1 (oix _ rfl rfl rfl (fun _=>rfl) (fun _=>(by(have e0:=dt c0;omega)))) ?_;repeat refine u ?_
 refine zB rfl rfl (k8neg (by omega)) ?_;refine u ?_;refine u fun r18=>?_;repeat refine u ?_
 rotate_left;iterate 7 refine u ?_
 refine t_ts (yV (s:=2) 0 rfl rfl) ?_;repeat refine u ?_
 refine e ?_;rotate_left
 ·refine⟨(s.1+1,r18),tes ?_ ?_ ?_,(by(have e0:=dt c0;omega)),(by(have e0:=dt c0;omega))⟩;refine zA rfl (zA rfl tn);refine zA rfl (zA rfl tn);rw[(zT (Df.d:P2) (show s.1<l.length by have:=dt c0;omega)).1,zay,zay];rw[zcl];exact zaa _
 ·have h0:=df c0;rw[zaz (by omega)];exact PSub.refl _
theorem pairs_len (a b:List P2):(gH a b).length=a.length*b.length:=by
 induction a with
 | nil=>simp[gH]
 | cons x a ih =>
  unfold gH at *;rw[zcd,zal,ih,zar,zaw,zaQ,zbm,Nat.add_comm]
theorem pairs_snoc (a b:List P2)(x:P2):gH (a++[x]) b=gH a b++b.map fun y=>addP x y:=by
 unfold gH;rw[List.flatMap_append];simp
theorem k20sum {Ψ Φ:PV}{a b:List P2}{n m:Nat}[h:VPt Ψ n a][k:VPt Φ m b](hn:n≤30)(hm:m≤30)(ha:a.length≤10)(hb:b.length≤10):CTy prog 177 [Ψ,Φ] (sv (sl 6 ((sumF a b).map (ptc (2*max n m+8+1))))):=by
 refine yI (σs:=[sv (sl 6 (a.map (ptq n))),sv (sl 6 (b.map (ptq m)))]) ?_ (fs1 rD (fs1 rD fs0));refine fw [.tmp 4] func177 fun X=>?_;repeat refine u ?_
 refine t_ts (jG 39 6) ?_;refine lp (σ:=Nat×Value) [0,1,4] (fun s=>[(5,True,exP s.2),(6,True,zJ s.1)]) (fun s=>[.row s.2 39 6 ((gH (a.take s.1) b).map (ptc (2*max n m+8)))]) (fun s=>s.1≤a.length) (fun s=>a.length-s.1) ((0,.slice none 0 0)) ((by simp)) fun s hJ Y _=>?_;obtain⟨i,v⟩:=s;dsimp only at hJ ⊢;have hlp:∀ i,(gH (a.take i) b).length≤100:=fun i=>by
  rw[pairs_len];exact zac (zaT (show (a.take i).length≤10 by rw[zaE];omega) hb) (by decide)
 repeat refine u ?_
 refine ti (fun c0=>?_) fun c0=>?_;repeat refine u ?_
 rotate_left;repeat refine u ?_
 rotate_left
 ·have hi:=dt c0;refine yZ (σ:=Nat×Value) (fun s=>[(5,True,exP s.2),(7,True,zJ s.1)]) (fun s=>[.row s.2 39 6 ((gH (a.take i) b++(b.take s.1).map fun y=>addP (gp a i) y).map (ptc (2*max n m+8)))]) (fun s=>s.1≤b.length) (fun s=>b.length-s.1) ((0,v)) (tk 0 rfl (tk 1 rfl (tk 4 rfl (tk 6 rfl tn)))) ?_ (by(simp;done)) ((by simp)) (fun s hJ Y _=>?_);refine zA rfl (zA rfl tn);obtain⟨k,u⟩:=s;dsimp only at hJ ⊢;have hlk:(gH (a.take i) b++(b.take k).map fun y=>addP (gp a i) y).length≤200:=by
   rw[zal,zar,zaE];have:=hlp i;omega
  refine zR ?_;refine zR ?_;refine zZ rfl ?_;refine zA1 (omv rfl) ?_;refine zA1 (omv rfl) ?_;refine zA1 (oln rfl) ?_;refine zA1 (olt rfl rfl) ?_;refine zA0 ?_;refine ti (fun c1=>?_) fun c1=>?_;refine qT ?_;refine zR ?_;refine iG (zK 11 mixed rfl rfl ?_);refine d1 (omv rfl) ?_;refine d1 (omv rfl) ?_;refine d1 (omv rfl) ?_;refine d1 (oix _ rfl rfl rfl (fun _=>rfl) (fun _=>(by omega))) ?_;refine d1 (old rfl rfl) ?_;refine d1 (omv rfl) ?_;refine d1 (omv rfl) ?_;refine d1 (oix _ rfl rfl rfl (fun _=>rfl) (fun _=>(by(have e0:=dt c1;omega)))) ?_;refine d1 (old rfl rfl) (zC rfl rfl (k8addc (by omega) (by omega)) ?_);refine d1 (obs rfl rfl rfl rfl rfl rfl) ?_;refine d0 ?_;refine tap 0 rfl rfl rfl ?_ rfl fun r31=>?_;rotate_left;refine zA1 (oas rfl) ?_;refine zA0 ?_;refine zZ rfl ?_;refine zA1 (omv rfl) ?_;refine zA1 (oad rfl rfl (by omega)) ?_;refine zA1 (oas rfl) ?_;refine zA0 ?_;rotate_left;refine zO5 ?_;refine zZ rfl ?_;refine zA1 (omv rfl) ?_;refine zA1 (oad rfl rfl (by omega)) ?_;refine zA1 (oas rfl) ?_;refine zA0 ?_;rotate_left
  ·rw[zar,zcr];omega
  ·have hk:=dt c1;refine⟨(k+1,r31),tes ?_ ?_ ?_,(by omega),(by omega)⟩;refine zA rfl (zA rfl tn);refine zA rfl (zA rfl (zA rfl (zA rfl tn)));have e:(gH (a.take i) b++(b.take (k+1)).map fun y=>addP (gp a i) y)=(gH (a.take i) b++(b.take k).map fun y=>addP (gp a i) y)++[addP (gp a i) (gp b k)]:=by
    rw[(zT (Df.d:P2) (show k<b.length by omega)).1,zay,zaA];rfl
   dsimp only;rw[e,zay,zcl,zcl];exact zaa _
  ·have hk:=df c1;refine⟨(i+1,u),tes ?_ ?_ ?_,(by omega),(by omega)⟩;refine zA rfl (zA rfl tn);refine zA rfl (zA rfl (zA rfl tn));rw[(zT (Df.d:P2) (show i<a.length by omega)).1,pairs_snoc,zaz (show b.length≤k by omega)];exact zaa _
 ·have hi:=df c0;rw[zaz (show a.length≤i by omega)] at *;refine zO (yV 0 rfl (s:=32) rfl) ?_;have hl:=hlp a.length;rw[zaF] at hl;refine zB rfl rfl (k20hullc (by omega) (by omega)) ?_;repeat refine u ?_
  exact e
theorem k20piece {l:List P2}{a b c:P2}{n m:Nat}(hn:n≤20)(hm:m≤20)(hl:l.length≤10):CTy prog 101 [sv (sl 6 (l.map (ptq n))),ag (st [ptq m a,ptq m b,ptq m c])] (sv (sl 6 ((sumF [a,b,c] (l.map negP)).map (ptc (2*max m (n+5)+8+1))))):=by
 have h3:([a,b,c]:List P2).length≤10:=by simp
 have h4:(l.map negP).length≤10:=by rw[zar];omega
 refine fw [.tmp 4] func101 fun X=>?_;repeat refine u ?_
 refine zB rfl rfl k18cornc ?_;repeat refine u ?_
 refine zB rfl rfl (k20flip (by omega) (by omega)) ?_;refine zB rfl rfl (k20sum (by omega) (by omega) (by omega) (by omega)) ?_;repeat refine u ?_
 refine e ?_;rw[zcl];exact PSub.refl _
abbrev T3P:=P2×P2×P2
def trq (n:Nat)(t:T3P):CT:=st [ptq n t.1,ptq n t.2.1,ptq n t.2.2]
def t3l (t:T3P):List P2:=[t.1,t.2.1,t.2.2]
instance:Df T3P:=⟨((0,0),(0,0),(0,0))⟩
theorem k20pieces {l:List P2}{ts:List T3P}{n m:Nat}(hn:n≤20)(hm:m≤20)(hl:l.length≤10)(ht:ts.length≤100):CTy prog 34 [sv (sl 6 (l.map (ptq n))),sv (sl 18 (ts.map (trq m)))] (sv (sl 1 ((ts.map fun t=>sumF (t3l t) (l.map negP)).map fun x=>sl 6 (x.map (ptc (2*max m (n+5)+8+1)))))):=by
 refine fw [.tmp 4] func34 fun X=>?_;repeat refine u ?_
 refine t_ts (jG 22 1) ?_;refine lp (σ:=Nat×Value) [0,1,4] (fun s=>[(5,True,exP s.2),(6,True,zJ s.1)]) (fun s=>[.row s.2 22 1 (((ts.take s.1).map fun t=>sumF (t3l t) (l.map negP)).map fun x=>sl 6 (x.map (ptc (2*max m (n+5)+8+1))))]) (fun s=>s.1≤ts.length) (fun s=>ts.length-s.1) ((0,.slice none 0 0)) ((by simp)) fun s hJ Y _=>?_;repeat refine u ?_
 refine ti (fun c0=>?_) fun c0=>?_;repeat refine u ?_
 refine zA1 (oix _ rfl rfl rfl (fun _=>rfl) (fun _=>(by(have e0:=dt c0;omega)))) ?_;repeat refine u ?_
 refine zB rfl rfl (k20piece (by omega) (by omega) (by omega)) ?_;refine u ?_;refine u fun r21=>?_;repeat refine u ?_
 rotate_left;iterate 7 refine u ?_
 refine t_ts (yV (s:=4) 0 rfl rfl) ?_;repeat refine u ?_
 refine e ?_;rotate_left
 ·refine⟨(s.1+1,r21),tes ?_ ?_ ?_,(by(have e0:=dt c0;omega)),(by(have e0:=dt c0;omega))⟩;refine zA rfl (zA rfl tn);refine zA rfl (zA rfl (zA rfl tn));rw[(zT (Df.d:T3P) (show s.1<ts.length by have:=dt c0;omega)).1,zay];exact zaa _
 ·have h0:=df c0;rw[zaz (by omega)];exact PSub.refl _
def px3 (t:TX3):T3P:=(px t.1,px t.2.1,px t.2.2)
theorem trx_n {n:Nat}{l:List TX3}(h:∀ t∈l,∀ a∈trl t,big2 a≤n):PSub (sv (sl 18 (l.map trx))) (sv (sl 18 ((l.map px3).map (trq n)))):=fun M w v k=>by
 rw[List.map_map];exact cL (f:=trx) (g:=trq n ∘ px3) (fun t ht M w us k=>trx_c (h t ht t.1 (by simp[trl])) (h t ht t.2.1 (by simp[trl])) (h t ht t.2.2 (by simp[trl])) M w us k) (fun _=>rfl) k
theorem nF {a b p:P2}(h:a.1<b.1)(hl:0≤trn a b p):zM a b p.1≤p.2:=by
 obtain⟨k,e1,e2⟩:=xB (a:=a) (b:=b) (by grind);rw[e1];refine Classical.byContradiction fun c=>?_;have h1:0<b.1-a.1:=by grind
 have h2:0<a.2+k*(p.1-a.1)-p.2:=by grind
 have h3:=zaK h1 h2;have e3:trn a b p = -((b.1-a.1)*(a.2+k*(p.1-a.1)-p.2)):=by unfold trn zH subP;simp only;rw[← e2];grind
 grind
theorem nG {a b p:P2}(h:b.1<a.1)(hl:0≤trn a b p):p.2≤zM a b p.1:=by
 obtain⟨k,e1,e2⟩:=xB (a:=a) (b:=b) (by grind);rw[e1];refine Classical.byContradiction fun c=>?_;have h1:0<a.1-b.1:=by grind
 have h2:0<p.2-(a.2+k*(p.1-a.1)):=by grind
 have h3:=zaK h1 h2;have e3:trn a b p = -((a.1-b.1)*(p.2-(a.2+k*(p.1-a.1)))):=by unfold trn zH subP;simp only;rw[← e2];grind
 grind
theorem yL9 {c d z f0 f1 fz:Rat}(hcd:c<d)(hz:c≤z∧z≤d)(h0:0≤f0)(h1:0≤f1)(e:(d-c)*fz=(d-z)*f0+(z-c)*f1):0≤fz:=by
 refine Classical.byContradiction fun k=>?_;have h2:0<d-c:=by grind
 have h3:0 < -fz:=by grind
 have h4:=zaK h2 h3;have h5:0≤d-z:=by grind
 have h6:0≤z-c:=by grind
 have h7:=zaI h5 h0;have h8:=zaI h6 h1;grind
theorem yE3 {a b c d:P2}{z:Rat}(hcd:c.1<d.1)(hz:c.1≤z∧z≤d.1)(hab:a.1≠b.1)(hc:zM a b c.1≤c.2)(hd:zM a b d.1≤d.2):zM a b z≤zM c d z:=by
 obtain⟨k,e1,e2⟩:=xB (a:=a) (b:=b) hab;obtain⟨m,e3,e4⟩:=xB (a:=c) (b:=d) (by grind);rw[e1] at hc hd;rw[e1,e3];have:=yL9 (fz:=c.2+m*(z-c.1)-(a.2+k*(z-a.1))) hcd hz (f0:=c.2-(a.2+k*(c.1-a.1))) (f1:=d.2-(a.2+k*(d.1-a.1))) (by grind) (by grind) (by
  have e5:d.2=c.2+m*(d.1-c.1):=by grind
  rw[e5];grind)
 grind
theorem yE4 {a b c d:P2}{z:Rat}(hcd:c.1<d.1)(hz:c.1≤z∧z≤d.1)(hab:a.1≠b.1)(hc:c.2≤zM a b c.1)(hd:d.2≤zM a b d.1):zM c d z≤zM a b z:=by
 obtain⟨k,e1,e2⟩:=xB (a:=a) (b:=b) hab;obtain⟨m,e3,e4⟩:=xB (a:=c) (b:=d) (by grind);rw[e1] at hc hd;rw[e1,e3];have:=yL9 (fz:=a.2+k*(z-a.1)-(c.2+m*(z-c.1))) hcd hz (f0:=a.2+k*(c.1-a.1)-c.2) (f1:=a.2+k*(d.1-a.1)-d.2) (by grind) (by grind) (by
  have e5:d.2=c.2+m*(d.1-c.1):=by grind
  rw[e5];grind)
 grind
theorem dZ {a b:P2}(h:a.1≠b.1)(z:Rat):zM a b z=zM b a z:=by
 obtain⟨k,e1,e2⟩:=xB (a:=a) (b:=b) h;obtain⟨m,e3,e4⟩:=xB (a:=b) (b:=a) (fun e=>h e.symm);rw[e1,e3];have h1:(k-m)*(b.1-a.1)=0:=by grind
 have h2:b.1-a.1≠0:=by grind
 have h3:k-m=0:=by
  rcases zbn.1 h1 with c | c
  ·exact c
  ·exact absurd c h2
 have h4:k=m:=by grind
 subst h4;grind
theorem yG3 {a b:Rat}(h:a≠b):a<b∨b<a:=by grind
theorem hull_still {h:List P2}{i j:Nat}(hl:∀ k,k<h.length→0≤trn (gp h i) (nx h i) (gp h k))(hj:j<h.length)(ni:(gp h i).1≠(nx h i).1)(nj:(gp h j).1≠(nx h j).1) :
  (∀ z,((gp h j).1≤z∧z≤(nx h j).1∨(nx h j).1≤z∧z≤(gp h j).1)→zM (gp h i) (nx h i) z≤zM (gp h j) (nx h j) z) ∨
  ∀ z,((gp h j).1≤z∧z≤(nx h j).1∨(nx h j).1≤z∧z≤(gp h j).1)→zM (gp h j) (nx h j) z≤zM (gp h i) (nx h i) z:=by
 have h1:=hl j hj;have h2:=hl ((j+1)%h.length) (zaH _ (by omega));change 0≤trn (gp h i) (nx h i) (nx h j) at h2;generalize gp h i=a at *;generalize nx h i=b at *;generalize gp h j=c at *;generalize nx h j=d at *;rcases yG3 ni with k | k
 ·refine .inl fun z hz=>?_;rcases yG3 nj with q | q
  ·exact yE3 q (by grind) ni (nF k h1) (nF k h2)
  ·rw[dZ nj];exact yE3 q (by grind) ni (nF k h2) (nF k h1)
 ·refine .inr fun z hz=>?_;rcases yG3 nj with q | q
  ·exact yE4 q (by grind) ni (nG k h1) (nG k h2)
  ·rw[dZ nj];exact yE4 q (by grind) ni (nG k h2) (nG k h1)
end Go.Proofs.YtalkinejknjidaaGreatDoor
namespace Go.SL
def Cpb (a b:P2):Prop:=a.1≤b.1∧a.2≤b.2∨b.1≤a.1∧b.2≤a.2
theorem Cpb.symm {a b:P2}(h:Cpb a b):Cpb b a:=h.elim .inr .inl
theorem cpb_rise {a b:P2}(hc:cmpL a b<0)(h:Cpb a b):zU6 a b:=by
 rw[lE] at hc;unfold leL at hc;have hn:a≠b:=fun e=>by subst e;grind
 rcases h with h | h
 ·exact⟨h.1,h.2,hn⟩
 ·refine⟨?_,?_,hn⟩<;>grind
theorem lv_rises {lo hi yl yh:Rat}{es:List (P2×P2)}{l:List P2}(h:IsLv lo hi yl yh es l)(hc:∀ a∈l,∀ b∈l,Cpb a b):lQ l:=fun i hi'=>by
 have h1:=zcK.1 h.rise i (i+1) (by omega) hi' (by omega);rw[zah,zah,zag (show i<l.length by omega),zag hi'];exact cpb_rise h1 (hc _ (zaP _) _ (zaP _))
theorem lP {l:List P2}(h:lQ l):∀ j i,i≤j→j<l.length→(l.getD i (0,0)).1≤(l.getD j (0,0)).1∧(l.getD i (0,0)).2≤(l.getD j (0,0)).2
  | 0, i, h1, h2 => by obtain rfl : i = 0 := by omega
                       exact⟨zaM,zaM⟩
  | j+1,i,h1,h2=>by
    rcases zaf j i with c | c
    · obtain rfl:i=j+1:=by omega
      exact⟨zaM,zaM⟩
    · have a:=lP h j i c (by omega);have b:=h j h2;exact⟨Rat.le_trans a.1 b.1,Rat.le_trans a.2 b.2.1⟩
theorem lv_ends {lo hi yl yh:Rat}{es:List (P2×P2)}{l:List P2}(h:IsLv lo hi yl yh es l)(hr:lQ l)(hy:yl<yh)(hb:∀ a∈l,yl≤a.1∧yl≤a.2∧a.1≤yh∧a.2≤yh) :
  2≤l.length∧(l.getD 0 (0,0))=(yl,yl)∧l.getD (l.length-1) (0,0)=(yh,yh):=by
 have m0:(yl,yl)∈l:=(h.mem _).2 (by simp);have m1:(yh,yh)∈l:=(h.mem _).2 (by simp);obtain⟨i,hi,ei⟩:=zbg.1 m0;obtain⟨j,hj,ej⟩:=zbg.1 m1;have gi:l.getD i (0,0)=(yl,yl):=by rw[zah,zag hi];exact ei
 have gj:l.getD j (0,0)=(yh,yh):=by rw[zah,zag hj];exact ej
 have hm:∀ k,k<l.length→l.getD k (0,0)∈l:=fun k hk=>by rw[zah,zag hk];exact zaP _
 have b0:=hb _ (hm 0 (by omega));have b1:=hb _ (hm (l.length-1) (by omega));have r0:=lP hr i 0 (by omega) hi;have r1:=lP hr (l.length-1) j (by omega) (by omega);rw[gi] at r0;rw[gj] at r1;simp only at r0 r1;have hne:i≠j:=fun e=>by subst e;rw[gi] at gj;have:=congrArg Prod.fst gj;simp only at this;grind
 refine⟨by omega,Prod.ext ?_ ?_,Prod.ext ?_ ?_⟩<;>simp only<;>grind
theorem zN7 {f:Rat→Rat}{c k lo hi:Rat}(hf:∀ z,f z=c+k*z)(h:lo<hi)(hs:∀ x y,lo<x∧x<hi→lo<y∧y<hi→¬ (0<f x∧f y<0))(a:0<f lo)(b:f hi<0):False:=by
 have ⟨s,s0,s1,e⟩:∃ s:Rat,0<s∧s<1∧s*(f lo-f hi)=f lo:=by
  refine⟨f lo/(f lo-f hi),?_,?_,zcE (by grind)⟩
  ·rw[Rat.lt_div_iff (by grind)];grind
  ·rw[Rat.div_lt_iff (by grind)];grind
 have p0:=zaK s0 (show 0<hi-lo by grind);have p1:=zaK (show 0<1-s by grind) (show 0<hi-lo by grind);have p2:(1-s)*(hi-lo)=hi-lo-s*(hi-lo):=by grind
 have g1:f (lo+s*(hi-lo)/2)=f lo-s*(f lo-f hi)/2:=by rw[hf,hf lo,hf hi];grind
 have g2:f (hi-(hi-lo-s*(hi-lo))/2)=f hi-(f hi-f lo+s*(f lo-f hi))/2:=by rw[hf,hf lo,hf hi];grind
 rw[p2] at p1;generalize s*(hi-lo)=d at *;rw[e] at g1 g2;exact hs _ _ (by constructor<;>grind) (by constructor<;>grind) ⟨by rw[g1];grind,by rw[g2];grind⟩
theorem aff_ends {f:Rat→Rat}{c k lo hi:Rat}(hf:∀ z,f z=c+k*z)(h:lo<hi)(hs:∀ x y,lo<x∧x<hi→lo<y∧y<hi→¬ (0<f x∧f y<0)):f lo≤0∧f hi≤0∨0≤f lo∧0≤f hi:=by
 refine Classical.byContradiction fun hn=>?_;have h0:0<f lo∧f hi<0∨0 < -f lo ∧ -f hi<0:=by grind
 rcases h0 with⟨a,b⟩ | ⟨a,b⟩
 ·exact zN7 hf h hs a b
 ·exact zN7 (f:=fun z => -f z) (c:=-c) (k:=-k) (fun z=>by rw[hf];grind) h (fun x y hx hy q=>hs y x hy hx ⟨by grind,by grind⟩) a b
end Go.SL
namespace Go.Proofs.YtalkinejknjidaaGreatDoor
open Go.SL Go.RowKit Go.Proofs Tryz
def minQ (a b:Rat):Rat:=if b<a then b else a
def maxQ (a b:Rat):Rat:=if a<b then b else a
theorem eQ {l:List PX}(h:qE l=true):∀ a∈l,big2 a≤1:=fun a ha=>by
 have h:=zaC.1 h a ha;rw[zaq] at h;have h1:=wP h.1;have h2:=wP h.2;unfold big2 m4;dsimp only;omega
abbrev BX:=P2×P2
def boxS (b:BX)(p:P2):BX:=((minQ b.1.1 p.1,minQ b.1.2 p.2),(maxQ b.2.1 p.1,maxQ b.2.2 p.2))
def boxF (l:List P2):BX:=l.foldl boxS (gp l 0,gp l 0)
theorem bT {n m:Nat}{p:P2}(h:m≤n){M:Nat→Prop}{w:World}{us:List Value}(k:(ptc m p).p M w us):(ptc n p).p M w us:=by
 obtain⟨x,y,e,⟨s,a,d,e2,g⟩,z,o,e3,⟨t,b,f,e4,g2⟩,e5⟩:=k;exact⟨x,y,e,⟨s,a,d,e2,g.up h⟩,z,o,e3,⟨t,b,f,e4,g2.up h⟩,e5⟩
theorem box2 {n:Nat}{p q:P2}{M:Nat→Prop}{w:World}{us:List Value}(k:stp [st [ptc n p,ptc n q]] M w us):stp [ptc n p,ptc n q] M w us:=by
 obtain⟨u,o,rfl,k1,k8⟩:=k;obtain rfl:o=[]:=k8;rw[zas];exact k1
theorem box41 {n:Nat}{p q:P2}{M:Nat→Prop}{w:World}{us:List Value}(k:stp [rtc n p.1,rtc n p.2,rtc n q.1,rtc n q.2] M w us):stp [st [ptc n p,ptc n q]] M w us:=by
 obtain⟨a,a2,rfl,k1,b,b2,rfl,k2,c,c2,rfl,k4,d,d2,rfl,k5,k6⟩:=k;obtain rfl:d2=[]:=k6;exact⟨(a++b)++(c++d),[],by simp,⟨a++b,c++d,rfl,⟨a,b,rfl,k1,b,[],by simp,k2,rfl⟩,c++d,[],(by simp),⟨c,d,rfl,k4,d,[],by simp,k5,rfl⟩,rfl⟩,rfl⟩
theorem box4 {n:Nat}{p q:P2}{M:Nat→Prop}{w:World}{us:List Value}(k:stp [ptc n p,ptc n q] M w us):stp [rtc n p.1,rtc n p.2,rtc n q.1,rtc n q.2] M w us:=by
 obtain⟨x,y,rfl,⟨a,a2,rfl,k1,b,b2,rfl,k2,k3⟩,x2,y2,rfl,⟨c,c2,rfl,k4,d,d2,rfl,k5,k6⟩,k7⟩:=k;obtain rfl:b2=[]:=k3;obtain rfl:d2=[]:=k6;obtain rfl:y2=[]:=k7;exact⟨a,b++(c++d),by simp,k1,b,c++d,rfl,k2,c,d,rfl,k4,d,[],by simp,k5,rfl⟩
def zQ (ls:zF):BX:=(subP (boxF ls.flatten).1 (((1:Nat):Rat),((1:Nat):Rat)),addP (boxF ls.flatten).2 (((1:Nat):Rat),((1:Nat):Rat)))
instance {n:Nat}{p:P2}{d:CT}:FA (st [ptc n p,d]) 0 (ptc n p):=⟨fun h=>gQ (l:=[ptc n p,d]) (o:=0) h rfl⟩
instance {n:Nat}{p:P2}{d:CT}:FA (st [ptc n p,d]) 6 d:=⟨fun h=>gQ (l:=[ptc n p,d]) (o:=6) h rfl⟩
def ordE (e:BX):BX:=if 0<cmpP e.1 e.2 then(e.2,e.1) else e
def gV (l:List P2):List BX:=(List.range l.length).map fun k=>ordE (gp l k,nx l k)
def yW (ls:zF):List BX:=ls.flatMap gV
def ect (n:Nat)(e:BX):CT:=st [ptc n e.1,ptc n e.2]
theorem iB {ls:zF}(h:∀ l∈ls,l.length≤9):(yW ls).length≤ls.length*9:=by
 induction ls with
 | nil=>simp[yW]
 | cons l ls ih =>
  have h1:=ih fun x hx=>h x (by simp[hx]);have h2:=h l (by simp);unfold yW at *;rw[zcd,zal,zaw];have e:(gV l).length=l.length:=by unfold gV;simp
  omega
def InB (b:BX)(p:P2):Prop:=b.1.1≤p.1∧p.1≤b.2.1∧b.1.2≤p.2∧p.2≤b.2.2
theorem inb_step {b:BX}{p q:P2}(h:InB b p):InB (boxS b q) p∧InB (boxS b q) q:=by
 unfold InB boxS minQ maxQ at *;dsimp only at *;refine⟨⟨?_,?_,?_,?_⟩,?_,?_,?_,?_⟩<;>split<;>grind
theorem pN:∀(l:List P2) (b:BX) (p:P2),InB b p→InB (l.foldl boxS b) p∧∀ q∈l,InB (l.foldl boxS b) q
 | [],b,p,h=>⟨h,fun q hq=>by cases hq⟩
 | x::l,b,p,h=>by
  have h1:=inb_step (q:=x) h;have h2:=pN l (boxS b x) p h1.1;have h3:=pN l (boxS b x) x h1.2;refine⟨h2.1,fun q hq=>?_⟩;rcases zad.1 hq with rfl | hq
  ·exact h3.1
  ·exact h2.2 q hq
theorem box_in (l:List P2):(∀ q∈l,InB (boxF l) q)∧(boxF l).1.1≤(boxF l).2.1∧(boxF l).1.2≤(boxF l).2.2:=by
 have h:=pN l (gp l 0,gp l 0) (gp l 0) ⟨zaM,zaM,zaM,zaM⟩;refine⟨h.2,?_⟩;have h1:=h.1;unfold InB at h1;exact⟨Rat.le_trans h1.1 h1.2.1,Rat.le_trans h1.2.2.1 h1.2.2.2⟩
theorem yO7:((1:Nat):Rat)=1:=rfl
theorem eD (ls:zF):(∀ l∈ls,∀ q∈l,(zQ ls).1.1<q.1∧q.1<(zQ ls).2.1∧(zQ ls).1.2<q.2∧q.2<(zQ ls).2.2)∧(zQ ls).1.1<(zQ ls).2.1∧(zQ ls).1.2<(zQ ls).2.2:=by
 have h:=box_in ls.flatten;unfold zQ subP addP;dsimp only;rw[yO7];refine⟨fun l hl q hq=>?_,by grind,by grind⟩;have h1:=h.1 q (List.mem_flatten.2 ⟨l,hl,hq⟩);unfold InB at h1;grind
theorem nN {ls:zF}{e:BX}(h:e∈yW ls):∃ i k,i<ls.length∧k<(ls.getD i []).length∧e=ordE (gp (ls.getD i []) k,nx (ls.getD i []) k):=by
 unfold yW gV at h;obtain⟨l,hl,h⟩:=zbN.1 h;obtain⟨k,hk,rfl⟩:=zai.1 h;obtain⟨i,hi,rfl⟩:=zbg.1 hl;have e:ls.getD i []=ls[i]:=by rw[zah,zag hi];rfl
 exact⟨i,k,hi,by rw[e];exact zbq.1 hk,by rw[e]⟩
def Thr (lo hi:Rat)(a b:P2):Prop:=a.1≤lo∧hi≤b.1∨b.1≤lo∧hi≤a.1
theorem vG {lo hi:Rat}{a b:P2}(h:uP lo hi (ordE (a,b)))(hlh:lo<hi):Thr lo hi a b∧qG lo hi (ordE (a,b))=(zM a b lo,zM a b hi):=by
 unfold ordE at *;unfold uP at h;split at h
 ·rename_i c;dsimp only at h;unfold qG;rw[if_pos c];dsimp only;have hs:=dZ (a:=b) (b:=a) (by grind);rw[hs,hs];exact⟨.inr (by grind),rfl⟩
 ·rename_i c;dsimp only at h;rw[if_neg c];exact⟨.inl (by grind),rfl⟩
theorem oG {lo hi:Rat}{a b:P2}(h:Thr lo hi a b)(hl:lo<hi):a.1≠b.1:=by unfold Thr at h;grind
theorem yL1 {x y u v:Rat}(h:x≤u∧y≤v∨u≤x∧v≤y):Cpb (x,y) (u,v):=h
theorem cmp_sw {p q r s:Rat}(h:cmpR p q=cmpR r s):¬ (0<p-q∧r-s<0):=fun c=>by
 have h1:0<cmpR p q:=gC.2 (by grind);have h2:cmpR r s<0:=yO.2 (by grind);omega
theorem dF {lo hi z:Rat}{a b:P2}(h:Thr lo hi a b)(h1:lo<z)(h2:z<hi):mI a b z=true:=by
 unfold mI Thr at *;simp only[zcf,zaq,decide_eq_true_eq];grind
theorem rK {lo hi:Rat}{a b c d:P2}(hl:lo<hi)(zA1:Thr lo hi a b)(zA2:Thr lo hi c d)(h:∀ x y,lo<x∧x<hi→lo<y∧y<hi→cmpR (zM a b x) (zM c d x)=cmpR (zM a b y) (zM c d y)) :
  Cpb (zM a b lo,zM a b hi) (zM c d lo,zM c d hi):=by
 obtain⟨k,e1,_⟩:=xB (oG zA1 hl);obtain⟨m,e2,_⟩:=xB (oG zA2 hl);have h3:=aff_ends (f:=fun z=>zM a b z-zM c d z) (c:=a.2-k*a.1-(c.2-m*c.1)) (k:=k-m) (fun z=>by rw[e1,e2];grind) hl fun x y hx hy=>cmp_sw (h x y hx hy);refine yL1 ?_;rcases h3 with h3 | h3
 ·exact .inl (by grind)
 ·exact .inr (by grind)
theorem levels_cpb {ls:zF}{b:BX}{j:Nat}(hls:∀ l∈ls,∃ m,l=hullF m)(hj:j+1<(cutsOf ls b).length){e f:BX}(h1:e∈yW ls)(h2:f∈yW ls)
  (zA1:uP ((cutsOf ls b).getD j 0) ((cutsOf ls b).getD (j+1) 0) e) (zA2:uP ((cutsOf ls b).getD j 0) ((cutsOf ls b).getD (j+1) 0) f):Cpb (qG ((cutsOf ls b).getD j 0) ((cutsOf ls b).getD (j+1) 0) e) (qG ((cutsOf ls b).getD j 0) ((cutsOf ls b).getD (j+1) 0) f):=by
 have hl:=bJ ls b j hj;have hstill:=fun i k x y=>still_cuts (ls:=ls) (b:=b) (j:=j) (i:=i) (k:=k) (x:=x) (y:=y) hj;generalize (cutsOf ls b).getD j 0=lo at *;generalize (cutsOf ls b).getD (j+1) 0=hi at *;obtain⟨i,k,hi1,hk1,rfl⟩:=nN h1;obtain⟨i2,k2,hi2,hk2,rfl⟩:=nN h2;obtain⟨zA1,g1⟩:=vG zA1 hl;obtain⟨zA2,g2⟩:=vG zA2 hl;rw[g1,g2];have hh:∀ i,i<ls.length→∃ m,ls.getD i []=hullF m:=fun i hi=>hls _ (by rw[zah,zag hi];exact zaP hi);rcases zcy i i2 with c | c | c
 ·refine Cpb.symm (rK hl zA2 zA1 fun x y hx hy=>?_);exact hstill i2 i x y c hi2 hx hy k2 k hk2 hk1 (dF zA2 hx.1 hx.2) (dF zA1 hx.1 hx.2) (dF zA2 hy.1 hy.2) (dF zA1 hy.1 hy.2)
 ·subst c;obtain⟨m,em⟩:=hh i hi1;rw[em] at hk1 hk2 zA1 zA2 ⊢;have h3:=hull_still (i:=k) (j:=k2) (h:=hullF m) (fun q hq=>hull_left (dJ (jH hq)) hk1) hk2 (oG zA1 hl) (oG zA2 hl);have r1:(gp (hullF m) k2).1≤lo∧lo≤(nx (hullF m) k2).1∨(nx (hullF m) k2).1≤lo∧lo≤(gp (hullF m) k2).1:=by unfold Thr at zA2;grind
  have r2:(gp (hullF m) k2).1≤hi∧hi≤(nx (hullF m) k2).1∨(nx (hullF m) k2).1≤hi∧hi≤(gp (hullF m) k2).1:=by unfold Thr at zA2;grind
  refine yL1 ?_;rcases h3 with h3 | h3
  ·exact .inl ⟨h3 lo r1,h3 hi r2⟩
  ·exact .inr ⟨h3 lo r1,h3 hi r2⟩
 ·refine rK hl zA1 zA2 fun x y hx hy=>?_;exact hstill i i2 x y c hi1 hx hy k k2 hk1 hk2 (dF zA1 hx.1 hx.2) (dF zA2 hx.1 hx.2) (dF zA1 hy.1 hy.2) (dF zA2 hy.1 hy.2)
theorem sK {a b:P2}{z l u:Rat}(ha:l<a.2∧a.2<u)(hb:l<b.2∧b.2<u)(h:a.1≠b.1)(hz:a.1≤z∧z≤b.1∨b.1≤z∧z≤a.1):l<zM a b z∧zM a b z<u:=by
 obtain⟨k,e1,e2⟩:=xB h;rw[e1];have key:∀ {c d y0 y1 fz:Rat},c<d→c≤z→z≤d→(d-c)*fz=(d-z)*y0+(z-c)*y1→0<y0→0<y1→0<fz:=fun {c d y0 y1 fz} q1 q2 q3 q4 q5 q6=>by
  have p1:0<(d-c)*fz:=by
   rw[q4];rcases Classical.em (z=c) with r | r
   ·have:=zaK (show 0<d-z by grind) q5;have:(z-c)*y1=0:=by rw[r];grind
    grind
   ·have:=zaK (show 0<z-c by grind) q6;have:=zaI (show 0≤d-z by grind) (show 0≤y0 by grind);grind
  exact eZ (show 0<d-c by grind) p1
 have e3:b.2=a.2+k*(b.1-a.1):=by grind
 rcases hz with hz | hz
 ·have hab:a.1<b.1:=by grind
  have f1:=key (y0:=a.2-l) (y1:=b.2-l) (fz:=a.2+k*(z-a.1)-l) hab hz.1 hz.2 (by rw[e3];grind) (by grind) (by grind);have f2:=key (y0:=u-a.2) (y1:=u-b.2) (fz:=u-(a.2+k*(z-a.1))) hab hz.1 hz.2 (by rw[e3];grind) (by grind) (by grind);grind
 ·have hab:b.1<a.1:=by grind
  have f1:=key (y0:=b.2-l) (y1:=a.2-l) (fz:=a.2+k*(z-a.1)-l) hab hz.1 hz.2 (by rw[e3];grind) (by grind) (by grind);have f2:=key (y0:=u-b.2) (y1:=u-a.2) (fz:=u-(a.2+k*(z-a.1))) hab hz.1 hz.2 (by rw[e3];grind) (by grind) (by grind);grind
theorem kW {α:Type}{l:List α}{d:α}{i:Nat}(h:i<l.length):l.getD i d∈l:=by rw[zah,zag h];exact zaP h
theorem slab_rises {ls:zF}{j:Nat}{l:List P2}(hls:∀ l∈ls,∃ m,l=hullF m)(hj:j+1<(cutsOf ls (zQ ls)).length)
  (h:IsLv ((cutsOf ls (zQ ls)).getD j 0) ((cutsOf ls (zQ ls)).getD (j+1) 0) (zQ ls).1.2 (zQ ls).2.2 (yW ls) l) :
  lQ l∧2≤l.length∧l.getD 0 (0,0)=((zQ ls).1.2,(zQ ls).1.2)∧l.getD (l.length-1) (0,0)=((zQ ls).2.2,(zQ ls).2.2):=by
 have hl:=bJ ls (zQ ls) j hj;have hf:=eD ls;have hcp:=fun e f=>levels_cpb (e:=e) (f:=f) hls hj;generalize (cutsOf ls (zQ ls)).getD j 0=lo at *;generalize (cutsOf ls (zQ ls)).getD (j+1) 0=hi at *;have hmem:∀ x∈l,(∃ e∈yW ls,uP lo hi e∧x=qG lo hi e)∨x=((zQ ls).1.2,(zQ ls).1.2)∨x=((zQ ls).2.2,(zQ ls).2.2):=fun x hx=>by
  rcases zae.1 ((h.mem x).1 hx) with q | q
  ·exact .inl (oF.1 q)
  ·simp only[zad,zaY,or_false] at q;exact .inr q
 have hin:∀ e∈yW ls,uP lo hi e→((zQ ls).1.2<(qG lo hi e).1∧(qG lo hi e).1<(zQ ls).2.2)∧(zQ ls).1.2<(qG lo hi e).2∧(qG lo hi e).2<(zQ ls).2.2:=fun e he t=>by
  obtain⟨i,k,hi1,hk1,rfl⟩:=nN he;obtain⟨t,g⟩:=vG t hl;rw[g];have h1:=hf.1 _ (kW hi1) _ (jH hk1);have h2:=hf.1 _ (kW (d:=[]) hi1) _ (jH (gI hk1));change _∧_∧_<(nx (ls.getD i []) k).2∧(nx (ls.getD i []) k).2<_ at h2;have hn:=oG t hl;unfold Thr at t;exact⟨sK h1.2.2 h2.2.2 hn (by grind),sK h1.2.2 h2.2.2 hn (by grind)⟩
 have hc:∀ a∈l,∀ b∈l,Cpb a b:=fun a ha b hb=>by
  rcases hmem a ha with⟨e,he,te,rfl⟩ | rfl | rfl
  ·have he':=hin e he te;rcases hmem b hb with⟨f,hf',tf,rfl⟩ | rfl | rfl
   ·exact hcp e f he hf' te tf
   ·exact .inr ⟨by grind,by grind⟩
   ·exact .inl ⟨by grind,by grind⟩
  ·rcases hmem b hb with⟨f,hf',tf,rfl⟩ | rfl | rfl
   ·have he':=hin f hf' tf;exact .inl ⟨by grind,by grind⟩
   ·exact .inl ⟨zaM,zaM⟩
   ·exact .inl ⟨by grind,by grind⟩
  ·rcases hmem b hb with⟨f,hf',tf,rfl⟩ | rfl | rfl
   ·have he':=hin f hf' tf;exact .inr ⟨by grind,by grind⟩
   ·exact .inr ⟨by grind,by grind⟩
   ·exact .inl ⟨zaM,zaM⟩
 have hr:=lv_rises h hc;refine⟨hr,lv_ends h hr hf.2.2 fun a ha=>?_⟩;rcases hmem a ha with⟨e,he,te,rfl⟩ | rfl | rfl
 ·have:=hin e he te;grind
 ·have:=hf.2.2;dsimp only;grind
 ·have:=hf.2.2;dsimp only;grind
def Fx (N M:Nat)(q:Rat):Prop:=∃(z:Int) (m:Nat),0<m∧m≤M∧z.natAbs≤N∧q*((m:Nat):Rat)=((z:Int):Rat)
def Fd (D A:Nat)(q:Rat):Prop:=∃ z:Int,z.natAbs≤A∧q*((D:Nat):Rat)=((z:Int):Rat)
theorem vB {N M k:Nat}{q:Rat}(h:Fx N M q)(hN:N<4294967296^k)(hM:M<4294967296^k):rlen q k:=by
 obtain⟨z,m,h0,h1,h2,e⟩:=h;have e2:q.num*(m:Int)=z*(q.den:Int):=by
  have c:(q.num:Rat)=q*(q.den:Rat):=(aA q).symm;have d:(q.num:Rat)*((m:Nat):Rat)=(z:Rat)*(q.den:Rat):=by rw[c,← e];grind
  exact_mod_cast d
 have e3:q.num.natAbs*m=z.natAbs*q.den:=by
  have:=congrArg Int.natAbs e2;rwa [zbH,zbH,zbY,zbY] at this
 have hd:q.den ∣ m:=by
  have:q.den ∣ q.num.natAbs*m:=by rw[e3];exact Nat.dvd_mul_left _ _
  exact(Nat.Coprime.symm q.reduced).dvd_of_dvd_mul_left this
 obtain⟨t,rfl⟩:=hd;have ht:0<t:=zaW fun c=>by subst c;simp at h0
 have e4:q.num.natAbs*t=z.natAbs:=by
  have h5:=q.den_pos;have:q.den*(q.num.natAbs*t)=q.den*z.natAbs:=by rw[zat q.den z.natAbs,← e3];rw[zcg]
  exact Nat.eq_of_mul_eq_mul_left h5 this
 have l1:q.num.natAbs≤q.num.natAbs*t:=zci _ ht;have l2:q.den≤q.den*t:=zci _ ht;exact⟨zS (by omega),zS (by omega)⟩
theorem Fd.add {D A B:Nat}{p q:Rat}(h:Fd D A p)(k:Fd D B q):Fd D (A+B) (p+q):=by
 obtain⟨z,h1,e1⟩:=h;obtain⟨y,h2,e2⟩:=k;exact⟨z+y,by omega,by rw[Rat.add_mul,e1,e2,Rat.intCast_add]⟩
theorem Fd.neg {D A:Nat}{p:Rat}(h:Fd D A p):Fd D A (-p):=by
 obtain⟨z,h1,e1⟩:=h;exact⟨-z,by omega,by rw[Rat.neg_mul,e1,Rat.intCast_neg]⟩
theorem Fd.up {D A B:Nat}{p:Rat}(h:Fd D A p)(k:A≤B):Fd D B p:=let ⟨z,a,b⟩:=h;⟨z,by omega,b⟩
theorem Fd.fx {D A:Nat}{p:Rat}(h:Fd D A p)(h0:0<D):Fx A D p:=let ⟨z,a,b⟩:=h;⟨z,D,h0,zab _,a,b⟩
theorem cQ {a b:Int}{A B:Nat}(h:a.natAbs≤A)(k:b.natAbs≤B):(a*b).natAbs≤A*B:=by rw[zbH];exact zaT h k
theorem fx_int {N M:Nat}{q:Rat}{r X:Int}(hr:r≠0)(e:q*(r:Rat)=(X:Rat))(h1:X.natAbs≤N)(h2:r.natAbs≤M):Fx N M q:=by
 rcases Int.natAbs_eq r with h | h
 ·exact⟨X,r.natAbs,by omega,h2,h1,by rw[← e,show ((r.natAbs:Nat):Rat)=((r:Int):Rat) by conv=>rhs;rw[h,Rat.intCast_natCast]]⟩
 ·refine⟨-X,r.natAbs,by omega,h2,by omega,?_⟩;have h3:(r:Rat) = -((r.natAbs:Nat):Rat):=by conv=>lhs;rw[h,Rat.intCast_neg,Rat.intCast_natCast]
  rw[Rat.intCast_neg,← e,h3];grind
theorem jI {a b:Int}{A:Nat}(h:a.natAbs≤A)(k:b.natAbs≤A):(a-b).natAbs≤2*A:=by omega
theorem yK6 {a b c d:Int}{A:Nat}(h1:a.natAbs≤2*A)(h2:b.natAbs≤2*A)(h3:c.natAbs≤2*A)(h4:d.natAbs≤2*A):(a*b-c*d).natAbs≤8*(A*A):=by
 have k1:=cQ h1 h2;have k2:=cQ h3 h4;have e:2*A*(2*A)=4*(A*A):=by rw[Nat.mul_mul_mul_comm]
 omega
theorem cross_at {R x n:Rat}{a u r N:Int}{det num:Rat}(hR:R≠0)(hd:det≠0)(e1:x*R=(a:Rat))(e2:n*R=(u:Rat))(e3:det*(R*R)=(r:Rat))(e4:num*(R*R)=(N:Rat)):(x+num/det*n)*(R*(r:Rat))=((a*r+N*u:Int):Rat):=by
 rw[Rat.intCast_add,zbG,zbG,← e1,← e2,← e3,← e4];have h:num/det*det=num:=zcE hd;generalize num/det=t at *;subst h;grind
theorem lines_fx {D A:Nat}(h0:0<D){a b c d:P2}(ha:Fd D A a.1∧Fd D A a.2)(hb:Fd D A b.1∧Fd D A b.2)(hc:Fd D A c.1∧Fd D A c.2)(hd:Fd D A d.1∧Fd D A d.2)(hl:xF a b c d) :
  Fx (24*(A*A*A)) (D*(8*(A*A))) (xN a b c d).1∧Fx (24*(A*A*A)) (D*(8*(A*A))) (xN a b c d).2:=by
 obtain⟨⟨a1,p1,e1⟩,a2,p2,e2⟩:=ha;obtain⟨⟨b1,p3,e3⟩,b2,p4,e4⟩:=hb;obtain⟨⟨c1,p5,e5⟩,c2,p6,e6⟩:=hc;obtain⟨⟨d1,p7,e7⟩,d2,p8,e8⟩:=hd;have hD:((D:Nat):Rat)≠0:=by exact_mod_cast (show D≠0 by omega)
 unfold xN;rw[if_pos hl];unfold xF at hl;have f1:zH (subP b a) (subP d c)*(((D:Nat):Rat)*((D:Nat):Rat))=(((b1-a1)*(d2-c2)-(b2-a2)*(d1-c1):Int):Rat):=by
  rw[zbw,zbG,zbG,zbw,zbw,zbw,zbw,← e1,← e2,← e3,← e4,← e5,← e6,← e7,← e8];unfold zH subP;grind
 have f2:zH (subP c a) (subP d c)*(((D:Nat):Rat)*((D:Nat):Rat))=(((c1-a1)*(d2-c2)-(c2-a2)*(d1-c1):Int):Rat):=by
  rw[zbw,zbG,zbG,zbw,zbw,zbw,zbw,← e1,← e2,← e5,← e6,← e7,← e8];unfold zH subP;grind
 have k1:=yK6 (jI p3 p1) (jI p8 p6) (jI p4 p2) (jI p7 p5);have k2:=yK6 (jI p5 p1) (jI p8 p6) (jI p6 p2) (jI p7 p5);generalize (b1-a1)*(d2-c2)-(b2-a2)*(d1-c1)=r at *;generalize (c1-a1)*(d2-c2)-(c2-a2)*(d1-c1)=m at *;have hr:r≠0:=fun z=>by
  rw[z] at f1;rcases zbn.1 (f1.trans rfl) with k | k
  ·exact hl k
  ·rcases zbn.1 k with k | k<;>exact hD k
 have hDr:((D:Nat):Int)*r≠0:=Int.mul_ne_zero (by omega) hr;have hm:(((D:Nat):Int)*r).natAbs≤D*(8*(A*A)):=by
  rw[zbH,zbY];exact zbo _ k1
 have hX:∀ a u:Int,a.natAbs≤A→u.natAbs≤2*A→(a*r+m*u).natAbs≤24*(A*A*A):=fun a u h1 h2=>by
  have q1:=cQ h1 k1;have q2:=cQ k2 h2;have w1:A*(8*(A*A))=8*(A*A*A):=by rw[zcg,zau A A A]
  have w2:8*(A*A)*(2*A)=16*(A*A*A):=by rw[Nat.mul_mul_mul_comm]
  omega
 have key:∀(x n:Rat) (y u:Int),x*((D:Nat):Rat)=(y:Rat)→n*((D:Nat):Rat)=(u:Rat)→y.natAbs≤A→u.natAbs≤2*A→Fx (24*(A*A*A)) (D*(8*(A*A))) (x+n*vL a b c d):=fun x n y u g1 g2 g3 g4=>by
  refine fx_int hDr ?_ (hX y u g3 g4) hm;rw[zbG,Rat.intCast_natCast,Rat.mul_comm n];exact cross_at hD hl g1 g2 f1 f2
 refine⟨key a.1 (b.1-a.1) a1 (b1-a1) e1 ?_ p1 (jI p3 p1),key a.2 (b.2-a.2) a2 (b2-a2) e2 ?_ p2 (jI p4 p2)⟩
 ·rw[zbw,← e1,← e3];grind
 ·rw[zbw,← e2,← e4];grind
theorem iZ {ls pre:zF}{l:List P2}{k:Nat}(h:∃ post,ls=pre++l::post)(hk:k<l.length):(∃ post,yW ls=(yW pre++(gV l).take k)++ordE (gp l k,nx l k)::post)∧(gV l).take (k+1)=(gV l).take k++[ordE (gp l k,nx l k)]:=by
 obtain⟨post,rfl⟩:=h;have hl:k<(gV l).length:=by unfold gV;simpa using hk
 have e:(gV l)[k]=ordE (gp l k,nx l k):=by unfold gV;simp
 refine⟨⟨(gV l).drop (k+1)++yW post,?_⟩,?_⟩
 ·unfold yW;rw[List.flatMap_append,zcd,zaA,← e];congr 1;rw[← zaR,List.getElem_cons_drop,← zaA,zbb]
 ·rw[zcL hl,e]
theorem box1 {n:Nat}{p q:P2}{M:Nat→Prop}{w:World}{us:List Value}(k:stp [ptc n p,ptc n q] M w us):stp [st [ptc n p,ptc n q]] M w us:=⟨us,[],by simp,k,rfl⟩
theorem ihedges {ls:zF}{n:Nat}(hn:n≤200)(hl:ls.length≤100)(h9:∀ l∈ls,l.length≤9):CIt prog 219 [pa (sl 1 (ls.map fun x=>sl 6 (x.map (ptc n))))] (yW ls) (fun e=>[ag (ect (n+1) e)]):=by
 refine cit func219 rfl rfl rfl rfl rfl fun X y YS YX hY hS=>?_;repeat refine u ?_
 refine lpy (σ:=Nat) [0,8,9] (fun i=>[(10,True,zJ i)]) (fun i=>[]) (fun i Y=>YS (yW (ls.take i)) Y∧i≤ls.length) (fun i=>ls.length-i) (0) (⟨hS,by omega⟩) fun i Y hG=>?_;obtain⟨hS,hi⟩:=hG;have hll:i<ls.length→(ls.getD i Df.d).length≤9:=fun hi=>h9 _ (by rw[zah,zag hi];exact zaP _);repeat refine u ?_
 refine t_if rfl (fun c0=>?_) (fun c0=>?_);repeat refine u ?_
 refine zA1 (oix _ rfl rfl rfl (fun _=>rfl) (fun _=>(by(have e0:=dt c0;omega)))) ?_;repeat refine u ?_
 refine zB rfl rfl (fY (by omega) (by(have e0:=dt c0;omega))) ?_;repeat refine u ?_
 rotate_left;rotate_left
 ·have hi2:=dt c0;have h5:=hll (by omega);have hx:=zT (Df.d:List P2) (show i<ls.length by omega);generalize ls.getD i Df.d=l at *;refine dI (σ:=Nat) (fun k=>[(18,True,zJ k)]) (fun k=>[]) (fun k Y=>YS (yW (ls.take i)++(gV l).take k) Y∧k≤l.length) (fun k=>l.length-k) (0) (tk 0 rfl (tk 4 rfl (tk 8 rfl (tk 9 rfl (tk 10 rfl (tk 16 rfl (tk 17 rfl tn))))))) ?_ rfl (⟨by rw[List.take_zero,zas];exact hS,by omega⟩) (fun k Y hG=>?_);refine zA rfl tn;obtain⟨hS2,hk⟩:=hG;repeat refine u ?_
  refine t_if rfl (fun c1=>?_) (fun c1=>?_);repeat refine u ?_
  refine zA1 (oix _ rfl rfl rfl (fun _=>rfl) (fun _=>(by(have e0:=dt c1;omega)))) ?_;refine u ?_;refine u fun b6=>?_;repeat refine u ?_
  refine zD 0 rfl rfl (zO (zY (s:=6) 0 rfl rfl) ?_);iterate 2 refine u ?_
  apply qU 1 12 11 [(10,7,0),(11,1000011,0)] rfl rfl mixed rfl rfl rfl;repeat refine u ?_
  refine cx1 (orm rfl rfl (by(have e0:=dt c1;omega))) rfl ?_;refine cx1 (oix _ rfl rfl rfl (fun _=>rfl) (fun _=>?_)) rfl ?_;rotate_left;repeat refine u ?_
  refine cx1 (obd rfl rfl rfl) rfl (cN rfl rfl (cal) (cS rfl rfl rfl (cst rfl rfl rfl) ?_));refine cE (fun b7=>?_);refine fm ?_;repeat refine u ?_
  refine zA1 (oldf 0 0 rfl rfl rfl rfl) ?_;refine u ?_;refine zA1 (oldf 0 6 rfl rfl rfl rfl) ?_;refine zB rfl rfl (yH0 (by omega)) ?_;repeat refine u ?_
  refine ti (fun c2=>?_) fun c2=>?_;iterate 2 refine u ?_
  refine zA1 (oldf 0 6 rfl rfl rfl rfl) ?_;repeat refine u ?_
  refine zA1 (oldf 0 0 rfl rfl rfl rfl) ?_;repeat refine u ?_
  rotate_left;repeat refine u ?_
  rotate_left;rotate_left
  ·have:=dt c1;exact zaH _ (by omega)
  ·have hk2:=dt c1;obtain⟨⟨post,e1⟩,e2⟩:=iZ ⟨_,hx.2⟩ (show k<l.length by omega);have e:ordE (gp l k,nx l k)=(nx l k,gp l k):=by unfold ordE;rw[if_pos (show 0<cmpP (gp l k,nx l k).1 (gp l k,nx l k).2 from dt c2)]
   rw[e] at e1 e2;refine zO (jP (cs':=[ptc (n+1) (gp l k),ptc (n+1) (nx l k)]) 0 rfl box2) ?_;refine zD 0 rfl rfl ?_;repeat refine u ?_
   refine zD 0 rfl rfl ?_;repeat refine u ?_
   refine zO (jP (cs':=[ect (n+1) (nx l k,gp l k)]) 0 rfl box1) ?_;refine zA1 (zG 0 rfl) ?_;refine gM hY hS2 e1 rfl rfl (fs1 (PSub.refl _) fs0) (fun Y hS=>?_) (fun Y hX=>?_)
   ·repeat refine u ?_
    refine gZ rfl rfl ?_;repeat refine u ?_
    refine⟨k+1,tes ?_ ?_ (List.sublist_cons_self _ _),?_,(by omega)⟩;refine zA rfl tn;refine zA rfl (zA rfl (zA rfl (zA rfl (zA rfl (zA rfl (zA rfl tn))))));exact⟨by rw[e2,← zaA];exact hS,by omega⟩
   ·repeat refine u ?_
    refine kD rfl rfl ?_;repeat refine u ?_
    exact .inr hX
  ·have hk2:=dt c1;obtain⟨⟨post,e1⟩,e2⟩:=iZ ⟨_,hx.2⟩ (show k<l.length by omega);have e:ordE (gp l k,nx l k)=(gp l k,nx l k):=by unfold ordE;rw[if_neg (show ¬ 0<cmpP (gp l k,nx l k).1 (gp l k,nx l k).2 from df c2)]
   rw[e] at e1 e2;refine gM hY hS2 e1 rfl rfl (fs1 (PSub.refl _) fs0) (fun Y hS=>?_) (fun Y hX=>?_)
   ·repeat refine u ?_
    refine gZ rfl rfl ?_;repeat refine u ?_
    refine⟨k+1,tes ?_ ?_ (List.sublist_cons_self _ _),?_,(by omega)⟩;refine zA rfl tn;refine zA rfl (zA rfl (zA rfl (zA rfl (zA rfl (zA rfl (zA rfl tn))))));exact⟨by rw[e2,← zaA];exact hS,by omega⟩
   ·repeat refine u ?_
    refine kD rfl rfl ?_;repeat refine u ?_
    exact .inr hX
  ·have hk2:=df c1;repeat refine u ?_
   refine⟨i+1,tes ?_ ?_ (zaa _),?_,(by omega)⟩;refine zA rfl tn;refine zA rfl (zA rfl (zA rfl tn));refine⟨?_,by omega⟩;rw[hx.1];have e:yW (ls.take i++[l])=yW (ls.take i)++(gV l).take k:=by
    unfold yW;rw[List.flatMap_append,List.flatMap_cons,List.flatMap_nil,List.append_nil,List.take_of_length_le (show (gV l).length≤k by unfold gV;rw[List.length_map,List.length_range];omega)]
   rw[e];exact hS2
 ·have hi2:=df c0;repeat refine u ?_
  rw[zaz (by omega)] at hS;exact .inl hS
theorem kappE {g:FuncId}{caps:List PV}{xs:List BX}{m:Nat}(it:CIt prog g caps xs (fun e=>[ag (ect m e)]))(hl:xs.length≤1000):CTy prog 218 [exP (.slice none 0 0),fn g caps] (sv (sl 12 (xs.map (ect m)))):=by
 refine fw [.tmp 4] func218 fun X=>?_;iterate 2 refine u ?_
 refine tbx (hc:=cts1) rfl fun b2=>?_;repeat refine u ?_
 refine t_ts (jG 109 12) ?_;refine jZ (σ:=List BX×Value) (fun t=>[.row t.2 109 12 (t.1.map (ect m)),.blk b2 45 [xc t.2]]) (fun pre t=>t.1=pre) ([],.slice none 0 0) rfl it (fun _=>rfl) rfl kR (by simp) rfl (fun pre x post t hx hJ Y y hl=>?_) (fun t hJ Y _=>?_)
 ·obtain⟨pr,v1⟩:=t;obtain rfl:pr=pre:=hJ;have h1:pr.length≤1000:=by have:=congrArg List.length hx;simp at this;omega
  refine u ?_;refine u fun b5=>?_;refine zD 0 rfl rfl (zO (zY (s:=5) 0 rfl rfl) ?_);repeat refine u ?_
  refine⟨rfl,fun Y hl=>?_⟩;repeat refine u ?_
  refine zA1 (zG 1 rfl) ?_;repeat refine u ?_
  refine tap 0 rfl rfl rfl (by(simp;omega)) rfl fun r11=>?_;refine tsw 1 0 rfl rfl rfl rfl rfl rfl rfl ?_;repeat refine u ?_
  refine⟨(pr++[x],r11),(by(simp;done)),rfl⟩
 ·obtain⟨_,v1⟩:=t;obtain rfl:_=xs:=hJ;iterate 5 refine u ?_
  refine t_ts (yV (s:=4) 0 rfl rfl) ?_;repeat refine u ?_
  exact e
theorem kcolE {g:FuncId}{caps:List PV}{xs:List BX}{m:Nat}(it:CIt prog g caps xs (fun e=>[ag (ect m e)]))(hl:xs.length≤1000):CTy prog 151 [fn g caps] (sv (sl 12 (xs.map (ect m)))):=by
 refine fw [.tmp 2] func151 fun X=>?_;repeat refine u ?_
 refine zB rfl rfl (kappE it (by omega)) ?_;repeat refine u ?_
 exact e
theorem khedges {ls:zF}{n:Nat}:CTy prog 152 [sv (sl 1 (ls.map fun x=>sl 6 (x.map (ptc n))))] (fn 219 [pa (sl 1 (ls.map fun x=>sl 6 (x.map (ptc n))))]):=by
 refine fw [.tmp 2] func152 fun X=>?_;repeat refine u ?_
 exact e
theorem khullE {ls:zF}{n:Nat}(hn:n≤200)(hl:ls.length≤100)(h9:∀ l∈ls,l.length≤9):CTy prog 79 [sv (sl 1 (ls.map fun x=>sl 6 (x.map (ptc n))))] (sv (sl 12 ((yW ls).map (ect (n+1))))):=by
 have h1:=iB h9;refine fw [.tmp 2] func79 fun X=>?_;repeat refine u ?_
 refine zB rfl rfl khedges ?_;refine zB rfl rfl (kcolE (ihedges hn hl h9) (by omega)) ?_;repeat refine u ?_
 exact e
theorem yS2:COrd cmpL:=⟨fun a b=>tD,fun a b=>by
 unfold cmpL;have h1:=@gC (a.1+a.2) (b.1+b.2);have h2:=@yO (b.1+b.2) (a.1+a.2);have h3:=@xC (a.1+a.2) (b.1+b.2);have h4:=@xC (b.1+b.2) (a.1+a.2);have h5:=@gC a.1 b.1;have h6:=@yO b.1 a.1;grind,fun a b c h k=>aR h k⟩
theorem klcompare {p q:P2}{n m:Nat}(hn:n≤40000)(hm:m≤40000):CTy prog 85 [ag (ptc n p),ag (ptc m q)] (exP (.int .i64 (cmpL p q))):=by
 refine fw [.tmp 4] func85 fun X=>?_;iterate 8 refine u ?_
 refine zK 14 mixed rfl rfl ?_;repeat refine u ?_
 refine zC rfl rfl (zK8 (by omega)) ?_;repeat refine u ?_
 refine zC rfl rfl (zK8 (by omega)) ?_;refine zC rfl rfl (gB (by omega) (by omega)) ?_;repeat refine u ?_
 refine ti (fun c0=>?_) fun c0=>?_;repeat refine u ?_
 refine e ?_;refine ps_i ?_;rotate_left;repeat refine u ?_
 refine zB rfl rfl (gB (by omega) (by omega)) ?_;repeat refine u ?_
 refine e ?_;refine ps_i ?_;rotate_left
 ·unfold cmpL;rw[if_pos (dt c0)]
 ·unfold cmpL;rw[if_neg (df c0)]
theorem pK {Ψ Φ Θ:PV}{p q:P2}{x:Rat}{n m k:Nat}[QP Ψ n p][QP Φ m q][QR Θ k x](hn:n≤400)(hm:m≤400)(hk:k≤400):CTy prog 159 [Ψ,Φ,Θ] (tu [ag (rtc (20*(n+m+k)+100) (zM p q x)),exP (.bool (decide (q.1-p.1≠0)))]):=by
 refine yI (σs:=[ag (ptq n p),ag (ptq m q),ag (rtq k x)]) ?_ (fs1 qp_q (fs1 qp_q (fs1 qr_q fs0)));refine fw [.cell 6 29,.tmp 7] func159 fun X=>?_;iterate 5 refine u ?_
 refine u fun b6=>?_;iterate 3 refine u ?_
 apply qU 1 16 14 [(13,8,0),(14,1000014,0)] rfl rfl mixed rfl rfl rfl;repeat refine u ?_
 refine cx1 (oca rfl rfl fun _=>mS (by omega) (by omega)) rfl ?_;repeat refine u ?_
 refine cx1 (oca rfl rfl fun _=>mS (by omega) (by omega)) rfl ?_;refine cx1 (oca rfl rfl fun _=>yH4 (by omega) (by omega)) rfl ?_;repeat refine u ?_
 refine cN rfl rfl (cal) (cS rfl rfl rfl (cst rfl rfl rfl) ?_);repeat refine u ?_
 refine cE (fun b8=>?_);refine fm ?_;repeat refine u ?_
 refine ti (fun c0=>?_) fun c0=>?_;repeat refine u ?_
 refine zB rfl rfl (krof (k:=0) (K:=2) (by omega) (by omega)) ?_;repeat refine u ?_
 refine e ⟨?_,?_⟩;rotate_left;refine psb ?_;rotate_left;repeat refine u ?_
 refine zB rfl rfl (kvat (by omega) (by omega) (by omega)) ?_;repeat refine u ?_
 refine e ⟨?_,?_⟩;rotate_left;refine psb ?_;rotate_left
 ·have hq:q.1-p.1=0:=Classical.byContradiction fun c=>dt c0 (if_neg c);exact bB (by omega) (by unfold zM;rw[if_pos hq];rfl)
 ·have hq:q.1-p.1=0:=Classical.byContradiction fun c=>dt c0 (if_neg c);rw[decide_eq_false (fun c=>c hq)]
 ·have hq:q.1-p.1≠0:=fun c=>df c0 (by rw[if_pos c];decide);exact bB (by omega) (by unfold zM;rw[if_neg hq])
 ·have hq:q.1-p.1≠0:=fun c=>df c0 (by rw[if_pos c];decide);rw[decide_eq_true hq]
instance dfBX:Df BX:=⟨((0,0),(0,0))⟩
theorem wQ {lo hi:Rat}{es:List BX}{i:Nat}:∀ d,∃ post,xP lo hi es (i+d)=xP lo hi es i++post
 | 0=>⟨[],by simp⟩
 | d+1=>by
  obtain⟨post,e⟩:=wQ (lo:=lo) (hi:=hi) (es:=es) (i:=i) d;exact⟨post++_,by rw[← zaO,xP,e,zaA]⟩
theorem thru_at {lo hi:Rat}{es:List BX}{i:Nat}(hi':i<es.length)(h:uP lo hi (es.getD i ((0,0),(0,0)))):∃ post,xP lo hi es es.length=xP lo hi es i++qG lo hi (es.getD i ((0,0),(0,0)))::post:=by
 obtain⟨post,e⟩:=wQ (lo:=lo) (hi:=hi) (es:=es) (i:=i+1) (es.length-(i+1));rw[show i+1+(es.length-(i+1))=es.length by omega,rG h] at e;exact⟨post,by rw[e,zaA];rfl⟩
theorem ithru {es:List BX}{lo hi:Rat}{n m N:Nat}(hn:n≤200)(hm:m≤200)(hl:es.length≤1000)(hr:∀ x∈xP lo hi es es.length,rlen x.1 N∧rlen x.2 N):CIt prog 158 [pa (sl 12 (es.map (ect n))),pa (rtq m lo),pa (rtq m hi)] (xP lo hi es es.length) (fun x=>[ag (ptc N x)]):=by
 refine cit func158 rfl rfl rfl rfl rfl fun X y YS YX hY hS=>?_;repeat refine u ?_
 refine lpy (σ:=Nat) [0,2,3,11,12] (fun i=>[(13,True,zJ i)]) (fun i=>[]) (fun i Y=>YS (xP lo hi es i) Y∧i≤es.length) (fun i=>es.length-i) (0) (⟨hS,by omega⟩) fun i Y hG=>?_;obtain⟨hS,hle⟩:=hG;repeat refine u ?_
 refine ti (fun c0=>?_) fun c0=>?_;repeat refine u ?_
 refine zA1 (oix _ rfl rfl rfl (fun _=>rfl) (fun _=>(by(have e0:=dt c0;omega)))) ?_;refine u ?_;refine u fun b6=>?_;refine zD 0 rfl rfl (zO (zY (s:=6) 0 rfl rfl) ?_);repeat refine u ?_
 refine zA1 (ofa rfl rfl) ?_;repeat refine u ?_
 refine zB rfl rfl (gB (by omega) (by omega)) ?_;repeat refine u ?_
 refine t1g rfl rfl (ofa rfl rfl) ?_;repeat refine u ?_
 refine t1g rfl rfl (oca rfl rfl fun g=>gB (by omega) (by omega)) ?_;repeat refine u ?_
 refine t1g rfl rfl (ofa rfl rfl) ?_;repeat refine u ?_
 refine t1g rfl rfl (ofa rfl rfl) ?_;repeat refine u ?_
 refine t1g rfl rfl (oca rfl rfl fun g=>gB (by omega) (by omega)) ?_;repeat refine u ?_
 refine ti (fun c1=>?_) fun c1=>?_;repeat refine u ?_
 rotate_left;repeat refine u ?_
 refine zA1 (ofa rfl rfl) ?_;repeat refine u ?_
 refine zA1 (ofa rfl rfl) ?_;repeat refine u ?_
 refine zB rfl rfl (pK (by omega) (by omega) (by omega)) ?_;iterate 3 refine u ?_
 refine u fun b7=>?_;refine u ?_;refine zO (zY (s:=7) 0 rfl rfl) ?_;repeat refine u ?_
 refine zA1 (ofa rfl rfl) ?_;repeat refine u ?_
 refine zA1 (ofa rfl rfl) ?_;repeat refine u ?_
 refine zA1 (old rfl rfl) ?_;refine zB rfl rfl (pK (by omega) (by omega) (by omega)) ?_;iterate 3 refine u ?_
 refine u fun b9=>?_;refine u ?_;refine zO (zY (s:=9) 0 rfl rfl) ?_;repeat refine u ?_
 refine zA1 (omv rfl) ?_;repeat refine u ?_
 rotate_left;repeat refine u ?_
 rotate_left
 ·have hi2:=dt c0;have hn:¬ uP lo hi (es.getD i ((0,0),(0,0))):=fun⟨h1,h2,h3⟩=>by
   have h:=c1.h;simp only[zcf,decide_eq_true_eq] at h;have g1:¬ 0<cmpR (es.getD i ((0,0),(0,0))).1.1 lo:=fun c=>h1 (gC.1 c);have g2:¬ cmpR (es.getD i ((0,0),(0,0))).2.1 hi<0:=fun c=>h2 (yO.1 c);have g3:¬ 0≤cmpR (es.getD i ((0,0),(0,0))).1.1 (es.getD i ((0,0),(0,0))).2.1:=fun c=>by have:=yO.2 h3;omega
   exact h.elim (fun h=>h.elim g1 g2) g3
  refine⟨i+1,tes ?_ ?_ (zaa _),?_,(by omega)⟩;refine zA rfl tn;refine zA rfl (zA rfl (zA rfl (zA rfl (zA rfl tn))));exact⟨by rw[thru_skip hn];exact hS,by omega⟩
 ·have hi2:=dt c0;have ht:uP lo hi (es.getD i ((0,0),(0,0))):=by
   have h:=c1.h;simp only[Bool.or_eq_false_iff,decide_eq_false_iff_not] at h;exact⟨fun c=>h.1.1 (gC.2 c),fun c=>h.1.2 (yO.2 c),Classical.byContradiction fun c=>h.2 (gD.2 (by grind))⟩
  obtain⟨post,e1⟩:=thru_at (show i<es.length by omega) ht;refine gM hY hS e1 rfl rfl (fs1 ?_ fs0) (fun Y hS=>?_) (fun Y hX=>?_)
  ·exact fun M w v ⟨us,e,h⟩=>⟨us,e,rR (hr _ (by rw[e1];simp)) M w us h⟩
  ·repeat refine u ?_
   refine gZ rfl rfl ?_;repeat refine u ?_
   refine zA1 (oad rfl rfl (by omega)) ?_;repeat refine u ?_
   refine⟨i+1,tes ?_ ?_ (zaa _),?_,(by omega)⟩;refine zA rfl tn;refine zA rfl (zA rfl (zA rfl (zA rfl (zA rfl tn))));exact⟨by rw[rG ht];exact hS,by omega⟩
  ·repeat refine u ?_
   refine kD rfl rfl ?_;repeat refine u ?_
   exact .inr hX
 ·have:i=es.length:=by have:=df c0;omega
  subst this;exact .inl hS
theorem klthru {es:List BX}{lo hi:Rat}{n m:Nat}:CTy prog 82 [ag (rtq m lo),ag (rtq m hi),sv (sl 12 (es.map (ect n)))] (fn 158 [pa (sl 12 (es.map (ect n))),pa (rtq m lo),pa (rtq m hi)]):=by
 refine fw [.tmp 6] func82 fun X=>?_;repeat refine u ?_
 exact e
theorem oappL {g:FuncId}{caps:List PV}{xs:List P2}{m:Nat}(it:CIt prog g caps xs (fun e=>[ag (ptc m e)]))(hl:xs.length≤1000):CTo prog 157 [exP (.slice none 0 0),fn g caps] [] (fun r So=>∃ v,r=exP v∧So=[.row v 55 6 (xs.map (ptc m))]):=by
 refine fwo [.tmp 4] func157 fun X=>?_;iterate 2 refine u ?_
 refine tbx (hc:=cts1) rfl fun b2=>?_;repeat refine u ?_
 refine t_ts (jG 55 6) ?_;refine jZ (σ:=List P2×Value) (fun t=>[.row t.2 55 6 (t.1.map (ptc m)),.blk b2 49 [xc t.2]]) (fun pre t=>t.1=pre) ([],.slice none 0 0) rfl it (fun _=>rfl) rfl kR (by simp) rfl (fun pre x post t hx hJ Y y hl=>?_) (fun t hJ Y _=>?_)
 ·obtain⟨pr,v1⟩:=t;obtain rfl:pr=pre:=hJ;have h1:pr.length≤1000:=by have:=congrArg List.length hx;simp at this;omega
  refine u ?_;refine u fun b5=>?_;refine zD 0 rfl rfl (zO (zY (s:=5) 0 rfl rfl) ?_);repeat refine u ?_
  refine⟨rfl,fun Y hl=>?_⟩;repeat refine u ?_
  refine zA1 (zG 1 rfl) ?_;repeat refine u ?_
  refine tap 0 rfl rfl rfl (by(simp;omega)) rfl fun r11=>?_;refine tsw 1 0 rfl rfl rfl rfl rfl rfl rfl ?_;repeat refine u ?_
  refine⟨(pr++[x],r11),(by(simp;done)),rfl⟩
 ·obtain⟨_,v1⟩:=t;obtain rfl:_=xs:=hJ;repeat refine u ?_
  exact⟨[_],exP v1,_,rst rfl rs0,List.singleton_sublist.2 (by simp),⟨v1,rfl,rfl⟩,yD (PSub.refl _)⟩
theorem ocolL {g:FuncId}{caps:List PV}{xs:List P2}{m:Nat}(it:CIt prog g caps xs (fun e=>[ag (ptc m e)]))(hl:xs.length≤1000):CTo prog 81 [fn g caps] [] (fun r So=>∃ v,r=exP v∧So=[.row v 55 6 (xs.map (ptc m))]):=by
 refine fwo [.tmp 2] func81 fun X=>?_;repeat refine u ?_
 refine tco [] rfl rfl rfl (oappL it hl) ?_;rintro _ _ ⟨v,rfl,rfl⟩;repeat refine u ?_
 exact er ⟨_,rfl,rfl⟩
theorem ksortL {v:Value}{l:List P2}{m:Nat}(hm:m≤40000)(hl:l.length≤1000000):CTo prog 84 [exP v,exP (.func (.func 85) #[] #[])] [.row v 55 6 (l.map (ptc m))] (fun r So=>r=tu []∧∃ l':List P2,l'.Perm l∧(∀ i j,i<j→j<l'.length→¬ cmpL l'[j]! l'[i]! < 0)∧So=[.row v 55 6 (l'.map (ptc m))]) :=
 yC3 (ρ:=sortLevel_ren) sortLevel rfl yJ8 (xK sz55) (fun _=>rfl) yS2.swo (bo func84) (fun x y=>klcompare hm hm) hl
abbrev eqL (a b:P2):Bool:=decide (a=b)
theorem wcompactL {v:Value}{l:List P2}{m:Nat}(hm:m≤20000)(hl:l.length≤100000):CTo prog 86 [exP v,exP (.func (.func 87) #[] #[])] [.row v 55 6 (l.map (ptc m))] (fun ρ So=>∃ v',ρ=exP v'∧So=[.row v' 55 6 ((jE eqL (0,0) l l.length).map (ptc m))]):=by
 refine fwo [.tmp 4] func86 fun X=>?_;repeat refine u ?_
 refine ti (fun c0=>?_) fun c0=>?_;repeat refine u ?_
 rotate_left;repeat refine u ?_
 rotate_left
 ·have h2:=dt c0;exact⟨[_],exP v,_,rst rfl rs0,zaa _,⟨v,rfl,by rw[jU (zab _) fun i h1 h3=>by omega,zaF]⟩,yD (PSub.refl _)⟩
 have h2:=df c0;refine lp (σ:=Nat) [0,1] (fun s=>[(5,True,zJ s)]) (fun s=>[.row v 55 6 (l.map (ptc m))]) (fun s=>1≤s∧s≤l.length∧∀ i,0<i→i<s→eqL (l.getD i (0,0)) (l.getD (i-1) (0,0))=false) (fun s=>l.length-s) (1) (⟨by omega,by omega,fun i h1 h3=>by omega⟩) fun s hJ Y _=>?_;obtain⟨j1,j2,j3⟩:=hJ;repeat refine u ?_
 refine ti (fun c1=>?_) fun c1=>?_;iterate 4 refine u ?_
 refine zK 11 mixed rfl rfl ?_;repeat refine u ?_
 refine d1 (oixo 0 _ rfl rfl rfl (fun _=>rfl) (fun _=>(by(have e0:=dt c1;simp;omega)))) ?_;refine d1 (oldr 0 rfl rfl (fun _=>(by(have e0:=dt c1;simp;omega))) rfl) ?_;iterate 3 refine u ?_
 refine d1 (oixo 0 (s-1) rfl rfl rfl (fun _=>(by omega)) (fun _=>(by(simp;omega)))) ?_;repeat refine u ?_
 refine zC rfl rfl (yI0 (by omega) (by omega)) ?_;repeat refine u ?_
 refine ti (fun c2=>?_) fun c2=>?_;repeat refine u ?_
 refine zA1 (osv 0 _ rfl rfl rfl (fun _=>rfl) (fun _=>(by(have e0:=df c0;have e1:=dt c1;have e2:=dt c2;simp;omega)))) ?_;repeat refine u ?_
 rotate_left;repeat refine u ?_
 rotate_left;repeat refine u ?_
 rotate_left
 ·have h3:=dt c1;refine yZ (σ:=Nat×Nat×List P2) (fun t=>[(5,True,zJ t.1),(7,True,zJ t.2.1)]) (fun t=>[.row v 55 6 (t.2.2.map (ptc m))]) (fun t=>1≤t.2.1∧s+t.2.1≤l.length∧s≤t.1∧t.1<s+t.2.1∧t.2.2.length=l.length∧t.2.2.take t.1=jE eqL (0,0) l (s+t.2.1)∧∀ i,s+t.2.1≤i+1→t.2.2.getD i (0,0)=l.getD i (0,0)) (fun t=>l.length-t.2.1) ((s,1,l)) (tk 0 rfl (tk 1 rfl (tk 6 rfl tn))) ?_ rfl (⟨by simp,by simp only;omega,by simp,by simp,rfl,cH (l:=l) (s:=s) (by omega) (by omega) j3 c2.h,fun _ _=>rfl⟩) (fun t hJ Y _=>?_);refine zA rfl (zA rfl tn);obtain⟨kk,m',l2⟩:=t;dsimp only at hJ ⊢;obtain⟨j4,j5,j6,j7,j8,j9,j10⟩:=hJ;repeat refine u ?_
  refine zA1 (olv 0 rfl rfl) ?_;repeat refine u ?_
  refine ti (fun c3=>?_) fun c3=>?_;iterate 4 refine u ?_
  refine zK 12 mixed rfl rfl ?_;repeat refine u ?_
  refine d1 (oixv 0 m' rfl rfl rfl (fun _=>(by omega)) (fun _=>(by(have e0:=dt c3;omega)))) ?_;refine d1 (oldr 0 rfl rfl (fun _=>(by(have e0:=dt c3;omega))) rfl) ?_;repeat refine u ?_
  refine d1 (oixv 0 (m'-1) rfl rfl rfl (fun _=>(by omega)) (fun _=>(by(simp;omega)))) ?_;repeat refine u ?_
  refine zC rfl rfl (yI0 (by omega) (by omega)) ?_;repeat refine u ?_
  refine ti (fun c4=>?_) fun c4=>?_;repeat refine u ?_
  refine zA1 (oixv 0 m' rfl rfl rfl (fun _=>(by omega)) (fun _=>(by(have e0:=dt c3;omega)))) ?_;refine zA1 (oldr 0 rfl rfl (fun _=>(by(have e0:=dt c3;omega))) rfl) ?_;repeat refine u ?_
  refine tsr 0 _ rfl rfl rfl rfl rfl (by(simp;omega)) rfl ?_;repeat refine u ?_
  rotate_left;repeat refine u ?_
  rotate_left;repeat refine u ?_
  refine zA1 (osv 0 _ rfl rfl rfl (fun _=>rfl) (fun _=>(by(simp;omega)))) ?_;refine tclr 0 rfl rfl (by(simp;omega)) ?_;repeat refine u ?_
  refine tsh 0 _ rfl rfl rfl rfl (by(simp;omega)) fun r64=>?_;repeat refine u ?_
  rotate_left
  ·have h5:m'<l2.length-s:=by have:=dt c3;simp at this;omega
   have hd:l2.getD (s+m') (0,0)=l.getD (s+m') (0,0):=j10 _ (by omega);have hd2:l2.getD (s+(m'-1)) (0,0)=l.getD (s+m'-1) (0,0):=by rw[show s+(m'-1)=s+m'-1 by omega];exact j10 _ (by omega)
   have hc:¬ eqL (l.getD (s+m') (0,0)) (l.getD (s+m'-1) (0,0))=true:=by rw[← hd,← hd2,Bool.not_eq_true];exact(zct _) ▸ c4.h
   refine⟨(kk+1,m'+1,l2.set kk (l2.getD (s+m') (0,0))),tes ?_ ?_ ?_,?_,(by(simp;omega))⟩;refine zA rfl (zA rfl tn);refine zA rfl (zA rfl (zA rfl tn));rotate_left;rotate_left
   ·rw[List.map_set];exact zaa _
   ·refine⟨by simp,by simp only;omega,by simp only;omega,by simp only;omega,by simp[j8],?_,fun i hi=>?_⟩
    ·simp only[← zaO];rw[hd];exact fE (by omega) j9 hc
    ·simp only at hi ⊢; rw[kK (by omega)];exact j10 i (by omega)
  ·have h5:m'<l2.length-s:=by have:=dt c3;simp at this;omega
   have hd:l2.getD (s+m') (0,0)=l.getD (s+m') (0,0):=j10 _ (by omega);have hd2:l2.getD (s+(m'-1)) (0,0)=l.getD (s+m'-1) (0,0):=by rw[show s+(m'-1)=s+m'-1 by omega];exact j10 _ (by omega)
   have hc:eqL (l.getD (s+m') (0,0)) (l.getD (s+m'-1) (0,0))=true:=by rw[← hd,← hd2];exact(Bool.not_eq_false' _) ▸ c4.h
   refine⟨(kk,m'+1,l2),tes ?_ ?_ (zaa _),?_,(by(simp;omega))⟩;refine zA rfl (zA rfl tn);refine zA rfl (zA rfl (zA rfl tn));exact⟨by simp,by simp only;omega,j6,by simp only;omega,j8,by simp only[← zaO];exact cG (by omega) j9 hc,fun i hi=>j10 i (by simp only at hi;omega)⟩
  ·have h5:¬ m'<l2.length-s:=by have:=df c3;simp at this;omega
   have e:s+m'=l.length:=by omega
   refine⟨[_],exP r64,_,rst rfl rs0,zaa _,⟨r64,rfl,?_⟩,yD (PSub.refl _)⟩;rw[← e,← j9];simp[zcx,zaS (show kk≤l2.length by omega)]
 ·have h3:=dt c1;refine⟨s+1,tes ?_ ?_ (zaa _),?_,(by omega)⟩;refine zA rfl tn;refine zA rfl (zA rfl tn);refine⟨by omega,by omega,fun i h1 h4=>?_⟩;rcases zaf i s with h | h
  ·exact j3 i h1 h
  ·obtain rfl:i=s:=by omega
   exact c2.h
 ·have h3:=df c1;exact⟨[_],exP v,_,rst rfl rs0,zaa _,⟨v,rfl,by rw[jU (zab _) fun i h1 h4=>j3 i h1 (by omega),zaF]⟩,yD (PSub.refl _)⟩
theorem yI2 {Ψ:PV}{p:Rat}{n N:Nat}[h:QR Ψ n p](hn:n≤80000)(hr:rlen p N):CTy prog 83 [Ψ] (ag (ptc N (p,p))):=by
 refine yI (σs:=[ag (rtq n p)]) ?_ (fs1 qr_q fs0);refine fw [.cell 2 55] func83 fun X=>?_;iterate 2 refine u ?_
 refine tbx (hc:=cts1) rfl fun b1=>(u fun b2=>?_);repeat refine u ?_
 refine zB rfl rfl (pI (by omega)) ?_;repeat refine u ?_
 refine zD 0 rfl rfl ?_;repeat refine u ?_
 refine⟨[_],zL 0 rfl rs0,yD ?_⟩;exact fun M w v ⟨us,e,h⟩=>⟨us,e,rR (p:=(p,p)) ⟨hr,hr⟩ M w us h⟩
theorem klofT {lo hi:Rat}{bl bh:P2}{es:List BX}{m n n3 n4 N:Nat}(hm:m≤200)(hn:n≤200)(h3:n3≤200)(h4:n4≤200)(hN:N≤20000)(hl:es.length≤900)(hr:∀ x∈xP lo hi es es.length++[(bl.2,bl.2),(bh.2,bh.2)],rlen x.1 N∧rlen x.2 N) :
  CTy prog 23 [ag (rtq m lo),ag (rtq m hi),ag (st [ptq n3 bl,ptq n4 bh]),sv (sl 12 (es.map (ect n)))] (sv (sl 6 ((lvOf lo hi bl.2 bh.2 es).map (ptc N)))):=by
 have hb1:rlen bl.2 N:=(hr (bl.2,bl.2) (by simp)).1;have hb2:rlen bh.2 N:=(hr (bh.2,bh.2) (by simp)).1;have ht:∀ x∈xP lo hi es es.length,rlen x.1 N∧rlen x.2 N:=fun x hx=>hr x (by simp[hx]);have hlen:(xP lo hi es es.length).length≤es.length:=oE _ _ _ _;refine fw [.tmp 8] func23 fun X=>?_;repeat refine u ?_
 refine zB rfl rfl (gB (by omega) (by omega)) ?_;repeat refine u ?_
 refine ti (fun c0=>?_) fun c0=>?_;repeat refine u ?_
 refine e ?_;rotate_left;iterate 2 refine u ?_
 refine mZ 1 15 [(4,18,0),(14,28,0)] rfl rfl mixed rfl rfl ?_;repeat refine u ?_
 refine cx1 (oca rfl rfl fun _=>klthru) rfl ?_;refine cN rfl rfl (cco rfl rfl (ocolL (ithru (by omega) (by omega) (by omega) ht) (by omega))) ?_;repeat refine u ?_
 refine cx1 (oca rfl rfl fun _=>yI2 (by omega) hb1) rfl ?_;repeat refine u ?_
 refine cx1 (oca rfl rfl fun _=>yI2 (by omega) hb2) rfl ?_;refine cx1 (obs rfl rfl rfl rfl rfl rfl) rfl (cA rfl rfl rfl (cap rfl (by(simp;omega)) rfl) ?_);refine cE (fun r28=>?_);refine fm ?_;repeat refine u ?_
 rotate_left
 ·have hq:¬ lo<hi:=fun h=>by have:=gD.1 (dt c0);grind
  rw[← iR (l:=[]) (by rw[if_neg hq])];exact lR
 ·have hq:lo<hi:=by have h:=mt gD.2 (df c0);grind
  dsimp only[rowS];rw[show (xP lo hi es es.length).map (ptc N)++[ptc N (bl.2,bl.2),ptc N (bh.2,bh.2)]=(xP lo hi es es.length++[(bl.2,bl.2),(bh.2,bh.2)]).map (ptc N) by simp];refine tco [0] rfl rfl rfl (ksortL (by omega) (by simp;omega)) ?_;rintro _ _ ⟨rfl,l',hp,hso,rfl⟩;have hll:=hp.length_eq;simp only[zal,zaw,zbk] at hll;repeat refine u ?_
  refine tco [0] rfl rfl rfl (wcompactL (by omega) (by omega)) ?_;rintro _ _ ⟨v3,rfl,rfl⟩;have he:jE eqL (0,0) l' l'.length=lvOf lo hi bl.2 bh.2 es:=iR (by
   rw[if_pos hq];have h1:=bR (d:=(0,0)) yS2 hp hso;rw[show (fun a b:P2=>decide (cmpL a b=0))=eqL from funext fun a=>funext fun b=>decide_eq_decide.2 tD] at h1;exact⟨h1.1,h1.2⟩)
  rw[he];iterate 2 refine u ?_
  refine t_ts (yV (s:=8) 0 rfl rfl) ?_;repeat refine u ?_
  exact e
noncomputable abbrev lvA (xs:List Rat)(bl bh:P2)(es:List BX)(j:Nat):List P2:=lvOf (xs.getD j 0) (xs.getD (j+1) 0) bl.2 bh.2 es
theorem klall {ls:zF}{bl bh:P2}{xs:List Rat}{n m n3 n4 N:Nat}(hn:n≤100)(hm:m≤200)(h3:n3≤200)(h4:n4≤200)(hN:N≤20000)(hl:ls.length≤50)(h9:∀ l∈ls,l.length≤9)(hx:xs.length≤10000)(hr:∀ j,j+1<xs.length→∀ x∈xP (xs.getD j 0) (xs.getD (j+1) 0) (yW ls) (yW ls).length++[(bl.2,bl.2),(bh.2,bh.2)],rlen x.1 N∧rlen x.2 N) :
  CTy prog 22 [sv (sl 1 (ls.map fun x=>sl 6 (x.map (ptc n)))),ag (st [ptq n3 bl,ptq n4 bh]),sv (sl 3 (xs.map (rtq m)))] (sv (sl 1 ((List.range (xs.length-1)).map fun j=>sl 6 ((lvA xs bl bh (yW ls) j).map (ptc N))))):=by
 have he:=iB h9;refine fw [.tmp 6] func22 fun X=>?_;repeat refine u ?_
 refine zB rfl rfl (khullE (by omega) (by omega) h9) ?_;repeat refine u ?_
 refine t_ts (jG 49 1) ?_;refine lp (σ:=Nat×Value) [2,4,7,14] (fun s=>[(15,True,zJ s.1),(6,True,exP s.2)]) (fun s=>[.row s.2 49 1 ((List.range s.1).map fun j=>sl 6 ((lvA xs bl bh (yW ls) j).map (ptc N)))]) (fun s=>s.1≤xs.length-1) (fun s=>xs.length-1-s.1) ((0,.slice none 0 0)) ((by simp)) fun s hJ Y _=>?_;obtain⟨i,v⟩:=s;dsimp only at hJ ⊢;have hi:i<xs.length-1→i+1<xs.length:=fun h=>by omega
 repeat refine u ?_
 refine ti (fun c0=>?_) fun c0=>?_;iterate 8 refine u ?_
 refine zK 14 mixed rfl rfl ?_;repeat refine u ?_
 refine d1 (oix _ rfl rfl rfl (fun _=>rfl) (fun _=>(by(have e0:=dt c0;omega)))) ?_;repeat refine u ?_
 refine d1 (oix _ rfl rfl rfl (fun _=>rfl) (fun _=>(by(have e0:=dt c0;simp;omega)))) ?_;repeat refine u ?_
 refine zC rfl rfl (klofT (N:=N) (by omega) (by omega) (by omega) (by omega) hN (by omega) ?_) ?_;rotate_left;iterate 3 refine u ?_
 refine u fun r32=>?_;repeat refine u ?_
 rotate_left;iterate 7 refine u ?_
 refine t_ts (yV (s:=6) 0 rfl rfl) ?_;repeat refine u ?_
 refine e ?_;rotate_left
 ·exact hr i (by have:=dt c0;omega)
 ·have hi2:=dt c0;refine⟨(i+1,r32),tes ?_ ?_ ?_,(by omega),(by omega)⟩;refine zA rfl (zA rfl tn);refine zA rfl (zA rfl (zA rfl (zA rfl tn)));all_goals first
   | (rw[zbv];exact zaa _)
   | (dsimp only;omega)
 ·have hi2:=df c0;rw[show xs.length-1=i by omega];exact PSub.refl _
theorem vV (D A:Nat):Fd D A 0:=⟨0,zaD _,by rw[Rat.zero_mul];rfl⟩
theorem fd_mk {z:Int}{m:Nat}(hz:z.natAbs≤999)(hm:m≤12):Fd 27720 27692280 (mkRat z m):=by
 rcases zbi m with h | h
 ·subst h;rw[Rat.mkRat_zero];exact vV _ _
 ·obtain⟨k,hk⟩:m ∣ 27720:=(show ∀ m:Fin 13,0<m.val→m.val ∣ 27720 by decide) ⟨m,by omega⟩ h;have h1:k≤m*k:=Nat.le_mul_of_pos_left _ h;refine⟨z*k,?_,?_⟩
  ·rw[zbH,zbY];have:=zaT hz (show k≤27720 by omega);omega
  ·have h0:((m:Nat):Rat)≠0:=by exact_mod_cast (show m≠0 by omega)
   rw[Rat.mkRat_eq_div,hk,Rat.natCast_mul,zbG,Rat.intCast_natCast,← Rat.mul_assoc,zcE h0]
theorem zR7 {l:List Nat}{B:Nat}(g1:l.length≤1)(g2:l.length=0∨l.getD 0 Df.d≤B):val l≤B:=by
 match l,g1 with
 | [],_=>exact zaD _
 | [x],_ =>
  rcases g2 with g | g
  ·cases g
  ·simpa [val] using g
theorem zY8 {a:RX}(h:kB a=true):Fd 27720 27692280 (qx a):=by
 unfold kB at h;simp only[zaq,zcf,decide_eq_true_eq] at h;obtain⟨⟨⟨h1,h2⟩,h3⟩,h4⟩:=h;refine fd_mk ?_ (zR7 h2 h4);have:=zR7 h1 h3;unfold zv;split<;>omega
def FP (D A:Nat)(q:P2):Prop:=Fd D A q.1∧Fd D A q.2
theorem zL8 {l:List PX}(h:qE l=true):∀ a∈l,FP 27720 27692280 (px a):=fun a ha=>by
 have h:=zaC.1 h a ha;rw[zaq] at h;exact⟨zY8 h.1,zY8 h.2⟩
noncomputable def piecesX (r:List PX)(ts:List TX3):zF:=(ts.map px3).map fun t=>sumF (t3l t) ((r.map px).map negP)
theorem vX {D A:Nat}{p q:Rat}(h:Fd D A p)(k:Fd D A q):Fd D A (minQ p q)∧Fd D A (maxQ p q):=by
 unfold minQ maxQ;constructor<;>split<;>assumption
theorem yL8 {D A:Nat}:∀(l:List P2) (b:BX),(∀ q∈l,FP D A q)→FP D A b.1→FP D A b.2→FP D A (l.foldl boxS b).1∧FP D A (l.foldl boxS b).2
 | [],b,_,h1,h2=>⟨h1,h2⟩
 | x::l,b,h,h1,h2=>by
  have hx:=h x (by simp);exact yL8 l (boxS b x) (fun q hq=>h q (by simp[hq])) ⟨(vX h1.1 hx.1).1,(vX h1.2 hx.2).1⟩ ⟨(vX h2.1 hx.1).2,(vX h2.2 hx.2).2⟩
theorem vW (D:Nat):Fd D D (((1:Nat):Rat)):=⟨D,by simp,by rw[yO7,Rat.one_mul,Rat.intCast_natCast]⟩
theorem frame_fp {D A:Nat}{ls:zF}(h:∀ l∈ls,∀ q∈l,FP D A q):FP D (A+D) (zQ ls).1∧FP D (A+D) (zQ ls).2:=by
 have h1:∀ q∈ls.flatten,FP D A q:=fun q hq=>by
  obtain⟨l,hl,hq⟩:=List.mem_flatten.1 hq;exact h l hl q hq
 have h2:FP D A (gp ls.flatten 0):=by
  rcases zbi ls.flatten.length with c | c
  ·rw[zcv.1 c];exact⟨vV _ _,vV _ _⟩
  ·exact h1 _ (jH c)
 have h3:=yL8 _ (gp ls.flatten 0,gp ls.flatten 0) h1 h2 h2;have e:∀ p:Rat,p-((1:Nat):Rat)=p + -((1:Nat):Rat):=fun p=>zcI _ _;unfold zQ;refine⟨⟨?_,?_⟩,?_,?_⟩
 ·show Fd D (A+D) (_-_);rw[e];exact h3.1.1.add (vW D).neg
 ·show Fd D (A+D) (_-_);rw[e];exact h3.1.2.add (vW D).neg
 ·exact h3.2.1.add (vW D)
 ·exact h3.2.2.add (vW D)
theorem zZ0 {D A:Nat}{l:List P2}(h:∀ q∈l,FP D A q){m:Nat}(hm:m<l.length):FP D A (bI l m).1∧FP D A (bI l m).2:=by
 have h1:=h _ (jH hm);have h2:=h _ (jH (gI hm));obtain⟨a,b⟩:=zY6 (l.getD m (0,0)) (l.getD ((m+1)%l.length) (0,0));unfold bI;simp only[zad,zaY,or_false] at a b;constructor
 ·rcases a with e | e<;>rw[e]<;>assumption
 ·rcases b with e | e<;>rw[e]<;>assumption
theorem cut_fx {D A:Nat}{ls:zF}{b:BX}(h0:0<D)(h:∀ l∈ls,∀ q∈l,FP D A q)(hb:FP D A b.1∧FP D A b.2){x:Rat}(hx:x∈cutsOf ls b):Fd D A x∨Fx (24*(A*A*A)) (D*(8*(A*A))) x:=by
 unfold cutsOf at hx;rw[yM uC] at hx;unfold rawC cY at hx;rcases zae.1 hx with hx | hx
 ·rcases zae.1 hx with hx | hx
  ·simp only[zad,zaY,or_false] at hx;rcases hx with rfl | rfl
   ·exact .inl hb.1.1
   ·exact .inl hb.2.1
  ·obtain⟨l,hl,hx⟩:=zbN.1 hx;obtain⟨q,hq,rfl⟩:=zai.1 hx;exact .inl (h l hl q hq).1
 ·obtain⟨i,k,hik,hk,hx⟩:=lU.1 hx;obtain⟨p,hp,rfl⟩:=zai.1 hx;rw[kO] at hp;obtain⟨s,hs,t,ht,hp⟩:=dO.1 ((yM cZ).1 hp);obtain⟨m,hm,rfl⟩:=kZ.1 hs;obtain⟨n,hn,rfl⟩:=kZ.1 ht;have f1:=zZ0 (h _ (kW (d:=[]) (show i<ls.length by omega))) hm;have f2:=zZ0 (h _ (kW (d:=[]) hk)) hn;generalize bI (ls.getD i []) m=s at *;generalize bI (ls.getD k []) n=t at *;unfold gT at hp;split at hp
  ·cases hp
  rename_i c;simp only[zad,zaY,or_false] at hp;have lo:FP D A (loP s t):=by unfold loP;split;exact f2.1;exact f1.1
  have hi:FP D A (hiP s t):=by unfold hiP;split;exact f2.2;exact f1.2
  rcases meets_cases s t with e | ⟨_,e⟩ | ⟨ok,e⟩
  ·rw[e] at c;exact absurd rfl c
  ·rw[e] at hp;rcases hp with rfl | rfl
   ·exact .inl lo.1
   ·exact .inl hi.1
  ·rw[e] at hp;obtain rfl:p=xN s.1 s.2 t.1 t.2:=hp.elim id id;exact .inr (lines_fx h0 f1.1 f1.2 f2.1 f2.2 ok).1
theorem cX {q:Rat}(h:Fd 27720 55412280 q):rlen q 1:=vB (h.fx (by decide)) (by decide) (by decide)
theorem iC {ls:zF}{b:BX}(h:∀ l∈ls,∀ q∈l,FP 27720 55412280 q)(hb:FP 27720 55412280 b.1∧FP 27720 55412280 b.2){x:Rat}(hx:x∈cutsOf ls b):rlen x 3:=by
 rcases cut_fx (by decide) h hb hx with k | k
 ·exact zN (cX k) (by omega)
 ·exact vB k (by decide) (by decide)
theorem FP.up {D A B:Nat}{q:P2}(h:FP D A q)(k:A≤B):FP D B q:=⟨h.1.up k,h.2.up k⟩
theorem iX {q:P2}(h:FP 27720 55412280 q):plen q 1:=⟨cX h.1,cX h.2⟩
theorem zM2 {D A:Nat}{ls:zF}(h:∀ l∈ls,∀ q∈l,FP D A q){e:BX}(he:e∈yW ls):FP D A e.1∧FP D A e.2:=by
 obtain⟨i,k,hi,hk,rfl⟩:=nN he;have h1:=h _ (kW (d:=[]) hi) _ (jH hk);have h2:=h _ (kW (d:=[]) hi) _ (jH (gI hk));unfold ordE;split
 ·exact⟨h2,h1⟩
 ·exact⟨h1,h2⟩
theorem zW2 {ls:zF}{b:BX}(h:∀ l∈ls,∀ q∈l,FP 27720 55412280 q)(hb:FP 27720 55412280 b.1∧FP 27720 55412280 b.2){lo hi:Rat}(hl:lo∈cutsOf ls b)(hh:hi∈cutsOf ls b) :
  ∀ x∈xP lo hi (yW ls) (yW ls).length++[(b.1.2,b.1.2),(b.2.2,b.2.2)],rlen x.1 14∧rlen x.2 14:=fun x hx=>by
 rcases zae.1 hx with hx | hx
 ·obtain⟨e,he,_,rfl⟩:=oF.1 hx;obtain⟨k1,k2⟩:=zM2 h he;have k1:=iX k1;have k2:=iX k2;exact⟨bS k1 k2 (iC h hb hl),bS k1 k2 (iC h hb hh)⟩
 ·simp only[zad,zaY,or_false] at hx;rcases hx with rfl | rfl
  ·exact⟨zN (cX hb.1.2) (by omega),zN (cX hb.1.2) (by omega)⟩
  ·exact⟨zN (cX hb.2.2) (by omega),zN (cX hb.2.2) (by omega)⟩
theorem zM1:∀ m:List P2,∃ l:List P2,l.Pairwise (fun a b=>cmpL a b<0)∧∀ x,x∈l↔x∈m
 | []=>⟨[],.nil,fun x=>Iff.rfl⟩
 | a::m=>by
  obtain⟨l,h1,h2⟩:=zM1 m;refine⟨l.filter (fun x=>decide (cmpL x a<0))++a::l.filter (fun x=>decide (cmpL a x<0)),?_,fun x=>?_⟩
  ·refine List.pairwise_append.2 ⟨h1.filter _,List.pairwise_cons.2 ⟨fun b hb=>by simpa using (List.mem_filter.1 hb).2,h1.filter _⟩,fun b hb c hc=>?_⟩;have hb':cmpL b a<0:=by simpa using (List.mem_filter.1 hb).2
   rcases zad.1 hc with rfl | hc
   ·exact hb'
   ·exact aR hb' (by simpa using (List.mem_filter.1 hc).2)
  ·simp only[zae,zad,zcs,decide_eq_true_eq,h2];constructor
   ·rintro(⟨h,_⟩ | rfl | ⟨h,_⟩)
    ·exact .inr h
    ·exact .inl rfl
    ·exact .inr h
   ·rintro(rfl | h)
    ·exact .inr (.inl rfl)
    ·rcases sF x a with c | c
     ·by_cases e:leL a x
      ·exact .inr (.inl (zK5 c e))
      ·exact .inl ⟨h,lE.2 e⟩
     ·by_cases e:leL x a
      ·exact .inr (.inl (zK5 e c))
      ·exact .inr (.inr ⟨h,lE.2 e⟩)
theorem nE {lo hi yl yh:Rat}{es:List BX}(h:lo<hi):IsLv lo hi yl yh es (lvOf lo hi yl yh es):=by
 obtain⟨l,h1,h2⟩:=zM1 (xP lo hi es es.length++[(yl,yl),(yh,yh)]);have h3:IsLv lo hi yl yh es l:=⟨h1,h2⟩;rw[← iR (l:=l) (by rw[if_pos h];exact h3)];exact h3
theorem yG7:∀ {l m:List P2},l.Pairwise (fun a b=>cmpL a b<0)→(∀ x∈l,x∈m)→l.length≤m.length
 | [],m,_,_=>zaD _
 | a::l,m,h,hs=>by
  obtain⟨h1,h2⟩:=zav.1 h;have h3:=yG7 (m:=m.erase a) h2 fun x hx=>(List.mem_erase_of_ne fun e=>by have:=h1 x hx;rw[e] at this;exact lF a this).2 (hs x (by simp[hx]));have h4:=List.length_erase_of_mem (hs a (by simp));have h5:=List.length_pos_of_mem (hs a (by simp));simp only[zaw];omega
theorem lv_len {lo hi yl yh:Rat}{es:List BX}(h:lo<hi):(lvOf lo hi yl yh es).length≤es.length+2:=by
 have h1:=nE (yl:=yl) (yh:=yh) (es:=es) h;have h2:=yG7 h1.rise fun x hx=>(h1.mem x).1 hx;have h3:=oE lo hi es es.length;rw[zal] at h2;simp only[zaw,zbk] at h2;omega
def posY (ys:List Rat)(j:Nat)(y:Rat):Prop:=if j%2=0 then y=ys.getD (j/2) 0 else ys.getD (j/2) 0<y∧y<ys.getD (j/2+1) 0
def cloY (ys:List Rat)(j:Nat)(y:Rat):Prop:=if j%2=0 then y=ys.getD (j/2) 0 else ys.getD (j/2) 0≤y∧y≤ys.getD (j/2+1) 0
noncomputable def repY (ys:List Rat)(j:Nat):Rat:=if j%2=0 then ys.getD (j/2) 0 else xM (ys.getD (j/2) 0) (ys.getD (j/2+1) 0)
noncomputable def xsM (ls:zF):List Rat:=cutsOf ls (zQ ls)
noncomputable def lvM (ls:zF)(j:Nat):List P2:=lvOf ((xsM ls).getD j 0) ((xsM ls).getD (j+1) 0) (zQ ls).1.2 (zQ ls).2.2 (yW ls)
noncomputable def wlR (ls:zF)(i:Nat):List Rat:=[(zQ ls).1.2,(zQ ls).2.2]++(if 0<i then(lvM ls (i-1)).map (·.2) else [])++(if i+1<(xsM ls).length then(lvM ls i).map (·.1) else [])++(ls.flatten.filter fun p=>decide (p.1=(xsM ls).getD i 0)).map (·.2)
noncomputable def wlM (ls:zF)(i:Nat):List Rat:=setOf cmpR (wlR ls i)
theorem set_rises (l:List Rat):dN (setOf cmpR l):=fun i hi=>by
 have h:=zcK.1 (gE uC l).rise i (i+1) (by omega) hi (by omega);rw[zah,zah,zag (show i<(setOf cmpR l).length by omega),zag hi];exact yO.1 h
theorem mB {l:List Rat}{i:Nat}(h:i<l.length):l.getD i 0∈l:=by rw[zah,zag h];exact zaP h
theorem sC {l:List Rat}{x:Rat}(h:x∈l):∃ i,i<l.length∧l.getD i 0=x:=by
 obtain⟨i,hi,e⟩:=zbg.1 h;exact⟨i,hi,by rw[zah,zag hi];exact e⟩
theorem zI1 {l:List Rat}{a b:Rat}(ha:a∈l)(hb:b∈l)(hab:a<b)(h:∀ x∈l,a≤x∧x≤b):2≤(setOf cmpR l).length∧(setOf cmpR l).getD 0 0=a∧(setOf cmpR l).getD ((setOf cmpR l).length-1) 0=b:=by
 have hr:=set_rises l;have hm:∀ x∈setOf cmpR l,a≤x∧x≤b:=fun x hx=>h x ((yM uC).1 hx);obtain⟨i,hi,ei⟩:=sC ((yM uC).2 ha);obtain⟨j,hj,ej⟩:=sC ((yM uC).2 hb);generalize setOf cmpR l=s at *;have hij:i≠j:=fun e=>by subst e;grind
 have h0:=hm _ (mB (show 0<s.length by omega));have h1:=hm _ (mB (show s.length-1<s.length by omega));refine⟨by omega,?_,?_⟩
 ·rcases zbi i with c | c
  ·subst c;exact ei
  ·have:=aZ hr c hi;grind
 ·rcases zaf j (s.length-1) with c | c
  ·have:=aZ hr c (by omega);grind
  ·rw[show s.length-1=j by omega];exact ej
theorem cut_in {ls:zF}{x:Rat}(hx:x∈xsM ls):(zQ ls).1.1≤x∧x≤(zQ ls).2.1:=by
 have hf:=eD ls;unfold xsM cutsOf at hx;rw[yM uC] at hx;unfold rawC cY at hx;rcases zae.1 hx with hx | hx
 ·rcases zae.1 hx with hx | hx
  ·simp only[zad,zaY,or_false] at hx;rcases hx with rfl | rfl
   ·exact⟨zaM,zaZ hf.2.1⟩
   ·exact⟨zaZ hf.2.1,zaM⟩
  ·obtain⟨l,hl,hx⟩:=zbN.1 hx;obtain⟨q,hq,rfl⟩:=zai.1 hx;have:=hf.1 l hl q hq;exact⟨zaZ this.1,zaZ this.2.1⟩
 ·obtain⟨i,k,hik,hk,hx⟩:=lU.1 hx;obtain⟨p,hp,rfl⟩:=zai.1 hx;rw[kO] at hp;obtain⟨s,hs,t,ht,hp⟩:=dO.1 ((yM cZ).1 hp);obtain⟨m,hm,rfl⟩:=kZ.1 hs;have hb:=zY4 (pair_has hp).1;have hl:=kW (d:=[]) (show i<ls.length by omega);have h1:=hf.1 _ hl _ (jH hm);have h2:=hf.1 _ hl _ (jH (gI hm));have h3:=zY6 (gp (ls.getD i []) m) (nx (ls.getD i []) m);simp only[zad,zaY,or_false] at h3;change (xY (gp (ls.getD i []) m) (nx (ls.getD i []) m)).1.1≤p.1∧p.1≤(xY (gp (ls.getD i []) m) (nx (ls.getD i []) m)).2.1∧_ at hb;generalize xY (gp (ls.getD i []) m) (nx (ls.getD i []) m)=s at *;constructor
  ·rcases h3.1 with e | e<;>rw[e] at hb<;>grind
  ·rcases h3.2 with e | e<;>rw[e] at hb<;>grind
theorem aT (ls:zF):dN (xsM ls):=bJ ls _
theorem xs_ends (ls:zF):2≤(xsM ls).length∧(xsM ls).getD 0 0=(zQ ls).1.1∧(xsM ls).getD ((xsM ls).length-1) 0=(zQ ls).2.1 :=
 zI1 (l:=rawC ls (zQ ls)) (by simp[rawC]) (by simp[rawC]) (eD ls).2.1 fun x hx=>cut_in (by unfold xsM cutsOf;exact(yM uC).2 hx)
theorem yP4 {ls:zF}(hls:∀ l∈ls,∃ m,l=hullF m){j:Nat}(hj:j+1<(xsM ls).length) :
  lQ (lvM ls j)∧2≤(lvM ls j).length∧(lvM ls j).getD 0 (0,0)=((zQ ls).1.2,(zQ ls).1.2)∧(lvM ls j).getD ((lvM ls j).length-1) (0,0)=((zQ ls).2.2,(zQ ls).2.2) :=
 slab_rises hls hj (nE (aT ls j hj))
theorem yP5 {ls:zF}(hls:∀ l∈ls,∃ m,l=hullF m){j:Nat}(hj:j+1<(xsM ls).length){a:P2}(ha:a∈lvM ls j):(zQ ls).1.2≤a.1∧a.1≤(zQ ls).2.2∧(zQ ls).1.2≤a.2∧a.2≤(zQ ls).2.2:=by
 obtain⟨h1,h2,h3,h4⟩:=yP4 hls hj;obtain⟨i,hi,e⟩:=zbg.1 ha;have e2:(lvM ls j).getD i (0,0)=a:=by rw[zah,zag hi];exact e
 have k1:=Go.SL.lP h1 i 0 (by omega) hi;have k2:=Go.SL.lP h1 ((lvM ls j).length-1) i (by omega) (by omega);rw[e2,h3] at k1;rw[e2,h4] at k2;exact⟨k1.1,k2.1,k1.2,k2.2⟩
theorem yB7 {ls:zF}{i:Nat}{y:Rat}:y∈wlM ls i↔y∈wlR ls i:=yM uC
theorem nX {ls:zF}{i:Nat}{y:Rat}:y∈wlR ls i↔(y=(zQ ls).1.2∨y=(zQ ls).2.2)∨(0<i∧∃ a∈lvM ls (i-1),a.2=y)∨(i+1<(xsM ls).length∧∃ a∈lvM ls i,a.1=y) ∨ ∃ l∈ls,∃ p∈l,p.1=(xsM ls).getD i 0∧p.2=y:=by
 unfold wlR;simp only[zae,zad,zaY,or_false,zai,zcs,List.mem_flatten,decide_eq_true_eq];rw[or_assoc,or_assoc];refine or_congr Iff.rfl (or_congr ?_ (or_congr ?_ ?_))
 ·split
  ·rename_i c;simp[c]
  ·rename_i c;simp[c]
 ·split
  ·rename_i c;simp[c]
  ·rename_i c;simp[c]
 ·constructor
  ·rintro⟨p,⟨⟨l,hl,hp⟩,e⟩,rfl⟩;exact⟨l,hl,p,hp,e,rfl⟩
  ·rintro⟨l,hl,p,hp,e,rfl⟩;exact⟨p,⟨⟨l,hl,hp⟩,e⟩,rfl⟩
theorem wl_in {ls:zF}(hls:∀ l∈ls,∃ m,l=hullF m){i:Nat}(hi:i<(xsM ls).length){y:Rat}(h:y∈wlR ls i):(zQ ls).1.2≤y∧y≤(zQ ls).2.2:=by
 have hf:=eD ls;rcases nX.1 h with(rfl | rfl) | ⟨h0,a,ha,rfl⟩ | ⟨h0,a,ha,rfl⟩ | ⟨l,hl,p,hp,_,rfl⟩
 ·exact⟨zaM,zaZ hf.2.2⟩
 ·exact⟨zaZ hf.2.2,zaM⟩
 ·have:=yP5 hls (by omega) ha;exact this.2.2
 ·have:=yP5 hls h0 ha;exact⟨this.1,this.2.1⟩
 ·have:=hf.1 l hl p hp;exact⟨zaZ this.2.2.1,zaZ this.2.2.2⟩
theorem wl_ends {ls:zF}(hls:∀ l∈ls,∃ m,l=hullF m){i:Nat}(hi:i<(xsM ls).length):2≤(wlM ls i).length∧(wlM ls i).getD 0 0=(zQ ls).1.2∧(wlM ls i).getD ((wlM ls i).length-1) 0=(zQ ls).2.2 :=
 zI1 (l:=wlR ls i) (nX.2 (.inl (.inl rfl))) (nX.2 (.inl (.inr rfl))) (eD ls).2.2 fun x hx=>wl_in hls hi hx
noncomputable def xcM (ls:zF)(c:Nat):Rat:=repY (xsM ls) c
noncomputable def ycM (ls:zF)(c:Nat)(x:Rat):List Rat:=if c%2=0 then wlM ls (c/2) else hsL ((xsM ls).getD (c/2) 0) ((xsM ls).getD (c/2+1) 0) x (lvM ls (c/2))
noncomputable def ynM (ls:zF)(c:Nat):Nat:=if c%2=0 then(wlM ls (c/2)).length else(lvM ls (c/2)).length
def ownC (ls:zF)(c j:Nat)(p:P2):Prop:=posY (xsM ls) c p.1∧posY (ycM ls c p.1) j p.2
def touC (ls:zF)(c j:Nat)(p:P2):Prop:=cloY (xsM ls) c p.1∧cloY (ycM ls c p.1) j p.2
noncomputable def repC (ls:zF)(c j:Nat):P2:=(xcM ls c,repY (ycM ls c (xcM ls c)) j)
def inC (ls:zF)(c j:Nat):Prop:=c<2*(xsM ls).length-1∧j<2*ynM ls c-1
theorem pow_b (a:Nat):2^(32*a)=4294967296^a:=by rw[zch]
theorem rlen_dy {p:Rat}{s a:Nat}(hp:rlen p a)(hs:s≤32*(a+a)):rlen (zZ1 p s) (3*a+1):=by
 have hn:=zV hp.1;have h2:2^s≤4294967296^(a+a):=by rw[← pow_b];exact zbj (by omega) hs
 have h0:0<2^s:=zbO (by omega);have e3:4294967296^(3*a)=4294967296^a*4294967296^(a+a):=by rw[← zaJ];congr 1;omega
 have l1:(uZ (p*p2 s)).natAbs≤p.num.natAbs*2^s+1:=by
  rw[above_p2];have h3:(p.num*((2^s:Nat):Int)/(p.den:Int)).natAbs≤(p.num*((2^s:Nat):Int)).natAbs:=Int.natAbs_ediv_le_natAbs _ _;rw[zbH,zbY] at h3;omega
 have l2:p.num.natAbs*2^s+1≤4294967296^(3*a):=by
  rw[e3];have h4:(p.num.natAbs+1)*2^s≤4294967296^a*4294967296^(a+a):=zaT hn h2;rw[zaQ] at h4;omega
 have l3:4294967296^(3*a)<4294967296^(3*a+1):=zcn (by omega) (by omega);have l4:4294967296^(a+a)<4294967296^(3*a+1):=zcn (by omega) (by omega);exact vB (N:=4294967296^(3*a)) (M:=4294967296^(a+a)) ⟨uZ (p*p2 s),2^s,h0,h2,zac l1 l2,dyVal_eq p s⟩ l3 l4
theorem oM {p q:Rat}{a:Nat}(hp:rlen p a)(hq:rlen q a)(h:p<q):rlen (tI p q) (3*a+1):=by
 unfold tI;split
 ·exact zN fS (by omega)
 ·refine rlen_dy hp (zcu fun c=>(zM6 h).2 _ c (zM5 h (zV hp.2) (zV hq.2)))
theorem rP {p q:Rat}{a:Nat}(hp:rlen p a)(hq:rlen q a):rlen (xM p q) (3*a+1):=by
 unfold xM;split
 ·rename_i h;split
  ·exact oM hp hq h
  ·exact qW (oM (qW hq) (qW hp) (by grind))
 ·exact zN fS (by omega)
theorem zZ8 {α:Type}{f g:α→CT}{k:Nat}{xs:List α}(h:∀ a∈xs,∀ {M w us},(f a).p M w us→(g a).p M w us)(hs:∀ a,(g a).sz=k):PSub (sv (sl k (xs.map f))) (sv (sl k (xs.map g))):=fun M w v q=>cL (f:=f) (g:=g) h hs q
abbrev pcc (n:Nat)(x:List P2):CT:=sl 6 (x.map (ptc n))
theorem yF3 {n m:Nat}{ls:zF}(h:∀ l∈ls,∀ q∈l,plen q m):PSub (sv (sl 1 (ls.map (pcc n)))) (sv (sl 1 (ls.map (pcc m)))) :=
 zZ8 (f:=pcc n) (g:=pcc m) (fun a ha {M w us} k=>cL (f:=ptc n) (g:=ptc m) (fun q hq {M w us} k=>rR ⟨(h a ha q hq).x,(h a ha q hq).y⟩ M w us k) (fun _=>rfl) k) (fun _=>rfl)
theorem pcc_q {n:Nat}{ls:zF}:PSub (sv (sl 1 (ls.map (pcc n)))) (sv (sl 1 (ls.map (pcs n)))) :=
 zZ8 (f:=pcc n) (g:=pcs n) (fun a ha {M w us} k=>cL (f:=ptc n) (g:=ptq n) (fun q hq {M w us} k=>zU9 q k) (fun _=>rfl) k) (fun _=>rfl)
abbrev bxc (n:Nat)(b:BX):CT:=st [ptc n b.1,ptc n b.2]
theorem yS5 {n:Nat}{b:BX}:PSub (ag (bxc n b)) (ag (st [ptq n b.1,ptq n b.2])):=fun M w v ⟨us,e,x,y,e1,h1,z,o,e2,h2,h3⟩=>⟨us,e,x,y,e1,zU9 _ h1,z,o,e2,zU9 _ h2,h3⟩
theorem yL7 {n m k:Nat}{b:BX}(h:plen b.1 k∧plen b.2 k):PSub (ag (st [ptc n b.1,ptc m b.2])) (ag (bxc k b)):=fun M w v ⟨us,e,x,y,e1,h1,z,o,e2,h2,h3⟩=>⟨us,e,x,y,e1,rR ⟨h.1.x,h.1.y⟩ _ _ _ h1,z,o,e2,rR ⟨h.2.x,h.2.y⟩ _ _ _ h2,h3⟩
theorem rts_up {n m:Nat}{xs:List Rat}(h:∀ x∈xs,rlen x m):PSub (sv (sl 3 (xs.map (rtc n)))) (sv (sl 3 (xs.map (rtc m)))) :=
 zZ8 (f:=rtc n) (g:=rtc m) (fun a ha {M w us} k=>by
  obtain⟨s,b,d,e,g⟩:=k;exact⟨s,b,d,e,g.relen (h a ha)⟩) (fun _=>rfl)
def Prt (ls:zF):Prop:=ls.length≤3∧∀ l∈ls,(∃ m,l=hullF m)∧l.length≤9∧∀ q∈l,FP 27720 55384560 q
theorem Prt.fp {ls:zF}(h:Prt ls):∀ l∈ls,∀ q∈l,FP 27720 55412280 q:=fun l hl q hq=>((h.2 l hl).2.2 q hq).up (by omega)
theorem Prt.bx {ls:zF}(h:Prt ls):FP 27720 55412280 (zQ ls).1∧FP 27720 55412280 (zQ ls).2:=frame_fp (A:=55384560) fun l hl q hq=>(h.2 l hl).2.2 q hq
theorem Prt.br {ls:zF}(h:Prt ls):plen (zQ ls).1 1∧plen (zQ ls).2 1:=⟨iX h.bx.1,iX h.bx.2⟩
theorem Prt.hull {ls:zF}(h:Prt ls):∀ l∈ls,∃ m,l=hullF m:=fun l hl=>(h.2 l hl).1
theorem Prt.nine {ls:zF}(h:Prt ls):∀ l∈ls,l.length≤9:=fun l hl=>(h.2 l hl).2.1
theorem rC {ls:zF}{j:Nat}(hj:j<(xsM ls).length):(xsM ls).getD j 0∈cutsOf ls (zQ ls):=mB hj
section
variable {ls : zF} (h : Prt ls)
include h
theorem dB:(xsM ls).length≤10000:=cuts_len (by have:=h.1;omega) h.nine
theorem ed_len:(yW ls).length≤27:=by have:=iB h.nine;have:=h.1;omega
theorem klallP:CTy prog 22 [sv (sl 1 (ls.map (pcc 1))),ag (bxc 1 (zQ ls)),sv (sl 3 ((xsM ls).map (rtc 3)))] (sv (sl 1 ((List.range ((xsM ls).length-1)).map fun j=>sl 6 ((lvM ls j).map (ptc 14))))) :=
 yI (klall (n:=1) (m:=3) (n3:=1) (n4:=1) (N:=14) (by omega) (by omega) (by omega) (by omega) (by omega) (by have:=h.1;omega) h.nine (dB h) fun j hj=>zW2 h.fp h.bx (rC (by omega)) (rC hj)) (fs1 (PSub.refl _) (fs1 yS5 (fs1 vq_q fs0)))
end
def gX (lvs:zF)(i:Nat):List Rat:=if 0<i then(lvs.getD (i-1) []).map (·.2) else []
def kA (lvs:zF)(i:Nat):List Rat:=(lvs.getD i []).map (·.1)
def atX (x:Rat)(l:List P2):List Rat:=(l.filter fun p=>decide (p.1=x)).map (·.2)
def jY (ls:zF)(b:BX)(xs:List Rat)(lvs:zF)(i:Nat):List Rat:=[b.1.2,b.2.2]++gX lvs i++kA lvs i++atX (xs.getD i 0) ls.flatten
theorem wallA_at {lvs:zF}{i k:Nat}(h:0<i)(hk:k<(lvs.getD (i-1) Df.d).length):gX lvs i=(lvs.getD (i-1) Df.d).map (·.2)∧(gX lvs i).take (k+1)=(gX lvs i).take k++[((lvs.getD (i-1) Df.d).getD k Df.d).2]∧((lvs.getD (i-1) Df.d).getD k Df.d).2∈gX lvs i:=by
 have e:gX lvs i=(lvs.getD (i-1) Df.d).map (·.2):=by unfold gX;rw[if_pos h];rfl
 refine⟨e,?_,?_⟩
 ·rw[e,← List.map_take,← List.map_take,(zT (Df.d:P2) hk).1,zay];rfl
 ·rw[e];exact zcj (xL hk)
theorem wallB_at {lvs:zF}{i k:Nat}(hk:k<(lvs.getD i Df.d).length):(kA lvs i).take (k+1)=(kA lvs i).take k++[((lvs.getD i Df.d).getD k Df.d).1]∧((lvs.getD i Df.d).getD k Df.d).1∈kA lvs i:=by
 have e:kA lvs i=(lvs.getD i Df.d).map (·.1):=rfl;refine⟨?_,?_⟩
 ·rw[e,← List.map_take,← List.map_take,(zT (Df.d:P2) hk).1,zay];rfl
 ·rw[e];exact zcj (xL hk)
theorem yA9 (x:Rat)(l m:List P2):atX x (l++m)=atX x l++atX x m:=by unfold atX;rw[List.filter_append,List.map_append]
theorem yA8 (x:Rat)(p:P2):atX x [p]=if p.1=x then [p.2] else []:=by unfold atX;by_cases h:p.1=x<;>simp[h]
abbrev CL:=Nat×Nat×Nat×P2
abbrev celT (N:Nat)(c:CL):CT:=st [xc (.int .i8 ((c.1:Nat):Int)),xc (.int .i64 ((c.2.1:Nat):Int)),xc (.int .i64 ((c.2.2.1:Nat):Int)),ptc N c.2.2.2]
noncomputable abbrev colC (k a:Nat)(x:Rat)(ys:List Rat)(j:Nat):CL:=(k+j%2,a,j/2,(x,repY ys j))
noncomputable abbrev celC (N k a:Nat)(x:Rat)(ys:List Rat)(j:Nat):CT:=celT N (colC k a x ys j)
noncomputable def colL (k a:Nat)(x:Rat)(ys:List Rat):List CL:=(List.range (2*ys.length-1)).map (colC k a x ys)
theorem celC_even {N k a i:Nat}{x:Rat}{ys:List Rat}:celC N k a x ys (2*i)=st [xc (.int .i8 ((k:Nat):Int)),xc (.int .i64 ((a:Nat):Int)),xc (.int .i64 ((i:Nat):Int)),ptc N (x,ys.getD i Df.d)]:=by
 unfold celC celT colC repY;dsimp only;rw[show 2*i%2=0 by omega,show 2*i/2=i by omega,if_pos rfl];rfl
theorem celC_odd {N k a i:Nat}{x:Rat}{ys:List Rat}:celC N k a x ys (2*i+1)=st [xc (.int .i8 ((k+1:Nat):Int)),xc (.int .i64 ((a:Nat):Int)),xc (.int .i64 ((i:Nat):Int)),ptc N (x,xM (ys.getD i Df.d) (ys.getD (i+1) Df.d))]:=by
 unfold celC celT colC repY;dsimp only;rw[show (2*i+1)%2=1 by omega,show (2*i+1)/2=i by omega,if_neg (by omega)];rfl
structure Mdl where
 b:BX
 xs:List Rat
 lv:zF
 wl:List (List Rat)
 cs:List CL
abbrev mdT (N:Nat)(m:Mdl):CT:=st [bxc N m.b,sl 3 (m.xs.map (rtc N)),sl 1 (m.lv.map (pcc N)),sl 1 (m.wl.map fun l=>sl 3 (l.map (rtc N))),sl 9 (m.cs.map (celT N))]
noncomputable instance:Df (List Rat):=⟨[]⟩
noncomputable def cellsI (xs:List Rat)(lv:zF)(wl:List (List Rat))(i:Nat):List CL :=
 (if i<wl.length then colL 0 i (xs.getD i 0) (wl.getD i []) else [])++(if i<lv.length∧i+1<xs.length then colL 2 i (xM (xs.getD i 0) (xs.getD (i+1) 0)) (hsL (xs.getD i 0) (xs.getD (i+1) 0) (xM (xs.getD i 0) (xs.getD (i+1) 0)) (lv.getD i [])) else [])
noncomputable def cellsM (xs:List Rat)(lv:zF)(wl:List (List Rat)):List CL:=((List.range xs.length).map (cellsI xs lv wl)).flatten
theorem vT {α:Type}{K:Nat}:∀ {L:List (List α)},(∀ l∈L,l.length≤K)→L.flatten.length≤L.length*K
 | [],_=>by simp
 | l::L,h=>by
  have h1:=h l (by simp);have h2:=vT (L:=L) fun x hx=>h x (by simp[hx]);rw[List.flatten_cons,zal,zaw,zaQ];omega
theorem pX {N:Nat}{xs:List Rat}{lv:zF}{wl:List (List Rat)}{i:Nat}:((List.range (i+1)).map (cellsI xs lv wl)).flatten.map (celT N)=((List.range i).map (cellsI xs lv wl)).flatten.map (celT N)++(cellsI xs lv wl i).map (celT N):=by
 rw[zbv,zay,zbS,zay];simp
end Go.Proofs.YtalkinejknjidaaGreatDoor
set_option maxHeartbeats 4000000
namespace Go.SL
open Go.RowKit
end Go.SL
namespace Go.Proofs.YtalkinejknjidaaGreatDoor
open Go.SL Go.RowKit Go.Proofs Tryz
section
variable {P : Program} {r : Option Nat} {N : Nat} {X : Cx} {Γ : TE} {S : List Ow} {ops : Array Oper} {K : TK}
theorem t_yieldm {α:Type}{xs:List α}{τ:α→List PV}{y:Nat}{YS:List α→Cx→Prop}{YX:Cx→Prop}{pre:List α}{x:α}{d:Nat}{fo:Operand}{ys:List Operand}{ts:Array TypeId}{t':TypeId}{pos:String}{af:Array Edge}{l:List Oper}{q q' qj:Prop}{Φ:PV}{γ b:Bool}{j dj:Nat}{τs:List PV}(hY:Yl P xs τ y YS YX)(hS:YS pre X)
  (hj:(ops[j]?).bind (·.dst)=some dj) (hΓ:tf Γ dj=some (qj,Φ)) [hb:VB Φ γ] [hqj:Tr qj] (hx:γ=b→∃ post,xs=pre++x::post)
  (hf:tv Γ fo=some (q,exP (.func (.yield y) #[] #[]))) (ha:tvs Γ ys=some (q',τs)) [hq:Im (γ=b) q] [hq':Im (γ=b) q'] (hτ:∀ M w vs,Fa τs M w vs→Fa (τ x) M w vs)
  (h1:∀ Y,YS (pre++if γ=b then [x] else []) Y→TO P r N ops Y K l ((d,γ=b,exP (.bool true))::Γ) S) (h2:γ=b→∀ Y,YX Y→TO P r N ops Y K l ((d,γ=b,exP (.bool false))::Γ) S) :
  TO P r N ops X K (⟨some d,.call ⟨.value fo,ys.toArray,ts⟩,t',pos,af,some (j,b)⟩::l) Γ S :=
 wT hY hS hj hΓ hx hf ha hτ (fun e=>h1 X (by rw[if_neg e,zas];exact hS)) (fun e Y hY=>h1 Y (by rw[if_pos e];exact hY)) h2
end
end Go.Proofs.YtalkinejknjidaaGreatDoor
namespace Go.Proofs.YtalkinejknjidaaGreatDoor
open Go.SL Go.RowKit Go.Proofs Tryz
def offN (f:Nat→Nat):Nat→Nat
 | 0=>0
 | c+1=>offN f c+f c
theorem zJ8 {f:Nat→Nat}(c:Nat):offN f (c+1)=offN f c+f c:=rfl
theorem yG0 {f:Nat→Nat}{c:Nat}:∀ {d:Nat},c≤d→offN f c≤offN f d
 | 0,h=>by rw[show c=0 by omega];exact zab _
 | d+1,h=>by
  rcases zaf d c with k | k
  ·rw[show c=d+1 by omega];exact zab _
  ·have:=yG0 (f:=f) k;rw[zJ8];omega
theorem yF9 {f:Nat→Nat}{c d j:Nat}(h:c<d)(hj:j<f c):offN f c+j<offN f d:=by
 have:=yG0 (f:=f) (show c+1≤d from h);rw[zJ8] at this;omega
theorem yG1 {f:Nat→Nat}:∀ {K n:Nat},n<offN f K→∃ c j,c<K∧j<f c∧n=offN f c+j
 | 0,n,h=>absurd h (Nat.not_lt_zero _)
 | K+1,n,h=>by
  rw[zJ8] at h;rcases zaf n (offN f K) with k | k
  ·obtain⟨c,j,a,b,e⟩:=yG1 k;exact⟨c,j,by omega,b,e⟩
  ·exact⟨K,n-offN f K,by omega,by omega,by omega⟩
theorem bH {α:Type}{f:Nat→Nat}{g:Nat→Nat→α}:∀ K,(((List.range K).map fun c=>(List.range (f c)).map (g c)).flatten).length=offN f K
 | 0=>rfl
 | K+1=>by rw[zbv,zay,zbS,zal,bH K,zJ8];simp
theorem zL9 {α:Type}{f:Nat→Nat}{g:Nat→Nat→α}{d:α}{c j:Nat}(hj:j<f c):∀ {K:Nat},c<K→(((List.range K).map fun c=>(List.range (f c)).map (g c)).flatten).getD (offN f c+j) d=g c j
 | K+1,h=>by
  rw[zbv,zay,zbS,zah];rcases zaf c K with k | k
  ·have:=yF9 (f:=f) k hj;rw[List.getElem?_append_left (by rw[bH];exact this),← zah];exact zL9 hj k
  ·obtain rfl:c=K:=by omega
   rw[List.getElem?_append_right (by rw[bH];omega),bH,Nat.add_sub_cancel_left];simp[zcG hj]
noncomputable def nC (ls:zF)(c:Nat):Nat:=2*ynM ls c-1
noncomputable abbrev kC (ls:zF):Nat:=2*(xsM ls).length-1
noncomputable def cellC (ls:zF)(c j:Nat):CL:=(2*(c%2)+j%2,c/2,j/2,repC ls c j)
noncomputable def lvsM (ls:zF):zF:=(List.range ((xsM ls).length-1)).map (lvM ls)
noncomputable def wlsM (ls:zF):List (List Rat):=(List.range (xsM ls).length).map (wlM ls)
noncomputable def celM (ls:zF):List CL:=cellsM (xsM ls) (lvsM ls) (wlsM ls)
theorem cC {ls:zF}{i:Nat}(h:i+1<(xsM ls).length):(lvsM ls).getD i []=lvM ls i:=by unfold lvsM;rw[List.getD_eq_getElem?_getD,List.getElem?_map,List.getElem?_range (by omega)];rfl
theorem nW {ls:zF}{i:Nat}(h:i<(xsM ls).length):(wlsM ls).getD i []=wlM ls i:=by unfold wlsM;rw[List.getD_eq_getElem?_getD,List.getElem?_map,List.getElem?_range h];rfl
theorem iQ (ls:zF):(lvsM ls).length=(xsM ls).length-1:=by unfold lvsM;rw[List.length_map,List.length_range]
theorem mW (ls:zF):(wlsM ls).length=(xsM ls).length:=by unfold wlsM;rw[List.length_map,List.length_range]
theorem rV {α:Type}(F:Nat→List α)(n:Nat):∀ m,m<n→((List.range m).map fun i=>F (2*i)++(if i+1<n then F (2*i+1) else [])).flatten=((List.range (2*m)).map F).flatten
 | 0,_=>rfl
 | m+1,h=>by
  rw[zbv,zay,zbS,rV F n m (by omega),show 2*(m+1)=2*m+1+1 by omega,zbv,zbv,zay,zay,zbS,zbS,zaA];simp[h]
theorem pair_flat' {α:Type}(F:Nat→List α):∀ n,((List.range n).map fun i=>F (2*i)++(if i+1<n then F (2*i+1) else [])).flatten=((List.range (2*n-1)).map F).flatten
 | 0=>rfl
 | m+1=>by
  rw[zbv,zay,zbS,rV F (m+1) m (by omega),show 2*(m+1)-1=2*m+1 by omega,zbv,zay,zbS];simp
theorem yL6 (ls:zF):celM ls=((List.range (kC ls)).map fun c=>(List.range (nC ls c)).map (cellC ls c)).flatten:=by
 unfold celM cellsM kC;rw[← pair_flat'];refine congrArg _ (List.map_congr_left fun i hi=>?_);have hi:=zbq.1 hi;unfold cellsI;rw[mW,iQ,if_pos hi,nW hi];congr 1
 ·unfold colL nC ynM;rw[if_pos (by omega),show 2*i/2=i by omega];refine List.map_congr_left fun j hj=>?_;unfold colC cellC repC xcM;have h1:repY (xsM ls) (2*i)=(xsM ls).getD i 0:=by unfold repY;rw[if_pos (by omega),show 2*i/2=i by omega]
  have h2:∀ x,ycM ls (2*i) x=wlM ls i:=fun x=>by unfold ycM;rw[if_pos (by omega),show 2*i/2=i by omega]
  rw[h1,h2,show 2*i%2=0 by omega,show 2*i/2=i by omega]
 ·by_cases h:i+1<(xsM ls).length
  ·rw[if_pos ⟨by omega,h⟩,if_pos h,cC h];unfold colL nC ynM;rw[if_neg (by omega),show (2*i+1)/2=i by omega,vS];refine List.map_congr_left fun j hj=>?_;unfold colC cellC repC xcM;have h1:repY (xsM ls) (2*i+1)=xM ((xsM ls).getD i 0) ((xsM ls).getD (i+1) 0):=by unfold repY;rw[if_neg (by omega),show (2*i+1)/2=i by omega]
   have h2:∀ x,ycM ls (2*i+1) x=hsL ((xsM ls).getD i 0) ((xsM ls).getD (i+1) 0) x (lvM ls i):=fun x=>by unfold ycM;rw[if_neg (by omega),show (2*i+1)/2=i by omega]
   rw[h1,h2,show (2*i+1)%2=1 by omega,show (2*i+1)/2=i by omega]
  ·rw[if_neg fun c=>h c.2,if_neg h]
noncomputable abbrev offC (ls:zF)(c:Nat):Nat:=offN (nC ls) c
theorem nO (ls:zF):(celM ls).length=offC ls (kC ls):=by rw[yL6,bH]
theorem wF {ls:zF}{d:CL}{c j:Nat}(h:inC ls c j):(celM ls).getD (offC ls c+j) d=cellC ls c j:=by rw[yL6];exact zL9 (f:=nC ls) (g:=cellC ls) (K:=kC ls) h.2 h.1
theorem yL5 {ls:zF}{c j:Nat}(h:inC ls c j):offC ls c+j<(celM ls).length:=by rw[nO];exact yF9 h.1 h.2
theorem cel_ex {ls:zF}{n:Nat}(h:n<(celM ls).length):∃ c j,inC ls c j∧n=offC ls c+j:=by
 rw[nO] at h;obtain⟨c,j,h1,h2,e⟩:=yG1 h;exact⟨c,j,⟨h1,h2⟩,e⟩
theorem xc_wall {ls:zF}(i:Nat):xcM ls (2*i)=(xsM ls).getD i 0:=by unfold xcM repY;rw[if_pos (by omega),show 2*i/2=i by omega]
theorem zQ7 {ls:zF}(i:Nat)(x:Rat):ycM ls (2*i) x=wlM ls i:=by unfold ycM;rw[if_pos (by omega),show 2*i/2=i by omega]
theorem tO {ls:zF}(i:Nat)(x:Rat):ycM ls (2*i+1) x=hsL ((xsM ls).getD i 0) ((xsM ls).getD (i+1) 0) x (lvM ls i):=by unfold ycM;rw[if_neg (by omega),show (2*i+1)/2=i by omega]
theorem yn_wall {ls:zF}(i:Nat):ynM ls (2*i)=(wlM ls i).length:=by unfold ynM;rw[if_pos (by omega),show 2*i/2=i by omega]
theorem yn_slab {ls:zF}(i:Nat):ynM ls (2*i+1)=(lvM ls i).length:=by unfold ynM;rw[if_neg (by omega),show (2*i+1)/2=i by omega]
noncomputable def clsM (m:Mdl)(k a r:Nat):List P2 :=
 if k<2 then
  if a<m.xs.length∧a<m.wl.length∧r+k<(m.wl.getD a Df.d).length then
   (m.xs.getD a Df.d,(m.wl.getD a Df.d).getD r Df.d)::if k=1 then [(m.xs.getD a Df.d,(m.wl.getD a Df.d).getD (r+1) Df.d)] else []
  else []
 else if a<m.lv.length∧a+1<m.xs.length∧r+(k-2)<(m.lv.getD a Df.d).length then
  (m.xs.getD a Df.d,((m.lv.getD a Df.d).getD r Df.d).1)::(m.xs.getD (a+1) Df.d,((m.lv.getD a Df.d).getD r Df.d).2)::if k=3 then [(m.xs.getD (a+1) Df.d,((m.lv.getD a Df.d).getD (r+1) Df.d).2),(m.xs.getD a Df.d,((m.lv.getD a Df.d).getD (r+1) Df.d).1)] else []
 else []
theorem pH {Ψ Φ:PV}{p q:Rat}{n m:Nat}[h:QR Ψ n p][k:QR Φ m q](hn:n≤40000)(hm:m≤40000):CTy prog 137 [Ψ,Φ] (exP (.bool (decide (p=q)))):=by
 refine yI (σs:=[ag (rtq n p),ag (rtq m q)]) ?_ (fs1 qr_q (fs1 qr_q fs0));refine fw [.tmp 4] func137 fun X=>?_;repeat refine u ?_
 refine zB rfl rfl (gB (by omega) (by omega)) ?_;repeat refine u ?_
 refine e ?_;refine psb ?_;rw[zcz];simp only[decide_eq_true_eq,xC]
def dT (s:Bool):Int:=if s then -1 else 0
def inB (s:Bool)(a x b:Rat):Bool:=decide (cmpR a x≤dT s)&&decide (cmpR x b≤dT s)
theorem ksin {p q r:Rat}{n m k:Nat}{s:Bool}(hn:n≤40000)(hm:m≤40000)(hk:k≤40000):CTy prog 208 [ag (rtq n p),ag (rtq m q),ag (rtq k r),pa (xc (.int .i64 (dT s)))] (exP (.bool (decide (cmpR p q≤dT s)&&decide (cmpR q r≤dT s)))):=by
 refine fw [.tmp 7] func208 fun X=>?_;iterate 8 refine u ?_
 refine zK 13 mixed rfl rfl ?_;repeat refine u ?_
 refine zC rfl rfl (gB (by omega) (by omega)) ?_;repeat refine u ?_
 refine d1g rfl rfl (oca rfl rfl fun g=>gB (by omega) (by omega)) ?_;repeat refine u ?_
 exact e
theorem zW6 {Ψ Φ Θ:PV}{p q r:Rat}{n m k:Nat}{s:Bool}[h1:QR Ψ n p][h2:QR Φ m q][h3:QR Θ k r](hn:n≤40000)(hm:m≤40000)(hk:k≤40000):CTy prog 208 [Ψ,Φ,Θ,pa (xc (.int .i64 (dT s)))] (exP (.bool (inB s p q r))):=yI (ksin hn hm hk) (fs1 qr_q (fs1 qr_q (fs1 qr_q (fs1 (PSub.refl _) fs0))))
theorem zK6 {s:Bool}:CTy prog 126 [exP (.bool s)] (fn 208 [pa (xc (.int .i64 (dT s)))]):=by
 refine fw [.tmp 2] func126 fun X=>?_;iterate 6 refine u ?_
 refine u fun b3=>?_;repeat refine u ?_
 refine tp (fun c0=>?_) fun c0=>?_;iterate 5 refine u ?_
 refine zO (zY 0 rfl (s:=3) rfl) (zA1 (omf rfl) ?_);repeat refine u ?_
 refine e ?_;rotate_left;iterate 3 refine u ?_
 refine zO (zY 0 rfl (s:=3) rfl) (zA1 (omf rfl) ?_);repeat refine u ?_
 refine e ?_;rotate_left
 ·rw[show dT s = -1 from if_pos c0];exact PSub.refl _
 ·rw[show dT s=0 from if_neg c0];exact PSub.refl _
theorem tk1 {l:List Rat}{r:Nat}(h:r<l.length):List.take (r+0+1-r) (List.drop r l)=[l.getD r Df.d]:=by
 rw[show r+0+1-r=1 by omega,zcM h,List.take_succ_cons,List.take_zero];simp[zah,h]
theorem tk2 {l:List Rat}{r:Nat}(h:r+1<l.length):List.take (r+1+1-r) (List.drop r l)=[l.getD r Df.d,l.getD (r+1) Df.d]:=by
 rw[show r+1+1-r=2 by omega,zcM (by omega),List.take_succ_cons,zcM h,List.take_succ_cons,List.take_zero];simp[zah,h,show r<l.length by omega]
theorem ksclosed0 {m:Mdl}{N K a r:Nat}{p:P2}(hN:N≤20000)(ha:a≤1000000000000)(hr:r≤1000000000000)(hx:m.xs.length≤1000000)(hw:∀ i,(m.wl.getD i Df.d).length≤1000000)(hv:∀ i,(m.lv.getD i Df.d).length≤1000000):CTy prog 58 [ag (mdT N m),ag (st [xc (.int .i8 0),xc (.int .i64 ((a:Nat):Int)),xc (.int .i64 ((r:Nat):Int)),ptc K p])] (sv (sl 6 ((clsM m 0 a r).map (ptc (N+1))))):=by
 have hwa:=hw a;have hva:=hv a;refine fw [.tmp 4] func58 fun X=>?_;repeat refine u ?_
 refine tp (fun c0=>(by omega)) fun c0=>?_;repeat refine u ?_
 refine tp (fun c1=>(by omega)) fun c1=>?_;repeat refine u ?_
 refine tp (fun c2=>?_) fun c2=>(by omega);repeat refine u ?_
 refine tp (fun c3=>?_) fun c3=>(by omega);iterate 2 refine u ?_
 refine zK 24 mixed rfl rfl ?_;repeat refine u ?_
 refine d1g rfl rfl (ofa rfl rfl) ?_;repeat refine u ?_
 refine d1g rfl rfl (ofa rfl rfl) ?_;repeat refine u ?_
 refine d1g rfl rfl (omv rfl) ?_;repeat refine u ?_
 refine tp (fun c4=>?_) fun c4=>?_;repeat refine u ?_
 refine e ?_;rotate_left;iterate 7 refine u ?_
 refine zK 16 mixed rfl rfl ?_;repeat refine u ?_
 refine d1 (ofa rfl rfl) ?_;repeat refine u ?_
 refine d1 (ofa rfl rfl) ?_;repeat refine u ?_
 refine d1 (ofa rfl rfl) ?_;repeat refine u ?_
 refine d1 (ofa rfl rfl) ?_;repeat refine u ?_
 refine d1 (omv rfl) ?_;repeat refine u ?_
 rotate_left
 ·unfold clsM;rw[if_pos (by omega),if_neg fun c=>by omega];exact lR
 unfold clsM;rw[if_pos (by omega),if_pos ⟨by omega,by omega,by omega⟩];have hT:List.take (r+0+1-r) (List.drop r (m.wl.getD a Df.d))=(m.wl.getD a Df.d).getD r Df.d::[]:=tk1 (by omega);rw[if_neg (by omega),show [(m.xs.getD a Df.d,(m.wl.getD a Df.d).getD r Df.d)]=(List.take (r+0+1-r) (List.drop r (m.wl.getD a Df.d))).map (Prod.mk (m.xs.getD a Df.d)) by rw[hT];rfl];have hTl:(List.take (r+0+1-r) (List.drop r (m.wl.getD a Df.d))).length≤2:=by rw[hT];simp
 clear hT;generalize List.take (r+0+1-r) (List.drop r (m.wl.getD a Df.d))=T at *;refine t_ts (jG 39 6) ?_;refine yZ (σ:=Nat×Value) (fun s=>[(6,True,exP s.2),(74,True,zJ s.1)]) (fun s=>[.row s.2 39 6 (((T.take s.1).map (Prod.mk (m.xs.getD a Df.d))).map (ptc N))]) (fun s=>s.1≤T.length) (fun s=>T.length-s.1) ((0,.slice none 0 0)) (tk 2 rfl (tk 3 rfl (tk 4 rfl (tk 72 rfl (tk 73 rfl tn))))) ?_ rfl ((by simp)) (fun s hJ Y _=>?_);refine zA rfl (zA rfl tn);obtain⟨i,v⟩:=s;dsimp only at hJ ⊢;repeat refine u ?_
 refine tp (fun c5=>?_) fun c5=>?_;iterate 7 refine u ?_
 refine u fun b8=>?_;refine u ?_;refine zO (zY (s:=8) 0 rfl rfl) ?_;refine u ?_;refine zK 10 mixed rfl rfl ?_;repeat refine u ?_
 refine tap 0 rfl rfl rfl (by(simp;omega)) rfl fun r88=>?_;repeat refine u ?_
 rotate_left;repeat refine u ?_
 refine zO (yV (s:=90) 0 rfl rfl) (zB rfl rfl (fY (n:=N) (by omega) (by(simp;omega))) ?_);repeat refine u ?_
 refine e ?_;rotate_left
 ·refine⟨(i+1,r88),tes ?_ ?_ ?_,(by omega),(by omega)⟩;refine zA rfl (zA rfl tn);refine zA rfl (zA rfl (zA rfl (zA rfl (zA rfl tn))));rw[(zT (Df.d:Rat) (l:=T) (s:=i) (by omega)).1,zay,zay];exact zaa _
 ·rw[zaz (by omega)];exact PSub.refl _
theorem ksclosed1 {m:Mdl}{N K a r:Nat}{p:P2}(hN:N≤20000)(ha:a≤1000000000000)(hr:r≤1000000000000)(hx:m.xs.length≤1000000)(hw:∀ i,(m.wl.getD i Df.d).length≤1000000)(hv:∀ i,(m.lv.getD i Df.d).length≤1000000):CTy prog 58 [ag (mdT N m),ag (st [xc (.int .i8 1),xc (.int .i64 ((a:Nat):Int)),xc (.int .i64 ((r:Nat):Int)),ptc K p])] (sv (sl 6 ((clsM m 1 a r).map (ptc (N+1))))):=by
 have hwa:=hw a;have hva:=hv a;refine fw [.tmp 4] func58 fun X=>?_;repeat refine u ?_
 refine tp (fun c0=>?_) fun c0=>(by omega);repeat refine u ?_
 refine tp (fun c1=>(by omega)) fun c1=>?_;repeat refine u ?_
 refine tp (fun c2=>(by omega)) fun c2=>?_;repeat refine u ?_
 refine tp (fun c3=>?_) fun c3=>(by omega);iterate 2 refine u ?_
 refine zK 24 mixed rfl rfl ?_;repeat refine u ?_
 refine d1g rfl rfl (ofa rfl rfl) ?_;repeat refine u ?_
 refine d1g rfl rfl (ofa rfl rfl) ?_;repeat refine u ?_
 refine d1g rfl rfl (ofa rfl rfl) ?_;repeat refine u ?_
 refine d1g rfl rfl (omv rfl) ?_;repeat refine u ?_
 refine tp (fun c4=>?_) fun c4=>?_;repeat refine u ?_
 refine e ?_;rotate_left;iterate 7 refine u ?_
 refine zK 16 mixed rfl rfl ?_;repeat refine u ?_
 refine d1 (ofa rfl rfl) ?_;repeat refine u ?_
 refine d1 (ofa rfl rfl) ?_;repeat refine u ?_
 refine d1 (ofa rfl rfl) ?_;repeat refine u ?_
 refine d1 (ofa rfl rfl) ?_;repeat refine u ?_
 refine d1 (omv rfl) ?_;repeat refine u ?_
 rotate_left
 ·unfold clsM;rw[if_pos (by omega),if_neg fun c=>by omega];exact lR
 unfold clsM;rw[if_pos (by omega),if_pos ⟨by omega,by omega,by omega⟩];have hT:List.take (r+1+1-r) (List.drop r (m.wl.getD a Df.d))=(m.wl.getD a Df.d).getD r Df.d::[(m.wl.getD a Df.d).getD (r+1) Df.d]:=tk2 (by omega);rw[if_pos rfl,show [(m.xs.getD a Df.d,(m.wl.getD a Df.d).getD r Df.d),(m.xs.getD a Df.d,(m.wl.getD a Df.d).getD (r+1) Df.d)]=(List.take (r+1+1-r) (List.drop r (m.wl.getD a Df.d))).map (Prod.mk (m.xs.getD a Df.d)) by rw[hT];rfl];have hTl:(List.take (r+1+1-r) (List.drop r (m.wl.getD a Df.d))).length≤2:=by rw[hT];simp
 clear hT;generalize List.take (r+1+1-r) (List.drop r (m.wl.getD a Df.d))=T at *;refine t_ts (jG 39 6) ?_;refine yZ (σ:=Nat×Value) (fun s=>[(6,True,exP s.2),(74,True,zJ s.1)]) (fun s=>[.row s.2 39 6 (((T.take s.1).map (Prod.mk (m.xs.getD a Df.d))).map (ptc N))]) (fun s=>s.1≤T.length) (fun s=>T.length-s.1) ((0,.slice none 0 0)) (tk 2 rfl (tk 3 rfl (tk 4 rfl (tk 72 rfl (tk 73 rfl tn))))) ?_ rfl ((by simp)) (fun s hJ Y _=>?_);refine zA rfl (zA rfl tn);obtain⟨i,v⟩:=s;dsimp only at hJ ⊢;repeat refine u ?_
 refine tp (fun c5=>?_) fun c5=>?_;iterate 7 refine u ?_
 refine u fun b8=>?_;refine u ?_;refine zO (zY (s:=8) 0 rfl rfl) ?_;refine u ?_;refine zK 10 mixed rfl rfl ?_;repeat refine u ?_
 refine tap 0 rfl rfl rfl (by(simp;omega)) rfl fun r88=>?_;repeat refine u ?_
 rotate_left;repeat refine u ?_
 refine zO (yV (s:=90) 0 rfl rfl) (zB rfl rfl (fY (n:=N) (by omega) (by(simp;omega))) ?_);repeat refine u ?_
 refine e ?_;rotate_left
 ·refine⟨(i+1,r88),tes ?_ ?_ ?_,(by omega),(by omega)⟩;refine zA rfl (zA rfl tn);refine zA rfl (zA rfl (zA rfl (zA rfl (zA rfl tn))));rw[(zT (Df.d:Rat) (l:=T) (s:=i) (by omega)).1,zay,zay];exact zaa _
 ·rw[zaz (by omega)];exact PSub.refl _
theorem ksclosed2 {m:Mdl}{N K a r:Nat}{p:P2}(hN:N≤20000)(ha:a≤1000000000000)(hr:r≤1000000000000)(hx:m.xs.length≤1000000)(hw:∀ i,(m.wl.getD i Df.d).length≤1000000)(hv:∀ i,(m.lv.getD i Df.d).length≤1000000):CTy prog 58 [ag (mdT N m),ag (st [xc (.int .i8 2),xc (.int .i64 ((a:Nat):Int)),xc (.int .i64 ((r:Nat):Int)),ptc K p])] (sv (sl 6 ((clsM m 2 a r).map (ptc (N+1))))):=by
 have hwa:=hw a;have hva:=hv a;refine fw [.tmp 4] func58 fun X=>?_;repeat refine u ?_
 refine tp (fun c0=>(by omega)) fun c0=>?_;repeat refine u ?_
 refine tp (fun c1=>(by omega)) fun c1=>?_;repeat refine u ?_
 refine tp (fun c2=>(by omega)) fun c2=>?_;repeat refine u ?_
 refine tp (fun c3=>(by omega)) fun c3=>?_;repeat refine u ?_
 refine tp (fun c4=>?_) fun c4=>(by omega);repeat refine u ?_
 refine tp (fun c5=>?_) fun c5=>(by omega);iterate 2 refine u ?_
 refine zK 25 mixed rfl rfl ?_;repeat refine u ?_
 refine d1g rfl rfl (ofa rfl rfl) ?_;repeat refine u ?_
 refine d1g rfl rfl (ofa rfl rfl) ?_;repeat refine u ?_
 refine d1g rfl rfl (ofa rfl rfl) ?_;repeat refine u ?_
 refine d1g rfl rfl (omv rfl) ?_;repeat refine u ?_
 refine tp (fun c6=>?_) fun c6=>?_;repeat refine u ?_
 refine e ?_;rotate_left;iterate 2 refine u ?_
 apply qU 2 16 15 [(13,9,0),(14,10,1),(15,1000015,0)] rfl rfl mixed rfl rfl rfl;repeat refine u ?_
 refine cx1 (ofa rfl rfl) rfl ?_;repeat refine u ?_
 refine cx1 (ofa rfl rfl) rfl ?_;repeat refine u ?_
 refine cx1 (ofa rfl rfl) rfl ?_;repeat refine u ?_
 refine cx1 (ofa rfl rfl) rfl ?_;repeat refine u ?_
 refine cN rfl rfl (cal) (cN rfl rfl (cal) (cS rfl rfl rfl (cst rfl rfl rfl) ?_));refine cE (fun b9 b10=>?_);refine fm ?_;refine u ?_;refine zO (zY (s:=9) 1 rfl rfl) ?_;refine zD 0 rfl rfl (zO (zY (s:=10) 0 rfl rfl) ?_);iterate 2 refine u ?_
 apply qU 2 25 24 [(22,11,0),(23,12,1),(24,1000024,0)] rfl rfl mixed rfl rfl rfl;repeat refine u ?_
 refine cx1 (ofa rfl rfl) rfl ?_;repeat refine u ?_
 refine cx1 (ofa rfl rfl) rfl ?_;repeat refine u ?_
 refine cx1 (ofa rfl rfl) rfl ?_;repeat refine u ?_
 refine cx1 (ofa rfl rfl) rfl ?_;repeat refine u ?_
 refine cx1 (ofa rfl rfl) rfl ?_;repeat refine u ?_
 refine cx1 (ofa rfl rfl) rfl ?_;repeat refine u ?_
 refine cx1 (omv rfl) rfl ?_;repeat refine u ?_
 refine cN rfl rfl (cal) (cN rfl rfl (cal) (cS rfl rfl rfl (cst rfl rfl rfl) ?_));refine cE (fun b11 b12=>?_);refine fm ?_;refine u ?_;refine zO (zY (s:=11) 1 rfl rfl) ?_;refine zD 0 rfl rfl (zO (zY (s:=12) 0 rfl rfl) ?_);iterate 19 refine u ?_
 refine zA1 (xE (obs rfl rfl rfl rfl rfl rfl) (show PSub _ (sv (sl 6 ([(m.xs.getD a Df.d,((m.lv.getD a Df.d).getD r Df.d).1),(m.xs.getD (a+1) Df.d,((m.lv.getD a Df.d).getD r Df.d).2),(m.xs.getD (a+1) Df.d,((m.lv.getD a Df.d).getD (r+0) Df.d).2),(m.xs.getD a Df.d,((m.lv.getD a Df.d).getD (r+0) Df.d).1)].map (ptc N)))) from PSub.refl _)) ?_;repeat refine u ?_
 refine zA1 (omv rfl) ?_;refine u ?_;refine zA1 (xE (oad rfl rfl (by omega)) (ps_i (show _=((2:Nat):Int) from rfl))) ?_;repeat refine u ?_
 refine zB rfl rfl (fY (n:=N) (by omega) (by(simp;done))) ?_;repeat refine u ?_
 refine e ?_;rotate_left
 ·unfold clsM;rw[if_neg (by omega),if_neg fun c=>by omega];exact lR
 ·unfold clsM;rw[if_neg (by omega),if_pos ⟨by omega,by omega,by omega⟩];exact PSub.refl _
theorem ksclosed3 {m:Mdl}{N K a r:Nat}{p:P2}(hN:N≤20000)(ha:a≤1000000000000)(hr:r≤1000000000000)(hx:m.xs.length≤1000000)(hw:∀ i,(m.wl.getD i Df.d).length≤1000000)(hv:∀ i,(m.lv.getD i Df.d).length≤1000000):CTy prog 58 [ag (mdT N m),ag (st [xc (.int .i8 3),xc (.int .i64 ((a:Nat):Int)),xc (.int .i64 ((r:Nat):Int)),ptc K p])] (sv (sl 6 ((clsM m 3 a r).map (ptc (N+1))))):=by
 have hwa:=hw a;have hva:=hv a;refine fw [.tmp 4] func58 fun X=>?_;repeat refine u ?_
 refine tp (fun c0=>?_) fun c0=>(by omega);repeat refine u ?_
 refine tp (fun c1=>(by omega)) fun c1=>?_;repeat refine u ?_
 refine tp (fun c2=>(by omega)) fun c2=>?_;repeat refine u ?_
 refine tp (fun c3=>(by omega)) fun c3=>?_;repeat refine u ?_
 refine tp (fun c4=>(by omega)) fun c4=>?_;repeat refine u ?_
 refine tp (fun c5=>?_) fun c5=>(by omega);iterate 2 refine u ?_
 refine zK 25 mixed rfl rfl ?_;repeat refine u ?_
 refine d1 (ofa rfl rfl) ?_;repeat refine u ?_
 refine d1g rfl rfl (ofa rfl rfl) ?_;repeat refine u ?_
 refine d1g rfl rfl (ofa rfl rfl) ?_;repeat refine u ?_
 refine d1g rfl rfl (ofa rfl rfl) ?_;repeat refine u ?_
 refine d1g rfl rfl (omv rfl) ?_;repeat refine u ?_
 refine tp (fun c6=>?_) fun c6=>?_;repeat refine u ?_
 refine e ?_;rotate_left;iterate 2 refine u ?_
 apply qU 2 16 15 [(13,9,0),(14,10,1),(15,1000015,0)] rfl rfl mixed rfl rfl rfl;repeat refine u ?_
 refine cx1 (ofa rfl rfl) rfl ?_;repeat refine u ?_
 refine cx1 (ofa rfl rfl) rfl ?_;repeat refine u ?_
 refine cx1 (ofa rfl rfl) rfl ?_;repeat refine u ?_
 refine cx1 (ofa rfl rfl) rfl ?_;repeat refine u ?_
 refine cN rfl rfl (cal) (cN rfl rfl (cal) (cS rfl rfl rfl (cst rfl rfl rfl) ?_));refine cE (fun b9 b10=>?_);refine fm ?_;refine u ?_;refine zO (zY (s:=9) 1 rfl rfl) ?_;refine zD 0 rfl rfl (zO (zY (s:=10) 0 rfl rfl) ?_);iterate 2 refine u ?_
 apply qU 2 25 24 [(22,11,0),(23,12,1),(24,1000024,0)] rfl rfl mixed rfl rfl rfl;repeat refine u ?_
 refine cx1 (ofa rfl rfl) rfl ?_;repeat refine u ?_
 refine cx1 (ofa rfl rfl) rfl ?_;repeat refine u ?_
 refine cx1 (ofa rfl rfl) rfl ?_;repeat refine u ?_
 refine cx1 (ofa rfl rfl) rfl ?_;repeat refine u ?_
 refine cx1 (ofa rfl rfl) rfl ?_;repeat refine u ?_
 refine cx1 (ofa rfl rfl) rfl ?_;repeat refine u ?_
 refine cx1 (omv rfl) rfl ?_;repeat refine u ?_
 refine cN rfl rfl (cal) (cN rfl rfl (cal) (cS rfl rfl rfl (cst rfl rfl rfl) ?_));refine cE (fun b11 b12=>?_);refine fm ?_;refine u ?_;refine zO (zY (s:=11) 1 rfl rfl) ?_;refine zD 0 rfl rfl (zO (zY (s:=12) 0 rfl rfl) ?_);iterate 19 refine u ?_
 refine zA1 (xE (obs rfl rfl rfl rfl rfl rfl) (show PSub _ (sv (sl 6 ([(m.xs.getD a Df.d,((m.lv.getD a Df.d).getD r Df.d).1),(m.xs.getD (a+1) Df.d,((m.lv.getD a Df.d).getD r Df.d).2),(m.xs.getD (a+1) Df.d,((m.lv.getD a Df.d).getD (r+1) Df.d).2),(m.xs.getD a Df.d,((m.lv.getD a Df.d).getD (r+1) Df.d).1)].map (ptc N)))) from PSub.refl _)) ?_;repeat refine u ?_
 refine zA1 (omv rfl) ?_;refine u ?_;refine zA1 (xE (oad rfl rfl (by omega)) (ps_i (show _=((4:Nat):Int) from rfl))) ?_;repeat refine u ?_
 refine zB rfl rfl (fY (n:=N) (by omega) (by(simp;done))) ?_;repeat refine u ?_
 refine e ?_;rotate_left
 ·unfold clsM;rw[if_neg (by omega),if_neg fun c=>by omega];exact lR
 ·unfold clsM;rw[if_neg (by omega),if_pos ⟨by omega,by omega,by omega⟩];exact PSub.refl _
def hasB (s:Bool)(k:Nat):List P2→P2→Bool
 | [a],p=>decide (a=p)
 | [a,b],p=>if k=1 then decide (a.1=p.1)&&inB s a.2 p.2 b.2 else inB s a.1 p.1 b.1&&decide (zM a b p.1=p.2)
 | [a,b,c,d],p=>inB s a.1 p.1 b.1&&inB s (zM a b p.1) p.2 (zM d c p.1)
 | _,_=>false
theorem yG5 {m:Mdl}{N K:Nat}{c:CL}(hN:N≤20000)(hk:c.1<4)(ha:c.2.1≤1000000000000)(hr:c.2.2.1≤1000000000000)(hx:m.xs.length≤1000000)(hw:∀ i,(m.wl.getD i Df.d).length≤1000000)(hv:∀ i,(m.lv.getD i Df.d).length≤1000000):CTy prog 58 [ag (mdT N m),ag (celT K c)] (sv (sl 6 ((clsM m c.1 c.2.1 c.2.2.1).map (ptc (N+1))))):=by
 obtain⟨k,a,r,p⟩:=c;dsimp only at hk ha hr ⊢;have h4:k=0∨k=1∨k=2∨k=3:=by omega
 rcases h4 with rfl | rfl | rfl | rfl
 ·exact ksclosed0 hN ha hr hx hw hv
 ·exact ksclosed1 hN ha hr hx hw hv
 ·exact ksclosed2 hN ha hr hx hw hv
 ·exact ksclosed3 hN ha hr hx hw hv
theorem cls_cases (m:Mdl)(k a r:Nat):clsM m k a r=[]∨(∃ x,clsM m k a r=[x])∨(∃ x y,clsM m k a r=[x,y]) ∨ ∃ x y z u,clsM m k a r=[x,y,z,u]:=by
 unfold clsM;split
 ·split
  ·split
   ·exact .inr (.inr (.inl ⟨_,_,rfl⟩))
   ·exact .inr (.inl ⟨_,rfl⟩)
  ·exact .inl rfl
 ·split
  ·split
   ·exact .inr (.inr (.inr ⟨_,_,_,_,rfl⟩))
   ·exact .inr (.inr (.inl ⟨_,_,rfl⟩))
  ·exact .inl rfl
theorem nZ:zQ []=(((-1:Rat),(-1:Rat)),((1:Rat),(1:Rat))):=by decide +kernel
theorem zR3 {raw:List Rat}(h:∀ x,x∈raw↔x = -1∨x=1):setOf cmpR raw=[-1,1]:=by
 refine(IsSet.eq uC ⟨?_,fun x=>?_⟩).symm
 ·exact zav.2 ⟨fun b hb=>by rw[zak.1 hb];decide +kernel,List.pairwise_singleton _ _⟩
 ·rw[h];simp
theorem fL:xsM []=[-1,1]:=by
 unfold xsM cutsOf;refine zR3 fun x=>?_;rw[nZ];unfold rawC cY meetX;rw[show yH ([]:zF)=[] from rfl];simp
theorem wL:lvM [] 0=[(-1,-1),(1,1)]:=by
 unfold lvM;rw[fL,nZ];refine(iR ?_).symm;rw[if_pos (by decide +kernel)];refine⟨zav.2 ⟨fun b hb=>by rw[zak.1 hb];decide +kernel,List.pairwise_singleton _ _⟩,fun x=>?_⟩;unfold yW;simp[xP]
theorem yB8 {i:Nat}(h:i<2):wlM [] i=[-1,1]:=by
 unfold wlM;refine zR3 fun x=>?_;rw[nX,nZ,fL];have:i=0∨i=1:=by omega
 rcases this with rfl | rfl
 ·rw[wL];simp;grind
 ·rw[show 1-1=0 by omega,wL];simp;grind
def aJ (ls:List (List PX)):Bool:=decide (ls.length≤3)&&ls.all fun l=>decide (l.length≤6)&&qE l
theorem few24_at {ls:List (List PX)}{i:Nat}(hi:i<ls.length)(h:(decide ((ls.getD i Df.d).length≤6)&&qE (ls.getD i Df.d))=false):aJ ls=false:=by
 rw[zah,zag hi,zbu] at h;unfold aJ;rw[Bool.and_eq_false_iff];right;rw[List.all_eq_false];exact⟨_,zaP hi,by rw[h];simp⟩
theorem yJ1 {ls:List (List PX)}:CTy prog 95 [sv (sl 1 (ls.map pcx))] (exP (.bool (aJ ls))):=by
 refine fw [.tmp 2] func95 fun X=>?_;repeat refine u ?_
 refine lp (σ:=Nat) [0] (fun i=>[(3,True,zJ i)]) (fun i=>[]) (fun i=>i≤ls.length∧i≤4∧∀ l∈ls.take i,(decide (l.length≤6)&&qE l)=true) (fun i=>ls.length-i) (0) (⟨by omega,by omega,by simp⟩) fun i hJ Y _=>?_;obtain⟨hi,h4,hs⟩:=hJ;repeat refine u ?_
 refine tp (fun c0=>?_) fun c0=>?_;repeat refine u ?_
 refine t1g rfl rfl (oca rfl rfl fun g=>ksmall) ?_;repeat refine u ?_
 refine tp (fun c1=>?_) fun c1=>?_;repeat refine u ?_
 refine e ?_;refine psb ?_;rotate_left;repeat refine u ?_
 rotate_left;repeat refine u ?_
 refine e ?_;refine psb ?_;rotate_left
 ·refine(few24_at (i:=i) (by omega) ?_).symm;rw[Bool.and_eq_false_iff,decide_eq_false_iff_not];rcases c1 with c | c
  ·left;omega
  ·right;simpa using c
 ·refine nxt (i+1) ?_;refine⟨by omega,by omega,fun l hl=>?_⟩;rw[(zT (Df.d:List PX) (show i<ls.length by omega)).1] at hl;rcases zae.1 hl with h | h
  ·exact hs l h
  ·rw[zak.1 h,zaq,decide_eq_true_eq];exact⟨by omega,Classical.byContradiction fun k=>c1 (.inr k)⟩
 ·unfold aJ;by_cases h:i=ls.length
  ·subst h;rw[zaF] at hs;rw[zaC.2 hs,Bool.and_true];exact decide_eq_decide.2 (by omega)
  ·rw[decide_eq_false (by omega),decide_eq_false (show ¬ ls.length≤3 by omega),Bool.false_and]
def sN (r:List PX)(ts:List TX3):Bool:=decide (r.length≤4)&&decide (ts.length≤2)&&aJ [r] && !pP ts&&ts.all fun t=>aJ [trl t]
theorem sM {r:List PX}{ts:List TX3}:sN r ts=true↔r.length≤4∧ts.length≤2∧aJ [r]=true∧pP ts=false∧∀ t∈ts,aJ [trl t]=true:=by
 unfold sN;simp only[zaq,decide_eq_true_eq,zct,zaC,and_assoc]
noncomputable def modM (ls:zF):Mdl:=⟨zQ ls,xsM ls,lvsM ls,wlsM ls,celM ls⟩
theorem inB_iff {s:Bool}{a x b:Rat}:inB s a x b=true↔if s then a<x∧x<b else a≤x∧x≤b:=by
 unfold inB dT;cases s with
 | false =>
  simp only[zaq,decide_eq_true_eq,Bool.false_eq_true,if_false];rw[cM,cM]
 | true =>
  simp only[zaq,decide_eq_true_eq,if_true];rw[← yO,← yO];constructor<;>intro h<;>constructor<;>omega
theorem fZ {lo hi x:Rat}{a:P2}(h:lo<hi):zM (lo,a.1) (hi,a.2) x=jJ a (kQ lo hi x):=by
 unfold zM atP jJ kQ;rw[if_neg (by grind),if_pos h];simp only[addP,qV,subP];rw[Rat.mul_comm]
theorem has1 {s:Bool}{k:Nat}{a p:P2}:hasB s k [a] p=decide (a=p):=rfl
theorem has2w {s:Bool}{k:Nat}{a b p:P2}(h:k=1):hasB s k [a,b] p=(decide (a.1=p.1)&&inB s a.2 p.2 b.2):=by subst h;rfl
theorem has2s {s:Bool}{k:Nat}{a b p:P2}(h:k≠1):hasB s k [a,b] p=(inB s a.1 p.1 b.1&&decide (zM a b p.1=p.2)):=by
 show (if k=1 then _ else _)=_;rw[if_neg h]
theorem has4 {s:Bool}{k:Nat}{a b c d p:P2}:hasB s k [a,b,c,d] p=(inB s a.1 p.1 b.1&&inB s (zM a b p.1) p.2 (zM d c p.1)):=rfl
theorem has_iff {ls:zF}{c j:Nat}(h:inC ls c j){s:Bool}{p:P2}:hasB s (2*(c%2)+j%2) (clsM (modM ls) (2*(c%2)+j%2) (c/2) (j/2)) p=true↔if s then ownC ls c j p else touC ls c j p:=by
 obtain⟨hc,hj⟩:=h;have hd:(Df.d:Rat)=0:=rfl;have hd2:(Df.d:P2)=(0,0):=rfl;have hd3:(Df.d:List Rat)=[]:=rfl;have hd4:(Df.d:List P2)=[]:=rfl;have key:(if s then ownC ls c j p else touC ls c j p)↔(if s then posY (xsM ls) c p.1 else cloY (xsM ls) c p.1)∧(if s then posY (ycM ls c p.1) j p.2 else cloY (ycM ls c p.1) j p.2):=by
  cases s<;>rfl
 rw[key];have hpc:∀(l:List Rat) (i:Nat) (y:Rat),(if s then posY l (2*i) y else cloY l (2*i) y)↔y=l.getD i 0:=fun l i y=>by
  cases s
  ·show cloY l (2*i) y↔_;unfold cloY;rw[if_pos (by omega),show 2*i/2=i by omega]
  ·show posY l (2*i) y↔_;unfold posY;rw[if_pos (by omega),show 2*i/2=i by omega]
 have hpo:∀(l:List Rat) (i:Nat) (y:Rat),(if s then posY l (2*i+1) y else cloY l (2*i+1) y)↔inB s (l.getD i 0) y (l.getD (i+1) 0)=true:=fun l i y=>by
  rw[inB_iff];cases s
  ·show cloY l (2*i+1) y↔_;unfold cloY;rw[if_neg (by omega),show (2*i+1)/2=i by omega];simp
  ·show posY l (2*i+1) y↔_;unfold posY;rw[if_neg (by omega),show (2*i+1)/2=i by omega];simp
 rcases zbD c with mc | mc
 ·obtain⟨i,rfl⟩:∃ i,c=2*i:=⟨c/2,by omega⟩;have hi:i<(xsM ls).length:=by omega
  rw[yn_wall] at hj;rw[hpc,zQ7,show 2*i%2=0 by omega,show 2*i/2=i by omega];have e1:(modM ls).wl.getD i Df.d=wlM ls i:=by rw[hd3];exact nW hi
  have e2:(modM ls).wl.length=(xsM ls).length:=mW ls;rcases zbD j with mj | mj
  ·obtain⟨r,rfl⟩:∃ r,j=2*r:=⟨j/2,by omega⟩;rw[hpc,show 2*r%2=0 by omega,show 2*r/2=r by omega];unfold clsM;rw[if_pos (by omega),e1,if_pos ⟨hi,by omega,by omega⟩,if_neg (by omega)];rw[has1];rw[decide_eq_true_eq,hd];show ((xsM ls).getD i 0,(wlM ls i).getD r 0)=p↔_;obtain⟨p1,p2⟩:=p;rw[Prod.mk.injEq];exact⟨fun h=>⟨h.1.symm,h.2.symm⟩,fun h=>⟨h.1.symm,h.2.symm⟩⟩
  ·obtain⟨r,rfl⟩:∃ r,j=2*r+1:=⟨j/2,by omega⟩;rw[hpo,show (2*r+1)%2=1 by omega,show (2*r+1)/2=r by omega];unfold clsM;rw[if_pos (by omega),e1,if_pos ⟨hi,by omega,by omega⟩,if_pos (by omega)];rw[has2w (by omega),zaq,decide_eq_true_eq,hd];show (xsM ls).getD i 0=p.1∧_↔_;exact⟨fun h=>⟨h.1.symm,h.2⟩,fun h=>⟨h.1.symm,h.2⟩⟩
 ·obtain⟨i,rfl⟩:∃ i,c=2*i+1:=⟨c/2,by omega⟩;have hi:i+1<(xsM ls).length:=by omega
  have hlt:=aT ls i hi;rw[yn_slab] at hj;rw[hpo,tO,show (2*i+1)%2=1 by omega,show (2*i+1)/2=i by omega];have e1:(modM ls).lv.getD i Df.d=lvM ls i:=by rw[hd4];exact cC hi
  have e2:(modM ls).lv.length=(xsM ls).length-1:=iQ ls;rcases zbD j with mj | mj
  ·obtain⟨r,rfl⟩:∃ r,j=2*r:=⟨j/2,by omega⟩;rw[hpc,show 2*r%2=0 by omega,show 2*r/2=r by omega,pO (by omega)];unfold clsM;rw[if_neg (by omega),e1,if_pos ⟨by omega,hi,by omega⟩,if_neg (by omega)];rw[has2s (by omega),zaq,decide_eq_true_eq,hd,hd2,show (modM ls).xs=xsM ls from rfl,fZ hlt];exact⟨fun h=>⟨h.1,h.2.symm⟩,fun h=>⟨h.1,h.2.symm⟩⟩
  ·obtain⟨r,rfl⟩:∃ r,j=2*r+1:=⟨j/2,by omega⟩;rw[hpo,show (2*r+1)%2=1 by omega,show (2*r+1)/2=r by omega,pO (by omega),pO (by omega)];unfold clsM;rw[if_neg (by omega),e1,if_pos ⟨by omega,hi,by omega⟩,if_pos (by omega)];rw[has4,zaq,hd,hd2,show (modM ls).xs=xsM ls from rfl,fZ hlt,fZ hlt]
theorem zV7 {f:Nat→Nat}{B:Nat}(h:∀ c,f c≤B):∀ c,offN f c≤c*B
 | 0=>zaD _
 | c+1=>by rw[zJ8,zaQ,zbm];exact Nat.add_le_add (zV7 h c) (h c)
theorem lv_len2 {lo hi yl yh:Rat}{es:List BX}:(lvOf lo hi yl yh es).length≤es.length+2:=by
 by_cases h:lo<hi
 ·exact lv_len h
 ·rw[← iR (l:=[]) (by rw[if_neg h])];exact zaD _
section
variable {ls : zF} (h : Prt ls)
include h
theorem pV:ls.flatten.length≤27:=by
 have:=vT (K:=9) h.nine;have:=h.1;omega
theorem aI (i:Nat):(lvM ls i).length≤29:=zac lv_len2 (by have:=ed_len h;omega)
theorem zR1 (i:Nat):(wlR ls i).length≤87:=by
 have h1:=aI h i;have h2:=aI h (i-1);have h3:=pV h;unfold wlR;simp only[zal,zaw,zbk,zar];have h4:=List.length_filter_le (fun p:P2=>decide (p.1=(xsM ls).getD i 0)) ls.flatten;have h5:(if 0<i then(lvM ls (i-1)).map (·.2) else []).length≤29:=by split<;>simp<;>omega
 have h6:(if i+1<(xsM ls).length then(lvM ls i).map (·.1) else []).length≤29:=by split<;>simp<;>omega
 omega
theorem eK (i:Nat):(wlM ls i).length≤87:=zac (kL uC _) (zR1 h i)
theorem zQ6 (c:Nat):ynM ls c≤87:=by
 unfold ynM;split
 ·exact eK h _
 ·have:=aI h (c/2);omega
theorem off_len (c:Nat):offC ls c≤c*173:=zV7 (fun c=>by unfold nC;have:=zQ6 h c;omega) c
theorem yA4:(celM ls).length≤3460000:=by
 rw[nO];have h1:=off_len h (kC ls);have h2:=dB h;have h3:kC ls*173≤20000*173:=Nat.mul_le_mul_right _ (by unfold kC;omega);omega
end
theorem lv_edge {ls:zF}{lo hi:Rat}(hl:lo<hi){yl yh x:Rat}{a:P2}(ha:a∈lvOf lo hi yl yh (yW ls)):(∃ e∈yW ls,uP lo hi e∧jJ a (kQ lo hi x)=zM e.1 e.2 x)∨jJ a (kQ lo hi x)=yl∨jJ a (kQ lo hi x)=yh:=by
 have hm:=((nE hl).mem a).1 ha;rcases zae.1 hm with hm | hm
 ·left;obtain⟨e,he,ht,rfl⟩:=oF.1 hm;refine⟨e,he,ht,?_⟩;unfold qG;unfold uP at ht;unfold jJ kQ zM atP addP qV subP;have h1:e.2.1-e.1.1≠0:=by grind
  rw[if_pos hl,if_neg h1,if_neg h1,if_neg h1];simp only;have h2:hi-lo≠0:=by grind
  generalize e.2.2-e.1.2=dy at *;generalize hd:e.2.1-e.1.1=d at *;generalize e.1.1=a1 at *;generalize e.1.2=a2 at *;have e3:(x-lo)/(hi-lo)*(hi-lo)=x-lo:=zcE h2;generalize (x-lo)/(hi-lo)=t at *;rw[Rat.div_def,Rat.div_def,Rat.div_def];generalize d⁻¹=v at *;grind
 ·right;simp only[zad,zaY,or_false] at hm;rcases hm with rfl | rfl
  ·left;unfold jJ;grind
  ·right;unfold jJ;grind
theorem wl_r {ls:zF}(h:Prt ls){i:Nat}(hi:i<(xsM ls).length){y:Rat}(hy:y∈wlR ls i):rlen y 14:=by
 have hlv:∀ j,j+1<(xsM ls).length→∀ a∈lvM ls j,rlen a.1 14∧rlen a.2 14:=fun j hj a ha =>
  zW2 h.fp h.bx (rC (by omega)) (rC hj) a (((nE (aT ls j hj)).mem a).1 ha)
 rcases nX.1 hy with(rfl | rfl) | ⟨h0,a,ha,rfl⟩ | ⟨h0,a,ha,rfl⟩ | ⟨l,hl,p,hp,_,rfl⟩
 ·exact zN (cX h.bx.1.2) (by omega)
 ·exact zN (cX h.bx.2.2) (by omega)
 ·exact(hlv (i-1) (by omega) a ha).2
 ·exact(hlv i h0 a ha).1
 ·exact zN (cX (h.fp l hl p hp).2) (by omega)
theorem hs_r {ls:zF}(h:Prt ls){i:Nat}(hi:i+1<(xsM ls).length){y:Rat}(hy:y∈hsL ((xsM ls).getD i 0) ((xsM ls).getD (i+1) 0) (xM ((xsM ls).getD i 0) ((xsM ls).getD (i+1) 0)) (lvM ls i)):rlen y 21:=by
 unfold hsL at hy;obtain⟨a,ha,rfl⟩:=zai.1 hy;have hx:rlen (xM ((xsM ls).getD i 0) ((xsM ls).getD (i+1) 0)) 10:=rP (iC h.fp h.bx (rC (by omega))) (iC h.fp h.bx (rC hi));rcases lv_edge (aT ls i hi) (x:=xM ((xsM ls).getD i 0) ((xsM ls).getD (i+1) 0)) ha with⟨e,he,_,k⟩ | k | k
 ·rw[k];obtain⟨k1,k2⟩:=zM2 h.fp he;exact bS (iX k1) (iX k2) hx
 ·rw[k];exact zN (cX h.bx.1.2) (by omega)
 ·rw[k];exact zN (cX h.bx.2.2) (by omega)
theorem oA {ls:zF}{i:Nat}(hi:i<(xsM ls).length):jY ls (zQ ls) (xsM ls) (lvsM ls) i=wlR ls i:=by
 unfold jY wlR gX kA atX;have e1:0<i→(lvsM ls).getD (i-1) []=lvM ls (i-1):=fun h=>cC (by omega);congr 1;congr 1
 ·congr 1;by_cases h:0<i
  ·rw[if_pos h,if_pos h,e1 h]
  ·rw[if_neg h,if_neg h]
 ·by_cases h:i+1<(xsM ls).length
  ·rw[if_pos h,cC h]
  ·rw[if_neg h,zah,zcH (by rw[iQ];omega)];rfl
section
variable {ls : zF} (h : Prt ls)
include h
end
theorem bx_up {n m:Nat}{b:BX}(h:n≤m){M:Nat→Prop}{w:World}{us:List Value}(k:(bxc n b).p M w us):(bxc m b).p M w us:=by
 obtain⟨x,y,e1,h1,z,o,e2,h2,h3⟩:=k;exact⟨x,y,e1,bT h h1,z,o,e2,bT h h2,h3⟩
theorem yN7 {n m:Nat}(h:n≤m){l:List Rat}{M:Nat→Prop}{w:World}{us:List Value}(k:(sl 3 (l.map (rtc n))).p M w us):(sl 3 (l.map (rtc m))).p M w us :=
 cL (f:=rtc n) (g:=rtc m) (fun a _ {M w us} ⟨s,b,d,e,g⟩=>⟨s,b,d,e,g.up h⟩) (fun _=>rfl) k
theorem yM4 {n m:Nat}(h:n≤m){l:List (List Rat)}{M:Nat→Prop}{w:World}{us:List Value}(k:(sl 1 (l.map fun x=>sl 3 (x.map (rtc n)))).p M w us):(sl 1 (l.map fun x=>sl 3 (x.map (rtc m)))).p M w us :=
 cL (f:=fun x:List Rat=>sl 3 (x.map (rtc n))) (g:=fun x:List Rat=>sl 3 (x.map (rtc m))) (fun a _ {M w us} k=>yN7 h k) (fun _=>rfl) k
theorem lr_up {n m:Nat}(h:n≤m){l:zF}{M:Nat→Prop}{w:World}{us:List Value}(k:(sl 1 (l.map (pcc n))).p M w us):(sl 1 (l.map (pcc m))).p M w us :=
 cL (f:=pcc n) (g:=pcc m) (fun a _ {M w us} k=>cL (f:=ptc n) (g:=ptc m) (fun q _ {M w us} k=>bT h k) (fun _=>rfl) k) (fun _=>rfl) k
instance:Df CL:=⟨(0,0,0,(0,0))⟩
theorem nP {ls:zF}{a:Nat}(h:a<(celM ls).length):∃ c j,inC ls c j∧a=offC ls c+j∧(celM ls).getD a Df.d=cellC ls c j:=by
 obtain⟨c,j,h1,e⟩:=cel_ex h;exact⟨c,j,h1,e,by rw[e];exact wF h1⟩
theorem zX4 {ls:zF}{c j:Nat}:(cellC ls c j).1<4∧(cellC ls c j).1=2*(c%2)+j%2∧(cellC ls c j).2.1=c/2∧(cellC ls c j).2.2.1=j/2∧(cellC ls c j).2.2.2=repC ls c j:=⟨by show 2*(c%2)+j%2<4;omega,rfl,rfl,rfl,rfl⟩
noncomputable def hasA (s:Bool)(m:Mdl)(a:Nat)(p:P2):Bool:=hasB s (m.cs.getD a Df.d).1 (clsM m (m.cs.getD a Df.d).1 (m.cs.getD a Df.d).2.1 (m.cs.getD a Df.d).2.2.1) p
theorem zL6 {ls:zF}{c j:Nat}(hc:inC ls c j){s:Bool}{p:P2}:hasA s (modM ls) (offC ls c+j) p=true↔if s then ownC ls c j p else touC ls c j p:=by
 unfold hasA;rw[show (modM ls).cs.getD (offC ls c+j) Df.d=cellC ls c j from wF hc];exact has_iff hc
section
variable {ls : zF} (h : Prt ls)
include h
theorem zP3 (i:Nat):((modM ls).wl.getD i Df.d).length≤1000000:=by
 show ((wlsM ls).getD i []).length≤_;rcases zaf i (xsM ls).length with c | c
 ·rw[nW c];have:=eK h i;omega
 ·rw[zah,zcH (by rw[mW];exact c)];simp
theorem zP4 (i:Nat):((modM ls).lv.getD i Df.d).length≤1000000:=by
 show ((lvsM ls).getD i []).length≤_;rcases zaf (i+1) (xsM ls).length with c | c
 ·rw[cC c];have:=aI h i;omega
 ·rw[zah,zcH (by rw[iQ];omega)];simp
theorem zP2:(modM ls).xs.length≤1000000:=by have:=dB h;show (xsM ls).length≤_;omega
theorem lZ {c j:Nat}(hc:inC ls c j):c/2≤1000000000000∧j/2≤1000000000000:=by
 have h1:=dB h;have h2:=zQ6 h c;have h3:=hc.1;have h4:=hc.2;exact⟨by omega,by omega⟩
end
instance:Df (Int×Int):=⟨(0,0)⟩
theorem zR4 {c:Nat}(h:c<3):nC [] c=3:=by
 have:c=0∨c=1∨c=2:=by omega
 unfold nC ynM;rcases this with rfl | rfl | rfl
 ·rw[if_pos rfl,yB8 (by omega)];rfl
 ·rw[if_neg (by omega),show 1/2=0 from rfl,wL];rfl
 ·rw[if_pos rfl,yB8 (by omega)];rfl
theorem nY:offC [] 0=0∧offC [] 1=3∧offC [] 2=6∧offC [] 3=9:=by
 have h0:offC [] 0=0:=rfl;have h1:offC [] 1=3:=by show offC [] 0+nC [] 0=3;rw[h0,zR4 (by omega)]
 have h2:offC [] 2=6:=by show offC [] 1+nC [] 1=6;rw[h1,zR4 (by omega)]
 exact⟨h0,h1,h2,by show offC [] 2+nC [] 2=9;rw[h2,zR4 (by omega)]⟩
theorem wk_cel:(celM []).length=9:=by
 rw[nO,show kC []=3 by unfold kC;rw[fL];rfl];exact nY.2.2.2
theorem wM {c j:Nat}(h1:c<3)(h2:j<3):inC [] c j:=⟨by rw[fL];exact h1,by have:=zR4 h1;unfold nC at this;omega⟩
theorem wk_rep:repC [] 0 0=(-1,-1)∧repC [] 1 1=(0,0):=by
 constructor
 ·unfold repC;rw[show (0:Nat)=2*0 from rfl,zQ7,xc_wall,yB8 (by omega),fL];decide +kernel
 ·unfold repC;rw[show (1:Nat)=2*0+1 from rfl,tO];unfold xcM;rw[wL,fL];decide +kernel
theorem piece_w {r:List PX}{ts:List TX3}(h1:r.length≤6)(h2:ts.length≤3)(h3:qE r=true)(h5:∀ t∈ts,qE (trl t)=true):Prt (piecesX r ts):=by
 unfold piecesX;refine⟨by simpa using h2,fun l hl=>?_⟩;obtain⟨t',ht',rfl⟩:=zai.1 hl;obtain⟨t,ht,rfl⟩:=zai.1 ht';have ht3:=zL8 (h5 t ht);refine⟨⟨_,rfl⟩,?_,fun q hq=>?_⟩
 ·have:=sum_len' (t3l (px3 t)) ((r.map px).map negP);rw[zar,zar] at this;exact zac this (by show 3+_≤9;omega)
 ·obtain⟨x,hx,y,hy,rfl⟩:=lT.1 ((jF _).sub q hq);obtain⟨y',hy',rfl⟩:=zai.1 hy;obtain⟨a,ha,rfl⟩:=zai.1 hy';have f1:=zL8 h3 a ha;have f2:FP 27720 27692280 x:=by
   unfold t3l px3 at hx;simp only[zad,zaY,or_false] at hx;unfold trl at ht3;rcases hx with rfl | rfl | rfl
   ·exact ht3 _ (by simp)
   ·exact ht3 _ (by simp)
   ·exact ht3 _ (by simp)
  exact⟨f2.1.add f1.1.neg,f2.2.add f1.2.neg⟩
theorem fG {l:List PX}(h:aJ [l]=true):qE l=true:=by
 unfold aJ at h;simp at h;exact h.2
theorem yO3 {r:List PX}{ts:List TX3}(h:sN r ts=true):Prt (piecesX r ts):=by
 obtain⟨h1,h2,h3,_,h5⟩:=sM.1 h;exact piece_w (by omega) (by omega) (fG h3) fun t ht=>fG (h5 t ht)
theorem k26pieces {r:List PX}{ts:List TX3}(h:sN r ts=true):CTy prog 34 [sv (pcx r),sv (sl 18 (ts.map trx))] (sv (sl 1 ((piecesX r ts).map (pcc 1)))):=by
 obtain⟨h1,h2,h3,_,h5⟩:=sM.1 h;have hP:=yO3 h;exact jX (yI (k20pieces (n:=1) (m:=1) (l:=r.map px) (ts:=ts.map px3) (by omega) (by omega) (by rw[zar];omega) (by rw[zar];omega)) (fs1 (pcx_n (eQ (fG h3))) (fs1 (trx_n fun t ht=>eQ (fG (h5 t ht))) fs0))) (yF3 fun l hl q hq=>iX (hP.fp l hl q hq))
theorem prt0:Prt []:=⟨zaD _,fun l hl=>by cases hl⟩
instance:Z1 prog 4 (.bool false):=⟨_,sz4,by decide,rfl⟩
theorem wk_n:(modM []).cs.length=9:=wk_cel
theorem k24fewtris {ts:List TX3}(h2:ts.length≤2):CTy prog 120 [sv (sl 18 (ts.map trx))] (exP (.bool (ts.all fun t=>aJ [trl t]))):=by
 refine fw [.tmp 2] func120 fun X=>?_;repeat refine u ?_
 refine lp (σ:=Nat) [0] (fun i=>[(3,True,zJ i)]) (fun i=>[]) (fun i=>i≤ts.length∧∀ t∈ts.take i,aJ [trl t]=true) (fun i=>ts.length-i) (0) (⟨by omega,by simp⟩) fun i hJ Y _=>?_;obtain⟨hi,hs⟩:=hJ;repeat refine u ?_
 refine tp (fun c0=>?_) fun c0=>?_;repeat refine u ?_
 refine zB rfl rfl zL2 ?_;repeat refine u ?_
 refine zB rfl rfl (yJ1 (ls:=[trl (ts.getD i Df.d)])) ?_;repeat refine u ?_
 refine tp (fun c1=>?_) fun c1=>?_;repeat refine u ?_
 refine e ?_;refine psb ?_;rotate_left;repeat refine u ?_
 rotate_left;repeat refine u ?_
 refine e ?_;refine psb ?_;rotate_left
 ·refine(Bool.eq_false_iff.2 fun h=>c1 ?_).symm;exact zaC.1 h _ (xL (by omega))
 ·refine nxt (i+1) ?_;refine⟨by omega,fun t ht=>?_⟩;rw[(zT (Df.d:TX3) (show i<ts.length by omega)).1] at ht;rcases zae.1 ht with h | h
  ·exact hs t h
  ·rw[zak.1 h];exact Classical.not_not.1 c1
 ·rw[zaz (by omega)] at hs;exact(zaC.2 hs).symm
def fewL (r:List PX)(ts:List TX3):Bool:=decide (r.length≤4)&&decide (ts.length≤2)&&aJ [r] && !pP ts && !gr18 r&&ts.all fun t=>aJ [trl t]
theorem zY7 {r:List PX}{ts:List TX3}(h:fewL r ts=true):sN r ts=true:=by
 unfold fewL at h;unfold sN;simp only[zaq] at h ⊢;exact⟨h.1.1,h.2⟩
theorem k24fewL {r:List PX}{ts:List TX3}:CTy prog 49 [sv (pcx r),sv (sl 18 (ts.map trx))] (exP (.bool (fewL r ts))):=by
 refine fw [.tmp 4] func49 fun X=>?_;repeat refine u ?_
 refine t1g rfl rfl (oca rfl rfl fun _=>yJ1 (ls:=[r])) ?_;repeat refine u ?_
 refine t1g rfl rfl (oca rfl rfl fun g=>kgtris) ?_;repeat refine u ?_
 refine t1g rfl rfl (oca rfl rfl fun g=>kg18) ?_;repeat refine u ?_
 refine t1g rfl rfl (oca rfl rfl fun g=>k24fewtris (by(simp at g;omega))) ?_;repeat refine u ?_
 refine e ?_;refine psb ?_;unfold fewL;congr 5
 ·exact decide_eq_decide.2 (by omega)
 ·exact decide_eq_decide.2 (by omega)
def isCl (k a r:Int)(c:CL):Bool:=decide (((c.1:Nat):Int)=k)&&decide (((c.2.1:Nat):Int)=a)&&decide (((c.2.2.1:Nat):Int)=r)
theorem knumf {K:Nat}{c:CL}{k a r:Int}:CTy prog 128 [ag (celT K c),pa (xc (.int .i8 k)),pa (xc (.int .i64 a)),pa (xc (.int .i64 r))] (exP (.bool (isCl k a r c))):=by
 refine fw [.tmp 5] func128 fun X=>?_;repeat refine u ?_
 exact e
def numZ (cs:List CL)(k a r z:Int):Prop:=z = -1∧(∀ j,j<cs.length→isCl k a r (cs.getD j Df.d)=false) ∨ ∃ i:Nat,z=i∧i<cs.length∧isCl k a r (cs.getD i Df.d)=true∧∀ j,j<i→isCl k a r (cs.getD j Df.d)=false
theorem kindexf {K:Nat}{cs:List CL}{k a r z:Int}(hl:cs.length≤100000000)(hz:numZ cs k a r z):CTy prog 127 [sv (sl 9 (cs.map (celT K))),fn 128 [pa (xc (.int .i8 k)),pa (xc (.int .i64 a)),pa (xc (.int .i64 r))]] (exP (.int .i64 z)):=by
 refine fw [.tmp 4] func127 fun X=>?_;repeat refine u ?_
 refine lp (σ:=Nat) [0,1,7] (fun i=>[(8,True,zJ i)]) (fun i=>[]) (fun i=>i≤cs.length∧∀ j,j<i→isCl k a r (cs.getD j Df.d)=false) (fun i=>cs.length-i) (0) (⟨by omega,fun j h=>absurd h (by omega)⟩) fun i hJ Y _=>?_;obtain⟨hi,hs⟩:=hJ;repeat refine u ?_
 refine tp (fun c0=>?_) fun c0=>?_;repeat refine u ?_
 refine zB rfl rfl knumf ?_;repeat refine u ?_
 refine tp (fun c1=>?_) fun c1=>?_;repeat refine u ?_
 refine e ?_;refine ps_i ?_;rotate_left;repeat refine u ?_
 rotate_left;repeat refine u ?_
 refine e ?_;refine ps_i ?_;rotate_left
 ·rcases hz with⟨_,h⟩ | ⟨q,rfl,h1,h2,h3⟩
  ·exact absurd c1 (by rw[h i (by omega)];simp)
  ·rcases zcy i q with d | d | d
   ·exact absurd c1 (by rw[h3 i d];simp)
   ·rw[d]
   ·exact absurd h2 (by rw[hs q d];simp)
 ·refine⟨i+1,tes ?_ ?_ (zaa _),?_,(by omega)⟩;refine zA rfl tn;refine zA rfl (zA rfl (zA rfl tn));refine⟨by omega,fun j hj=>?_⟩;rcases zaf j i with d | d
  ·exact hs j d
  ·rw[show j=i by omega];exact Bool.eq_false_iff.2 c1
 ·rcases hz with⟨h,_⟩ | ⟨q,rfl,h1,h2,h3⟩
  ·exact h.symm
  ·exact absurd h2 (by rw[hs q (by omega)];simp)
theorem knumber {N:Nat}{m:Mdl}{k a r z:Int}(hl:m.cs.length≤100000000)(hz:numZ m.cs k a r z):CTy prog 55 [ag (mdT N m),exP (.int .i8 k),exP (.int .i64 a),exP (.int .i64 r)] (exP (.int .i64 z)):=by
 refine fw [.tmp 8] func55 fun X=>?_;repeat refine u ?_
 refine zB rfl rfl (kindexf hl hz) ?_;repeat refine u ?_
 exact e
end Go.Proofs.YtalkinejknjidaaGreatDoor
namespace Go.SL
open Go.RowKit
def wc (k:Nat):CT where
 sz:=k
 p M w us:=us.length=k∧∀ u∈us,u.oneCell'=true
 len h:=h.1
 one h:=h.2
 mono h _:=h
theorem yE0 {k:Nat}{M:Nat→Prop}{w:World}:∀ {m:Nat} {us:List Value},us.length=m*k→(∀ u∈us,u.oneCell'=true)→stp (List.replicate m (wc k)) M w us
 | 0,us,h,_=>List.length_eq_zero_iff.1 (by simpa using h)
 | m+1,us,h,h1=>by
  rw[zaQ,zbm] at h;exact⟨us.take k,us.drop k,(zbb k us).symm,⟨by rw[zaE];omega,fun u hu=>h1 u (zbc hu)⟩,yE0 (by rw[zaV];omega) fun u hu=>h1 u (zbB hu)⟩
theorem run_append_make {P:Program}{w:World}(t ty tz e:TypeId){sz bytes:Nat}{z:Value}(ht:P.underlying t=some (.slice e))(htz:P.underlying tz=some (.int .i64))(he:Sz P e sz bytes z)(hz:z.cells.size=sz)(hsz:0<sz)
  {m:Nat} (h0:0<m) (hm:m≤1000000) (hb:m*bytes≤140737488355328) :
  ∃ cap,(Builtin.append_ #[t,tz] ty #[.slice none 0 0,.int .i64 (m:Int)]).run P w = .ok (.slice (some ⟨w.heap.size,0,none⟩) m cap) (w.drew.alloc (.cells (Builtin.zeroCells z.cells m++Builtin.zeroCells z.cells (cap-m)) e))∧m≤cap∧cap≤maxLen:=by
 obtain⟨i,i1,i2,i3,i4⟩:=he;have h63:m≤maxLen:=by simp[maxLen];omega
 have hwr:IntKind.i64.wrap (m:Int)=(m:Int):=IntWalk.i64_in _ (by omega);have hmb:¬ (281474976710656<(m:Int)*(i.bytes:Int)):=by
  rw[i3];have:((m*bytes:Nat):Int)≤140737488355328:=by omega
  rw[zcc] at this;omega
 have hneg:¬ ((m:Int)<0):=by omega
 have hm0:¬ m=0:=by omega
 have h63':¬ (9223372036854775807<(m:Int)):=by omega
 have h48':¬ (281474976710656<Builtin.nextslicecap m 0*i.bytes):=by
  have:=growslice_fits (need:=m) (old:=0) (by omega) (show m*i.bytes≤140737488355328 by rw[i3];omega);omega
 have hfo:(Builtin.firstCells i.size 0 (Value.slice none 0 0)).run P w.drew = .ok #[] w.drew:=rfl;have hmz:¬ (m*i.size=0):=Nat.ne_of_gt (Nat.mul_pos h0 (by omega));refine⟨grownCap w m 0 e,?_,grownCap_ge w m 0 e,grownCap_le_maxLen w m 0 e h63⟩;simp[Builtin.append_,run_underlying ht,run_underlying htz,sizeOf,typeInfo,zeroValue,i1,i4,asInt,asIntOf,hwr,hmb,hneg,h63',h48',hm0,hmz,Question.forced,hfo,newRow,grownCap]
theorem zero_mem {cs:Array Value}{n:Nat}{u:Value}(h:u∈(Builtin.zeroCells cs n).toList):u∈cs.toList:=by
 unfold Builtin.zeroCells at h;rw[Array.toList_map,zai] at h;obtain⟨i,hi,rfl⟩:=h;simp only[Array.toList_range,zbq] at hi;have h0:0<cs.size:=zaW fun e=>by rw[e] at hi;simp at hi
 have hlt:=zaH i h0;rw[getElem!_pos cs _ hlt];exact Array.getElem_mem_toList hlt
section
variable {P : Program} {r : Option Nat} {N : Nat} {X : Cx} {K : TK} {Γ : TE} {S : List Ow} {ops : Array Oper} {M : Nat → Prop} {p q qx qy : Prop} {Ψx Ψy : PV} {d : Nat} {x y : Operand} {t tz t' : TypeId} {pos : String} {af : Array Edge} {l : List Oper}
variable {ty : TypeId} {k bytes : Nat} {a : Int}
theorem yO9 (hx:tv Γ x=some (qx,exP (.slice none 0 0)))[Im p qx][ht:TSl P t ty k bytes]:Ob P r N ops M S p ⟨some d,.call ⟨.builtin .cap,#[x],#[t]⟩,t',pos,af,none⟩ Γ (exP (.int .i64 0)) :=
 ob1 hx (by simp[Op.operands,Call.operands]) fun D E w u hN hg e1 h1=>by
  obtain rfl:u=_:=h1;refine yB hN (by intro c hc;cases hc) (fun ac ha=>?_) (fin rfl);have e2:(Builtin.cap_ #[t] t' #[.slice none 0 0]).run P w = .ok (.int .i64 0) w:=by
   simp[Builtin.cap_,run_underlying ht.u,Result.andThen,goInt]
  simp only[execOp,resolve,invoke,builtin,Sem.run_bind,Sem.run_pure,Result.andThen,zbL,zaG,zbe,ha.ev e1];rw[e2]
theorem osl00 (hx:tv Γ x=some (qx,exP (.slice none 0 0)))(hy:tv Γ y=some (qy,Ψy))[Im p qx][Im p qy][ht:TSl P t ty k bytes][hv:VI Ψy .i64 a](ha:a=0):Ob P r N ops M S p ⟨some d,.slice t x none (some y) none,t',pos,af,none⟩ Γ (exP (.slice none 0 0)):=fun D E w d' hd hN hg hp hT=>by
 obtain rfl:=Option.some.inj hd;obtain⟨u,e1,g1⟩:=yL hT hx hp (by simp[Op.operands]);obtain rfl:u=_:=g1;obtain⟨u2,e2,g2⟩:=yL hT hy hp (by simp[Op.operands]);rw[hv.h g2,ha] at e2;obtain⟨z,hz,_⟩:=ht.s;exact qO 0 0 0 hN ht.u hz e1 rfl ⟨_,e2⟩ rfl (zab _) (zab _) (zab _) (fin rfl)
theorem tapM {z:Value}(m i:Nat)(hi:S[i]? = some (.row (.slice none 0 0) ty k []))(hx:tv Γ x=some (qx,exP (.slice none 0 0)))(hy:tv Γ y=some (qy,Ψy))[Tr qx][Tr qy][ht:TSl P t ty k bytes][hv:VI Ψy .i64 a][hzz:TZ P ty z](htz:P.underlying tz=some (.int .i64))(hb:Nat.ble bytes 1000=true)(ha:a=(m:Int))(h0:0<m)(hn:m≤1000000)
  (h:∀ v',TO P r N ops X K l ((d,True,exP v')::Γ) (S.set i (.row v' ty k (List.replicate m (wc k))))):TO P r N ops X K (⟨some d,.call ⟨.builtin .append,#[x,y],#[t,tz]⟩,t',pos,af,none⟩::l) Γ S:=fun hN D E w hs=>by
 unfold okN at hN;simp only[zaX,zaq] at hN;obtain⟨u,e1,k1⟩:=gR hs hx;obtain rfl:u=_:=k1;obtain⟨u2,e2,k2⟩:=gR hs hy;rw[hv.h k2,ha] at e2;obtain⟨z',hz,hzc⟩:=ht.s;obtain⟨sz2,by2,hz2⟩:=hzz.s;obtain rfl:z'=z:=by
  obtain⟨i,i1,i2,i3,i4⟩:=hz;obtain⟨j,j1,j2,j3,j4⟩:=hz2;rw[i1] at j1;obtain rfl:=Option.some.inj j1;exact Option.some.inj (i4.symm.trans j4)
 have hone:∀ u∈z'.cells.toList,u.oneCell'=true:=zaC.1 hzz.o;obtain⟨cap,hr,hc1,hc2⟩:=run_append_make (P:=P) (w:=w) t t' tz ty ht.u htz hz hzc (zaW (zby ht.n)) h0 hn (zac (zaT hn (zbZ hb)) (by omega));have hsz:(Builtin.zeroCells z'.cells m).size=m*k:=by rw[size_zeroCells,hzc]
 refine yB (w':=w.drew.alloc (.cells (Builtin.zeroCells z'.cells m++Builtin.zeroCells z'.cells (cap-m)) ty)) (v:=.slice (some ⟨w.heap.size,0,none⟩) m cap) hN.1 (by intro c hc;cases hc) (fun ac ha=>?_) ?_
 ·simp only[execOp,resolve,invoke,builtin,Sem.run_bind,Sem.run_pure,Result.andThen,zbL,zaG,zbe,ha.ev e1,ha.ev e2];rw[hr]
 ·have h6:=hs.setr (w':=w.drew.alloc (.cells (Builtin.zeroCells z'.cells m++Builtin.zeroCells z'.cells (cap-m)) ty)) (v':=.slice (some ⟨w.heap.size,0,none⟩) m cap) (l':=List.replicate m (wc k)) (us:=(Builtin.zeroCells z'.cells m).toList) hi ⟨⟨rfl,rfl,rfl,by simp,fun k hk _=>heap_alloc_old w.drew _ k hk⟩,zbt _⟩ ?_ (.inr rfl) (yE0 (by rw[zcF,hsz]) fun u hu=>hone u (zero_mem hu)) (fun c hc=>by rw[zcV hc];rfl) (fun b hb=>by rw[← Option.some.inj (show some w.heap.size=some b from hb)];simp)
  ·exact h _ hN.2 D _ _ (h6.put (xI _) (fun _=>rfl) (fun c=>absurd trivial c))
  ·rw[zbA];refine⟨by rw[zcF,hsz],.inr ⟨w.heap.size,_,_,rfl,zaD _,heap_alloc_new w.drew _,hc1,hc2,?_,?_⟩⟩
   ·simp only[Array.size_append,size_zeroCells,hzc,← zaQ];congr 1;omega
   ·rw[Array.toList_append,← hsz,← zcF];exact zcB
theorem oivA {len sz j:Nat}{e:TypeId}{ki:IntKind}{ix:Operand}{Ψi:PV}{qi:Prop}{cs:List CT}{c:CT}(hx:tv Γ x=some (qx,ag (st cs)))(hy:tv Γ ix=some (qi,Ψi))(ht:P.underlying t=some (.array len e))[Im p qx][Im p qi][hv:VI Ψi ki a][he:TLd P e true sz](hj:Nat.blt j len=true)(hc:dA cs (j*sz)=some c)(hs:Nat.beq c.sz sz=true)(ha:p→a=(j:Int)) :
  Ob P r N ops M S p ⟨some d,.index t x ix,t',pos,af,none⟩ Γ (ag c):=fun D E w d' hd hN hg hp hT=>by
 obtain rfl:=Option.some.inj hd;obtain⟨u,e1,us,rfl,g1⟩:=yL hT hx hp (by simp[Op.operands]);obtain⟨u2,e2,g2⟩:=yL hT hy hp (by simp[Op.operands]);rw[hv.h g2,ha hp] at e2;obtain⟨⟨bytes,z,hz⟩,hf⟩:=he;have hcs:=zaj hs;subst hcs;have h2:=gQ g1 hc;have h3:=c.len h2;have hj':j<len:=by simpa [Nat.blt_eq] using hj
 have h4:j*c.sz+c.sz≤us.length∨c.sz=0:=by
  simp only[zaE,zaV] at h3;omega
 refine yB hN (by intro c hc;cases hc) (fun ac ha=>?_) (fin ⟨_,rfl,h2⟩);have e3:(Instr.index t (.agg us.toArray) (.int ki (j:Int))).run P w = .ok (.agg ((us.drop (j*c.sz)).take c.sz).toArray) w:=by
  have e4:=hf w;simp[Instr.index,asIntOf,run_underlying ht,Result.andThen,xK hz,hj',part,e4];all_goals (try omega)
 simp only[execOp,ha.ev e1,ha.ev e2,Sem.run_bind,e3,Result.andThen];rfl
end
end Go.SL
namespace Go.Proofs.YtalkinejknjidaaGreatDoor
open Go.SL Go.RowKit Go.Proofs Tryz
theorem kgrowP {n:Nat}(hn:n≤100000):CTo prog 270 [exP (.slice none 0 0),zJ n] [] (fun r So=>∃ v,r=exP v∧So=[.row v 39 6 []]):=by
 refine fwo [.tmp 4] func270 fun X=>?_;repeat refine u ?_
 refine tp (fun c0=>(by omega)) fun c0=>?_;repeat refine u ?_
 refine zA1 (yO9 rfl) ?_;repeat refine u ?_
 refine zA1 (olx rfl) ?_;repeat refine u ?_
 refine tp (fun c1=>?_) fun c1=>?_;repeat refine u ?_
 refine zA1 (yO9 rfl) ?_;refine zA1 (osl00 rfl rfl rfl) ?_;repeat refine u ?_
 refine zO (jG 39 6) (tapM n 0 rfl rfl rfl underlying3 rfl (by omega) (by omega) (by omega) fun v=>?_);repeat refine u ?_
 refine zA1 (olx rfl) (tsh 0 0 rfl rfl rfl rfl (by omega) fun v=>?_);repeat refine u ?_
 exact er ⟨_,rfl,rfl⟩;refine t_ts (jG 39 6) ?_;repeat refine u ?_
 exact er ⟨_,rfl,rfl⟩
theorem sL {α:Type}{L:List (List α)}{i:Nat}{d:List α}(h:i<L.length):(L.take (i+1)).flatten=(L.take i).flatten++L.getD i d:=by
 rw[(zT d h).1,zbS];simp
theorem nK {α:Type}{L:List (List α)}(i:Nat):(L.take i).flatten.length≤L.flatten.length:=by
 have e:L.flatten=(L.take i).flatten++(L.drop i).flatten:=by rw[← zbS,zbb]
 rw[e,zal];omega
theorem zX6 {ls:zF}{n:Nat}(h1:ls.length≤100000)(h2:ls.flatten.length≤100000):CTy prog 197 [sv (sl 1 (ls.map (pcc n)))] (sv (sl 6 (ls.flatten.map (ptc n)))):=by
 refine fw [.tmp 2] func197 fun X=>?_;repeat refine u ?_
 refine lp (σ:=Nat) [0,2,9,10] (fun i=>[(3,True,exP (.int .i64 (((ls.take i).flatten.length:Nat):Int))),(11,True,zJ i)]) (fun i=>[]) (fun i=>i≤ls.length) (fun i=>ls.length-i) (0) ((by omega)) fun i hJ Y _=>?_;have f1:=nK (L:=ls) i;have f2:=nK (L:=ls) (i+1);have f3:i<ls.length→(ls.take (i+1)).flatten.length=(ls.take i).flatten.length+(ls.getD i Df.d).length:=fun h=>by rw[sL (d:=Df.d) h,zal]
 repeat refine u ?_
 refine tp (fun c0=>?_) fun c0=>?_;repeat refine u ?_
 refine tp (fun c1=>(by omega)) fun c1=>?_;repeat refine u ?_
 rotate_left;repeat refine u ?_
 rotate_left
 ·refine⟨i+1,tes ?_ ?_ (zaa _),(by omega),(by omega)⟩;refine tc rfl (ps_i (by omega)) (zA rfl tn);refine zA rfl (zA rfl (zA rfl (zA rfl tn)))
 obtain rfl:i=ls.length:=by omega
 rw[zaF];refine tco [] rfl rfl rfl (kgrowP (n:=ls.flatten.length) (by omega)) ?_;rintro _ _ ⟨v,rfl,rfl⟩;repeat refine u ?_
 refine lp (σ:=Nat×Value) [2,25,26] (fun s=>[(6,True,exP s.2),(27,True,zJ s.1)]) (fun s=>[.row s.2 39 6 ((ls.take s.1).flatten.map (ptc n))]) (fun s=>s.1≤ls.length) (fun s=>ls.length-s.1) ((0,v)) ((by simp)) fun s hJ Y _=>?_;obtain⟨i,v⟩:=s;dsimp only at hJ ⊢;have f1:=nK (L:=ls) i;have f2:=nK (L:=ls) (i+1);have f3:i<ls.length→(ls.take (i+1)).flatten=(ls.take i).flatten++ls.getD i Df.d:=fun h=>sL h;repeat refine u ?_
 refine tp (fun c1=>?_) fun c1=>?_;repeat refine u ?_
 refine tap 0 rfl rfl rfl ?_ rfl fun r33=>?_;rotate_left;repeat refine u ?_
 rotate_left;iterate 7 refine u ?_
 refine t_ts (yV (s:=2) 0 rfl rfl) ?_;repeat refine u ?_
 refine e ?_;rotate_left
 ·have:=congrArg List.length (f3 (by omega));rw[zal] at this;rw[zar,zar];omega
 ·refine⟨(i+1,r33),tes ?_ ?_ ?_,(by omega),(by omega)⟩;refine zA rfl (zA rfl tn);refine zA rfl (zA rfl (zA rfl tn));rw[f3 (by omega),zay];exact zaa _
 ·rw[zaz (by omega)];exact PSub.refl _
instance:TAr prog 305 2 3:=⟨_,_,_,_,_,underlying305,yD5,sz305,rfl⟩
def bxG (n:Nat)(lx ly hx hy:Rat)(p:P2):Nat→List CT
 | 0=>[rtc n lx,rtc n ly,rtc n hx,rtc n hy]
 | 1=>[rtc n (if p.1<lx then p.1 else lx),rtc n ly,rtc n (if hx<p.1 then p.1 else hx),rtc n hy]
 | _=>[rtc n (if p.1<lx then p.1 else lx),rtc n (if p.2<ly then p.2 else ly),rtc n (if hx<p.1 then p.1 else hx),rtc n (if hy<p.2 then p.2 else hy)]
theorem kgrowB {b:Nat}{lx ly hx hy:Rat}{p:P2}{n:Nat}(hn:n≤40000):CTo prog 269 [zU b 0,ag (ptc n p)] [.blk b 41 (bxG n lx ly hx hy p 0)] (fun r So=>r=tu []∧So=[.blk b 41 (bxG n lx ly hx hy p 2)]):=by
 refine fwo [] func269 fun X=>?_;iterate 2 refine u ?_
 refine tbx rfl fun b3=>?_;iterate 2 refine u ?_
 refine zK 22 mixed rfl rfl ?_;repeat refine u ?_
 refine d1 (oba rfl rfl rfl) ?_;repeat refine u ?_
 refine lp (σ:=Nat) [26] (fun i=>[(27,True,zJ i)]) (fun i=>[.blk b3 39 [rtc n p.1,rtc n p.2],.blk b 41 (bxG n lx ly hx hy p i)]) (fun i=>i≤2) (fun i=>2-i) (0) ((by omega)) fun i hJ Y _=>?_;have hi:i=0∨i=1∨i=2:=by omega
 rcases hi with rfl | rfl | rfl
 ·dsimp only[bxG];repeat refine u ?_
  refine tp (fun c0=>?_) fun c0=>(by omega);repeat refine u ?_
  refine zA1 (oivA (j:=0) rfl rfl underlying305 rfl rfl rfl (fun _=>rfl)) (u fun b5=>?_);refine zD 0 rfl rfl (zO (zY (s:=5) 0 rfl rfl) ?_);iterate 3 refine u ?_
  refine zK 10 mixed rfl rfl ?_;repeat refine u ?_
  refine d1 (zG 0 rfl) ?_;repeat refine u ?_
  refine d1 (zG 1 rfl) (zC rfl rfl (gB (by omega) (by omega)) ?_);repeat refine u ?_
  refine tp (fun c1=>?_) fun c1=>?_;refine zK 7 mixed rfl rfl ?_;repeat refine u ?_
  refine d1 (zG 0 rfl) ?_;repeat refine u ?_
  refine zD 1 rfl rfl ?_;iterate 2 refine u ?_
  refine zK 10 mixed rfl rfl ?_;repeat refine u ?_
  refine d1 (zG 0 rfl) ?_;repeat refine u ?_
  refine d1 (zG 1 rfl) (zC rfl rfl (gB (by omega) (by omega)) ?_);repeat refine u ?_
  refine tp (fun c2=>?_) fun c2=>?_;refine zK 7 mixed rfl rfl ?_;repeat refine u ?_
  refine d1 (zG 0 rfl) ?_;repeat refine u ?_
  refine zD 1 rfl rfl ?_;repeat refine u ?_
  rotate_left;repeat refine u ?_
  rotate_left;iterate 2 refine u ?_
  refine zK 10 mixed rfl rfl ?_;repeat refine u ?_
  refine d1 (zG 0 rfl) ?_;repeat refine u ?_
  refine d1 (zG 1 rfl) (zC rfl rfl (gB (by omega) (by omega)) ?_);repeat refine u ?_
  refine tp (fun c3=>?_) fun c3=>?_;refine zK 7 mixed rfl rfl ?_;repeat refine u ?_
  refine d1 (zG 0 rfl) ?_;repeat refine u ?_
  refine zD 1 rfl rfl ?_;repeat refine u ?_
  rotate_left;repeat refine u ?_
  rotate_left
  ·refine⟨1,tes ?_ ?_ ?_,(by omega),(by omega)⟩;refine zA rfl tn;refine zA rfl tn;rw[if_pos (yO.1 c1),if_pos (gC.1 c2)];exact zaa _
  ·refine nxt 1 (by omega) (hS:=?_);rw[if_pos (yO.1 c1),if_neg (mt gC.2 c2)];exact zaa _
  ·refine nxt 1 (by omega) (hS:=?_);rw[if_neg (mt yO.2 c1),if_pos (gC.1 c3)];exact zaa _
  ·refine nxt 1 (by omega) (hS:=?_);rw[if_neg (mt yO.2 c1),if_neg (mt gC.2 c3)];exact zaa _
 ·dsimp only[bxG];repeat refine u ?_
  refine tp (fun c0=>?_) fun c0=>(by omega);repeat refine u ?_
  refine zA1 (oivA (j:=1) rfl rfl underlying305 rfl rfl rfl (fun _=>rfl)) (u fun b5=>?_);refine zD 0 rfl rfl (zO (zY (s:=5) 0 rfl rfl) ?_);iterate 3 refine u ?_
  refine zK 10 mixed rfl rfl ?_;repeat refine u ?_
  refine d1 (zG 0 rfl) ?_;repeat refine u ?_
  refine d1 (zG 1 rfl) (zC rfl rfl (gB (by omega) (by omega)) ?_);repeat refine u ?_
  refine tp (fun c1=>?_) fun c1=>?_;refine zK 7 mixed rfl rfl ?_;repeat refine u ?_
  refine d1 (zG 0 rfl) ?_;repeat refine u ?_
  refine zD 1 rfl rfl ?_;iterate 2 refine u ?_
  refine zK 10 mixed rfl rfl ?_;repeat refine u ?_
  refine d1 (zG 0 rfl) ?_;repeat refine u ?_
  refine d1 (zG 1 rfl) (zC rfl rfl (gB (by omega) (by omega)) ?_);repeat refine u ?_
  refine tp (fun c2=>?_) fun c2=>?_;refine zK 7 mixed rfl rfl ?_;repeat refine u ?_
  refine d1 (zG 0 rfl) ?_;repeat refine u ?_
  refine zD 1 rfl rfl ?_;repeat refine u ?_
  rotate_left;repeat refine u ?_
  rotate_left;iterate 2 refine u ?_
  refine zK 10 mixed rfl rfl ?_;repeat refine u ?_
  refine d1 (zG 0 rfl) ?_;repeat refine u ?_
  refine d1 (zG 1 rfl) (zC rfl rfl (gB (by omega) (by omega)) ?_);repeat refine u ?_
  refine tp (fun c3=>?_) fun c3=>?_;refine zK 7 mixed rfl rfl ?_;repeat refine u ?_
  refine d1 (zG 0 rfl) ?_;repeat refine u ?_
  refine zD 1 rfl rfl ?_;repeat refine u ?_
  rotate_left;repeat refine u ?_
  rotate_left
  ·refine⟨2,tes ?_ ?_ ?_,(by omega),(by omega)⟩;refine zA rfl tn;refine zA rfl tn;rw[if_pos (yO.1 c1),if_pos (gC.1 c2)];exact zaa _
  ·refine nxt 2 (by omega) (hS:=?_);rw[if_pos (yO.1 c1),if_neg (mt gC.2 c2)];exact zaa _
  ·refine nxt 2 (by omega) (hS:=?_);rw[if_neg (mt yO.2 c1),if_pos (gC.1 c3)];exact zaa _
  ·refine nxt 2 (by omega) (hS:=?_);rw[if_neg (mt yO.2 c1),if_neg (mt gC.2 c3)];exact zaa _
 ·dsimp only[bxG];repeat refine u ?_
  refine tp (fun c0=>(by omega)) fun c0=>?_;repeat refine u ?_
  exact⟨[],tu [],_,rs0,List.sublist_cons_self _ _,⟨rfl,rfl⟩,mQ⟩
theorem kgrowb {b:Nat}{x:BX}{p:P2}{n:Nat}(hn:n≤40000):CTo prog 269 [zU b 0,ag (ptc n p)] [.blk b 41 [rtc n x.1.1,rtc n x.1.2,rtc n x.2.1,rtc n x.2.2]] (fun r So=>r=tu []∧So=[.blk b 41 [rtc n (boxS x p).1.1,rtc n (boxS x p).1.2,rtc n (boxS x p).2.1,rtc n (boxS x p).2.2]]):=kgrowB hn
theorem kbox {l:List P2}{n:Nat}(hn:n≤300)(hl:l.length≤100000):CTy prog 196 [sv (sl 6 (l.map (ptc n)))] (tu [ag (st [ptc (n+2) (boxF l).1,ptc (n+2) (boxF l).2]),exP (.bool (decide (l≠[])))]):=by
 refine fw [.cell 2 41,.tmp 3] func196 fun X=>?_;iterate 2 refine u ?_
 refine u fun b2=>?_;repeat refine u ?_
 refine zB rfl rfl (fY (n:=n) (by omega) (by omega)) ?_;repeat refine u ?_
 refine tp (fun c0=>?_) fun c0=>?_;repeat refine u ?_
 refine zB rfl rfl (kvof (by(simp;done)) (by(simp;done))) ?_;refine zB rfl rfl (kvof (by(simp;done)) (by(simp;done))) ?_;repeat refine u ?_
 refine zD 0 rfl rfl ?_;repeat refine u ?_
 refine⟨[_,_],zL 0 rfl (rst rfl rs0),cR ?_ ?_⟩;rotate_left;refine psb ?_;rotate_left;iterate 2 refine u ?_
 refine zK 7 mixed rfl rfl ?_;repeat refine u ?_
 refine zD 0 rfl rfl ?_;repeat refine u ?_
 refine zD 0 rfl rfl ?_;repeat refine u ?_
 rotate_left
 ·have h:=c0;rw[zcv.1 (show l.length=0 by omega)];exact fun M w v ⟨us,e,x,y,e1,k1,x2,y2,e2,k2,k3⟩=>⟨us,e,x,y,e1,bT (by omega) k1,x2,y2,e2,bT (by omega) k2,k3⟩
 ·rw[zcv.1 (show l.length=0 by omega)];rfl
 refine t_ts (jP (cs':=[rtc (n+1) (gp l 0).1,rtc (n+1) (gp l 0).2,rtc (n+1) (gp l 0).1,rtc (n+1) (gp l 0).2]) 0 rfl box4) ?_;have step:∀ i,i<l.length→(l.take (i+1)).foldl boxS (gp l 0,gp l 0)=boxS ((l.take i).foldl boxS (gp l 0,gp l 0)) (gp l i):=fun i hi=>by
  rw[(zT (Df.d:P2) hi).1,List.foldl_append];rfl
 refine lp (σ:=Nat×BX) [2,3,22,23] (fun s=>[(24,True,zJ s.1)]) (fun s=>[.blk b2 41 [rtc (n+1) s.2.1.1,rtc (n+1) s.2.1.2,rtc (n+1) s.2.2.1,rtc (n+1) s.2.2.2]]) (fun s=>s.1≤l.length∧s.2=(l.take s.1).foldl boxS (gp l 0,gp l 0)) (fun s=>l.length-s.1) ((0,(gp l 0,gp l 0))) ((by simp)) fun s hJ Y _=>?_;obtain⟨i,b⟩:=s;dsimp only at hJ ⊢;obtain⟨hi,hb⟩:=hJ;repeat refine u ?_
 refine tp (fun c1=>?_) fun c1=>?_;iterate 7 refine u ?_
 refine u fun b5=>?_;refine zD 0 rfl rfl (zO (zY (s:=5) 0 rfl rfl) ?_);repeat refine u ?_
 refine tcoR [0] rfl rfl rfl (kgrowb (x:=b) (p:=l.getD i Df.d) (n:=n+1) (by omega)) ?_;repeat refine u ?_
 rotate_left;rotate_left
 ·refine⟨(i+1,boxS b (l.getD i Df.d)),tes ?_ ?_ (zaa _),?_,(by omega)⟩;refine zA rfl tn;refine zA rfl (zA rfl (zA rfl (zA rfl tn)));exact⟨by simp only;omega,by rw[step i (by omega),hb];rfl⟩
 ·have e:boxF l=b:=by rw[hb,zaz (by omega)];rfl
  refine t_ts (jP (cs':=[st [ptc (n+1) b.1,ptc (n+1) b.2]]) 0 rfl box41) ?_;repeat refine u ?_
  refine zA1 (zG 0 rfl) ?_;refine zD 0 rfl rfl ?_;repeat refine u ?_
  refine⟨[_,_],zL 0 rfl (rst rfl rs0),cR ?_ ?_⟩;rotate_left;refine psb ?_;rotate_left
  ·rw[e];exact fun M w v ⟨us,e,x,y,e1,k1,x2,y2,e2,k2,k3⟩=>⟨us,e,x,y,e1,bT (by omega) k1,x2,y2,e2,bT (by omega) k2,k3⟩
  ·symm;rw[decide_eq_true_eq];exact fun c=>c0 (by rw[c];rfl)
theorem kframe {ls:zF}{n:Nat}(hn:n≤200)(hl:ls.length≤100)(h9:ls.flatten.length≤100000):CTy prog 122 [sv (sl 1 (ls.map (pcc n)))] (ag (st [ptc (2*n+10) (zQ ls).1,ptc (2*n+10) (zQ ls).2])):=by
 refine fw [.cell 2 41] func122 fun X=>?_;iterate 2 refine u ?_
 refine u fun b2=>?_;repeat refine u ?_
 refine zB rfl rfl (zX6 (n:=n) (by omega) (by omega)) ?_;refine zB rfl rfl (kbox (n:=n) (by omega) (by omega)) ?_;iterate 3 refine u ?_
 refine u fun b3=>?_;refine zD 0 rfl rfl (zO (zY (s:=3) 0 rfl rfl) ?_);repeat refine u ?_
 refine zB rfl rfl (kvof (by(simp;done)) (by(simp;done))) ?_;refine u fun b5=>?_;refine zD 0 rfl rfl (zO (zY (s:=5) 0 rfl rfl) ?_);iterate 2 refine u ?_
 refine zK 9 mixed rfl rfl ?_;repeat refine u ?_
 refine zC rfl rfl (pF (by omega) (by omega)) ?_;repeat refine u ?_
 refine zC rfl rfl (yP7 (by omega) (by omega)) ?_;repeat refine u ?_
 refine zD 0 rfl rfl ?_;repeat refine u ?_
 refine⟨[_],zL 0 rfl rs0,yD ?_⟩;rw[zcl,zcl];exact fun M w v ⟨us,e,x,y,e1,k1,x2,y2,e2,k2,k3⟩=>⟨us,e,x,y,e1,bT (p:=(zQ ls).1) (m:=n+2+2+3) (by omega) k1,x2,y2,e2,bT (p:=(zQ ls).2) (m:=n+2+2+3) (by omega) k2,k3⟩
theorem kframeQ {ls:zF}(h:Prt ls)(h9:ls.flatten.length≤100000):CTy prog 122 [sv (sl 1 (ls.map (pcc 1)))] (ag (bxc 1 (zQ ls))):=jX (kframe (n:=1) (by omega) (by have:=h.1;omega) h9) (yL7 h.br)
def clN (k:Nat):Nat:=if k=0 then 1 else if k=3 then 4 else 2
theorem cls_len {ls:zF}{c j:Nat}(h:inC ls c j):(clsM (modM ls) (2*(c%2)+j%2) (c/2) (j/2)).length=clN (2*(c%2)+j%2):=by
 obtain⟨hc,hj⟩:=h;have hd3:(Df.d:List Rat)=[]:=rfl;have hd4:(Df.d:List P2)=[]:=rfl;have hX:(modM ls).xs=xsM ls:=rfl;unfold clsM;rcases zbD c with mc | mc
 ·have hi:c/2<(xsM ls).length:=by omega
  have e1:(modM ls).wl.getD (c/2) Df.d=wlM ls (c/2):=by rw[hd3];exact nW hi
  have e2:(modM ls).wl.length=(xsM ls).length:=mW ls;have hy:ynM ls c=(wlM ls (c/2)).length:=by unfold ynM;rw[if_pos mc]
  rw[if_pos (by omega),e1,hX,if_pos ⟨hi,by omega,by omega⟩,mc];rcases zbD j with mj | mj
  ·rw[mj];rfl
  ·rw[mj];rfl
 ·have hi:c/2+1<(xsM ls).length:=by omega
  have e1:(modM ls).lv.getD (c/2) Df.d=lvM ls (c/2):=by rw[hd4];exact cC hi
  have e2:(modM ls).lv.length=(xsM ls).length-1:=iQ ls;have hy:ynM ls c=(lvM ls (c/2)).length:=by unfold ynM;rw[if_neg (by omega)]
  rw[if_neg (by omega),e1,hX,if_pos ⟨by omega,hi,by omega⟩,mc];rcases zbD j with mj | mj
  ·rw[mj];rfl
  ·rw[mj];rfl
section
variable {ls : zF} (hls : ∀ l ∈ ls, ∃ m, l = hullF m)
theorem num_own {c j:Nat}(hc:inC ls c j):numZ (modM ls).cs ((cellC ls c j).1:Nat) ((cellC ls c j).2.1:Nat) ((cellC ls c j).2.2.1:Nat) ((offC ls c+j:Nat):Int):=by
 refine .inr ⟨offC ls c+j,rfl,yL5 hc,?_,fun b hb=>?_⟩
 ·rw[show (modM ls).cs.getD (offC ls c+j) Df.d=cellC ls c j from wF hc];unfold isCl;simp
 ·obtain⟨d,k,h2,rfl,e⟩:=nP (ls:=ls) (a:=b) (by have:=yL5 hc;omega);rw[show (modM ls).cs.getD (offC ls d+k) Df.d=cellC ls d k from e,Bool.eq_false_iff];intro he;unfold isCl cellC at he;simp only[zaq,decide_eq_true_eq] at he;obtain⟨⟨h3,h4⟩,h5⟩:=he;have:c=d:=by omega
  subst this;have:j=k:=by omega
  subst this;omega
include hls
end
theorem zW5 {Ψ Φ:PV}{p q:Rat}{n m:Nat}[h:QR Ψ n p][k:QR Φ m q](hn:n≤40000)(hm:m≤40000):CTy prog 137 [Ψ,Φ] (exP (.bool (decide (cmpR p q=0)))):=by
 rw[decide_eq_decide.2 (xC (p:=p) (q:=q))];exact pH hn hm
theorem wcompactS {v:Value}{l:List Rat}{m:Nat}(hm:m≤30000)(hl:l.length≤100000):CTo prog 205 [exP v,exP (.func (.func 137) #[] #[])] [.row v 29 3 (l.map (rtc m))] (fun ρ So=>∃ v',ρ=exP v'∧So=[.row v' 29 3 ((jE eqR 0 l l.length).map (rtc m))]):=by
 refine fwo [.tmp 4] func205 fun X=>?_;repeat refine u ?_
 refine ti (fun c0=>?_) fun c0=>?_;repeat refine u ?_
 rotate_left;repeat refine u ?_
 rotate_left
 ·have h2:=dt c0;exact⟨[_],exP v,_,rst rfl rs0,zaa _,⟨v,rfl,by rw[jU (zab _) fun i h1 h3=>by omega,zaF]⟩,yD (PSub.refl _)⟩
 have h2:=df c0;refine lp (σ:=Nat) [0,1] (fun s=>[(5,True,zJ s)]) (fun s=>[.row v 29 3 (l.map (rtc m))]) (fun s=>1≤s∧s≤l.length∧∀ i,0<i→i<s→eqR (l.getD i 0) (l.getD (i-1) 0)=false) (fun s=>l.length-s) (1) (⟨by omega,by omega,fun i h1 h3=>by omega⟩) fun s hJ Y _=>?_;obtain⟨j1,j2,j3⟩:=hJ;repeat refine u ?_
 refine ti (fun c1=>?_) fun c1=>?_;iterate 4 refine u ?_
 refine zK 11 mixed rfl rfl ?_;repeat refine u ?_
 refine d1 (oixo 0 _ rfl rfl rfl (fun _=>rfl) (fun _=>(by(have e0:=dt c1;simp;omega)))) ?_;refine d1 (oldr 0 rfl rfl (fun _=>(by(have e0:=dt c1;simp;omega))) rfl) ?_;iterate 3 refine u ?_
 refine d1 (oixo 0 (s-1) rfl rfl rfl (fun _=>(by omega)) (fun _=>(by(simp;omega)))) ?_;repeat refine u ?_
 refine zC rfl rfl (zW5 (by omega) (by omega)) ?_;repeat refine u ?_
 refine ti (fun c2=>?_) fun c2=>?_;repeat refine u ?_
 refine zA1 (osv 0 _ rfl rfl rfl (fun _=>rfl) (fun _=>(by(have e0:=df c0;have e1:=dt c1;have e2:=dt c2;simp;omega)))) ?_;repeat refine u ?_
 rotate_left;repeat refine u ?_
 rotate_left;repeat refine u ?_
 rotate_left
 ·have h3:=dt c1;refine yZ (σ:=Nat×Nat×List Rat) (fun t=>[(5,True,zJ t.1),(7,True,zJ t.2.1)]) (fun t=>[.row v 29 3 (t.2.2.map (rtc m))]) (fun t=>1≤t.2.1∧s+t.2.1≤l.length∧s≤t.1∧t.1<s+t.2.1∧t.2.2.length=l.length∧t.2.2.take t.1=jE eqR 0 l (s+t.2.1)∧∀ i,s+t.2.1≤i+1→t.2.2.getD i 0=l.getD i 0) (fun t=>l.length-t.2.1) ((s,1,l)) (tk 0 rfl (tk 1 rfl (tk 6 rfl tn))) ?_ rfl (⟨by simp,by simp only;omega,by simp,by simp,rfl,cH (l:=l) (s:=s) (by omega) (by omega) j3 c2.h,fun _ _=>rfl⟩) (fun t hJ Y _=>?_);refine zA rfl (zA rfl tn);obtain⟨kk,m',l2⟩:=t;dsimp only at hJ ⊢;obtain⟨j4,j5,j6,j7,j8,j9,j10⟩:=hJ;repeat refine u ?_
  refine zA1 (olv 0 rfl rfl) ?_;repeat refine u ?_
  refine ti (fun c3=>?_) fun c3=>?_;iterate 4 refine u ?_
  refine zK 12 mixed rfl rfl ?_;repeat refine u ?_
  refine d1 (oixv 0 m' rfl rfl rfl (fun _=>(by omega)) (fun _=>(by(have e0:=dt c3;omega)))) ?_;refine d1 (oldr 0 rfl rfl (fun _=>(by(have e0:=dt c3;omega))) rfl) ?_;repeat refine u ?_
  refine d1 (oixv 0 (m'-1) rfl rfl rfl (fun _=>(by omega)) (fun _=>(by(simp;omega)))) ?_;repeat refine u ?_
  refine zC rfl rfl (zW5 (by omega) (by omega)) ?_;repeat refine u ?_
  refine ti (fun c4=>?_) fun c4=>?_;repeat refine u ?_
  refine zA1 (oixv 0 m' rfl rfl rfl (fun _=>(by omega)) (fun _=>(by(have e0:=dt c3;omega)))) ?_;refine zA1 (oldr 0 rfl rfl (fun _=>(by(have e0:=dt c3;omega))) rfl) ?_;repeat refine u ?_
  rotate_left;repeat refine u ?_
  rotate_left;repeat refine u ?_
  refine zA1 (osv 0 _ rfl rfl rfl (fun _=>rfl) (fun _=>(by(simp;omega)))) ?_;refine tclr 0 rfl rfl (by(simp;omega)) ?_;repeat refine u ?_
  refine tsh 0 _ rfl rfl rfl rfl (by(simp;omega)) fun r64=>?_;repeat refine u ?_
  rotate_left
  ·have h5:m'<l2.length-s:=by have:=dt c3;simp at this;omega
   have hd:l2.getD (s+m') 0=l.getD (s+m') 0:=j10 _ (by omega);have hd2:l2.getD (s+(m'-1)) 0=l.getD (s+m'-1) 0:=by rw[show s+(m'-1)=s+m'-1 by omega];exact j10 _ (by omega)
   have hc:¬ eqR (l.getD (s+m') 0) (l.getD (s+m'-1) 0)=true:=by rw[← hd,← hd2,Bool.not_eq_true];exact(zct _) ▸ c4.h
   refine⟨(kk+1,m'+1,l2.set kk (l2.getD (s+m') 0)),tes ?_ ?_ (zaa _),?_,(by(simp;omega))⟩;refine zA rfl (zA rfl tn);refine zA rfl (zA rfl (zA rfl tn))
   ·refine⟨by simp,by simp only;omega,by simp only;omega,by simp only;omega,by simp[j8],?_,fun i hi=>?_⟩
    ·simp only[← zaO];rw[hd];exact fE (by omega) j9 hc
    ·simp only at hi ⊢; rw[kK (by omega)];exact j10 i (by omega)
  ·have h5:m'<l2.length-s:=by have:=dt c3;simp at this;omega
   have hd:l2.getD (s+m') 0=l.getD (s+m') 0:=j10 _ (by omega);have hd2:l2.getD (s+(m'-1)) 0=l.getD (s+m'-1) 0:=by rw[show s+(m'-1)=s+m'-1 by omega];exact j10 _ (by omega)
   have hc:eqR (l.getD (s+m') 0) (l.getD (s+m'-1) 0)=true:=by rw[← hd,← hd2];exact(Bool.not_eq_false' _) ▸ c4.h
   refine⟨(kk,m'+1,l2),tes ?_ ?_ (zaa _),?_,(by(simp;omega))⟩;refine zA rfl (zA rfl tn);refine zA rfl (zA rfl (zA rfl tn));exact⟨by simp,by simp only;omega,j6,by simp only;omega,j8,by simp only[← zaO];exact cG (by omega) j9 hc,fun i hi=>j10 i (by simp only at hi;omega)⟩
  ·have h5:¬ m'<l2.length-s:=by have:=df c3;simp at this;omega
   have e:s+m'=l.length:=by omega
   refine⟨[_],exP r64,_,rst rfl rs0,zaa _,⟨r64,rfl,?_⟩,yD (PSub.refl _)⟩;rw[← e,← j9];simp[zcx,zaS (show kk≤l2.length by omega)]
 ·have h3:=dt c1;refine⟨s+1,tes ?_ ?_ (zaa _),?_,(by omega)⟩;refine zA rfl tn;refine zA rfl (zA rfl tn);refine⟨by omega,by omega,fun i h1 h4=>?_⟩;rcases zaf i s with h | h
  ·exact j3 i h1 h
  ·obtain rfl:i=s:=by omega
   exact c2.h
 ·have h3:=df c1;exact⟨[_],exP v,_,rst rfl rs0,zaa _,⟨v,rfl,by rw[jU (zab _) fun i h1 h4=>j3 i h1 (by omega),zaF]⟩,yD (PSub.refl _)⟩
theorem kswalls {ls:zF}{b:BX}{xs:List Rat}{lvs:zF}{m N:Nat}(hm:m≤300)(hN:N≤300)(hxl:xs.length≤10000)(hls:ls.length≤1000)(hfl:ls.flatten.length≤10000)(hL:∀ i,i<xs.length→(jY ls b xs lvs i).length≤20000)(hr:∀ i,i<xs.length→∀ y∈jY ls b xs lvs i,rlen y N):CTy prog 124 [sv (sl 1 (ls.map (pcc N))),ag (bxc N b),sv (sl 3 (xs.map (rtc m))),sv (sl 1 (lvs.map (pcc N)))] (sv (sl 1 (((List.range xs.length).map fun i=>setOf cmpR (jY ls b xs lvs i)).map fun l=>sl 3 (l.map (rtc N))))):=by
 refine fw [.tmp 8] func124 fun X=>?_;repeat refine u ?_
 refine t_ts (jG 43 1) ?_;refine lp (σ:=Nat×Value) [0,3,5,8,20,21] (fun s=>[(9,True,exP s.2),(22,True,zJ s.1)]) (fun s=>[.row s.2 43 1 (((List.range s.1).map fun i=>setOf cmpR (jY ls b xs lvs i)).map fun l=>sl 3 (l.map (rtc N)))]) (fun s=>s.1≤xs.length) (fun s=>xs.length-s.1) ((0,.slice none 0 0)) ((by simp)) fun s hJ Y _=>?_;obtain⟨i,v⟩:=s;dsimp only at hJ ⊢;have hwa:0<i∧i-1<lvs.length∨gX lvs i=[]:=by
  unfold gX;by_cases h:0<i
  ·by_cases h2:i-1<lvs.length
   ·exact .inl ⟨h,h2⟩
   ·right;rw[if_pos h,zah,zcH (by omega)];rfl
  ·right;rw[if_neg h]
 repeat refine u ?_
 refine tp (fun c0=>?_) fun c0=>?_;iterate 8 refine u ?_
 refine u fun b11=>?_;iterate 2 refine u ?_
 refine zO (zY (s:=11) 0 rfl rfl) ?_;iterate 9 refine u ?_
 refine tbs rfl rfl rfl rfl rfl rfl fun r33=>?_;rotate_left;rotate_left
 ·refine zA1 (oas rfl) (zA0 (zR (zO6 (σ:=Value) (fun v2=>[(12,True,exP v2)]) (fun v2=>[.row v2 29 3 (([b.1.2,b.2.2]++gX lvs i).map (rtc N)),.row v 43 1 (((List.range i).map fun i=>setOf cmpR (jY ls b xs lvs i)).map fun l=>sl 3 (l.map (rtc N)))]) (fun _=>True) (tk 0 rfl (tk 3 rfl (tk 5 rfl (tk 8 rfl (tk 9 rfl (tk 10 rfl (tk 11 rfl (tk 20 rfl (tk 21 rfl (tk 22 rfl tn)))))))))) (fun _=>?_) (fun v2 _ Y _=>?_))))
  ·repeat refine u ?_
   refine tp (fun c1=>?_) fun c1=>?_;iterate 5 refine u ?_
   refine zA1 (oix (i-1) rfl rfl rfl (fun g=>(by omega)) (fun g=>(by omega))) ?_;repeat refine u ?_
   rotate_left;repeat refine u ?_
   rotate_left
   ·have hlen:(gX lvs i).length=(lvs.getD (i-1) Df.d).length:=by
     rw[show gX lvs i=(lvs.getD (i-1) Df.d).map (·.2) from if_pos (by omega),zar]
    have hLi:=hL i (by omega);unfold jY at hLi;simp only[zal] at hLi;refine yZ (σ:=Nat×Value) (fun t=>[(12,True,exP t.2),(49,True,zJ t.1)]) (fun t=>[.row t.2 29 3 (([b.1.2,b.2.2]++(gX lvs i).take t.1).map (rtc N)),.row v 43 1 (((List.range i).map fun i=>setOf cmpR (jY ls b xs lvs i)).map fun l=>sl 3 (l.map (rtc N)))]) (fun t=>t.1≤(gX lvs i).length) (fun t=>(gX lvs i).length-t.1) ((0,r33)) (tk 0 rfl (tk 3 rfl (tk 5 rfl (tk 8 rfl (tk 9 rfl (tk 10 rfl (tk 11 rfl (tk 20 rfl (tk 21 rfl (tk 22 rfl (tk 47 rfl (tk 48 rfl tn)))))))))))) ?_ rfl ((by simp)) (fun t hJ Y _=>?_);refine zA rfl (zA rfl tn);obtain⟨k,v2⟩:=t;dsimp only at hJ ⊢;repeat refine u ?_
    refine tp (fun c2=>?_) fun c2=>?_;iterate 7 refine u ?_
    refine u fun b14=>?_;refine zD 0 rfl rfl (zO (zY (s:=14) 0 rfl rfl) ?_);repeat refine u ?_
    refine tap 0 rfl rfl rfl (by(simp;omega)) rfl fun r57=>?_;repeat refine u ?_
    rotate_left;repeat refine u ?_
    rotate_left
    ·refine⟨(k+1,r57),tes ?_ ?_ ?_,(by omega),(by omega)⟩;refine zA rfl (zA rfl tn);refine zA rfl (zA rfl (zA rfl (zA rfl (zA rfl (zA rfl (zA rfl (zA rfl (zA rfl (zA rfl ?_)))))))));refine zA rfl (zA rfl tn);rw[(wallA_at (show 0<i by omega) (by omega)).2.1,← zaA,zay];exact zaa _
    ·refine⟨v2,tes ?_ ?_ ?_,(by(simp;done))⟩;refine zA rfl tn;refine zA rfl (zA rfl (zA rfl (zA rfl (zA rfl (zA rfl (zA rfl (zA rfl (zA rfl (zA rfl ?_)))))))));refine tn;rw[zaz (show (gX lvs i).length≤k by omega)];exact zaa _
   ·refine⟨r33,tes ?_ ?_ ?_,(by(simp;done))⟩;refine zA rfl tn;refine zA rfl (zA rfl (zA rfl (zA rfl (zA rfl (zA rfl (zA rfl (zA rfl (zA rfl (zA rfl ?_)))))))));refine tn;rw[hwa.resolve_left fun h=>c1 ⟨by omega,by omega⟩,zas];exact zaa _
  ·refine zR (zO6 (σ:=Value) (fun v2=>[(12,True,exP v2)]) (fun v2=>[.row v2 29 3 (([b.1.2,b.2.2]++gX lvs i++kA lvs i).map (rtc N)),.row v 43 1 (((List.range i).map fun i=>setOf cmpR (jY ls b xs lvs i)).map fun l=>sl 3 (l.map (rtc N)))]) (fun _=>True) (tk 0 rfl (tk 3 rfl (tk 5 rfl (tk 8 rfl (tk 9 rfl (tk 10 rfl (tk 11 rfl (tk 20 rfl (tk 21 rfl (tk 22 rfl tn)))))))))) (fun _=>?_) (fun v2 _ Y _=>?_))
   ·repeat refine u ?_
    refine tp (fun c1=>?_) fun c1=>?_;repeat refine u ?_
    rotate_left;repeat refine u ?_
    rotate_left
    ·have hlen:(kA lvs i).length=(lvs.getD i Df.d).length:=zar _;have hLi:=hL i (by omega);unfold jY at hLi;simp only[zal] at hLi;refine yZ (σ:=Nat×Value) (fun t=>[(12,True,exP t.2),(68,True,zJ t.1)]) (fun t=>[.row t.2 29 3 (([b.1.2,b.2.2]++gX lvs i++(kA lvs i).take t.1).map (rtc N)),.row v 43 1 (((List.range i).map fun i=>setOf cmpR (jY ls b xs lvs i)).map fun l=>sl 3 (l.map (rtc N)))]) (fun t=>t.1≤(kA lvs i).length) (fun t=>(kA lvs i).length-t.1) ((0,v2)) (tk 0 rfl (tk 3 rfl (tk 5 rfl (tk 8 rfl (tk 9 rfl (tk 10 rfl (tk 11 rfl (tk 20 rfl (tk 21 rfl (tk 22 rfl (tk 66 rfl (tk 67 rfl tn)))))))))))) ?_ (by(simp;done)) ((by simp)) (fun t hJ Y _=>?_);refine zA rfl (zA rfl tn);obtain⟨k,v3⟩:=t;dsimp only at hJ ⊢;repeat refine u ?_
     refine tp (fun c2=>?_) fun c2=>?_;iterate 7 refine u ?_
     refine u fun b16=>?_;refine zD 0 rfl rfl (zO (zY (s:=16) 0 rfl rfl) ?_);repeat refine u ?_
     refine tap 0 rfl rfl rfl (by(simp;omega)) rfl fun r76=>?_;repeat refine u ?_
     rotate_left;repeat refine u ?_
     rotate_left
     ·refine⟨(k+1,r76),tes ?_ ?_ ?_,(by omega),(by omega)⟩;refine zA rfl (zA rfl tn);refine zA rfl (zA rfl (zA rfl (zA rfl (zA rfl (zA rfl (zA rfl (zA rfl (zA rfl (zA rfl ?_)))))))));refine zA rfl (zA rfl tn);rw[(wallB_at (show k<(lvs.getD i Df.d).length by omega)).1,← zaA,zay];exact zaa _
     ·refine⟨v3,tes ?_ ?_ ?_,(by omega)⟩;refine zA rfl tn;refine zA rfl (zA rfl (zA rfl (zA rfl (zA rfl (zA rfl (zA rfl (zA rfl (zA rfl (zA rfl ?_)))))))));refine tn;rw[zaz (show (kA lvs i).length≤k by omega)];exact zaa _
    ·refine⟨v2,tes ?_ ?_ ?_,(by omega)⟩;refine zA rfl tn;refine zA rfl (zA rfl (zA rfl (zA rfl (zA rfl (zA rfl (zA rfl (zA rfl (zA rfl (zA rfl ?_)))))))));refine tn;have e:kA lvs i=[]:=by
      unfold kA;rw[List.getD_eq_getElem?_getD,List.getElem?_eq_none (by omega)];rfl
     rw[e,zas];exact zaa _
   ·repeat refine u ?_
    refine zB rfl rfl (zX6 (by omega) (by omega)) ?_;repeat refine u ?_
    have hLi:=hL i (by omega);have hw:jY ls b xs lvs i=[b.1.2,b.2.2]++gX lvs i++kA lvs i++atX (xs.getD i Df.d) ls.flatten:=rfl;rw[hw] at hLi;simp only[zal] at hLi;have hC:∀ k,(atX (xs.getD i Df.d) (ls.flatten.take k)).length≤(atX (xs.getD i Df.d) ls.flatten).length:=fun k=>by
     unfold atX;exact(((List.take_sublist _ _).filter _).map _).length_le
    generalize ls.flatten=F at *;refine yZ (σ:=Nat×Value) (fun t=>[(12,True,exP t.2),(81,True,zJ t.1)]) (fun t=>[.row t.2 29 3 (([b.1.2,b.2.2]++gX lvs i++kA lvs i++atX (xs.getD i Df.d) (F.take t.1)).map (rtc N)),.row v 43 1 (((List.range i).map fun i=>setOf cmpR (jY ls b xs lvs i)).map fun l=>sl 3 (l.map (rtc N)))]) (fun t=>t.1≤F.length) (fun t=>F.length-t.1) ((0,v2)) (tk 0 rfl (tk 3 rfl (tk 5 rfl (tk 8 rfl (tk 9 rfl (tk 11 rfl (tk 20 rfl (tk 21 rfl (tk 22 rfl (tk 79 rfl (tk 80 rfl tn))))))))))) ?_ ?_ ((by simp)) (fun t hJ Y _=>?_);refine zA rfl (zA rfl tn);rotate_left;rotate_left
    ·rw[List.take_zero,show atX (xs.getD i Df.d) []=[] from rfl,zas]
    obtain⟨k,v3⟩:=t;dsimp only at hJ ⊢;have hCk:=hC k;repeat refine u ?_
    refine tp (fun c1=>?_) fun c1=>?_;iterate 7 refine u ?_
    refine u fun b18=>?_;refine zD 0 rfl rfl (zO (zY (s:=18) 0 rfl rfl) ?_);repeat refine u ?_
    refine zB rfl rfl (pH (by omega) (by omega)) ?_;repeat refine u ?_
    refine tp (fun c2=>?_) fun c2=>?_;repeat refine u ?_
    refine tap 0 rfl rfl rfl ?_ rfl fun r93=>?_;rotate_left;repeat refine u ?_
    rotate_left;repeat refine u ?_
    rotate_left;repeat refine u ?_
    rotate_left
    ·rw[zar];simp only[zal,zaw,zbk];simp only[zaw,zbk] at hLi;omega
    ·refine⟨(k+1,r93),tes ?_ ?_ ?_,(by omega),(by omega)⟩;refine zA rfl (zA rfl tn);refine zA rfl (zA rfl (zA rfl (zA rfl (zA rfl (zA rfl (zA rfl (zA rfl (zA rfl (zA rfl ?_)))))))));refine zA rfl tn;rw[(zT (Df.d:P2) (l:=F) (s:=k) (by omega)).1,yA9,yA8,if_pos c2,← zaA,zay];exact zaa _
    ·refine⟨(k+1,v3),tes ?_ ?_ ?_,(by omega),(by omega)⟩;refine zA rfl (zA rfl tn);refine zA rfl (zA rfl (zA rfl (zA rfl (zA rfl (zA rfl (zA rfl (zA rfl (zA rfl (zA rfl ?_)))))))));refine zA rfl tn;rw[(zT (Df.d:P2) (l:=F) (s:=k) (by omega)).1,yA9,yA8,if_neg c2,zas];exact zaa _
    ·rw[zaz (show F.length≤k by omega),← hw];have hW:(jY ls b xs lvs i).length≤20000:=hL i (by omega);have hNm:∀ k,k<(jY ls b xs lvs i).length→CTy prog 160 [ag (rtc N ((jY ls b xs lvs i).getD k Df.d))] (ag (rtc N ((jY ls b xs lvs i).getD k Df.d))):=fun k hk=>jX (pI (by omega)) (rN rfl (hr i (by omega) _ (xL hk)));clear hw hLi hC hCk;refine yZ (σ:=Nat) (fun k=>[(97,True,zJ k)]) (fun k=>[.row v3 29 3 ((jY ls b xs lvs i).map (rtc N)),.row v 43 1 (((List.range i).map fun i=>setOf cmpR (jY ls b xs lvs i)).map fun l=>sl 3 (l.map (rtc N)))]) (fun k=>k≤(jY ls b xs lvs i).length) (fun k=>(jY ls b xs lvs i).length-k) (0) (tk 0 rfl (tk 3 rfl (tk 5 rfl (tk 8 rfl (tk 9 rfl (tk 12 rfl (tk 20 rfl (tk 21 rfl (tk 22 rfl (tk 96 rfl tn)))))))))) ?_ rfl ((by simp)) (fun k hJ Y _=>?_);refine zA rfl tn;repeat refine u ?_
     refine tp (fun c2=>?_) fun c2=>?_;repeat refine u ?_
     refine zB rfl rfl (hNm k (by omega)) ?_;repeat refine u ?_
     rotate_left;repeat refine u ?_
     rotate_left
     ·have e:∀ l:List Rat,k<l.length→l.set k (l.getD k Df.d)=l:=fun l h=>by
       rw[zah,zag h];simp
      refine⟨k+1,tes ?_ ?_ ?_,(by omega),(by omega)⟩;refine zA rfl tn;refine zA rfl (zA rfl (zA rfl (zA rfl (zA rfl (zA rfl (zA rfl (zA rfl (zA rfl (zA rfl ?_)))))))));refine tn;rw[e _ (by omega)];exact zaa _
     ·refine tco [0] rfl rfl rfl (yH2 (by omega) (by omega)) ?_;rintro _ _ ⟨rfl,l',hp,hso,rfl⟩;have hll:=hp.length_eq;repeat refine u ?_
      refine tco [0] rfl rfl rfl (wcompactS (by omega) (by omega)) ?_;rintro _ _ ⟨v4,rfl,rfl⟩;rw[show jE eqR 0 l' l'.length=setOf cmpR (jY ls b xs lvs i) from(bR uC hp hso).eq uC];refine zO (yV (s:=113) 0 rfl rfl) ?_;repeat refine u ?_
      refine tap 0 rfl rfl rfl (by(simp;omega)) rfl fun r115=>?_;repeat refine u ?_
      refine⟨(i+1,r115),tes ?_ ?_ ?_,(by omega),(by omega)⟩;refine zA rfl (zA rfl tn);refine zA rfl (zA rfl (zA rfl (zA rfl (zA rfl (zA rfl tn)))));rw[zbv,zay,zay];exact zaa _
 ·obtain rfl:i=xs.length:=by omega
  iterate 7 refine u ?_
  refine t_ts (yV (s:=8) 0 rfl rfl) ?_;repeat refine u ?_
  exact e
theorem kcolcell {N k a i n m:Nat}{x h:Rat}(hn:n≤20000)(hm:m≤20000)(h1:n+1≤N)(h2:m+1≤N):CTy prog 211 [exP (.int .i8 ((k:Nat):Int)),zJ i,ag (rtc m h),pa (xc (.int .i64 ((a:Nat):Int))),pa (rtc n x)] (ag (celT N (k,a,i,(x,h)))):=by
 refine fw [.cell 8 85] func211 fun X=>?_;iterate 3 refine u ?_
 refine u fun b8=>?_;iterate 2 refine u ?_
 refine zK 9 mixed rfl rfl ?_;repeat refine u ?_
 refine zC rfl rfl (fD (m:=N) (by omega) (by omega)) ?_;repeat refine u ?_
 refine zC rfl rfl (fD (m:=N) (by omega) (by omega)) ?_;repeat refine u ?_
 refine zD 0 rfl rfl ?_;repeat refine u ?_
 refine⟨[_],zL 0 rfl rs0,yD (PSub.refl _)⟩
theorem zX7 {k1 k2 a n m:Nat}{x:Rat}{ys:List Rat}:CTy prog 133 [exP (.int .i8 ((k1:Nat):Int)),exP (.int .i8 ((k2:Nat):Int)),zJ a,ag (rtc n x),sv (sl 3 (ys.map (rtc m)))] (fn 210 [pa (xc (.int .i64 ((a:Nat):Int))),pa (rtc n x),pa (sl 3 (ys.map (rtc m))),pa (xc (.int .i8 ((k1:Nat):Int))),pa (xc (.int .i8 ((k2:Nat):Int)))]):=by
 refine fw [.tmp 10] func133 fun X=>?_;repeat refine u ?_
 exact e
theorem kbetwAc {Ψ Φ:PV}{p q:Rat}{n m K:Nat}[h:QR Ψ n p][k:QR Φ m q](hn:n≤288)(hm:m≤288)(hK:2*(n+m)+64≤K):CTy prog 212 [Ψ,Φ] (tu [ag (rtc K (xM p q)),exP (.bool (decide (p<q)))]):=yI (kbetwA hn hm hK) (fs1 qr_q (fs1 qr_q fs0))
theorem sG {p q:Rat}{n m K:Nat}(hn:n≤200)(hp:rlen p m)(hq:rlen q m)(hK:3*m+1≤K)(h2:2≤K):CTy prog 134 [ag (rtc n p),ag (rtc n q)] (ag (rtc K (xM p q))):=by
 refine fw [.cell 4 29] func134 fun X=>?_;iterate 4 refine u ?_
 refine u fun b4=>?_;repeat refine u ?_
 refine zB rfl rfl (kbetwAc (K:=4*n+64) (by omega) (by omega) (by omega)) ?_;iterate 3 refine u ?_
 refine u fun b5=>?_;refine u ?_;refine zO (zY (s:=5) 0 rfl rfl) ?_;repeat refine u ?_
 refine tp (fun c0=>?_) fun c0=>?_;repeat refine u ?_
 refine zD 0 rfl rfl ?_;repeat refine u ?_
 refine⟨[_],zL 0 rfl rs0,yD ?_⟩;rotate_left;repeat refine u ?_
 refine zB rfl rfl (krof (k:=0) (K:=K) (by omega) (by omega)) ?_;refine zD 0 rfl rfl ?_;repeat refine u ?_
 refine⟨[_],zL 0 rfl rs0,yD ?_⟩;rotate_left
 ·exact rN rfl (zN (rP hp hq) hK)
 ·exact yO2 (by unfold xM;rw[if_neg c0];rfl) (Nat.le_refl _)
theorem col_e {N k a i:Nat}{x:Rat}{ys:List Rat}:PSub (ag (celT N (k,a,i,(x,ys.getD i Df.d)))) (ag (celT N (colC k a x ys (2*i)))):=by
 rw[show celT N (colC k a x ys (2*i))=celC N k a x ys (2*i) from rfl,celC_even];exact PSub.refl _
theorem col_o {N k a i:Nat}{x:Rat}{ys:List Rat}:PSub (ag (celT N (k+1,a,i,(x,xM (ys.getD i Df.d) (ys.getD (i+1) Df.d))))) (ag (celT N (colC k a x ys (2*i+1)))):=by
 rw[show celT N (colC k a x ys (2*i+1))=celC N k a x ys (2*i+1) from rfl,celC_odd];exact PSub.refl _
theorem zY2 {k a n m N:Nat}{x:Rat}{ys:List Rat}(hn:n≤200)(hm:m≤200)(hr:∀ y∈ys,rlen y m)(hN:n+1≤N)(hN2:3*m+2≤N)(hN3:3≤N)(hNb:N≤20000)(hl:ys.length≤100000):CIt prog 210 [pa (xc (.int .i64 ((a:Nat):Int))),pa (rtc n x),pa (sl 3 (ys.map (rtc m))),pa (xc (.int .i8 ((k:Nat):Int))),pa (xc (.int .i8 ((k+1:Nat):Int)))] (colL k a x ys) (fun c=>[ag (celT N c)]):=by
 unfold colL;have kc:=fun {k i h q}=>kcolcell (N:=N) (k:=k) (a:=a) (i:=i) (n:=n) (m:=q) (x:=x) (h:=h) (by omega);refine cit func210 rfl rfl rfl rfl rfl fun X y YS YX hY hS=>?_;repeat refine u ?_
 refine dI (σ:=Nat) (fun i=>[(13,True,zJ i)]) (fun i=>[]) (fun i Y=>YS ((List.range (min (2*i) (2*ys.length-1))).map (colC k a x ys)) Y∧i≤ys.length) (fun i=>ys.length-i) (0) (tk 0 rfl (tk 3 rfl (tk 4 rfl (tk 5 rfl (tk 7 rfl (tk 11 rfl (tk 12 rfl tn))))))) ?_ rfl (⟨hS,by omega⟩) (fun i Y hG=>?_);refine zA rfl tn;obtain⟨hS,hi⟩:=hG;repeat refine u ?_
 refine tp (fun c0=>?_) fun c0=>?_;iterate 8 refine u ?_
 refine u fun b9=>?_;iterate 2 refine u ?_
 refine zO (zY (s:=9) 0 rfl rfl) ?_;repeat refine u ?_
 refine zB rfl rfl (kc (by omega) (by omega) (by omega)) ?_;rotate_left;repeat refine u ?_
 rotate_left
 ·have e0:min (2*i) (2*ys.length-1)=2*i:=zaS (by omega);rw[e0] at hS;refine gM (x:=colC k a x ys (2*i)) hY hS (oK _ (show 2*i<2*ys.length-1 by omega)).choose_spec rfl rfl (fs1 col_e fs0) (fun Y hS=>?_) (fun Y hX=>?_)
  ·repeat refine u ?_
   refine gZ rfl rfl ?_;iterate 2 refine u ?_
   refine zK 18 mixed rfl rfl ?_;repeat refine u ?_
   refine d1g rfl rfl (oca rfl rfl fun g=>sG (n:=m) (m:=m) (K:=N-1) (by omega) ?_ ?_ (by omega) (by omega)) ?_;rotate_left;rotate_left;refine d1g rfl rfl (oca rfl rfl fun g=>kc (k:=k+1) (i:=i) (q:=N-1) (by omega) (by omega) (by omega)) ?_;repeat refine u ?_
   rotate_left
   ·exact hr _ (xL (by omega))
   ·exact hr _ (xL (by have:=of_decide_eq_true g.2;omega))
   rw[← dK] at hS;refine t_yieldm (x:=colC k a x ys (2*i+1)) hY hS rfl rfl (fun h=>(oK _ (show 2*i+1<2*ys.length-1 by have:=of_decide_eq_true h;omega))) rfl rfl (fs1 col_o fs0) (fun Y hS=>?_) (fun hg Y hX=>?_)
   ·repeat refine u ?_
    refine tp (fun c1=>?_) fun c1=>?_;repeat refine u ?_
    rotate_left;repeat refine u ?_
    rotate_left
    ·exact absurd rfl c1.2
    ·refine⟨i+1,tes ?_ ?_ (zaa _),?_,(by omega)⟩;refine zA rfl tn;refine zA rfl (zA rfl (zA rfl (zA rfl (zA rfl (zA rfl (zA rfl tn))))));refine⟨?_,by omega⟩;by_cases h:i+1<ys.length
     ·rw[zaS (by omega),show 2*(i+1)=2*i+1+1 by omega,dK];rwa [if_pos (decide_eq_true (by omega))] at hS
     ·rw[Nat.min_eq_right (by omega),show 2*ys.length-1=2*i+1 by omega];rwa [if_neg (by rw[decide_eq_true_eq];omega),zas] at hS
   ·repeat refine u ?_
    refine tp (fun c1=>?_) fun c1=>?_;repeat refine u ?_
    rotate_left;repeat refine u ?_
    rotate_left
    ·exact .inr hX
    ·exact absurd ⟨of_decide_eq_true hg,by decide⟩ c1
  ·repeat refine u ?_
   refine kD rfl rfl ?_;repeat refine u ?_
   exact .inr hX
 ·rw[show 2*ys.length-1=min (2*i) (2*ys.length-1) by omega];exact .inl hS
theorem yP0 {g:FuncId}{caps:List PV}{xs pre:List CL}{v:Value}{N:Nat}(it:CIt prog g caps xs (fun c=>[ag (celT N c)]))(hl:xs.length≤100000)(hp:pre.length≤100000000):CTo prog 132 [exP v,fn g caps] [.row v 85 9 (pre.map (celT N))] (fun r So=>∃ v,r=exP v∧So=[.row v 85 9 ((pre++xs).map (celT N))]):=by
 refine fwo [.tmp 4] func132 fun X=>?_;repeat refine u ?_
 refine yC5 0 rfl fun i2=>tbx (hc:=cts1) rfl fun b2=>?_;repeat refine u ?_
 refine jZ (σ:=List CL×Value) (fun t=>[.blk b2 63 [xc t.2],.row t.2 85 9 ((pre++t.1).map (celT N))]) (fun pr t=>t.1=pr) ([],v) rfl it (fun _=>rfl) rfl kR (by simp) rfl (fun pr x post t hx hJ Y y hl=>?_) (fun t hJ Y _=>?_)
 ·obtain⟨p1,v1⟩:=t;obtain rfl:p1=pr:=hJ;have h1:p1.length≤100000:=by have:=congrArg List.length hx;simp at this;omega
  refine u ?_;refine u fun b5=>?_;refine zD 0 rfl rfl (zO (zY (s:=5) 0 rfl rfl) ?_);repeat refine u ?_
  refine⟨rfl,fun Y hl=>?_⟩;repeat refine u ?_
  refine zA1 (zG 0 rfl) ?_;repeat refine u ?_
  refine tap 1 rfl rfl rfl (by(simp;omega)) rfl fun r11=>?_;refine tsw 0 1 rfl rfl rfl rfl rfl rfl rfl ?_;repeat refine u ?_
  refine⟨(p1++[x],r11),(by(simp;done)),rfl⟩
 ·obtain⟨_,v1⟩:=t;obtain rfl:_=xs:=hJ;repeat refine u ?_
  exact⟨[_],exP v1,_,rst rfl rs0,List.singleton_sublist.2 (by simp),⟨v1,rfl,rfl⟩,yD (PSub.refl _)⟩
theorem zW7 {K n m q N:Nat}{b:BX}{xs:List Rat}{lv:zF}{wl:List (List Rat)}{c5:CT}(hn:n≤65)(hm:m≤65)(hq:q≤65)(hx:∀ x∈xs,rlen x n)(hr:dN xs)(hw:∀ l∈wl,l.length≤1000∧∀ y∈l,rlen y m)(hl:∀ l∈lv,l.length≤1000)
  (hs:∀ i,i<lv.length→i+1<xs.length→∀ y∈hsL (xs.getD i 0) (xs.getD (i+1) 0) (xM (xs.getD i 0) (xs.getD (i+1) 0)) (lv.getD i []),rlen y m) (hN:3*m+2≤N) (hN2:3*n+3≤N) (hN3:3≤N) (hN4:N≤300) (hnm:n≤m) (hxl:xs.length≤10000) :
  CTy prog 59 [ag (st [bxc K b,sl 3 (xs.map (rtc n)),sl 1 (lv.map (pcc q)),sl 1 (wl.map fun l=>sl 3 (l.map (rtc m))),c5])] (sv (sl 9 ((cellsM xs lv wl).map (celT N)))):=by
 refine fw [.tmp 2] func59 fun X=>?_;repeat refine u ?_
 refine t_ts (jG 85 9) ?_;refine lp (σ:=Nat×Value) [1,7,8] (fun s=>[(2,True,exP s.2),(9,True,zJ s.1)]) (fun s=>[.row s.2 85 9 (((List.range s.1).map (cellsI xs lv wl)).flatten.map (celT N))]) (fun s=>s.1≤xs.length) (fun s=>xs.length-s.1) ((0,.slice none 0 0)) ((by simp)) fun s hJ Y _=>?_;obtain⟨i,v⟩:=s;dsimp only at hJ ⊢;have hA0:∀ i,i<wl.length→(colL 0 i (xs.getD i 0) (wl.getD i [])).length≤2000:=fun i h=>by
  have:=(hw _ (xL h)).1;unfold colL;rw[List.length_map,List.length_range];have e:(wl.getD i ([]:List Rat)).length≤1000:=this;omega
 have hB0:∀ i,i<lv.length→(colL 2 i (xM (xs.getD i 0) (xs.getD (i+1) 0)) (hsL (xs.getD i 0) (xs.getD (i+1) 0) (xM (xs.getD i 0) (xs.getD (i+1) 0)) (lv.getD i []))).length≤2000:=fun i h=>by
  have:=hl _ (xL h);unfold colL hsL;rw[List.length_map,List.length_range,List.length_map];have e:(lv.getD i ([]:List P2)).length≤1000:=this;omega
 have hC:(((List.range i).map (cellsI xs lv wl)).flatten).length≤i*4000:=by
  have:=vT (K:=4000) (L:=(List.range i).map (cellsI xs lv wl)) fun l hl'=>by
   obtain⟨j,_,rfl⟩:=zai.1 hl';unfold cellsI;rw[zal];split<;>split
   ·rename_i h1 h2;have:=hA0 j h1;have:=hB0 j h2.1;omega
   ·rename_i h1 h2;have:=hA0 j h1;rw[zbk];omega
   ·rename_i h1 h2;have:=hB0 j h2.1;rw[zbk];omega
   ·simp
  rwa [zar,zcD] at this
 repeat refine u ?_
 refine tp (fun c0=>?_) fun c0=>?_;iterate 8 refine u ?_
 refine u fun b4=>?_;refine u ?_;rotate_left;iterate 7 refine u ?_
 refine t_ts (yV (s:=2) 0 rfl rfl) ?_;repeat refine u ?_
 refine e ?_;rotate_left
 ·refine zD 0 rfl rfl ?_;refine zO (zY (s:=4) 0 rfl rfl) ?_;refine zA0 (zR (zO6 (σ:=Value) (fun v2=>[(2,True,exP v2)]) (fun v2=>[.row v2 85 9 ((((List.range i).map (cellsI xs lv wl)).flatten++(if i<wl.length then colL 0 i (xs.getD i 0) (wl.getD i []) else [])).map (celT N))]) (fun _=>True) (tk 1 rfl (tk 3 rfl (tk 4 rfl (tk 7 rfl (tk 8 rfl (tk 9 rfl tn)))))) (fun _=>?_) (fun v2 _ Y _=>?_)))
  ·repeat refine u ?_
   refine tp (fun c1=>?_) fun c1=>?_;refine zK 9 mixed rfl rfl ?_;repeat refine u ?_
   refine zC rfl rfl (zX7 (k1:=0) (k2:=1) (a:=i)) ?_;repeat refine u ?_
   rotate_left;repeat refine u ?_
   rotate_left
   ·have hA0i:=hA0 i (by omega);refine tco [0] rfl rfl rfl (yP0 (pre:=((List.range i).map (cellsI xs lv wl)).flatten) (zY2 (k:=0) (N:=N) (by omega) (by omega) (hw _ (xL (by omega))).2 (by omega) hN hN3 (by omega) (zac (hw _ (xL (by omega))).1 (by omega))) (zac hA0i (by omega)) (by omega)) ?_;rintro _ _ ⟨v3,rfl,rfl⟩;repeat refine u ?_
    refine⟨v3,tes ?_ ?_ ?_,(by(simp;done))⟩;refine zA rfl tn;refine zA rfl (zA rfl (zA rfl (zA rfl (zA rfl (zA rfl tn)))));rw[if_pos (by omega)];exact zaa _
   ·refine⟨v,tes ?_ ?_ (by(simp;omega)),(by(simp;done))⟩;refine zA rfl tn;refine zA rfl (zA rfl (zA rfl (zA rfl (zA rfl (zA rfl tn)))))
  ·have hK:i+1<xs.length→i<lv.length→CTy prog 30 [ag (rtc n (xs.getD i Df.d)),ag (rtc n (xs.getD (i+1) Df.d)),ag (rtc (3*n+2) (xM (xs.getD i Df.d) (xs.getD (i+1) Df.d))),sv (pcc q (lv.getD i Df.d))] (sv (sl 3 ((hsL (xs.getD i Df.d) (xs.getD (i+1) Df.d) (xM (xs.getD i Df.d) (xs.getD (i+1) Df.d)) (lv.getD i Df.d)).map (rtc m)))):=fun h1 h2 =>
    jX (klheights (by omega) (by omega) (by omega) (by omega) (hl _ (xL h2)) (hr i h1)) (zZ8 (f:=rtc _) (g:=rtc m) (fun y hy {M w us} ⟨s,b,d,e,g⟩=>⟨s,b,d,e,g.relen (hs i h2 h1 y hy)⟩) fun _=>rfl)
   repeat refine u ?_
   refine tp (fun c1=>?_) fun c1=>?_;refine u ?_;apply qU 1 10 9 [(8,5,0),(9,1000009,0)] rfl rfl mixed rfl rfl rfl;repeat refine u ?_
   refine cx1 (oca rfl rfl fun _=>sG (m:=n) (K:=3*n+2) (by omega) ?_ ?_ (by omega) (by omega)) rfl ?_;rotate_left;rotate_left;refine cN rfl rfl (cal) (cS rfl rfl rfl (cst rfl rfl rfl) ?_);refine cE (fun b5=>?_);refine fm ?_;refine u ?_;refine zO (zY (s:=5) 0 rfl rfl) ?_;refine u ?_;refine zK 18 mixed rfl rfl ?_;repeat refine u ?_
   refine d1 (ofa rfl rfl) ?_;repeat refine u ?_
   refine zC rfl rfl (hK (by omega) (by omega)) ?_;refine zC rfl rfl (zX7 (k1:=2) (k2:=3) (a:=i)) ?_;repeat refine u ?_
   rotate_left;repeat refine u ?_
   rotate_left
   ·exact hx _ (xL (by omega))
   ·exact hx _ (xL (by omega))
   ·have hB0i:=hB0 i (by omega);refine tco [0] rfl rfl rfl (yP0 (zY2 (k:=2) (N:=N) (by omega) (by omega) (hs i (by omega) (by omega)) (by omega) hN hN3 (by omega) (by rw[vS];exact zac (hl _ (xL (by omega))) (by omega))) (zac hB0i (by omega)) ?_) ?_
    ·have:=hA0 i;rw[zal];split
     ·have:=hA0 i (by omega);omega
     ·rw[zbk];omega
    rintro _ _ ⟨v3,rfl,rfl⟩;repeat refine u ?_
    refine zA1 (oad rfl rfl (by omega)) ?_;repeat refine u ?_
    refine⟨(i+1,v3),tes ?_ ?_ ?_,(by omega),(by omega)⟩;refine zA rfl (zA rfl tn);refine zA rfl (zA rfl (zA rfl tn));rw[pX,← zay,zaA,show cellsI xs lv wl i=_++_ from rfl,if_pos (c:=i<lv.length∧i+1<xs.length) ⟨by omega,by omega⟩];exact zaa _
   ·refine⟨(i+1,v2),tes ?_ ?_ ?_,(by omega),(by omega)⟩;refine zA rfl (zA rfl tn);refine zA rfl (zA rfl (zA rfl tn));rw[pX,← zay,show cellsI xs lv wl i=_++_ from rfl,if_neg (c:=i<lv.length∧i+1<xs.length) fun h=>c1 ⟨by omega,by omega⟩,zas];exact zaa _
 ·rw[show i=xs.length by omega];exact PSub.refl _
section
variable {ls : zF} (h : Prt ls)
include h
theorem kcallP:CTy prog 123 [sv (sl 1 (ls.map (pcc 1))),ag (bxc 1 (zQ ls))] (sv (sl 3 ((xsM ls).map (rtc 3)))) :=
 jX (yI (kcall (n:=1) (b:=zQ ls) (by omega) (by have:=h.1;omega) h.nine) (fs1 pcc_q (fs1 yS5 fs0))) (rts_up fun x hx=>iC h.fp h.bx hx)
theorem klallQ:CTy prog 22 [sv (sl 1 (ls.map (pcc 1))),ag (bxc 1 (zQ ls)),sv (sl 3 ((xsM ls).map (rtc 3)))] (sv (sl 1 ((lvsM ls).map (pcc 14)))):=by
 have k:=klallP h;have e:((List.range ((xsM ls).length-1)).map fun j=>sl 6 ((lvM ls j).map (ptc 14)))=(lvsM ls).map (pcc 14):=by unfold lvsM;rw[List.map_map];rfl
 rw[e] at k;exact k
theorem kswallsP:CTy prog 124 [sv (sl 1 (ls.map (pcc 1))),ag (bxc 1 (zQ ls)),sv (sl 3 ((xsM ls).map (rtc 3))),sv (sl 1 ((lvsM ls).map (pcc 14)))] (sv (sl 1 ((wlsM ls).map fun l=>sl 3 (l.map (rtc 14))))):=by
 have k:=kswalls (ls:=ls) (b:=zQ ls) (xs:=xsM ls) (lvs:=lvsM ls) (m:=3) (N:=14) (by omega) (by omega) (by have:=dB h;omega) (by have:=h.1;omega) (by have:=pV h;omega) (fun i hi=>by rw[oA hi];have:=zR1 h i;omega) fun i hi y hy=>by rw[oA hi] at hy;exact wl_r h hi hy
 have e:((List.range (xsM ls).length).map fun i=>setOf cmpR (jY ls (zQ ls) (xsM ls) (lvsM ls) i))=wlsM ls:=List.map_congr_left fun i hi=>by rw[oA (zbq.1 hi)];rfl
 rw[e] at k;exact yI k (fs1 (yF3 fun l hl q hq=>⟨zN (iX (h.fp l hl q hq)).x (by omega),zN (iX (h.fp l hl q hq)).y (by omega)⟩) (fs1 (yL7 ⟨⟨zN h.br.1.x (by omega),zN h.br.1.y (by omega)⟩,⟨zN h.br.2.x (by omega),zN h.br.2.y (by omega)⟩⟩) (fs1 (PSub.refl _) (fs1 (PSub.refl _) fs0))))
theorem kscellsP:CTy prog 59 [ag (st [bxc 1 (zQ ls),sl 3 ((xsM ls).map (rtc 3)),sl 1 ((lvsM ls).map (pcc 14)),sl 1 ((wlsM ls).map fun l=>sl 3 (l.map (rtc 14))),xc (.slice none 0 0)])] (sv (sl 9 ((celM ls).map (celT 65)))) :=
 yI (zW7 (n:=3) (m:=21) (q:=14) (N:=65) (b:=zQ ls) (c5:=xc (.slice none 0 0)) (by omega) (by omega) (by omega) (fun x hx=>iC h.fp h.bx hx) (aT ls) (fun l hl=>by
  obtain⟨i,hi,rfl⟩:=zai.1 hl;have hi:=zbq.1 hi;exact⟨by have:=eK h i;omega,fun y hy=>zN (wl_r h hi (yB7.1 hy)) (by omega)⟩) (fun l hl=>by
  obtain⟨i,hi,rfl⟩:=zai.1 hl;have:=aI h i;omega) (fun i hi hi2 y hy=>by rw[cC hi2] at hy;exact hs_r h hi2 hy) (by omega) (by omega) (by omega) (by omega) (by omega) (dB h)) (fs1 (fun M w v ⟨us,e,x1,y1,e1,h1,x2,y2,e2,h2,x3,y3,e3,h3,x4,y4,e4,h4,h5⟩=>⟨us,e,x1,y1,e1,h1,x2,y2,e2,h2,x3,y3,e3,h3,x4,y4,e4,yM4 (by omega) h4,h5⟩) fs0)
end
theorem zW8 {ls:zF}(h:Prt ls):CTy prog 52 [sv (sl 1 (ls.map (pcc 1)))] (ag (mdT 65 (modM ls))):=by
 have h9:=pV h;refine fw [.cell 2 65] func52 fun X=>?_;iterate 2 refine u ?_
 refine u fun b2=>?_;repeat refine u ?_
 refine zB rfl rfl (kframeQ h (by omega)) ?_;repeat refine u ?_
 refine zD 0 rfl rfl ?_;repeat refine u ?_
 refine zA1 (zG 0 rfl) (zB rfl rfl (kcallP h) ?_);repeat refine u ?_
 refine zD 0 rfl rfl ?_;repeat refine u ?_
 refine zA1 (zG 0 rfl) ?_;repeat refine u ?_
 refine zA1 (zG 0 rfl) (zB rfl rfl (klallQ h) ?_);repeat refine u ?_
 refine zD 0 rfl rfl ?_;repeat refine u ?_
 refine zA1 (zG 0 rfl) ?_;repeat refine u ?_
 refine zA1 (zG 0 rfl) ?_;repeat refine u ?_
 refine zA1 (zG 0 rfl) (zB rfl rfl (kswallsP h) ?_);repeat refine u ?_
 refine zD 0 rfl rfl ?_;repeat refine u ?_
 refine zO (jP (cs':=[st [bxc 1 (zQ ls),sl 3 ((xsM ls).map (rtc 3)),sl 1 ((lvsM ls).map (pcc 14)),sl 1 ((wlsM ls).map fun l:List Rat=>sl 3 (l.map (rtc 14))),xc (.slice none 0 0)]]) 0 rfl fun h=>⟨_,[],(zas _).symm,h,rfl⟩) (zA1 (zG 0 rfl) (zB rfl rfl (kscellsP h) ?_));refine zO (jP (cs':=[bxc 1 (zQ ls),sl 3 ((xsM ls).map (rtc 3)),sl 1 ((lvsM ls).map (pcc 14)),sl 1 ((wlsM ls).map fun l:List Rat=>sl 3 (l.map (rtc 14))),xc (.slice none 0 0)]) 0 rfl iI) (zA1 (ofo rfl) ?_);refine zD 0 rfl rfl ?_;repeat refine u ?_
 refine zO (jP (cs':=[st [bxc 1 (zQ ls),sl 3 ((xsM ls).map (rtc 3)),sl 1 ((lvsM ls).map (pcc 14)),sl 1 ((wlsM ls).map fun l:List Rat=>sl 3 (l.map (rtc 14))),sl 9 ((celM ls).map (celT 65))]]) 0 rfl fun h=>⟨_,[],(zas _).symm,h,rfl⟩) (zA1 (zG 0 rfl) ?_);refine zD 0 rfl rfl ?_;repeat refine u ?_
 refine⟨[_],zL 0 rfl rs0,yD ?_⟩;exact fun M w v ⟨us,e,x1,y1,e1,h1,x2,y2,e2,h2,x3,y3,e3,h3,x4,y4,e4,h4,h5⟩=>⟨us,e,x1,y1,e1,bx_up (by omega) h1,x2,y2,e2,yN7 (by omega) h2,x3,y3,e3,lr_up (by omega) h3,x4,y4,e4,yM4 (by omega) h4,h5⟩
end Go.Proofs.YtalkinejknjidaaGreatDoor
