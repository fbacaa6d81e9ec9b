/- Lemmas and walks of functions; no statement. -/
import Derived.Test.YtalkinejknjidaaGreatDoorPd
set_option linter.unusedVariables false
set_option linter.unusedSimpArgs false
set_option maxRecDepth 100000
set_option maxHeartbeats 4000000
namespace Go.SL
theorem nodup_rev {α:Type}{l:List α}:l.reverse.Nodup↔l.Nodup:=by
 unfold List.Nodup;rw[List.pairwise_reverse];exact⟨fun h=>h.imp Ne.symm,fun h=>h.imp Ne.symm⟩
theorem zL8 {q:P2}:∀(X:List P2) (m:P2) (Y:List P2),uY q (X++[m])→uY q (m::Y)→uY q (X++m::Y)
 | [],_,_,_,h=>h
 | [_],_,_,h,k=>⟨h.1,k⟩
 | _::y::X,m,Y,h,k=>⟨h.1,zL8 (y::X) m Y h.2 k⟩
theorem aB {q:P2}:∀(X Y:List P2),uY q (X++Y)→uY q Y
 | [],_,h=>h
 | [x],[],_=>trivial
 | [x],y::Y,h=>h.2
 | x::y::X,Y,h=>aB (y::X) Y h.2
theorem lT:∀(X Y:List P2),jW (X++Y)→jW Y
 | [],_,h=>h
 | [x],[],_=>trivial
 | [x],[_],_=>trivial
 | [x],_::_::_,h=>h.2
 | [x,y],[],_=>trivial
 | [x,y],_::Y,h=>lT [y] _ h.2
 | x::y::z::X,Y,h=>lT (y::z::X) Y h.2
theorem rQ:∀(X:List P2) (b m a:P2) (Y:List P2),jW (X++[b,m])→jW (m::a::Y)→0<trn a m b→jW (X++b::m::a::Y)
 | [],_,_,_,_,_,h,k=>⟨k,h⟩
 | [x],b,m,a,Y,g,h,k=>⟨g.1,k,h⟩
 | [x,y],b,m,a,Y,g,h,k=>⟨g.1,g.2.1,k,h⟩
 | x::y::z::X,b,m,a,Y,g,h,k=>⟨g.1,rQ (y::z::X) b m a Y g.2 h k⟩
theorem zX7 {q:P2}:∀(C:List P2) (j:Nat),uY q C→j+1<C.length→0≤trn (gp C (j+1)) (gp C j) q
 | [],_,_,h=>by simp at h
 | [_],_,_,h=>by simp at h
 | _::_::_,0,h,_=>h.1
 | t::s::r,j+1,h,hj=>zX7 (s::r) j h.2 (by simp only[zaw] at hj ⊢; omega)
theorem zT5:∀(C:List P2) (j:Nat),jW C→j+2<C.length→0<trn (gp C (j+2)) (gp C (j+1)) (gp C j)
 | [],_,_,h=>by simp at h
 | [_],_,_,h=>by simp at h
 | [_,_],_,_,h=>by simp only[zaw,zbl] at h;omega
 | _::_::_::_,0,h,_=>h.1
 | u::t::s::r,j+1,h,hj=>zT5 (t::s::r) j h.2 (by simp only[zaw] at hj ⊢; omega)
theorem deg {l:List P2}{a m b:P2}(hm:∀ q∈l,leP q m)(ha:ltP a m)(hb:ltP b m)(h0:trn a m b=0)(h1:∀ q∈l,0≤trn a m q)(h2:∀ q∈l,0≤trn m b q) :
  ∀ x∈l,∀ y∈l,∀ z∈l,trn x y z=0:=by
 have k0:0≤zH (subP m a) (subP m b):=by unfold trn zH subP at *; simp only at *; grind
 have kz:∀ q∈l,zH (subP m a) (subP m q)=0:=fun q hq=>by
  have a1:=h1 q hq;have a2:=h2 q hq;have:=rR (lexP.le ha) hb (iA.1 (hm q hq)) k0 (by unfold trn zH subP at *; simp only at *; grind);unfold trn zH subP at *; simp only at *; grind
 have kk:∀ x∈l,∀ y∈l,0≤zH (subP m x) (subP m y):=fun x hx y hy=>rR (iA.1 (hm x hx)) ha (iA.1 (hm y hy)) (by have:=kz x hx;unfold zH subP at *; simp only at *; grind) (by rw[kz y hy];exact Rat.le_refl);intro x hx y hy z hz;have b1:=kk x hx y hy;have b2:=kk y hy x hx;have b3:=kk y hy z hz;have b4:=kk z hz y hy;have b5:=kk x hx z hz;have b6:=kk z hz x hx;unfold trn zH subP at *; simp only at *; grind
theorem apart3 {l:List P2}{a b c a' b':P2}(hb':b'∈l)(hb:b∈l)(h1:ltP a c)(h2:ltP c b)(h3:0<trn a c b)(h4:∀ q∈l,0≤trn a c q)(g1:ltP b' c)(g2:∀ q∈l,0≤trn c b' q):False:=by
 have k1:=h4 b' hb';have k2:=g2 b hb;have:=tr_gp (a:=subP c b') (b:=subP c a) (c:=subP b c) g1 h1 (lexP.le h2) (by unfold trn zH subP at *; simp only at *; grind) (by unfold trn zH subP at *; simp only at *; grind);unfold trn zH subP at *; simp only at *; grind
theorem fD {α:Type}{l:List α}(h:l≠[]):∃ r x,l=r++[x]:=⟨_,_,(List.dropLast_concat_getLast h).symm⟩
def qV (l:List P2):List P2:=if l.length<3 then l else(jA [] l).reverse.dropLast++(jA [] l.reverse).reverse.dropLast
theorem two_sup {a b q:P2}(hab:ltP a b)(h0:trn a b q=0)(h1:leP a q)(h2:leP q b):Sup [a,b] q:=fun u v=>by
 obtain⟨t,e1,e2⟩:=dV h0 hab.ne;have ht0:0≤t:=by
  refine Classical.byContradiction fun c=>?_;have c:0 < -t:=by grind
  unfold ltP lexP subP leP at *; simp only at *;rcases hab with hab | ⟨hab,hb2⟩
  ·have:=zaK c hab;grind
  ·have:=zaK c hb2;grind
 have ht1:0≤1-t:=by
  refine Classical.byContradiction fun c=>?_;have c:0<t-1:=by grind
  unfold ltP lexP subP leP at *; simp only at *;rcases hab with hab | ⟨hab,hb2⟩
  ·have:=zaK c hab;grind
  ·have:=zaK c hb2;grind
 by_cases c:u*a.1+v*a.2≤u*b.1+v*b.2
 ·refine⟨b,by simp,?_⟩;rw[e1,e2];have:=zaF ht1 (show 0≤(u*b.1+v*b.2)-(u*a.1+v*a.2) by grind);grind
 ·refine⟨a,by simp,?_⟩;rw[e1,e2];have:=zaF ht0 (show 0≤(u*a.1+v*a.2)-(u*b.1+v*b.2) by grind);grind
theorem mK {l:List P2}(h2:2≤l.length)(hs:l.Pairwise ltP):∃ mn mx A B,ChOk l (mx::(A++[mn]))∧ChOk' l (mn::(B++[mx]))∧qV l=mn::(A.reverse++mx::B.reverse)∧mn∈l∧mx∈l∧ltP mn mx∧(∀ q∈l,leP q mx)∧(∀ q∈l,leP mn q)∧jA [] l=mx::(A++[mn])∧jA [] l.reverse=mn::(B++[mx]):=by
 have hne:l≠[]:=fun e=>by rw[e] at h2;simp at h2
 have hS:qV l=(jA [] l).reverse.dropLast++(jA [] l.reverse).reverse.dropLast:=by
  unfold qV;split
  ·match l,h2 with
   | [p,q],_=>simp[jA,uC]
   | _::_::_::_,_=>rename_i h;simp at h;omega
  ·rfl
 have cl:=yU0 hne hs;have ch:=ch_ok' hne hs;generalize eL:jA [] l=L at *;generalize eH:jA [] l.reverse=H at *;obtain⟨mx,L1,rfl⟩:=zca cl.ne;obtain⟨mn,H1,rfl⟩:=zca ch.ne;have hmx:∀ q∈l,leP q mx:=fun q hq=>cl.top q hq mx rfl;have hmn:∀ q∈l,leP mn q:=fun q hq=>ch.top q hq mn rfl;have mxl:=cl.sub mx (by simp);have mnl:=ch.sub mn (by simp);have hlt:ltP mn mx:=by
  refine zL5 (hmx mn mnl) fun e=>?_
  match l,hs,h2,hmx,hmn with
  | p::p2::r,hs,h3,hmx,hmn =>
   have h1:=(zav.1 hs).1 p2 (by simp);have h4:=jE (jU (hmx p2 (by simp)) (e ▸ hmn p (by simp))) h1.le;exact h1.ne h4.symm
  | [p],_,h3,_,_=>simp at h3
 have l1:L1≠[]:=fun e=>by
  subst e;exact hlt.ne (jE hlt.le (cl.bot mn mnl mx rfl))
 have h1:H1≠[]:=fun e=>by
  subst e;exact hlt.ne (jE hlt.le (ch.bot mx mxl mn rfl))
 obtain⟨A,z,rfl⟩:=fD l1;obtain⟨B,y,rfl⟩:=fD h1;have ez:z=mn:=jE (cl.bot mn mnl z (by rw[← zaS,List.getLast?_concat])) (hmn z (cl.sub z (by simp)));have ey:y=mx:=jE (hmx y (ch.sub y (by simp))) (ch.bot mx mxl y (by rw[← zaS,List.getLast?_concat]));subst ez ey;exact⟨_,_,A,B,cl,ch,by rw[hS,show (y::(A++[z])).reverse=(z::A.reverse)++[y] by simp,show (z::(B++[y])).reverse=(y::B.reverse)++[z] by simp,List.dropLast_concat,List.dropLast_concat];rfl,mnl,mxl,hlt,hmx,hmn,rfl,rfl⟩
theorem hullS_ok {l:List P2}(hs:l.Pairwise ltP):IsHull l (qV l):=by
 have hnd:l.Nodup:=hs.imp fun h=>ltP.ne h;by_cases h3:l.length<2
 ·have e:qV l=l:=by unfold qV;rw[if_pos (by omega)]
  rw[e];refine⟨⟨fun c hc=>?_,hnd,fun h=>by omega⟩,fun _ h=>h,fun q hq=>dM hq⟩
  match l,hs,hc with
  | p::r,hs,hc =>
   rcases zad.1 hc with rfl | hc
   ·exact jM _
   ·exact((zav.1 hs).1 c hc).le
 obtain⟨mn,mx,A,B,cl,ch,eS,mnl,mxl,hlt,hmx,hmn,_⟩:=mK (by omega) hs;rw[eS];have sub:∀ c∈mn::(A.reverse++mx::B.reverse),c∈l:=fun c hc=>by
  simp only[zad,zae,List.mem_reverse] at hc;rcases hc with rfl | hc | rfl | hc
  ·exact mnl
  ·exact cl.sub c (by simp[hc])
  ·exact mxl
  ·exact ch.sub c (by simp[hc])
 have dL:=cl.dec;have dH:=ch.dec;have nd:(mn::(A.reverse++mx::B.reverse)).Nodup:=by
  have n1:(mx::(A++[mn])).Nodup:=dL.imp fun h=>(ltP.ne h).symm;have n2:(mn::(B++[mx])).Nodup:=dH.imp fun h=>ltP.ne h;have n3:∀ c,c∈A→c∈B→False:=fun c hA hB=>by
   obtain⟨A1,A2,rfl⟩:=List.append_of_mem hA;obtain⟨B1,B2,rfl⟩:=List.append_of_mem hB;obtain⟨r1,b,e1⟩:=fD (l:=mx::A1) (by simp);obtain⟨r2,b',e2⟩:=fD (l:=mn::B1) (by simp);obtain⟨a,s1,e3⟩:=zca (l:=A2++[mn]) (by simp);obtain⟨a',s2,e4⟩:=zca (l:=B2++[mx]) (by simp);have E1:mx::((A1++c::A2)++[mn])=r1++b::c::a::s1:=by
    rw[show mx::((A1++c::A2)++[mn])=(mx::A1)++c::(A2++[mn]) by simp,e1,e3];simp
   have E2:mn::((B1++c::B2)++[mx])=r2++b'::c::a'::s2:=by
    rw[show mn::((B1++c::B2)++[mx])=(mn::B1)++c::(B2++[mx]) by simp,e2,e4];simp
   rw[E1] at cl dL;rw[E2] at ch dH;have p1:=zav.1 (zcl.1 dL).2.1;have p2:=zav.1 (zcl.1 dH).2.1;exact apart3 (l:=l) (a:=a) (b:=b) (c:=c) (a':=a') (b':=b') (ch.sub b' (by simp)) (cl.sub b (by simp)) ((zav.1 p1.2).1 a (by simp)) (p1.1 c (by simp)) (lT r1 _ cl.trs).1 (fun q hq=>(aB r1 _ (cl.lef q hq)).2.1) (p2.1 c (by simp)) fun q hq=>(aB r2 _ (ch.lef q hq)).1
  simp only[List.nodup_cons,zae,zad,List.mem_reverse,List.nodup_append,nodup_rev,zaj,zaR,not_false_eq_true,List.nodup_nil,true_and,and_true] at n1 n2 ⊢;grind
 have fst:∀ c∈mn::(A.reverse++mx::B.reverse),leP (gp (mn::(A.reverse++mx::B.reverse)) 0) c:=fun c hc=>hmn c (sub c hc);by_cases hAB:A=[]∧B=[]
 ·obtain⟨rfl,rfl⟩:=hAB;refine⟨⟨fst,nd,fun h=>absurd h (by simp)⟩,sub,fun q hq=>two_sup hlt ?_ (hmn q hq) (hmx q hq)⟩;have a1:0≤trn mn mx q:=(cl.lef q hq).1;have a2:0≤trn mx mn q:=(ch.lef q hq).1;unfold trn zH subP at *; simp only at *; grind
 have hn3:3≤(mn::(A.reverse++mx::B.reverse)).length:=by
  simp only[zaw,zal,List.length_reverse];rcases A with _ | ⟨a,A⟩
  ·rcases B with _ | ⟨b,B⟩
   ·exact absurd ⟨rfl,rfl⟩ hAB
   ·simp only[zaw,zbl];omega
  ·simp only[zaw];omega
 obtain⟨r1,b1,e1⟩:=fD (l:=mx::A) (by simp);obtain⟨r2,b2,e2⟩:=fD (l:=mn::B) (by simp);obtain⟨a1,s1,e3⟩:=zca (l:=A++[mn]) (by simp);obtain⟨a2,s2,e4⟩:=zca (l:=B++[mx]) (by simp);have EL1:mx::(A++[mn])=r1++[b1,mn]:=by rw[← zaS,e1];simp
 have EL2:mx::(A++[mn])=mx::a1::s1:=by rw[e3]
 have EH1:mn::(B++[mx])=r2++[b2,mx]:=by rw[← zaS,e2];simp
 have EH2:mn::(B++[mx])=mn::a2::s2:=by rw[e4]
 have ndeg:¬ ∀ x∈l,∀ y∈l,∀ z∈l,trn x y z=0:=fun hd=>by
  rcases A with _ | ⟨a,A⟩
  ·rcases B with _ | ⟨b,B⟩
   ·exact hAB ⟨rfl,rfl⟩
   ·obtain⟨c,s,e⟩:=zca (l:=B++[mx]) (by simp);have t:=ch.trs;have s':=ch.sub;rw[zaS,e] at t s';have:=hd c (s' c (by simp)) b (s' b (by simp)) mn (s' mn (by simp));have:=t.1;grind
  ·obtain⟨c,s,e⟩:=zca (l:=A++[mn]) (by simp);have t:=cl.trs;have s':=cl.sub;rw[zaS,e] at t s';have:=hd c (s' c (by simp)) a (s' a (by simp)) mx (s' mx (by simp));have:=t.1;grind
 have sb1:=cl.sub b1 (by rw[EL1];simp);have sb2:=ch.sub b2 (by rw[EH1];simp);have sa1:=cl.sub a1 (by rw[EL2];simp);have sa2:=ch.sub a2 (by rw[EH2];simp);have la1:ltP a1 mx:=by rw[EL2] at dL;exact(zav.1 dL).1 a1 (by simp)
 have lb1:ltP mn b1:=by rw[EL1] at dL;exact(zav.1 (zcl.1 dL).2.1).1 mn (by simp)
 have la2:ltP mn a2:=by rw[EH2] at dH;exact(zav.1 dH).1 a2 (by simp)
 have lb2:ltP b2 mx:=by rw[EH1] at dH;exact(zav.1 (zcl.1 dH).2.1).1 mx (by simp)
 have fa1:∀ q∈l,0≤trn a1 mx q:=fun q hq=>by have:=cl.lef q hq;rw[EL2] at this;exact this.1
 have fb1:∀ q∈l,0≤trn mn b1 q:=fun q hq=>by have:=cl.lef q hq;rw[EL1] at this;exact(aB r1 _ this).1
 have fa2:∀ q∈l,0≤trn a2 mn q:=fun q hq=>by have:=ch.lef q hq;rw[EH2] at this;exact this.1
 have fb2:∀ q∈l,0≤trn mx b2 q:=fun q hq=>by have:=ch.lef q hq;rw[EH1] at this;exact(aB r2 _ this).1
 have jmx:0<trn a1 mx b2:=by
  have:=fa1 b2 sb2;refine Classical.byContradiction fun c=>ndeg (deg hmx la1 lb2 (by grind) fa1 fb2)
 have jmn:0<trn a2 mn b1:=by
  have:=fa2 b1 sb1;refine Classical.byContradiction fun c=>ndeg ?_;have hd:=deg (l:=l.map negP) (a:=negP a2) (m:=negP mn) (b:=negP b1) (fun q hq=>by obtain⟨x,hx,rfl⟩:=zai.1 hq;exact pP.2 (hmn x hx)) (pL.2 la2) (pL.2 lb1) (by rw[bU];grind)
   (fun q hq=>by obtain⟨x,hx,rfl⟩:=zai.1 hq;rw[bU];exact fa2 x hx) (fun q hq=>by obtain⟨x,hx,rfl⟩:=zai.1 hq;rw[bU];exact fb1 x hx)
  intro x hx y hy z hz;rw[← bU];exact hd _ (zai.2 ⟨x,hx,rfl⟩) _ (zai.2 ⟨y,hy,rfl⟩) _ (zai.2 ⟨z,hz,rfl⟩)
 -- the way round,backwards
 have lC:∀ q∈l,uY q (mn::B++mx::(A++[mn])):=fun q hq=>zL8 (mn::B) mx _ (by have:=ch.lef q hq;simpa using this) (cl.lef q hq);have tC:jW (mn::B++mx::(A++[mn])):=by
  have zA1:=ch.trs;have zA2:=cl.trs;rw[EH1] at zA1;rw[EL2] at zA2;rw[e2,e3,zaA];exact rQ r2 b2 mx a1 s1 zA1 zA2 jmx
 have hC:(mn::B++mx::(A++[mn])).length=(mn::(A.reverse++mx::B.reverse)).length+1:=by simp;omega
 have eC:mn::(A.reverse++mx::B.reverse)=(mn::B++mx::(A++[mn])).tail.reverse:=by simp
 have c1:gp (mn::B++mx::(A++[mn])) 1=a2:=by
  rw[show mn::B++mx::(A++[mn])=(mn::(B++[mx]))++(A++[mn]) by simp,EH2];rfl
 have c2:gp (mn::B++mx::(A++[mn])) 0=mn:=rfl;have c3:gp (mn::B++mx::(A++[mn])) ((mn::(A.reverse++mx::B.reverse)).length-1)=b1:=by
  rw[show mn::B++mx::(A++[mn])=(mn::B)++(mx::(A++[mn])) by simp,EL1,← zaA,gp,zah,List.getElem?_append_right (by have:=congrArg List.length EL1;simp at this ⊢; omega)];have:(mn::(A.reverse++mx::B.reverse)).length-1-(mn::B++r1).length=0:=by have:=congrArg List.length EL1;simp at this ⊢; omega
  rw[this];rfl
 generalize mn::B++mx::(A++[mn])=C at *;generalize hh:mn::(A.reverse++mx::B.reverse)=h at *;have c4:gp h 0=mn:=by rw[← hh];rfl
 have g1:∀ i,i<h.length→gp h i=gp C (h.length-i):=fun i hi=>by
  have ht:C.tail.length=h.length:=by rw[List.length_tail];omega
  have:gp h i=gp C.tail (C.tail.length-1-i):=by
   conv=>lhs;rw[eC]
   unfold gp;rw[zah,zah,List.getElem?_reverse (by omega)]
  rw[this,ht];unfold gp;rw[zah,zah,List.getElem?_tail,show h.length-1-i+1=h.length-i by omega]
 have g2:∀ i,i<h.length→nx h i=gp C (h.length-1-i):=fun i hi=>by
  unfold nx;rcases zaf (i+1) h.length with c | c
  ·rw[zao c,g1 _ c,show h.length-(i+1)=h.length-1-i by omega]
  ·rw[show i+1=h.length by omega,zbs,c4,show h.length-1-i=0 by omega,c2]
 have weak:∀ i,i<h.length→∀ q∈l,0≤trn (gp h i) (nx h i) q:=fun i hi q hq=>by
  have:=zX7 C (h.length-1-i) (lC q hq) (by omega);rw[show h.length-1-i+1=h.length-i by omega] at this;rw[g1 i hi,g2 i hi];exact this
 have turn:∀ i,i<h.length→0<trn (gp h i) (nx h i) (nx h ((i+1)%h.length)):=fun i hi=>by
  rcases zaf (i+1) h.length with c | c
  ·have:=zT5 C (h.length-2-i) tC (by omega);rw[zao c,g1 i hi,g2 i hi,g2 _ c,show h.length-1-(i+1)=h.length-2-i by omega,show h.length-1-i=h.length-2-i+1 by omega,show h.length-i=h.length-2-i+2 by omega];exact this
  ·have e:i=h.length-1:=by omega
   rw[show i+1=h.length by omega,zbs,g1 i hi,g2 i hi,g2 0 (by omega),e,show h.length-(h.length-1)=1 by omega,show h.length-1-(h.length-1)=0 by omega,Nat.sub_zero,c1,c2,c3];exact jmn
 have po:Poly h:=⟨fst,nd,fun h3=>conv_of nd h3 (fun i k hi hk=>weak i hi _ (sub _ (jI hk))) turn⟩;exact⟨po,sub,fun q hq=>sup_of_left po hn3 fun i hi=>weak i hi q hq⟩
def yN (d:P2):Int:=if 0<d.1 then 0 else if d.1=0∧0<d.2 then 1 else if d.1<0 then 2 else 3
def qN (a b:P2):Bool:=if yN a≠yN b then decide (yN a<yN b) else decide (0<zH a b)
def lexN (v:P2):Prop:=v.1<0∨v.1=0∧v.2<0
theorem qt0 {d:P2}(h:0<d.1):yN d=0:=if_pos h
theorem qt1 {d:P2}(h:d.1=0)(k:0<d.2):yN d=1:=by unfold yN;rw[if_neg (by grind),if_pos ⟨h,k⟩]
theorem qt2 {d:P2}(h:d.1<0):yN d=2:=by unfold yN;rw[if_neg (by grind),if_neg (by grind),if_pos h]
theorem qt3 {d:P2}(h:d.1=0)(k:d.2<0):yN d=3:=by unfold yN;rw[if_neg (by grind),if_neg (by grind),if_neg (by grind)]
theorem cU {a b:P2}(h:yN a=yN b):qN a b=true↔0<zH a b:=by
 unfold qN;rw[if_neg (by simp[h]),decide_eq_true_eq]
theorem uN {a b:P2}(h:yN a≠yN b):qN a b=true↔yN a<yN b:=by
 unfold qN;rw[if_pos h,decide_eq_true_eq]
theorem ahead_pp {a b:P2}(ha:lexP a)(hb:lexP b):qN a b=true↔0<zH a b:=by
 rcases ha with ha | ⟨ha,ha2⟩<;>rcases hb with hb | ⟨hb,hb2⟩
 ·exact cU ((qt0 ha).trans (qt0 hb).symm)
 ·have h:=zaK ha hb2;rw[uN (by rw[qt0 ha,qt1 hb hb2];decide),qt0 ha,qt1 hb hb2];unfold zH;rw[hb];exact iff_of_true (by decide) (by grind)
 ·have h:=zaK ha2 hb;rw[uN (by rw[qt1 ha ha2,qt0 hb];decide),qt1 ha ha2,qt0 hb];unfold zH;rw[ha];exact iff_of_false (by decide) (by grind)
 ·exact cU ((qt1 ha ha2).trans (qt1 hb hb2).symm)
theorem zO9 {a b:P2}(ha:lexP a)(hb:lexN b):qN a b=true∧qN b a=false:=by
 have h1:yN a=0∨yN a=1:=by rcases ha with ha | ⟨ha,ha2⟩;exact .inl (qt0 ha);exact .inr (qt1 ha ha2)
 have h2:yN b=2∨yN b=3:=by rcases hb with hb | ⟨hb,hb2⟩;exact .inl (qt2 hb);exact .inr (qt3 hb hb2)
 have h3:yN b≠yN a:=by omega
 refine⟨(uN h3.symm).2 (by omega),?_⟩;rw[zcL];exact fun c=>by have:=(uN h3).1 c;omega
theorem ahead_nn {a b:P2}(ha:lexN a)(hb:lexN b):qN a b=true↔0<zH a b:=by
 have k:∀ x y:Rat,x<0→y<0→0<x*y:=fun x y hx hy=>by
  have h:=zaK (show 0 < -x by grind) (show 0 < -y by grind);rw[Rat.neg_mul,Rat.mul_neg,Rat.neg_neg] at h;exact h
 rcases ha with ha | ⟨ha,ha2⟩<;>rcases hb with hb | ⟨hb,hb2⟩
 ·exact cU ((qt2 ha).trans (qt2 hb).symm)
 ·have h:=k _ _ ha hb2;clear k;rw[uN (by rw[qt2 ha,qt3 hb hb2];decide),qt2 ha,qt3 hb hb2];unfold zH;rw[hb];exact iff_of_true (by decide) (by grind)
 ·have h:=k _ _ ha2 hb;clear k;rw[uN (by rw[qt3 ha ha2,qt2 hb];decide),qt3 ha ha2,qt2 hb];unfold zH;rw[ha];exact iff_of_false (by decide) (by grind)
 ·exact cU ((qt3 ha ha2).trans (qt3 hb hb2).symm)
def mrg:List P2→List P2→List P2
 | [],q=>q
 | a::p,[]=>a::p
 | a::p,b::q=>if qN a b then a::mrg p (b::q) else b::mrg (a::p) q
termination_by p q=>p.length+q.length
theorem mrg_nil (p:List P2):mrg p []=p:=by cases p<;>simp[mrg]
theorem mrg_len (p q:List P2):(mrg p q).length=p.length+q.length:=by
 fun_induction mrg p q<;>simp_all<;>omega
theorem mrg_cut {p1 p2 q1 q2:List P2}(h1:∀ x∈p1,∀ y∈q2,qN x y=true)(h2:∀ y∈q1,∀ x∈p2,qN x y=false):mrg (p1++p2) (q1++q2)=mrg p1 q1++mrg p2 q2:=by
 fun_induction mrg p1 q1 with
 | case1 q =>
  induction q with
  | nil=>rfl
  | cons b q ih =>
   cases p2 with
   | nil=>simp[mrg]
   | cons a p =>
    have:=h2 b (by simp) a (by simp);have ih':=ih fun y hy=>h2 y (by simp[hy]);simp only[zcn,zaS] at ih' ⊢;rw[mrg,this,if_neg (by simp),ih']
 | case2 a p =>
  clear h2;generalize ha:a::p=p' at *;clear ha
  induction p' with
  | nil=>simp[mrg]
  | cons a p ih =>
   have ih':=ih fun x hx y hy=>h1 x (by simp[hx]) y hy;cases q2 with
   | nil=>simp[mrg_nil]
   | cons b q =>
    have:=h1 a (by simp) b (by simp);simp only[zcn,zaS] at ih' ⊢;rw[mrg,this,if_pos rfl,ih']
 | case3 a p b q h ih =>
  simp only[zaS] at ih ⊢;rw[mrg,if_pos h,ih (fun x hx y hy=>h1 x (by simp[hx]) y hy) h2]
 | case4 a p b q h ih =>
  simp only[zaS] at ih ⊢;rw[mrg,if_neg h,ih h1 fun y hy x hx=>h2 y (by simp[hy]) x hx]
def sumP:List P2→P2
 | []=>(0,0)
 | e::l=>addP e (sumP l)
theorem zJ1 (l m:List P2):sumP (l++m)=addP (sumP l) (sumP m):=by
 induction l with
 | nil=>unfold addP sumP;rw[Prod.ext_iff];constructor<;>simp[Rat.zero_add]
 | cons a l ih=>rw[List.cons_append,sumP,ih,sumP];unfold addP;rw[Prod.ext_iff];constructor<;>simp only<;>grind
theorem zJ0 (p q:List P2):sumP (mrg p q)=addP (sumP p) (sumP q):=by
 fun_induction mrg p q with
 | case1 q=>unfold addP;rw[Prod.ext_iff];constructor<;>simp[sumP,Rat.zero_add]
 | case2 a p=>unfold addP;rw[Prod.ext_iff];constructor<;>simp[sumP,addP,Rat.add_zero]
 | case3 a p b q h ih=>rw[sumP,ih];unfold addP;rw[Prod.ext_iff];constructor<;>simp only[sumP,addP]<;>grind
 | case4 a p b q h ih=>rw[sumP,ih];unfold addP;rw[Prod.ext_iff];constructor<;>simp only[sumP,addP]<;>grind
def wayS (at':P2):List P2→List P2
 | []=>[]
 | [_]=>[]
 | e::f::l=>addP at' e::wayS (addP at' e) (f::l)
def yT:List P2→List P2
 | a::b::r=>subP b a::yT (b::r)
 | _=>[]
theorem fJ:∀(X:List P2) (m:P2) (Y:List P2),yT (X++m::Y)=yT (X++[m])++yT (m::Y)
 | [],m,Y=>by simp[yT]
 | [x],m,Y=>by simp[yT]
 | x::y::X,m,Y=>by
  have:=fJ (y::X) m Y;simp only[zaS,yT] at this ⊢;rw[this]
theorem fI:∀(a:P2) (X:List P2) (b:P2),sumP (yT (a::(X++[b])))=subP b a
 | a,[],b=>by simp only[List.nil_append,yT,sumP];unfold addP subP;rw[Prod.ext_iff];constructor<;>simp only<;>grind
 | a,x::X,b=>by
  rw[zaS,yT,sumP,fI x X b];unfold addP subP;rw[Prod.ext_iff];constructor<;>simp only<;>grind
def edgN (w:P2):List P2→Prop
 | t::s::r=>zH (subP t s) w≤0∧edgN w (s::r)
 | _=>True
theorem cP (X:List P2)(a b:P2):yT (X++[a,b])=yT (X++[a])++[subP b a]:=by
 rw[show X++[a,b]=X++a::[b] by rfl,fJ];rfl
theorem wO {g:P2}:∀ acc:List P2,edgD g acc→∀ e∈yT acc.reverse,0<zH e g
 | [],_,e,he=>by simp[yT] at he
 | [_],_,e,he=>by simp[yT] at he
 | t::s::r,h,e,he=>by
  rw[show (t::s::r).reverse=r.reverse++[s,t] by simp,cP,zae,zaj] at he;rcases he with he | rfl
  ·exact wO (s::r) h.2 e (by simpa using he)
  ·exact h.1
theorem wN {g:P2}:∀ acc:List P2,edgN g acc→∀ e∈yT acc.reverse,zH e g≤0
 | [],_,e,he=>by simp[yT] at he
 | [_],_,e,he=>by simp[yT] at he
 | t::s::r,h,e,he=>by
  rw[show (t::s::r).reverse=r.reverse++[s,t] by simp,cP,zae,zaj] at he;rcases he with he | rfl
  ·exact wN (s::r) h.2 e (by simpa using he)
  ·exact h.1
theorem tN:∀ acc:List P2,acc.Pairwise (fun a b=>ltP b a)→∀ e∈yT acc.reverse,lexP e
 | [],_,e,he=>by simp[yT] at he
 | [_],_,e,he=>by simp[yT] at he
 | t::s::r,h,e,he=>by
  rw[show (t::s::r).reverse=r.reverse++[s,t] by simp,cP,zae,zaj] at he;rcases he with he | rfl
  ·exact tN (s::r) (List.pairwise_cons.1 h).2 e (by simpa using he)
  ·exact(zav.1 h).1 s (by simp)
theorem zJ3 {g:P2}(hg:lexP g):∀ acc:List P2,acc≠[]→jW acc→acc.Pairwise (fun a b=>ltP b a)→∃ Y w X,acc=Y++w::X∧edgN g (Y++[w])∧edgD g (w::X)
 | [],h,_,_=>absurd rfl h
 | [t],_,_,_=>⟨[],t,[],rfl,trivial,trivial⟩
 | t::s::r,_,ht,hd=>by
  by_cases c:0<zH (subP t s) g
  ·exact⟨[],t,s::r,rfl,trivial,wM hg _ ht hd fun t' s' r' e=>by injection e with e1 e2;injection e2 with e2 e3;subst e1 e2;exact c⟩
  ·have ht':jW (s::r):=by
    cases r with
    | nil=>trivial
    | cons u r=>exact ht.2
   obtain⟨Y,w,X,e,h1,h2⟩:=zJ3 hg (s::r) (by simp) ht' (zav.1 hd).2;refine⟨t::Y,w,X,by rw[e];rfl,?_,h2⟩;cases Y with
   | nil=>injection e with e1 e2;subst e1;exact⟨by grind,trivial⟩
   | cons y Y=>injection e with e1 e2;subst e1;exact⟨by grind,h1⟩
theorem zX4 {S acc:List P2}{g:P2}(hc:ChOk S acc)(hg:lexP g):∃ Y w X,acc=Y++w::X∧edgN g (Y++[w])∧edgD g (w::X)∧∀ q∈S,zH (subP q w) g≤0:=by
 obtain⟨Y,w,X,rfl,h1,h2⟩:=zJ3 hg acc hc.ne hc.trs hc.dec;refine⟨Y,w,X,rfl,h1,h2,fun q hq=>?_⟩;have hl:=hc.lef q hq;have hd:=hc.dec;rcases uL w q with k | k
 ·rcases List.eq_nil_or_concat Y with rfl | ⟨Y',n,rfl⟩
  ·have:=jE (hc.top q hq w rfl) k;subst this;unfold zH subP;simp only;grind
  ·rw[List.concat_eq_append] at hl hd h1;rw[zaA] at hl hd;have k1:=(aB Y' _ hl).1;have k2:zH (subP n w) g≤0:=by
    have:∀ Z:List P2,edgN g (Z++[n,w])→zH (subP n w) g≤0:=fun Z=>by
     induction Z with
     | nil=>exact fun h=>h.1
     | cons z Z ih=>intro h;cases Z with
      | nil=>exact h.2.1
      | cons z' Z=>exact ih h.2
    exact this Y' (by simpa using h1)
   have k3:ltP w n:=(zav.1 (zcl.1 hd).2.1).1 w (by simp);have:=rR (a:=g) (b:=subP n w) (c:=subP q w) (lexP.le hg) k3 (iA.1 k) (by unfold zH at *; grind) k1;unfold zH at *; grind
 ·rcases X with _ | ⟨p,X⟩
  ·have:=jE (hc.bot q hq w (by simp)) k;subst this;unfold zH subP;simp only;grind
  ·have k1:=(aB Y _ hl).1;have k2:=h2.1;have k3:ltP p w:=(zav.1 (zcl.1 hd).2.1).1 p (by simp);have:=rR (a:=subP w q) (b:=subP w p) (c:=g) (iA.1 k) k3 (lexP.le hg) (by unfold trn zH subP at *; simp only at *; grind) (Rat.le_of_lt k2);unfold trn zH subP at *; simp only at *; grind
theorem ahead_asym {a b:P2}(h:qN a b=true):qN b a=false:=by
 unfold qN at *;by_cases c:yN a=yN b
 ·rw[if_neg (by simp[c])] at h;rw[if_neg (by simp[c]),decide_eq_false];have:=of_decide_eq_true h;unfold zH at *; grind
 ·rw[if_pos c] at h;rw[if_pos (Ne.symm c),decide_eq_false];have:=of_decide_eq_true h;omega
theorem iW {a:P2}:lexP (negP a)↔lexN a:=by unfold lexP lexN negP;simp only;grind
structure Cut (g:P2)(e1 e2:List P2):Prop where
 pos:lexP g→(∀ e∈e1,lexP e∧0<zH e g)∧∀ e∈e2,lexN e∨lexP e∧zH e g≤0
 neg:lexN g→(∀ e∈e1,lexP e∨lexN e∧0<zH e g)∧∀ e∈e2,lexN e∧zH e g≤0
theorem tP {g:P2}{e1 e2 f1 f2:List P2}(hg:lexP g∨lexN g)(a:Cut g e1 e2)(b:Cut g f1 f2):∀ x∈e1,∀ y∈f2,qN x y=true:=fun x hx y hy=>by
 rcases hg with hg | hg
 ·obtain⟨h1,h2⟩:=(a.pos hg).1 x hx;rcases (b.pos hg).2 y hy with h3 | ⟨h3,h4⟩
  ·exact(zO9 h1 h3).1
  ·exact(ahead_pp h1 h3).2 (yD8 (lexP.le h1) hg h3 h2 (by unfold zH at *; grind))
 ·obtain⟨h3,h4⟩:=(b.neg hg).2 y hy;rcases (a.neg hg).1 x hx with h1 | ⟨h1,h2⟩
  ·exact(zO9 h1 h3).1
  ·have:=yD8 (lexP.le (iW.2 h1)) (iW.2 hg) (iW.2 h3) (by unfold zH negP at *; simp only;grind) (by unfold zH negP at *; simp only;grind);exact(ahead_nn h1 h3).2 (by unfold zH negP at *; simp only at this;grind)
theorem ChOk'.flip {S acc:List P2}(h:ChOk' S acc):ChOk (S.map negP) (acc.map negP):=by
 refine⟨fun x hx=>?_,?_,fun q hq t e=>?_,fun q hq t e=>?_,fun q hq=>?_,(lU acc).2 h.trs,fun c=>h.ne (List.map_eq_nil_iff.1 c)⟩
 ·obtain⟨y,hy,rfl⟩:=zai.1 hx;exact zai.2 ⟨y,h.sub y hy,rfl⟩
 ·rw[List.pairwise_map];exact h.dec.imp fun h=>pL.2 h
 ·obtain⟨y,hy,rfl⟩:=zai.1 hq;rw[List.head?_map] at e;obtain⟨u,hu,rfl⟩:=Option.map_eq_some_iff.1 e;exact pP.2 (h.top y hy u hu)
 ·obtain⟨y,hy,rfl⟩:=zai.1 hq;rw[List.getLast?_map] at e;obtain⟨u,hu,rfl⟩:=Option.map_eq_some_iff.1 e;exact pP.2 (h.bot y hy u hu)
 ·obtain⟨y,hy,rfl⟩:=zai.1 hq;exact(pO acc).2 (h.lef y hy)
theorem zN6 {g:P2}:∀ l:List P2,edgD (negP g) (l.map negP)↔edgD g l
 | [] => .rfl
 | [_] => .rfl
 | t::s::r=>by
  have e:zH (subP (negP t) (negP s)) (negP g)=zH (subP t s) g:=by unfold zH subP negP;simp only;grind
  simp only[zaH,edgD,e];exact and_congr .rfl (zN6 (s::r))
theorem zN5 {g:P2}:∀ l:List P2,edgN (negP g) (l.map negP)↔edgN g l
 | [] => .rfl
 | [_] => .rfl
 | t::s::r=>by
  have e:zH (subP (negP t) (negP s)) (negP g)=zH (subP t s) g:=by unfold zH subP negP;simp only;grind
  simp only[zaH,edgN,e];exact and_congr .rfl (zN5 (s::r))
theorem high_cut {S acc:List P2}{g:P2}(hc:ChOk' S acc)(hg:lexN g):∃ Y w X,acc=Y++w::X∧edgN g (Y++[w])∧edgD g (w::X)∧∀ q∈S,zH (subP q w) g≤0:=by
 obtain⟨Y,w,X,e,h1,h2,h3⟩:=zX4 hc.flip (iW.2 hg);have hn:∀ l:List P2,(l.map negP).map negP=l:=fun l=>by
  rw[List.map_map];conv=>rhs;rw[← List.map_id l]
  exact List.map_congr_left fun x _=>iS x
 have e':acc=Y.map negP++negP w::X.map negP:=by
  have:=congrArg (List.map negP) e;rw[hn] at this;simpa using this
 refine⟨Y.map negP,negP w,X.map negP,e',?_,?_,fun q hq=>?_⟩
 ·refine(zN5 _).1 ?_;rw[zay,hn,zaH,iS];exact h1
 ·refine(zN6 _).1 ?_;rw[zaH,iS,hn];exact h2
 ·have:=h3 (negP q) (zai.2 ⟨q,hq,rfl⟩);unfold zH subP negP at *; simp only at *; grind
theorem rG:∀ acc:List P2,acc.Pairwise (fun a b=>ltP a b)→∀ e∈yT acc.reverse,lexN e
 | [],_,e,he=>by simp[yT] at he
 | [_],_,e,he=>by simp[yT] at he
 | t::s::r,h,e,he=>by
  rw[show (t::s::r).reverse=r.reverse++[s,t] by simp,cP,zae,zaj] at he;rcases he with he | rfl
  ·exact rG (s::r) (List.pairwise_cons.1 h).2 e (by simpa using he)
  ·have:=(zav.1 h).1 s (by simp);unfold ltP lexP subP at this;unfold lexN subP;simp only at *; grind
def gL (h:List P2):List P2:=if 1<h.length then yT (h++[gp h 0]) else []
theorem oE (a b:P2):addP a (subP b a)=b:=by unfold addP subP;rw[Prod.ext_iff];constructor<;>simp only<;>grind
theorem xA (a:P2):addP a (0,0)=a:=by unfold addP;rw[Prod.ext_iff];constructor<;>simp only<;>grind
theorem qO (a b c:P2):addP (addP a b) c=addP a (addP b c):=by unfold addP;rw[Prod.ext_iff];constructor<;>simp only<;>grind
theorem tY (a b:P2):addP a b=addP b a:=by unfold addP;rw[Prod.ext_iff];constructor<;>simp only<;>grind
theorem yF3 {m w:P2}{X':List P2}(Y X:List P2)(e:Y++w::X=X'++[m]):addP m (sumP (yT (w::X).reverse))=w:=by
 rcases List.eq_nil_or_concat X with rfl | ⟨X,x,hX⟩
 ·have:w=m:=by
   have:=congrArg List.getLast? e;simpa using this
  subst this;exact xA _
 ·rw[List.concat_eq_append] at hX;subst hX;have:x=m:=by
   have:=congrArg List.getLast? e;rw[show Y++w::(X++[x])=(Y++w::X)++[x] by simp,List.getLast?_concat,List.getLast?_concat] at this;exact Option.some.inj this
  subst this;rw[show (w::(X++[x])).reverse=x::(X.reverse++[w]) by simp,fI,oE]
theorem zM7 {l:List P2}{g:P2}(hs:l.Pairwise ltP)(hne:l≠[])(hg:lexP g∨lexN g) :
  ∃ e1 e2,gL (qV l)=e1++e2∧Cut g e1 e2∧∀ q∈l,zH (subP q (addP (gp (qV l) 0) (sumP e1))) g≤0:=by
 by_cases h2:l.length<2
 ·match l,hne,h2 with
  | [p],_,_ =>
   refine⟨[],[],rfl,⟨fun _=>by simp,fun _=>by simp⟩,fun q hq=>?_⟩;rw[zaj.1 hq,show addP (gp (qV [p]) 0) (sumP [])=p from xA p];unfold zH subP;simp only;grind
 obtain⟨mn,mx,A,B,cl,ch,eS,mnl,mxl,hlt,hmx,hmn,_⟩:=mK (by omega) hs;have eE:gL (qV l)=yT (mx::(A++[mn])).reverse++yT (mn::(B++[mx])).reverse:=by
  unfold gL;rw[eS,if_pos (by simp only[zaw,zal];omega),show mn::(A.reverse++mx::B.reverse)++[gp (mn::(A.reverse++mx::B.reverse)) 0]=(mn::A.reverse)++mx::(B.reverse++[mn]) by simp,fJ];congr 1<;>congr 1<;>simp
 have e0:gp (qV l) 0=mn:=by rw[eS];rfl
 rw[e0,eE];have low:∀ e∈yT (mx::(A++[mn])).reverse,lexP e:=tN _ cl.dec;have high:∀ e∈yT (mn::(B++[mx])).reverse,lexN e:=rG _ ch.dec;have np:∀ g:P2,lexP g→lexN g→False:=fun g a b=>by unfold lexP lexN at *; grind
 have cut:∀(Y:List P2) (w:P2) (X:List P2),yT (Y++w::X).reverse=yT (w::X).reverse++yT (Y++[w]).reverse:=fun Y w X=>by
  rw[show (Y++w::X).reverse=X.reverse++w::Y.reverse by simp,fJ];simp
 rcases hg with hg | hg
 ·obtain⟨Y,w,X,e,h1,h3,h4⟩:=zX4 cl hg;refine⟨yT (w::X).reverse,yT (Y++[w]).reverse++yT (mn::(B++[mx])).reverse,?_,⟨fun _=>⟨fun x hx=>⟨low x ?_,wO _ h3 x hx⟩,fun x hx=>?_⟩,fun h=>(np g hg h).elim⟩,?_⟩
  ·rw[e,cut,zaA]
  ·rw[e,cut];exact zbJ _ hx
  ·rcases zae.1 hx with hx | hx
   ·exact .inr ⟨low x (by rw[e,cut];exact List.mem_append_right _ hx),wN _ h1 x hx⟩
   ·exact .inl (high x hx)
  ·rw[yF3 Y X (X':=mx::A) (m:=mn) (by rw[← e];simp)];exact h4
 ·obtain⟨Y,w,X,e,h1,h3,h4⟩:=high_cut ch hg;refine⟨yT (mx::(A++[mn])).reverse++yT (w::X).reverse,yT (Y++[w]).reverse,?_,⟨fun h=>(np g h hg).elim,fun _=>⟨fun x hx=>?_,fun x hx=>⟨high x ?_,wN _ h1 x hx⟩⟩⟩,?_⟩
  ·rw[e,cut,zaA]
  ·rcases zae.1 hx with hx | hx
   ·exact .inl (low x hx)
   ·exact .inr ⟨high x (by rw[e,cut];exact zbJ _ hx),wO _ h3 x hx⟩
  ·rw[e,cut];exact List.mem_append_right _ hx
  ·rw[zJ1,← qO,show (mx::(A++[mn])).reverse=mn::(A.reverse++[mx]) by simp,fI,oE,yF3 Y X (X':=mn::B) (m:=mx) (by rw[← e];simp)];exact h4
def outS (h k:List P2):List P2:=addP (gp h 0) (gp k 0)::wayS (addP (gp h 0) (gp k 0)) (mrg (gL h) (gL k))
theorem rE {h:List P2}:sumP (gL h)=(0,0):=by
 unfold gL;split
 ·match h with
  | a::r =>
   rw[show a::r++[gp (a::r) 0]=a::(r++[a]) from rfl,fI];unfold subP;rw[Prod.ext_iff];constructor<;>simp only<;>grind
 ·rfl
theorem zS7:∀(e1 e2:List P2) (at':P2),e1≠[]→e2≠[]→addP at' (sumP e1)∈wayS at' (e1++e2)
 | [],_,_,h,_=>absurd rfl h
 | [e],f::e2,a,_,_=>by simp only[zaS,zcn,wayS,sumP];rw[xA];simp
 | e::f::e1,e2,a,_,h=>by
  have:=zS7 (f::e1) e2 (addP a e) (by simp) h;rw[zaS,zaS,wayS,sumP,← qO];exact zbE _ this
 | [_],[],_,_,h=>absurd rfl h
theorem out_mem {h k e1 e2:List P2}(e:mrg (gL h) (gL k)=e1++e2):addP (addP (gp h 0) (gp k 0)) (sumP e1)∈outS h k:=by
 unfold outS;have z:addP (sumP e1) (sumP e2)=(0,0):=by rw[← zJ1,← e,zJ0,rE,rE];exact xA _
 by_cases c1:e1=[]
 ·subst c1;rw[show sumP []=(0,0) from rfl,xA];simp
 by_cases c2:e2=[]
 ·subst c2;rw[show sumP []=(0,0) from rfl,xA] at z;rw[z,xA];simp
 ·rw[e];exact zbE _ (zS7 e1 e2 _ c1 c2)
theorem out_sup {l m:List P2}(hl:l.Pairwise ltP)(hm:m.Pairwise ltP)(nl:l≠[])(nm:m≠[]){a b:P2}(ha:a∈l)(hb:b∈m):Sup (outS (qV l) (qV m)) (addP a b):=fun u v=>by
 by_cases hz:lexP (-v,u)∨lexN (-v,u)
 ·obtain⟨e1,e2,ee,ec,eb⟩:=zM7 hl nl hz;obtain⟨f1,f2,fe,fc,fb⟩:=zM7 hm nm hz;have h1:=tP hz ec fc;have h2:=tP hz fc ec;have em:mrg (gL (qV l)) (gL (qV m))=mrg e1 f1++mrg e2 f2:=by
   rw[ee,fe];exact mrg_cut h1 fun y hy x hx=>ahead_asym (h2 y hy x hx)
  refine⟨_,out_mem em,?_⟩;rw[zJ0];have k1:=eb a ha;have k2:=fb b hb;generalize gp (qV l) 0=p at *;generalize gp (qV m) 0=q at *;generalize sumP e1=s at *;generalize sumP f1=t at *;unfold zH subP addP at *; simp only at *; grind
 ·have hu:u=0:=by unfold lexP lexN at hz;simp only at hz;grind
  have hv:v=0:=by unfold lexP lexN at hz;simp only at hz;grind
  refine⟨_,List.mem_cons_self,?_⟩;rw[hu,hv];grind
theorem tG {h:List P2}(hne:h≠[]){e1 e2:List P2}(e:gL h=e1++e2):addP (gp h 0) (sumP e1)∈h:=by
 unfold gL at e;split at e
 ·match h,hne with
  | a::r,_ =>
   have e':yT (a::(r++[a]))=e1++e2:=e;have key:∀(r:List P2) (b z:P2) (e1:List P2),yT (b::(r++[z]))=e1++e2→addP b (sumP e1)∈b::(r++[z]):=fun r=>by
    induction r with
    | nil =>
     intro b z e1 e
     match e1,e with
     | [],_=>rw[show sumP []=(0,0) from rfl,xA];simp
     | [x],e=>
      simp only[zcn,yT,zaS,List.cons.injEq] at e;rw[← e.1,sumP,show sumP []=(0,0) from rfl,xA,oE];simp
     | x::y::s,e=>simp[yT] at e
    | cons c r ih =>
     intro b z e1 e
     match e1,e with
     | [],_=>rw[show sumP []=(0,0) from rfl,xA];simp
     | x::s,e =>
      rw[zaS,yT,zaS,List.cons.injEq] at e;have:=ih c z s e.2;rw[← e.1,sumP,← qO,oE];exact zbE _ this
   have:=key r a a e1 e';show addP a (sumP e1)∈a::r;simp only[zad,zae,zaj,zaR,or_false] at this ⊢;grind
 ·match h,hne with
  | a::r,_ =>
   obtain⟨rfl,rfl⟩:=List.append_eq_nil_iff.1 e.symm;rw[show sumP []=(0,0) from rfl,xA];simp
theorem mrg_pre (p q:List P2):∀ {s t:List P2},mrg p q=s++t→∃ p1 p2 q1 q2,p=p1++p2∧q=q1++q2∧sumP s=addP (sumP p1) (sumP q1):=by
 fun_induction mrg p q with
 | case1 q=>exact fun {s t} e=>⟨[],[],s,t,rfl,e,by rw[show sumP []=(0,0) from rfl,tY,xA]⟩
 | case2 a p=>exact fun {s t} e=>⟨s,t,[],[],e,rfl,by rw[show sumP []=(0,0) from rfl,xA]⟩
 | case3 a p b q h ih =>
  intro s t e
  match s,e with
  | [],e=>exact⟨[],_,[],_,rfl,rfl,by rw[show sumP []=(0,0) from rfl,xA]⟩
  | x::s,e =>
   rw[zaS,List.cons.injEq] at e;obtain⟨p1,p2,q1,q2,h1,h2,h3⟩:=ih e.2;exact⟨a::p1,p2,q1,q2,by rw[h1];rfl,h2,by rw[sumP,sumP,h3,← e.1,qO]⟩
 | case4 a p b q h ih =>
  intro s t e
  match s,e with
  | [],e=>exact⟨[],_,[],_,rfl,rfl,by rw[show sumP []=(0,0) from rfl,xA]⟩
  | x::s,e =>
   rw[zaS,List.cons.injEq] at e;obtain⟨p1,p2,q1,q2,h1,h2,h3⟩:=ih e.2;exact⟨p1,p2,b::q1,q2,h1,by rw[h2];rfl,by rw[sumP,sumP,h3,← e.1,← qO,tY b,qO]⟩
theorem yD4:∀(es:List P2) (at' c:P2),c∈wayS at' es→∃ s t,es=s++t∧c=addP at' (sumP s)
 | [],_,_,h=>by simp[wayS] at h
 | [_],_,_,h=>by simp[wayS] at h
 | e::f::l,a,c,h=>by
  rw[wayS] at h;rcases zad.1 h with rfl | h
  ·exact⟨[e],f::l,rfl,by rw[sumP,show sumP []=(0,0) from rfl,xA]⟩
  ·obtain⟨s,t,h1,h2⟩:=yD4 (f::l) _ c h;exact⟨e::s,t,by rw[h1];rfl,by rw[h2,sumP,qO]⟩
theorem out_of {h k:List P2}(hh:h≠[])(hk:k≠[]){c:P2}(hc:c∈outS h k):∃ a∈h,∃ b∈k,c=addP a b:=by
 have key:∀ s t,mrg (gL h) (gL k)=s++t→c=addP (addP (gp h 0) (gp k 0)) (sumP s)→∃ a∈h,∃ b∈k,c=addP a b:=fun s t e ec=>by
  obtain⟨p1,p2,q1,q2,h1,h2,h3⟩:=mrg_pre _ _ e;refine⟨_,tG hh h1,_,tG hk h2,?_⟩;rw[ec,h3];unfold addP;rw[Prod.ext_iff];constructor<;>simp only<;>grind
 unfold outS at hc;rcases zad.1 hc with rfl | hc
 ·exact key [] _ rfl (by rw[show sumP []=(0,0) from rfl,xA])
 ·obtain⟨s,t,h1,h2⟩:=yD4 _ _ _ hc;exact key s t h1 h2
theorem aJ:COrd cmpP:=⟨fun a b=>jC,fun a b=>by rw[aQ,aP],fun a b c h k=>by rw[← yI2] at *; exact cZ h.le k⟩
noncomputable def hullF (l:List P2):List P2:=qV (setOf cmpP l)
theorem eR (l:List P2):(setOf cmpP l).Pairwise ltP:=(gG aJ l).rise.imp fun h=>yI2.2 h
theorem jG (l:List P2):IsHull l (hullF l):=by
 have h:=hullS_ok (eR l);exact⟨h.poly,fun c hc=>(yM aJ).1 (h.sub c hc),fun q hq=>h.sup q ((yM aJ).2 hq)⟩
theorem zZ6 {l m:List P2}(h1:∀ q∈l,Sup m q)(h2:∀ q∈m,Sup l q):hullF l=hullF m:=hull_uniq (jG l) (jG m) h1 h2
theorem hull_congr {l m:List P2}(e:∀ q,q∈l↔q∈m):hullF l=hullF m:=zZ6 (fun q hq=>dM ((e q).1 hq)) fun q hq=>dM ((e q).2 hq)
theorem bM {l:List P2}:hullF l=[]↔l=[]:=by
 constructor
 ·intro h
  match l,h with
  | [],_=>rfl
  | p::r,h=>obtain⟨c,hc,_⟩:=(jG (p::r)).sup p (by simp) 0 0;rw[h] at hc;cases hc
 ·intro h;subst h
  match e:hullF [],(jG []).sub with
  | [],_=>rfl
  | p::r,k=>exact absurd (k p (by simp)) (by simp)
theorem iY (l:List P2):(hullF l).length≤l.length:=bK (jG l).poly.nd (jG l).sub
theorem hullS_fst {l:List P2}(hs:l.Pairwise ltP):∀ q∈l,leP (gp (qV l) 0) q:=fun q hq=>by
 by_cases h2:l.length<2
 ·match l,hq,h2 with
  | [p],hq,_=>rw[zaj.1 hq];exact jM _
 obtain⟨mn,mx,A,B,cl,ch,eS,mnl,mxl,hlt,hmx,hmn,_⟩:=mK (by omega) hs;rw[eS];exact hmn q hq
theorem hull_fst {l:List P2}:∀ q∈l,leP (gp (hullF l) 0) q:=fun q hq=>hullS_fst (eR l) q ((yM aJ).2 hq)
theorem dG (a b c:P2):trn a a c=0∧trn a b a=0∧trn a b b=0:=by unfold trn zH subP;simp only;grind
theorem hull_left {l:List P2}{q:P2}(hq:Sup (hullF l) q){i:Nat}(hi:i<(hullF l).length):0≤trn (gp (hullF l) i) (nx (hullF l) i) q:=by
 have p:=(jG l).poly;generalize hullF l=h at *;rcases zaf 2 h.length with h3 | h3
 ·exact jS (p.weak hi h3) hq
 ·match h,h3,hi with
  | [a],_,hi =>
   obtain rfl:i=0:=by simpa using hi
   rw[show nx [a] 0=a by simp[nx,gp],show gp [a] 0=a from rfl,(dG a a q).1];exact zaJ
  | [a,b],_,hi =>
   have:=zU6 rfl hq;rcases zaf i 1 with c | c
   ·obtain rfl:i=0:=by omega
    have:trn a b q=0:=this;rw[show nx [a,b] 0=b by simp[nx,gp],show gp [a,b] 0=a from rfl,this];exact zaJ
   ·obtain rfl:i=1:=by simp only[zaw,zbl] at hi;omega
    rw[show nx [a,b] 1=a by simp[nx,gp],show gp [a,b] 1=b from rfl];have:trn a b q=0:=this;unfold trn zH subP at *; simp only at *; grind
def gJ (a b:List P2):List P2:=a.flatMap fun x=>b.map fun y=>addP x y
theorem mF {a b:List P2}{q:P2}:q∈gJ a b ↔ ∃ x∈a,∃ y∈b,q=addP x y:=by
 unfold gJ;simp only[List.mem_flatMap,List.mem_map];exact⟨fun⟨x,hx,y,hy,e⟩=>⟨x,hx,y,hy,e.symm⟩,fun⟨x,hx,y,hy,e⟩=>⟨x,hx,y,hy,e.symm⟩⟩
noncomputable def sumF (a b:List P2):List P2:=hullF (gJ a b)
theorem sum_made {a b:List P2}(ha:a≠[])(hb:b≠[]):hullF (outS (hullF a) (hullF b))=sumF a b:=by
 refine zZ6 (fun q hq=>?_) fun q hq=>?_
 ·obtain⟨x,hx,y,hy,rfl⟩:=out_of (fun e=>ha (bM.1 e)) (fun e=>hb (bM.1 e)) hq;exact dM (mF.2 ⟨x,(jG a).sub x hx,y,(jG b).sub y hy,rfl⟩)
 ·obtain⟨x,hx,y,hy,rfl⟩:=mF.1 hq;have h:∀ {l:List P2} {x:P2},x∈l→setOf cmpP l≠[]:=fun {l x} hx e=>by have:=(yM aJ (l:=l)).2 hx;rw[e] at this;cases this
  exact out_sup (eR a) (eR b) (h hx) (h hy) ((yM aJ).2 hx) ((yM aJ).2 hy)
theorem zU8 {a b:List P2}:sumF a b=[]↔a=[]∨b=[]:=by
 unfold sumF;rw[bM];constructor
 ·intro h
  match a,b,h with
  | [],_,_=>exact .inl rfl
  | _::_,[],_=>exact .inr rfl
  | _::_,_::_,h=>simp[gJ] at h
 ·rintro(rfl | rfl)
  ·rfl
  ·simp[gJ]
theorem zS8:∀(es:List P2) (a:P2),(wayS a es).length=es.length-1
 | [],_=>rfl
 | [_],_=>rfl
 | e::f::l,a=>by rw[wayS,zaw,zS8 (f::l)];simp
theorem tO:∀ C:List P2,(yT C).length=C.length-1
 | []=>rfl
 | [_]=>rfl
 | a::b::r=>by rw[yT,zaw,tO (b::r)];simp
theorem tH (h:List P2):(gL h).length=if 1<h.length then h.length else 0:=by
 unfold gL;split
 ·rw[tO];simp
 ·rfl
theorem out_len (h k:List P2):(outS h k).length≤max 1 (h.length+k.length):=by
 unfold outS;rw[List.length_cons,zS8,mrg_len,tH,tH];split<;>split<;>omega
theorem sumF_len {a b:List P2}(ha:a≠[])(hb:b≠[]):(sumF a b).length≤a.length+b.length:=by
 rw[← sum_made ha hb];have h1:=iY (outS (hullF a) (hullF b));have h2:=out_len (hullF a) (hullF b);have h3:=iY a;have h4:=iY b;have:=List.length_pos_iff.2 ha;omega
theorem yP2 (x:Rat):0≤x*x:=by
 rcases (Rat.le_total:0≤x∨x≤0) with hx | hx
 ·exact zaF hx hx
 ·have:=zaF (show 0 ≤ -x by grind) (show 0 ≤ -x by grind);grind
theorem yA8 {c n:P2}(h:c≠n):0<(n.1-c.1)*(n.1-c.1)+(n.2-c.2)*(n.2-c.2):=by
 have s1:=yP2 (n.1-c.1);have s2:=yP2 (n.2-c.2);refine Classical.byContradiction fun k=>h ?_;have z1:(n.1-c.1)*(n.1-c.1)=0:=by grind
 have z2:(n.2-c.2)*(n.2-c.2)=0:=by grind
 exact zbd.2 ⟨by rcases zbo.1 z1 with h | h<;>grind,by rcases zbo.1 z2 with h | h<;>grind⟩
theorem seg_two {c n q:P2}(hcn:c≠n)(h:∀ u v:Rat,u*q.1+v*q.2≤u*c.1+v*c.2∨u*q.1+v*q.2≤u*n.1+v*n.2):∃ t:Rat,0≤t∧t≤1∧q.1=c.1+t*(n.1-c.1)∧q.2=c.2+t*(n.2-c.2):=by
 have h1:=h (n.2-c.2) (-(n.1-c.1));have h2:=h (-(n.2-c.2)) (n.1-c.1);have hz:trn c n q=0:=by unfold trn zH subP;simp only;grind
 obtain⟨t,e1,e2⟩:=dV hz hcn;have hd:=yA8 hcn;have h3:=h (n.1-c.1) (n.2-c.2);have h4:=h (-(n.1-c.1)) (-(n.2-c.2));rw[e1,e2] at h3 h4;refine⟨t,aV hd ?_,?_,e1,e2⟩
 ·grind
 ·have:=aV (x:=1-t) hd (by grind);grind
theorem Poly.seg {h:List P2}(p:Poly h)(h2:2≤h.length){i:Nat}(hi:i<h.length){q:P2}(hq:Sup h q) :
  0<trn (gp h i) (nx h i) q ∨ ∃ t:Rat,0≤t∧t≤1∧q.1=(gp h i).1+t*((nx h i).1-(gp h i).1)∧q.2=(gp h i).2+t*((nx h i).2-(gp h i).2):=by
 have hcn:gp h i≠nx h i:=fun e=>cY hi h2 (cM p.nd hi (gK hi) e).symm;rcases zaf 2 h.length with h3 | h3
 ·by_cases k:0<trn (gp h i) (nx h i) q
  ·exact .inl k
  have w:=jS (p.weak hi h3) hq;obtain⟨t,e1,e2⟩:=dV (show trn (gp h i) (nx h i) q=0 by grind) hcn;refine .inr ⟨t,?_,?_,e1,e2⟩
  ·obtain⟨j,hj,ej⟩:=eT hi;have w2:=jS (p.weak hj h3) hq;have hne:(i+1)%h.length≠j:=fun e2=>by
    have h6:(j+1)%h.length=i:=ej;rw[← e2] at h6;rcases zaf (i+1) h.length with c | c
    ·rw[zao c] at h6;rcases zaf (i+1+1) h.length with d | d
     ·rw[zao d] at h6;omega
     ·rw[show i+1+1=h.length by omega,zbs] at h6;omega
    ·rw[show i+1=h.length by omega,zbs,zao (by omega)] at h6;omega
   have k3:=p.conv h3 j ((i+1)%h.length) hj (gK hi) hne (by rw[ej];exact cY hi (by omega));unfold nx at *;rw[ej] at w2 k3;have e:trn (gp h j) (gp h i) q=trn (gp h j) (gp h i) (gp h ((i+1)%h.length))*t:=by unfold trn zH subP;simp only;rw[e1,e2];grind
   rw[e] at w2;exact aV k3 w2
  ·have w2:=jS (p.weak (gK hi) h3) hq;have hne:((i+1)%h.length+1)%h.length≠i:=fun h6=>by
    rcases zaf (i+1) h.length with c | c
    ·rw[zao c] at h6;rcases zaf (i+1+1) h.length with d | d
     ·rw[zao d] at h6;omega
     ·rw[show i+1+1=h.length by omega,zbs] at h6;omega
    ·rw[show i+1=h.length by omega,zbs,zao (by omega)] at h6;omega
   have k3:=p.conv h3 i _ hi (gK (gK hi)) hne (cY (gK hi) h2);unfold nx at *;have e:trn (gp h ((i+1)%h.length)) (gp h (((i+1)%h.length+1)%h.length)) q=trn (gp h i) (gp h ((i+1)%h.length)) (gp h (((i+1)%h.length+1)%h.length))*(1-t):=by unfold trn zH subP;simp only;rw[e1,e2];grind
   rw[e] at w2;have:=aV k3 w2;grind
 ·refine .inr (seg_two hcn fun u v=>?_);obtain⟨x,hx,k⟩:=hq u v;obtain⟨m,hm,rfl⟩:=fZ hx;by_cases c:m=i
  ·subst c;exact .inl k
  ·have:(i+1)%h.length=m:=by
    have h5:=gK hi;have h6:=cY hi h2;omega
   unfold nx;rw[this];exact .inr k
theorem Poly.far {h:List P2}(p:Poly h)(h2:2≤h.length){i:Nat}(hi:i<h.length):∃ u v:Rat,∀ q,Sup h q→q≠gp h i→u*(gp h i).1+v*(gp h i).2<u*q.1+v*q.2:=by
 have hcn:gp h i≠nx h i:=fun e=>cY hi h2 (cM p.nd hi (gK hi) e).symm;rcases zaf 2 h.length with h3 | h3
 ·obtain⟨j,hj,ej⟩:=eT hi;have hne:(i+1)%h.length≠j:=fun e2=>by
   have h6:(j+1)%h.length=i:=ej;rw[← e2] at h6;rcases zaf (i+1) h.length with c | c
   ·rw[zao c] at h6;rcases zaf (i+1+1) h.length with d | d
    ·rw[zao d] at h6;omega
    ·rw[show i+1+1=h.length by omega,zbs] at h6;omega
   ·rw[show i+1=h.length by omega,zbs,zao (by omega)] at h6;omega
  have k3:=p.conv h3 j ((i+1)%h.length) hj (gK hi) hne (by rw[ej];exact cY hi (by omega));have w1:=fun q hq=>jS (q:=q) (p.weak hi h3) hq;have w2:=fun q hq=>jS (q:=q) (p.weak hj h3) hq;unfold nx at *;rw[ej] at w2 k3;generalize gp h i=c at *;generalize gp h ((i+1)%h.length)=n at *;generalize gp h j=r at *;refine⟨-((n.2-c.2)+(c.2-r.2)),(n.1-c.1)+(c.1-r.1),fun q hq hqc=>?_⟩;have a1:=w1 q hq;have a2:=w2 q hq;refine Classical.byContradiction fun hn=>hqc ?_;have z1:trn c n q=0:=by unfold trn zH subP at *; simp only at *; grind
  have z2:trn r c q=0:=by unfold trn zH subP at *; simp only at *; grind
  have e1:trn r c n*(q.1-c.1)=0:=by unfold trn zH subP at *; simp only at *; grind
  have e2:trn r c n*(q.2-c.2)=0:=by unfold trn zH subP at *; simp only at *; grind
  rcases zbo.1 e1 with f | f
  ·grind
  rcases zbo.1 e2 with g | g
  ·grind
  exact zbd.2 ⟨by grind,by grind⟩
 ·have hd:=yA8 hcn;refine⟨(nx h i).1-(gp h i).1,(nx h i).2-(gp h i).2,fun q hq hqc=>?_⟩;rcases p.seg h2 hi hq with k | ⟨t,zA0,zA1,e1,e2⟩
  ·have hz:trn (gp h i) (nx h i) q=0:=by
    have hm:∀ x∈h,trn (gp h i) (nx h i) x=0:=fun x hx=>by
     obtain⟨m,hm,rfl⟩:=fZ hx;by_cases c:m=i
     ·subst c;exact(dG _ _ (gp h m)).2.1
     ·have:(i+1)%h.length=m:=by
       have h5:=gK hi;have h6:=cY hi h2;omega
      unfold nx;rw[this];exact(dG _ _ (gp h m)).2.2
    have a1:=jS (s:=gp h i) (t:=nx h i) (fun x hx=>by rw[hm x hx];exact zaJ) hq;have a2:=jS (s:=nx h i) (t:=gp h i) (fun x hx=>by have:=hm x hx;unfold trn zH subP at *; simp only at *; grind) hq;unfold trn zH subP at *; simp only at *; grind
   rw[hz] at k;exact absurd k (by grind)
  ·have tp:0<t:=Classical.byContradiction fun c=>hqc (by
    have:t=0:=by grind
    rw[zbd,e1,e2,this];constructor<;>grind)
   have:=zaK tp hd;rw[e1,e2];grind
def gV (a best x:P2):P2:=if x=a then best else if best=a then x else if trn a best x<0∨trn a best x=0∧farP a best<farP a x then x else best
def dS (l:List P2)(a:P2):P2:=l.foldl (gV a) a
theorem far_seg {c n q:P2}{t:Rat}(ht:0≤t)(e1:q.1=c.1+t*(n.1-c.1))(e2:q.2=c.2+t*(n.2-c.2)):farP c q=t*farP c n:=by
 have h:∀ x:Rat,absR (t*x)=t*absR x:=fun x=>by
  unfold absR;by_cases c1:x<0
  ·rw[if_pos c1];by_cases c2:t*x<0
   ·rw[if_pos c2];grind
   ·rw[if_neg c2];have:=zaF ht (show 0 ≤ -x by grind);grind
  ·rw[if_neg c1,if_neg];have:=zaF ht (show 0≤x by grind);grind
 unfold farP;rw[e1,e2,show c.1-(c.1+t*(n.1-c.1))=t*(c.1-n.1) by grind,show c.2-(c.2+t*(n.2-c.2))=t*(c.2-n.2) by grind,h,h];grind
theorem far_pos {c n:P2}(h:c≠n):0<farP c n:=by
 have k:∀ x:Rat,0≤absR x∧(absR x=0→x=0):=fun x=>by unfold absR;split<;>grind
 unfold farP;have a:=k (c.1-n.1);have b:=k (c.2-n.2);refine Classical.byContradiction fun z=>h (zbd.2 ⟨?_,?_⟩)
 ·have:=a.2 (by grind);grind
 ·have:=b.2 (by grind);grind
theorem yT5 {c:P2}{u v:Rat}:∀(l pre:List P2) (best:P2),(∀ q∈pre++l,q≠c→u*c.1+v*c.2<u*q.1+v*q.2) →
  ((best=c∧∀ q∈pre,q=c)∨best∈pre∧best≠c∧∀ q∈pre,q≠c→0<trn c best q∨trn c best q=0∧farP c q≤farP c best) →
  (l.foldl (gV c) best=c∧∀ q∈pre++l,q=c)∨l.foldl (gV c) best∈pre++l∧l.foldl (gV c) best≠c∧∀ q∈pre++l,q≠c→0<trn c (l.foldl (gV c) best) q∨trn c (l.foldl (gV c) best) q=0∧farP c q≤farP c (l.foldl (gV c) best)
 | [],pre,best,_,h=>by simpa using h
 | x::l,pre,best,hf,h=>by
  have key:=yT5 l (pre++[x]) (gV c best x) (by simpa using hf) ?_
  ·simpa using key
  unfold gV;by_cases hx:x=c
  ·rw[if_pos hx];rcases h with⟨h1,h2⟩ | ⟨h1,h2,h3⟩
   ·refine .inl ⟨h1,fun q hq=>?_⟩;rcases zae.1 hq with hq | hq
    ·exact h2 q hq
    ·rw[zaj.1 hq,hx]
   ·refine .inr ⟨zbJ _ h1,h2,fun q hq hqc=>?_⟩;rcases zae.1 hq with hq | hq
    ·exact h3 q hq hqc
    ·exact absurd ((zaj.1 hq).trans hx) hqc
  rw[if_neg hx];rcases h with⟨h1,h2⟩ | ⟨h1,h2,h3⟩
  ·rw[if_pos h1];refine .inr ⟨by simp,hx,fun q hq hqc=>?_⟩;rcases zae.1 hq with hq | hq
   ·exact absurd (h2 q hq) hqc
   ·rw[zaj.1 hq];exact .inr ⟨(dG c x x).2.2,zaJ⟩
  rw[if_neg h2];have fx:=hf x (by simp) hx;have fb:=hf best (by simp[h1]) h2;by_cases hb:trn c best x<0∨trn c best x=0∧farP c best<farP c x
  ·rw[if_pos hb];refine .inr ⟨by simp,hx,fun q hq hqc=>?_⟩;rcases zae.1 hq with hq | hq
   ·have fq:=hf q (by simp[hq]) hqc;have e:((u*best.1+v*best.2)-(u*c.1+v*c.2))*trn c x q=((u*x.1+v*x.2)-(u*c.1+v*c.2))*trn c best q+((u*q.1+v*q.2)-(u*c.1+v*c.2)) * -trn c best x:=by unfold trn zH subP;simp only;grind
    have pb:0<(u*best.1+v*best.2)-(u*c.1+v*c.2):=by grind
    have px:0<(u*x.1+v*x.2)-(u*c.1+v*c.2):=by grind
    have pq:0<(u*q.1+v*q.2)-(u*c.1+v*c.2):=by grind
    generalize (u*best.1+v*best.2)-(u*c.1+v*c.2)=B at *;generalize (u*x.1+v*x.2)-(u*c.1+v*c.2)=Xx at *;generalize (u*q.1+v*q.2)-(u*c.1+v*c.2)=Q at *;rcases h3 q hq hqc with g | ⟨g,g2⟩
    ·refine .inl (eV pb ?_);have m1:=zaK px g;have m2:=zaF (zaM pq) (show 0 ≤ -trn c best x by grind);grind
    ·rcases hb with hb | ⟨hb,hb2⟩
     ·refine .inl (eV pb ?_);have m2:=zaK pq (show 0 < -trn c best x by grind);rw[e,g];grind
     ·refine .inr ⟨?_,Rat.le_trans g2 (zaM hb2)⟩;have:B*trn c x q=0:=by rw[e,g,hb];grind
      rcases zbo.1 this with z | z
      ·rw[z] at pb;exact absurd pb (by grind)
      ·exact z
   ·rw[zaj.1 hq];exact .inr ⟨(dG c x x).2.2,zaJ⟩
  ·rw[if_neg hb];refine .inr ⟨zbJ _ h1,h2,fun q hq hqc=>?_⟩;rcases zae.1 hq with hq | hq
   ·exact h3 q hq hqc
   ·rw[zaj.1 hq];by_cases z:trn c best x=0
    ·exact .inr ⟨z,by grind⟩
    ·exact .inl (by grind)
theorem next_ok {l:List P2}(h2:2≤(hullF l).length){i:Nat}(hi:i<(hullF l).length):dS l (gp (hullF l) i)=nx (hullF l) i:=by
 have k:=jG l;obtain⟨u,v,hf⟩:=k.poly.far h2 hi;have hcn:gp (hullF l) i≠nx (hullF l) i:=fun e=>cY hi h2 (cM k.poly.nd hi (gK hi) e).symm;have hn:=k.sub _ (jI (gK hi));have key:=yT5 (c:=gp (hullF l) i) (u:=u) (v:=v) l [] (gp (hullF l) i) (fun q hq hqc=>hf q (k.sup q (by simpa using hq)) hqc) (.inl ⟨rfl,by simp⟩);rw[zcn] at key;change ((dS l (gp (hullF l) i))=_∧_)∨(dS l (gp (hullF l) i))∈l∧(dS l (gp (hullF l) i))≠_∧∀ q∈l,q≠_→0<trn _ (dS l (gp (hullF l) i)) q∨trn _ (dS l (gp (hullF l) i)) q=0∧_≤farP _ (dS l (gp (hullF l) i)) at key;generalize dS l (gp (hullF l) i)=best at *;rcases key with⟨_,h⟩ | ⟨h3,h4,h5⟩
 ·exact absurd (h _ hn).symm hcn
 have g:=h5 _ hn (Ne.symm hcn);have hs:=k.poly.seg h2 hi (k.sup best h3);unfold nx at *;generalize gp (hullF l) i=c at *;generalize gp (hullF l) ((i+1)%(hullF l).length)=n at *;have e0:trn c best n = -trn c n best:=by unfold trn zH subP;simp only;grind
 rcases hs with hs | ⟨t,zA0,zA1,e1,e2⟩
 ·rw[e0] at g;grind
 ·have ez:trn c n best=0:=by unfold trn zH subP;simp only;rw[e1,e2];grind
  rcases g with g | ⟨_,g⟩
  ·rw[e0,ez] at g;exact absurd g (by grind)
  ·rw[far_seg zA0 e1 e2] at g;have fp:=far_pos hcn;have:t=1:=by
    refine Classical.byContradiction fun c0=>?_;have:=zaK (show 0<1-t by grind) fp;grind
   rw[zbd,e1,e2,this];constructor<;>grind
end Go.SL
namespace Go.Proofs.YtalkinejknjidaaGreatDoor
open Go.SL Go.RowKit Go.Proofs Tryz
section
variable {Ψ Φ : PV} {n m N : Nat} {p q : P2} {a b : List P2}
theorem vpt_pl [h:VPt Ψ n a]{M:Nat→Prop}{w:World}{v:Value}(h1:Ψ.p M w v):∀ x∈a,plen x (n+1):=fun x hx=>by
 obtain⟨cs,h3,h2⟩:=(h.h h1).row;obtain⟨i,hi,rfl⟩:=zbf.1 hx;obtain⟨us,_,_,s,x,d,t,b,e,_,g⟩:=h2 i _ (zag hi);exact⟨g.x.rlen,g.y.rlen⟩
end
theorem ps_nil0 {k:Nat}:PSub (exP (.slice none 0 0)) (sv (sl k [])):=fun M w v h=>by
 obtain rfl:v = .slice none 0 0:=h;exact⟨_,[],rfl,⟨by simp,by simp,none,0,rfl,zab _,.inl rfl⟩,rfl,by simp[uD]⟩
theorem sub_nought (p:P2):subP (((0:Nat):Rat),((0:Nat):Rat)) p=negP p:=by
 unfold subP negP;rw[Prod.ext_iff];constructor<;>simp only<;>grind
theorem k8neg {Ψ:PV}{p:P2}{n:Nat}[h:QP Ψ n p](hn:n≤800):CTy prog 256 [Ψ] (ag (ptc (n+5) (negP p))):=by
 refine yI (σs:=[ag (ptq n p)]) ?_ (fs1 qp_q fs0);refine fw [.cell 2 39] func256 fun X=>?_;iterate 3 refine u ?_
 refine u fun b2=>?_;iterate 2 refine u ?_
 refine zK 3 mixed rfl rfl ?_;repeat refine u ?_
 refine zC rfl rfl (k8of (by(simp;done)) (by(simp;done))) ?_;repeat refine u ?_
 refine zC rfl rfl (pW (by omega) (by omega)) ?_;repeat refine u ?_
 refine zD 0 rfl rfl ?_;repeat refine u ?_
 refine⟨[_],zL 0 rfl rs0,yC ?_⟩;exact oZ (p:=subP (((0:Nat):Rat),((0:Nat):Rat)) p) (sub_nought p) (by omega)
theorem k8alike {p q:P2}{n m:Nat}(hn:n≤1990)(hm:m≤1990):CTy prog 121 [ag (ptc n p),ag (ptc m q)] (exP (.bool (decide (p=q)))):=by
 refine fw [.tmp 4] func121 fun X=>?_;repeat refine u ?_
 refine zB rfl rfl (yK3 (by omega) (by omega)) ?_;repeat refine u ?_
 refine t1g rfl rfl (oca rfl rfl fun g=>yK3 (by omega) (by omega)) ?_;repeat refine u ?_
 refine e ?_;refine psb ?_;rw[← Bool.decide_and,decide_eq_decide,zbd]
theorem pcx_n {n:Nat}{l:List PX}(h:∀ a∈l,big2 a≤n):PSub (sv (pcx l)) (sv (pcs n (l.map px))):=fun M w v k=>by
 unfold pcx pcs at *;rw[List.map_map];exact cQ (f:=ptx) (g:=ptq n ∘ px) (fun a ha _ _ _=>by
  have:=h a ha;unfold big2 m4 at this;dsimp only at this;exact yP9 a (by omega) (by omega) (by omega) (by omega)) (fun _=>rfl) k
theorem sum_len' (a b:List P2):(sumF a b).length≤a.length+b.length:=by
 by_cases ha:a=[]
 ·rw[zU8.2 (.inl ha)];simp
 by_cases hb:b=[]
 ·rw[zU8.2 (.inr hb)];simp
 exact sumF_len ha hb
instance:TAr prog 100 3 6:=⟨_,_,_,_,_,underlying100,sz39,yF2,rfl⟩
theorem cp_q {c:CT}{n:Nat}{q:P2}[h:CP c n q]{M:Nat→Prop}{w:World}{us:List Value}(k:c.p M w us):(ptq n q).p M w us:=by
 obtain⟨us',e,k'⟩:=qp_q (Ψ:=ag c) (n:=n) (q:=q) M w (.agg us.toArray) ⟨us,rfl,k⟩;have:us=us':=by simpa using e
 rw[this];exact k'
theorem tri_q {c1 c2 c3:CT}{m:Nat}{a b c:P2}[h1:CP c1 m a][h2:CP c2 m b][h3:CP c3 m c]:PSub (ag (st [c1,c2,c3])) (ag (st [ptq m a,ptq m b,ptq m c])):=fun M w v ⟨us,e,x,y,e1,k1,x2,y2,e2,k2,x3,y3,e3,k3,k4⟩ =>
 ⟨us,e,x,y,e1,cp_q k1,x2,y2,e2,cp_q k2,x3,y3,e3,cp_q k3,k4⟩
theorem k18corn {n:Nat}{a b c:P2}:CTy prog 97 [ag (st [ptq n a,ptq n b,ptq n c])] (sv (sl 6 ([a,b,c].map (ptq n)))):=by
 refine fw [.tmp 2] func97 fun X=>?_;repeat refine u ?_
 refine zA1 (oia 0 rfl rfl rfl rfl rfl) ?_;repeat refine u ?_
 refine zA1 (oia 1 rfl rfl rfl rfl rfl) ?_;repeat refine u ?_
 refine zA1 (oia 2 rfl rfl rfl rfl rfl) ?_;repeat refine u ?_
 exact e
theorem yG4 {d:PX}{n:Nat}(h:big2 d≤n){M:Nat→Prop}{w:World}{us:List Value}(k:(ptx d).p M w us):(ptq n (px d)).p M w us:=by
 unfold big2 m4 at h;dsimp only at h;exact yP9 d (by omega) (by omega) (by omega) (by omega) k
theorem trx_c {a b c:PX}{n:Nat}(h1:big2 a≤n)(h2:big2 b≤n)(h3:big2 c≤n):∀ M w us,(st [ptx a,ptx b,ptx c]).p M w us→(st [ptq n (px a),ptq n (px b),ptq n (px c)]).p M w us:=fun M w us ⟨x,y,e1,k1,x2,y2,e2,k2,x3,y3,e3,k3,k4⟩ =>
 ⟨x,y,e1,yG4 h1 k1,x2,y2,e2,yG4 h2 k2,x3,y3,e3,yG4 h3 k3,k4⟩
theorem k18cornc {c1 c2 c3:CT}{m:Nat}{a b c:P2}[h1:CP c1 m a][h2:CP c2 m b][h3:CP c3 m c]:CTy prog 97 [ag (st [c1,c2,c3])] (sv (sl 6 ([a,b,c].map (ptq m)))):=yI k18corn (fs1 tri_q fs0)
abbrev TX3:=PX×PX×PX
def trx (t:TX3):CT:=st [ptx t.1,ptx t.2.1,ptx t.2.2]
def trl (t:TX3):List PX:=[t.1,t.2.1,t.2.2]
instance:Df TX3:=⟨(Df.d,Df.d,Df.d)⟩
theorem zM5 {a b c:PX}:CTy prog 97 [ag (st [ptx a,ptx b,ptx c])] (sv (pcx [a,b,c])):=by
 refine fw [.tmp 2] func97 fun X=>?_;repeat refine u ?_
 refine zA1 (oia 0 rfl rfl rfl rfl rfl) ?_;repeat refine u ?_
 refine zA1 (oia 1 rfl rfl rfl rfl rfl) ?_;repeat refine u ?_
 refine zA1 (oia 2 rfl rfl rfl rfl rfl) ?_;repeat refine u ?_
 exact e
def rA (l:List TX3):Bool:=decide (8<l.length) || l.any fun t=>gr18 (trl t)
theorem gtris_at {l:List TX3}{i:Nat}(h:i<l.length)(k:gr18 (trl (l.getD i Df.d))=true):rA l=true:=by
 rw[zah,zag h,zbv] at k;unfold rA;rw[Bool.or_eq_true];exact .inr (List.any_eq_true.2 ⟨_,zaQ h,k⟩)
theorem kgtris {l:List TX3}:CTy prog 96 [sv (sl 18 (l.map trx))] (exP (.bool (rA l))):=by
 refine fw [.tmp 2] func96 fun X=>?_;repeat refine u ?_
 refine lp (σ:=Nat) [0] (fun i=>[(3,True,zJ i)]) (fun i=>[]) (fun i=>i≤l.length∧i≤9∧∀ j,j<i→gr18 (trl (l.getD j Df.d))=false) (fun i=>l.length-i) (0) (⟨by omega,by omega,by omega⟩) fun i hJ Y _=>?_;obtain⟨hi,h9,hs⟩:=hJ;repeat refine u ?_
 refine ti (fun c0=>?_) fun c0=>?_;repeat refine u ?_
 refine zA1 (oix _ rfl rfl rfl (fun _=>rfl) (fun _=>(by(have e0:=dand c0;omega)))) ?_;repeat refine u ?_
 refine zB rfl rfl zM5 ?_;refine zB rfl rfl kg18 ?_;repeat refine u ?_
 refine ti (fun c1=>?_) fun c1=>?_;repeat refine u ?_
 refine e ?_;refine psb ?_;rotate_left;repeat refine u ?_
 rotate_left;repeat refine u ?_
 refine e ?_;refine psb ?_;rotate_left
 ·have:=dand c0;exact(gtris_at (i:=i) (by omega) c1.h).symm
 ·have:=dand c0;refine nxt (i+1) ?_;refine⟨by omega,by omega,fun j hj=>?_⟩;rcases zaf j i with c | c
  ·exact hs j c
  ·rw[show j=i by omega];exact c1.h
 ·have:=dor c0;unfold rA;rw[zcA,zcf,decide_eq_true_eq,decide_eq_true_eq,List.any_eq_true];refine⟨fun h => .inl (by omega),fun h=>?_⟩;rcases h with h | ⟨a,ha,h⟩
  ·omega
  ·obtain⟨k,hk,rfl⟩:=zbf.1 ha;rcases zaf k i with c | c
   ·have h2:=hs k c;rw[zah,zag hk,zbv,h] at h2;cases h2
   ·omega
theorem yS8 {Ψ:PV}{p:Rat}{n:Nat}[h:QR Ψ n p](hn:n≤900):CTy prog 191 [Ψ] (ag (rtc (n+5) (absR p))):=by
 refine yI (σs:=[ag (rtq n p)]) ?_ (fs1 qr_q fs0);refine fw [.cell 2 29] func191 fun X=>?_;iterate 3 refine u ?_
 refine u fun b2=>?_;repeat refine u ?_
 refine zB rfl rfl (yK4 (by omega)) ?_;repeat refine u ?_
 refine ti (fun c0=>?_) fun c0=>?_;refine u ?_;refine zK 3 mixed rfl rfl ?_;repeat refine u ?_
 refine zC rfl rfl (k7of (by(simp;done))) ?_;repeat refine u ?_
 refine zC rfl rfl (zZ1 (by omega) (by omega)) ?_;repeat refine u ?_
 refine e ?_;rotate_left;repeat refine u ?_
 refine zB rfl rfl (aW (by omega)) ?_;repeat refine u ?_
 refine e ?_;rotate_left
 ·have h:=eQ.1 (dt c0);exact bH (by omega) (by unfold absR;rw[if_pos h];grind)
 ·have h:¬ p<0:=fun k=>df c0 (eQ.2 k);exact bH (by omega) (by unfold absR;rw[if_neg h])
theorem k20turn {Ψ Φ Θ:PV}{a b c:P2}{n m k:Nat}[h1:QP Ψ n a][h2:QP Φ m b][h3:QP Θ k c](hn:n≤90)(hm:m≤90)(hk:k≤90):CTy prog 344 [Ψ,Φ,Θ] (exP (.int .i64 (sgnR (trn a b c)))):=by
 refine yI (σs:=[ag (ptq n a),ag (ptq m b),ag (ptq k c)]) ?_ (fs1 qp_q (fs1 qp_q (fs1 qp_q fs0)));refine fw [.tmp 6] func344 fun X=>?_;iterate 8 refine u ?_
 refine zK 9 mixed rfl rfl ?_;repeat refine u ?_
 refine zC rfl rfl (pW (by omega) (by omega)) ?_;repeat refine u ?_
 refine zC rfl rfl (pW (by omega) (by omega)) ?_;refine zC rfl rfl (k8cross (by omega) (by omega)) ?_;refine zC rfl rfl (yK4 (by omega)) ?_;repeat refine u ?_
 exact e
theorem yS6 {Ψ Φ:PV}{a b:P2}{n m:Nat}[h1:QP Ψ n a][h2:QP Φ m b](hn:n≤90)(hm:m≤90):CTy prog 116 [Ψ,Φ] (ag (rtc (2*(n+m+8)+8) (farP a b))):=by
 refine yI (σs:=[ag (ptq n a),ag (ptq m b)]) ?_ (fs1 qp_q (fs1 qp_q fs0));refine fw [.cell 4 29] func116 fun X=>?_;iterate 4 refine u ?_
 refine u fun b4=>?_;repeat refine u ?_
 refine zB rfl rfl (pW (by omega) (by omega)) ?_;refine u fun b5=>?_;refine zD 0 rfl rfl (zO (zY (s:=5) 0 rfl rfl) ?_);iterate 2 refine u ?_
 refine zK 8 mixed rfl rfl ?_;repeat refine u ?_
 refine zC rfl rfl (yS8 (by omega)) ?_;repeat refine u ?_
 refine zC rfl rfl (yS8 (by omega)) ?_;repeat refine u ?_
 refine zC rfl rfl (zZ2 (by omega)) ?_;repeat refine u ?_
 refine zD 0 rfl rfl ?_;repeat refine u ?_
 refine⟨[_],zL 0 rfl rs0,yC ?_⟩;exact bH (by omega) rfl
theorem k20next {l:List P2}{a:P2}{n:Nat}(hn:n≤90)(hl:l.length≤1000):CTy prog 309 [sv (sl 6 (l.map (ptc n))),ag (ptc n a)] (ag (ptc n (dS l a))):=by
 refine fw [.cell 4 39] func309 fun X=>?_;iterate 3 refine u ?_
 refine u fun b4=>?_;iterate 4 refine u ?_
 refine u fun b5=>?_;refine zD 0 rfl rfl ?_;repeat refine u ?_
 have step:∀ i,i<l.length→(l.take (i+1)).foldl (gV a) a=gV a ((l.take i).foldl (gV a) a) (gp l i):=fun i hi=>by
  rw[(zT (Df.d:P2) hi).1,List.foldl_append];rfl
 refine lp (σ:=Nat) [0,3,4,5] (fun i=>[(6,True,zJ i)]) (fun i=>[.blk b5 39 [ptc n ((l.take i).foldl (gV a) a)],.blk b4 39 (zc (.agg #[.bool false,.slice none 0 0,.slice none 0 0,.bool false,.slice none 0 0,.slice none 0 0]))]) (fun i=>i≤l.length) (fun i=>l.length-i) (0) ((by simp)) fun i hJ Y _=>?_;generalize hb:(l.take i).foldl (gV a) a=best;repeat refine u ?_
 refine ti (fun c0=>?_) fun c0=>?_;iterate 5 refine u ?_
 refine zK 6 mixed rfl rfl ?_;repeat refine u ?_
 refine d1 (oix _ rfl rfl rfl (fun _=>rfl) (fun _=>(by(have e0:=dt c0;omega)))) ?_;repeat refine u ?_
 refine zC rfl rfl (nV (by omega) (by omega)) ?_;repeat refine u ?_
 refine ti (fun c1=>?_) fun c1=>?_;repeat refine u ?_
 rotate_left;repeat refine u ?_
 refine zB rfl rfl (nV (by omega) (by omega)) ?_;repeat refine u ?_
 refine ti (fun c2=>?_) fun c2=>?_;repeat refine u ?_
 refine zA1 (oix _ rfl rfl rfl (fun _=>rfl) (fun _=>(by(have e0:=dt c0;have e1:=df c1;have e2:=dt c2;omega)))) ?_;repeat refine u ?_
 refine zD 0 rfl rfl ?_;repeat refine u ?_
 rotate_left;iterate 2 refine u ?_
 refine zK 8 mixed rfl rfl ?_;repeat refine u ?_
 refine d1 (oix _ rfl rfl rfl (fun _=>rfl) (fun _=>(by(have e0:=dt c0;have e1:=df c1;have e2:=df c2;omega)))) ?_;repeat refine u ?_
 refine zC rfl rfl (k20turn (by omega) (by omega) (by omega)) ?_;iterate 5 refine u ?_
 refine zK 19 mixed rfl rfl ?_;repeat refine u ?_
 refine d1g rfl rfl (oca rfl rfl fun g=>yS6 (by omega) (by omega)) ?_;repeat refine u ?_
 refine d1g rfl rfl (oix _ rfl rfl rfl (fun g=>rfl) (fun g=>(by(have e0:=dt c0;have e1:=df c1;have e2:=df c2;omega)))) ?_;repeat refine u ?_
 refine d1g rfl rfl (oca rfl rfl fun g=>yS6 (by omega) (by omega)) ?_;refine d1g rfl rfl (oca rfl rfl fun g=>yK6 (by omega) (by omega)) ?_;repeat refine u ?_
 refine ti (fun c3=>?_) fun c3=>?_;repeat refine u ?_
 refine zA1 (omv rfl) ?_;refine zA1 (omv rfl) ?_;refine zA1 (oix _ rfl rfl rfl (fun _=>rfl) (fun _=>(by(have e0:=dt c0;have e1:=df c1;have e2:=df c2;omega)))) ?_;repeat refine u ?_
 refine zD 0 rfl rfl ?_;repeat refine u ?_
 refine zA1 (omv rfl) ?_;repeat refine u ?_
 rotate_left;repeat refine u ?_
 rotate_left;repeat refine u ?_
 refine zD 1 rfl rfl ?_;repeat refine u ?_
 refine⟨[_],zL 1 rfl rs0,yC ?_⟩;rotate_left
 ·have e:(l.take (i+1)).foldl (gV a) a=best:=by
   rw[step i (by have:=dt c0;omega),hb];unfold gV;rw[if_pos (show gp l i=a from jC.1 (dt c1))]
  refine⟨i+1,tes ?_ ?_ ?_,(by(have e0:=dt c0;have e1:=dt c1;omega)),(by(have e0:=dt c0;have e1:=dt c1;omega))⟩;refine zA rfl tn;refine zA rfl (zA rfl (zA rfl (zA rfl tn)));rw[e];exact zaa _
 ·have h1:¬ gp l i=a:=fun c=>df c1 (jC.2 c);have e:(l.take (i+1)).foldl (gV a) a=gp l i:=by
   rw[step i (by have:=dt c0;omega),hb];unfold gV;rw[if_neg h1,if_pos (show best=a from jC.1 (dt c2))]
  refine⟨i+1,tes ?_ ?_ ?_,(by(have e0:=dt c0;have e1:=df c1;have e2:=dt c2;omega)),(by(have e0:=dt c0;have e1:=df c1;have e2:=dt c2;omega))⟩;refine zA rfl tn;refine zA rfl (zA rfl (zA rfl (zA rfl tn)));rw[e];exact zaa _
 ·have h1:¬ gp l i=a:=fun c=>df c1 (jC.2 c);have h2:¬ best=a:=fun c=>df c2 (jC.2 c);have h3:trn a best (gp l i)<0∨trn a best (gp l i)=0∧farP a best<farP a (gp l i):=by
   have h:=c3.h;rw[zcf,zap,decide_eq_true_eq,decide_eq_true_eq,decide_eq_true_eq,eQ,lV,yO] at h;exact h
  have e:(l.take (i+1)).foldl (gV a) a=gp l i:=by
   rw[step i (by have:=dt c0;omega),hb];unfold gV;rw[if_neg h1,if_neg h2,if_pos h3]
  refine⟨i+1,tes ?_ ?_ ?_,(by(have e0:=dt c0;have e1:=df c1;have e2:=df c2;omega)),(by(have e0:=dt c0;have e1:=df c1;have e2:=df c2;omega))⟩;refine zA rfl tn;refine zA rfl (zA rfl (zA rfl (zA rfl tn)));rw[e];exact zaa _
 ·have h1:¬ gp l i=a:=fun c=>df c1 (jC.2 c);have h2:¬ best=a:=fun c=>df c2 (jC.2 c);have h3:¬ (trn a best (gp l i)<0∨trn a best (gp l i)=0∧farP a best<farP a (gp l i)):=by
   have h:=c3.h;rw[Bool.or_eq_false_iff,Bool.and_eq_false_iff,decide_eq_false_iff_not,decide_eq_false_iff_not,decide_eq_false_iff_not,eQ,lV,yO] at h;exact fun k=>k.elim h.1 fun k=>h.2.elim (fun h=>h k.1) fun h=>h k.2
  have e:(l.take (i+1)).foldl (gV a) a=best:=by
   rw[step i (by have:=dt c0;omega),hb];unfold gV;rw[if_neg h1,if_neg h2,if_neg h3]
  refine⟨i+1,tes ?_ ?_ ?_,(by(have e0:=dt c0;have e1:=df c1;have e2:=df c2;omega)),(by(have e0:=dt c0;have e1:=df c1;have e2:=df c2;omega))⟩;refine zA rfl tn;refine zA rfl (zA rfl (zA rfl (zA rfl tn)));rw[e];exact zaa _
 ·have:=df c0;rw[← hb,zaz (by omega)];exact PSub.refl _
theorem zU7 {x q:P2}(h:Sup [x] q):q=x:=by
 have e:∀ u v:Rat,u*q.1+v*q.2≤u*x.1+v*x.2:=fun u v=>by
  obtain⟨c,hc,h⟩:=h u v;rw[zaj] at hc;rw[hc] at h;exact h
 have a:=e 1 0;have b:=e (-1) 0;have c:=e 0 1;have d:=e 0 (-1);rw[zbd];constructor<;>grind
theorem iX (l:List P2):hullF (setOf cmpP l)=hullF l:=hull_congr fun q=>yM aJ
theorem hull_few {l:List P2}(h:(setOf cmpP l).length<2):setOf cmpP l=hullF l:=by
 unfold hullF qV;rw[if_pos (by omega)]
theorem hull_two {l:List P2}(h:2≤(setOf cmpP l).length):2≤(hullF l).length:=by
 have ok:=jG l;refine zcv fun c=>?_
 match hs:setOf cmpP l,h with
 | x::y::r,_ =>
  have hp:=eR l;rw[hs] at hp;have hxy:=(zav.1 hp).1 y (by simp);have hx:x∈l:=(yM aJ).1 (by rw[hs];simp);have hy:y∈l:=(yM aJ).1 (by rw[hs];simp)
  match he:hullF l,c with
  | [],_=>rw[bM] at he;rw[he] at hx;cases hx
  | [z],_ =>
   have h1:=ok.sup _ hx;have h2:=ok.sup _ hy;rw[he] at h1 h2;have h1:=zU7 h1;have h2:=zU7 h2;exact hxy.ne (h1.trans h2.symm)
  | _::_::_,c=>simp only[zaw] at c;omega
theorem set_fst {l:List P2}(h:l≠[]):gp (setOf cmpP l) 0=gp (hullF l) 0:=by
 have ok:=jG l;have hn:hullF l≠[]:=fun c=>h (bM.1 c);have h1:gp (hullF l) 0∈setOf cmpP l:=(yM aJ).2 (ok.sub _ (jI (List.length_pos_iff.2 hn)))
 match hs:setOf cmpP l,h1 with
 | x::r,h1 =>
  have hp:=eR l;rw[hs] at hp;have hx:x∈l:=(yM aJ).1 (by rw[hs];simp);have h2:=hull_fst _ hx;show x=_;rcases zad.1 h1 with e | e
  ·exact e.symm
  ·have h3:=(zav.1 hp).1 _ e;exfalso;generalize gp (hullF l) 0=y at *;exact(cZ h2 h3).ne rfl
theorem k20hull {l:List P2}{n:Nat}(hn:n≤80)(hl:l.length≤100)(h1:∀ x∈l,plen x (n+1)):CTy prog 255 [sv (sl 6 (l.map (ptq n)))] (sv (sl 6 ((hullF l).map (ptc (n+1))))):=by
 refine fw [.tmp 2] func255 fun X=>?_;repeat refine u ?_
 refine xC (σ:=Nat) (fun i=>[(4,True,zJ i),(3,True,sv (sl 6 ((setOf cmpP (l.take i)).map (ptc (n+1)))))]) (fun i=>[]) (fun i=>i≤l.length) (fun i=>l.length-i) (0) (tk 0 rfl (tk 2 rfl tn)) ?_ rfl ((by omega)) (fun i hJ Y _=>?_);refine zA rfl ?_;refine tc rfl ?_ ?_;rotate_left;refine tn;rotate_left
 ·rw[List.take_zero,show setOf cmpP ([]:List P2)=[] from zcw.1 (Nat.le_zero.1 (kQ aJ [])),zbg];exact ps_nil0
 have hsl:∀ i,(setOf cmpP (l.take i)).length≤100:=fun i=>zac (kQ aJ _) (by rw[zaD];omega);have hsl2:(setOf cmpP l).length≤100:=zac (kQ aJ _) hl;repeat refine u ?_
 refine ti (fun c0=>?_) fun c0=>?_;repeat refine u ?_
 refine zA1 (oix _ rfl rfl rfl (fun _=>rfl) (fun _=>(by(have e0:=dt c0;omega)))) ?_;repeat refine u ?_
 refine zB rfl rfl (k10put (by omega) (by omega) ?_ ?_) ?_;rotate_left;rotate_left;repeat refine u ?_
 rotate_left;repeat refine u ?_
 refine ti (fun c1=>?_) fun c1=>?_;repeat refine u ?_
 refine e ?_;rotate_left;repeat refine u ?_
 refine zA1 (oix _ rfl rfl rfl (fun _=>rfl) (fun _=>(by(have e0:=df c1;simp;omega)))) ?_;refine u ?_;refine tbs rfl rfl rfl rfl rfl rfl fun r27=>?_;repeat refine u ?_
 rotate_left
 ·exact zac (hsl i) (by omega)
 ·have h:=h1 _ (jI (h:=l) (i:=i) (by have:=dt c0;omega));exact⟨h.x,h.y⟩
 ·refine⟨i+1,tes ?_ ?_ (zaa _),(by(have e0:=dt c0;omega)),(by(have e0:=dt c0;omega))⟩;refine zA rfl ?_;refine tc rfl ?_ ?_;rotate_left;refine tn;refine zA rfl (zA rfl tn);rw[(zT (Df.d:P2) (show i<l.length by have:=dt c0;omega)).1];exact PSub.refl _
 ·have h0:=df c0;have h:=dt c1;rw[zaz (by omega)] at h ⊢;rw[hull_few (by omega)];exact PSub.refl _
 have h0:=df c0;rw[zaz (show l.length≤i by omega)] at *;have h2:=hull_two (l:=l) (by have:=df c1;omega);have hL:l≠[]:=fun e=>by rw[e,bM.2 rfl] at h2;simp at h2
 have ok:=jG l;have hlen:(hullF l).length≤(setOf cmpP l).length:=by have:=iY (setOf cmpP l);rw[iX] at this;exact this
 have hf:(setOf cmpP l).getD 0 Df.d=gp (hullF l) 0:=set_fst hL;refine xC (σ:=Nat×Value) (fun s=>[(6,True,zJ s.1),(5,True,exP s.2)]) (fun s=>[.row s.2 39 6 (((hullF l).take (s.1+1)).map (ptc (n+1)))]) (fun s=>s.1+1≤(hullF l).length) (fun s=>(setOf cmpP l).length-s.1) ((0,r27)) (tk 3 rfl tn) ?_ ?_ ((by dsimp only;omega)) (fun s hJ Y _=>?_);refine zA rfl (zA rfl tn);rotate_left;rotate_left
 ·rw[hf]
  match he:hullF l,h2 with
  | x::r,_=>rfl
 obtain⟨i',v⟩:=s;dsimp only at hJ ⊢;have hll:((hullF l).take (i'+1)).length=i'+1:=by rw[zaD];omega
 have hla:((hullF l).take (i'+1)).getD i' Df.d=gp (hullF l) i':=by
  rw[zah,zaO,if_pos (by omega),← zah];rfl
 have hx:dS (setOf cmpP l) (((hullF l).take (i'+1)).getD i' Df.d)=nx (hullF l) i':=by
  have h:=next_ok (l:=setOf cmpP l) (by rw[iX];exact h2) (i:=i') (by rw[iX];omega);rw[iX] at h;rw[hla];exact h
 repeat refine u ?_
 refine ti (fun c2=>?_) fun c2=>?_;iterate 10 refine u ?_
 refine zA1 (oixo 0 i' rfl rfl rfl (fun _=>(by omega)) (fun _=>(by(simp;omega)))) ?_;repeat refine u ?_
 refine zB rfl rfl (k20next (by omega) (by omega)) ?_;refine u fun b7=>?_;refine zD 0 rfl rfl (zO (zY (s:=7) 0 rfl rfl) ?_);iterate 3 refine u ?_
 refine zK 5 mixed rfl rfl ?_;repeat refine u ?_
 refine zC rfl rfl (nV (by omega) (by omega)) ?_;repeat refine u ?_
 refine ti (fun c3=>?_) fun c3=>?_;iterate 5 refine u ?_
 refine t_ts (yW (s:=2) 0 rfl rfl) ?_;repeat refine u ?_
 refine e ?_;rotate_left;repeat refine u ?_
 refine tap 0 rfl rfl rfl (by(simp;omega)) rfl fun r51=>?_;repeat refine u ?_
 rotate_left;iterate 7 refine u ?_
 refine t_ts (yW (s:=2) 0 rfl rfl) ?_;repeat refine u ?_
 refine e ?_;rotate_left
 ·have h:=jC.1 (dt c3);have h3:nx (hullF l) i'=gp (hullF l) 0:=hx.symm.trans (Eq.trans h hf);have h4:i'+1=(hullF l).length:=by
   refine Nat.le_antisymm hJ (zcv fun c=>?_);unfold nx at h3;rw[zao c] at h3;exact absurd (cM ok.poly.nd c (by omega) h3) (by omega)
  rw[h4,zaG];exact PSub.refl _
 ·have h:¬ nx (hullF l) i'=gp (hullF l) 0:=fun e=>df c3 (jC.2 (Eq.trans hx (e.trans hf.symm)));have h4:i'+1<(hullF l).length:=by
   refine Nat.lt_of_le_of_ne hJ fun e=>h ?_;unfold nx;rw[e,zbs]
  have h5:nx (hullF l) i'=gp (hullF l) (i'+1):=by unfold nx;rw[Nat.mod_eq_of_lt h4]
  refine nxt ((i'+1,r51)) (by omega) (hS:=?_);dsimp only;rw[(zT (Df.d:P2) h4).1,zay,show (hullF l).getD (i'+1) Df.d=dS (setOf cmpP l) (((hullF l).take (i'+1)).getD i' Df.d) from(hx.trans h5).symm];exact zaa _
 ·have:=df c2;omega
theorem k20hullc {Ψ:PV}{l:List P2}{n:Nat}[h:VPt Ψ n l](hn:n≤80)(hl:l.length≤100):CTy prog 255 [Ψ] (sv (sl 6 ((hullF l).map (ptc (n+1))))) :=
 ⟨(bo func255),fun M w vs hM hT hv=>by
  obtain⟨v,e,h1⟩:=fa1 hv;exact(k20hull hn hl (vpt_pl h1)).run M w vs hM hT ((fs1 rP fs0) _ _ _ hv)⟩
theorem k20flip {Ψ:PV}{l:List P2}{n:Nat}[h:VPt Ψ n l](hn:n≤300)(hl:l.length≤100):CTy prog 178 [Ψ] (sv (sl 6 ((l.map negP).map (ptc (n+5))))):=by
 refine yI (σs:=[sv (sl 6 (l.map (ptq n)))]) ?_ (fs1 rP fs0);refine fw [.tmp 2] func178 fun X=>?_;repeat refine u ?_
 refine t_ts (jH 39 6) ?_;refine lp (σ:=Nat×Value) [0,2] (fun s=>[(3,True,exP s.2),(4,True,zJ s.1)]) (fun s=>[.row s.2 39 6 (((l.take s.1).map negP).map (ptc (n+5)))]) (fun s=>s.1≤l.length) (fun s=>l.length-s.1) ((0,.slice none 0 0)) ((by simp)) fun s hJ Y _=>?_;repeat refine u ?_
 refine ti (fun c0=>?_) fun c0=>?_;repeat refine u ?_
 refine zA1 (oix _ rfl rfl rfl (fun _=>rfl) (fun _=>(by(have e0:=dt c0;omega)))) ?_;repeat refine u ?_
 refine zB rfl rfl (k8neg (by omega)) ?_;refine u ?_;refine u fun r18=>?_;repeat refine u ?_
 rotate_left;iterate 7 refine u ?_
 refine t_ts (yW (s:=2) 0 rfl rfl) ?_;repeat refine u ?_
 refine e ?_;rotate_left
 ·refine⟨(s.1+1,r18),tes ?_ ?_ ?_,(by(have e0:=dt c0;omega)),(by(have e0:=dt c0;omega))⟩;refine zA rfl (zA rfl tn);refine zA rfl (zA rfl tn);rw[(zT (Df.d:P2) (show s.1<l.length by have:=dt c0;omega)).1,zay,zay];rw[zcm];exact zaa _
 ·have h0:=df c0;rw[zaz (by omega)];exact PSub.refl _
theorem pairs_len (a b:List P2):(gJ a b).length=a.length*b.length:=by
 induction a with
 | nil=>simp[gJ]
 | cons x a ih =>
  unfold gJ at *;rw[zcd,zal,ih,zau,zaw,zaV,zbn,Nat.add_comm]
theorem pairs_snoc (a b:List P2)(x:P2):gJ (a++[x]) b=gJ a b++b.map fun y=>addP x y:=by
 unfold gJ;rw[List.flatMap_append];simp
theorem k20sum {Ψ Φ:PV}{a b:List P2}{n m:Nat}[h:VPt Ψ n a][k:VPt Φ m b](hn:n≤30)(hm:m≤30)(ha:a.length≤10)(hb:b.length≤10):CTy prog 177 [Ψ,Φ] (sv (sl 6 ((sumF a b).map (ptc (2*max n m+8+1))))):=by
 refine yI (σs:=[sv (sl 6 (a.map (ptq n))),sv (sl 6 (b.map (ptq m)))]) ?_ (fs1 rP (fs1 rP fs0));refine fw [.tmp 4] func177 fun X=>?_;repeat refine u ?_
 refine t_ts (jH 39 6) ?_;refine lp (σ:=Nat×Value) [0,1,4] (fun s=>[(5,True,exP s.2),(6,True,zJ s.1)]) (fun s=>[.row s.2 39 6 ((gJ (a.take s.1) b).map (ptc (2*max n m+8)))]) (fun s=>s.1≤a.length) (fun s=>a.length-s.1) ((0,.slice none 0 0)) ((by simp)) fun s hJ Y _=>?_;obtain⟨i,v⟩:=s;dsimp only at hJ ⊢;have hlp:∀ i,(gJ (a.take i) b).length≤100:=fun i=>by
  rw[pairs_len];exact zac (zaT (show (a.take i).length≤10 by rw[zaD];omega) hb) (by decide)
 repeat refine u ?_
 refine ti (fun c0=>?_) fun c0=>?_;repeat refine u ?_
 rotate_left;repeat refine u ?_
 rotate_left
 ·have hi:=dt c0;refine xC (σ:=Nat×Value) (fun s=>[(5,True,exP s.2),(7,True,zJ s.1)]) (fun s=>[.row s.2 39 6 ((gJ (a.take i) b++(b.take s.1).map fun y=>addP (gp a i) y).map (ptc (2*max n m+8)))]) (fun s=>s.1≤b.length) (fun s=>b.length-s.1) ((0,v)) (tk 0 rfl (tk 1 rfl (tk 4 rfl (tk 6 rfl tn)))) ?_ (by(simp;done)) ((by simp)) (fun s hJ Y _=>?_);refine zA rfl (zA rfl tn);obtain⟨k,u⟩:=s;dsimp only at hJ ⊢;have hlk:(gJ (a.take i) b++(b.take k).map fun y=>addP (gp a i) y).length≤200:=by
   rw[zal,zau,zaD];have:=hlp i;omega
  refine zR ?_;refine zR ?_;refine zZ rfl ?_;refine zA1 (omv rfl) ?_;refine zA1 (omv rfl) ?_;refine zA1 (oln rfl) ?_;refine zA1 (olt rfl rfl) ?_;refine zA0 ?_;refine ti (fun c1=>?_) fun c1=>?_;refine qX ?_;refine zR ?_;refine iL (zK 11 mixed rfl rfl ?_);refine d1 (omv rfl) ?_;refine d1 (omv rfl) ?_;refine d1 (omv rfl) ?_;refine d1 (oix _ rfl rfl rfl (fun _=>rfl) (fun _=>(by omega))) ?_;refine d1 (old rfl rfl) ?_;refine d1 (omv rfl) ?_;refine d1 (omv rfl) ?_;refine d1 (oix _ rfl rfl rfl (fun _=>rfl) (fun _=>(by(have e0:=dt c1;omega)))) ?_;refine d1 (old rfl rfl) (zC rfl rfl (yK2 (by omega) (by omega)) ?_);refine d1 (obs rfl rfl rfl rfl rfl rfl) ?_;refine d0 ?_;refine tap 0 rfl rfl rfl ?_ rfl fun r31=>?_;rotate_left;refine zA1 (oas rfl) ?_;refine zA0 ?_;refine zZ rfl ?_;refine zA1 (omv rfl) ?_;refine zA1 (oad rfl rfl (by omega)) ?_;refine zA1 (oas rfl) ?_;refine zA0 ?_;rotate_left;refine zP8 ?_;refine zZ rfl ?_;refine zA1 (omv rfl) ?_;refine zA1 (oad rfl rfl (by omega)) ?_;refine zA1 (oas rfl) ?_;refine zA0 ?_;rotate_left
  ·rw[zau,zcs];omega
  ·have hk:=dt c1;refine⟨(k+1,r31),tes ?_ ?_ ?_,(by omega),(by omega)⟩;refine zA rfl (zA rfl tn);refine zA rfl (zA rfl (zA rfl (zA rfl tn)));have e:(gJ (a.take i) b++(b.take (k+1)).map fun y=>addP (gp a i) y)=(gJ (a.take i) b++(b.take k).map fun y=>addP (gp a i) y)++[addP (gp a i) (gp b k)]:=by
    rw[(zT (Df.d:P2) (show k<b.length by omega)).1,zay,zaA];rfl
   dsimp only;rw[e,zay,zcm,zcm];exact zaa _
  ·have hk:=df c1;refine⟨(i+1,u),tes ?_ ?_ ?_,(by omega),(by omega)⟩;refine zA rfl (zA rfl tn);refine zA rfl (zA rfl (zA rfl tn));rw[(zT (Df.d:P2) (show i<a.length by omega)).1,pairs_snoc,zaz (show b.length≤k by omega)];exact zaa _
 ·have hi:=df c0;rw[zaz (show a.length≤i by omega)] at *;refine zO (yW 0 rfl (s:=32) rfl) ?_;have hl:=hlp a.length;rw[zaG] at hl;refine zB rfl rfl (k20hullc (by omega) (by omega)) ?_;repeat refine u ?_
  exact e
theorem k20piece {l:List P2}{a b c:P2}{n m:Nat}(hn:n≤20)(hm:m≤20)(hl:l.length≤10):CTy prog 101 [sv (sl 6 (l.map (ptq n))),ag (st [ptq m a,ptq m b,ptq m c])] (sv (sl 6 ((sumF [a,b,c] (l.map negP)).map (ptc (2*max m (n+5)+8+1))))):=by
 have h3:([a,b,c]:List P2).length≤10:=by simp
 have h4:(l.map negP).length≤10:=by rw[zau];omega
 refine fw [.tmp 4] func101 fun X=>?_;repeat refine u ?_
 refine zB rfl rfl k18cornc ?_;repeat refine u ?_
 refine zB rfl rfl (k20flip (by omega) (by omega)) ?_;refine zB rfl rfl (k20sum (by omega) (by omega) (by omega) (by omega)) ?_;repeat refine u ?_
 refine e ?_;rw[zcm];exact PSub.refl _
abbrev T3P:=P2×P2×P2
def trq (n:Nat)(t:T3P):CT:=st [ptq n t.1,ptq n t.2.1,ptq n t.2.2]
def t3l (t:T3P):List P2:=[t.1,t.2.1,t.2.2]
instance:Df T3P:=⟨((0,0),(0,0),(0,0))⟩
theorem k20pieces {l:List P2}{ts:List T3P}{n m:Nat}(hn:n≤20)(hm:m≤20)(hl:l.length≤10)(ht:ts.length≤100):CTy prog 34 [sv (sl 6 (l.map (ptq n))),sv (sl 18 (ts.map (trq m)))] (sv (sl 1 ((ts.map fun t=>sumF (t3l t) (l.map negP)).map fun x=>sl 6 (x.map (ptc (2*max m (n+5)+8+1)))))):=by
 refine fw [.tmp 4] func34 fun X=>?_;repeat refine u ?_
 refine t_ts (jH 22 1) ?_;refine lp (σ:=Nat×Value) [0,1,4] (fun s=>[(5,True,exP s.2),(6,True,zJ s.1)]) (fun s=>[.row s.2 22 1 (((ts.take s.1).map fun t=>sumF (t3l t) (l.map negP)).map fun x=>sl 6 (x.map (ptc (2*max m (n+5)+8+1))))]) (fun s=>s.1≤ts.length) (fun s=>ts.length-s.1) ((0,.slice none 0 0)) ((by simp)) fun s hJ Y _=>?_;repeat refine u ?_
 refine ti (fun c0=>?_) fun c0=>?_;repeat refine u ?_
 refine zA1 (oix _ rfl rfl rfl (fun _=>rfl) (fun _=>(by(have e0:=dt c0;omega)))) ?_;repeat refine u ?_
 refine zB rfl rfl (k20piece (by omega) (by omega) (by omega)) ?_;refine u ?_;refine u fun r21=>?_;repeat refine u ?_
 rotate_left;iterate 7 refine u ?_
 refine t_ts (yW (s:=4) 0 rfl rfl) ?_;repeat refine u ?_
 refine e ?_;rotate_left
 ·refine⟨(s.1+1,r21),tes ?_ ?_ ?_,(by(have e0:=dt c0;omega)),(by(have e0:=dt c0;omega))⟩;refine zA rfl (zA rfl tn);refine zA rfl (zA rfl (zA rfl tn));rw[(zT (Df.d:T3P) (show s.1<ts.length by have:=dt c0;omega)).1,zay];exact zaa _
 ·have h0:=df c0;rw[zaz (by omega)];exact PSub.refl _
def px3 (t:TX3):T3P:=(px t.1,px t.2.1,px t.2.2)
theorem trx_n {n:Nat}{l:List TX3}(h:∀ t∈l,∀ a∈trl t,big2 a≤n):PSub (sv (sl 18 (l.map trx))) (sv (sl 18 ((l.map px3).map (trq n)))):=fun M w v k=>by
 rw[List.map_map];exact cQ (f:=trx) (g:=trq n ∘ px3) (fun t ht M w us k=>trx_c (h t ht t.1 (by simp[trl])) (h t ht t.2.1 (by simp[trl])) (h t ht t.2.2 (by simp[trl])) M w us k) (fun _=>rfl) k
theorem nT {a b p:P2}(h:a.1<b.1)(hl:0≤trn a b p):zN a b p.1≤p.2:=by
 obtain⟨k,e1,e2⟩:=xD (a:=a) (b:=b) (by grind);rw[e1];refine Classical.byContradiction fun c=>?_;have h1:0<b.1-a.1:=by grind
 have h2:0<a.2+k*(p.1-a.1)-p.2:=by grind
 have h3:=zaK h1 h2;have e3:trn a b p = -((b.1-a.1)*(a.2+k*(p.1-a.1)-p.2)):=by unfold trn zH subP;simp only;rw[← e2];grind
 grind
theorem nU {a b p:P2}(h:b.1<a.1)(hl:0≤trn a b p):p.2≤zN a b p.1:=by
 obtain⟨k,e1,e2⟩:=xD (a:=a) (b:=b) (by grind);rw[e1];refine Classical.byContradiction fun c=>?_;have h1:0<a.1-b.1:=by grind
 have h2:0<p.2-(a.2+k*(p.1-a.1)):=by grind
 have h3:=zaK h1 h2;have e3:trn a b p = -((a.1-b.1)*(p.2-(a.2+k*(p.1-a.1)))):=by unfold trn zH subP;simp only;rw[← e2];grind
 grind
theorem yN6 {c d z f0 f1 fz:Rat}(hcd:c<d)(hz:c≤z∧z≤d)(h0:0≤f0)(h1:0≤f1)(e:(d-c)*fz=(d-z)*f0+(z-c)*f1):0≤fz:=by
 refine Classical.byContradiction fun k=>?_;have h2:0<d-c:=by grind
 have h3:0 < -fz:=by grind
 have h4:=zaK h2 h3;have h5:0≤d-z:=by grind
 have h6:0≤z-c:=by grind
 have h7:=zaF h5 h0;have h8:=zaF h6 h1;grind
theorem yF7 {a b c d:P2}{z:Rat}(hcd:c.1<d.1)(hz:c.1≤z∧z≤d.1)(hab:a.1≠b.1)(hc:zN a b c.1≤c.2)(hd:zN a b d.1≤d.2):zN a b z≤zN c d z:=by
 obtain⟨k,e1,e2⟩:=xD (a:=a) (b:=b) hab;obtain⟨m,e3,e4⟩:=xD (a:=c) (b:=d) (by grind);rw[e1] at hc hd;rw[e1,e3];have:=yN6 (fz:=c.2+m*(z-c.1)-(a.2+k*(z-a.1))) hcd hz (f0:=c.2-(a.2+k*(c.1-a.1))) (f1:=d.2-(a.2+k*(d.1-a.1))) (by grind) (by grind) (by
  have e5:d.2=c.2+m*(d.1-c.1):=by grind
  rw[e5];grind)
 grind
theorem yF8 {a b c d:P2}{z:Rat}(hcd:c.1<d.1)(hz:c.1≤z∧z≤d.1)(hab:a.1≠b.1)(hc:c.2≤zN a b c.1)(hd:d.2≤zN a b d.1):zN c d z≤zN a b z:=by
 obtain⟨k,e1,e2⟩:=xD (a:=a) (b:=b) hab;obtain⟨m,e3,e4⟩:=xD (a:=c) (b:=d) (by grind);rw[e1] at hc hd;rw[e1,e3];have:=yN6 (fz:=a.2+k*(z-a.1)-(c.2+m*(z-c.1))) hcd hz (f0:=a.2+k*(c.1-a.1)-c.2) (f1:=a.2+k*(d.1-a.1)-d.2) (by grind) (by grind) (by
  have e5:d.2=c.2+m*(d.1-c.1):=by grind
  rw[e5];grind)
 grind
theorem dY {a b:P2}(h:a.1≠b.1)(z:Rat):zN a b z=zN b a z:=by
 obtain⟨k,e1,e2⟩:=xD (a:=a) (b:=b) h;obtain⟨m,e3,e4⟩:=xD (a:=b) (b:=a) (fun e=>h e.symm);rw[e1,e3];have h1:(k-m)*(b.1-a.1)=0:=by grind
 have h2:b.1-a.1≠0:=by grind
 have h3:k-m=0:=by
  rcases zbo.1 h1 with c | c
  ·exact c
  ·exact absurd c h2
 have h4:k=m:=by grind
 subst h4;grind
theorem yH7 {a b:Rat}(h:a≠b):a<b∨b<a:=by grind
theorem hull_still {h:List P2}{i j:Nat}(hl:∀ k,k<h.length→0≤trn (gp h i) (nx h i) (gp h k))(hj:j<h.length)(ni:(gp h i).1≠(nx h i).1)(nj:(gp h j).1≠(nx h j).1) :
  (∀ z,((gp h j).1≤z∧z≤(nx h j).1∨(nx h j).1≤z∧z≤(gp h j).1)→zN (gp h i) (nx h i) z≤zN (gp h j) (nx h j) z) ∨
  ∀ z,((gp h j).1≤z∧z≤(nx h j).1∨(nx h j).1≤z∧z≤(gp h j).1)→zN (gp h j) (nx h j) z≤zN (gp h i) (nx h i) z:=by
 have h1:=hl j hj;have h2:=hl ((j+1)%h.length) (zaI _ (by omega));change 0≤trn (gp h i) (nx h i) (nx h j) at h2;generalize gp h i=a at *;generalize nx h i=b at *;generalize gp h j=c at *;generalize nx h j=d at *;rcases yH7 ni with k | k
 ·refine .inl fun z hz=>?_;rcases yH7 nj with q | q
  ·exact yF7 q (by grind) ni (nT k h1) (nT k h2)
  ·rw[dY nj];exact yF7 q (by grind) ni (nT k h2) (nT k h1)
 ·refine .inr fun z hz=>?_;rcases yH7 nj with q | q
  ·exact yF8 q (by grind) ni (nU k h1) (nU k h2)
  ·rw[dY nj];exact yF8 q (by grind) ni (nU k h2) (nU k h1)
end Go.Proofs.YtalkinejknjidaaGreatDoor
namespace Go.SL
def Cpb (a b:P2):Prop:=a.1≤b.1∧a.2≤b.2∨b.1≤a.1∧b.2≤a.2
theorem Cpb.symm {a b:P2}(h:Cpb a b):Cpb b a:=h.elim .inr .inl
theorem cpb_rise {a b:P2}(hc:cmpL a b<0)(h:Cpb a b):vP a b:=by
 rw[lJ] at hc;unfold leL at hc;have hn:a≠b:=fun e=>by subst e;grind
 rcases h with h | h
 ·exact⟨h.1,h.2,hn⟩
 ·refine⟨?_,?_,hn⟩<;>grind
theorem lv_rises {lo hi yl yh:Rat}{es:List (P2×P2)}{l:List P2}(h:IsLv lo hi yl yh es l)(hc:∀ a∈l,∀ b∈l,Cpb a b):fV l:=fun i hi'=>by
 have h1:=zcK.1 h.rise i (i+1) (by omega) hi' (by omega);rw[zah,zah,zag (show i<l.length by omega),zag hi'];exact cpb_rise h1 (hc _ (zaQ _) _ (zaQ _))
theorem lY {l:List P2}(h:fV l):∀ j i,i≤j→j<l.length→(l.getD i (0,0)).1≤(l.getD j (0,0)).1∧(l.getD i (0,0)).2≤(l.getD j (0,0)).2
  | 0, i, h1, h2 => by obtain rfl : i = 0 := by omega
                       exact⟨zaJ,zaJ⟩
  | j+1,i,h1,h2=>by
    rcases zaf j i with c | c
    · obtain rfl:i=j+1:=by omega
      exact⟨zaJ,zaJ⟩
    · have a:=lY h j i c (by omega);have b:=h j h2;exact⟨Rat.le_trans a.1 b.1,Rat.le_trans a.2 b.2.1⟩
theorem lv_ends {lo hi yl yh:Rat}{es:List (P2×P2)}{l:List P2}(h:IsLv lo hi yl yh es l)(hr:fV l)(hy:yl<yh)(hb:∀ a∈l,yl≤a.1∧yl≤a.2∧a.1≤yh∧a.2≤yh) :
  2≤l.length∧(l.getD 0 (0,0))=(yl,yl)∧l.getD (l.length-1) (0,0)=(yh,yh):=by
 have m0:(yl,yl)∈l:=(h.mem _).2 (by simp);have m1:(yh,yh)∈l:=(h.mem _).2 (by simp);obtain⟨i,hi,ei⟩:=zbf.1 m0;obtain⟨j,hj,ej⟩:=zbf.1 m1;have gi:l.getD i (0,0)=(yl,yl):=by rw[zah,zag hi];exact ei
 have gj:l.getD j (0,0)=(yh,yh):=by rw[zah,zag hj];exact ej
 have hm:∀ k,k<l.length→l.getD k (0,0)∈l:=fun k hk=>by rw[zah,zag hk];exact zaQ _
 have b0:=hb _ (hm 0 (by omega));have b1:=hb _ (hm (l.length-1) (by omega));have r0:=lY hr i 0 (by omega) hi;have r1:=lY hr (l.length-1) j (by omega) (by omega);rw[gi] at r0;rw[gj] at r1;simp only at r0 r1;have hne:i≠j:=fun e=>by subst e;rw[gi] at gj;have:=congrArg Prod.fst gj;simp only at this;grind
 refine⟨by omega,Prod.ext ?_ ?_,Prod.ext ?_ ?_⟩<;>simp only<;>grind
theorem zP0 {f:Rat→Rat}{c k lo hi:Rat}(hf:∀ z,f z=c+k*z)(h:lo<hi)(hs:∀ x y,lo<x∧x<hi→lo<y∧y<hi→¬ (0<f x∧f y<0))(a:0<f lo)(b:f hi<0):False:=by
 have ⟨s,s0,s1,e⟩:∃ s:Rat,0<s∧s<1∧s*(f lo-f hi)=f lo:=by
  refine⟨f lo/(f lo-f hi),?_,?_,zcE (by grind)⟩
  ·rw[Rat.lt_div_iff (by grind)];grind
  ·rw[Rat.div_lt_iff (by grind)];grind
 have p0:=zaK s0 (show 0<hi-lo by grind);have p1:=zaK (show 0<1-s by grind) (show 0<hi-lo by grind);have p2:(1-s)*(hi-lo)=hi-lo-s*(hi-lo):=by grind
 have g1:f (lo+s*(hi-lo)/2)=f lo-s*(f lo-f hi)/2:=by rw[hf,hf lo,hf hi];grind
 have g2:f (hi-(hi-lo-s*(hi-lo))/2)=f hi-(f hi-f lo+s*(f lo-f hi))/2:=by rw[hf,hf lo,hf hi];grind
 rw[p2] at p1;generalize s*(hi-lo)=d at *;rw[e] at g1 g2;exact hs _ _ (by constructor<;>grind) (by constructor<;>grind) ⟨by rw[g1];grind,by rw[g2];grind⟩
theorem aff_ends {f:Rat→Rat}{c k lo hi:Rat}(hf:∀ z,f z=c+k*z)(h:lo<hi)(hs:∀ x y,lo<x∧x<hi→lo<y∧y<hi→¬ (0<f x∧f y<0)):f lo≤0∧f hi≤0∨0≤f lo∧0≤f hi:=by
 refine Classical.byContradiction fun hn=>?_;have h0:0<f lo∧f hi<0∨0 < -f lo ∧ -f hi<0:=by grind
 rcases h0 with⟨a,b⟩ | ⟨a,b⟩
 ·exact zP0 hf h hs a b
 ·exact zP0 (f:=fun z => -f z) (c:=-c) (k:=-k) (fun z=>by rw[hf];grind) h (fun x y hx hy q=>hs y x hy hx ⟨by grind,by grind⟩) a b
end Go.SL
namespace Go.Proofs.YtalkinejknjidaaGreatDoor
open Go.SL Go.RowKit Go.Proofs Tryz
def minQ (a b:Rat):Rat:=if b<a then b else a
def maxQ (a b:Rat):Rat:=if a<b then b else a
theorem eO {l:List PX}(h:qI l=true):∀ a∈l,big2 a≤1:=fun a ha=>by
 have h:=zaC.1 h a ha;rw[zap] at h;have h1:=zI3 h.1;have h2:=zI3 h.2;unfold big2 m4;dsimp only;omega
abbrev BX:=P2×P2
def boxS (b:BX)(p:P2):BX:=((minQ b.1.1 p.1,minQ b.1.2 p.2),(maxQ b.2.1 p.1,maxQ b.2.2 p.2))
def boxF (l:List P2):BX:=l.foldl boxS (gp l 0,gp l 0)
theorem bY {n m:Nat}{p:P2}(h:m≤n){M:Nat→Prop}{w:World}{us:List Value}(k:(ptc m p).p M w us):(ptc n p).p M w us:=by
 obtain⟨x,y,e,⟨s,a,d,e2,g⟩,z,o,e3,⟨t,b,f,e4,g2⟩,e5⟩:=k;exact⟨x,y,e,⟨s,a,d,e2,g.up h⟩,z,o,e3,⟨t,b,f,e4,g2.up h⟩,e5⟩
theorem box2 {n:Nat}{p q:P2}{M:Nat→Prop}{w:World}{us:List Value}(k:stp [st [ptc n p,ptc n q]] M w us):stp [ptc n p,ptc n q] M w us:=by
 obtain⟨u,o,rfl,k1,k8⟩:=k;obtain rfl:o=[]:=k8;rw[zar];exact k1
theorem box41 {n:Nat}{p q:P2}{M:Nat→Prop}{w:World}{us:List Value}(k:stp [rtc n p.1,rtc n p.2,rtc n q.1,rtc n q.2] M w us):stp [st [ptc n p,ptc n q]] M w us:=by
 obtain⟨a,a2,rfl,k1,b,b2,rfl,k2,c,c2,rfl,k4,d,d2,rfl,k5,k6⟩:=k;obtain rfl:d2=[]:=k6;exact⟨(a++b)++(c++d),[],by simp,⟨a++b,c++d,rfl,⟨a,b,rfl,k1,b,[],by simp,k2,rfl⟩,c++d,[],(by simp),⟨c,d,rfl,k4,d,[],by simp,k5,rfl⟩,rfl⟩,rfl⟩
theorem box4 {n:Nat}{p q:P2}{M:Nat→Prop}{w:World}{us:List Value}(k:stp [ptc n p,ptc n q] M w us):stp [rtc n p.1,rtc n p.2,rtc n q.1,rtc n q.2] M w us:=by
 obtain⟨x,y,rfl,⟨a,a2,rfl,k1,b,b2,rfl,k2,k3⟩,x2,y2,rfl,⟨c,c2,rfl,k4,d,d2,rfl,k5,k6⟩,k7⟩:=k;obtain rfl:b2=[]:=k3;obtain rfl:d2=[]:=k6;obtain rfl:y2=[]:=k7;exact⟨a,b++(c++d),by simp,k1,b,c++d,rfl,k2,c,d,rfl,k4,d,[],by simp,k5,rfl⟩
def zQ (ls:zF):BX:=(subP (boxF ls.flatten).1 (((1:Nat):Rat),((1:Nat):Rat)),addP (boxF ls.flatten).2 (((1:Nat):Rat),((1:Nat):Rat)))
instance {n:Nat}{p:P2}{d:CT}:FA (st [ptc n p,d]) 0 (ptc n p):=⟨fun h=>gT (l:=[ptc n p,d]) (o:=0) h rfl⟩
instance {n:Nat}{p:P2}{d:CT}:FA (st [ptc n p,d]) 6 d:=⟨fun h=>gT (l:=[ptc n p,d]) (o:=6) h rfl⟩
def ordE (e:BX):BX:=if 0<cmpP e.1 e.2 then(e.2,e.1) else e
def gY (l:List P2):List BX:=(List.range l.length).map fun k=>ordE (gp l k,nx l k)
def yX (ls:zF):List BX:=ls.flatMap gY
def ect (n:Nat)(e:BX):CT:=st [ptc n e.1,ptc n e.2]
theorem iF {ls:zF}(h:∀ l∈ls,l.length≤9):(yX ls).length≤ls.length*9:=by
 induction ls with
 | nil=>simp[yX]
 | cons l ls ih =>
  have h1:=ih fun x hx=>h x (by simp[hx]);have h2:=h l (by simp);unfold yX at *;rw[zcd,zal,zaw];have e:(gY l).length=l.length:=by unfold gY;simp
  omega
def InB (b:BX)(p:P2):Prop:=b.1.1≤p.1∧p.1≤b.2.1∧b.1.2≤p.2∧p.2≤b.2.2
theorem inb_step {b:BX}{p q:P2}(h:InB b p):InB (boxS b q) p∧InB (boxS b q) q:=by
 unfold InB boxS minQ maxQ at *;dsimp only at *;refine⟨⟨?_,?_,?_,?_⟩,?_,?_,?_,?_⟩<;>split<;>grind
theorem pY:∀(l:List P2) (b:BX) (p:P2),InB b p→InB (l.foldl boxS b) p∧∀ q∈l,InB (l.foldl boxS b) q
 | [],b,p,h=>⟨h,fun q hq=>by cases hq⟩
 | x::l,b,p,h=>by
  have h1:=inb_step (q:=x) h;have h2:=pY l (boxS b x) p h1.1;have h3:=pY l (boxS b x) x h1.2;refine⟨h2.1,fun q hq=>?_⟩;rcases zad.1 hq with rfl | hq
  ·exact h3.1
  ·exact h2.2 q hq
theorem box_in (l:List P2):(∀ q∈l,InB (boxF l) q)∧(boxF l).1.1≤(boxF l).2.1∧(boxF l).1.2≤(boxF l).2.2:=by
 have h:=pY l (gp l 0,gp l 0) (gp l 0) ⟨zaJ,zaJ,zaJ,zaJ⟩;refine⟨h.2,?_⟩;have h1:=h.1;unfold InB at h1;exact⟨Rat.le_trans h1.1 h1.2.1,Rat.le_trans h1.2.2.1 h1.2.2.2⟩
theorem yQ6:((1:Nat):Rat)=1:=rfl
theorem dZ (ls:zF):(∀ l∈ls,∀ q∈l,(zQ ls).1.1<q.1∧q.1<(zQ ls).2.1∧(zQ ls).1.2<q.2∧q.2<(zQ ls).2.2)∧(zQ ls).1.1<(zQ ls).2.1∧(zQ ls).1.2<(zQ ls).2.2:=by
 have h:=box_in ls.flatten;unfold zQ subP addP;dsimp only;rw[yQ6];refine⟨fun l hl q hq=>?_,by grind,by grind⟩;have h1:=h.1 q (List.mem_flatten.2 ⟨l,hl,hq⟩);unfold InB at h1;grind
theorem oA {ls:zF}{e:BX}(h:e∈yX ls):∃ i k,i<ls.length∧k<(ls.getD i []).length∧e=ordE (gp (ls.getD i []) k,nx (ls.getD i []) k):=by
 unfold yX gY at h;obtain⟨l,hl,h⟩:=zbN.1 h;obtain⟨k,hk,rfl⟩:=zai.1 h;obtain⟨i,hi,rfl⟩:=zbf.1 hl;have e:ls.getD i []=ls[i]:=by rw[zah,zag hi];rfl
 exact⟨i,k,hi,by rw[e];exact zbu.1 hk,by rw[e]⟩
def Thr (lo hi:Rat)(a b:P2):Prop:=a.1≤lo∧hi≤b.1∨b.1≤lo∧hi≤a.1
theorem vU {lo hi:Rat}{a b:P2}(h:uT lo hi (ordE (a,b)))(hlh:lo<hi):Thr lo hi a b∧qK lo hi (ordE (a,b))=(zN a b lo,zN a b hi):=by
 unfold ordE at *;unfold uT at h;split at h
 ·rename_i c;dsimp only at h;unfold qK;rw[if_pos c];dsimp only;have hs:=dY (a:=b) (b:=a) (by grind);rw[hs,hs];exact⟨.inr (by grind),rfl⟩
 ·rename_i c;dsimp only at h;rw[if_neg c];exact⟨.inl (by grind),rfl⟩
theorem oR {lo hi:Rat}{a b:P2}(h:Thr lo hi a b)(hl:lo<hi):a.1≠b.1:=by unfold Thr at h;grind
theorem yM8 {x y u v:Rat}(h:x≤u∧y≤v∨u≤x∧v≤y):Cpb (x,y) (u,v):=h
theorem cmp_sw {p q r s:Rat}(h:cmpR p q=cmpR r s):¬ (0<p-q∧r-s<0):=fun c=>by
 have h1:0<cmpR p q:=gE.2 (by grind);have h2:cmpR r s<0:=yO.2 (by grind);omega
theorem dI {lo hi z:Rat}{a b:P2}(h:Thr lo hi a b)(h1:lo<z)(h2:z<hi):mT a b z=true:=by
 unfold mT Thr at *;simp only[zcf,zap,decide_eq_true_eq];grind
theorem rW {lo hi:Rat}{a b c d:P2}(hl:lo<hi)(zA1:Thr lo hi a b)(zA2:Thr lo hi c d)(h:∀ x y,lo<x∧x<hi→lo<y∧y<hi→cmpR (zN a b x) (zN c d x)=cmpR (zN a b y) (zN c d y)) :
  Cpb (zN a b lo,zN a b hi) (zN c d lo,zN c d hi):=by
 obtain⟨k,e1,_⟩:=xD (oR zA1 hl);obtain⟨m,e2,_⟩:=xD (oR zA2 hl);have h3:=aff_ends (f:=fun z=>zN a b z-zN c d z) (c:=a.2-k*a.1-(c.2-m*c.1)) (k:=k-m) (fun z=>by rw[e1,e2];grind) hl fun x y hx hy=>cmp_sw (h x y hx hy);refine yM8 ?_;rcases h3 with h3 | h3
 ·exact .inl (by grind)
 ·exact .inr (by grind)
theorem levels_cpb {ls:zF}{b:BX}{j:Nat}(hls:∀ l∈ls,∃ m,l=hullF m)(hj:j+1<(cutsOf ls b).length){e f:BX}(h1:e∈yX ls)(h2:f∈yX ls)
  (zA1:uT ((cutsOf ls b).getD j 0) ((cutsOf ls b).getD (j+1) 0) e) (zA2:uT ((cutsOf ls b).getD j 0) ((cutsOf ls b).getD (j+1) 0) f):Cpb (qK ((cutsOf ls b).getD j 0) ((cutsOf ls b).getD (j+1) 0) e) (qK ((cutsOf ls b).getD j 0) ((cutsOf ls b).getD (j+1) 0) f):=by
 have hl:=bP ls b j hj;have hstill:=fun i k x y=>still_cuts (ls:=ls) (b:=b) (j:=j) (i:=i) (k:=k) (x:=x) (y:=y) hj;generalize (cutsOf ls b).getD j 0=lo at *;generalize (cutsOf ls b).getD (j+1) 0=hi at *;obtain⟨i,k,hi1,hk1,rfl⟩:=oA h1;obtain⟨i2,k2,hi2,hk2,rfl⟩:=oA h2;obtain⟨zA1,g1⟩:=vU zA1 hl;obtain⟨zA2,g2⟩:=vU zA2 hl;rw[g1,g2];have hh:∀ i,i<ls.length→∃ m,ls.getD i []=hullF m:=fun i hi=>hls _ (by rw[zah,zag hi];exact zaQ hi);rcases zcz i i2 with c | c | c
 ·refine Cpb.symm (rW hl zA2 zA1 fun x y hx hy=>?_);exact hstill i2 i x y c hi2 hx hy k2 k hk2 hk1 (dI zA2 hx.1 hx.2) (dI zA1 hx.1 hx.2) (dI zA2 hy.1 hy.2) (dI zA1 hy.1 hy.2)
 ·subst c;obtain⟨m,em⟩:=hh i hi1;rw[em] at hk1 hk2 zA1 zA2 ⊢;have h3:=hull_still (i:=k) (j:=k2) (h:=hullF m) (fun q hq=>hull_left (dM (jI hq)) hk1) hk2 (oR zA1 hl) (oR zA2 hl);have r1:(gp (hullF m) k2).1≤lo∧lo≤(nx (hullF m) k2).1∨(nx (hullF m) k2).1≤lo∧lo≤(gp (hullF m) k2).1:=by unfold Thr at zA2;grind
  have r2:(gp (hullF m) k2).1≤hi∧hi≤(nx (hullF m) k2).1∨(nx (hullF m) k2).1≤hi∧hi≤(gp (hullF m) k2).1:=by unfold Thr at zA2;grind
  refine yM8 ?_;rcases h3 with h3 | h3
  ·exact .inl ⟨h3 lo r1,h3 hi r2⟩
  ·exact .inr ⟨h3 lo r1,h3 hi r2⟩
 ·refine rW hl zA1 zA2 fun x y hx hy=>?_;exact hstill i i2 x y c hi1 hx hy k k2 hk1 hk2 (dI zA1 hx.1 hx.2) (dI zA2 hx.1 hx.2) (dI zA1 hy.1 hy.2) (dI zA2 hy.1 hy.2)
theorem tB {a b:P2}{z l u:Rat}(ha:l<a.2∧a.2<u)(hb:l<b.2∧b.2<u)(h:a.1≠b.1)(hz:a.1≤z∧z≤b.1∨b.1≤z∧z≤a.1):l<zN a b z∧zN a b z<u:=by
 obtain⟨k,e1,e2⟩:=xD h;rw[e1];have key:∀ {c d y0 y1 fz:Rat},c<d→c≤z→z≤d→(d-c)*fz=(d-z)*y0+(z-c)*y1→0<y0→0<y1→0<fz:=fun {c d y0 y1 fz} q1 q2 q3 q4 q5 q6=>by
  have p1:0<(d-c)*fz:=by
   rw[q4];rcases Classical.em (z=c) with r | r
   ·have:=zaK (show 0<d-z by grind) q5;have:(z-c)*y1=0:=by rw[r];grind
    grind
   ·have:=zaK (show 0<z-c by grind) q6;have:=zaF (show 0≤d-z by grind) (show 0≤y0 by grind);grind
  exact eV (show 0<d-c by grind) p1
 have e3:b.2=a.2+k*(b.1-a.1):=by grind
 rcases hz with hz | hz
 ·have hab:a.1<b.1:=by grind
  have f1:=key (y0:=a.2-l) (y1:=b.2-l) (fz:=a.2+k*(z-a.1)-l) hab hz.1 hz.2 (by rw[e3];grind) (by grind) (by grind);have f2:=key (y0:=u-a.2) (y1:=u-b.2) (fz:=u-(a.2+k*(z-a.1))) hab hz.1 hz.2 (by rw[e3];grind) (by grind) (by grind);grind
 ·have hab:b.1<a.1:=by grind
  have f1:=key (y0:=b.2-l) (y1:=a.2-l) (fz:=a.2+k*(z-a.1)-l) hab hz.1 hz.2 (by rw[e3];grind) (by grind) (by grind);have f2:=key (y0:=u-b.2) (y1:=u-a.2) (fz:=u-(a.2+k*(z-a.1))) hab hz.1 hz.2 (by rw[e3];grind) (by grind) (by grind);grind
theorem aD {α:Type}{l:List α}{d:α}{i:Nat}(h:i<l.length):l.getD i d∈l:=by rw[zah,zag h];exact zaQ h
theorem slab_rises {ls:zF}{j:Nat}{l:List P2}(hls:∀ l∈ls,∃ m,l=hullF m)(hj:j+1<(cutsOf ls (zQ ls)).length)
  (h:IsLv ((cutsOf ls (zQ ls)).getD j 0) ((cutsOf ls (zQ ls)).getD (j+1) 0) (zQ ls).1.2 (zQ ls).2.2 (yX ls) l) :
  fV l∧2≤l.length∧l.getD 0 (0,0)=((zQ ls).1.2,(zQ ls).1.2)∧l.getD (l.length-1) (0,0)=((zQ ls).2.2,(zQ ls).2.2):=by
 have hl:=bP ls (zQ ls) j hj;have hf:=dZ ls;have hcp:=fun e f=>levels_cpb (e:=e) (f:=f) hls hj;generalize (cutsOf ls (zQ ls)).getD j 0=lo at *;generalize (cutsOf ls (zQ ls)).getD (j+1) 0=hi at *;have hmem:∀ x∈l,(∃ e∈yX ls,uT lo hi e∧x=qK lo hi e)∨x=((zQ ls).1.2,(zQ ls).1.2)∨x=((zQ ls).2.2,(zQ ls).2.2):=fun x hx=>by
  rcases zae.1 ((h.mem x).1 hx) with q | q
  ·exact .inl (oQ.1 q)
  ·simp only[zad,zaR,or_false] at q;exact .inr q
 have hin:∀ e∈yX ls,uT lo hi e→((zQ ls).1.2<(qK lo hi e).1∧(qK lo hi e).1<(zQ ls).2.2)∧(zQ ls).1.2<(qK lo hi e).2∧(qK lo hi e).2<(zQ ls).2.2:=fun e he t=>by
  obtain⟨i,k,hi1,hk1,rfl⟩:=oA he;obtain⟨t,g⟩:=vU t hl;rw[g];have h1:=hf.1 _ (aD hi1) _ (jI hk1);have h2:=hf.1 _ (aD (d:=[]) hi1) _ (jI (gK hk1));change _∧_∧_<(nx (ls.getD i []) k).2∧(nx (ls.getD i []) k).2<_ at h2;have hn:=oR t hl;unfold Thr at t;exact⟨tB h1.2.2 h2.2.2 hn (by grind),tB h1.2.2 h2.2.2 hn (by grind)⟩
 have hc:∀ a∈l,∀ b∈l,Cpb a b:=fun a ha b hb=>by
  rcases hmem a ha with⟨e,he,te,rfl⟩ | rfl | rfl
  ·have he':=hin e he te;rcases hmem b hb with⟨f,hf',tf,rfl⟩ | rfl | rfl
   ·exact hcp e f he hf' te tf
   ·exact .inr ⟨by grind,by grind⟩
   ·exact .inl ⟨by grind,by grind⟩
  ·rcases hmem b hb with⟨f,hf',tf,rfl⟩ | rfl | rfl
   ·have he':=hin f hf' tf;exact .inl ⟨by grind,by grind⟩
   ·exact .inl ⟨zaJ,zaJ⟩
   ·exact .inl ⟨by grind,by grind⟩
  ·rcases hmem b hb with⟨f,hf',tf,rfl⟩ | rfl | rfl
   ·have he':=hin f hf' tf;exact .inr ⟨by grind,by grind⟩
   ·exact .inr ⟨by grind,by grind⟩
   ·exact .inl ⟨zaJ,zaJ⟩
 have hr:=lv_rises h hc;refine⟨hr,lv_ends h hr hf.2.2 fun a ha=>?_⟩;rcases hmem a ha with⟨e,he,te,rfl⟩ | rfl | rfl
 ·have:=hin e he te;grind
 ·have:=hf.2.2;dsimp only;grind
 ·have:=hf.2.2;dsimp only;grind
def Fx (N M:Nat)(q:Rat):Prop:=∃(z:Int) (m:Nat),0<m∧m≤M∧z.natAbs≤N∧q*((m:Nat):Rat)=((z:Int):Rat)
def Fd (D A:Nat)(q:Rat):Prop:=∃ z:Int,z.natAbs≤A∧q*((D:Nat):Rat)=((z:Int):Rat)
theorem vO {N M k:Nat}{q:Rat}(h:Fx N M q)(hN:N<4294967296^k)(hM:M<4294967296^k):rlen q k:=by
 obtain⟨z,m,h0,h1,h2,e⟩:=h;have e2:q.num*(m:Int)=z*(q.den:Int):=by
  have c:(q.num:Rat)=q*(q.den:Rat):=(aH q).symm;have d:(q.num:Rat)*((m:Nat):Rat)=(z:Rat)*(q.den:Rat):=by rw[c,← e];grind
  exact_mod_cast d
 have e3:q.num.natAbs*m=z.natAbs*q.den:=by
  have:=congrArg Int.natAbs e2;rwa [zbH,zbH,zbX,zbX] at this
 have hd:q.den ∣ m:=by
  have:q.den ∣ q.num.natAbs*m:=by rw[e3];exact Nat.dvd_mul_left _ _
  exact(Nat.Coprime.symm q.reduced).dvd_of_dvd_mul_left this
 obtain⟨t,rfl⟩:=hd;have ht:0<t:=zaX fun c=>by subst c;simp at h0
 have e4:q.num.natAbs*t=z.natAbs:=by
  have h5:=q.den_pos;have:q.den*(q.num.natAbs*t)=q.den*z.natAbs:=by rw[zas q.den z.natAbs,← e3];rw[zcg]
  exact Nat.eq_of_mul_eq_mul_left h5 this
 have l1:q.num.natAbs≤q.num.natAbs*t:=zci _ ht;have l2:q.den≤q.den*t:=zci _ ht;exact⟨zS (by omega),zS (by omega)⟩
theorem Fd.add {D A B:Nat}{p q:Rat}(h:Fd D A p)(k:Fd D B q):Fd D (A+B) (p+q):=by
 obtain⟨z,h1,e1⟩:=h;obtain⟨y,h2,e2⟩:=k;exact⟨z+y,by omega,by rw[Rat.add_mul,e1,e2,Rat.intCast_add]⟩
theorem Fd.neg {D A:Nat}{p:Rat}(h:Fd D A p):Fd D A (-p):=by
 obtain⟨z,h1,e1⟩:=h;exact⟨-z,by omega,by rw[Rat.neg_mul,e1,Rat.intCast_neg]⟩
theorem Fd.up {D A B:Nat}{p:Rat}(h:Fd D A p)(k:A≤B):Fd D B p:=let ⟨z,a,b⟩:=h;⟨z,by omega,b⟩
theorem Fd.fx {D A:Nat}{p:Rat}(h:Fd D A p)(h0:0<D):Fx A D p:=let ⟨z,a,b⟩:=h;⟨z,D,h0,zab _,a,b⟩
theorem cW {a b:Int}{A B:Nat}(h:a.natAbs≤A)(k:b.natAbs≤B):(a*b).natAbs≤A*B:=by rw[zbH];exact zaT h k
theorem fx_int {N M:Nat}{q:Rat}{r X:Int}(hr:r≠0)(e:q*(r:Rat)=(X:Rat))(h1:X.natAbs≤N)(h2:r.natAbs≤M):Fx N M q:=by
 rcases Int.natAbs_eq r with h | h
 ·exact⟨X,r.natAbs,by omega,h2,h1,by rw[← e,show ((r.natAbs:Nat):Rat)=((r:Int):Rat) by conv=>rhs;rw[h,Rat.intCast_natCast]]⟩
 ·refine⟨-X,r.natAbs,by omega,h2,by omega,?_⟩;have h3:(r:Rat) = -((r.natAbs:Nat):Rat):=by conv=>lhs;rw[h,Rat.intCast_neg,Rat.intCast_natCast]
  rw[Rat.intCast_neg,← e,h3];grind
theorem jJ {a b:Int}{A:Nat}(h:a.natAbs≤A)(k:b.natAbs≤A):(a-b).natAbs≤2*A:=by omega
theorem yM3 {a b c d:Int}{A:Nat}(h1:a.natAbs≤2*A)(h2:b.natAbs≤2*A)(h3:c.natAbs≤2*A)(h4:d.natAbs≤2*A):(a*b-c*d).natAbs≤8*(A*A):=by
 have k1:=cW h1 h2;have k2:=cW h3 h4;have e:2*A*(2*A)=4*(A*A):=by rw[Nat.mul_mul_mul_comm]
 omega
theorem cross_at {R x n:Rat}{a u r N:Int}{det num:Rat}(hR:R≠0)(hd:det≠0)(e1:x*R=(a:Rat))(e2:n*R=(u:Rat))(e3:det*(R*R)=(r:Rat))(e4:num*(R*R)=(N:Rat)):(x+num/det*n)*(R*(r:Rat))=((a*r+N*u:Int):Rat):=by
 rw[Rat.intCast_add,zbG,zbG,← e1,← e2,← e3,← e4];have h:num/det*det=num:=zcE hd;generalize num/det=t at *;subst h;grind
theorem lines_fx {D A:Nat}(h0:0<D){a b c d:P2}(ha:Fd D A a.1∧Fd D A a.2)(hb:Fd D A b.1∧Fd D A b.2)(hc:Fd D A c.1∧Fd D A c.2)(hd:Fd D A d.1∧Fd D A d.2)(hl:xF a b c d) :
  Fx (24*(A*A*A)) (D*(8*(A*A))) (xO a b c d).1∧Fx (24*(A*A*A)) (D*(8*(A*A))) (xO a b c d).2:=by
 obtain⟨⟨a1,p1,e1⟩,a2,p2,e2⟩:=ha;obtain⟨⟨b1,p3,e3⟩,b2,p4,e4⟩:=hb;obtain⟨⟨c1,p5,e5⟩,c2,p6,e6⟩:=hc;obtain⟨⟨d1,p7,e7⟩,d2,p8,e8⟩:=hd;have hD:((D:Nat):Rat)≠0:=by exact_mod_cast (show D≠0 by omega)
 unfold xO;rw[if_pos hl];unfold xF at hl;have f1:zH (subP b a) (subP d c)*(((D:Nat):Rat)*((D:Nat):Rat))=(((b1-a1)*(d2-c2)-(b2-a2)*(d1-c1):Int):Rat):=by
  rw[zbw,zbG,zbG,zbw,zbw,zbw,zbw,← e1,← e2,← e3,← e4,← e5,← e6,← e7,← e8];unfold zH subP;grind
 have f2:zH (subP c a) (subP d c)*(((D:Nat):Rat)*((D:Nat):Rat))=(((c1-a1)*(d2-c2)-(c2-a2)*(d1-c1):Int):Rat):=by
  rw[zbw,zbG,zbG,zbw,zbw,zbw,zbw,← e1,← e2,← e5,← e6,← e7,← e8];unfold zH subP;grind
 have k1:=yM3 (jJ p3 p1) (jJ p8 p6) (jJ p4 p2) (jJ p7 p5);have k2:=yM3 (jJ p5 p1) (jJ p8 p6) (jJ p6 p2) (jJ p7 p5);generalize (b1-a1)*(d2-c2)-(b2-a2)*(d1-c1)=r at *;generalize (c1-a1)*(d2-c2)-(c2-a2)*(d1-c1)=m at *;have hr:r≠0:=fun z=>by
  rw[z] at f1;rcases zbo.1 (f1.trans rfl) with k | k
  ·exact hl k
  ·rcases zbo.1 k with k | k<;>exact hD k
 have hDr:((D:Nat):Int)*r≠0:=Int.mul_ne_zero (by omega) hr;have hm:(((D:Nat):Int)*r).natAbs≤D*(8*(A*A)):=by
  rw[zbH,zbX];exact zbp _ k1
 have hX:∀ a u:Int,a.natAbs≤A→u.natAbs≤2*A→(a*r+m*u).natAbs≤24*(A*A*A):=fun a u h1 h2=>by
  have q1:=cW h1 k1;have q2:=cW k2 h2;have w1:A*(8*(A*A))=8*(A*A*A):=by rw[zcg,zat A A A]
  have w2:8*(A*A)*(2*A)=16*(A*A*A):=by rw[Nat.mul_mul_mul_comm]
  omega
 have key:∀(x n:Rat) (y u:Int),x*((D:Nat):Rat)=(y:Rat)→n*((D:Nat):Rat)=(u:Rat)→y.natAbs≤A→u.natAbs≤2*A→Fx (24*(A*A*A)) (D*(8*(A*A))) (x+n*wA a b c d):=fun x n y u g1 g2 g3 g4=>by
  refine fx_int hDr ?_ (hX y u g3 g4) hm;rw[zbG,Rat.intCast_natCast,Rat.mul_comm n];exact cross_at hD hl g1 g2 f1 f2
 refine⟨key a.1 (b.1-a.1) a1 (b1-a1) e1 ?_ p1 (jJ p3 p1),key a.2 (b.2-a.2) a2 (b2-a2) e2 ?_ p2 (jJ p4 p2)⟩
 ·rw[zbw,← e1,← e3];grind
 ·rw[zbw,← e2,← e4];grind
theorem lG {ls pre:zF}{l:List P2}{k:Nat}(h:∃ post,ls=pre++l::post)(hk:k<l.length):(∃ post,yX ls=(yX pre++(gY l).take k)++ordE (gp l k,nx l k)::post)∧(gY l).take (k+1)=(gY l).take k++[ordE (gp l k,nx l k)]:=by
 obtain⟨post,rfl⟩:=h;have hl:k<(gY l).length:=by unfold gY;simpa using hk
 have e:(gY l)[k]=ordE (gp l k,nx l k):=by unfold gY;simp
 refine⟨⟨(gY l).drop (k+1)++yX post,?_⟩,?_⟩
 ·unfold yX;rw[List.flatMap_append,zcd,zaA,← e];congr 1;rw[← zaS,List.getElem_cons_drop,← zaA,zbb]
 ·rw[zcM hl,e]
theorem box1 {n:Nat}{p q:P2}{M:Nat→Prop}{w:World}{us:List Value}(k:stp [ptc n p,ptc n q] M w us):stp [st [ptc n p,ptc n q]] M w us:=⟨us,[],by simp,k,rfl⟩
theorem ihedges {ls:zF}{n:Nat}(hn:n≤200)(hl:ls.length≤100)(h9:∀ l∈ls,l.length≤9):CIt prog 219 [pa (sl 1 (ls.map fun x=>sl 6 (x.map (ptc n))))] (yX ls) (fun e=>[ag (ect (n+1) e)]):=by
 refine cit func219 rfl rfl rfl rfl rfl fun X y YS YX hY hS=>?_;repeat refine u ?_
 refine lpy (σ:=Nat) [0,8,9] (fun i=>[(10,True,zJ i)]) (fun i=>[]) (fun i Y=>YS (yX (ls.take i)) Y∧i≤ls.length) (fun i=>ls.length-i) (0) (⟨hS,by omega⟩) fun i Y hG=>?_;obtain⟨hS,hi⟩:=hG;have hll:i<ls.length→(ls.getD i Df.d).length≤9:=fun hi=>h9 _ (by rw[zah,zag hi];exact zaQ _);repeat refine u ?_
 refine t_if rfl (fun c0=>?_) (fun c0=>?_);repeat refine u ?_
 refine zA1 (oix _ rfl rfl rfl (fun _=>rfl) (fun _=>(by(have e0:=dt c0;omega)))) ?_;repeat refine u ?_
 refine zB rfl rfl (iB (by omega) (by(have e0:=dt c0;omega))) ?_;repeat refine u ?_
 rotate_left;rotate_left
 ·have hi2:=dt c0;have h5:=hll (by omega);have hx:=zT (Df.d:List P2) (show i<ls.length by omega);generalize ls.getD i Df.d=l at *;refine dK (σ:=Nat) (fun k=>[(18,True,zJ k)]) (fun k=>[]) (fun k Y=>YS (yX (ls.take i)++(gY l).take k) Y∧k≤l.length) (fun k=>l.length-k) (0) (tk 0 rfl (tk 4 rfl (tk 8 rfl (tk 9 rfl (tk 10 rfl (tk 16 rfl (tk 17 rfl tn))))))) ?_ rfl (⟨by rw[List.take_zero,zar];exact hS,by omega⟩) (fun k Y hG=>?_);refine zA rfl tn;obtain⟨hS2,hk⟩:=hG;repeat refine u ?_
  refine t_if rfl (fun c1=>?_) (fun c1=>?_);repeat refine u ?_
  refine zA1 (oix _ rfl rfl rfl (fun _=>rfl) (fun _=>(by(have e0:=dt c1;omega)))) ?_;refine u ?_;refine u fun b6=>?_;repeat refine u ?_
  refine zD 0 rfl rfl (zO (zY (s:=6) 0 rfl rfl) ?_);iterate 2 refine u ?_
  apply gP 1 12 11 [(10,7,0),(11,1000011,0)] rfl rfl mixed rfl rfl rfl;repeat refine u ?_
  refine cx1 (orm rfl rfl (by(have e0:=dt c1;omega))) rfl ?_;refine cx1 (oix _ rfl rfl rfl (fun _=>rfl) (fun _=>?_)) rfl ?_;rotate_left;repeat refine u ?_
  refine cx1 (obd rfl rfl rfl) rfl (cN rfl rfl (cal) (cS rfl rfl rfl (cst rfl rfl rfl) ?_));refine cE (fun b7=>?_);refine fm ?_;repeat refine u ?_
  refine zA1 (oldf 0 0 rfl rfl rfl rfl) ?_;refine u ?_;refine zA1 (oldf 0 6 rfl rfl rfl rfl) ?_;refine zB rfl rfl (yI4 (by omega)) ?_;repeat refine u ?_
  refine ti (fun c2=>?_) fun c2=>?_;iterate 2 refine u ?_
  refine zA1 (oldf 0 6 rfl rfl rfl rfl) ?_;repeat refine u ?_
  refine zA1 (oldf 0 0 rfl rfl rfl rfl) ?_;repeat refine u ?_
  rotate_left;repeat refine u ?_
  rotate_left;rotate_left
  ·have:=dt c1;exact zaI _ (by omega)
  ·have hk2:=dt c1;obtain⟨⟨post,e1⟩,e2⟩:=lG ⟨_,hx.2⟩ (show k<l.length by omega);have e:ordE (gp l k,nx l k)=(nx l k,gp l k):=by unfold ordE;rw[if_pos (show 0<cmpP (gp l k,nx l k).1 (gp l k,nx l k).2 from dt c2)]
   rw[e] at e1 e2;refine zO (jK (cs':=[ptc (n+1) (gp l k),ptc (n+1) (nx l k)]) 0 rfl box2) ?_;refine zD 0 rfl rfl ?_;repeat refine u ?_
   refine zD 0 rfl rfl ?_;repeat refine u ?_
   refine zO (jK (cs':=[ect (n+1) (nx l k,gp l k)]) 0 rfl box1) ?_;refine zA1 (zG 0 rfl) ?_;refine gO hY hS2 e1 rfl rfl (fs1 (PSub.refl _) fs0) (fun Y hS=>?_) (fun Y hX=>?_)
   ·repeat refine u ?_
    refine qC rfl rfl ?_;repeat refine u ?_
    refine⟨k+1,tes ?_ ?_ (List.sublist_cons_self _ _),?_,(by omega)⟩;refine zA rfl tn;refine zA rfl (zA rfl (zA rfl (zA rfl (zA rfl (zA rfl (zA rfl tn))))));exact⟨by rw[e2,← zaA];exact hS,by omega⟩
   ·repeat refine u ?_
    refine kG rfl rfl ?_;repeat refine u ?_
    exact .inr hX
  ·have hk2:=dt c1;obtain⟨⟨post,e1⟩,e2⟩:=lG ⟨_,hx.2⟩ (show k<l.length by omega);have e:ordE (gp l k,nx l k)=(gp l k,nx l k):=by unfold ordE;rw[if_neg (show ¬ 0<cmpP (gp l k,nx l k).1 (gp l k,nx l k).2 from df c2)]
   rw[e] at e1 e2;refine gO hY hS2 e1 rfl rfl (fs1 (PSub.refl _) fs0) (fun Y hS=>?_) (fun Y hX=>?_)
   ·repeat refine u ?_
    refine qC rfl rfl ?_;repeat refine u ?_
    refine⟨k+1,tes ?_ ?_ (List.sublist_cons_self _ _),?_,(by omega)⟩;refine zA rfl tn;refine zA rfl (zA rfl (zA rfl (zA rfl (zA rfl (zA rfl (zA rfl tn))))));exact⟨by rw[e2,← zaA];exact hS,by omega⟩
   ·repeat refine u ?_
    refine kG rfl rfl ?_;repeat refine u ?_
    exact .inr hX
  ·have hk2:=df c1;repeat refine u ?_
   refine⟨i+1,tes ?_ ?_ (zaa _),?_,(by omega)⟩;refine zA rfl tn;refine zA rfl (zA rfl (zA rfl tn));refine⟨?_,by omega⟩;rw[hx.1];have e:yX (ls.take i++[l])=yX (ls.take i)++(gY l).take k:=by
    unfold yX;rw[List.flatMap_append,List.flatMap_cons,List.flatMap_nil,List.append_nil,List.take_of_length_le (show (gY l).length≤k by unfold gY;rw[List.length_map,List.length_range];omega)]
   rw[e];exact hS2
 ·have hi2:=df c0;repeat refine u ?_
  rw[zaz (by omega)] at hS;exact .inl hS
theorem kappE {g:FuncId}{caps:List PV}{xs:List BX}{m:Nat}(it:CIt prog g caps xs (fun e=>[ag (ect m e)]))(hl:xs.length≤1000):CTy prog 218 [exP (.slice none 0 0),fn g caps] (sv (sl 12 (xs.map (ect m)))):=by
 refine fw [.tmp 4] func218 fun X=>?_;iterate 2 refine u ?_
 refine tbx (hc:=cts1) rfl fun b2=>?_;repeat refine u ?_
 refine t_ts (jH 109 12) ?_;refine gA (σ:=List BX×Value) (fun t=>[.row t.2 109 12 (t.1.map (ect m)),.blk b2 45 [xc t.2]]) (fun pre t=>t.1=pre) ([],.slice none 0 0) rfl it (fun _=>rfl) rfl kZ (by simp) rfl (fun pre x post t hx hJ Y y hl=>?_) (fun t hJ Y _=>?_)
 ·obtain⟨pr,v1⟩:=t;obtain rfl:pr=pre:=hJ;have h1:pr.length≤1000:=by have:=congrArg List.length hx;simp at this;omega
  refine u ?_;refine u fun b5=>?_;refine zD 0 rfl rfl (zO (zY (s:=5) 0 rfl rfl) ?_);repeat refine u ?_
  refine⟨rfl,fun Y hl=>?_⟩;repeat refine u ?_
  refine zA1 (zG 1 rfl) ?_;repeat refine u ?_
  refine tap 0 rfl rfl rfl (by(simp;omega)) rfl fun r11=>?_;refine tsw 1 0 rfl rfl rfl rfl rfl rfl rfl ?_;repeat refine u ?_
  refine⟨(pr++[x],r11),(by(simp;done)),rfl⟩
 ·obtain⟨_,v1⟩:=t;obtain rfl:_=xs:=hJ;iterate 5 refine u ?_
  refine t_ts (yW (s:=4) 0 rfl rfl) ?_;repeat refine u ?_
  exact e
theorem kcolE {g:FuncId}{caps:List PV}{xs:List BX}{m:Nat}(it:CIt prog g caps xs (fun e=>[ag (ect m e)]))(hl:xs.length≤1000):CTy prog 151 [fn g caps] (sv (sl 12 (xs.map (ect m)))):=by
 refine fw [.tmp 2] func151 fun X=>?_;repeat refine u ?_
 refine zB rfl rfl (kappE it (by omega)) ?_;repeat refine u ?_
 exact e
theorem khedges {ls:zF}{n:Nat}:CTy prog 152 [sv (sl 1 (ls.map fun x=>sl 6 (x.map (ptc n))))] (fn 219 [pa (sl 1 (ls.map fun x=>sl 6 (x.map (ptc n))))]):=by
 refine fw [.tmp 2] func152 fun X=>?_;repeat refine u ?_
 exact e
theorem khullE {ls:zF}{n:Nat}(hn:n≤200)(hl:ls.length≤100)(h9:∀ l∈ls,l.length≤9):CTy prog 79 [sv (sl 1 (ls.map fun x=>sl 6 (x.map (ptc n))))] (sv (sl 12 ((yX ls).map (ect (n+1))))):=by
 have h1:=iF h9;refine fw [.tmp 2] func79 fun X=>?_;repeat refine u ?_
 refine zB rfl rfl khedges ?_;refine zB rfl rfl (kcolE (ihedges hn hl h9) (by omega)) ?_;repeat refine u ?_
 exact e
theorem yT9:COrd cmpL:=⟨fun a b=>tT,fun a b=>by
 unfold cmpL;have h1:=@gE (a.1+a.2) (b.1+b.2);have h2:=@yO (b.1+b.2) (a.1+a.2);have h3:=@xK (a.1+a.2) (b.1+b.2);have h4:=@xK (b.1+b.2) (a.1+a.2);have h5:=@gE a.1 b.1;have h6:=@yO b.1 a.1;grind,fun a b c h k=>aX h k⟩
theorem klcompare {p q:P2}{n m:Nat}(hn:n≤40000)(hm:m≤40000):CTy prog 85 [ag (ptc n p),ag (ptc m q)] (exP (.int .i64 (cmpL p q))):=by
 refine fw [.tmp 4] func85 fun X=>?_;iterate 8 refine u ?_
 refine zK 14 mixed rfl rfl ?_;repeat refine u ?_
 refine zC rfl rfl (zM3 (by omega)) ?_;repeat refine u ?_
 refine zC rfl rfl (zM3 (by omega)) ?_;refine zC rfl rfl (gD (by omega) (by omega)) ?_;repeat refine u ?_
 refine ti (fun c0=>?_) fun c0=>?_;repeat refine u ?_
 refine e ?_;refine ps_i ?_;rotate_left;repeat refine u ?_
 refine zB rfl rfl (gD (by omega) (by omega)) ?_;repeat refine u ?_
 refine e ?_;refine ps_i ?_;rotate_left
 ·unfold cmpL;rw[if_pos (dt c0)]
 ·unfold cmpL;rw[if_neg (df c0)]
theorem pU {Ψ Φ Θ:PV}{p q:P2}{x:Rat}{n m k:Nat}[QP Ψ n p][QP Φ m q][QR Θ k x](hn:n≤400)(hm:m≤400)(hk:k≤400):CTy prog 159 [Ψ,Φ,Θ] (tu [ag (rtc (20*(n+m+k)+100) (zN p q x)),exP (.bool (decide (q.1-p.1≠0)))]):=by
 refine yI (σs:=[ag (ptq n p),ag (ptq m q),ag (rtq k x)]) ?_ (fs1 qp_q (fs1 qp_q (fs1 qr_q fs0)));refine fw [.cell 6 29,.tmp 7] func159 fun X=>?_;iterate 5 refine u ?_
 refine u fun b6=>?_;iterate 3 refine u ?_
 apply gP 1 16 14 [(13,8,0),(14,1000014,0)] rfl rfl mixed rfl rfl rfl;repeat refine u ?_
 refine cx1 (oca rfl rfl fun _=>nE (by omega) (by omega)) rfl ?_;repeat refine u ?_
 refine cx1 (oca rfl rfl fun _=>nE (by omega) (by omega)) rfl ?_;refine cx1 (oca rfl rfl fun _=>yJ0 (by omega) (by omega)) rfl ?_;repeat refine u ?_
 refine cN rfl rfl (cal) (cS rfl rfl rfl (cst rfl rfl rfl) ?_);repeat refine u ?_
 refine cE (fun b8=>?_);refine fm ?_;repeat refine u ?_
 refine ti (fun c0=>?_) fun c0=>?_;repeat refine u ?_
 refine zB rfl rfl (krof (k:=0) (K:=2) (by omega) (by omega)) ?_;repeat refine u ?_
 refine e ⟨?_,?_⟩;rotate_left;refine psb ?_;rotate_left;repeat refine u ?_
 refine zB rfl rfl (kvat (by omega) (by omega) (by omega)) ?_;repeat refine u ?_
 refine e ⟨?_,?_⟩;rotate_left;refine psb ?_;rotate_left
 ·have hq:q.1-p.1=0:=Classical.byContradiction fun c=>dt c0 (if_neg c);exact bH (by omega) (by unfold zN;rw[if_pos hq];rfl)
 ·have hq:q.1-p.1=0:=Classical.byContradiction fun c=>dt c0 (if_neg c);rw[decide_eq_false (fun c=>c hq)]
 ·have hq:q.1-p.1≠0:=fun c=>df c0 (by rw[if_pos c];decide);exact bH (by omega) (by unfold zN;rw[if_neg hq])
 ·have hq:q.1-p.1≠0:=fun c=>df c0 (by rw[if_pos c];decide);rw[decide_eq_true hq]
instance dfBX:Df BX:=⟨((0,0),(0,0))⟩
theorem zI4 {lo hi:Rat}{es:List BX}{i:Nat}:∀ d,∃ post,xQ lo hi es (i+d)=xQ lo hi es i++post
 | 0=>⟨[],by simp⟩
 | d+1=>by
  obtain⟨post,e⟩:=zI4 (lo:=lo) (hi:=hi) (es:=es) (i:=i) d;exact⟨post++_,by rw[← zaP,xQ,e,zaA]⟩
theorem thru_at {lo hi:Rat}{es:List BX}{i:Nat}(hi':i<es.length)(h:uT lo hi (es.getD i ((0,0),(0,0)))):∃ post,xQ lo hi es es.length=xQ lo hi es i++qK lo hi (es.getD i ((0,0),(0,0)))::post:=by
 obtain⟨post,e⟩:=zI4 (lo:=lo) (hi:=hi) (es:=es) (i:=i+1) (es.length-(i+1));rw[show i+1+(es.length-(i+1))=es.length by omega,rS h] at e;exact⟨post,by rw[e,zaA];rfl⟩
theorem ithru {es:List BX}{lo hi:Rat}{n m N:Nat}(hn:n≤200)(hm:m≤200)(hl:es.length≤1000)(hr:∀ x∈xQ lo hi es es.length,rlen x.1 N∧rlen x.2 N):CIt prog 158 [pa (sl 12 (es.map (ect n))),pa (rtq m lo),pa (rtq m hi)] (xQ lo hi es es.length) (fun x=>[ag (ptc N x)]):=by
 refine cit func158 rfl rfl rfl rfl rfl fun X y YS YX hY hS=>?_;repeat refine u ?_
 refine lpy (σ:=Nat) [0,2,3,11,12] (fun i=>[(13,True,zJ i)]) (fun i=>[]) (fun i Y=>YS (xQ lo hi es i) Y∧i≤es.length) (fun i=>es.length-i) (0) (⟨hS,by omega⟩) fun i Y hG=>?_;obtain⟨hS,hle⟩:=hG;repeat refine u ?_
 refine ti (fun c0=>?_) fun c0=>?_;repeat refine u ?_
 refine zA1 (oix _ rfl rfl rfl (fun _=>rfl) (fun _=>(by(have e0:=dt c0;omega)))) ?_;refine u ?_;refine u fun b6=>?_;refine zD 0 rfl rfl (zO (zY (s:=6) 0 rfl rfl) ?_);repeat refine u ?_
 refine zA1 (ofa rfl rfl) ?_;repeat refine u ?_
 refine zB rfl rfl (gD (by omega) (by omega)) ?_;repeat refine u ?_
 refine t1g rfl rfl (ofa rfl rfl) ?_;repeat refine u ?_
 refine t1g rfl rfl (oca rfl rfl fun g=>gD (by omega) (by omega)) ?_;repeat refine u ?_
 refine t1g rfl rfl (ofa rfl rfl) ?_;repeat refine u ?_
 refine t1g rfl rfl (ofa rfl rfl) ?_;repeat refine u ?_
 refine t1g rfl rfl (oca rfl rfl fun g=>gD (by omega) (by omega)) ?_;repeat refine u ?_
 refine ti (fun c1=>?_) fun c1=>?_;repeat refine u ?_
 rotate_left;repeat refine u ?_
 refine zA1 (ofa rfl rfl) ?_;repeat refine u ?_
 refine zA1 (ofa rfl rfl) ?_;repeat refine u ?_
 refine zB rfl rfl (pU (by omega) (by omega) (by omega)) ?_;iterate 3 refine u ?_
 refine u fun b7=>?_;refine u ?_;refine zO (zY (s:=7) 0 rfl rfl) ?_;repeat refine u ?_
 refine zA1 (ofa rfl rfl) ?_;repeat refine u ?_
 refine zA1 (ofa rfl rfl) ?_;repeat refine u ?_
 refine zA1 (old rfl rfl) ?_;refine zB rfl rfl (pU (by omega) (by omega) (by omega)) ?_;iterate 3 refine u ?_
 refine u fun b9=>?_;refine u ?_;refine zO (zY (s:=9) 0 rfl rfl) ?_;repeat refine u ?_
 refine zA1 (omv rfl) ?_;repeat refine u ?_
 rotate_left;repeat refine u ?_
 rotate_left
 ·have hi2:=dt c0;have hn:¬ uT lo hi (es.getD i ((0,0),(0,0))):=fun⟨h1,h2,h3⟩=>by
   have h:=c1.h;simp only[zcf,decide_eq_true_eq] at h;have g1:¬ 0<cmpR (es.getD i ((0,0),(0,0))).1.1 lo:=fun c=>h1 (gE.1 c);have g2:¬ cmpR (es.getD i ((0,0),(0,0))).2.1 hi<0:=fun c=>h2 (yO.1 c);have g3:¬ 0≤cmpR (es.getD i ((0,0),(0,0))).1.1 (es.getD i ((0,0),(0,0))).2.1:=fun c=>by have:=yO.2 h3;omega
   exact h.elim (fun h=>h.elim g1 g2) g3
  refine⟨i+1,tes ?_ ?_ (zaa _),?_,(by omega)⟩;refine zA rfl tn;refine zA rfl (zA rfl (zA rfl (zA rfl (zA rfl tn))));exact⟨by rw[thru_skip hn];exact hS,by omega⟩
 ·have hi2:=dt c0;have ht:uT lo hi (es.getD i ((0,0),(0,0))):=by
   have h:=c1.h;simp only[Bool.or_eq_false_iff,decide_eq_false_iff_not] at h;exact⟨fun c=>h.1.1 (gE.2 c),fun c=>h.1.2 (yO.2 c),Classical.byContradiction fun c=>h.2 (gF.2 (by grind))⟩
  obtain⟨post,e1⟩:=thru_at (show i<es.length by omega) ht;refine gO hY hS e1 rfl rfl (fs1 ?_ fs0) (fun Y hS=>?_) (fun Y hX=>?_)
  ·exact fun M w v ⟨us,e,h⟩=>⟨us,e,sG (hr _ (by rw[e1];simp)) M w us h⟩
  ·repeat refine u ?_
   refine qC rfl rfl ?_;repeat refine u ?_
   refine zA1 (oad rfl rfl (by omega)) ?_;repeat refine u ?_
   refine⟨i+1,tes ?_ ?_ (zaa _),?_,(by omega)⟩;refine zA rfl tn;refine zA rfl (zA rfl (zA rfl (zA rfl (zA rfl tn))));exact⟨by rw[rS ht];exact hS,by omega⟩
  ·repeat refine u ?_
   refine kG rfl rfl ?_;repeat refine u ?_
   exact .inr hX
 ·have:i=es.length:=by have:=df c0;omega
  subst this;exact .inl hS
theorem klthru {es:List BX}{lo hi:Rat}{n m:Nat}:CTy prog 82 [ag (rtq m lo),ag (rtq m hi),sv (sl 12 (es.map (ect n)))] (fn 158 [pa (sl 12 (es.map (ect n))),pa (rtq m lo),pa (rtq m hi)]):=by
 refine fw [.tmp 6] func82 fun X=>?_;repeat refine u ?_
 exact e
theorem oappL {g:FuncId}{caps:List PV}{xs:List P2}{m:Nat}(it:CIt prog g caps xs (fun e=>[ag (ptc m e)]))(hl:xs.length≤1000):CTo prog 157 [exP (.slice none 0 0),fn g caps] [] (fun r So=>∃ v,r=exP v∧So=[.row v 55 6 (xs.map (ptc m))]):=by
 refine fwo [.tmp 4] func157 fun X=>?_;iterate 2 refine u ?_
 refine tbx (hc:=cts1) rfl fun b2=>?_;repeat refine u ?_
 refine t_ts (jH 55 6) ?_;refine gA (σ:=List P2×Value) (fun t=>[.row t.2 55 6 (t.1.map (ptc m)),.blk b2 49 [xc t.2]]) (fun pre t=>t.1=pre) ([],.slice none 0 0) rfl it (fun _=>rfl) rfl kZ (by simp) rfl (fun pre x post t hx hJ Y y hl=>?_) (fun t hJ Y _=>?_)
 ·obtain⟨pr,v1⟩:=t;obtain rfl:pr=pre:=hJ;have h1:pr.length≤1000:=by have:=congrArg List.length hx;simp at this;omega
  refine u ?_;refine u fun b5=>?_;refine zD 0 rfl rfl (zO (zY (s:=5) 0 rfl rfl) ?_);repeat refine u ?_
  refine⟨rfl,fun Y hl=>?_⟩;repeat refine u ?_
  refine zA1 (zG 1 rfl) ?_;repeat refine u ?_
  refine tap 0 rfl rfl rfl (by(simp;omega)) rfl fun r11=>?_;refine tsw 1 0 rfl rfl rfl rfl rfl rfl rfl ?_;repeat refine u ?_
  refine⟨(pr++[x],r11),(by(simp;done)),rfl⟩
 ·obtain⟨_,v1⟩:=t;obtain rfl:_=xs:=hJ;repeat refine u ?_
  exact⟨[_],exP v1,_,rst rfl rs0,List.singleton_sublist.2 (by simp),⟨v1,rfl,rfl⟩,yC (PSub.refl _)⟩
theorem ocolL {g:FuncId}{caps:List PV}{xs:List P2}{m:Nat}(it:CIt prog g caps xs (fun e=>[ag (ptc m e)]))(hl:xs.length≤1000):CTo prog 81 [fn g caps] [] (fun r So=>∃ v,r=exP v∧So=[.row v 55 6 (xs.map (ptc m))]):=by
 refine fwo [.tmp 2] func81 fun X=>?_;repeat refine u ?_
 refine tco [] rfl rfl rfl (oappL it hl) ?_;rintro _ _ ⟨v,rfl,rfl⟩;repeat refine u ?_
 exact er ⟨_,rfl,rfl⟩
theorem ksortL {v:Value}{l:List P2}{m:Nat}(hm:m≤40000)(hl:l.length≤1000000):CTo prog 84 [exP v,exP (.func (.func 85) #[] #[])] [.row v 55 6 (l.map (ptc m))] (fun r So=>r=tu []∧∃ l':List P2,l'.Perm l∧(∀ i j,i<j→j<l'.length→¬ cmpL l'[j]! l'[i]! < 0)∧So=[.row v 55 6 (l'.map (ptc m))]) :=
 yD7 (ρ:=sortLevel_ren) sortLevel rfl yL5 (xM sz55) (fun _=>rfl) yT9.swo (bo func84) (fun x y=>klcompare hm hm) hl
abbrev eqL (a b:P2):Bool:=decide (a=b)
theorem wcompactL {v:Value}{l:List P2}{m:Nat}(hm:m≤20000)(hl:l.length≤100000):CTo prog 86 [exP v,exP (.func (.func 87) #[] #[])] [.row v 55 6 (l.map (ptc m))] (fun ρ So=>∃ v',ρ=exP v'∧So=[.row v' 55 6 ((jF eqL (0,0) l l.length).map (ptc m))]):=by
 refine fwo [.tmp 4] func86 fun X=>?_;repeat refine u ?_
 refine ti (fun c0=>?_) fun c0=>?_;repeat refine u ?_
 rotate_left;repeat refine u ?_
 rotate_left
 ·have h2:=dt c0;exact⟨[_],exP v,_,rst rfl rs0,zaa _,⟨v,rfl,by rw[jV (zab _) fun i h1 h3=>by omega,zaG]⟩,yC (PSub.refl _)⟩
 have h2:=df c0;refine lp (σ:=Nat) [0,1] (fun s=>[(5,True,zJ s)]) (fun s=>[.row v 55 6 (l.map (ptc m))]) (fun s=>1≤s∧s≤l.length∧∀ i,0<i→i<s→eqL (l.getD i (0,0)) (l.getD (i-1) (0,0))=false) (fun s=>l.length-s) (1) (⟨by omega,by omega,fun i h1 h3=>by omega⟩) fun s hJ Y _=>?_;obtain⟨j1,j2,j3⟩:=hJ;repeat refine u ?_
 refine ti (fun c1=>?_) fun c1=>?_;iterate 4 refine u ?_
 refine zK 11 mixed rfl rfl ?_;repeat refine u ?_
 refine d1 (oixo 0 _ rfl rfl rfl (fun _=>rfl) (fun _=>(by(have e0:=dt c1;simp;omega)))) ?_;refine d1 (oldr 0 rfl rfl (fun _=>(by(have e0:=dt c1;simp;omega))) rfl) ?_;iterate 3 refine u ?_
 refine d1 (oixo 0 (s-1) rfl rfl rfl (fun _=>(by omega)) (fun _=>(by(simp;omega)))) ?_;repeat refine u ?_
 refine zC rfl rfl (yJ6 (by omega) (by omega)) ?_;repeat refine u ?_
 refine ti (fun c2=>?_) fun c2=>?_;repeat refine u ?_
 refine zA1 (osv 0 _ rfl rfl rfl (fun _=>rfl) (fun _=>(by(have e0:=df c0;have e1:=dt c1;have e2:=dt c2;simp;omega)))) ?_;repeat refine u ?_
 rotate_left;repeat refine u ?_
 rotate_left;repeat refine u ?_
 rotate_left
 ·have h3:=dt c1;refine xC (σ:=Nat×Nat×List P2) (fun t=>[(5,True,zJ t.1),(7,True,zJ t.2.1)]) (fun t=>[.row v 55 6 (t.2.2.map (ptc m))]) (fun t=>1≤t.2.1∧s+t.2.1≤l.length∧s≤t.1∧t.1<s+t.2.1∧t.2.2.length=l.length∧t.2.2.take t.1=jF eqL (0,0) l (s+t.2.1)∧∀ i,s+t.2.1≤i+1→t.2.2.getD i (0,0)=l.getD i (0,0)) (fun t=>l.length-t.2.1) ((s,1,l)) (tk 0 rfl (tk 1 rfl (tk 6 rfl tn))) ?_ rfl (⟨by simp,by simp only;omega,by simp,by simp,rfl,cL (l:=l) (s:=s) (by omega) (by omega) j3 c2.h,fun _ _=>rfl⟩) (fun t hJ Y _=>?_);refine zA rfl (zA rfl tn);obtain⟨kk,m',l2⟩:=t;dsimp only at hJ ⊢;obtain⟨j4,j5,j6,j7,j8,j9,j10⟩:=hJ;repeat refine u ?_
  refine zA1 (olv 0 rfl rfl) ?_;repeat refine u ?_
  refine ti (fun c3=>?_) fun c3=>?_;iterate 4 refine u ?_
  refine zK 12 mixed rfl rfl ?_;repeat refine u ?_
  refine d1 (oixv 0 m' rfl rfl rfl (fun _=>(by omega)) (fun _=>(by(have e0:=dt c3;omega)))) ?_;refine d1 (oldr 0 rfl rfl (fun _=>(by(have e0:=dt c3;omega))) rfl) ?_;repeat refine u ?_
  refine d1 (oixv 0 (m'-1) rfl rfl rfl (fun _=>(by omega)) (fun _=>(by(simp;omega)))) ?_;repeat refine u ?_
  refine zC rfl rfl (yJ6 (by omega) (by omega)) ?_;repeat refine u ?_
  refine ti (fun c4=>?_) fun c4=>?_;repeat refine u ?_
  refine zA1 (oixv 0 m' rfl rfl rfl (fun _=>(by omega)) (fun _=>(by(have e0:=dt c3;omega)))) ?_;refine zA1 (oldr 0 rfl rfl (fun _=>(by(have e0:=dt c3;omega))) rfl) ?_;repeat refine u ?_
  refine tsr 0 _ rfl rfl rfl rfl rfl (by(simp;omega)) rfl ?_;repeat refine u ?_
  rotate_left;repeat refine u ?_
  rotate_left;repeat refine u ?_
  refine zA1 (osv 0 _ rfl rfl rfl (fun _=>rfl) (fun _=>(by(simp;omega)))) ?_;refine tclr 0 rfl rfl (by(simp;omega)) ?_;repeat refine u ?_
  refine tsh 0 _ rfl rfl rfl rfl (by(simp;omega)) fun r64=>?_;repeat refine u ?_
  rotate_left
  ·have h5:m'<l2.length-s:=by have:=dt c3;simp at this;omega
   have hd:l2.getD (s+m') (0,0)=l.getD (s+m') (0,0):=j10 _ (by omega);have hd2:l2.getD (s+(m'-1)) (0,0)=l.getD (s+m'-1) (0,0):=by rw[show s+(m'-1)=s+m'-1 by omega];exact j10 _ (by omega)
   have hc:¬ eqL (l.getD (s+m') (0,0)) (l.getD (s+m'-1) (0,0))=true:=by rw[← hd,← hd2,Bool.not_eq_true];exact(zcu _) ▸ c4.h
   refine⟨(kk+1,m'+1,l2.set kk (l2.getD (s+m') (0,0))),tes ?_ ?_ ?_,?_,(by(simp;omega))⟩;refine zA rfl (zA rfl tn);refine zA rfl (zA rfl (zA rfl tn));rotate_left;rotate_left
   ·rw[List.map_set];exact zaa _
   ·refine⟨by simp,by simp only;omega,by simp only;omega,by simp only;omega,by simp[j8],?_,fun i hi=>?_⟩
    ·simp only[← zaP];rw[hd];exact fF (by omega) j9 hc
    ·simp only at hi ⊢; rw[kP (by omega)];exact j10 i (by omega)
  ·have h5:m'<l2.length-s:=by have:=dt c3;simp at this;omega
   have hd:l2.getD (s+m') (0,0)=l.getD (s+m') (0,0):=j10 _ (by omega);have hd2:l2.getD (s+(m'-1)) (0,0)=l.getD (s+m'-1) (0,0):=by rw[show s+(m'-1)=s+m'-1 by omega];exact j10 _ (by omega)
   have hc:eqL (l.getD (s+m') (0,0)) (l.getD (s+m'-1) (0,0))=true:=by rw[← hd,← hd2];exact(Bool.not_eq_false' _) ▸ c4.h
   refine⟨(kk,m'+1,l2),tes ?_ ?_ (zaa _),?_,(by(simp;omega))⟩;refine zA rfl (zA rfl tn);refine zA rfl (zA rfl (zA rfl tn));exact⟨by simp,by simp only;omega,j6,by simp only;omega,j8,by simp only[← zaP];exact cK (by omega) j9 hc,fun i hi=>j10 i (by simp only at hi;omega)⟩
  ·have h5:¬ m'<l2.length-s:=by have:=df c3;simp at this;omega
   have e:s+m'=l.length:=by omega
   refine⟨[_],exP r64,_,rst rfl rs0,zaa _,⟨r64,rfl,?_⟩,yC (PSub.refl _)⟩;rw[← e,← j9];simp[zcy,zaZ (show kk≤l2.length by omega)]
 ·have h3:=dt c1;refine⟨s+1,tes ?_ ?_ (zaa _),?_,(by omega)⟩;refine zA rfl tn;refine zA rfl (zA rfl tn);refine⟨by omega,by omega,fun i h1 h4=>?_⟩;rcases zaf i s with h | h
  ·exact j3 i h1 h
  ·obtain rfl:i=s:=by omega
   exact c2.h
 ·have h3:=df c1;exact⟨[_],exP v,_,rst rfl rs0,zaa _,⟨v,rfl,by rw[jV (zab _) fun i h1 h4=>j3 i h1 (by omega),zaG]⟩,yC (PSub.refl _)⟩
theorem yJ8 {Ψ:PV}{p:Rat}{n N:Nat}[h:QR Ψ n p](hn:n≤80000)(hr:rlen p N):CTy prog 83 [Ψ] (ag (ptc N (p,p))):=by
 refine yI (σs:=[ag (rtq n p)]) ?_ (fs1 qr_q fs0);refine fw [.cell 2 55] func83 fun X=>?_;iterate 2 refine u ?_
 refine tbx (hc:=cts1) rfl fun b1=>(u fun b2=>?_);repeat refine u ?_
 refine zB rfl rfl (pS (by omega)) ?_;repeat refine u ?_
 refine zD 0 rfl rfl ?_;repeat refine u ?_
 refine⟨[_],zL 0 rfl rs0,yC ?_⟩;exact fun M w v ⟨us,e,h⟩=>⟨us,e,sG (p:=(p,p)) ⟨hr,hr⟩ M w us h⟩
theorem klofT {lo hi:Rat}{bl bh:P2}{es:List BX}{m n n3 n4 N:Nat}(hm:m≤200)(hn:n≤200)(h3:n3≤200)(h4:n4≤200)(hN:N≤20000)(hl:es.length≤900)(hr:∀ x∈xQ lo hi es es.length++[(bl.2,bl.2),(bh.2,bh.2)],rlen x.1 N∧rlen x.2 N) :
  CTy prog 23 [ag (rtq m lo),ag (rtq m hi),ag (st [ptq n3 bl,ptq n4 bh]),sv (sl 12 (es.map (ect n)))] (sv (sl 6 ((lvOf lo hi bl.2 bh.2 es).map (ptc N)))):=by
 have hb1:rlen bl.2 N:=(hr (bl.2,bl.2) (by simp)).1;have hb2:rlen bh.2 N:=(hr (bh.2,bh.2) (by simp)).1;have ht:∀ x∈xQ lo hi es es.length,rlen x.1 N∧rlen x.2 N:=fun x hx=>hr x (by simp[hx]);have hlen:(xQ lo hi es es.length).length≤es.length:=oP _ _ _ _;refine fw [.tmp 8] func23 fun X=>?_;repeat refine u ?_
 refine zB rfl rfl (gD (by omega) (by omega)) ?_;repeat refine u ?_
 refine ti (fun c0=>?_) fun c0=>?_;repeat refine u ?_
 refine e ?_;rotate_left;iterate 2 refine u ?_
 refine nO 1 15 [(4,18,0),(14,28,0)] rfl rfl mixed rfl rfl ?_;repeat refine u ?_
 refine cx1 (oca rfl rfl fun _=>klthru) rfl ?_;refine cN rfl rfl (cco rfl rfl (ocolL (ithru (by omega) (by omega) (by omega) ht) (by omega))) ?_;repeat refine u ?_
 refine cx1 (oca rfl rfl fun _=>yJ8 (by omega) hb1) rfl ?_;repeat refine u ?_
 refine cx1 (oca rfl rfl fun _=>yJ8 (by omega) hb2) rfl ?_;refine cx1 (obs rfl rfl rfl rfl rfl rfl) rfl (cA rfl rfl rfl (cap rfl (by(simp;omega)) rfl) ?_);refine cE (fun r28=>?_);refine fm ?_;repeat refine u ?_
 rotate_left
 ·have hq:¬ lo<hi:=fun h=>by have:=gF.1 (dt c0);grind
  rw[← iU (l:=[]) (by rw[if_neg hq])];exact lZ
 ·have hq:lo<hi:=by have h:=mt gF.2 (df c0);grind
  dsimp only[rowS];rw[show (xQ lo hi es es.length).map (ptc N)++[ptc N (bl.2,bl.2),ptc N (bh.2,bh.2)]=(xQ lo hi es es.length++[(bl.2,bl.2),(bh.2,bh.2)]).map (ptc N) by simp];refine tco [0] rfl rfl rfl (ksortL (by omega) (by simp;omega)) ?_;rintro _ _ ⟨rfl,l',hp,hso,rfl⟩;have hll:=hp.length_eq;simp only[zal,zaw,zbl] at hll;repeat refine u ?_
  refine tco [0] rfl rfl rfl (wcompactL (by omega) (by omega)) ?_;rintro _ _ ⟨v3,rfl,rfl⟩;have he:jF eqL (0,0) l' l'.length=lvOf lo hi bl.2 bh.2 es:=iU (by
   rw[if_pos hq];have h1:=bW (d:=(0,0)) yT9 hp hso;rw[show (fun a b:P2=>decide (cmpL a b=0))=eqL from funext fun a=>funext fun b=>decide_eq_decide.2 tT] at h1;exact⟨h1.1,h1.2⟩)
  rw[he];iterate 2 refine u ?_
  refine t_ts (yW (s:=8) 0 rfl rfl) ?_;repeat refine u ?_
  exact e
noncomputable abbrev lvA (xs:List Rat)(bl bh:P2)(es:List BX)(j:Nat):List P2:=lvOf (xs.getD j 0) (xs.getD (j+1) 0) bl.2 bh.2 es
theorem klall {ls:zF}{bl bh:P2}{xs:List Rat}{n m n3 n4 N:Nat}(hn:n≤100)(hm:m≤200)(h3:n3≤200)(h4:n4≤200)(hN:N≤20000)(hl:ls.length≤50)(h9:∀ l∈ls,l.length≤9)(hx:xs.length≤10000)(hr:∀ j,j+1<xs.length→∀ x∈xQ (xs.getD j 0) (xs.getD (j+1) 0) (yX ls) (yX ls).length++[(bl.2,bl.2),(bh.2,bh.2)],rlen x.1 N∧rlen x.2 N) :
  CTy prog 22 [sv (sl 1 (ls.map fun x=>sl 6 (x.map (ptc n)))),ag (st [ptq n3 bl,ptq n4 bh]),sv (sl 3 (xs.map (rtq m)))] (sv (sl 1 ((List.range (xs.length-1)).map fun j=>sl 6 ((lvA xs bl bh (yX ls) j).map (ptc N))))):=by
 have he:=iF h9;refine fw [.tmp 6] func22 fun X=>?_;repeat refine u ?_
 refine zB rfl rfl (khullE (by omega) (by omega) h9) ?_;repeat refine u ?_
 refine t_ts (jH 49 1) ?_;refine lp (σ:=Nat×Value) [2,4,7,14] (fun s=>[(15,True,zJ s.1),(6,True,exP s.2)]) (fun s=>[.row s.2 49 1 ((List.range s.1).map fun j=>sl 6 ((lvA xs bl bh (yX ls) j).map (ptc N)))]) (fun s=>s.1≤xs.length-1) (fun s=>xs.length-1-s.1) ((0,.slice none 0 0)) ((by simp)) fun s hJ Y _=>?_;obtain⟨i,v⟩:=s;dsimp only at hJ ⊢;have hi:i<xs.length-1→i+1<xs.length:=fun h=>by omega
 repeat refine u ?_
 refine ti (fun c0=>?_) fun c0=>?_;iterate 8 refine u ?_
 refine zK 14 mixed rfl rfl ?_;repeat refine u ?_
 refine d1 (oix _ rfl rfl rfl (fun _=>rfl) (fun _=>(by(have e0:=dt c0;omega)))) ?_;repeat refine u ?_
 refine d1 (oix _ rfl rfl rfl (fun _=>rfl) (fun _=>(by(have e0:=dt c0;simp;omega)))) ?_;repeat refine u ?_
 refine zC rfl rfl (klofT (N:=N) (by omega) (by omega) (by omega) (by omega) hN (by omega) ?_) ?_;rotate_left;iterate 3 refine u ?_
 refine u fun r32=>?_;repeat refine u ?_
 rotate_left;iterate 7 refine u ?_
 refine t_ts (yW (s:=6) 0 rfl rfl) ?_;repeat refine u ?_
 refine e ?_;rotate_left
 ·exact hr i (by have:=dt c0;omega)
 ·have hi2:=dt c0;refine⟨(i+1,r32),tes ?_ ?_ ?_,(by omega),(by omega)⟩;refine zA rfl (zA rfl tn);refine zA rfl (zA rfl (zA rfl (zA rfl tn)));all_goals first
   | (rw[zbz];exact zaa _)
   | (dsimp only;omega)
 ·have hi2:=df c0;rw[show xs.length-1=i by omega];exact PSub.refl _
theorem wJ (D A:Nat):Fd D A 0:=⟨0,zaE _,by rw[Rat.zero_mul];rfl⟩
theorem fd_mk {z:Int}{m:Nat}(hz:z.natAbs≤999)(hm:m≤12):Fd 27720 27692280 (mkRat z m):=by
 rcases zbj m with h | h
 ·subst h;rw[Rat.mkRat_zero];exact wJ _ _
 ·obtain⟨k,hk⟩:m ∣ 27720:=(show ∀ m:Fin 13,0<m.val→m.val ∣ 27720 by decide) ⟨m,by omega⟩ h;have h1:k≤m*k:=Nat.le_mul_of_pos_left _ h;refine⟨z*k,?_,?_⟩
  ·rw[zbH,zbX];have:=zaT hz (show k≤27720 by omega);omega
  ·have h0:((m:Nat):Rat)≠0:=by exact_mod_cast (show m≠0 by omega)
   rw[Rat.mkRat_eq_div,hk,Rat.natCast_mul,zbG,Rat.intCast_natCast,← Rat.mul_assoc,zcE h0]
theorem zS9 {l:List Nat}{B:Nat}(g1:l.length≤1)(g2:l.length=0∨l.getD 0 Df.d≤B):val l≤B:=by
 match l,g1 with
 | [],_=>exact zaE _
 | [x],_ =>
  rcases g2 with g | g
  ·cases g
  ·simpa [val] using g
theorem yA1 {a:RX}(h:kF a=true):Fd 27720 27692280 (qx a):=by
 unfold kF at h;simp only[zap,zcf,decide_eq_true_eq] at h;obtain⟨⟨⟨h1,h2⟩,h3⟩,h4⟩:=h;refine fd_mk ?_ (zS9 h2 h4);have:=zS9 h1 h3;unfold zv;split<;>omega
def FP (D A:Nat)(q:P2):Prop:=Fd D A q.1∧Fd D A q.2
theorem zN0 {l:List PX}(h:qI l=true):∀ a∈l,FP 27720 27692280 (px a):=fun a ha=>by
 have h:=zaC.1 h a ha;rw[zap] at h;exact⟨yA1 h.1,yA1 h.2⟩
noncomputable def piecesX (r:List PX)(ts:List TX3):zF:=(ts.map px3).map fun t=>sumF (t3l t) ((r.map px).map negP)
theorem wL {D A:Nat}{p q:Rat}(h:Fd D A p)(k:Fd D A q):Fd D A (minQ p q)∧Fd D A (maxQ p q):=by
 unfold minQ maxQ;constructor<;>split<;>assumption
theorem yN5 {D A:Nat}:∀(l:List P2) (b:BX),(∀ q∈l,FP D A q)→FP D A b.1→FP D A b.2→FP D A (l.foldl boxS b).1∧FP D A (l.foldl boxS b).2
 | [],b,_,h1,h2=>⟨h1,h2⟩
 | x::l,b,h,h1,h2=>by
  have hx:=h x (by simp);exact yN5 l (boxS b x) (fun q hq=>h q (by simp[hq])) ⟨(wL h1.1 hx.1).1,(wL h1.2 hx.2).1⟩ ⟨(wL h2.1 hx.1).2,(wL h2.2 hx.2).2⟩
theorem wK (D:Nat):Fd D D (((1:Nat):Rat)):=⟨D,by simp,by rw[yQ6,Rat.one_mul,Rat.intCast_natCast]⟩
theorem frame_fp {D A:Nat}{ls:zF}(h:∀ l∈ls,∀ q∈l,FP D A q):FP D (A+D) (zQ ls).1∧FP D (A+D) (zQ ls).2:=by
 have h1:∀ q∈ls.flatten,FP D A q:=fun q hq=>by
  obtain⟨l,hl,hq⟩:=List.mem_flatten.1 hq;exact h l hl q hq
 have h2:FP D A (gp ls.flatten 0):=by
  rcases zbj ls.flatten.length with c | c
  ·rw[zcw.1 c];exact⟨wJ _ _,wJ _ _⟩
  ·exact h1 _ (jI c)
 have h3:=yN5 _ (gp ls.flatten 0,gp ls.flatten 0) h1 h2 h2;have e:∀ p:Rat,p-((1:Nat):Rat)=p + -((1:Nat):Rat):=fun p=>zcI _ _;unfold zQ;refine⟨⟨?_,?_⟩,?_,?_⟩
 ·show Fd D (A+D) (_-_);rw[e];exact h3.1.1.add (wK D).neg
 ·show Fd D (A+D) (_-_);rw[e];exact h3.1.2.add (wK D).neg
 ·exact h3.2.1.add (wK D)
 ·exact h3.2.2.add (wK D)
theorem yA3 {D A:Nat}{l:List P2}(h:∀ q∈l,FP D A q){m:Nat}(hm:m<l.length):FP D A (bO l m).1∧FP D A (bO l m).2:=by
 have h1:=h _ (jI hm);have h2:=h _ (jI (gK hm));obtain⟨a,b⟩:=zZ9 (l.getD m (0,0)) (l.getD ((m+1)%l.length) (0,0));unfold bO;simp only[zad,zaR,or_false] at a b;constructor
 ·rcases a with e | e<;>rw[e]<;>assumption
 ·rcases b with e | e<;>rw[e]<;>assumption
theorem cut_fx {D A:Nat}{ls:zF}{b:BX}(h0:0<D)(h:∀ l∈ls,∀ q∈l,FP D A q)(hb:FP D A b.1∧FP D A b.2){x:Rat}(hx:x∈cutsOf ls b):Fd D A x∨Fx (24*(A*A*A)) (D*(8*(A*A))) x:=by
 unfold cutsOf at hx;rw[yM uF] at hx;unfold rawC dB at hx;rcases zae.1 hx with hx | hx
 ·rcases zae.1 hx with hx | hx
  ·simp only[zad,zaR,or_false] at hx;rcases hx with rfl | rfl
   ·exact .inl hb.1.1
   ·exact .inl hb.2.1
  ·obtain⟨l,hl,hx⟩:=zbN.1 hx;obtain⟨q,hq,rfl⟩:=zai.1 hx;exact .inl (h l hl q hq).1
 ·obtain⟨i,k,hik,hk,hx⟩:=mG.1 hx;obtain⟨p,hp,rfl⟩:=zai.1 hx;rw[kU] at hp;obtain⟨s,hs,t,ht,hp⟩:=dO.1 ((yM dC).1 hp);obtain⟨m,hm,rfl⟩:=aG.1 hs;obtain⟨n,hn,rfl⟩:=aG.1 ht;have f1:=yA3 (h _ (aD (d:=[]) (show i<ls.length by omega))) hm;have f2:=yA3 (h _ (aD (d:=[]) hk)) hn;generalize bO (ls.getD i []) m=s at *;generalize bO (ls.getD k []) n=t at *;unfold gW at hp;split at hp
  ·cases hp
  rename_i c;simp only[zad,zaR,or_false] at hp;have lo:FP D A (loP s t):=by unfold loP;split;exact f2.1;exact f1.1
  have hi:FP D A (hiP s t):=by unfold hiP;split;exact f2.2;exact f1.2
  rcases meets_cases s t with e | ⟨_,e⟩ | ⟨ok,e⟩
  ·rw[e] at c;exact absurd rfl c
  ·rw[e] at hp;rcases hp with rfl | rfl
   ·exact .inl lo.1
   ·exact .inl hi.1
  ·rw[e] at hp;obtain rfl:p=xO s.1 s.2 t.1 t.2:=hp.elim id id;exact .inr (lines_fx h0 f1.1 f1.2 f2.1 f2.2 ok).1
theorem dA {q:Rat}(h:Fd 27720 55412280 q):rlen q 1:=vO (h.fx (by decide)) (by decide) (by decide)
theorem mO {ls:zF}{b:BX}(h:∀ l∈ls,∀ q∈l,FP 27720 55412280 q)(hb:FP 27720 55412280 b.1∧FP 27720 55412280 b.2){x:Rat}(hx:x∈cutsOf ls b):rlen x 3:=by
 rcases cut_fx (by decide) h hb hx with k | k
 ·exact zM (dA k) (by omega)
 ·exact vO k (by decide) (by decide)
theorem FP.up {D A B:Nat}{q:P2}(h:FP D A q)(k:A≤B):FP D B q:=⟨h.1.up k,h.2.up k⟩
theorem lE {q:P2}(h:FP 27720 55412280 q):plen q 1:=⟨dA h.1,dA h.2⟩
theorem zN4 {D A:Nat}{ls:zF}(h:∀ l∈ls,∀ q∈l,FP D A q){e:BX}(he:e∈yX ls):FP D A e.1∧FP D A e.2:=by
 obtain⟨i,k,hi,hk,rfl⟩:=oA he;have h1:=h _ (aD (d:=[]) hi) _ (jI hk);have h2:=h _ (aD (d:=[]) hi) _ (jI (gK hk));unfold ordE;split
 ·exact⟨h2,h1⟩
 ·exact⟨h1,h2⟩
theorem zX6 {ls:zF}{b:BX}(h:∀ l∈ls,∀ q∈l,FP 27720 55412280 q)(hb:FP 27720 55412280 b.1∧FP 27720 55412280 b.2){lo hi:Rat}(hl:lo∈cutsOf ls b)(hh:hi∈cutsOf ls b) :
  ∀ x∈xQ lo hi (yX ls) (yX ls).length++[(b.1.2,b.1.2),(b.2.2,b.2.2)],rlen x.1 14∧rlen x.2 14:=fun x hx=>by
 rcases zae.1 hx with hx | hx
 ·obtain⟨e,he,_,rfl⟩:=oQ.1 hx;obtain⟨k1,k2⟩:=zN4 h he;have k1:=lE k1;have k2:=lE k2;exact⟨bX k1 k2 (mO h hb hl),bX k1 k2 (mO h hb hh)⟩
 ·simp only[zad,zaR,or_false] at hx;rcases hx with rfl | rfl
  ·exact⟨zM (dA hb.1.2) (by omega),zM (dA hb.1.2) (by omega)⟩
  ·exact⟨zM (dA hb.2.2) (by omega),zM (dA hb.2.2) (by omega)⟩
theorem zN3:∀ m:List P2,∃ l:List P2,l.Pairwise (fun a b=>cmpL a b<0)∧∀ x,x∈l↔x∈m
 | []=>⟨[],.nil,fun x=>Iff.rfl⟩
 | a::m=>by
  obtain⟨l,h1,h2⟩:=zN3 m;refine⟨l.filter (fun x=>decide (cmpL x a<0))++a::l.filter (fun x=>decide (cmpL a x<0)),?_,fun x=>?_⟩
  ·refine List.pairwise_append.2 ⟨h1.filter _,List.pairwise_cons.2 ⟨fun b hb=>by simpa using (List.mem_filter.1 hb).2,h1.filter _⟩,fun b hb c hc=>?_⟩;have hb':cmpL b a<0:=by simpa using (List.mem_filter.1 hb).2
   rcases zad.1 hc with rfl | hc
   ·exact hb'
   ·exact aX hb' (by simpa using (List.mem_filter.1 hc).2)
  ·simp only[zae,zad,zct,decide_eq_true_eq,h2];constructor
   ·rintro(⟨h,_⟩ | rfl | ⟨h,_⟩)
    ·exact .inr h
    ·exact .inl rfl
    ·exact .inr h
   ·rintro(rfl | h)
    ·exact .inr (.inl rfl)
    ·rcases sU x a with c | c
     ·by_cases e:leL a x
      ·exact .inr (.inl (zL9 c e))
      ·exact .inl ⟨h,lJ.2 e⟩
     ·by_cases e:leL x a
      ·exact .inr (.inl (zL9 e c))
      ·exact .inr (.inr ⟨h,lJ.2 e⟩)
theorem nS {lo hi yl yh:Rat}{es:List BX}(h:lo<hi):IsLv lo hi yl yh es (lvOf lo hi yl yh es):=by
 obtain⟨l,h1,h2⟩:=zN3 (xQ lo hi es es.length++[(yl,yl),(yh,yh)]);have h3:IsLv lo hi yl yh es l:=⟨h1,h2⟩;rw[← iU (l:=l) (by rw[if_pos h];exact h3)];exact h3
theorem yI1:∀ {l m:List P2},l.Pairwise (fun a b=>cmpL a b<0)→(∀ x∈l,x∈m)→l.length≤m.length
 | [],m,_,_=>zaE _
 | a::l,m,h,hs=>by
  obtain⟨h1,h2⟩:=zav.1 h;have h3:=yI1 (m:=m.erase a) h2 fun x hx=>(List.mem_erase_of_ne fun e=>by have:=h1 x hx;rw[e] at this;exact lK a this).2 (hs x (by simp[hx]));have h4:=List.length_erase_of_mem (hs a (by simp));have h5:=List.length_pos_of_mem (hs a (by simp));simp only[zaw];omega
theorem lv_len {lo hi yl yh:Rat}{es:List BX}(h:lo<hi):(lvOf lo hi yl yh es).length≤es.length+2:=by
 have h1:=nS (yl:=yl) (yh:=yh) (es:=es) h;have h2:=yI1 h1.rise fun x hx=>(h1.mem x).1 hx;have h3:=oP lo hi es es.length;rw[zal] at h2;simp only[zaw,zbl] at h2;omega
theorem hs_rise {lo hi x:Rat}{l:List P2}(hr:fV l)(h1:lo<x)(h2:x<hi){k:Nat}(hk:k+1<l.length):(hsL lo hi x l).getD k 0<(hsL lo hi x l).getD (k+1) 0:=by
 obtain⟨a,b⟩:=Go.SL.part_in h1 h2;rw[qD (by omega),qD hk];exact height_rise a b (hr k hk)
def posY (ys:List Rat)(j:Nat)(y:Rat):Prop:=if j%2=0 then y=ys.getD (j/2) 0 else ys.getD (j/2) 0<y∧y<ys.getD (j/2+1) 0
def cloY (ys:List Rat)(j:Nat)(y:Rat):Prop:=if j%2=0 then y=ys.getD (j/2) 0 else ys.getD (j/2) 0≤y∧y≤ys.getD (j/2+1) 0
noncomputable def repY (ys:List Rat)(j:Nat):Rat:=if j%2=0 then ys.getD (j/2) 0 else xG (ys.getD (j/2) 0) (ys.getD (j/2+1) 0)
theorem zW5 {ys:List Rat}{j:Nat}{y:Rat}(h:posY ys j y):cloY ys j y:=by
 unfold posY at h;unfold cloY;split at h
 ·rename_i c;rw[if_pos c];exact h
 ·rename_i c;rw[if_neg c];exact⟨zaM h.1,zaM h.2⟩
theorem zW4 {ys:List Rat}(h:kX ys){j:Nat}(hj:j<2*ys.length-1):posY ys j (repY ys j):=by
 unfold posY repY;split
 ·rfl
 ·exact betw_ok (h _ (by omega))
noncomputable def xsM (ls:zF):List Rat:=cutsOf ls (zQ ls)
noncomputable def lvM (ls:zF)(j:Nat):List P2:=lvOf ((xsM ls).getD j 0) ((xsM ls).getD (j+1) 0) (zQ ls).1.2 (zQ ls).2.2 (yX ls)
noncomputable def wlR (ls:zF)(i:Nat):List Rat:=[(zQ ls).1.2,(zQ ls).2.2]++(if 0<i then(lvM ls (i-1)).map (·.2) else [])++(if i+1<(xsM ls).length then(lvM ls i).map (·.1) else [])++(ls.flatten.filter fun p=>decide (p.1=(xsM ls).getD i 0)).map (·.2)
noncomputable def wlM (ls:zF)(i:Nat):List Rat:=setOf cmpR (wlR ls i)
theorem rY (l:List Rat):kX (setOf cmpR l):=fun i hi=>by
 have h:=zcK.1 (gG uF l).rise i (i+1) (by omega) hi (by omega);rw[zah,zah,zag (show i<(setOf cmpR l).length by omega),zag hi];exact yO.1 h
theorem mL {l:List Rat}{i:Nat}(h:i<l.length):l.getD i 0∈l:=by rw[zah,zag h];exact zaQ h
theorem sO {l:List Rat}{x:Rat}(h:x∈l):∃ i,i<l.length∧l.getD i 0=x:=by
 obtain⟨i,hi,e⟩:=zbf.1 h;exact⟨i,hi,by rw[zah,zag hi];exact e⟩
theorem zJ5 {l:List Rat}{a b:Rat}(ha:a∈l)(hb:b∈l)(hab:a<b)(h:∀ x∈l,a≤x∧x≤b):2≤(setOf cmpR l).length∧(setOf cmpR l).getD 0 0=a∧(setOf cmpR l).getD ((setOf cmpR l).length-1) 0=b:=by
 have hr:=rY l;have hm:∀ x∈setOf cmpR l,a≤x∧x≤b:=fun x hx=>h x ((yM uF).1 hx);obtain⟨i,hi,ei⟩:=sO ((yM uF).2 ha);obtain⟨j,hj,ej⟩:=sO ((yM uF).2 hb);generalize setOf cmpR l=s at *;have hij:i≠j:=fun e=>by subst e;grind
 have h0:=hm _ (mL (show 0<s.length by omega));have h1:=hm _ (mL (show s.length-1<s.length by omega));refine⟨by omega,?_,?_⟩
 ·rcases zbj i with c | c
  ·subst c;exact ei
  ·have:=bF hr c hi;grind
 ·rcases zaf j (s.length-1) with c | c
  ·have:=bF hr c (by omega);grind
  ·rw[show s.length-1=j by omega];exact ej
theorem cut_in {ls:zF}{x:Rat}(hx:x∈xsM ls):(zQ ls).1.1≤x∧x≤(zQ ls).2.1:=by
 have hf:=dZ ls;unfold xsM cutsOf at hx;rw[yM uF] at hx;unfold rawC dB at hx;rcases zae.1 hx with hx | hx
 ·rcases zae.1 hx with hx | hx
  ·simp only[zad,zaR,or_false] at hx;rcases hx with rfl | rfl
   ·exact⟨zaJ,zaM hf.2.1⟩
   ·exact⟨zaM hf.2.1,zaJ⟩
  ·obtain⟨l,hl,hx⟩:=zbN.1 hx;obtain⟨q,hq,rfl⟩:=zai.1 hx;have:=hf.1 l hl q hq;exact⟨zaM this.1,zaM this.2.1⟩
 ·obtain⟨i,k,hik,hk,hx⟩:=mG.1 hx;obtain⟨p,hp,rfl⟩:=zai.1 hx;rw[kU] at hp;obtain⟨s,hs,t,ht,hp⟩:=dO.1 ((yM dC).1 hp);obtain⟨m,hm,rfl⟩:=aG.1 hs;have hb:=zZ7 (pair_has hp).1;have hl:=aD (d:=[]) (show i<ls.length by omega);have h1:=hf.1 _ hl _ (jI hm);have h2:=hf.1 _ hl _ (jI (gK hm));have h3:=zZ9 (gp (ls.getD i []) m) (nx (ls.getD i []) m);simp only[zad,zaR,or_false] at h3;change (xZ (gp (ls.getD i []) m) (nx (ls.getD i []) m)).1.1≤p.1∧p.1≤(xZ (gp (ls.getD i []) m) (nx (ls.getD i []) m)).2.1∧_ at hb;generalize xZ (gp (ls.getD i []) m) (nx (ls.getD i []) m)=s at *;constructor
  ·rcases h3.1 with e | e<;>rw[e] at hb<;>grind
  ·rcases h3.2 with e | e<;>rw[e] at hb<;>grind
theorem uS (ls:zF):kX (xsM ls):=bP ls _
theorem xs_ends (ls:zF):2≤(xsM ls).length∧(xsM ls).getD 0 0=(zQ ls).1.1∧(xsM ls).getD ((xsM ls).length-1) 0=(zQ ls).2.1 :=
 zJ5 (l:=rawC ls (zQ ls)) (by simp[rawC]) (by simp[rawC]) (dZ ls).2.1 fun x hx=>cut_in (by unfold xsM cutsOf;exact(yM uF).2 hx)
theorem zX2 {ls:zF}(hls:∀ l∈ls,∃ m,l=hullF m){j:Nat}(hj:j+1<(xsM ls).length) :
  fV (lvM ls j)∧2≤(lvM ls j).length∧(lvM ls j).getD 0 (0,0)=((zQ ls).1.2,(zQ ls).1.2)∧(lvM ls j).getD ((lvM ls j).length-1) (0,0)=((zQ ls).2.2,(zQ ls).2.2) :=
 slab_rises hls hj (nS (uS ls j hj))
theorem yR3 {ls:zF}(hls:∀ l∈ls,∃ m,l=hullF m){j:Nat}(hj:j+1<(xsM ls).length){a:P2}(ha:a∈lvM ls j):(zQ ls).1.2≤a.1∧a.1≤(zQ ls).2.2∧(zQ ls).1.2≤a.2∧a.2≤(zQ ls).2.2:=by
 obtain⟨h1,h2,h3,h4⟩:=zX2 hls hj;obtain⟨i,hi,e⟩:=zbf.1 ha;have e2:(lvM ls j).getD i (0,0)=a:=by rw[zah,zag hi];exact e
 have k1:=Go.SL.lY h1 i 0 (by omega) hi;have k2:=Go.SL.lY h1 ((lvM ls j).length-1) i (by omega) (by omega);rw[e2,h3] at k1;rw[e2,h4] at k2;exact⟨k1.1,k2.1,k1.2,k2.2⟩
theorem wl_mem {ls:zF}{i:Nat}{y:Rat}:y∈wlM ls i↔y∈wlR ls i:=yM uF
theorem oI {ls:zF}{i:Nat}{y:Rat}:y∈wlR ls i↔(y=(zQ ls).1.2∨y=(zQ ls).2.2)∨(0<i∧∃ a∈lvM ls (i-1),a.2=y)∨(i+1<(xsM ls).length∧∃ a∈lvM ls i,a.1=y) ∨ ∃ l∈ls,∃ p∈l,p.1=(xsM ls).getD i 0∧p.2=y:=by
 unfold wlR;simp only[zae,zad,zaR,or_false,zai,zct,List.mem_flatten,decide_eq_true_eq];rw[or_assoc,or_assoc];refine or_congr Iff.rfl (or_congr ?_ (or_congr ?_ ?_))
 ·split
  ·rename_i c;simp[c]
  ·rename_i c;simp[c]
 ·split
  ·rename_i c;simp[c]
  ·rename_i c;simp[c]
 ·constructor
  ·rintro⟨p,⟨⟨l,hl,hp⟩,e⟩,rfl⟩;exact⟨l,hl,p,hp,e,rfl⟩
  ·rintro⟨l,hl,p,hp,e,rfl⟩;exact⟨p,⟨⟨l,hl,hp⟩,e⟩,rfl⟩
theorem wl_in {ls:zF}(hls:∀ l∈ls,∃ m,l=hullF m){i:Nat}(hi:i<(xsM ls).length){y:Rat}(h:y∈wlR ls i):(zQ ls).1.2≤y∧y≤(zQ ls).2.2:=by
 have hf:=dZ ls;rcases oI.1 h with(rfl | rfl) | ⟨h0,a,ha,rfl⟩ | ⟨h0,a,ha,rfl⟩ | ⟨l,hl,p,hp,_,rfl⟩
 ·exact⟨zaJ,zaM hf.2.2⟩
 ·exact⟨zaM hf.2.2,zaJ⟩
 ·have:=yR3 hls (by omega) ha;exact this.2.2
 ·have:=yR3 hls h0 ha;exact⟨this.1,this.2.1⟩
 ·have:=hf.1 l hl p hp;exact⟨zaM this.2.2.1,zaM this.2.2.2⟩
theorem wY (ls:zF)(i:Nat):kX (wlM ls i):=rY _
theorem wl_ends {ls:zF}(hls:∀ l∈ls,∃ m,l=hullF m){i:Nat}(hi:i<(xsM ls).length):2≤(wlM ls i).length∧(wlM ls i).getD 0 0=(zQ ls).1.2∧(wlM ls i).getD ((wlM ls i).length-1) 0=(zQ ls).2.2 :=
 zJ5 (l:=wlR ls i) (oI.2 (.inl (.inl rfl))) (oI.2 (.inl (.inr rfl))) (dZ ls).2.2 fun x hx=>wl_in hls hi hx
noncomputable def xcM (ls:zF)(c:Nat):Rat:=repY (xsM ls) c
noncomputable def ycM (ls:zF)(c:Nat)(x:Rat):List Rat:=if c%2=0 then wlM ls (c/2) else hsL ((xsM ls).getD (c/2) 0) ((xsM ls).getD (c/2+1) 0) x (lvM ls (c/2))
noncomputable def ynM (ls:zF)(c:Nat):Nat:=if c%2=0 then(wlM ls (c/2)).length else(lvM ls (c/2)).length
theorem yC9 (ls:zF)(c:Nat)(x:Rat):(ycM ls c x).length=ynM ls c:=by unfold ycM ynM;split;rfl;exact iZ _ _ _ _
def ownC (ls:zF)(c j:Nat)(p:P2):Prop:=posY (xsM ls) c p.1∧posY (ycM ls c p.1) j p.2
def touC (ls:zF)(c j:Nat)(p:P2):Prop:=cloY (xsM ls) c p.1∧cloY (ycM ls c p.1) j p.2
noncomputable def repC (ls:zF)(c j:Nat):P2:=(xcM ls c,repY (ycM ls c (xcM ls c)) j)
def inC (ls:zF)(c j:Nat):Prop:=c<2*(xsM ls).length-1∧j<2*ynM ls c-1
theorem yc_rises {ls:zF}(hls:∀ l∈ls,∃ m,l=hullF m){c:Nat}(hc:c<2*(xsM ls).length-1){x:Rat}(hx:posY (xsM ls) c x):kX (ycM ls c x):=by
 unfold ycM;unfold posY at hx;split
 ·exact wY _ _
 ·rename_i h;rw[if_neg h] at hx;intro k hk;rw[iZ] at hk;exact hs_rise (zX2 hls (by omega)).1 hx.1 hx.2 hk
theorem yc_ends {ls:zF}(hls:∀ l∈ls,∃ m,l=hullF m){c:Nat}(hc:c<2*(xsM ls).length-1)(x:Rat):2≤(ycM ls c x).length∧(ycM ls c x).getD 0 0=(zQ ls).1.2∧(ycM ls c x).getD ((ycM ls c x).length-1) 0=(zQ ls).2.2:=by
 unfold ycM;split
 ·exact wl_ends hls (by omega)
 ·obtain⟨h1,h2,h3,h4⟩:=zX2 hls (j:=c/2) (by omega);rw[iZ];refine⟨h2,?_,?_⟩
  ·rw[qD (by omega),h3];unfold yU;grind
  ·rw[qD (by omega),h4];unfold yU;grind
theorem own_tou {ls:zF}{c j:Nat}{p:P2}(h:ownC ls c j p):touC ls c j p:=⟨zW5 h.1,zW5 h.2⟩
theorem rep_own {ls:zF}(hls:∀ l∈ls,∃ m,l=hullF m){c j:Nat}(h:inC ls c j):ownC ls c j (repC ls c j):=by
 have h1:=zW4 (uS ls) h.1;exact⟨h1,zW4 (yc_rises hls h.1 h1) (by rw[yC9];exact h.2)⟩
theorem pow_b (a:Nat):2^(32*a)=4294967296^a:=by rw[zch]
theorem rlen_dy {p:Rat}{s a:Nat}(hp:rlen p a)(hs:s≤32*(a+a)):rlen (tI p s) (3*a+1):=by
 have hn:=zV hp.1;have h2:2^s≤4294967296^(a+a):=by rw[← pow_b];exact zbk (by omega) hs
 have h0:0<2^s:=zbO (by omega);have e3:4294967296^(3*a)=4294967296^a*4294967296^(a+a):=by rw[← zaL];congr 1;omega
 have l1:(uE (p*p2 s)).natAbs≤p.num.natAbs*2^s+1:=by
  rw[above_p2];have h3:(p.num*((2^s:Nat):Int)/(p.den:Int)).natAbs≤(p.num*((2^s:Nat):Int)).natAbs:=Int.natAbs_ediv_le_natAbs _ _;rw[zbH,zbX] at h3;omega
 have l2:p.num.natAbs*2^s+1≤4294967296^(3*a):=by
  rw[e3];have h4:(p.num.natAbs+1)*2^s≤4294967296^a*4294967296^(a+a):=zaT hn h2;rw[zaV] at h4;omega
 have l3:4294967296^(3*a)<4294967296^(3*a+1):=zco (by omega) (by omega);have l4:4294967296^(a+a)<4294967296^(3*a+1):=zco (by omega) (by omega);exact vO (N:=4294967296^(3*a)) (M:=4294967296^(a+a)) ⟨uE (p*p2 s),2^s,h0,h2,zac l1 l2,zN8 p s⟩ l3 l4
theorem oW {p q:Rat}{a:Nat}(hp:rlen p a)(hq:rlen q a)(h:p<q):rlen (nI p q) (3*a+1):=by
 unfold nI;split
 ·exact zM fU (by omega)
 ·refine rlen_dy hp (zcv fun c=>(lH h).2 _ c (zN7 h (zV hp.2) (zV hq.2)))
theorem sE {p q:Rat}{a:Nat}(hp:rlen p a)(hq:rlen q a):rlen (xG p q) (3*a+1):=by
 unfold xG;split
 ·rename_i h;split
  ·exact oW hp hq h
  ·exact qY (oW (qY hq) (qY hp) (by grind))
 ·exact zM fU (by omega)
theorem yB0 {α:Type}{f g:α→CT}{k:Nat}{xs:List α}(h:∀ a∈xs,∀ {M w us},(f a).p M w us→(g a).p M w us)(hs:∀ a,(g a).sz=k):PSub (sv (sl k (xs.map f))) (sv (sl k (xs.map g))):=fun M w v q=>cQ (f:=f) (g:=g) h hs q
abbrev pcc (n:Nat)(x:List P2):CT:=sl 6 (x.map (ptc n))
theorem yG7 {n m:Nat}{ls:zF}(h:∀ l∈ls,∀ q∈l,plen q m):PSub (sv (sl 1 (ls.map (pcc n)))) (sv (sl 1 (ls.map (pcc m)))) :=
 yB0 (f:=pcc n) (g:=pcc m) (fun a ha {M w us} k=>cQ (f:=ptc n) (g:=ptc m) (fun q hq {M w us} k=>sG ⟨(h a ha q hq).x,(h a ha q hq).y⟩ M w us k) (fun _=>rfl) k) (fun _=>rfl)
theorem pcc_q {n:Nat}{ls:zF}:PSub (sv (sl 1 (ls.map (pcc n)))) (sv (sl 1 (ls.map (pcs n)))) :=
 yB0 (f:=pcc n) (g:=pcs n) (fun a ha {M w us} k=>cQ (f:=ptc n) (g:=ptq n) (fun q hq {M w us} k=>zW0 q k) (fun _=>rfl) k) (fun _=>rfl)
abbrev bxc (n:Nat)(b:BX):CT:=st [ptc n b.1,ptc n b.2]
theorem yU2 {n:Nat}{b:BX}:PSub (ag (bxc n b)) (ag (st [ptq n b.1,ptq n b.2])):=fun M w v ⟨us,e,x,y,e1,h1,z,o,e2,h2,h3⟩=>⟨us,e,x,y,e1,zW0 _ h1,z,o,e2,zW0 _ h2,h3⟩
theorem yN4 {n m k:Nat}{b:BX}(h:plen b.1 k∧plen b.2 k):PSub (ag (st [ptc n b.1,ptc m b.2])) (ag (bxc k b)):=fun M w v ⟨us,e,x,y,e1,h1,z,o,e2,h2,h3⟩=>⟨us,e,x,y,e1,sG ⟨h.1.x,h.1.y⟩ _ _ _ h1,z,o,e2,sG ⟨h.2.x,h.2.y⟩ _ _ _ h2,h3⟩
theorem rts_up {n m:Nat}{xs:List Rat}(h:∀ x∈xs,rlen x m):PSub (sv (sl 3 (xs.map (rtc n)))) (sv (sl 3 (xs.map (rtc m)))) :=
 yB0 (f:=rtc n) (g:=rtc m) (fun a ha {M w us} k=>by
  obtain⟨s,b,d,e,g⟩:=k;exact⟨s,b,d,e,g.relen (h a ha)⟩) (fun _=>rfl)
def Prt (ls:zF):Prop:=ls.length≤3∧∀ l∈ls,(∃ m,l=hullF m)∧l.length≤9∧∀ q∈l,FP 27720 55384560 q
theorem Prt.fp {ls:zF}(h:Prt ls):∀ l∈ls,∀ q∈l,FP 27720 55412280 q:=fun l hl q hq=>((h.2 l hl).2.2 q hq).up (by omega)
theorem Prt.bx {ls:zF}(h:Prt ls):FP 27720 55412280 (zQ ls).1∧FP 27720 55412280 (zQ ls).2:=frame_fp (A:=55384560) fun l hl q hq=>(h.2 l hl).2.2 q hq
theorem Prt.br {ls:zF}(h:Prt ls):plen (zQ ls).1 1∧plen (zQ ls).2 1:=⟨lE h.bx.1,lE h.bx.2⟩
theorem Prt.hull {ls:zF}(h:Prt ls):∀ l∈ls,∃ m,l=hullF m:=fun l hl=>(h.2 l hl).1
theorem Prt.nine {ls:zF}(h:Prt ls):∀ l∈ls,l.length≤9:=fun l hl=>(h.2 l hl).2.1
theorem rO {ls:zF}{j:Nat}(hj:j<(xsM ls).length):(xsM ls).getD j 0∈cutsOf ls (zQ ls):=mL hj
section
variable {ls : zF} (h : Prt ls)
include h
theorem lQ:(xsM ls).length≤10000:=cuts_len (by have:=h.1;omega) h.nine
theorem ed_len:(yX ls).length≤27:=by have:=iF h.nine;have:=h.1;omega
theorem klallP:CTy prog 22 [sv (sl 1 (ls.map (pcc 1))),ag (bxc 1 (zQ ls)),sv (sl 3 ((xsM ls).map (rtc 3)))] (sv (sl 1 ((List.range ((xsM ls).length-1)).map fun j=>sl 6 ((lvM ls j).map (ptc 14))))) :=
 yI (klall (n:=1) (m:=3) (n3:=1) (n4:=1) (N:=14) (by omega) (by omega) (by omega) (by omega) (by omega) (by have:=h.1;omega) h.nine (lQ h) fun j hj=>zX6 h.fp h.bx (rO (by omega)) (rO hj)) (fs1 (PSub.refl _) (fs1 yU2 (fs1 vq_q fs0)))
end
def qA (lvs:zF)(i:Nat):List Rat:=if 0<i then(lvs.getD (i-1) []).map (·.2) else []
def kE (lvs:zF)(i:Nat):List Rat:=(lvs.getD i []).map (·.1)
def atX (x:Rat)(l:List P2):List Rat:=(l.filter fun p=>decide (p.1=x)).map (·.2)
def jZ (ls:zF)(b:BX)(xs:List Rat)(lvs:zF)(i:Nat):List Rat:=[b.1.2,b.2.2]++qA lvs i++kE lvs i++atX (xs.getD i 0) ls.flatten
theorem wallA_at {lvs:zF}{i k:Nat}(h:0<i)(hk:k<(lvs.getD (i-1) Df.d).length):qA lvs i=(lvs.getD (i-1) Df.d).map (·.2)∧(qA lvs i).take (k+1)=(qA lvs i).take k++[((lvs.getD (i-1) Df.d).getD k Df.d).2]∧((lvs.getD (i-1) Df.d).getD k Df.d).2∈qA lvs i:=by
 have e:qA lvs i=(lvs.getD (i-1) Df.d).map (·.2):=by unfold qA;rw[if_pos h];rfl
 refine⟨e,?_,?_⟩
 ·rw[e,← List.map_take,← List.map_take,(zT (Df.d:P2) hk).1,zay];rfl
 ·rw[e];exact zck (xI hk)
theorem wallB_at {lvs:zF}{i k:Nat}(hk:k<(lvs.getD i Df.d).length):(kE lvs i).take (k+1)=(kE lvs i).take k++[((lvs.getD i Df.d).getD k Df.d).1]∧((lvs.getD i Df.d).getD k Df.d).1∈kE lvs i:=by
 have e:kE lvs i=(lvs.getD i Df.d).map (·.1):=rfl;refine⟨?_,?_⟩
 ·rw[e,← List.map_take,← List.map_take,(zT (Df.d:P2) hk).1,zay];rfl
 ·rw[e];exact zck (xI hk)
theorem yC3 (x:Rat)(l m:List P2):atX x (l++m)=atX x l++atX x m:=by unfold atX;rw[List.filter_append,List.map_append]
theorem yC2 (x:Rat)(p:P2):atX x [p]=if p.1=x then [p.2] else []:=by unfold atX;by_cases h:p.1=x<;>simp[h]
abbrev CL:=Nat×Nat×Nat×P2
abbrev celT (N:Nat)(c:CL):CT:=st [xc (.int .i8 ((c.1:Nat):Int)),xc (.int .i64 ((c.2.1:Nat):Int)),xc (.int .i64 ((c.2.2.1:Nat):Int)),ptc N c.2.2.2]
noncomputable abbrev colC (k a:Nat)(x:Rat)(ys:List Rat)(j:Nat):CL:=(k+j%2,a,j/2,(x,repY ys j))
noncomputable abbrev celC (N k a:Nat)(x:Rat)(ys:List Rat)(j:Nat):CT:=celT N (colC k a x ys j)
noncomputable def colL (k a:Nat)(x:Rat)(ys:List Rat):List CL:=(List.range (2*ys.length-1)).map (colC k a x ys)
theorem celC_even {N k a i:Nat}{x:Rat}{ys:List Rat}:celC N k a x ys (2*i)=st [xc (.int .i8 ((k:Nat):Int)),xc (.int .i64 ((a:Nat):Int)),xc (.int .i64 ((i:Nat):Int)),ptc N (x,ys.getD i Df.d)]:=by
 unfold celC celT colC repY;dsimp only;rw[show 2*i%2=0 by omega,show 2*i/2=i by omega,if_pos rfl];rfl
theorem celC_odd {N k a i:Nat}{x:Rat}{ys:List Rat}:celC N k a x ys (2*i+1)=st [xc (.int .i8 ((k+1:Nat):Int)),xc (.int .i64 ((a:Nat):Int)),xc (.int .i64 ((i:Nat):Int)),ptc N (x,xG (ys.getD i Df.d) (ys.getD (i+1) Df.d))]:=by
 unfold celC celT colC repY;dsimp only;rw[show (2*i+1)%2=1 by omega,show (2*i+1)/2=i by omega,if_neg (by omega)];rfl
structure Mdl where
 b:BX
 xs:List Rat
 lv:zF
 wl:List (List Rat)
 cs:List CL
abbrev mdT (N:Nat)(m:Mdl):CT:=st [bxc N m.b,sl 3 (m.xs.map (rtc N)),sl 1 (m.lv.map (pcc N)),sl 1 (m.wl.map fun l=>sl 3 (l.map (rtc N))),sl 9 (m.cs.map (celT N))]
noncomputable instance:Df (List Rat):=⟨[]⟩
noncomputable def cellsI (xs:List Rat)(lv:zF)(wl:List (List Rat))(i:Nat):List CL :=
 (if i<wl.length then colL 0 i (xs.getD i 0) (wl.getD i []) else [])++(if i<lv.length∧i+1<xs.length then colL 2 i (xG (xs.getD i 0) (xs.getD (i+1) 0)) (hsL (xs.getD i 0) (xs.getD (i+1) 0) (xG (xs.getD i 0) (xs.getD (i+1) 0)) (lv.getD i [])) else [])
noncomputable def cellsM (xs:List Rat)(lv:zF)(wl:List (List Rat)):List CL:=((List.range xs.length).map (cellsI xs lv wl)).flatten
theorem wH {α:Type}{K:Nat}:∀ {L:List (List α)},(∀ l∈L,l.length≤K)→L.flatten.length≤L.length*K
 | [],_=>by simp
 | l::L,h=>by
  have h1:=h l (by simp);have h2:=wH (L:=L) fun x hx=>h x (by simp[hx]);rw[List.flatten_cons,zal,zaw,zaV];omega
theorem rJ {N:Nat}{xs:List Rat}{lv:zF}{wl:List (List Rat)}{i:Nat}:((List.range (i+1)).map (cellsI xs lv wl)).flatten.map (celT N)=((List.range i).map (cellsI xs lv wl)).flatten.map (celT N)++(cellsI xs lv wl i).map (celT N):=by
 rw[zbz,zay,zcb,zay];simp
end Go.Proofs.YtalkinejknjidaaGreatDoor
set_option maxHeartbeats 4000000
namespace Go.SL
open Go.RowKit
end Go.SL
namespace Go.Proofs.YtalkinejknjidaaGreatDoor
open Go.SL Go.RowKit Go.Proofs Tryz
section
variable {P : Program} {r : Option Nat} {N : Nat} {X : Cx} {Γ : TE} {S : List Ow} {ops : Array Oper} {K : TK}
theorem t_yieldm {α:Type}{xs:List α}{τ:α→List PV}{y:Nat}{YS:List α→Cx→Prop}{YX:Cx→Prop}{pre:List α}{x:α}{d:Nat}{fo:Operand}{ys:List Operand}{ts:Array TypeId}{t':TypeId}{pos:String}{af:Array Edge}{l:List Oper}{q q' qj:Prop}{Φ:PV}{γ b:Bool}{j dj:Nat}{τs:List PV}(hY:Yl P xs τ y YS YX)(hS:YS pre X)
  (hj:(ops[j]?).bind (·.dst)=some dj) (hΓ:tf Γ dj=some (qj,Φ)) [hb:VB Φ γ] [hqj:Tr qj] (hx:γ=b→∃ post,xs=pre++x::post)
  (hf:tv Γ fo=some (q,exP (.func (.yield y) #[] #[]))) (ha:tvs Γ ys=some (q',τs)) [hq:Im (γ=b) q] [hq':Im (γ=b) q'] (hτ:∀ M w vs,Fa τs M w vs→Fa (τ x) M w vs)
  (h1:∀ Y,YS (pre++if γ=b then [x] else []) Y→TO P r N ops Y K l ((d,γ=b,exP (.bool true))::Γ) S) (h2:γ=b→∀ Y,YX Y→TO P r N ops Y K l ((d,γ=b,exP (.bool false))::Γ) S) :
  TO P r N ops X K (⟨some d,.call ⟨.value fo,ys.toArray,ts⟩,t',pos,af,some (j,b)⟩::l) Γ S :=
 zI7 hY hS hj hΓ hx hf ha hτ (fun e=>h1 X (by rw[if_neg e,zar];exact hS)) (fun e Y hY=>h1 Y (by rw[if_pos e];exact hY)) h2
end
end Go.Proofs.YtalkinejknjidaaGreatDoor
namespace Go.Proofs.YtalkinejknjidaaGreatDoor
open Go.SL Go.RowKit Go.Proofs Tryz
def offN (f:Nat→Nat):Nat→Nat
 | 0=>0
 | c+1=>offN f c+f c
theorem zL2 {f:Nat→Nat}(c:Nat):offN f (c+1)=offN f c+f c:=rfl
theorem zQ4 {f:Nat→Nat}{c:Nat}:∀ {d:Nat},c≤d→offN f c≤offN f d
 | 0,h=>by rw[show c=0 by omega];exact zab _
 | d+1,h=>by
  rcases zaf d c with k | k
  ·rw[show c=d+1 by omega];exact zab _
  ·have:=zQ4 (f:=f) k;rw[zL2];omega
theorem yH4 {f:Nat→Nat}{c d j:Nat}(h:c<d)(hj:j<f c):offN f c+j<offN f d:=by
 have:=zQ4 (f:=f) (show c+1≤d from h);rw[zL2] at this;omega
theorem yH5 {f:Nat→Nat}:∀ {K n:Nat},n<offN f K→∃ c j,c<K∧j<f c∧n=offN f c+j
 | 0,n,h=>absurd h (Nat.not_lt_zero _)
 | K+1,n,h=>by
  rw[zL2] at h;rcases zaf n (offN f K) with k | k
  ·obtain⟨c,j,a,b,e⟩:=yH5 k;exact⟨c,j,by omega,b,e⟩
  ·exact⟨K,n-offN f K,by omega,by omega,by omega⟩
theorem bN {α:Type}{f:Nat→Nat}{g:Nat→Nat→α}:∀ K,(((List.range K).map fun c=>(List.range (f c)).map (g c)).flatten).length=offN f K
 | 0=>rfl
 | K+1=>by rw[zbz,zay,zcb,zal,bN K,zL2];simp
theorem zN1 {α:Type}{f:Nat→Nat}{g:Nat→Nat→α}{d:α}{c j:Nat}(hj:j<f c):∀ {K:Nat},c<K→(((List.range K).map fun c=>(List.range (f c)).map (g c)).flatten).getD (offN f c+j) d=g c j
 | K+1,h=>by
  rw[zbz,zay,zcb,zah];rcases zaf c K with k | k
  ·have:=yH4 (f:=f) k hj;rw[List.getElem?_append_left (by rw[bN];exact this),← zah];exact zN1 hj k
  ·obtain rfl:c=K:=by omega
   rw[List.getElem?_append_right (by rw[bN];omega),bN,Nat.add_sub_cancel_left];simp[zcG hj]
noncomputable def nC (ls:zF)(c:Nat):Nat:=2*ynM ls c-1
noncomputable abbrev kC (ls:zF):Nat:=2*(xsM ls).length-1
noncomputable def cellC (ls:zF)(c j:Nat):CL:=(2*(c%2)+j%2,c/2,j/2,repC ls c j)
noncomputable def lvsM (ls:zF):zF:=(List.range ((xsM ls).length-1)).map (lvM ls)
noncomputable def wlsM (ls:zF):List (List Rat):=(List.range (xsM ls).length).map (wlM ls)
noncomputable def celM (ls:zF):List CL:=cellsM (xsM ls) (lvsM ls) (wlsM ls)
theorem cH {ls:zF}{i:Nat}(h:i+1<(xsM ls).length):(lvsM ls).getD i []=lvM ls i:=by unfold lvsM;rw[List.getD_eq_getElem?_getD,List.getElem?_map,List.getElem?_range (by omega)];rfl
theorem lR {ls:zF}{i:Nat}(h:i<(xsM ls).length):(wlsM ls).getD i []=wlM ls i:=by unfold wlsM;rw[List.getD_eq_getElem?_getD,List.getElem?_map,List.getElem?_range h];rfl
theorem fB (ls:zF):(lvsM ls).length=(xsM ls).length-1:=by unfold lvsM;rw[List.length_map,List.length_range]
theorem iI (ls:zF):(wlsM ls).length=(xsM ls).length:=by unfold wlsM;rw[List.length_map,List.length_range]
theorem sJ {α:Type}(F:Nat→List α)(n:Nat):∀ m,m<n→((List.range m).map fun i=>F (2*i)++(if i+1<n then F (2*i+1) else [])).flatten=((List.range (2*m)).map F).flatten
 | 0,_=>rfl
 | m+1,h=>by
  rw[zbz,zay,zcb,sJ F n m (by omega),show 2*(m+1)=2*m+1+1 by omega,zbz,zbz,zay,zay,zcb,zcb,zaA];simp[h]
theorem pair_flat' {α:Type}(F:Nat→List α):∀ n,((List.range n).map fun i=>F (2*i)++(if i+1<n then F (2*i+1) else [])).flatten=((List.range (2*n-1)).map F).flatten
 | 0=>rfl
 | m+1=>by
  rw[zbz,zay,zcb,sJ F (m+1) m (by omega),show 2*(m+1)-1=2*m+1 by omega,zbz,zay,zcb];simp
theorem yN3 (ls:zF):celM ls=((List.range (kC ls)).map fun c=>(List.range (nC ls c)).map (cellC ls c)).flatten:=by
 unfold celM cellsM kC;rw[← pair_flat'];refine congrArg _ (List.map_congr_left fun i hi=>?_);have hi:=zbu.1 hi;unfold cellsI;rw[iI,fB,if_pos hi,lR hi];congr 1
 ·unfold colL nC ynM;rw[if_pos (by omega),show 2*i/2=i by omega];refine List.map_congr_left fun j hj=>?_;unfold colC cellC repC xcM;have h1:repY (xsM ls) (2*i)=(xsM ls).getD i 0:=by unfold repY;rw[if_pos (by omega),show 2*i/2=i by omega]
  have h2:∀ x,ycM ls (2*i) x=wlM ls i:=fun x=>by unfold ycM;rw[if_pos (by omega),show 2*i/2=i by omega]
  rw[h1,h2,show 2*i%2=0 by omega,show 2*i/2=i by omega]
 ·by_cases h:i+1<(xsM ls).length
  ·rw[if_pos ⟨by omega,h⟩,if_pos h,cH h];unfold colL nC ynM;rw[if_neg (by omega),show (2*i+1)/2=i by omega,iZ];refine List.map_congr_left fun j hj=>?_;unfold colC cellC repC xcM;have h1:repY (xsM ls) (2*i+1)=xG ((xsM ls).getD i 0) ((xsM ls).getD (i+1) 0):=by unfold repY;rw[if_neg (by omega),show (2*i+1)/2=i by omega]
   have h2:∀ x,ycM ls (2*i+1) x=hsL ((xsM ls).getD i 0) ((xsM ls).getD (i+1) 0) x (lvM ls i):=fun x=>by unfold ycM;rw[if_neg (by omega),show (2*i+1)/2=i by omega]
   rw[h1,h2,show (2*i+1)%2=1 by omega,show (2*i+1)/2=i by omega]
  ·rw[if_neg fun c=>h c.2,if_neg h]
noncomputable abbrev offC (ls:zF)(c:Nat):Nat:=offN (nC ls) c
theorem lM (ls:zF):(celM ls).length=offC ls (kC ls):=by rw[yN3,bN]
theorem wS {ls:zF}{d:CL}{c j:Nat}(h:inC ls c j):(celM ls).getD (offC ls c+j) d=cellC ls c j:=by rw[yN3];exact zN1 (f:=nC ls) (g:=cellC ls) (K:=kC ls) h.2 h.1
theorem yN2 {ls:zF}{c j:Nat}(h:inC ls c j):offC ls c+j<(celM ls).length:=by rw[lM];exact yH4 h.1 h.2
theorem cel_ex {ls:zF}{n:Nat}(h:n<(celM ls).length):∃ c j,inC ls c j∧n=offC ls c+j:=by
 rw[lM] at h;obtain⟨c,j,h1,h2,e⟩:=yH5 h;exact⟨c,j,⟨h1,h2⟩,e⟩
theorem xc_wall {ls:zF}(i:Nat):xcM ls (2*i)=(xsM ls).getD i 0:=by unfold xcM repY;rw[if_pos (by omega),show 2*i/2=i by omega]
theorem eG {ls:zF}(i:Nat)(x:Rat):ycM ls (2*i) x=wlM ls i:=by unfold ycM;rw[if_pos (by omega),show 2*i/2=i by omega]
theorem iH {ls:zF}(i:Nat)(x:Rat):ycM ls (2*i+1) x=hsL ((xsM ls).getD i 0) ((xsM ls).getD (i+1) 0) x (lvM ls i):=by unfold ycM;rw[if_neg (by omega),show (2*i+1)/2=i by omega]
theorem zR8 {ls:zF}(i:Nat):ynM ls (2*i)=(wlM ls i).length:=by unfold ynM;rw[if_pos (by omega),show 2*i/2=i by omega]
theorem zR9 {ls:zF}(i:Nat):ynM ls (2*i+1)=(lvM ls i).length:=by unfold ynM;rw[if_neg (by omega),show (2*i+1)/2=i by omega]
noncomputable def clsM (m:Mdl)(k a r:Nat):List P2 :=
 if k<2 then
  if a<m.xs.length∧a<m.wl.length∧r+k<(m.wl.getD a Df.d).length then
   (m.xs.getD a Df.d,(m.wl.getD a Df.d).getD r Df.d)::if k=1 then [(m.xs.getD a Df.d,(m.wl.getD a Df.d).getD (r+1) Df.d)] else []
  else []
 else if a<m.lv.length∧a+1<m.xs.length∧r+(k-2)<(m.lv.getD a Df.d).length then
  (m.xs.getD a Df.d,((m.lv.getD a Df.d).getD r Df.d).1)::(m.xs.getD (a+1) Df.d,((m.lv.getD a Df.d).getD r Df.d).2)::if k=3 then [(m.xs.getD (a+1) Df.d,((m.lv.getD a Df.d).getD (r+1) Df.d).2),(m.xs.getD a Df.d,((m.lv.getD a Df.d).getD (r+1) Df.d).1)] else []
 else []
theorem wE {Ψ Φ:PV}{p q:Rat}{n m:Nat}[h:QR Ψ n p][k:QR Φ m q](hn:n≤40000)(hm:m≤40000):CTy prog 137 [Ψ,Φ] (exP (.bool (decide (p=q)))):=by
 refine yI (σs:=[ag (rtq n p),ag (rtq m q)]) ?_ (fs1 qr_q (fs1 qr_q fs0));refine fw [.tmp 4] func137 fun X=>?_;repeat refine u ?_
 refine zB rfl rfl (gD (by omega) (by omega)) ?_;repeat refine u ?_
 refine e ?_;refine psb ?_;rw[zcA];simp only[decide_eq_true_eq,xK]
def dT (s:Bool):Int:=if s then -1 else 0
def inB (s:Bool)(a x b:Rat):Bool:=decide (cmpR a x≤dT s)&&decide (cmpR x b≤dT s)
theorem ksin {p q r:Rat}{n m k:Nat}{s:Bool}(hn:n≤40000)(hm:m≤40000)(hk:k≤40000):CTy prog 208 [ag (rtq n p),ag (rtq m q),ag (rtq k r),pa (xc (.int .i64 (dT s)))] (exP (.bool (decide (cmpR p q≤dT s)&&decide (cmpR q r≤dT s)))):=by
 refine fw [.tmp 7] func208 fun X=>?_;iterate 8 refine u ?_
 refine zK 13 mixed rfl rfl ?_;repeat refine u ?_
 refine zC rfl rfl (gD (by omega) (by omega)) ?_;repeat refine u ?_
 refine d1g rfl rfl (oca rfl rfl fun g=>gD (by omega) (by omega)) ?_;repeat refine u ?_
 exact e
theorem zY0 {Ψ Φ Θ:PV}{p q r:Rat}{n m k:Nat}{s:Bool}[h1:QR Ψ n p][h2:QR Φ m q][h3:QR Θ k r](hn:n≤40000)(hm:m≤40000)(hk:k≤40000):CTy prog 208 [Ψ,Φ,Θ,pa (xc (.int .i64 (dT s)))] (exP (.bool (inB s p q r))):=yI (ksin hn hm hk) (fs1 qr_q (fs1 qr_q (fs1 qr_q (fs1 (PSub.refl _) fs0))))
theorem zM0 {s:Bool}:CTy prog 126 [exP (.bool s)] (fn 208 [pa (xc (.int .i64 (dT s)))]):=by
 refine fw [.tmp 2] func126 fun X=>?_;iterate 6 refine u ?_
 refine u fun b3=>?_;repeat refine u ?_
 refine tp (fun c0=>?_) fun c0=>?_;iterate 5 refine u ?_
 refine zO (zY 0 rfl (s:=3) rfl) (zA1 (omf rfl) ?_);repeat refine u ?_
 refine e ?_;rotate_left;iterate 3 refine u ?_
 refine zO (zY 0 rfl (s:=3) rfl) (zA1 (omf rfl) ?_);repeat refine u ?_
 refine e ?_;rotate_left
 ·rw[show dT s = -1 from if_pos c0];exact PSub.refl _
 ·rw[show dT s=0 from if_neg c0];exact PSub.refl _
theorem tk1 {l:List Rat}{r:Nat}(h:r<l.length):List.take (r+0+1-r) (List.drop r l)=[l.getD r Df.d]:=by
 rw[show r+0+1-r=1 by omega,zcN h,List.take_succ_cons,List.take_zero];simp[zah,h]
theorem tk2 {l:List Rat}{r:Nat}(h:r+1<l.length):List.take (r+1+1-r) (List.drop r l)=[l.getD r Df.d,l.getD (r+1) Df.d]:=by
 rw[show r+1+1-r=2 by omega,zcN (by omega),List.take_succ_cons,zcN h,List.take_succ_cons,List.take_zero];simp[zah,h,show r<l.length by omega]
theorem ksclosed0 {m:Mdl}{N K a r:Nat}{p:P2}(hN:N≤20000)(ha:a≤1000000000000)(hr:r≤1000000000000)(hx:m.xs.length≤1000000)(hw:∀ i,(m.wl.getD i Df.d).length≤1000000)(hv:∀ i,(m.lv.getD i Df.d).length≤1000000):CTy prog 58 [ag (mdT N m),ag (st [xc (.int .i8 0),xc (.int .i64 ((a:Nat):Int)),xc (.int .i64 ((r:Nat):Int)),ptc K p])] (sv (sl 6 ((clsM m 0 a r).map (ptc (N+1))))):=by
 have hwa:=hw a;have hva:=hv a;refine fw [.tmp 4] func58 fun X=>?_;repeat refine u ?_
 refine tp (fun c0=>(by omega)) fun c0=>?_;repeat refine u ?_
 refine tp (fun c1=>(by omega)) fun c1=>?_;repeat refine u ?_
 refine tp (fun c2=>?_) fun c2=>(by omega);repeat refine u ?_
 refine tp (fun c3=>?_) fun c3=>(by omega);iterate 2 refine u ?_
 refine zK 24 mixed rfl rfl ?_;repeat refine u ?_
 refine d1g rfl rfl (ofa rfl rfl) ?_;repeat refine u ?_
 refine d1g rfl rfl (ofa rfl rfl) ?_;repeat refine u ?_
 refine d1g rfl rfl (omv rfl) ?_;repeat refine u ?_
 refine tp (fun c4=>?_) fun c4=>?_;repeat refine u ?_
 refine e ?_;rotate_left;iterate 7 refine u ?_
 refine zK 16 mixed rfl rfl ?_;repeat refine u ?_
 refine d1 (ofa rfl rfl) ?_;repeat refine u ?_
 refine d1 (ofa rfl rfl) ?_;repeat refine u ?_
 refine d1 (ofa rfl rfl) ?_;repeat refine u ?_
 refine d1 (ofa rfl rfl) ?_;repeat refine u ?_
 refine d1 (omv rfl) ?_;repeat refine u ?_
 rotate_left
 ·unfold clsM;rw[if_pos (by omega),if_neg fun c=>by omega];exact lZ
 unfold clsM;rw[if_pos (by omega),if_pos ⟨by omega,by omega,by omega⟩];have hT:List.take (r+0+1-r) (List.drop r (m.wl.getD a Df.d))=(m.wl.getD a Df.d).getD r Df.d::[]:=tk1 (by omega);rw[if_neg (by omega),show [(m.xs.getD a Df.d,(m.wl.getD a Df.d).getD r Df.d)]=(List.take (r+0+1-r) (List.drop r (m.wl.getD a Df.d))).map (Prod.mk (m.xs.getD a Df.d)) by rw[hT];rfl];have hTl:(List.take (r+0+1-r) (List.drop r (m.wl.getD a Df.d))).length≤2:=by rw[hT];simp
 clear hT;generalize List.take (r+0+1-r) (List.drop r (m.wl.getD a Df.d))=T at *;refine t_ts (jH 39 6) ?_;refine xC (σ:=Nat×Value) (fun s=>[(6,True,exP s.2),(74,True,zJ s.1)]) (fun s=>[.row s.2 39 6 (((T.take s.1).map (Prod.mk (m.xs.getD a Df.d))).map (ptc N))]) (fun s=>s.1≤T.length) (fun s=>T.length-s.1) ((0,.slice none 0 0)) (tk 2 rfl (tk 3 rfl (tk 4 rfl (tk 72 rfl (tk 73 rfl tn))))) ?_ rfl ((by simp)) (fun s hJ Y _=>?_);refine zA rfl (zA rfl tn);obtain⟨i,v⟩:=s;dsimp only at hJ ⊢;repeat refine u ?_
 refine tp (fun c5=>?_) fun c5=>?_;iterate 7 refine u ?_
 refine u fun b8=>?_;refine u ?_;refine zO (zY (s:=8) 0 rfl rfl) ?_;refine u ?_;refine zK 10 mixed rfl rfl ?_;repeat refine u ?_
 refine tap 0 rfl rfl rfl (by(simp;omega)) rfl fun r88=>?_;repeat refine u ?_
 rotate_left;repeat refine u ?_
 refine zO (yW (s:=90) 0 rfl rfl) (zB rfl rfl (iB (n:=N) (by omega) (by(simp;omega))) ?_);repeat refine u ?_
 refine e ?_;rotate_left
 ·refine⟨(i+1,r88),tes ?_ ?_ ?_,(by omega),(by omega)⟩;refine zA rfl (zA rfl tn);refine zA rfl (zA rfl (zA rfl (zA rfl (zA rfl tn))));rw[(zT (Df.d:Rat) (l:=T) (s:=i) (by omega)).1,zay,zay];exact zaa _
 ·rw[zaz (by omega)];exact PSub.refl _
theorem ksclosed1 {m:Mdl}{N K a r:Nat}{p:P2}(hN:N≤20000)(ha:a≤1000000000000)(hr:r≤1000000000000)(hx:m.xs.length≤1000000)(hw:∀ i,(m.wl.getD i Df.d).length≤1000000)(hv:∀ i,(m.lv.getD i Df.d).length≤1000000):CTy prog 58 [ag (mdT N m),ag (st [xc (.int .i8 1),xc (.int .i64 ((a:Nat):Int)),xc (.int .i64 ((r:Nat):Int)),ptc K p])] (sv (sl 6 ((clsM m 1 a r).map (ptc (N+1))))):=by
 have hwa:=hw a;have hva:=hv a;refine fw [.tmp 4] func58 fun X=>?_;repeat refine u ?_
 refine tp (fun c0=>?_) fun c0=>(by omega);repeat refine u ?_
 refine tp (fun c1=>(by omega)) fun c1=>?_;repeat refine u ?_
 refine tp (fun c2=>(by omega)) fun c2=>?_;repeat refine u ?_
 refine tp (fun c3=>?_) fun c3=>(by omega);iterate 2 refine u ?_
 refine zK 24 mixed rfl rfl ?_;repeat refine u ?_
 refine d1g rfl rfl (ofa rfl rfl) ?_;repeat refine u ?_
 refine d1g rfl rfl (ofa rfl rfl) ?_;repeat refine u ?_
 refine d1g rfl rfl (ofa rfl rfl) ?_;repeat refine u ?_
 refine d1g rfl rfl (omv rfl) ?_;repeat refine u ?_
 refine tp (fun c4=>?_) fun c4=>?_;repeat refine u ?_
 refine e ?_;rotate_left;iterate 7 refine u ?_
 refine zK 16 mixed rfl rfl ?_;repeat refine u ?_
 refine d1 (ofa rfl rfl) ?_;repeat refine u ?_
 refine d1 (ofa rfl rfl) ?_;repeat refine u ?_
 refine d1 (ofa rfl rfl) ?_;repeat refine u ?_
 refine d1 (ofa rfl rfl) ?_;repeat refine u ?_
 refine d1 (omv rfl) ?_;repeat refine u ?_
 rotate_left
 ·unfold clsM;rw[if_pos (by omega),if_neg fun c=>by omega];exact lZ
 unfold clsM;rw[if_pos (by omega),if_pos ⟨by omega,by omega,by omega⟩];have hT:List.take (r+1+1-r) (List.drop r (m.wl.getD a Df.d))=(m.wl.getD a Df.d).getD r Df.d::[(m.wl.getD a Df.d).getD (r+1) Df.d]:=tk2 (by omega);rw[if_pos rfl,show [(m.xs.getD a Df.d,(m.wl.getD a Df.d).getD r Df.d),(m.xs.getD a Df.d,(m.wl.getD a Df.d).getD (r+1) Df.d)]=(List.take (r+1+1-r) (List.drop r (m.wl.getD a Df.d))).map (Prod.mk (m.xs.getD a Df.d)) by rw[hT];rfl];have hTl:(List.take (r+1+1-r) (List.drop r (m.wl.getD a Df.d))).length≤2:=by rw[hT];simp
 clear hT;generalize List.take (r+1+1-r) (List.drop r (m.wl.getD a Df.d))=T at *;refine t_ts (jH 39 6) ?_;refine xC (σ:=Nat×Value) (fun s=>[(6,True,exP s.2),(74,True,zJ s.1)]) (fun s=>[.row s.2 39 6 (((T.take s.1).map (Prod.mk (m.xs.getD a Df.d))).map (ptc N))]) (fun s=>s.1≤T.length) (fun s=>T.length-s.1) ((0,.slice none 0 0)) (tk 2 rfl (tk 3 rfl (tk 4 rfl (tk 72 rfl (tk 73 rfl tn))))) ?_ rfl ((by simp)) (fun s hJ Y _=>?_);refine zA rfl (zA rfl tn);obtain⟨i,v⟩:=s;dsimp only at hJ ⊢;repeat refine u ?_
 refine tp (fun c5=>?_) fun c5=>?_;iterate 7 refine u ?_
 refine u fun b8=>?_;refine u ?_;refine zO (zY (s:=8) 0 rfl rfl) ?_;refine u ?_;refine zK 10 mixed rfl rfl ?_;repeat refine u ?_
 refine tap 0 rfl rfl rfl (by(simp;omega)) rfl fun r88=>?_;repeat refine u ?_
 rotate_left;repeat refine u ?_
 refine zO (yW (s:=90) 0 rfl rfl) (zB rfl rfl (iB (n:=N) (by omega) (by(simp;omega))) ?_);repeat refine u ?_
 refine e ?_;rotate_left
 ·refine⟨(i+1,r88),tes ?_ ?_ ?_,(by omega),(by omega)⟩;refine zA rfl (zA rfl tn);refine zA rfl (zA rfl (zA rfl (zA rfl (zA rfl tn))));rw[(zT (Df.d:Rat) (l:=T) (s:=i) (by omega)).1,zay,zay];exact zaa _
 ·rw[zaz (by omega)];exact PSub.refl _
theorem ksclosed2 {m:Mdl}{N K a r:Nat}{p:P2}(hN:N≤20000)(ha:a≤1000000000000)(hr:r≤1000000000000)(hx:m.xs.length≤1000000)(hw:∀ i,(m.wl.getD i Df.d).length≤1000000)(hv:∀ i,(m.lv.getD i Df.d).length≤1000000):CTy prog 58 [ag (mdT N m),ag (st [xc (.int .i8 2),xc (.int .i64 ((a:Nat):Int)),xc (.int .i64 ((r:Nat):Int)),ptc K p])] (sv (sl 6 ((clsM m 2 a r).map (ptc (N+1))))):=by
 have hwa:=hw a;have hva:=hv a;refine fw [.tmp 4] func58 fun X=>?_;repeat refine u ?_
 refine tp (fun c0=>(by omega)) fun c0=>?_;repeat refine u ?_
 refine tp (fun c1=>(by omega)) fun c1=>?_;repeat refine u ?_
 refine tp (fun c2=>(by omega)) fun c2=>?_;repeat refine u ?_
 refine tp (fun c3=>(by omega)) fun c3=>?_;repeat refine u ?_
 refine tp (fun c4=>?_) fun c4=>(by omega);repeat refine u ?_
 refine tp (fun c5=>?_) fun c5=>(by omega);iterate 2 refine u ?_
 refine zK 25 mixed rfl rfl ?_;repeat refine u ?_
 refine d1g rfl rfl (ofa rfl rfl) ?_;repeat refine u ?_
 refine d1g rfl rfl (ofa rfl rfl) ?_;repeat refine u ?_
 refine d1g rfl rfl (ofa rfl rfl) ?_;repeat refine u ?_
 refine d1g rfl rfl (omv rfl) ?_;repeat refine u ?_
 refine tp (fun c6=>?_) fun c6=>?_;repeat refine u ?_
 refine e ?_;rotate_left;iterate 2 refine u ?_
 apply gP 2 16 15 [(13,9,0),(14,10,1),(15,1000015,0)] rfl rfl mixed rfl rfl rfl;repeat refine u ?_
 refine cx1 (ofa rfl rfl) rfl ?_;repeat refine u ?_
 refine cx1 (ofa rfl rfl) rfl ?_;repeat refine u ?_
 refine cx1 (ofa rfl rfl) rfl ?_;repeat refine u ?_
 refine cx1 (ofa rfl rfl) rfl ?_;repeat refine u ?_
 refine cN rfl rfl (cal) (cN rfl rfl (cal) (cS rfl rfl rfl (cst rfl rfl rfl) ?_));refine cE (fun b9 b10=>?_);refine fm ?_;refine u ?_;refine zO (zY (s:=9) 1 rfl rfl) ?_;refine zD 0 rfl rfl (zO (zY (s:=10) 0 rfl rfl) ?_);iterate 2 refine u ?_
 apply gP 2 25 24 [(22,11,0),(23,12,1),(24,1000024,0)] rfl rfl mixed rfl rfl rfl;repeat refine u ?_
 refine cx1 (ofa rfl rfl) rfl ?_;repeat refine u ?_
 refine cx1 (ofa rfl rfl) rfl ?_;repeat refine u ?_
 refine cx1 (ofa rfl rfl) rfl ?_;repeat refine u ?_
 refine cx1 (ofa rfl rfl) rfl ?_;repeat refine u ?_
 refine cx1 (ofa rfl rfl) rfl ?_;repeat refine u ?_
 refine cx1 (ofa rfl rfl) rfl ?_;repeat refine u ?_
 refine cx1 (omv rfl) rfl ?_;repeat refine u ?_
 refine cN rfl rfl (cal) (cN rfl rfl (cal) (cS rfl rfl rfl (cst rfl rfl rfl) ?_));refine cE (fun b11 b12=>?_);refine fm ?_;refine u ?_;refine zO (zY (s:=11) 1 rfl rfl) ?_;refine zD 0 rfl rfl (zO (zY (s:=12) 0 rfl rfl) ?_);iterate 19 refine u ?_
 refine zA1 (yZ (obs rfl rfl rfl rfl rfl rfl) (show PSub _ (sv (sl 6 ([(m.xs.getD a Df.d,((m.lv.getD a Df.d).getD r Df.d).1),(m.xs.getD (a+1) Df.d,((m.lv.getD a Df.d).getD r Df.d).2),(m.xs.getD (a+1) Df.d,((m.lv.getD a Df.d).getD (r+0) Df.d).2),(m.xs.getD a Df.d,((m.lv.getD a Df.d).getD (r+0) Df.d).1)].map (ptc N)))) from PSub.refl _)) ?_;repeat refine u ?_
 refine zA1 (omv rfl) ?_;refine u ?_;refine zA1 (yZ (oad rfl rfl (by omega)) (ps_i (show _=((2:Nat):Int) from rfl))) ?_;repeat refine u ?_
 refine zB rfl rfl (iB (n:=N) (by omega) (by(simp;done))) ?_;repeat refine u ?_
 refine e ?_;rotate_left
 ·unfold clsM;rw[if_neg (by omega),if_neg fun c=>by omega];exact lZ
 ·unfold clsM;rw[if_neg (by omega),if_pos ⟨by omega,by omega,by omega⟩];exact PSub.refl _
theorem ksclosed3 {m:Mdl}{N K a r:Nat}{p:P2}(hN:N≤20000)(ha:a≤1000000000000)(hr:r≤1000000000000)(hx:m.xs.length≤1000000)(hw:∀ i,(m.wl.getD i Df.d).length≤1000000)(hv:∀ i,(m.lv.getD i Df.d).length≤1000000):CTy prog 58 [ag (mdT N m),ag (st [xc (.int .i8 3),xc (.int .i64 ((a:Nat):Int)),xc (.int .i64 ((r:Nat):Int)),ptc K p])] (sv (sl 6 ((clsM m 3 a r).map (ptc (N+1))))):=by
 have hwa:=hw a;have hva:=hv a;refine fw [.tmp 4] func58 fun X=>?_;repeat refine u ?_
 refine tp (fun c0=>?_) fun c0=>(by omega);repeat refine u ?_
 refine tp (fun c1=>(by omega)) fun c1=>?_;repeat refine u ?_
 refine tp (fun c2=>(by omega)) fun c2=>?_;repeat refine u ?_
 refine tp (fun c3=>(by omega)) fun c3=>?_;repeat refine u ?_
 refine tp (fun c4=>(by omega)) fun c4=>?_;repeat refine u ?_
 refine tp (fun c5=>?_) fun c5=>(by omega);iterate 2 refine u ?_
 refine zK 25 mixed rfl rfl ?_;repeat refine u ?_
 refine d1 (ofa rfl rfl) ?_;repeat refine u ?_
 refine d1g rfl rfl (ofa rfl rfl) ?_;repeat refine u ?_
 refine d1g rfl rfl (ofa rfl rfl) ?_;repeat refine u ?_
 refine d1g rfl rfl (ofa rfl rfl) ?_;repeat refine u ?_
 refine d1g rfl rfl (omv rfl) ?_;repeat refine u ?_
 refine tp (fun c6=>?_) fun c6=>?_;repeat refine u ?_
 refine e ?_;rotate_left;iterate 2 refine u ?_
 apply gP 2 16 15 [(13,9,0),(14,10,1),(15,1000015,0)] rfl rfl mixed rfl rfl rfl;repeat refine u ?_
 refine cx1 (ofa rfl rfl) rfl ?_;repeat refine u ?_
 refine cx1 (ofa rfl rfl) rfl ?_;repeat refine u ?_
 refine cx1 (ofa rfl rfl) rfl ?_;repeat refine u ?_
 refine cx1 (ofa rfl rfl) rfl ?_;repeat refine u ?_
 refine cN rfl rfl (cal) (cN rfl rfl (cal) (cS rfl rfl rfl (cst rfl rfl rfl) ?_));refine cE (fun b9 b10=>?_);refine fm ?_;refine u ?_;refine zO (zY (s:=9) 1 rfl rfl) ?_;refine zD 0 rfl rfl (zO (zY (s:=10) 0 rfl rfl) ?_);iterate 2 refine u ?_
 apply gP 2 25 24 [(22,11,0),(23,12,1),(24,1000024,0)] rfl rfl mixed rfl rfl rfl;repeat refine u ?_
 refine cx1 (ofa rfl rfl) rfl ?_;repeat refine u ?_
 refine cx1 (ofa rfl rfl) rfl ?_;repeat refine u ?_
 refine cx1 (ofa rfl rfl) rfl ?_;repeat refine u ?_
 refine cx1 (ofa rfl rfl) rfl ?_;repeat refine u ?_
 refine cx1 (ofa rfl rfl) rfl ?_;repeat refine u ?_
 refine cx1 (ofa rfl rfl) rfl ?_;repeat refine u ?_
 refine cx1 (omv rfl) rfl ?_;repeat refine u ?_
 refine cN rfl rfl (cal) (cN rfl rfl (cal) (cS rfl rfl rfl (cst rfl rfl rfl) ?_));refine cE (fun b11 b12=>?_);refine fm ?_;refine u ?_;refine zO (zY (s:=11) 1 rfl rfl) ?_;refine zD 0 rfl rfl (zO (zY (s:=12) 0 rfl rfl) ?_);iterate 19 refine u ?_
 refine zA1 (yZ (obs rfl rfl rfl rfl rfl rfl) (show PSub _ (sv (sl 6 ([(m.xs.getD a Df.d,((m.lv.getD a Df.d).getD r Df.d).1),(m.xs.getD (a+1) Df.d,((m.lv.getD a Df.d).getD r Df.d).2),(m.xs.getD (a+1) Df.d,((m.lv.getD a Df.d).getD (r+1) Df.d).2),(m.xs.getD a Df.d,((m.lv.getD a Df.d).getD (r+1) Df.d).1)].map (ptc N)))) from PSub.refl _)) ?_;repeat refine u ?_
 refine zA1 (omv rfl) ?_;refine u ?_;refine zA1 (yZ (oad rfl rfl (by omega)) (ps_i (show _=((4:Nat):Int) from rfl))) ?_;repeat refine u ?_
 refine zB rfl rfl (iB (n:=N) (by omega) (by(simp;done))) ?_;repeat refine u ?_
 refine e ?_;rotate_left
 ·unfold clsM;rw[if_neg (by omega),if_neg fun c=>by omega];exact lZ
 ·unfold clsM;rw[if_neg (by omega),if_pos ⟨by omega,by omega,by omega⟩];exact PSub.refl _
def hasB (s:Bool)(k:Nat):List P2→P2→Bool
 | [a],p=>decide (a=p)
 | [a,b],p=>if k=1 then decide (a.1=p.1)&&inB s a.2 p.2 b.2 else inB s a.1 p.1 b.1&&decide (zN a b p.1=p.2)
 | [a,b,c,d],p=>inB s a.1 p.1 b.1&&inB s (zN a b p.1) p.2 (zN d c p.1)
 | _,_=>false
theorem vZ {m:Mdl}{N K:Nat}{c:CL}(hN:N≤20000)(hk:c.1<4)(ha:c.2.1≤1000000000000)(hr:c.2.2.1≤1000000000000)(hx:m.xs.length≤1000000)(hw:∀ i,(m.wl.getD i Df.d).length≤1000000)(hv:∀ i,(m.lv.getD i Df.d).length≤1000000):CTy prog 58 [ag (mdT N m),ag (celT K c)] (sv (sl 6 ((clsM m c.1 c.2.1 c.2.2.1).map (ptc (N+1))))):=by
 obtain⟨k,a,r,p⟩:=c;dsimp only at hk ha hr ⊢;have h4:k=0∨k=1∨k=2∨k=3:=by omega
 rcases h4 with rfl | rfl | rfl | rfl
 ·exact ksclosed0 hN ha hr hx hw hv
 ·exact ksclosed1 hN ha hr hx hw hv
 ·exact ksclosed2 hN ha hr hx hw hv
 ·exact ksclosed3 hN ha hr hx hw hv
theorem cls_cases (m:Mdl)(k a r:Nat):clsM m k a r=[]∨(∃ x,clsM m k a r=[x])∨(∃ x y,clsM m k a r=[x,y]) ∨ ∃ x y z u,clsM m k a r=[x,y,z,u]:=by
 unfold clsM;split
 ·split
  ·split
   ·exact .inr (.inr (.inl ⟨_,_,rfl⟩))
   ·exact .inr (.inl ⟨_,rfl⟩)
  ·exact .inl rfl
 ·split
  ·split
   ·exact .inr (.inr (.inr ⟨_,_,_,_,rfl⟩))
   ·exact .inr (.inr (.inl ⟨_,_,rfl⟩))
  ·exact .inl rfl
theorem oK:zQ []=(((-1:Rat),(-1:Rat)),((1:Rat),(1:Rat))):=by decide +kernel
theorem zS5 {raw:List Rat}(h:∀ x,x∈raw↔x = -1∨x=1):setOf cmpR raw=[-1,1]:=by
 refine(IsSet.eq uF ⟨?_,fun x=>?_⟩).symm
 ·exact zav.2 ⟨fun b hb=>by rw[zaj.1 hb];decide +kernel,List.pairwise_singleton _ _⟩
 ·rw[h];simp
theorem fN:xsM []=[-1,1]:=by
 unfold xsM cutsOf;refine zS5 fun x=>?_;rw[oK];unfold rawC dB meetX;rw[show yH ([]:zF)=[] from rfl];simp
theorem wZ:lvM [] 0=[(-1,-1),(1,1)]:=by
 unfold lvM;rw[fN,oK];refine(iU ?_).symm;rw[if_pos (by decide +kernel)];refine⟨zav.2 ⟨fun b hb=>by rw[zaj.1 hb];decide +kernel,List.pairwise_singleton _ _⟩,fun x=>?_⟩;unfold yX;simp[xQ]
theorem yD2 {i:Nat}(h:i<2):wlM [] i=[-1,1]:=by
 unfold wlM;refine zS5 fun x=>?_;rw[oI,oK,fN];have:i=0∨i=1:=by omega
 rcases this with rfl | rfl
 ·rw[wZ];simp;grind
 ·rw[show 1-1=0 by omega,wZ];simp;grind
def aO (ls:List (List PX)):Bool:=decide (ls.length≤3)&&ls.all fun l=>decide (l.length≤6)&&qI l
theorem few24_at {ls:List (List PX)}{i:Nat}(hi:i<ls.length)(h:(decide ((ls.getD i Df.d).length≤6)&&qI (ls.getD i Df.d))=false):aO ls=false:=by
 rw[zah,zag hi,zbv] at h;unfold aO;rw[Bool.and_eq_false_iff];right;rw[List.all_eq_false];exact⟨_,zaQ hi,by rw[h];simp⟩
theorem yK8 {ls:List (List PX)}:CTy prog 95 [sv (sl 1 (ls.map pcx))] (exP (.bool (aO ls))):=by
 refine fw [.tmp 2] func95 fun X=>?_;repeat refine u ?_
 refine lp (σ:=Nat) [0] (fun i=>[(3,True,zJ i)]) (fun i=>[]) (fun i=>i≤ls.length∧i≤4∧∀ l∈ls.take i,(decide (l.length≤6)&&qI l)=true) (fun i=>ls.length-i) (0) (⟨by omega,by omega,by simp⟩) fun i hJ Y _=>?_;obtain⟨hi,h4,hs⟩:=hJ;repeat refine u ?_
 refine tp (fun c0=>?_) fun c0=>?_;repeat refine u ?_
 refine t1g rfl rfl (oca rfl rfl fun g=>ksmall) ?_;repeat refine u ?_
 refine tp (fun c1=>?_) fun c1=>?_;repeat refine u ?_
 refine e ?_;refine psb ?_;rotate_left;repeat refine u ?_
 rotate_left;repeat refine u ?_
 refine e ?_;refine psb ?_;rotate_left
 ·refine(few24_at (i:=i) (by omega) ?_).symm;rw[Bool.and_eq_false_iff,decide_eq_false_iff_not];rcases c1 with c | c
  ·left;omega
  ·right;simpa using c
 ·refine nxt (i+1) ?_;refine⟨by omega,by omega,fun l hl=>?_⟩;rw[(zT (Df.d:List PX) (show i<ls.length by omega)).1] at hl;rcases zae.1 hl with h | h
  ·exact hs l h
  ·rw[zaj.1 h,zap,decide_eq_true_eq];exact⟨by omega,Classical.byContradiction fun k=>c1 (.inr k)⟩
 ·unfold aO;by_cases h:i=ls.length
  ·subst h;rw[zaG] at hs;rw[zaC.2 hs,Bool.and_true];exact decide_eq_decide.2 (by omega)
  ·rw[decide_eq_false (by omega),decide_eq_false (show ¬ ls.length≤3 by omega),Bool.false_and]
def tF (r:List PX)(ts:List TX3):Bool:=decide (r.length≤4)&&decide (ts.length≤2)&&aO [r] && !rA ts&&ts.all fun t=>aO [trl t]
theorem tE {r:List PX}{ts:List TX3}:tF r ts=true↔r.length≤4∧ts.length≤2∧aO [r]=true∧rA ts=false∧∀ t∈ts,aO [trl t]=true:=by
 unfold tF;simp only[zap,decide_eq_true_eq,zcu,zaC,and_assoc]
noncomputable def modM (ls:zF):Mdl:=⟨zQ ls,xsM ls,lvsM ls,wlsM ls,celM ls⟩
theorem inB_iff {s:Bool}{a x b:Rat}:inB s a x b=true↔if s then a<x∧x<b else a≤x∧x≤b:=by
 unfold inB dT;cases s with
 | false =>
  simp only[zap,decide_eq_true_eq,Bool.false_eq_true,if_false];rw[cR,cR]
 | true =>
  simp only[zap,decide_eq_true_eq,if_true];rw[← yO,← yO];constructor<;>intro h<;>constructor<;>omega
theorem iD {lo hi x:Rat}{a:P2}(h:lo<hi):zN (lo,a.1) (hi,a.2) x=yU a (gC lo hi x):=by
 unfold zN atP yU gC;rw[if_neg (by grind),if_pos h];simp only[addP,gH,subP];rw[Rat.mul_comm]
theorem has1 {s:Bool}{k:Nat}{a p:P2}:hasB s k [a] p=decide (a=p):=rfl
theorem has2w {s:Bool}{k:Nat}{a b p:P2}(h:k=1):hasB s k [a,b] p=(decide (a.1=p.1)&&inB s a.2 p.2 b.2):=by subst h;rfl
theorem has2s {s:Bool}{k:Nat}{a b p:P2}(h:k≠1):hasB s k [a,b] p=(inB s a.1 p.1 b.1&&decide (zN a b p.1=p.2)):=by
 show (if k=1 then _ else _)=_;rw[if_neg h]
theorem has4 {s:Bool}{k:Nat}{a b c d p:P2}:hasB s k [a,b,c,d] p=(inB s a.1 p.1 b.1&&inB s (zN a b p.1) p.2 (zN d c p.1)):=rfl
theorem has_iff {ls:zF}{c j:Nat}(h:inC ls c j){s:Bool}{p:P2}:hasB s (2*(c%2)+j%2) (clsM (modM ls) (2*(c%2)+j%2) (c/2) (j/2)) p=true↔if s then ownC ls c j p else touC ls c j p:=by
 obtain⟨hc,hj⟩:=h;have hd:(Df.d:Rat)=0:=rfl;have hd2:(Df.d:P2)=(0,0):=rfl;have hd3:(Df.d:List Rat)=[]:=rfl;have hd4:(Df.d:List P2)=[]:=rfl;have key:(if s then ownC ls c j p else touC ls c j p)↔(if s then posY (xsM ls) c p.1 else cloY (xsM ls) c p.1)∧(if s then posY (ycM ls c p.1) j p.2 else cloY (ycM ls c p.1) j p.2):=by
  cases s<;>rfl
 rw[key];have hpc:∀(l:List Rat) (i:Nat) (y:Rat),(if s then posY l (2*i) y else cloY l (2*i) y)↔y=l.getD i 0:=fun l i y=>by
  cases s
  ·show cloY l (2*i) y↔_;unfold cloY;rw[if_pos (by omega),show 2*i/2=i by omega]
  ·show posY l (2*i) y↔_;unfold posY;rw[if_pos (by omega),show 2*i/2=i by omega]
 have hpo:∀(l:List Rat) (i:Nat) (y:Rat),(if s then posY l (2*i+1) y else cloY l (2*i+1) y)↔inB s (l.getD i 0) y (l.getD (i+1) 0)=true:=fun l i y=>by
  rw[inB_iff];cases s
  ·show cloY l (2*i+1) y↔_;unfold cloY;rw[if_neg (by omega),show (2*i+1)/2=i by omega];simp
  ·show posY l (2*i+1) y↔_;unfold posY;rw[if_neg (by omega),show (2*i+1)/2=i by omega];simp
 rcases zbi c with mc | mc
 ·obtain⟨i,rfl⟩:∃ i,c=2*i:=⟨c/2,by omega⟩;have hi:i<(xsM ls).length:=by omega
  rw[zR8] at hj;rw[hpc,eG,show 2*i%2=0 by omega,show 2*i/2=i by omega];have e1:(modM ls).wl.getD i Df.d=wlM ls i:=by rw[hd3];exact lR hi
  have e2:(modM ls).wl.length=(xsM ls).length:=iI ls;rcases zbi j with mj | mj
  ·obtain⟨r,rfl⟩:∃ r,j=2*r:=⟨j/2,by omega⟩;rw[hpc,show 2*r%2=0 by omega,show 2*r/2=r by omega];unfold clsM;rw[if_pos (by omega),e1,if_pos ⟨hi,by omega,by omega⟩,if_neg (by omega)];rw[has1];rw[decide_eq_true_eq,hd];show ((xsM ls).getD i 0,(wlM ls i).getD r 0)=p↔_;obtain⟨p1,p2⟩:=p;rw[Prod.mk.injEq];exact⟨fun h=>⟨h.1.symm,h.2.symm⟩,fun h=>⟨h.1.symm,h.2.symm⟩⟩
  ·obtain⟨r,rfl⟩:∃ r,j=2*r+1:=⟨j/2,by omega⟩;rw[hpo,show (2*r+1)%2=1 by omega,show (2*r+1)/2=r by omega];unfold clsM;rw[if_pos (by omega),e1,if_pos ⟨hi,by omega,by omega⟩,if_pos (by omega)];rw[has2w (by omega),zap,decide_eq_true_eq,hd];show (xsM ls).getD i 0=p.1∧_↔_;exact⟨fun h=>⟨h.1.symm,h.2⟩,fun h=>⟨h.1.symm,h.2⟩⟩
 ·obtain⟨i,rfl⟩:∃ i,c=2*i+1:=⟨c/2,by omega⟩;have hi:i+1<(xsM ls).length:=by omega
  have hlt:=uS ls i hi;rw[zR9] at hj;rw[hpo,iH,show (2*i+1)%2=1 by omega,show (2*i+1)/2=i by omega];have e1:(modM ls).lv.getD i Df.d=lvM ls i:=by rw[hd4];exact cH hi
  have e2:(modM ls).lv.length=(xsM ls).length-1:=fB ls;rcases zbi j with mj | mj
  ·obtain⟨r,rfl⟩:∃ r,j=2*r:=⟨j/2,by omega⟩;rw[hpc,show 2*r%2=0 by omega,show 2*r/2=r by omega,qD (by omega)];unfold clsM;rw[if_neg (by omega),e1,if_pos ⟨by omega,hi,by omega⟩,if_neg (by omega)];rw[has2s (by omega),zap,decide_eq_true_eq,hd,hd2,show (modM ls).xs=xsM ls from rfl,iD hlt];exact⟨fun h=>⟨h.1,h.2.symm⟩,fun h=>⟨h.1,h.2.symm⟩⟩
  ·obtain⟨r,rfl⟩:∃ r,j=2*r+1:=⟨j/2,by omega⟩;rw[hpo,show (2*r+1)%2=1 by omega,show (2*r+1)/2=r by omega,qD (by omega),qD (by omega)];unfold clsM;rw[if_neg (by omega),e1,if_pos ⟨by omega,hi,by omega⟩,if_pos (by omega)];rw[has4,zap,hd,hd2,show (modM ls).xs=xsM ls from rfl,iD hlt,iD hlt]
theorem zX0 {f:Nat→Nat}{B:Nat}(h:∀ c,f c≤B):∀ c,offN f c≤c*B
 | 0=>zaE _
 | c+1=>by rw[zL2,zaV,zbn];exact Nat.add_le_add (zX0 h c) (h c)
theorem lv_len2 {lo hi yl yh:Rat}{es:List BX}:(lvOf lo hi yl yh es).length≤es.length+2:=by
 by_cases h:lo<hi
 ·exact lv_len h
 ·rw[← iU (l:=[]) (by rw[if_neg h])];exact zaE _
section
variable {ls : zF} (h : Prt ls)
include h
theorem rH:ls.flatten.length≤27:=by
 have:=wH (K:=9) h.nine;have:=h.1;omega
theorem fC (i:Nat):(lvM ls i).length≤29:=zac lv_len2 (by have:=ed_len h;omega)
theorem zS3 (i:Nat):(wlR ls i).length≤87:=by
 have h1:=fC h i;have h2:=fC h (i-1);have h3:=rH h;unfold wlR;simp only[zal,zaw,zbl,zau];have h4:=List.length_filter_le (fun p:P2=>decide (p.1=(xsM ls).getD i 0)) ls.flatten;have h5:(if 0<i then(lvM ls (i-1)).map (·.2) else []).length≤29:=by split<;>simp<;>omega
 have h6:(if i+1<(xsM ls).length then(lvM ls i).map (·.1) else []).length≤29:=by split<;>simp<;>omega
 omega
theorem nK (i:Nat):(wlM ls i).length≤87:=zac (kQ uF _) (zS3 h i)
theorem nJ (c:Nat):ynM ls c≤87:=by
 unfold ynM;split
 ·exact nK h _
 ·have:=fC h (c/2);omega
theorem off_len (c:Nat):offC ls c≤c*173:=zX0 (fun c=>by unfold nC;have:=nJ h c;omega) c
theorem yB8:(celM ls).length≤3460000:=by
 rw[lM];have h1:=off_len h (kC ls);have h2:=lQ h;have h3:kC ls*173≤20000*173:=Nat.mul_le_mul_right _ (by unfold kC;omega);omega
end
theorem lv_edge {ls:zF}{lo hi:Rat}(hl:lo<hi){yl yh x:Rat}{a:P2}(ha:a∈lvOf lo hi yl yh (yX ls)):(∃ e∈yX ls,uT lo hi e∧yU a (gC lo hi x)=zN e.1 e.2 x)∨yU a (gC lo hi x)=yl∨yU a (gC lo hi x)=yh:=by
 have hm:=((nS hl).mem a).1 ha;rcases zae.1 hm with hm | hm
 ·left;obtain⟨e,he,ht,rfl⟩:=oQ.1 hm;refine⟨e,he,ht,?_⟩;unfold qK;unfold uT at ht;unfold yU gC zN atP addP gH subP;have h1:e.2.1-e.1.1≠0:=by grind
  rw[if_pos hl,if_neg h1,if_neg h1,if_neg h1];simp only;have h2:hi-lo≠0:=by grind
  generalize e.2.2-e.1.2=dy at *;generalize hd:e.2.1-e.1.1=d at *;generalize e.1.1=a1 at *;generalize e.1.2=a2 at *;have e3:(x-lo)/(hi-lo)*(hi-lo)=x-lo:=zcE h2;generalize (x-lo)/(hi-lo)=t at *;rw[zcj,zcj,zcj];generalize d⁻¹=v at *;grind
 ·right;simp only[zad,zaR,or_false] at hm;rcases hm with rfl | rfl
  ·left;unfold yU;grind
  ·right;unfold yU;grind
theorem wl_r {ls:zF}(h:Prt ls){i:Nat}(hi:i<(xsM ls).length){y:Rat}(hy:y∈wlR ls i):rlen y 14:=by
 have hlv:∀ j,j+1<(xsM ls).length→∀ a∈lvM ls j,rlen a.1 14∧rlen a.2 14:=fun j hj a ha =>
  zX6 h.fp h.bx (rO (by omega)) (rO hj) a (((nS (uS ls j hj)).mem a).1 ha)
 rcases oI.1 hy with(rfl | rfl) | ⟨h0,a,ha,rfl⟩ | ⟨h0,a,ha,rfl⟩ | ⟨l,hl,p,hp,_,rfl⟩
 ·exact zM (dA h.bx.1.2) (by omega)
 ·exact zM (dA h.bx.2.2) (by omega)
 ·exact(hlv (i-1) (by omega) a ha).2
 ·exact(hlv i h0 a ha).1
 ·exact zM (dA (h.fp l hl p hp).2) (by omega)
theorem hs_r {ls:zF}(h:Prt ls){i:Nat}(hi:i+1<(xsM ls).length){y:Rat}(hy:y∈hsL ((xsM ls).getD i 0) ((xsM ls).getD (i+1) 0) (xG ((xsM ls).getD i 0) ((xsM ls).getD (i+1) 0)) (lvM ls i)):rlen y 21:=by
 unfold hsL at hy;obtain⟨a,ha,rfl⟩:=zai.1 hy;have hx:rlen (xG ((xsM ls).getD i 0) ((xsM ls).getD (i+1) 0)) 10:=sE (mO h.fp h.bx (rO (by omega))) (mO h.fp h.bx (rO hi));rcases lv_edge (uS ls i hi) (x:=xG ((xsM ls).getD i 0) ((xsM ls).getD (i+1) 0)) ha with⟨e,he,_,k⟩ | k | k
 ·rw[k];obtain⟨k1,k2⟩:=zN4 h.fp he;exact bX (lE k1) (lE k2) hx
 ·rw[k];exact zM (dA h.bx.1.2) (by omega)
 ·rw[k];exact zM (dA h.bx.2.2) (by omega)
theorem oL {ls:zF}{i:Nat}(hi:i<(xsM ls).length):jZ ls (zQ ls) (xsM ls) (lvsM ls) i=wlR ls i:=by
 unfold jZ wlR qA kE atX;have e1:0<i→(lvsM ls).getD (i-1) []=lvM ls (i-1):=fun h=>cH (by omega);congr 1;congr 1
 ·congr 1;by_cases h:0<i
  ·rw[if_pos h,if_pos h,e1 h]
  ·rw[if_neg h,if_neg h]
 ·by_cases h:i+1<(xsM ls).length
  ·rw[if_pos h,cH h]
  ·rw[if_neg h,zah,zcH (by rw[fB];omega)];rfl
section
variable {ls : zF} (h : Prt ls)
include h
end
theorem bx_up {n m:Nat}{b:BX}(h:n≤m){M:Nat→Prop}{w:World}{us:List Value}(k:(bxc n b).p M w us):(bxc m b).p M w us:=by
 obtain⟨x,y,e1,h1,z,o,e2,h2,h3⟩:=k;exact⟨x,y,e1,bY h h1,z,o,e2,bY h h2,h3⟩
theorem yP4 {n m:Nat}(h:n≤m){l:List Rat}{M:Nat→Prop}{w:World}{us:List Value}(k:(sl 3 (l.map (rtc n))).p M w us):(sl 3 (l.map (rtc m))).p M w us :=
 cQ (f:=rtc n) (g:=rtc m) (fun a _ {M w us} ⟨s,b,d,e,g⟩=>⟨s,b,d,e,g.up h⟩) (fun _=>rfl) k
theorem yO1 {n m:Nat}(h:n≤m){l:List (List Rat)}{M:Nat→Prop}{w:World}{us:List Value}(k:(sl 1 (l.map fun x=>sl 3 (x.map (rtc n)))).p M w us):(sl 1 (l.map fun x=>sl 3 (x.map (rtc m)))).p M w us :=
 cQ (f:=fun x:List Rat=>sl 3 (x.map (rtc n))) (g:=fun x:List Rat=>sl 3 (x.map (rtc m))) (fun a _ {M w us} k=>yP4 h k) (fun _=>rfl) k
theorem lr_up {n m:Nat}(h:n≤m){l:zF}{M:Nat→Prop}{w:World}{us:List Value}(k:(sl 1 (l.map (pcc n))).p M w us):(sl 1 (l.map (pcc m))).p M w us :=
 cQ (f:=pcc n) (g:=pcc m) (fun a _ {M w us} k=>cQ (f:=ptc n) (g:=ptc m) (fun q _ {M w us} k=>bY h k) (fun _=>rfl) k) (fun _=>rfl) k
instance:Df CL:=⟨(0,0,0,(0,0))⟩
theorem fL {ls:zF}{a:Nat}(h:a<(celM ls).length):∃ c j,inC ls c j∧a=offC ls c+j∧(celM ls).getD a Df.d=cellC ls c j:=by
 obtain⟨c,j,h1,e⟩:=cel_ex h;exact⟨c,j,h1,e,by rw[e];exact wS h1⟩
theorem sX {ls:zF}{c j:Nat}:(cellC ls c j).1<4∧(cellC ls c j).1=2*(c%2)+j%2∧(cellC ls c j).2.1=c/2∧(cellC ls c j).2.2.1=j/2∧(cellC ls c j).2.2.2=repC ls c j:=⟨by show 2*(c%2)+j%2<4;omega,rfl,rfl,rfl,rfl⟩
noncomputable def hasA (s:Bool)(m:Mdl)(a:Nat)(p:P2):Bool:=hasB s (m.cs.getD a Df.d).1 (clsM m (m.cs.getD a Df.d).1 (m.cs.getD a Df.d).2.1 (m.cs.getD a Df.d).2.2.1) p
theorem pZ {ls:zF}{c j:Nat}(hc:inC ls c j){s:Bool}{p:P2}:hasA s (modM ls) (offC ls c+j) p=true↔if s then ownC ls c j p else touC ls c j p:=by
 unfold hasA;rw[show (modM ls).cs.getD (offC ls c+j) Df.d=cellC ls c j from wS hc];exact has_iff hc
section
variable {ls : zF} (h : Prt ls)
include h
theorem mD (i:Nat):((modM ls).wl.getD i Df.d).length≤1000000:=by
 show ((wlsM ls).getD i []).length≤_;rcases zaf i (xsM ls).length with c | c
 ·rw[lR c];have:=nK h i;omega
 ·rw[zah,zcH (by rw[iI];exact c)];simp
theorem mE (i:Nat):((modM ls).lv.getD i Df.d).length≤1000000:=by
 show ((lvsM ls).getD i []).length≤_;rcases zaf (i+1) (xsM ls).length with c | c
 ·rw[cH c];have:=fC h i;omega
 ·rw[zah,zcH (by rw[fB];omega)];simp
theorem mC:(modM ls).xs.length≤1000000:=by have:=lQ h;show (xsM ls).length≤_;omega
theorem iC {c j:Nat}(hc:inC ls c j):c/2≤1000000000000∧j/2≤1000000000000:=by
 have h1:=lQ h;have h2:=nJ h c;have h3:=hc.1;have h4:=hc.2;exact⟨by omega,by omega⟩
end
instance:Df (Int×Int):=⟨(0,0)⟩
theorem zS6 {c:Nat}(h:c<3):nC [] c=3:=by
 have:c=0∨c=1∨c=2:=by omega
 unfold nC ynM;rcases this with rfl | rfl | rfl
 ·rw[if_pos rfl,yD2 (by omega)];rfl
 ·rw[if_neg (by omega),show 1/2=0 from rfl,wZ];rfl
 ·rw[if_pos rfl,yD2 (by omega)];rfl
theorem oJ:offC [] 0=0∧offC [] 1=3∧offC [] 2=6∧offC [] 3=9:=by
 have h0:offC [] 0=0:=rfl;have h1:offC [] 1=3:=by show offC [] 0+nC [] 0=3;rw[h0,zS6 (by omega)]
 have h2:offC [] 2=6:=by show offC [] 1+nC [] 1=6;rw[h1,zS6 (by omega)]
 exact⟨h0,h1,h2,by show offC [] 2+nC [] 2=9;rw[h2,zS6 (by omega)]⟩
theorem wk_cel:(celM []).length=9:=by
 rw[lM,show kC []=3 by unfold kC;rw[fN];rfl];exact oJ.2.2.2
theorem zI0 {c j:Nat}(h1:c<3)(h2:j<3):inC [] c j:=⟨by rw[fN];exact h1,by have:=zS6 h1;unfold nC at this;omega⟩
theorem wk_rep:repC [] 0 0=(-1,-1)∧repC [] 1 1=(0,0):=by
 constructor
 ·unfold repC;rw[show (0:Nat)=2*0 from rfl,eG,xc_wall,yD2 (by omega),fN];decide +kernel
 ·unfold repC;rw[show (1:Nat)=2*0+1 from rfl,iH];unfold xcM;rw[wZ,fN];decide +kernel
theorem piece_w {r:List PX}{ts:List TX3}(h1:r.length≤6)(h2:ts.length≤3)(h3:qI r=true)(h5:∀ t∈ts,qI (trl t)=true):Prt (piecesX r ts):=by
 unfold piecesX;refine⟨by simpa using h2,fun l hl=>?_⟩;obtain⟨t',ht',rfl⟩:=zai.1 hl;obtain⟨t,ht,rfl⟩:=zai.1 ht';have ht3:=zN0 (h5 t ht);refine⟨⟨_,rfl⟩,?_,fun q hq=>?_⟩
 ·have:=sum_len' (t3l (px3 t)) ((r.map px).map negP);rw[zau,zau] at this;exact zac this (by show 3+_≤9;omega)
 ·obtain⟨x,hx,y,hy,rfl⟩:=mF.1 ((jG _).sub q hq);obtain⟨y',hy',rfl⟩:=zai.1 hy;obtain⟨a,ha,rfl⟩:=zai.1 hy';have f1:=zN0 h3 a ha;have f2:FP 27720 27692280 x:=by
   unfold t3l px3 at hx;simp only[zad,zaR,or_false] at hx;unfold trl at ht3;rcases hx with rfl | rfl | rfl
   ·exact ht3 _ (by simp)
   ·exact ht3 _ (by simp)
   ·exact ht3 _ (by simp)
  exact⟨f2.1.add f1.1.neg,f2.2.add f1.2.neg⟩
theorem fH {l:List PX}(h:aO [l]=true):qI l=true:=by
 unfold aO at h;simp at h;exact h.2
theorem yQ2 {r:List PX}{ts:List TX3}(h:tF r ts=true):Prt (piecesX r ts):=by
 obtain⟨h1,h2,h3,_,h5⟩:=tE.1 h;exact piece_w (by omega) (by omega) (fH h3) fun t ht=>fH (h5 t ht)
theorem k26pieces {r:List PX}{ts:List TX3}(h:tF r ts=true):CTy prog 34 [sv (pcx r),sv (sl 18 (ts.map trx))] (sv (sl 1 ((piecesX r ts).map (pcc 1)))):=by
 obtain⟨h1,h2,h3,_,h5⟩:=tE.1 h;have hP:=yQ2 h;exact jY (yI (k20pieces (n:=1) (m:=1) (l:=r.map px) (ts:=ts.map px3) (by omega) (by omega) (by rw[zau];omega) (by rw[zau];omega)) (fs1 (pcx_n (eO (fH h3))) (fs1 (trx_n fun t ht=>eO (fH (h5 t ht))) fs0))) (yG7 fun l hl q hq=>lE (hP.fp l hl q hq))
theorem prt0:Prt []:=⟨zaE _,fun l hl=>by cases hl⟩
instance:Z1 prog 4 (.bool false):=⟨_,sz4,by decide,rfl⟩
theorem wk_n:(modM []).cs.length=9:=wk_cel
theorem ix_p (a:Int){m:Nat}(hn:0<m):∃ k:Nat,((a.tmod (m:Int))+(m:Int)).tmod (m:Int)=(k:Int)∧k<m ∧ -(m:Int)<a.tmod (m:Int)∧a.tmod (m:Int)<m:=by
 have h1:a.tmod m<m:=Int.tmod_lt_of_pos a (by omega);have h2:-(m:Int)<a.tmod m:=Int.lt_tmod_of_pos a (by omega);have h3:((a.tmod (m:Int))+(m:Int)).tmod (m:Int)=((a.tmod (m:Int))+(m:Int))%(m:Int):=Int.tmod_eq_emod_of_nonneg (by omega);have h4:=Int.emod_nonneg ((a.tmod (m:Int))+(m:Int)) (show (m:Int)≠0 by omega);have h5:=Int.emod_lt_of_pos ((a.tmod (m:Int))+(m:Int)) (show (0:Int)<m by omega);exact⟨_,h3.trans (Int.toNat_of_nonneg h4).symm,by omega,h2,h1⟩
theorem lL {e:List Rat}{r:Nat}{x:Rat}:cloY e (2*r) x↔x=e.getD r 0:=by unfold cloY;rw[if_pos (by omega),show 2*r/2=r by omega]
theorem oB {e:List Rat}{r:Nat}{x:Rat}:cloY e (2*r+1) x↔e.getD r 0≤x∧x≤e.getD (r+1) 0:=by unfold cloY;rw[if_neg (by omega),show (2*r+1)/2=r by omega]
section
variable {ls : zF} (hls : ∀ l ∈ ls, ∃ m, l = hullF m)
include hls
omit hls in
end
section
variable {ls : zF}
theorem yc_aff {c r:Nat}(mc:c%2=1)(hr:r<ynM ls c)(hl:(xsM ls).getD (c/2) 0<(xsM ls).getD (c/2+1) 0)(x z t:Rat):(ycM ls c (x+(z-x)*t)).getD r 0=(ycM ls c x).getD r 0+((ycM ls c z).getD r 0-(ycM ls c x).getD r 0)*t:=by
 have hr':r<(lvM ls (c/2)).length:=by unfold ynM at hr;rw[if_neg (by omega)] at hr;exact hr
 have e:∀ x,(ycM ls c x).getD r 0=yU ((lvM ls (c/2)).getD r (0,0)) (gC ((xsM ls).getD (c/2) 0) ((xsM ls).getD (c/2+1) 0) x):=fun x=>by
  unfold ycM;rw[if_neg (by omega),qD hr']
 rw[e,e,e];unfold yU gC;rw[if_pos hl,if_pos hl,if_pos hl,zcj,zcj,zcj];generalize (lvM ls (c/2)).getD r (0,0)=a;generalize ((xsM ls).getD (c/2+1) 0-(xsM ls).getD (c/2) 0)⁻¹=v;generalize (xsM ls).getD (c/2) 0=lo;grind
variable (hls : ∀ l ∈ ls, ∃ m, l = hullF m)
include hls
end
theorem fa3 {τ σ ρ:PV}{M:Nat→Prop}{w:World}{vs:List Value}(h:Fa [τ,σ,ρ] M w vs):∃ v u x,vs=[v,u,x]∧τ.p M w v∧σ.p M w u∧ρ.p M w x:=by
 obtain⟨v,us,e,h1,h2⟩:=h;obtain⟨u,x,e3,h4,h5⟩:=fa2 h2;exact⟨v,u,x,by rw[e,e3],h1,h4,h5⟩
theorem plen_at {a b:P2}{t:Rat}{A T:Nat}(ha:plen a A)(hb:plen b A)(ht:rlen t T):plen (atP a b t) (3*A+T+2) :=
 ⟨zM (xN ha.x (jL (kW hb.x ha.x) ht)) (by omega),zM (xN ha.y (jL (kW hb.y ha.y) ht)) (by omega)⟩
theorem w8atN {a b:P2}{t:Rat}{n m N:Nat}(hn:n≤66)(hm:m≤66)(hp:plen (atP a b t) N):CTy prog 47 [ag (ptq n a),ag (ptq n b),ag (rtq m t)] (ag (ptc N (atP a b t))):=by
 refine fw [.cell 6 39] func47 fun X=>?_;iterate 5 refine u ?_
 refine u fun b6=>?_;iterate 2 refine u ?_
 refine zK 7 mixed rfl rfl ?_;repeat refine u ?_
 refine zC rfl rfl (pW (by omega) (by omega)) ?_;repeat refine u ?_
 refine zC rfl rfl (k8scale (by omega) (by omega)) ?_;refine zC rfl rfl (yK2 (by omega) (by omega)) ?_;repeat refine u ?_
 refine zD 0 rfl rfl ?_;repeat refine u ?_
 refine⟨[_],zL 0 rfl rs0,yC ?_⟩;exact fun M w v ⟨us,e1,x,y,e2,⟨s,a,d,k1,g1⟩,z,o,e3,⟨t,b,f,k2,g2⟩,e4⟩=>⟨us,e1,x,y,e2,⟨s,a,d,k1,g1.relen hp.x⟩,z,o,e3,⟨t,b,f,k2,g2.relen hp.y⟩,e4⟩
theorem k8atN {Ψ Φ Ξ:PV}{a b:P2}{t:Rat}{n m:Nat}[h:QP Ψ n a][k:QP Φ n b][l:QR Ξ m t](hn:n≤66)(hm:m≤66):CTy prog 47 [Ψ,Φ,Ξ] (ag (ptc (3*n+m+6) (atP a b t))) :=
 ⟨(bo func47),fun M w vs hM hT hv=>by
  obtain⟨v,u,z,_,h1,h2,h3⟩:=fa3 hv;obtain⟨_,_,_,_,_,_,_,g1⟩:=h.h h1;obtain⟨_,_,_,_,_,_,_,g2⟩:=k.h h2;obtain⟨_,_,_,_,g3⟩:=l.h h3;have hp:=plen_at (A:=n+1) (T:=m+1) ⟨g1.x.rlen,g1.y.rlen⟩ ⟨g2.x.rlen,g2.y.rlen⟩ g3.rlen;exact(w8atN hn hm (N:=3*n+m+6) ⟨zM hp.x (by omega),zM hp.y (by omega)⟩).run M w vs hM hT ((fs1 qp_q (fs1 qp_q (fs1 qr_q fs0))) _ _ _ hv)⟩
theorem k24fewtris {ts:List TX3}(h2:ts.length≤2):CTy prog 120 [sv (sl 18 (ts.map trx))] (exP (.bool (ts.all fun t=>aO [trl t]))):=by
 refine fw [.tmp 2] func120 fun X=>?_;repeat refine u ?_
 refine lp (σ:=Nat) [0] (fun i=>[(3,True,zJ i)]) (fun i=>[]) (fun i=>i≤ts.length∧∀ t∈ts.take i,aO [trl t]=true) (fun i=>ts.length-i) (0) (⟨by omega,by simp⟩) fun i hJ Y _=>?_;obtain⟨hi,hs⟩:=hJ;repeat refine u ?_
 refine tp (fun c0=>?_) fun c0=>?_;repeat refine u ?_
 refine zB rfl rfl zM5 ?_;repeat refine u ?_
 refine zB rfl rfl (yK8 (ls:=[trl (ts.getD i Df.d)])) ?_;repeat refine u ?_
 refine tp (fun c1=>?_) fun c1=>?_;repeat refine u ?_
 refine e ?_;refine psb ?_;rotate_left;repeat refine u ?_
 rotate_left;repeat refine u ?_
 refine e ?_;refine psb ?_;rotate_left
 ·refine(zcL.2 fun h=>c1 ?_).symm;exact zaC.1 h _ (xI (by omega))
 ·refine nxt (i+1) ?_;refine⟨by omega,fun t ht=>?_⟩;rw[(zT (Df.d:TX3) (show i<ts.length by omega)).1] at ht;rcases zae.1 ht with h | h
  ·exact hs t h
  ·rw[zaj.1 h];exact Classical.not_not.1 c1
 ·rw[zaz (by omega)] at hs;exact(zaC.2 hs).symm
def fewL (r:List PX)(ts:List TX3):Bool:=decide (r.length≤4)&&decide (ts.length≤2)&&aO [r] && !rA ts && !gr18 r&&ts.all fun t=>aO [trl t]
theorem yA0 {r:List PX}{ts:List TX3}(h:fewL r ts=true):tF r ts=true:=by
 unfold fewL at h;unfold tF;simp only[zap] at h ⊢;exact⟨h.1.1,h.2⟩
theorem k24fewL {r:List PX}{ts:List TX3}:CTy prog 49 [sv (pcx r),sv (sl 18 (ts.map trx))] (exP (.bool (fewL r ts))):=by
 refine fw [.tmp 4] func49 fun X=>?_;repeat refine u ?_
 refine t1g rfl rfl (oca rfl rfl fun _=>yK8 (ls:=[r])) ?_;repeat refine u ?_
 refine t1g rfl rfl (oca rfl rfl fun g=>kgtris) ?_;repeat refine u ?_
 refine t1g rfl rfl (oca rfl rfl fun g=>kg18) ?_;repeat refine u ?_
 refine t1g rfl rfl (oca rfl rfl fun g=>k24fewtris (by(simp at g;omega))) ?_;repeat refine u ?_
 refine e ?_;refine psb ?_;unfold fewL;congr 5
 ·exact decide_eq_decide.2 (by omega)
 ·exact decide_eq_decide.2 (by omega)
def isCl (k a r:Int)(c:CL):Bool:=decide (((c.1:Nat):Int)=k)&&decide (((c.2.1:Nat):Int)=a)&&decide (((c.2.2.1:Nat):Int)=r)
theorem knumf {K:Nat}{c:CL}{k a r:Int}:CTy prog 128 [ag (celT K c),pa (xc (.int .i8 k)),pa (xc (.int .i64 a)),pa (xc (.int .i64 r))] (exP (.bool (isCl k a r c))):=by
 refine fw [.tmp 5] func128 fun X=>?_;repeat refine u ?_
 exact e
def numZ (cs:List CL)(k a r z:Int):Prop:=z = -1∧(∀ j,j<cs.length→isCl k a r (cs.getD j Df.d)=false) ∨ ∃ i:Nat,z=i∧i<cs.length∧isCl k a r (cs.getD i Df.d)=true∧∀ j,j<i→isCl k a r (cs.getD j Df.d)=false
theorem kindexf {K:Nat}{cs:List CL}{k a r z:Int}(hl:cs.length≤100000000)(hz:numZ cs k a r z):CTy prog 127 [sv (sl 9 (cs.map (celT K))),fn 128 [pa (xc (.int .i8 k)),pa (xc (.int .i64 a)),pa (xc (.int .i64 r))]] (exP (.int .i64 z)):=by
 refine fw [.tmp 4] func127 fun X=>?_;repeat refine u ?_
 refine lp (σ:=Nat) [0,1,7] (fun i=>[(8,True,zJ i)]) (fun i=>[]) (fun i=>i≤cs.length∧∀ j,j<i→isCl k a r (cs.getD j Df.d)=false) (fun i=>cs.length-i) (0) (⟨by omega,fun j h=>absurd h (by omega)⟩) fun i hJ Y _=>?_;obtain⟨hi,hs⟩:=hJ;repeat refine u ?_
 refine tp (fun c0=>?_) fun c0=>?_;repeat refine u ?_
 refine zB rfl rfl knumf ?_;repeat refine u ?_
 refine tp (fun c1=>?_) fun c1=>?_;repeat refine u ?_
 refine e ?_;refine ps_i ?_;rotate_left;repeat refine u ?_
 rotate_left;repeat refine u ?_
 refine e ?_;refine ps_i ?_;rotate_left
 ·rcases hz with⟨_,h⟩ | ⟨q,rfl,h1,h2,h3⟩
  ·exact absurd c1 (by rw[h i (by omega)];simp)
  ·rcases zcz i q with d | d | d
   ·exact absurd c1 (by rw[h3 i d];simp)
   ·rw[d]
   ·exact absurd h2 (by rw[hs q d];simp)
 ·refine⟨i+1,tes ?_ ?_ (zaa _),?_,(by omega)⟩;refine zA rfl tn;refine zA rfl (zA rfl (zA rfl tn));refine⟨by omega,fun j hj=>?_⟩;rcases zaf j i with d | d
  ·exact hs j d
  ·rw[show j=i by omega];exact zcL.2 c1
 ·rcases hz with⟨h,_⟩ | ⟨q,rfl,h1,h2,h3⟩
  ·exact h.symm
  ·exact absurd h2 (by rw[hs q (by omega)];simp)
theorem zY4 {N:Nat}{m:Mdl}{k a r z:Int}(hl:m.cs.length≤100000000)(hz:numZ m.cs k a r z):CTy prog 55 [ag (mdT N m),exP (.int .i8 k),exP (.int .i64 a),exP (.int .i64 r)] (exP (.int .i64 z)):=by
 refine fw [.tmp 8] func55 fun X=>?_;repeat refine u ?_
 refine zB rfl rfl (kindexf hl hz) ?_;repeat refine u ?_
 exact e
end Go.Proofs.YtalkinejknjidaaGreatDoor
namespace Go.SL
open Go.RowKit
def wc (k:Nat):CT where
 sz:=k
 p M w us:=us.length=k∧∀ u∈us,u.oneCell'=true
 len h:=h.1
 one h:=h.2
 mono h _:=h
theorem yF4 {k:Nat}{M:Nat→Prop}{w:World}:∀ {m:Nat} {us:List Value},us.length=m*k→(∀ u∈us,u.oneCell'=true)→stp (List.replicate m (wc k)) M w us
 | 0,us,h,_=>List.length_eq_zero_iff.1 (by simpa using h)
 | m+1,us,h,h1=>by
  rw[zaV,zbn] at h;exact⟨us.take k,us.drop k,(zbb k us).symm,⟨by rw[zaD];omega,fun u hu=>h1 u (zbc hu)⟩,yF4 (by rw[zaW];omega) fun u hu=>h1 u (zbC hu)⟩
theorem run_append_make {P:Program}{w:World}(t ty tz e:TypeId){sz bytes:Nat}{z:Value}(ht:P.underlying t=some (.slice e))(htz:P.underlying tz=some (.int .i64))(he:Sz P e sz bytes z)(hz:z.cells.size=sz)(hsz:0<sz)
  {m:Nat} (h0:0<m) (hm:m≤1000000) (hb:m*bytes≤140737488355328) :
  ∃ cap,(Builtin.append_ #[t,tz] ty #[.slice none 0 0,.int .i64 (m:Int)]).run P w = .ok (.slice (some ⟨w.heap.size,0,none⟩) m cap) (w.drew.alloc (.cells (Builtin.zeroCells z.cells m++Builtin.zeroCells z.cells (cap-m)) e))∧m≤cap∧cap≤maxLen:=by
 obtain⟨i,i1,i2,i3,i4⟩:=he;have h63:m≤maxLen:=by simp[maxLen];omega
 have hwr:IntKind.i64.wrap (m:Int)=(m:Int):=IntWalk.i64_in _ (by omega);have hmb:¬ (281474976710656<(m:Int)*(i.bytes:Int)):=by
  rw[i3];have:((m*bytes:Nat):Int)≤140737488355328:=by omega
  rw[zcc] at this;omega
 have hneg:¬ ((m:Int)<0):=by omega
 have hm0:¬ m=0:=by omega
 have h63':¬ (9223372036854775807<(m:Int)):=by omega
 have h48':¬ (281474976710656<Builtin.nextslicecap m 0*i.bytes):=by
  have:=growslice_fits (need:=m) (old:=0) (by omega) (show m*i.bytes≤140737488355328 by rw[i3];omega);omega
 have hfo:(Builtin.firstCells i.size 0 (Value.slice none 0 0)).run P w.drew = .ok #[] w.drew:=rfl;have hmz:¬ (m*i.size=0):=Nat.ne_of_gt (Nat.mul_pos h0 (by omega));refine⟨grownCap w m 0 e,?_,grownCap_ge w m 0 e,grownCap_le_maxLen w m 0 e h63⟩;simp[Builtin.append_,run_underlying ht,run_underlying htz,sizeOf,typeInfo,zeroValue,i1,i4,asInt,asIntOf,hwr,hmb,hneg,h63',h48',hm0,hmz,Question.forced,hfo,newRow,grownCap]
theorem zero_mem {cs:Array Value}{n:Nat}{u:Value}(h:u∈(Builtin.zeroCells cs n).toList):u∈cs.toList:=by
 unfold Builtin.zeroCells at h;rw[Array.toList_map,zai] at h;obtain⟨i,hi,rfl⟩:=h;simp only[Array.toList_range,zbu] at hi;have h0:0<cs.size:=zaX fun e=>by rw[e] at hi;simp at hi
 have hlt:=zaI i h0;rw[getElem!_pos cs _ hlt];exact Array.getElem_mem_toList hlt
section
variable {P : Program} {r : Option Nat} {N : Nat} {X : Cx} {K : TK} {Γ : TE} {S : List Ow} {ops : Array Oper} {M : Nat → Prop} {p q qx qy : Prop} {Ψx Ψy : PV} {d : Nat} {x y : Operand} {t tz t' : TypeId} {pos : String} {af : Array Edge} {l : List Oper}
variable {ty : TypeId} {k bytes : Nat} {a : Int}
theorem yQ8 (hx:tv Γ x=some (qx,exP (.slice none 0 0)))[Im p qx][ht:TSl P t ty k bytes]:Ob P r N ops M S p ⟨some d,.call ⟨.builtin .cap,#[x],#[t]⟩,t',pos,af,none⟩ Γ (exP (.int .i64 0)) :=
 ob1 hx (by simp[Op.operands,Call.operands]) fun D E w u hN hg e1 h1=>by
  obtain rfl:u=_:=h1;refine yB hN (by intro c hc;cases hc) (fun ac ha=>?_) (fin rfl);have e2:(Builtin.cap_ #[t] t' #[.slice none 0 0]).run P w = .ok (.int .i64 0) w:=by
   simp[Builtin.cap_,run_underlying ht.u,Result.andThen,goInt]
  simp only[execOp,resolve,invoke,builtin,Sem.run_bind,Sem.run_pure,Result.andThen,zbL,zaH,zbg,ha.ev e1];rw[e2]
theorem osl00 (hx:tv Γ x=some (qx,exP (.slice none 0 0)))(hy:tv Γ y=some (qy,Ψy))[Im p qx][Im p qy][ht:TSl P t ty k bytes][hv:VI Ψy .i64 a](ha:a=0):Ob P r N ops M S p ⟨some d,.slice t x none (some y) none,t',pos,af,none⟩ Γ (exP (.slice none 0 0)):=fun D E w d' hd hN hg hp hT=>by
 obtain rfl:=Option.some.inj hd;obtain⟨u,e1,g1⟩:=yL hT hx hp (by simp[Op.operands]);obtain rfl:u=_:=g1;obtain⟨u2,e2,g2⟩:=yL hT hy hp (by simp[Op.operands]);rw[hv.h g2,ha] at e2;obtain⟨z,hz,_⟩:=ht.s;exact qS 0 0 0 hN ht.u hz e1 rfl ⟨_,e2⟩ rfl (zab _) (zab _) (zab _) (fin rfl)
theorem tapM {z:Value}(m i:Nat)(hi:S[i]? = some (.row (.slice none 0 0) ty k []))(hx:tv Γ x=some (qx,exP (.slice none 0 0)))(hy:tv Γ y=some (qy,Ψy))[Tr qx][Tr qy][ht:TSl P t ty k bytes][hv:VI Ψy .i64 a][hzz:TZ P ty z](htz:P.underlying tz=some (.int .i64))(hb:Nat.ble bytes 1000=true)(ha:a=(m:Int))(h0:0<m)(hn:m≤1000000)
  (h:∀ v',TO P r N ops X K l ((d,True,exP v')::Γ) (S.set i (.row v' ty k (List.replicate m (wc k))))):TO P r N ops X K (⟨some d,.call ⟨.builtin .append,#[x,y],#[t,tz]⟩,t',pos,af,none⟩::l) Γ S:=fun hN D E w hs=>by
 unfold okN at hN;simp only[zaY,zap] at hN;obtain⟨u,e1,k1⟩:=gU hs hx;obtain rfl:u=_:=k1;obtain⟨u2,e2,k2⟩:=gU hs hy;rw[hv.h k2,ha] at e2;obtain⟨z',hz,hzc⟩:=ht.s;obtain⟨sz2,by2,hz2⟩:=hzz.s;obtain rfl:z'=z:=by
  obtain⟨i,i1,i2,i3,i4⟩:=hz;obtain⟨j,j1,j2,j3,j4⟩:=hz2;rw[i1] at j1;obtain rfl:=Option.some.inj j1;exact Option.some.inj (i4.symm.trans j4)
 have hone:∀ u∈z'.cells.toList,u.oneCell'=true:=zaC.1 hzz.o;obtain⟨cap,hr,hc1,hc2⟩:=run_append_make (P:=P) (w:=w) t t' tz ty ht.u htz hz hzc (zaX (zby ht.n)) h0 hn (zac (zaT hn (zbY hb)) (by omega));have hsz:(Builtin.zeroCells z'.cells m).size=m*k:=by rw[size_zeroCells,hzc]
 refine yB (w':=w.drew.alloc (.cells (Builtin.zeroCells z'.cells m++Builtin.zeroCells z'.cells (cap-m)) ty)) (v:=.slice (some ⟨w.heap.size,0,none⟩) m cap) hN.1 (by intro c hc;cases hc) (fun ac ha=>?_) ?_
 ·simp only[execOp,resolve,invoke,builtin,Sem.run_bind,Sem.run_pure,Result.andThen,zbL,zaH,zbg,ha.ev e1,ha.ev e2];rw[hr]
 ·have h6:=hs.setr (w':=w.drew.alloc (.cells (Builtin.zeroCells z'.cells m++Builtin.zeroCells z'.cells (cap-m)) ty)) (v':=.slice (some ⟨w.heap.size,0,none⟩) m cap) (l':=List.replicate m (wc k)) (us:=(Builtin.zeroCells z'.cells m).toList) hi ⟨⟨rfl,rfl,rfl,by simp,fun k hk _=>heap_alloc_old w.drew _ k hk⟩,zbt _⟩ ?_ (.inr rfl) (yF4 (by rw[zcF,hsz]) fun u hu=>hone u (zero_mem hu)) (fun c hc=>by rw[zcW hc];rfl) (fun b hb=>by rw[← Option.some.inj (show some w.heap.size=some b from hb)];simp)
  ·exact h _ hN.2 D _ _ (h6.put (xJ _) (fun _=>rfl) (fun c=>absurd trivial c))
  ·rw[zbB];refine⟨by rw[zcF,hsz],.inr ⟨w.heap.size,_,_,rfl,zaE _,heap_alloc_new w.drew _,hc1,hc2,?_,?_⟩⟩
   ·simp only[Array.size_append,size_zeroCells,hzc,← zaV];congr 1;omega
   ·rw[Array.toList_append,← hsz,← zcF];exact zcC
theorem oivA {len sz j:Nat}{e:TypeId}{ki:IntKind}{ix:Operand}{Ψi:PV}{qi:Prop}{cs:List CT}{c:CT}(hx:tv Γ x=some (qx,ag (st cs)))(hy:tv Γ ix=some (qi,Ψi))(ht:P.underlying t=some (.array len e))[Im p qx][Im p qi][hv:VI Ψi ki a][he:TLd P e true sz](hj:Nat.blt j len=true)(hc:dD cs (j*sz)=some c)(hs:Nat.beq c.sz sz=true)(ha:p→a=(j:Int)) :
  Ob P r N ops M S p ⟨some d,.index t x ix,t',pos,af,none⟩ Γ (ag c):=fun D E w d' hd hN hg hp hT=>by
 obtain rfl:=Option.some.inj hd;obtain⟨u,e1,us,rfl,g1⟩:=yL hT hx hp (by simp[Op.operands]);obtain⟨u2,e2,g2⟩:=yL hT hy hp (by simp[Op.operands]);rw[hv.h g2,ha hp] at e2;obtain⟨⟨bytes,z,hz⟩,hf⟩:=he;have hcs:=zak hs;subst hcs;have h2:=gT g1 hc;have h3:=c.len h2;have hj':j<len:=by simpa [Nat.blt_eq] using hj
 have h4:j*c.sz+c.sz≤us.length∨c.sz=0:=by
  simp only[zaD,zaW] at h3;omega
 refine yB hN (by intro c hc;cases hc) (fun ac ha=>?_) (fin ⟨_,rfl,h2⟩);have e3:(Instr.index t (.agg us.toArray) (.int ki (j:Int))).run P w = .ok (.agg ((us.drop (j*c.sz)).take c.sz).toArray) w:=by
  have e4:=hf w;simp[Instr.index,asIntOf,run_underlying ht,Result.andThen,xM hz,hj',part,e4];all_goals (try omega)
 simp only[execOp,ha.ev e1,ha.ev e2,Sem.run_bind,e3,Result.andThen];rfl
end
end Go.SL
namespace Go.Proofs.YtalkinejknjidaaGreatDoor
open Go.SL Go.RowKit Go.Proofs Tryz
theorem kgrowP {n:Nat}(hn:n≤100000):CTo prog 270 [exP (.slice none 0 0),zJ n] [] (fun r So=>∃ v,r=exP v∧So=[.row v 39 6 []]):=by
 refine fwo [.tmp 4] func270 fun X=>?_;repeat refine u ?_
 refine tp (fun c0=>(by omega)) fun c0=>?_;repeat refine u ?_
 refine zA1 (yQ8 rfl) ?_;repeat refine u ?_
 refine zA1 (olx rfl) ?_;repeat refine u ?_
 refine tp (fun c1=>?_) fun c1=>?_;repeat refine u ?_
 refine zA1 (yQ8 rfl) ?_;refine zA1 (osl00 rfl rfl rfl) ?_;repeat refine u ?_
 refine zO (jH 39 6) (tapM n 0 rfl rfl rfl underlying3 rfl (by omega) (by omega) (by omega) fun v=>?_);repeat refine u ?_
 refine zA1 (olx rfl) (tsh 0 0 rfl rfl rfl rfl (by omega) fun v=>?_);repeat refine u ?_
 exact er ⟨_,rfl,rfl⟩;refine t_ts (jH 39 6) ?_;repeat refine u ?_
 exact er ⟨_,rfl,rfl⟩
theorem tD {α:Type}{L:List (List α)}{i:Nat}{d:List α}(h:i<L.length):(L.take (i+1)).flatten=(L.take i).flatten++L.getD i d:=by
 rw[(zT d h).1,zcb];simp
theorem nY {α:Type}{L:List (List α)}(i:Nat):(L.take i).flatten.length≤L.flatten.length:=by
 have e:L.flatten=(L.take i).flatten++(L.drop i).flatten:=by rw[← zcb,zbb]
 rw[e,zal];omega
theorem zY9 {ls:zF}{n:Nat}(h1:ls.length≤100000)(h2:ls.flatten.length≤100000):CTy prog 197 [sv (sl 1 (ls.map (pcc n)))] (sv (sl 6 (ls.flatten.map (ptc n)))):=by
 refine fw [.tmp 2] func197 fun X=>?_;repeat refine u ?_
 refine lp (σ:=Nat) [0,2,9,10] (fun i=>[(3,True,exP (.int .i64 (((ls.take i).flatten.length:Nat):Int))),(11,True,zJ i)]) (fun i=>[]) (fun i=>i≤ls.length) (fun i=>ls.length-i) (0) ((by omega)) fun i hJ Y _=>?_;have f1:=nY (L:=ls) i;have f2:=nY (L:=ls) (i+1);have f3:i<ls.length→(ls.take (i+1)).flatten.length=(ls.take i).flatten.length+(ls.getD i Df.d).length:=fun h=>by rw[tD (d:=Df.d) h,zal]
 repeat refine u ?_
 refine tp (fun c0=>?_) fun c0=>?_;repeat refine u ?_
 refine tp (fun c1=>(by omega)) fun c1=>?_;repeat refine u ?_
 rotate_left;repeat refine u ?_
 rotate_left
 ·refine⟨i+1,tes ?_ ?_ (zaa _),(by omega),(by omega)⟩;refine tc rfl (ps_i (by omega)) (zA rfl tn);refine zA rfl (zA rfl (zA rfl (zA rfl tn)))
 obtain rfl:i=ls.length:=by omega
 rw[zaG];refine tco [] rfl rfl rfl (kgrowP (n:=ls.flatten.length) (by omega)) ?_;rintro _ _ ⟨v,rfl,rfl⟩;repeat refine u ?_
 refine lp (σ:=Nat×Value) [2,25,26] (fun s=>[(6,True,exP s.2),(27,True,zJ s.1)]) (fun s=>[.row s.2 39 6 ((ls.take s.1).flatten.map (ptc n))]) (fun s=>s.1≤ls.length) (fun s=>ls.length-s.1) ((0,v)) ((by simp)) fun s hJ Y _=>?_;obtain⟨i,v⟩:=s;dsimp only at hJ ⊢;have f1:=nY (L:=ls) i;have f2:=nY (L:=ls) (i+1);have f3:i<ls.length→(ls.take (i+1)).flatten=(ls.take i).flatten++ls.getD i Df.d:=fun h=>tD h;repeat refine u ?_
 refine tp (fun c1=>?_) fun c1=>?_;repeat refine u ?_
 refine tap 0 rfl rfl rfl ?_ rfl fun r33=>?_;rotate_left;repeat refine u ?_
 rotate_left;iterate 7 refine u ?_
 refine t_ts (yW (s:=2) 0 rfl rfl) ?_;repeat refine u ?_
 refine e ?_;rotate_left
 ·have:=congrArg List.length (f3 (by omega));rw[zal] at this;rw[zau,zau];omega
 ·refine⟨(i+1,r33),tes ?_ ?_ ?_,(by omega),(by omega)⟩;refine zA rfl (zA rfl tn);refine zA rfl (zA rfl (zA rfl tn));rw[f3 (by omega),zay];exact zaa _
 ·rw[zaz (by omega)];exact PSub.refl _
instance:TAr prog 305 2 3:=⟨_,_,_,_,_,underlying305,yE9,sz305,rfl⟩
def bxG (n:Nat)(lx ly hx hy:Rat)(p:P2):Nat→List CT
 | 0=>[rtc n lx,rtc n ly,rtc n hx,rtc n hy]
 | 1=>[rtc n (if p.1<lx then p.1 else lx),rtc n ly,rtc n (if hx<p.1 then p.1 else hx),rtc n hy]
 | _=>[rtc n (if p.1<lx then p.1 else lx),rtc n (if p.2<ly then p.2 else ly),rtc n (if hx<p.1 then p.1 else hx),rtc n (if hy<p.2 then p.2 else hy)]
theorem kgrowB {b:Nat}{lx ly hx hy:Rat}{p:P2}{n:Nat}(hn:n≤40000):CTo prog 269 [zU b 0,ag (ptc n p)] [.blk b 41 (bxG n lx ly hx hy p 0)] (fun r So=>r=tu []∧So=[.blk b 41 (bxG n lx ly hx hy p 2)]):=by
 refine fwo [] func269 fun X=>?_;iterate 2 refine u ?_
 refine tbx rfl fun b3=>?_;iterate 2 refine u ?_
 refine zK 22 mixed rfl rfl ?_;repeat refine u ?_
 refine d1 (oba rfl rfl rfl) ?_;repeat refine u ?_
 refine lp (σ:=Nat) [26] (fun i=>[(27,True,zJ i)]) (fun i=>[.blk b3 39 [rtc n p.1,rtc n p.2],.blk b 41 (bxG n lx ly hx hy p i)]) (fun i=>i≤2) (fun i=>2-i) (0) ((by omega)) fun i hJ Y _=>?_;have hi:i=0∨i=1∨i=2:=by omega
 rcases hi with rfl | rfl | rfl
 ·dsimp only[bxG];repeat refine u ?_
  refine tp (fun c0=>?_) fun c0=>(by omega);repeat refine u ?_
  refine zA1 (oivA (j:=0) rfl rfl underlying305 rfl rfl rfl (fun _=>rfl)) (u fun b5=>?_);refine zD 0 rfl rfl (zO (zY (s:=5) 0 rfl rfl) ?_);iterate 3 refine u ?_
  refine zK 10 mixed rfl rfl ?_;repeat refine u ?_
  refine d1 (zG 0 rfl) ?_;repeat refine u ?_
  refine d1 (zG 1 rfl) (zC rfl rfl (gD (by omega) (by omega)) ?_);repeat refine u ?_
  refine tp (fun c1=>?_) fun c1=>?_;refine zK 7 mixed rfl rfl ?_;repeat refine u ?_
  refine d1 (zG 0 rfl) ?_;repeat refine u ?_
  refine zD 1 rfl rfl ?_;iterate 2 refine u ?_
  refine zK 10 mixed rfl rfl ?_;repeat refine u ?_
  refine d1 (zG 0 rfl) ?_;repeat refine u ?_
  refine d1 (zG 1 rfl) (zC rfl rfl (gD (by omega) (by omega)) ?_);repeat refine u ?_
  refine tp (fun c2=>?_) fun c2=>?_;refine zK 7 mixed rfl rfl ?_;repeat refine u ?_
  refine d1 (zG 0 rfl) ?_;repeat refine u ?_
  refine zD 1 rfl rfl ?_;repeat refine u ?_
  rotate_left;repeat refine u ?_
  rotate_left;iterate 2 refine u ?_
  refine zK 10 mixed rfl rfl ?_;repeat refine u ?_
  refine d1 (zG 0 rfl) ?_;repeat refine u ?_
  refine d1 (zG 1 rfl) (zC rfl rfl (gD (by omega) (by omega)) ?_);repeat refine u ?_
  refine tp (fun c3=>?_) fun c3=>?_;refine zK 7 mixed rfl rfl ?_;repeat refine u ?_
  refine d1 (zG 0 rfl) ?_;repeat refine u ?_
  refine zD 1 rfl rfl ?_;repeat refine u ?_
  rotate_left;repeat refine u ?_
  rotate_left
  ·refine⟨1,tes ?_ ?_ ?_,(by omega),(by omega)⟩;refine zA rfl tn;refine zA rfl tn;rw[if_pos (yO.1 c1),if_pos (gE.1 c2)];exact zaa _
  ·refine nxt 1 (by omega) (hS:=?_);rw[if_pos (yO.1 c1),if_neg (mt gE.2 c2)];exact zaa _
  ·refine nxt 1 (by omega) (hS:=?_);rw[if_neg (mt yO.2 c1),if_pos (gE.1 c3)];exact zaa _
  ·refine nxt 1 (by omega) (hS:=?_);rw[if_neg (mt yO.2 c1),if_neg (mt gE.2 c3)];exact zaa _
 ·dsimp only[bxG];repeat refine u ?_
  refine tp (fun c0=>?_) fun c0=>(by omega);repeat refine u ?_
  refine zA1 (oivA (j:=1) rfl rfl underlying305 rfl rfl rfl (fun _=>rfl)) (u fun b5=>?_);refine zD 0 rfl rfl (zO (zY (s:=5) 0 rfl rfl) ?_);iterate 3 refine u ?_
  refine zK 10 mixed rfl rfl ?_;repeat refine u ?_
  refine d1 (zG 0 rfl) ?_;repeat refine u ?_
  refine d1 (zG 1 rfl) (zC rfl rfl (gD (by omega) (by omega)) ?_);repeat refine u ?_
  refine tp (fun c1=>?_) fun c1=>?_;refine zK 7 mixed rfl rfl ?_;repeat refine u ?_
  refine d1 (zG 0 rfl) ?_;repeat refine u ?_
  refine zD 1 rfl rfl ?_;iterate 2 refine u ?_
  refine zK 10 mixed rfl rfl ?_;repeat refine u ?_
  refine d1 (zG 0 rfl) ?_;repeat refine u ?_
  refine d1 (zG 1 rfl) (zC rfl rfl (gD (by omega) (by omega)) ?_);repeat refine u ?_
  refine tp (fun c2=>?_) fun c2=>?_;refine zK 7 mixed rfl rfl ?_;repeat refine u ?_
  refine d1 (zG 0 rfl) ?_;repeat refine u ?_
  refine zD 1 rfl rfl ?_;repeat refine u ?_
  rotate_left;repeat refine u ?_
  rotate_left;iterate 2 refine u ?_
  refine zK 10 mixed rfl rfl ?_;repeat refine u ?_
  refine d1 (zG 0 rfl) ?_;repeat refine u ?_
  refine d1 (zG 1 rfl) (zC rfl rfl (gD (by omega) (by omega)) ?_);repeat refine u ?_
  refine tp (fun c3=>?_) fun c3=>?_;refine zK 7 mixed rfl rfl ?_;repeat refine u ?_
  refine d1 (zG 0 rfl) ?_;repeat refine u ?_
  refine zD 1 rfl rfl ?_;repeat refine u ?_
  rotate_left;repeat refine u ?_
  rotate_left
  ·refine⟨2,tes ?_ ?_ ?_,(by omega),(by omega)⟩;refine zA rfl tn;refine zA rfl tn;rw[if_pos (yO.1 c1),if_pos (gE.1 c2)];exact zaa _
  ·refine nxt 2 (by omega) (hS:=?_);rw[if_pos (yO.1 c1),if_neg (mt gE.2 c2)];exact zaa _
  ·refine nxt 2 (by omega) (hS:=?_);rw[if_neg (mt yO.2 c1),if_pos (gE.1 c3)];exact zaa _
  ·refine nxt 2 (by omega) (hS:=?_);rw[if_neg (mt yO.2 c1),if_neg (mt gE.2 c3)];exact zaa _
 ·dsimp only[bxG];repeat refine u ?_
  refine tp (fun c0=>(by omega)) fun c0=>?_;repeat refine u ?_
  exact⟨[],tu [],_,rs0,List.sublist_cons_self _ _,⟨rfl,rfl⟩,nB⟩
theorem kgrowb {b:Nat}{x:BX}{p:P2}{n:Nat}(hn:n≤40000):CTo prog 269 [zU b 0,ag (ptc n p)] [.blk b 41 [rtc n x.1.1,rtc n x.1.2,rtc n x.2.1,rtc n x.2.2]] (fun r So=>r=tu []∧So=[.blk b 41 [rtc n (boxS x p).1.1,rtc n (boxS x p).1.2,rtc n (boxS x p).2.1,rtc n (boxS x p).2.2]]):=kgrowB hn
theorem kbox {l:List P2}{n:Nat}(hn:n≤300)(hl:l.length≤100000):CTy prog 196 [sv (sl 6 (l.map (ptc n)))] (tu [ag (st [ptc (n+2) (boxF l).1,ptc (n+2) (boxF l).2]),exP (.bool (decide (l≠[])))]):=by
 refine fw [.cell 2 41,.tmp 3] func196 fun X=>?_;iterate 2 refine u ?_
 refine u fun b2=>?_;repeat refine u ?_
 refine zB rfl rfl (iB (n:=n) (by omega) (by omega)) ?_;repeat refine u ?_
 refine tp (fun c0=>?_) fun c0=>?_;repeat refine u ?_
 refine zB rfl rfl (kvof (by(simp;done)) (by(simp;done))) ?_;refine zB rfl rfl (kvof (by(simp;done)) (by(simp;done))) ?_;repeat refine u ?_
 refine zD 0 rfl rfl ?_;repeat refine u ?_
 refine⟨[_,_],zL 0 rfl (rst rfl rs0),bC ?_ ?_⟩;rotate_left;refine psb ?_;rotate_left;iterate 2 refine u ?_
 refine zK 7 mixed rfl rfl ?_;repeat refine u ?_
 refine zD 0 rfl rfl ?_;repeat refine u ?_
 refine zD 0 rfl rfl ?_;repeat refine u ?_
 rotate_left
 ·have h:=c0;rw[zcw.1 (show l.length=0 by omega)];exact fun M w v ⟨us,e,x,y,e1,k1,x2,y2,e2,k2,k3⟩=>⟨us,e,x,y,e1,bY (by omega) k1,x2,y2,e2,bY (by omega) k2,k3⟩
 ·rw[zcw.1 (show l.length=0 by omega)];rfl
 refine t_ts (jK (cs':=[rtc (n+1) (gp l 0).1,rtc (n+1) (gp l 0).2,rtc (n+1) (gp l 0).1,rtc (n+1) (gp l 0).2]) 0 rfl box4) ?_;have step:∀ i,i<l.length→(l.take (i+1)).foldl boxS (gp l 0,gp l 0)=boxS ((l.take i).foldl boxS (gp l 0,gp l 0)) (gp l i):=fun i hi=>by
  rw[(zT (Df.d:P2) hi).1,List.foldl_append];rfl
 refine lp (σ:=Nat×BX) [2,3,22,23] (fun s=>[(24,True,zJ s.1)]) (fun s=>[.blk b2 41 [rtc (n+1) s.2.1.1,rtc (n+1) s.2.1.2,rtc (n+1) s.2.2.1,rtc (n+1) s.2.2.2]]) (fun s=>s.1≤l.length∧s.2=(l.take s.1).foldl boxS (gp l 0,gp l 0)) (fun s=>l.length-s.1) ((0,(gp l 0,gp l 0))) ((by simp)) fun s hJ Y _=>?_;obtain⟨i,b⟩:=s;dsimp only at hJ ⊢;obtain⟨hi,hb⟩:=hJ;repeat refine u ?_
 refine tp (fun c1=>?_) fun c1=>?_;iterate 7 refine u ?_
 refine u fun b5=>?_;refine zD 0 rfl rfl (zO (zY (s:=5) 0 rfl rfl) ?_);repeat refine u ?_
 refine tcoR [0] rfl rfl rfl (kgrowb (x:=b) (p:=l.getD i Df.d) (n:=n+1) (by omega)) ?_;repeat refine u ?_
 rotate_left;rotate_left
 ·refine⟨(i+1,boxS b (l.getD i Df.d)),tes ?_ ?_ (zaa _),?_,(by omega)⟩;refine zA rfl tn;refine zA rfl (zA rfl (zA rfl (zA rfl tn)));exact⟨by simp only;omega,by rw[step i (by omega),hb];rfl⟩
 ·have e:boxF l=b:=by rw[hb,zaz (by omega)];rfl
  refine t_ts (jK (cs':=[st [ptc (n+1) b.1,ptc (n+1) b.2]]) 0 rfl box41) ?_;repeat refine u ?_
  refine zA1 (zG 0 rfl) ?_;refine zD 0 rfl rfl ?_;repeat refine u ?_
  refine⟨[_,_],zL 0 rfl (rst rfl rs0),bC ?_ ?_⟩;rotate_left;refine psb ?_;rotate_left
  ·rw[e];exact fun M w v ⟨us,e,x,y,e1,k1,x2,y2,e2,k2,k3⟩=>⟨us,e,x,y,e1,bY (by omega) k1,x2,y2,e2,bY (by omega) k2,k3⟩
  ·symm;rw[decide_eq_true_eq];exact fun c=>c0 (by rw[c];rfl)
theorem kframe {ls:zF}{n:Nat}(hn:n≤200)(hl:ls.length≤100)(h9:ls.flatten.length≤100000):CTy prog 122 [sv (sl 1 (ls.map (pcc n)))] (ag (st [ptc (2*n+10) (zQ ls).1,ptc (2*n+10) (zQ ls).2])):=by
 refine fw [.cell 2 41] func122 fun X=>?_;iterate 2 refine u ?_
 refine u fun b2=>?_;repeat refine u ?_
 refine zB rfl rfl (zY9 (n:=n) (by omega) (by omega)) ?_;refine zB rfl rfl (kbox (n:=n) (by omega) (by omega)) ?_;iterate 3 refine u ?_
 refine u fun b3=>?_;refine zD 0 rfl rfl (zO (zY (s:=3) 0 rfl rfl) ?_);repeat refine u ?_
 refine zB rfl rfl (kvof (by(simp;done)) (by(simp;done))) ?_;refine u fun b5=>?_;refine zD 0 rfl rfl (zO (zY (s:=5) 0 rfl rfl) ?_);iterate 2 refine u ?_
 refine zK 9 mixed rfl rfl ?_;repeat refine u ?_
 refine zC rfl rfl (pQ (by omega) (by omega)) ?_;repeat refine u ?_
 refine zC rfl rfl (yR5 (by omega) (by omega)) ?_;repeat refine u ?_
 refine zD 0 rfl rfl ?_;repeat refine u ?_
 refine⟨[_],zL 0 rfl rs0,yC ?_⟩;rw[zcm,zcm];exact fun M w v ⟨us,e,x,y,e1,k1,x2,y2,e2,k2,k3⟩=>⟨us,e,x,y,e1,bY (p:=(zQ ls).1) (m:=n+2+2+3) (by omega) k1,x2,y2,e2,bY (p:=(zQ ls).2) (m:=n+2+2+3) (by omega) k2,k3⟩
theorem kframeQ {ls:zF}(h:Prt ls)(h9:ls.flatten.length≤100000):CTy prog 122 [sv (sl 1 (ls.map (pcc 1)))] (ag (bxc 1 (zQ ls))):=jY (kframe (n:=1) (by omega) (by have:=h.1;omega) h9) (yN4 h.br)
theorem yH9 {a b t:Rat}(ha:0≤a)(hb:0≤b)(h0:0≤t)(h1:t≤1):0≤a+(b-a)*t:=by
 have f1:=zaF ha (show 0≤1-t by grind);have f2:=zaF hb h0;grind
theorem yB6 {ys zs ws:List Rat}{j:Nat}{u v t:Rat}(h0:0≤t)(h1:t≤1)(hw:∀ r,j/2≤r→r≤(j+1)/2→ws.getD r 0=ys.getD r 0+(zs.getD r 0-ys.getD r 0)*t)(hu:cloY ys j u)(hv:cloY zs j v):cloY ws j (u+(v-u)*t):=by
 rcases zbi j with m | m
 ·obtain⟨r,rfl⟩:∃ r,j=2*r:=⟨j/2,by omega⟩;rw[lL] at *;rw[hw r (by omega) (by omega),hu,hv]
 ·obtain⟨r,rfl⟩:∃ r,j=2*r+1:=⟨j/2,by omega⟩;rw[oB] at *;rw[hw r (by omega) (by omega),hw (r+1) (by omega) (by omega)];have g1:=yH9 (a:=u-ys.getD r 0) (b:=v-zs.getD r 0) (by grind) (by grind) h0 h1;have g2:=yH9 (a:=ys.getD (r+1) 0-u) (b:=zs.getD (r+1) 0-v) (by grind) (by grind) h0 h1;exact⟨by grind,by grind⟩
section
variable {ls : zF}
theorem yc_mix {c j:Nat}(h:inC ls c j)(x z t:Rat):∀ r,j/2≤r→r≤(j+1)/2→(ycM ls c (x+(z-x)*t)).getD r 0=(ycM ls c x).getD r 0+((ycM ls c z).getD r 0-(ycM ls c x).getD r 0)*t:=fun r h1 h2=>by
 have hc:=h.1;have hj:=h.2;rcases zbi c with m | m
 ·obtain⟨i,rfl⟩:∃ i,c=2*i:=⟨c/2,by omega⟩;rw[eG,eG,eG];grind
 ·exact yc_aff m (by omega) (uS ls (c/2) (by omega)) x z t
theorem tou_mid {c j:Nat}{p q:P2}{t:Rat}(h:inC ls c j)(hp:touC ls c j p)(hq:touC ls c j q)(h0:0≤t)(h1:t≤1):touC ls c j (atP p q t) :=
 ⟨yB6 (ys:=xsM ls) (zs:=xsM ls) h0 h1 (fun r _ _=>by grind) hp.1 hq.1,yB6 h0 h1 (yc_mix h p.1 q.1 t) hp.2 hq.2⟩
end
theorem ht_lo {lo hi:Rat}{a:P2}:yU a (gC lo hi lo)=a.1:=by
 unfold yU gC;split
 ·rw[Rat.sub_self,zcj,Rat.zero_mul,Rat.zero_mul,Rat.add_zero]
 ·rw[Rat.zero_mul,Rat.add_zero]
theorem ht_hi {lo hi:Rat}{a:P2}(h:lo<hi):yU a (gC lo hi hi)=a.2:=by
 unfold yU gC;rw[if_pos h,zcj,Rat.mul_inv_cancel _ (by grind),Rat.one_mul];grind
def clN (k:Nat):Nat:=if k=0 then 1 else if k=3 then 4 else 2
theorem yB5 {ls:zF}{c j:Nat}(h:inC ls c j):(clsM (modM ls) (2*(c%2)+j%2) (c/2) (j/2)).length=clN (2*(c%2)+j%2):=by
 obtain⟨hc,hj⟩:=h;have hd3:(Df.d:List Rat)=[]:=rfl;have hd4:(Df.d:List P2)=[]:=rfl;have hX:(modM ls).xs=xsM ls:=rfl;unfold clsM;rcases zbi c with mc | mc
 ·have hi:c/2<(xsM ls).length:=by omega
  have e1:(modM ls).wl.getD (c/2) Df.d=wlM ls (c/2):=by rw[hd3];exact lR hi
  have e2:(modM ls).wl.length=(xsM ls).length:=iI ls;have hy:ynM ls c=(wlM ls (c/2)).length:=by unfold ynM;rw[if_pos mc]
  rw[if_pos (by omega),e1,hX,if_pos ⟨hi,by omega,by omega⟩,mc];rcases zbi j with mj | mj
  ·rw[mj];rfl
  ·rw[mj];rfl
 ·have hi:c/2+1<(xsM ls).length:=by omega
  have e1:(modM ls).lv.getD (c/2) Df.d=lvM ls (c/2):=by rw[hd4];exact cH hi
  have e2:(modM ls).lv.length=(xsM ls).length-1:=fB ls;have hy:ynM ls c=(lvM ls (c/2)).length:=by unfold ynM;rw[if_neg (by omega)]
  rw[if_neg (by omega),e1,hX,if_pos ⟨by omega,hi,by omega⟩,mc];rcases zbi j with mj | mj
  ·rw[mj];rfl
  ·rw[mj];rfl
section
variable {ls : zF} (hls : ∀ l ∈ ls, ∃ m, l = hullF m)
theorem num_own {c j:Nat}(hc:inC ls c j):numZ (modM ls).cs ((cellC ls c j).1:Nat) ((cellC ls c j).2.1:Nat) ((cellC ls c j).2.2.1:Nat) ((offC ls c+j:Nat):Int):=by
 refine .inr ⟨offC ls c+j,rfl,yN2 hc,?_,fun b hb=>?_⟩
 ·rw[show (modM ls).cs.getD (offC ls c+j) Df.d=cellC ls c j from wS hc];unfold isCl;simp
 ·obtain⟨d,k,h2,rfl,e⟩:=fL (ls:=ls) (a:=b) (by have:=yN2 hc;omega);rw[show (modM ls).cs.getD (offC ls d+k) Df.d=cellC ls d k from e,zcL];intro he;unfold isCl cellC at he;simp only[zap,decide_eq_true_eq] at he;obtain⟨⟨h3,h4⟩,h5⟩:=he;have:c=d:=by omega
  subst this;have:j=k:=by omega
  subst this;omega
include hls
theorem cls_tou {c j:Nat}(h:inC ls c j){x:P2}(hx:x∈clsM (modM ls) (2*(c%2)+j%2) (c/2) (j/2)):touC ls c j x:=by
 obtain⟨hc,hj⟩:=h;have hd:(Df.d:Rat)=0:=rfl;have hd2:(Df.d:P2)=(0,0):=rfl;have hd3:(Df.d:List Rat)=[]:=rfl;have hd4:(Df.d:List P2)=[]:=rfl;have hX:(modM ls).xs=xsM ls:=rfl;rcases zbi c with mc | mc
 ·obtain⟨i,rfl⟩:∃ i,c=2*i:=⟨c/2,by omega⟩;have hi:i<(xsM ls).length:=by omega
  rw[zR8] at hj;have e1:(modM ls).wl.getD i Df.d=wlM ls i:=by rw[hd3];exact lR hi
  have e2:(modM ls).wl.length=(xsM ls).length:=iI ls;have hr:=wY ls i;unfold touC;rw[eG,lL];rcases zbi j with mj | mj
  ·obtain⟨r,rfl⟩:∃ r,j=2*r:=⟨j/2,by omega⟩;unfold clsM at hx;rw[show 2*(2*i%2)+2*r%2=0 by omega,show 2*i/2=i by omega,show 2*r/2=r by omega,if_pos (by omega),e1,hX,if_pos ⟨hi,by omega,by omega⟩,if_neg (by omega),zaj] at hx;subst hx;rw[lL];exact⟨rfl,rfl⟩
  ·obtain⟨r,rfl⟩:∃ r,j=2*r+1:=⟨j/2,by omega⟩;have hlt:=hr r (by omega);unfold clsM at hx;rw[show 2*(2*i%2)+(2*r+1)%2=1 by omega,show 2*i/2=i by omega,show (2*r+1)/2=r by omega,if_pos (by omega),e1,hX,if_pos ⟨hi,by omega,by omega⟩,if_pos rfl,hd] at hx;simp only[zad,zaR,or_false] at hx;rw[oB];rcases hx with rfl | rfl
   ·exact⟨rfl,zaJ,zaM hlt⟩
   ·exact⟨rfl,zaM hlt,zaJ⟩
 ·obtain⟨i,rfl⟩:∃ i,c=2*i+1:=⟨c/2,by omega⟩;have hi:i+1<(xsM ls).length:=by omega
  have hlt:=uS ls i hi;rw[zR9] at hj;have e1:(modM ls).lv.getD i Df.d=lvM ls i:=by rw[hd4];exact cH hi
  have e2:(modM ls).lv.length=(xsM ls).length-1:=fB ls;have hr:=(zX2 hls hi).1;have hlo:∀ r,r<(lvM ls i).length→(ycM ls (2*i+1) ((xsM ls).getD i 0)).getD r 0=((lvM ls i).getD r (0,0)).1:=fun r h=>by rw[iH,qD h,ht_lo]
  have hhi:∀ r,r<(lvM ls i).length→(ycM ls (2*i+1) ((xsM ls).getD (i+1) 0)).getD r 0=((lvM ls i).getD r (0,0)).2:=fun r h=>by rw[iH,qD h,ht_hi hlt]
  unfold touC;rw[oB];rcases zbi j with mj | mj
  ·obtain⟨r,rfl⟩:∃ r,j=2*r:=⟨j/2,by omega⟩;unfold clsM at hx;rw[show 2*((2*i+1)%2)+2*r%2=2 by omega,show (2*i+1)/2=i by omega,show 2*r/2=r by omega,if_neg (by omega),e1,hX,if_pos ⟨by omega,hi,by omega⟩,if_neg (by omega),hd,hd2] at hx;simp only[zad,zaR,or_false] at hx;rw[lL];rcases hx with rfl | rfl
   ·exact⟨⟨zaJ,zaM hlt⟩,(hlo r (by omega)).symm⟩
   ·exact⟨⟨zaM hlt,zaJ⟩,(hhi r (by omega)).symm⟩
  ·obtain⟨r,rfl⟩:∃ r,j=2*r+1:=⟨j/2,by omega⟩;have h12:=hr r (by omega);unfold clsM at hx;rw[show 2*((2*i+1)%2)+(2*r+1)%2=3 by omega,show (2*i+1)/2=i by omega,show (2*r+1)/2=r by omega,if_neg (by omega),e1,hX,if_pos ⟨by omega,hi,by omega⟩,if_pos rfl,hd,hd2] at hx;simp only[zad,zaR,or_false] at hx;rw[oB];rcases hx with rfl | rfl | rfl | rfl
   ·dsimp only;rw[hlo r (by omega),hlo (r+1) (by omega)];exact⟨⟨Rat.le_refl,Rat.le_of_lt hlt⟩,Rat.le_refl,h12.1⟩
   ·dsimp only;rw[hhi r (by omega),hhi (r+1) (by omega)];exact⟨⟨Rat.le_of_lt hlt,Rat.le_refl⟩,Rat.le_refl,h12.2.1⟩
   ·dsimp only;rw[hhi r (by omega),hhi (r+1) (by omega)];exact⟨⟨Rat.le_of_lt hlt,Rat.le_refl⟩,h12.2.1,Rat.le_refl⟩
   ·dsimp only;rw[hlo r (by omega),hlo (r+1) (by omega)];exact⟨⟨Rat.le_refl,Rat.le_of_lt hlt⟩,h12.1,Rat.le_refl⟩
end
theorem zO2 {ls:zF}(h:Prt ls){k a r:Nat}(hr:1000≤r):clsM (modM ls) k a r=[]:=by
 unfold clsM;split
 ·rw[if_neg];intro c;have:=c.2.2;rw[show (modM ls).wl.getD a Df.d=wlM ls a from lR c.1] at this;have:=nK h a;omega
 ·rw[if_neg];intro c;have:=c.2.2;rw[show (modM ls).lv.getD a Df.d=lvM ls a from cH c.2.1] at this;have:=fC h a;omega
theorem num_none {ls:zF}(h:Prt ls){k a r:Int}(hr:1000≤r):numZ (modM ls).cs k a r (-1):=by
 refine .inl ⟨rfl,fun b hb=>?_⟩;obtain⟨d,j,h2,rfl,e⟩:=fL hb;rw[show (modM ls).cs.getD (offC ls d+j) Df.d=cellC ls d j from e,zcL];intro he;unfold isCl cellC at he;simp only[zap,decide_eq_true_eq] at he;have:=nJ h d;have:=h2.2;omega
theorem zX9 {Ψ Φ:PV}{p q:Rat}{n m:Nat}[h:QR Ψ n p][k:QR Φ m q](hn:n≤40000)(hm:m≤40000):CTy prog 137 [Ψ,Φ] (exP (.bool (decide (cmpR p q=0)))):=by
 rw[decide_eq_decide.2 (xK (p:=p) (q:=q))];exact wE hn hm
theorem wcompactS {v:Value}{l:List Rat}{m:Nat}(hm:m≤30000)(hl:l.length≤100000):CTo prog 205 [exP v,exP (.func (.func 137) #[] #[])] [.row v 29 3 (l.map (rtc m))] (fun ρ So=>∃ v',ρ=exP v'∧So=[.row v' 29 3 ((jF eqR 0 l l.length).map (rtc m))]):=by
 refine fwo [.tmp 4] func205 fun X=>?_;repeat refine u ?_
 refine ti (fun c0=>?_) fun c0=>?_;repeat refine u ?_
 rotate_left;repeat refine u ?_
 rotate_left
 ·have h2:=dt c0;exact⟨[_],exP v,_,rst rfl rs0,zaa _,⟨v,rfl,by rw[jV (zab _) fun i h1 h3=>by omega,zaG]⟩,yC (PSub.refl _)⟩
 have h2:=df c0;refine lp (σ:=Nat) [0,1] (fun s=>[(5,True,zJ s)]) (fun s=>[.row v 29 3 (l.map (rtc m))]) (fun s=>1≤s∧s≤l.length∧∀ i,0<i→i<s→eqR (l.getD i 0) (l.getD (i-1) 0)=false) (fun s=>l.length-s) (1) (⟨by omega,by omega,fun i h1 h3=>by omega⟩) fun s hJ Y _=>?_;obtain⟨j1,j2,j3⟩:=hJ;repeat refine u ?_
 refine ti (fun c1=>?_) fun c1=>?_;iterate 4 refine u ?_
 refine zK 11 mixed rfl rfl ?_;repeat refine u ?_
 refine d1 (oixo 0 _ rfl rfl rfl (fun _=>rfl) (fun _=>(by(have e0:=dt c1;simp;omega)))) ?_;refine d1 (oldr 0 rfl rfl (fun _=>(by(have e0:=dt c1;simp;omega))) rfl) ?_;iterate 3 refine u ?_
 refine d1 (oixo 0 (s-1) rfl rfl rfl (fun _=>(by omega)) (fun _=>(by(simp;omega)))) ?_;repeat refine u ?_
 refine zC rfl rfl (zX9 (by omega) (by omega)) ?_;repeat refine u ?_
 refine ti (fun c2=>?_) fun c2=>?_;repeat refine u ?_
 refine zA1 (osv 0 _ rfl rfl rfl (fun _=>rfl) (fun _=>(by(have e0:=df c0;have e1:=dt c1;have e2:=dt c2;simp;omega)))) ?_;repeat refine u ?_
 rotate_left;repeat refine u ?_
 rotate_left;repeat refine u ?_
 rotate_left
 ·have h3:=dt c1;refine xC (σ:=Nat×Nat×List Rat) (fun t=>[(5,True,zJ t.1),(7,True,zJ t.2.1)]) (fun t=>[.row v 29 3 (t.2.2.map (rtc m))]) (fun t=>1≤t.2.1∧s+t.2.1≤l.length∧s≤t.1∧t.1<s+t.2.1∧t.2.2.length=l.length∧t.2.2.take t.1=jF eqR 0 l (s+t.2.1)∧∀ i,s+t.2.1≤i+1→t.2.2.getD i 0=l.getD i 0) (fun t=>l.length-t.2.1) ((s,1,l)) (tk 0 rfl (tk 1 rfl (tk 6 rfl tn))) ?_ rfl (⟨by simp,by simp only;omega,by simp,by simp,rfl,cL (l:=l) (s:=s) (by omega) (by omega) j3 c2.h,fun _ _=>rfl⟩) (fun t hJ Y _=>?_);refine zA rfl (zA rfl tn);obtain⟨kk,m',l2⟩:=t;dsimp only at hJ ⊢;obtain⟨j4,j5,j6,j7,j8,j9,j10⟩:=hJ;repeat refine u ?_
  refine zA1 (olv 0 rfl rfl) ?_;repeat refine u ?_
  refine ti (fun c3=>?_) fun c3=>?_;iterate 4 refine u ?_
  refine zK 12 mixed rfl rfl ?_;repeat refine u ?_
  refine d1 (oixv 0 m' rfl rfl rfl (fun _=>(by omega)) (fun _=>(by(have e0:=dt c3;omega)))) ?_;refine d1 (oldr 0 rfl rfl (fun _=>(by(have e0:=dt c3;omega))) rfl) ?_;repeat refine u ?_
  refine d1 (oixv 0 (m'-1) rfl rfl rfl (fun _=>(by omega)) (fun _=>(by(simp;omega)))) ?_;repeat refine u ?_
  refine zC rfl rfl (zX9 (by omega) (by omega)) ?_;repeat refine u ?_
  refine ti (fun c4=>?_) fun c4=>?_;repeat refine u ?_
  refine zA1 (oixv 0 m' rfl rfl rfl (fun _=>(by omega)) (fun _=>(by(have e0:=dt c3;omega)))) ?_;refine zA1 (oldr 0 rfl rfl (fun _=>(by(have e0:=dt c3;omega))) rfl) ?_;repeat refine u ?_
  rotate_left;repeat refine u ?_
  rotate_left;repeat refine u ?_
  refine zA1 (osv 0 _ rfl rfl rfl (fun _=>rfl) (fun _=>(by(simp;omega)))) ?_;refine tclr 0 rfl rfl (by(simp;omega)) ?_;repeat refine u ?_
  refine tsh 0 _ rfl rfl rfl rfl (by(simp;omega)) fun r64=>?_;repeat refine u ?_
  rotate_left
  ·have h5:m'<l2.length-s:=by have:=dt c3;simp at this;omega
   have hd:l2.getD (s+m') 0=l.getD (s+m') 0:=j10 _ (by omega);have hd2:l2.getD (s+(m'-1)) 0=l.getD (s+m'-1) 0:=by rw[show s+(m'-1)=s+m'-1 by omega];exact j10 _ (by omega)
   have hc:¬ eqR (l.getD (s+m') 0) (l.getD (s+m'-1) 0)=true:=by rw[← hd,← hd2,Bool.not_eq_true];exact(zcu _) ▸ c4.h
   refine⟨(kk+1,m'+1,l2.set kk (l2.getD (s+m') 0)),tes ?_ ?_ (zaa _),?_,(by(simp;omega))⟩;refine zA rfl (zA rfl tn);refine zA rfl (zA rfl (zA rfl tn))
   ·refine⟨by simp,by simp only;omega,by simp only;omega,by simp only;omega,by simp[j8],?_,fun i hi=>?_⟩
    ·simp only[← zaP];rw[hd];exact fF (by omega) j9 hc
    ·simp only at hi ⊢; rw[kP (by omega)];exact j10 i (by omega)
  ·have h5:m'<l2.length-s:=by have:=dt c3;simp at this;omega
   have hd:l2.getD (s+m') 0=l.getD (s+m') 0:=j10 _ (by omega);have hd2:l2.getD (s+(m'-1)) 0=l.getD (s+m'-1) 0:=by rw[show s+(m'-1)=s+m'-1 by omega];exact j10 _ (by omega)
   have hc:eqR (l.getD (s+m') 0) (l.getD (s+m'-1) 0)=true:=by rw[← hd,← hd2];exact(Bool.not_eq_false' _) ▸ c4.h
   refine⟨(kk,m'+1,l2),tes ?_ ?_ (zaa _),?_,(by(simp;omega))⟩;refine zA rfl (zA rfl tn);refine zA rfl (zA rfl (zA rfl tn));exact⟨by simp,by simp only;omega,j6,by simp only;omega,j8,by simp only[← zaP];exact cK (by omega) j9 hc,fun i hi=>j10 i (by simp only at hi;omega)⟩
  ·have h5:¬ m'<l2.length-s:=by have:=df c3;simp at this;omega
   have e:s+m'=l.length:=by omega
   refine⟨[_],exP r64,_,rst rfl rs0,zaa _,⟨r64,rfl,?_⟩,yC (PSub.refl _)⟩;rw[← e,← j9];simp[zcy,zaZ (show kk≤l2.length by omega)]
 ·have h3:=dt c1;refine⟨s+1,tes ?_ ?_ (zaa _),?_,(by omega)⟩;refine zA rfl tn;refine zA rfl (zA rfl tn);refine⟨by omega,by omega,fun i h1 h4=>?_⟩;rcases zaf i s with h | h
  ·exact j3 i h1 h
  ·obtain rfl:i=s:=by omega
   exact c2.h
 ·have h3:=df c1;exact⟨[_],exP v,_,rst rfl rs0,zaa _,⟨v,rfl,by rw[jV (zab _) fun i h1 h4=>j3 i h1 (by omega),zaG]⟩,yC (PSub.refl _)⟩
theorem kswalls {ls:zF}{b:BX}{xs:List Rat}{lvs:zF}{m N:Nat}(hm:m≤300)(hN:N≤300)(hxl:xs.length≤10000)(hls:ls.length≤1000)(hfl:ls.flatten.length≤10000)(hL:∀ i,i<xs.length→(jZ ls b xs lvs i).length≤20000)(hr:∀ i,i<xs.length→∀ y∈jZ ls b xs lvs i,rlen y N):CTy prog 124 [sv (sl 1 (ls.map (pcc N))),ag (bxc N b),sv (sl 3 (xs.map (rtc m))),sv (sl 1 (lvs.map (pcc N)))] (sv (sl 1 (((List.range xs.length).map fun i=>setOf cmpR (jZ ls b xs lvs i)).map fun l=>sl 3 (l.map (rtc N))))):=by
 refine fw [.tmp 8] func124 fun X=>?_;repeat refine u ?_
 refine t_ts (jH 43 1) ?_;refine lp (σ:=Nat×Value) [0,3,5,8,20,21] (fun s=>[(9,True,exP s.2),(22,True,zJ s.1)]) (fun s=>[.row s.2 43 1 (((List.range s.1).map fun i=>setOf cmpR (jZ ls b xs lvs i)).map fun l=>sl 3 (l.map (rtc N)))]) (fun s=>s.1≤xs.length) (fun s=>xs.length-s.1) ((0,.slice none 0 0)) ((by simp)) fun s hJ Y _=>?_;obtain⟨i,v⟩:=s;dsimp only at hJ ⊢;have hwa:0<i∧i-1<lvs.length∨qA lvs i=[]:=by
  unfold qA;by_cases h:0<i
  ·by_cases h2:i-1<lvs.length
   ·exact .inl ⟨h,h2⟩
   ·right;rw[if_pos h,zah,zcH (by omega)];rfl
  ·right;rw[if_neg h]
 repeat refine u ?_
 refine tp (fun c0=>?_) fun c0=>?_;iterate 8 refine u ?_
 refine u fun b11=>?_;iterate 2 refine u ?_
 refine zO (zY (s:=11) 0 rfl rfl) ?_;iterate 9 refine u ?_
 refine tbs rfl rfl rfl rfl rfl rfl fun r33=>?_;rotate_left;rotate_left
 ·refine zA1 (oas rfl) (zA0 (zR (vH (σ:=Value) (fun v2=>[(12,True,exP v2)]) (fun v2=>[.row v2 29 3 (([b.1.2,b.2.2]++qA lvs i).map (rtc N)),.row v 43 1 (((List.range i).map fun i=>setOf cmpR (jZ ls b xs lvs i)).map fun l=>sl 3 (l.map (rtc N)))]) (fun _=>True) (tk 0 rfl (tk 3 rfl (tk 5 rfl (tk 8 rfl (tk 9 rfl (tk 10 rfl (tk 11 rfl (tk 20 rfl (tk 21 rfl (tk 22 rfl tn)))))))))) (fun _=>?_) (fun v2 _ Y _=>?_))))
  ·repeat refine u ?_
   refine tp (fun c1=>?_) fun c1=>?_;iterate 5 refine u ?_
   refine zA1 (oix (i-1) rfl rfl rfl (fun g=>(by omega)) (fun g=>(by omega))) ?_;repeat refine u ?_
   rotate_left;repeat refine u ?_
   rotate_left
   ·have hlen:(qA lvs i).length=(lvs.getD (i-1) Df.d).length:=by
     rw[show qA lvs i=(lvs.getD (i-1) Df.d).map (·.2) from if_pos (by omega),zau]
    have hLi:=hL i (by omega);unfold jZ at hLi;simp only[zal] at hLi;refine xC (σ:=Nat×Value) (fun t=>[(12,True,exP t.2),(49,True,zJ t.1)]) (fun t=>[.row t.2 29 3 (([b.1.2,b.2.2]++(qA lvs i).take t.1).map (rtc N)),.row v 43 1 (((List.range i).map fun i=>setOf cmpR (jZ ls b xs lvs i)).map fun l=>sl 3 (l.map (rtc N)))]) (fun t=>t.1≤(qA lvs i).length) (fun t=>(qA lvs i).length-t.1) ((0,r33)) (tk 0 rfl (tk 3 rfl (tk 5 rfl (tk 8 rfl (tk 9 rfl (tk 10 rfl (tk 11 rfl (tk 20 rfl (tk 21 rfl (tk 22 rfl (tk 47 rfl (tk 48 rfl tn)))))))))))) ?_ rfl ((by simp)) (fun t hJ Y _=>?_);refine zA rfl (zA rfl tn);obtain⟨k,v2⟩:=t;dsimp only at hJ ⊢;repeat refine u ?_
    refine tp (fun c2=>?_) fun c2=>?_;iterate 7 refine u ?_
    refine u fun b14=>?_;refine zD 0 rfl rfl (zO (zY (s:=14) 0 rfl rfl) ?_);repeat refine u ?_
    refine tap 0 rfl rfl rfl (by(simp;omega)) rfl fun r57=>?_;repeat refine u ?_
    rotate_left;repeat refine u ?_
    rotate_left
    ·refine⟨(k+1,r57),tes ?_ ?_ ?_,(by omega),(by omega)⟩;refine zA rfl (zA rfl tn);refine zA rfl (zA rfl (zA rfl (zA rfl (zA rfl (zA rfl (zA rfl (zA rfl (zA rfl (zA rfl ?_)))))))));refine zA rfl (zA rfl tn);rw[(wallA_at (show 0<i by omega) (by omega)).2.1,← zaA,zay];exact zaa _
    ·refine⟨v2,tes ?_ ?_ ?_,(by(simp;done))⟩;refine zA rfl tn;refine zA rfl (zA rfl (zA rfl (zA rfl (zA rfl (zA rfl (zA rfl (zA rfl (zA rfl (zA rfl ?_)))))))));refine tn;rw[zaz (show (qA lvs i).length≤k by omega)];exact zaa _
   ·refine⟨r33,tes ?_ ?_ ?_,(by(simp;done))⟩;refine zA rfl tn;refine zA rfl (zA rfl (zA rfl (zA rfl (zA rfl (zA rfl (zA rfl (zA rfl (zA rfl (zA rfl ?_)))))))));refine tn;rw[hwa.resolve_left fun h=>c1 ⟨by omega,by omega⟩,zar];exact zaa _
  ·refine zR (vH (σ:=Value) (fun v2=>[(12,True,exP v2)]) (fun v2=>[.row v2 29 3 (([b.1.2,b.2.2]++qA lvs i++kE lvs i).map (rtc N)),.row v 43 1 (((List.range i).map fun i=>setOf cmpR (jZ ls b xs lvs i)).map fun l=>sl 3 (l.map (rtc N)))]) (fun _=>True) (tk 0 rfl (tk 3 rfl (tk 5 rfl (tk 8 rfl (tk 9 rfl (tk 10 rfl (tk 11 rfl (tk 20 rfl (tk 21 rfl (tk 22 rfl tn)))))))))) (fun _=>?_) (fun v2 _ Y _=>?_))
   ·repeat refine u ?_
    refine tp (fun c1=>?_) fun c1=>?_;repeat refine u ?_
    rotate_left;repeat refine u ?_
    rotate_left
    ·have hlen:(kE lvs i).length=(lvs.getD i Df.d).length:=zau _;have hLi:=hL i (by omega);unfold jZ at hLi;simp only[zal] at hLi;refine xC (σ:=Nat×Value) (fun t=>[(12,True,exP t.2),(68,True,zJ t.1)]) (fun t=>[.row t.2 29 3 (([b.1.2,b.2.2]++qA lvs i++(kE lvs i).take t.1).map (rtc N)),.row v 43 1 (((List.range i).map fun i=>setOf cmpR (jZ ls b xs lvs i)).map fun l=>sl 3 (l.map (rtc N)))]) (fun t=>t.1≤(kE lvs i).length) (fun t=>(kE lvs i).length-t.1) ((0,v2)) (tk 0 rfl (tk 3 rfl (tk 5 rfl (tk 8 rfl (tk 9 rfl (tk 10 rfl (tk 11 rfl (tk 20 rfl (tk 21 rfl (tk 22 rfl (tk 66 rfl (tk 67 rfl tn)))))))))))) ?_ (by(simp;done)) ((by simp)) (fun t hJ Y _=>?_);refine zA rfl (zA rfl tn);obtain⟨k,v3⟩:=t;dsimp only at hJ ⊢;repeat refine u ?_
     refine tp (fun c2=>?_) fun c2=>?_;iterate 7 refine u ?_
     refine u fun b16=>?_;refine zD 0 rfl rfl (zO (zY (s:=16) 0 rfl rfl) ?_);repeat refine u ?_
     refine tap 0 rfl rfl rfl (by(simp;omega)) rfl fun r76=>?_;repeat refine u ?_
     rotate_left;repeat refine u ?_
     rotate_left
     ·refine⟨(k+1,r76),tes ?_ ?_ ?_,(by omega),(by omega)⟩;refine zA rfl (zA rfl tn);refine zA rfl (zA rfl (zA rfl (zA rfl (zA rfl (zA rfl (zA rfl (zA rfl (zA rfl (zA rfl ?_)))))))));refine zA rfl (zA rfl tn);rw[(wallB_at (show k<(lvs.getD i Df.d).length by omega)).1,← zaA,zay];exact zaa _
     ·refine⟨v3,tes ?_ ?_ ?_,(by omega)⟩;refine zA rfl tn;refine zA rfl (zA rfl (zA rfl (zA rfl (zA rfl (zA rfl (zA rfl (zA rfl (zA rfl (zA rfl ?_)))))))));refine tn;rw[zaz (show (kE lvs i).length≤k by omega)];exact zaa _
    ·refine⟨v2,tes ?_ ?_ ?_,(by omega)⟩;refine zA rfl tn;refine zA rfl (zA rfl (zA rfl (zA rfl (zA rfl (zA rfl (zA rfl (zA rfl (zA rfl (zA rfl ?_)))))))));refine tn;have e:kE lvs i=[]:=by
      unfold kE;rw[List.getD_eq_getElem?_getD,List.getElem?_eq_none (by omega)];rfl
     rw[e,zar];exact zaa _
   ·repeat refine u ?_
    refine zB rfl rfl (zY9 (by omega) (by omega)) ?_;repeat refine u ?_
    have hLi:=hL i (by omega);have hw:jZ ls b xs lvs i=[b.1.2,b.2.2]++qA lvs i++kE lvs i++atX (xs.getD i Df.d) ls.flatten:=rfl;rw[hw] at hLi;simp only[zal] at hLi;have hC:∀ k,(atX (xs.getD i Df.d) (ls.flatten.take k)).length≤(atX (xs.getD i Df.d) ls.flatten).length:=fun k=>by
     unfold atX;exact(((List.take_sublist _ _).filter _).map _).length_le
    generalize ls.flatten=F at *;refine xC (σ:=Nat×Value) (fun t=>[(12,True,exP t.2),(81,True,zJ t.1)]) (fun t=>[.row t.2 29 3 (([b.1.2,b.2.2]++qA lvs i++kE lvs i++atX (xs.getD i Df.d) (F.take t.1)).map (rtc N)),.row v 43 1 (((List.range i).map fun i=>setOf cmpR (jZ ls b xs lvs i)).map fun l=>sl 3 (l.map (rtc N)))]) (fun t=>t.1≤F.length) (fun t=>F.length-t.1) ((0,v2)) (tk 0 rfl (tk 3 rfl (tk 5 rfl (tk 8 rfl (tk 9 rfl (tk 11 rfl (tk 20 rfl (tk 21 rfl (tk 22 rfl (tk 79 rfl (tk 80 rfl tn))))))))))) ?_ ?_ ((by simp)) (fun t hJ Y _=>?_);refine zA rfl (zA rfl tn);rotate_left;rotate_left
    ·rw[List.take_zero,show atX (xs.getD i Df.d) []=[] from rfl,zar]
    obtain⟨k,v3⟩:=t;dsimp only at hJ ⊢;have hCk:=hC k;repeat refine u ?_
    refine tp (fun c1=>?_) fun c1=>?_;iterate 7 refine u ?_
    refine u fun b18=>?_;refine zD 0 rfl rfl (zO (zY (s:=18) 0 rfl rfl) ?_);repeat refine u ?_
    refine zB rfl rfl (wE (by omega) (by omega)) ?_;repeat refine u ?_
    refine tp (fun c2=>?_) fun c2=>?_;repeat refine u ?_
    refine tap 0 rfl rfl rfl ?_ rfl fun r93=>?_;rotate_left;repeat refine u ?_
    rotate_left;repeat refine u ?_
    rotate_left;repeat refine u ?_
    rotate_left
    ·rw[zau];simp only[zal,zaw,zbl];simp only[zaw,zbl] at hLi;omega
    ·refine⟨(k+1,r93),tes ?_ ?_ ?_,(by omega),(by omega)⟩;refine zA rfl (zA rfl tn);refine zA rfl (zA rfl (zA rfl (zA rfl (zA rfl (zA rfl (zA rfl (zA rfl (zA rfl (zA rfl ?_)))))))));refine zA rfl tn;rw[(zT (Df.d:P2) (l:=F) (s:=k) (by omega)).1,yC3,yC2,if_pos c2,← zaA,zay];exact zaa _
    ·refine⟨(k+1,v3),tes ?_ ?_ ?_,(by omega),(by omega)⟩;refine zA rfl (zA rfl tn);refine zA rfl (zA rfl (zA rfl (zA rfl (zA rfl (zA rfl (zA rfl (zA rfl (zA rfl (zA rfl ?_)))))))));refine zA rfl tn;rw[(zT (Df.d:P2) (l:=F) (s:=k) (by omega)).1,yC3,yC2,if_neg c2,zar];exact zaa _
    ·rw[zaz (show F.length≤k by omega),← hw];have hW:(jZ ls b xs lvs i).length≤20000:=hL i (by omega);have hNm:∀ k,k<(jZ ls b xs lvs i).length→CTy prog 160 [ag (rtc N ((jZ ls b xs lvs i).getD k Df.d))] (ag (rtc N ((jZ ls b xs lvs i).getD k Df.d))):=fun k hk=>jY (pS (by omega)) (sC rfl (hr i (by omega) _ (xI hk)));clear hw hLi hC hCk;refine xC (σ:=Nat) (fun k=>[(97,True,zJ k)]) (fun k=>[.row v3 29 3 ((jZ ls b xs lvs i).map (rtc N)),.row v 43 1 (((List.range i).map fun i=>setOf cmpR (jZ ls b xs lvs i)).map fun l=>sl 3 (l.map (rtc N)))]) (fun k=>k≤(jZ ls b xs lvs i).length) (fun k=>(jZ ls b xs lvs i).length-k) (0) (tk 0 rfl (tk 3 rfl (tk 5 rfl (tk 8 rfl (tk 9 rfl (tk 12 rfl (tk 20 rfl (tk 21 rfl (tk 22 rfl (tk 96 rfl tn)))))))))) ?_ rfl ((by simp)) (fun k hJ Y _=>?_);refine zA rfl tn;repeat refine u ?_
     refine tp (fun c2=>?_) fun c2=>?_;repeat refine u ?_
     refine zB rfl rfl (hNm k (by omega)) ?_;repeat refine u ?_
     rotate_left;repeat refine u ?_
     rotate_left
     ·have e:∀ l:List Rat,k<l.length→l.set k (l.getD k Df.d)=l:=fun l h=>by
       rw[zah,zag h];simp
      refine⟨k+1,tes ?_ ?_ ?_,(by omega),(by omega)⟩;refine zA rfl tn;refine zA rfl (zA rfl (zA rfl (zA rfl (zA rfl (zA rfl (zA rfl (zA rfl (zA rfl (zA rfl ?_)))))))));refine tn;rw[e _ (by omega)];exact zaa _
     ·refine tco [0] rfl rfl rfl (yI7 (by omega) (by omega)) ?_;rintro _ _ ⟨rfl,l',hp,hso,rfl⟩;have hll:=hp.length_eq;repeat refine u ?_
      refine tco [0] rfl rfl rfl (wcompactS (by omega) (by omega)) ?_;rintro _ _ ⟨v4,rfl,rfl⟩;rw[show jF eqR 0 l' l'.length=setOf cmpR (jZ ls b xs lvs i) from(bW uF hp hso).eq uF];refine zO (yW (s:=113) 0 rfl rfl) ?_;repeat refine u ?_
      refine tap 0 rfl rfl rfl (by(simp;omega)) rfl fun r115=>?_;repeat refine u ?_
      refine⟨(i+1,r115),tes ?_ ?_ ?_,(by omega),(by omega)⟩;refine zA rfl (zA rfl tn);refine zA rfl (zA rfl (zA rfl (zA rfl (zA rfl (zA rfl tn)))));rw[zbz,zay,zay];exact zaa _
 ·obtain rfl:i=xs.length:=by omega
  iterate 7 refine u ?_
  refine t_ts (yW (s:=8) 0 rfl rfl) ?_;repeat refine u ?_
  exact e
theorem kcolcell {N k a i n m:Nat}{x h:Rat}(hn:n≤20000)(hm:m≤20000)(h1:n+1≤N)(h2:m+1≤N):CTy prog 211 [exP (.int .i8 ((k:Nat):Int)),zJ i,ag (rtc m h),pa (xc (.int .i64 ((a:Nat):Int))),pa (rtc n x)] (ag (celT N (k,a,i,(x,h)))):=by
 refine fw [.cell 8 85] func211 fun X=>?_;iterate 3 refine u ?_
 refine u fun b8=>?_;iterate 2 refine u ?_
 refine zK 9 mixed rfl rfl ?_;repeat refine u ?_
 refine zC rfl rfl (fE (m:=N) (by omega) (by omega)) ?_;repeat refine u ?_
 refine zC rfl rfl (fE (m:=N) (by omega) (by omega)) ?_;repeat refine u ?_
 refine zD 0 rfl rfl ?_;repeat refine u ?_
 refine⟨[_],zL 0 rfl rs0,yC (PSub.refl _)⟩
theorem zZ0 {k1 k2 a n m:Nat}{x:Rat}{ys:List Rat}:CTy prog 133 [exP (.int .i8 ((k1:Nat):Int)),exP (.int .i8 ((k2:Nat):Int)),zJ a,ag (rtc n x),sv (sl 3 (ys.map (rtc m)))] (fn 210 [pa (xc (.int .i64 ((a:Nat):Int))),pa (rtc n x),pa (sl 3 (ys.map (rtc m))),pa (xc (.int .i8 ((k1:Nat):Int))),pa (xc (.int .i8 ((k2:Nat):Int)))]):=by
 refine fw [.tmp 10] func133 fun X=>?_;repeat refine u ?_
 exact e
theorem kbetwAc {Ψ Φ:PV}{p q:Rat}{n m K:Nat}[h:QR Ψ n p][k:QR Φ m q](hn:n≤288)(hm:m≤288)(hK:2*(n+m)+64≤K):CTy prog 212 [Ψ,Φ] (tu [ag (rtc K (xG p q)),exP (.bool (decide (p<q)))]):=yI (kbetwA hn hm hK) (fs1 qr_q (fs1 qr_q fs0))
theorem sV {p q:Rat}{n m K:Nat}(hn:n≤200)(hp:rlen p m)(hq:rlen q m)(hK:3*m+1≤K)(h2:2≤K):CTy prog 134 [ag (rtc n p),ag (rtc n q)] (ag (rtc K (xG p q))):=by
 refine fw [.cell 4 29] func134 fun X=>?_;iterate 4 refine u ?_
 refine u fun b4=>?_;repeat refine u ?_
 refine zB rfl rfl (kbetwAc (K:=4*n+64) (by omega) (by omega) (by omega)) ?_;iterate 3 refine u ?_
 refine u fun b5=>?_;refine u ?_;refine zO (zY (s:=5) 0 rfl rfl) ?_;repeat refine u ?_
 refine tp (fun c0=>?_) fun c0=>?_;repeat refine u ?_
 refine zD 0 rfl rfl ?_;repeat refine u ?_
 refine⟨[_],zL 0 rfl rs0,yC ?_⟩;rotate_left;repeat refine u ?_
 refine zB rfl rfl (krof (k:=0) (K:=K) (by omega) (by omega)) ?_;refine zD 0 rfl rfl ?_;repeat refine u ?_
 refine⟨[_],zL 0 rfl rs0,yC ?_⟩;rotate_left
 ·exact sC rfl (zM (sE hp hq) hK)
 ·exact yQ1 (by unfold xG;rw[if_neg c0];rfl) (Nat.le_refl _)
theorem col_e {N k a i:Nat}{x:Rat}{ys:List Rat}:PSub (ag (celT N (k,a,i,(x,ys.getD i Df.d)))) (ag (celT N (colC k a x ys (2*i)))):=by
 rw[show celT N (colC k a x ys (2*i))=celC N k a x ys (2*i) from rfl,celC_even];exact PSub.refl _
theorem col_o {N k a i:Nat}{x:Rat}{ys:List Rat}:PSub (ag (celT N (k+1,a,i,(x,xG (ys.getD i Df.d) (ys.getD (i+1) Df.d))))) (ag (celT N (colC k a x ys (2*i+1)))):=by
 rw[show celT N (colC k a x ys (2*i+1))=celC N k a x ys (2*i+1) from rfl,celC_odd];exact PSub.refl _
theorem zZ5 {k a n m N:Nat}{x:Rat}{ys:List Rat}(hn:n≤200)(hm:m≤200)(hr:∀ y∈ys,rlen y m)(hN:n+1≤N)(hN2:3*m+2≤N)(hN3:3≤N)(hNb:N≤20000)(hl:ys.length≤100000):CIt prog 210 [pa (xc (.int .i64 ((a:Nat):Int))),pa (rtc n x),pa (sl 3 (ys.map (rtc m))),pa (xc (.int .i8 ((k:Nat):Int))),pa (xc (.int .i8 ((k+1:Nat):Int)))] (colL k a x ys) (fun c=>[ag (celT N c)]):=by
 unfold colL;have kc:=fun {k i h q}=>kcolcell (N:=N) (k:=k) (a:=a) (i:=i) (n:=n) (m:=q) (x:=x) (h:=h) (by omega);refine cit func210 rfl rfl rfl rfl rfl fun X y YS YX hY hS=>?_;repeat refine u ?_
 refine dK (σ:=Nat) (fun i=>[(13,True,zJ i)]) (fun i=>[]) (fun i Y=>YS ((List.range (min (2*i) (2*ys.length-1))).map (colC k a x ys)) Y∧i≤ys.length) (fun i=>ys.length-i) (0) (tk 0 rfl (tk 3 rfl (tk 4 rfl (tk 5 rfl (tk 7 rfl (tk 11 rfl (tk 12 rfl tn))))))) ?_ rfl (⟨hS,by omega⟩) (fun i Y hG=>?_);refine zA rfl tn;obtain⟨hS,hi⟩:=hG;repeat refine u ?_
 refine tp (fun c0=>?_) fun c0=>?_;iterate 8 refine u ?_
 refine u fun b9=>?_;iterate 2 refine u ?_
 refine zO (zY (s:=9) 0 rfl rfl) ?_;repeat refine u ?_
 refine zB rfl rfl (kc (by omega) (by omega) (by omega)) ?_;rotate_left;repeat refine u ?_
 rotate_left
 ·have e0:min (2*i) (2*ys.length-1)=2*i:=zaZ (by omega);rw[e0] at hS;refine gO (x:=colC k a x ys (2*i)) hY hS (oV _ (show 2*i<2*ys.length-1 by omega)).choose_spec rfl rfl (fs1 col_e fs0) (fun Y hS=>?_) (fun Y hX=>?_)
  ·repeat refine u ?_
   refine qC rfl rfl ?_;iterate 2 refine u ?_
   refine zK 18 mixed rfl rfl ?_;repeat refine u ?_
   refine d1g rfl rfl (oca rfl rfl fun g=>sV (n:=m) (m:=m) (K:=N-1) (by omega) ?_ ?_ (by omega) (by omega)) ?_;rotate_left;rotate_left;refine d1g rfl rfl (oca rfl rfl fun g=>kc (k:=k+1) (i:=i) (q:=N-1) (by omega) (by omega) (by omega)) ?_;repeat refine u ?_
   rotate_left
   ·exact hr _ (xI (by omega))
   ·exact hr _ (xI (by have:=of_decide_eq_true g.2;omega))
   rw[← dN] at hS;refine t_yieldm (x:=colC k a x ys (2*i+1)) hY hS rfl rfl (fun h=>(oV _ (show 2*i+1<2*ys.length-1 by have:=of_decide_eq_true h;omega))) rfl rfl (fs1 col_o fs0) (fun Y hS=>?_) (fun hg Y hX=>?_)
   ·repeat refine u ?_
    refine tp (fun c1=>?_) fun c1=>?_;repeat refine u ?_
    rotate_left;repeat refine u ?_
    rotate_left
    ·exact absurd rfl c1.2
    ·refine⟨i+1,tes ?_ ?_ (zaa _),?_,(by omega)⟩;refine zA rfl tn;refine zA rfl (zA rfl (zA rfl (zA rfl (zA rfl (zA rfl (zA rfl tn))))));refine⟨?_,by omega⟩;by_cases h:i+1<ys.length
     ·rw[zaZ (by omega),show 2*(i+1)=2*i+1+1 by omega,dN];rwa [if_pos (decide_eq_true (by omega))] at hS
     ·rw[Nat.min_eq_right (by omega),show 2*ys.length-1=2*i+1 by omega];rwa [if_neg (by rw[decide_eq_true_eq];omega),zar] at hS
   ·repeat refine u ?_
    refine tp (fun c1=>?_) fun c1=>?_;repeat refine u ?_
    rotate_left;repeat refine u ?_
    rotate_left
    ·exact .inr hX
    ·exact absurd ⟨of_decide_eq_true hg,by decide⟩ c1
  ·repeat refine u ?_
   refine kG rfl rfl ?_;repeat refine u ?_
   exact .inr hX
 ·rw[show 2*ys.length-1=min (2*i) (2*ys.length-1) by omega];exact .inl hS
end Go.Proofs.YtalkinejknjidaaGreatDoor
