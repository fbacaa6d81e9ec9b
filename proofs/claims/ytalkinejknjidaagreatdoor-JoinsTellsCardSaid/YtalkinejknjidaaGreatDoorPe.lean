/- Lemmas and walks of functions; no statement. -/
import Derived.Test.YtalkinejknjidaaGreatDoorPd
set_option linter.unusedVariables false
set_option linter.unusedSimpArgs false
set_option maxRecDepth 100000
set_option maxHeartbeats 4000000
namespace Go.SL
theorem nodup_rev {α:Type}{l:List α}:l.reverse.Nodup↔l.Nodup:=by
 unfold List.Nodup;rw[List.pairwise_reverse];exact⟨fun h=>h.imp Ne.symm,fun h=>h.imp Ne.symm⟩
theorem zW1 {q:P2}:∀(X:List P2) (m:P2) (Y:List P2),kT q (X++[m])→kT q (m::Y)→kT q (X++m::Y)
 | [],_,_,_,h=>h
 | [_],_,_,h,k=>⟨h.1,k⟩
 | _::y::X,m,Y,h,k=>⟨h.1,zW1 (y::X) m Y h.2 k⟩
theorem aY {q:P2}:∀(X Y:List P2),kT q (X++Y)→kT q Y
 | [],_,h=>h
 | [x],[],_=>trivial
 | [x],y::Y,h=>h.2
 | x::y::X,Y,h=>aY (y::X) Y h.2
theorem oD:∀(X Y:List P2),gF (X++Y)→gF Y
 | [],_,h=>h
 | [x],[],_=>trivial
 | [x],[_],_=>trivial
 | [x],_::_::_,h=>h.2
 | [x,y],[],_=>trivial
 | [x,y],_::Y,h=>oD [y] _ h.2
 | x::y::z::X,Y,h=>oD (y::z::X) Y h.2
theorem vW:∀(X:List P2) (b m a:P2) (Y:List P2),gF (X++[b,m])→gF (m::a::Y)→0<trn a m b→gF (X++b::m::a::Y)
 | [],_,_,_,_,_,h,k=>⟨k,h⟩
 | [x],b,m,a,Y,g,h,k=>⟨g.1,k,h⟩
 | [x,y],b,m,a,Y,g,h,k=>⟨g.1,g.2.1,k,h⟩
 | x::y::z::X,b,m,a,Y,g,h,k=>⟨g.1,vW (y::z::X) b m a Y g.2 h k⟩
theorem yK3 {q:P2}:∀(C:List P2) (j:Nat),kT q C→j+1<C.length→0≤trn (gp C (j+1)) (gp C j) q
 | [],_,_,h=>by simp at h
 | [_],_,_,h=>by simp at h
 | _::_::_,0,h,_=>h.1
 | t::s::r,j+1,h,hj=>yK3 (s::r) j h.2 (by simp only[zas] at hj ⊢; omega)
theorem yF9:∀(C:List P2) (j:Nat),gF C→j+2<C.length→0<trn (gp C (j+2)) (gp C (j+1)) (gp C j)
 | [],_,_,h=>by simp at h
 | [_],_,_,h=>by simp at h
 | [_,_],_,_,h=>by simp only[zas,zbb] at h;omega
 | _::_::_::_,0,h,_=>h.1
 | u::t::s::r,j+1,h,hj=>yF9 (t::s::r) j h.2 (by simp only[zas] at hj ⊢; omega)
theorem deg {l:List P2}{a m b:P2}(hm:∀ q∈l,leP q m)(ha:ltP a m)(hb:ltP b m)(h0:trn a m b=0)(h1:∀ q∈l,0≤trn a m q)(h2:∀ q∈l,0≤trn m b q) :
  ∀ x∈l,∀ y∈l,∀ z∈l,trn x y z=0:=by
 have k0:0≤zG (subP m a) (subP m b):=by unfold trn zG subP at *; simp only at *; grind
 have kz:∀ q∈l,zG (subP m a) (subP m q)=0:=fun q hq=>by
  have a1:=h1 q hq;have a2:=h2 q hq;have:=vY (lexP.le ha) hb (lR.1 (hm q hq)) k0 (by unfold trn zG subP at *; simp only at *; grind);unfold trn zG subP at *; simp only at *; grind
 have kk:∀ x∈l,∀ y∈l,0≤zG (subP m x) (subP m y):=fun x hx y hy=>vY (lR.1 (hm x hx)) ha (lR.1 (hm y hy)) (by have:=kz x hx;unfold zG subP at *; simp only at *; grind) (by rw[kz y hy];exact Rat.le_refl);intro x hx y hy z hz;have b1:=kk x hx y hy;have b2:=kk y hy x hx;have b3:=kk y hy z hz;have b4:=kk z hz y hy;have b5:=kk x hx z hz;have b6:=kk z hz x hx;unfold trn zG subP at *; simp only at *; grind
theorem apart3 {l:List P2}{a b c a' b':P2}(hb':b'∈l)(hb:b∈l)(h1:ltP a c)(h2:ltP c b)(h3:0<trn a c b)(h4:∀ q∈l,0≤trn a c q)(g1:ltP b' c)(g2:∀ q∈l,0≤trn c b' q):False:=by
 have k1:=h4 b' hb';have k2:=g2 b hb;have:=tr_gp (a:=subP c b') (b:=subP c a) (c:=subP b c) g1 h1 (lexP.le h2) (by unfold trn zG subP at *; simp only at *; grind) (by unfold trn zG subP at *; simp only at *; grind);unfold trn zG subP at *; simp only at *; grind
theorem iO {α:Type}{l:List α}(h:l≠[]):∃ r x,l=r++[x]:=⟨_,_,(List.dropLast_concat_getLast h).symm⟩
def uC (l:List P2):List P2:=if l.length<3 then l else(jA [] l).reverse.dropLast++(jA [] l.reverse).reverse.dropLast
theorem two_sup {a b q:P2}(hab:ltP a b)(h0:trn a b q=0)(h1:leP a q)(h2:leP q b):Sup [a,b] q:=fun u v=>by
 obtain⟨t,e1,e2⟩:=fB h0 hab.ne;have ht0:0≤t:=by
  refine Classical.byContradiction fun c=>?_;have c:0 < -t:=by grind
  unfold ltP lexP subP leP at *; simp only at *;rcases hab with hab | ⟨hab,hb2⟩
  ·have:=zaD c hab;grind
  ·have:=zaD c hb2;grind
 have ht1:0≤1-t:=by
  refine Classical.byContradiction fun c=>?_;have c:0<t-1:=by grind
  unfold ltP lexP subP leP at *; simp only at *;rcases hab with hab | ⟨hab,hb2⟩
  ·have:=zaD c hab;grind
  ·have:=zaD c hb2;grind
 by_cases c:u*a.1+v*a.2≤u*b.1+v*b.2
 ·refine⟨b,by simp,?_⟩;rw[e1,e2];have:=zaF ht1 (show 0≤(u*b.1+v*b.2)-(u*a.1+v*a.2) by grind);grind
 ·refine⟨a,by simp,?_⟩;rw[e1,e2];have:=zaF ht0 (show 0≤(u*a.1+v*a.2)-(u*b.1+v*b.2) by grind);grind
theorem oU {l:List P2}(h2:2≤l.length)(hs:l.Pairwise ltP):∃ mn mx A B,ChOk l (mx::(A++[mn]))∧ChOk' l (mn::(B++[mx]))∧uC l=mn::(A.reverse++mx::B.reverse)∧mn∈l∧mx∈l∧ltP mn mx∧(∀ q∈l,leP q mx)∧(∀ q∈l,leP mn q)∧jA [] l=mx::(A++[mn])∧jA [] l.reverse=mn::(B++[mx]):=by
 have hne:l≠[]:=fun e=>by rw[e] at h2;simp at h2
 have hS:uC l=(jA [] l).reverse.dropLast++(jA [] l.reverse).reverse.dropLast:=by
  unfold uC;split
  ·match l,h2 with
   | [p,q],_=>simp[jA,uQ]
   | _::_::_::_,_=>rename_i h;simp at h;omega
  ·rfl
 have cl:=xH2 hne hs;have ch:=ch_ok' hne hs;generalize eL:jA [] l=L at *;generalize eH:jA [] l.reverse=H at *;obtain⟨mx,L1,rfl⟩:=zcj cl.ne;obtain⟨mn,H1,rfl⟩:=zcj ch.ne;have hmx:∀ q∈l,leP q mx:=fun q hq=>cl.top q hq mx rfl;have hmn:∀ q∈l,leP mn q:=fun q hq=>ch.top q hq mn rfl;have mxl:=cl.sub mx (by simp);have mnl:=ch.sub mn (by simp);have hlt:ltP mn mx:=by
  refine zV8 (hmx mn mnl) fun e=>?_
  match l,hs,h2,hmx,hmn with
  | p::p2::r,hs,h3,hmx,hmn =>
   have h1:=(zaz.1 hs).1 p2 (by simp);have h4:=jH (gE (hmx p2 (by simp)) (e ▸ hmn p (by simp))) h1.le;exact h1.ne h4.symm
  | [p],_,h3,_,_=>simp at h3
 have l1:L1≠[]:=fun e=>by
  subst e;exact hlt.ne (jH hlt.le (cl.bot mn mnl mx rfl))
 have h1:H1≠[]:=fun e=>by
  subst e;exact hlt.ne (jH hlt.le (ch.bot mx mxl mn rfl))
 obtain⟨A,z,rfl⟩:=iO l1;obtain⟨B,y,rfl⟩:=iO h1;have ez:z=mn:=jH (cl.bot mn mnl z (by rw[← zaR,List.getLast?_concat])) (hmn z (cl.sub z (by simp)));have ey:y=mx:=jH (hmx y (ch.sub y (by simp))) (ch.bot mx mxl y (by rw[← zaR,List.getLast?_concat]));subst ez ey;exact⟨_,_,A,B,cl,ch,by rw[hS,show (y::(A++[z])).reverse=(z::A.reverse)++[y] by simp,show (z::(B++[y])).reverse=(y::B.reverse)++[z] by simp,List.dropLast_concat,List.dropLast_concat];rfl,mnl,mxl,hlt,hmx,hmn,rfl,rfl⟩
theorem hullS_ok {l:List P2}(hs:l.Pairwise ltP):IsHull l (uC l):=by
 have hnd:l.Nodup:=hs.imp fun h=>ltP.ne h;by_cases h3:l.length<2
 ·have e:uC l=l:=by unfold uC;rw[if_pos (by omega)]
  rw[e];refine⟨⟨fun c hc=>?_,hnd,fun h=>by omega⟩,fun _ h=>h,fun q hq=>eF hq⟩
  match l,hs,hc with
  | p::r,hs,hc =>
   rcases zae.1 hc with rfl | hc
   ·exact jN _
   ·exact((zaz.1 hs).1 c hc).le
 obtain⟨mn,mx,A,B,cl,ch,eS,mnl,mxl,hlt,hmx,hmn,_⟩:=oU (by omega) hs;rw[eS];have sub:∀ c∈mn::(A.reverse++mx::B.reverse),c∈l:=fun c hc=>by
  simp only[zae,zad,List.mem_reverse] at hc;rcases hc with rfl | hc | rfl | hc
  ·exact mnl
  ·exact cl.sub c (by simp[hc])
  ·exact mxl
  ·exact ch.sub c (by simp[hc])
 have dL:=cl.dec;have dH:=ch.dec;have nd:(mn::(A.reverse++mx::B.reverse)).Nodup:=by
  have n1:(mx::(A++[mn])).Nodup:=dL.imp fun h=>(ltP.ne h).symm;have n2:(mn::(B++[mx])).Nodup:=dH.imp fun h=>ltP.ne h;have n3:∀ c,c∈A→c∈B→False:=fun c hA hB=>by
   obtain⟨A1,A2,rfl⟩:=List.append_of_mem hA;obtain⟨B1,B2,rfl⟩:=List.append_of_mem hB;obtain⟨r1,b,e1⟩:=iO (l:=mx::A1) (by simp);obtain⟨r2,b',e2⟩:=iO (l:=mn::B1) (by simp);obtain⟨a,s1,e3⟩:=zcj (l:=A2++[mn]) (by simp);obtain⟨a',s2,e4⟩:=zcj (l:=B2++[mx]) (by simp);have E1:mx::((A1++c::A2)++[mn])=r1++b::c::a::s1:=by
    rw[show mx::((A1++c::A2)++[mn])=(mx::A1)++c::(A2++[mn]) by simp,e1,e3];simp
   have E2:mn::((B1++c::B2)++[mx])=r2++b'::c::a'::s2:=by
    rw[show mn::((B1++c::B2)++[mx])=(mn::B1)++c::(B2++[mx]) by simp,e2,e4];simp
   rw[E1] at cl dL;rw[E2] at ch dH;have p1:=zaz.1 (zbK.1 dL).2.1;have p2:=zaz.1 (zbK.1 dH).2.1;exact apart3 (l:=l) (a:=a) (b:=b) (c:=c) (a':=a') (b':=b') (ch.sub b' (by simp)) (cl.sub b (by simp)) ((zaz.1 p1.2).1 a (by simp)) (p1.1 c (by simp)) (oD r1 _ cl.trs).1 (fun q hq=>(aY r1 _ (cl.lef q hq)).2.1) (p2.1 c (by simp)) fun q hq=>(aY r2 _ (ch.lef q hq)).1
  simp only[List.nodup_cons,zad,zae,List.mem_reverse,List.nodup_append,nodup_rev,zan,zaN,not_false_eq_true,List.nodup_nil,true_and,and_true] at n1 n2 ⊢;grind
 have fst:∀ c∈mn::(A.reverse++mx::B.reverse),leP (gp (mn::(A.reverse++mx::B.reverse)) 0) c:=fun c hc=>hmn c (sub c hc);by_cases hAB:A=[]∧B=[]
 ·obtain⟨rfl,rfl⟩:=hAB;refine⟨⟨fst,nd,fun h=>absurd h (by simp)⟩,sub,fun q hq=>two_sup hlt ?_ (hmn q hq) (hmx q hq)⟩;have a1:0≤trn mn mx q:=(cl.lef q hq).1;have a2:0≤trn mx mn q:=(ch.lef q hq).1;unfold trn zG subP at *; simp only at *; grind
 have hn3:3≤(mn::(A.reverse++mx::B.reverse)).length:=by
  simp only[zas,zak,List.length_reverse];rcases A with _ | ⟨a,A⟩
  ·rcases B with _ | ⟨b,B⟩
   ·exact absurd ⟨rfl,rfl⟩ hAB
   ·simp only[zas,zbb];omega
  ·simp only[zas];omega
 obtain⟨r1,b1,e1⟩:=iO (l:=mx::A) (by simp);obtain⟨r2,b2,e2⟩:=iO (l:=mn::B) (by simp);obtain⟨a1,s1,e3⟩:=zcj (l:=A++[mn]) (by simp);obtain⟨a2,s2,e4⟩:=zcj (l:=B++[mx]) (by simp);have EL1:mx::(A++[mn])=r1++[b1,mn]:=by rw[← zaR,e1];simp
 have EL2:mx::(A++[mn])=mx::a1::s1:=by rw[e3]
 have EH1:mn::(B++[mx])=r2++[b2,mx]:=by rw[← zaR,e2];simp
 have EH2:mn::(B++[mx])=mn::a2::s2:=by rw[e4]
 have ndeg:¬ ∀ x∈l,∀ y∈l,∀ z∈l,trn x y z=0:=fun hd=>by
  rcases A with _ | ⟨a,A⟩
  ·rcases B with _ | ⟨b,B⟩
   ·exact hAB ⟨rfl,rfl⟩
   ·obtain⟨c,s,e⟩:=zcj (l:=B++[mx]) (by simp);have t:=ch.trs;have s':=ch.sub;rw[zaR,e] at t s';have:=hd c (s' c (by simp)) b (s' b (by simp)) mn (s' mn (by simp));have:=t.1;grind
  ·obtain⟨c,s,e⟩:=zcj (l:=A++[mn]) (by simp);have t:=cl.trs;have s':=cl.sub;rw[zaR,e] at t s';have:=hd c (s' c (by simp)) a (s' a (by simp)) mx (s' mx (by simp));have:=t.1;grind
 have sb1:=cl.sub b1 (by rw[EL1];simp);have sb2:=ch.sub b2 (by rw[EH1];simp);have sa1:=cl.sub a1 (by rw[EL2];simp);have sa2:=ch.sub a2 (by rw[EH2];simp);have la1:ltP a1 mx:=by rw[EL2] at dL;exact(zaz.1 dL).1 a1 (by simp)
 have lb1:ltP mn b1:=by rw[EL1] at dL;exact(zaz.1 (zbK.1 dL).2.1).1 mn (by simp)
 have la2:ltP mn a2:=by rw[EH2] at dH;exact(zaz.1 dH).1 a2 (by simp)
 have lb2:ltP b2 mx:=by rw[EH1] at dH;exact(zaz.1 (zbK.1 dH).2.1).1 mx (by simp)
 have fa1:∀ q∈l,0≤trn a1 mx q:=fun q hq=>by have:=cl.lef q hq;rw[EL2] at this;exact this.1
 have fb1:∀ q∈l,0≤trn mn b1 q:=fun q hq=>by have:=cl.lef q hq;rw[EL1] at this;exact(aY r1 _ this).1
 have fa2:∀ q∈l,0≤trn a2 mn q:=fun q hq=>by have:=ch.lef q hq;rw[EH2] at this;exact this.1
 have fb2:∀ q∈l,0≤trn mx b2 q:=fun q hq=>by have:=ch.lef q hq;rw[EH1] at this;exact(aY r2 _ this).1
 have jmx:0<trn a1 mx b2:=by
  have:=fa1 b2 sb2;refine Classical.byContradiction fun c=>ndeg (deg hmx la1 lb2 (by grind) fa1 fb2)
 have jmn:0<trn a2 mn b1:=by
  have:=fa2 b1 sb1;refine Classical.byContradiction fun c=>ndeg ?_;have hd:=deg (l:=l.map negP) (a:=negP a2) (m:=negP mn) (b:=negP b1) (fun q hq=>by obtain⟨x,hx,rfl⟩:=zaj.1 hq;exact tT.2 (hmn x hx)) (tP.2 la2) (tP.2 lb1) (by rw[cU];grind)
   (fun q hq=>by obtain⟨x,hx,rfl⟩:=zaj.1 hq;rw[cU];exact fa2 x hx) (fun q hq=>by obtain⟨x,hx,rfl⟩:=zaj.1 hq;rw[cU];exact fb1 x hx)
  intro x hx y hy z hz;rw[← cU];exact hd _ (zaj.2 ⟨x,hx,rfl⟩) _ (zaj.2 ⟨y,hy,rfl⟩) _ (zaj.2 ⟨z,hz,rfl⟩)
 -- the way round,backwards
 have lC:∀ q∈l,kT q (mn::B++mx::(A++[mn])):=fun q hq=>zW1 (mn::B) mx _ (by have:=ch.lef q hq;simpa using this) (cl.lef q hq);have tC:gF (mn::B++mx::(A++[mn])):=by
  have zA1:=ch.trs;have zA2:=cl.trs;rw[EH1] at zA1;rw[EL2] at zA2;rw[e2,e3,zaB];exact vW r2 b2 mx a1 s1 zA1 zA2 jmx
 have hC:(mn::B++mx::(A++[mn])).length=(mn::(A.reverse++mx::B.reverse)).length+1:=by simp;omega
 have eC:mn::(A.reverse++mx::B.reverse)=(mn::B++mx::(A++[mn])).tail.reverse:=by simp
 have c1:gp (mn::B++mx::(A++[mn])) 1=a2:=by
  rw[show mn::B++mx::(A++[mn])=(mn::(B++[mx]))++(A++[mn]) by simp,EH2];rfl
 have c2:gp (mn::B++mx::(A++[mn])) 0=mn:=rfl;have c3:gp (mn::B++mx::(A++[mn])) ((mn::(A.reverse++mx::B.reverse)).length-1)=b1:=by
  rw[show mn::B++mx::(A++[mn])=(mn::B)++(mx::(A++[mn])) by simp,EL1,← zaB,gp,zag,List.getElem?_append_right (by have:=congrArg List.length EL1;simp at this ⊢; omega)];have:(mn::(A.reverse++mx::B.reverse)).length-1-(mn::B++r1).length=0:=by have:=congrArg List.length EL1;simp at this ⊢; omega
  rw[this];rfl
 generalize mn::B++mx::(A++[mn])=C at *;generalize hh:mn::(A.reverse++mx::B.reverse)=h at *;have c4:gp h 0=mn:=by rw[← hh];rfl
 have g1:∀ i,i<h.length→gp h i=gp C (h.length-i):=fun i hi=>by
  have ht:C.tail.length=h.length:=by rw[List.length_tail];omega
  have:gp h i=gp C.tail (C.tail.length-1-i):=by
   conv=>lhs;rw[eC]
   unfold gp;rw[zag,zag,List.getElem?_reverse (by omega)]
  rw[this,ht];unfold gp;rw[zag,zag,List.getElem?_tail,show h.length-1-i+1=h.length-i by omega]
 have g2:∀ i,i<h.length→nx h i=gp C (h.length-1-i):=fun i hi=>by
  unfold nx;rcases zaf (i+1) h.length with c | c
  ·rw[zau c,g1 _ c,show h.length-(i+1)=h.length-1-i by omega]
  ·rw[show i+1=h.length by omega,zbz,c4,show h.length-1-i=0 by omega,c2]
 have weak:∀ i,i<h.length→∀ q∈l,0≤trn (gp h i) (nx h i) q:=fun i hi q hq=>by
  have:=yK3 C (h.length-1-i) (lC q hq) (by omega);rw[show h.length-1-i+1=h.length-i by omega] at this;rw[g1 i hi,g2 i hi];exact this
 have turn:∀ i,i<h.length→0<trn (gp h i) (nx h i) (nx h ((i+1)%h.length)):=fun i hi=>by
  rcases zaf (i+1) h.length with c | c
  ·have:=yF9 C (h.length-2-i) tC (by omega);rw[zau c,g1 i hi,g2 i hi,g2 _ c,show h.length-1-(i+1)=h.length-2-i by omega,show h.length-1-i=h.length-2-i+1 by omega,show h.length-i=h.length-2-i+2 by omega];exact this
  ·have e:i=h.length-1:=by omega
   rw[show i+1=h.length by omega,zbz,g1 i hi,g2 i hi,g2 0 (by omega),e,show h.length-(h.length-1)=1 by omega,show h.length-1-(h.length-1)=0 by omega,Nat.sub_zero,c1,c2,c3];exact jmn
 have po:Poly h:=⟨fst,nd,fun h3=>conv_of nd h3 (fun i k hi hk=>weak i hi _ (sub _ (jJ hk))) turn⟩;exact⟨po,sub,fun q hq=>sup_of_left po hn3 fun i hi=>weak i hi q hq⟩
def yQ (d:P2):Int:=if 0<d.1 then 0 else if d.1=0∧0<d.2 then 1 else if d.1<0 then 2 else 3
def qS (a b:P2):Bool:=if yQ a≠yQ b then decide (yQ a<yQ b) else decide (0<zG a b)
def lexN (v:P2):Prop:=v.1<0∨v.1=0∧v.2<0
theorem qt0 {d:P2}(h:0<d.1):yQ d=0:=if_pos h
theorem qt1 {d:P2}(h:d.1=0)(k:0<d.2):yQ d=1:=by unfold yQ;rw[if_neg (by grind),if_pos ⟨h,k⟩]
theorem qt2 {d:P2}(h:d.1<0):yQ d=2:=by unfold yQ;rw[if_neg (by grind),if_neg (by grind),if_pos h]
theorem qt3 {d:P2}(h:d.1=0)(k:d.2<0):yQ d=3:=by unfold yQ;rw[if_neg (by grind),if_neg (by grind),if_neg (by grind)]
theorem dR {a b:P2}(h:yQ a=yQ b):qS a b=true↔0<zG a b:=by
 unfold qS;rw[if_neg (by simp[h]),decide_eq_true_eq]
theorem kG {a b:P2}(h:yQ a≠yQ b):qS a b=true↔yQ a<yQ b:=by
 unfold qS;rw[if_pos h,decide_eq_true_eq]
theorem ahead_pp {a b:P2}(ha:lexP a)(hb:lexP b):qS a b=true↔0<zG a b:=by
 rcases ha with ha | ⟨ha,ha2⟩<;>rcases hb with hb | ⟨hb,hb2⟩
 ·exact dR ((qt0 ha).trans (qt0 hb).symm)
 ·have h:=zaD ha hb2;rw[kG (by rw[qt0 ha,qt1 hb hb2];decide),qt0 ha,qt1 hb hb2];unfold zG;rw[hb];exact iff_of_true (by decide) (by grind)
 ·have h:=zaD ha2 hb;rw[kG (by rw[qt1 ha ha2,qt0 hb];decide),qt1 ha ha2,qt0 hb];unfold zG;rw[ha];exact iff_of_false (by decide) (by grind)
 ·exact dR ((qt1 ha ha2).trans (qt1 hb hb2).symm)
theorem zZ8 {a b:P2}(ha:lexP a)(hb:lexN b):qS a b=true∧qS b a=false:=by
 have h1:yQ a=0∨yQ a=1:=by rcases ha with ha | ⟨ha,ha2⟩;exact .inl (qt0 ha);exact .inr (qt1 ha ha2)
 have h2:yQ b=2∨yQ b=3:=by rcases hb with hb | ⟨hb,hb2⟩;exact .inl (qt2 hb);exact .inr (qt3 hb hb2)
 have h3:yQ b≠yQ a:=by omega
 refine⟨(kG h3.symm).2 (by omega),?_⟩;rw[Bool.eq_false_iff];exact fun c=>by have:=(kG h3).1 c;omega
theorem ahead_nn {a b:P2}(ha:lexN a)(hb:lexN b):qS a b=true↔0<zG a b:=by
 have k:∀ x y:Rat,x<0→y<0→0<x*y:=fun x y hx hy=>by
  have h:=zaD (show 0 < -x by grind) (show 0 < -y by grind);rw[Rat.neg_mul,Rat.mul_neg,Rat.neg_neg] at h;exact h
 rcases ha with ha | ⟨ha,ha2⟩<;>rcases hb with hb | ⟨hb,hb2⟩
 ·exact dR ((qt2 ha).trans (qt2 hb).symm)
 ·have h:=k _ _ ha hb2;clear k;rw[kG (by rw[qt2 ha,qt3 hb hb2];decide),qt2 ha,qt3 hb hb2];unfold zG;rw[hb];exact iff_of_true (by decide) (by grind)
 ·have h:=k _ _ ha2 hb;clear k;rw[kG (by rw[qt3 ha ha2,qt2 hb];decide),qt3 ha ha2,qt2 hb];unfold zG;rw[ha];exact iff_of_false (by decide) (by grind)
 ·exact dR ((qt3 ha ha2).trans (qt3 hb hb2).symm)
def mrg:List P2→List P2→List P2
 | [],q=>q
 | a::p,[]=>a::p
 | a::p,b::q=>if qS a b then a::mrg p (b::q) else b::mrg (a::p) q
termination_by p q=>p.length+q.length
theorem mrg_nil (p:List P2):mrg p []=p:=by cases p<;>simp[mrg]
theorem mrg_len (p q:List P2):(mrg p q).length=p.length+q.length:=by
 fun_induction mrg p q<;>simp_all<;>omega
theorem mrg_cut {p1 p2 q1 q2:List P2}(h1:∀ x∈p1,∀ y∈q2,qS x y=true)(h2:∀ y∈q1,∀ x∈p2,qS x y=false):mrg (p1++p2) (q1++q2)=mrg p1 q1++mrg p2 q2:=by
 fun_induction mrg p1 q1 with
 | case1 q =>
  induction q with
  | nil=>rfl
  | cons b q ih =>
   cases p2 with
   | nil=>simp[mrg]
   | cons a p =>
    have:=h2 b (by simp) a (by simp);have ih':=ih fun y hy=>h2 y (by simp[hy]);simp only[zcr,zaR] at ih' ⊢;rw[mrg,this,if_neg (by simp),ih']
 | case2 a p =>
  clear h2;generalize ha:a::p=p' at *;clear ha
  induction p' with
  | nil=>simp[mrg]
  | cons a p ih =>
   have ih':=ih fun x hx y hy=>h1 x (by simp[hx]) y hy;cases q2 with
   | nil=>simp[mrg_nil]
   | cons b q =>
    have:=h1 a (by simp) b (by simp);simp only[zcr,zaR] at ih' ⊢;rw[mrg,this,if_pos rfl,ih']
 | case3 a p b q h ih =>
  simp only[zaR] at ih ⊢;rw[mrg,if_pos h,ih (fun x hx y hy=>h1 x (by simp[hx]) y hy) h2]
 | case4 a p b q h ih =>
  simp only[zaR] at ih ⊢;rw[mrg,if_neg h,ih h1 fun y hy x hx=>h2 y (by simp[hy]) x hx]
def sumP:List P2→P2
 | []=>(0,0)
 | e::l=>addP e (sumP l)
theorem zT3 (l m:List P2):sumP (l++m)=addP (sumP l) (sumP m):=by
 induction l with
 | nil=>unfold addP sumP;rw[Prod.ext_iff];constructor<;>simp[Rat.zero_add]
 | cons a l ih=>rw[List.cons_append,sumP,ih,sumP];unfold addP;rw[Prod.ext_iff];constructor<;>simp only<;>grind
theorem zT2 (p q:List P2):sumP (mrg p q)=addP (sumP p) (sumP q):=by
 fun_induction mrg p q with
 | case1 q=>unfold addP;rw[Prod.ext_iff];constructor<;>simp[sumP,Rat.zero_add]
 | case2 a p=>unfold addP;rw[Prod.ext_iff];constructor<;>simp[sumP,addP,Rat.add_zero]
 | case3 a p b q h ih=>rw[sumP,ih];unfold addP;rw[Prod.ext_iff];constructor<;>simp only[sumP,addP]<;>grind
 | case4 a p b q h ih=>rw[sumP,ih];unfold addP;rw[Prod.ext_iff];constructor<;>simp only[sumP,addP]<;>grind
def wayS (at':P2):List P2→List P2
 | []=>[]
 | [_]=>[]
 | e::f::l=>addP at' e::wayS (addP at' e) (f::l)
def yX:List P2→List P2
 | a::b::r=>subP b a::yX (b::r)
 | _=>[]
theorem iU:∀(X:List P2) (m:P2) (Y:List P2),yX (X++m::Y)=yX (X++[m])++yX (m::Y)
 | [],m,Y=>by simp[yX]
 | [x],m,Y=>by simp[yX]
 | x::y::X,m,Y=>by
  have:=iU (y::X) m Y;simp only[zaR,yX] at this ⊢;rw[this]
theorem iT:∀(a:P2) (X:List P2) (b:P2),sumP (yX (a::(X++[b])))=subP b a
 | a,[],b=>by simp only[List.nil_append,yX,sumP];unfold addP subP;rw[Prod.ext_iff];constructor<;>simp only<;>grind
 | a,x::X,b=>by
  rw[zaR,yX,sumP,iT x X b];unfold addP subP;rw[Prod.ext_iff];constructor<;>simp only<;>grind
def edgN (w:P2):List P2→Prop
 | t::s::r=>zG (subP t s) w≤0∧edgN w (s::r)
 | _=>True
theorem dK (X:List P2)(a b:P2):yX (X++[a,b])=yX (X++[a])++[subP b a]:=by
 rw[show X++[a,b]=X++a::[b] by rfl,iU];rfl
theorem zQ8 {g:P2}:∀ acc:List P2,edgD g acc→∀ e∈yX acc.reverse,0<zG e g
 | [],_,e,he=>by simp[yX] at he
 | [_],_,e,he=>by simp[yX] at he
 | t::s::r,h,e,he=>by
  rw[show (t::s::r).reverse=r.reverse++[s,t] by simp,dK,zad,zan] at he;rcases he with he | rfl
  ·exact zQ8 (s::r) h.2 e (by simpa using he)
  ·exact h.1
theorem zQ7 {g:P2}:∀ acc:List P2,edgN g acc→∀ e∈yX acc.reverse,zG e g≤0
 | [],_,e,he=>by simp[yX] at he
 | [_],_,e,he=>by simp[yX] at he
 | t::s::r,h,e,he=>by
  rw[show (t::s::r).reverse=r.reverse++[s,t] by simp,dK,zad,zan] at he;rcases he with he | rfl
  ·exact zQ7 (s::r) h.2 e (by simpa using he)
  ·exact h.1
theorem zJ0:∀ acc:List P2,acc.Pairwise (fun a b=>ltP b a)→∀ e∈yX acc.reverse,lexP e
 | [],_,e,he=>by simp[yX] at he
 | [_],_,e,he=>by simp[yX] at he
 | t::s::r,h,e,he=>by
  rw[show (t::s::r).reverse=r.reverse++[s,t] by simp,dK,zad,zan] at he;rcases he with he | rfl
  ·exact zJ0 (s::r) (List.pairwise_cons.1 h).2 e (by simpa using he)
  ·exact(zaz.1 h).1 s (by simp)
theorem zT5 {g:P2}(hg:lexP g):∀ acc:List P2,acc≠[]→gF acc→acc.Pairwise (fun a b=>ltP b a)→∃ Y w X,acc=Y++w::X∧edgN g (Y++[w])∧edgD g (w::X)
 | [],h,_,_=>absurd rfl h
 | [t],_,_,_=>⟨[],t,[],rfl,trivial,trivial⟩
 | t::s::r,_,ht,hd=>by
  by_cases c:0<zG (subP t s) g
  ·exact⟨[],t,s::r,rfl,trivial,zQ5 hg _ ht hd fun t' s' r' e=>by injection e with e1 e2;injection e2 with e2 e3;subst e1 e2;exact c⟩
  ·have ht':gF (s::r):=by
    cases r with
    | nil=>trivial
    | cons u r=>exact ht.2
   obtain⟨Y,w,X,e,h1,h2⟩:=zT5 hg (s::r) (by simp) ht' (zaz.1 hd).2;refine⟨t::Y,w,X,by rw[e];rfl,?_,h2⟩;cases Y with
   | nil=>injection e with e1 e2;subst e1;exact⟨by grind,trivial⟩
   | cons y Y=>injection e with e1 e2;subst e1;exact⟨by grind,h1⟩
theorem yK0 {S acc:List P2}{g:P2}(hc:ChOk S acc)(hg:lexP g):∃ Y w X,acc=Y++w::X∧edgN g (Y++[w])∧edgD g (w::X)∧∀ q∈S,zG (subP q w) g≤0:=by
 obtain⟨Y,w,X,rfl,h1,h2⟩:=zT5 hg acc hc.ne hc.trs hc.dec;refine⟨Y,w,X,rfl,h1,h2,fun q hq=>?_⟩;have hl:=hc.lef q hq;have hd:=hc.dec;rcases uB w q with k | k
 ·rcases List.eq_nil_or_concat Y with rfl | ⟨Y',n,rfl⟩
  ·have:=jH (hc.top q hq w rfl) k;subst this;unfold zG subP;simp only;grind
  ·rw[List.concat_eq_append] at hl hd h1;rw[zaB] at hl hd;have k1:=(aY Y' _ hl).1;have k2:zG (subP n w) g≤0:=by
    have:∀ Z:List P2,edgN g (Z++[n,w])→zG (subP n w) g≤0:=fun Z=>by
     induction Z with
     | nil=>exact fun h=>h.1
     | cons z Z ih=>intro h;cases Z with
      | nil=>exact h.2.1
      | cons z' Z=>exact ih h.2
    exact this Y' (by simpa using h1)
   have k3:ltP w n:=(zaz.1 (zbK.1 hd).2.1).1 w (by simp);have:=vY (a:=g) (b:=subP n w) (c:=subP q w) (lexP.le hg) k3 (lR.1 k) (by unfold zG at *; grind) k1;unfold zG at *; grind
 ·rcases X with _ | ⟨p,X⟩
  ·have:=jH (hc.bot q hq w (by simp)) k;subst this;unfold zG subP;simp only;grind
  ·have k1:=(aY Y _ hl).1;have k2:=h2.1;have k3:ltP p w:=(zaz.1 (zbK.1 hd).2.1).1 p (by simp);have:=vY (a:=subP w q) (b:=subP w p) (c:=g) (lR.1 k) k3 (lexP.le hg) (by unfold trn zG subP at *; simp only at *; grind) (Rat.le_of_lt k2);unfold trn zG subP at *; simp only at *; grind
theorem ahead_asym {a b:P2}(h:qS a b=true):qS b a=false:=by
 unfold qS at *;by_cases c:yQ a=yQ b
 ·rw[if_neg (by simp[c])] at h;rw[if_neg (by simp[c]),decide_eq_false];have:=of_decide_eq_true h;unfold zG at *; grind
 ·rw[if_pos c] at h;rw[if_pos (Ne.symm c),decide_eq_false];have:=of_decide_eq_true h;omega
theorem mW {a:P2}:lexP (negP a)↔lexN a:=by unfold lexP lexN negP;simp only;grind
structure Cut (g:P2)(e1 e2:List P2):Prop where
 pos:lexP g→(∀ e∈e1,lexP e∧0<zG e g)∧∀ e∈e2,lexN e∨lexP e∧zG e g≤0
 neg:lexN g→(∀ e∈e1,lexP e∨lexN e∧0<zG e g)∧∀ e∈e2,lexN e∧zG e g≤0
theorem zJ2 {g:P2}{e1 e2 f1 f2:List P2}(hg:lexP g∨lexN g)(a:Cut g e1 e2)(b:Cut g f1 f2):∀ x∈e1,∀ y∈f2,qS x y=true:=fun x hx y hy=>by
 rcases hg with hg | hg
 ·obtain⟨h1,h2⟩:=(a.pos hg).1 x hx;rcases (b.pos hg).2 y hy with h3 | ⟨h3,h4⟩
  ·exact(zZ8 h1 h3).1
  ·exact(ahead_pp h1 h3).2 (yQ6 (lexP.le h1) hg h3 h2 (by unfold zG at *; grind))
 ·obtain⟨h3,h4⟩:=(b.neg hg).2 y hy;rcases (a.neg hg).1 x hx with h1 | ⟨h1,h2⟩
  ·exact(zZ8 h1 h3).1
  ·have:=yQ6 (lexP.le (mW.2 h1)) (mW.2 hg) (mW.2 h3) (by unfold zG negP at *; simp only;grind) (by unfold zG negP at *; simp only;grind);exact(ahead_nn h1 h3).2 (by unfold zG negP at *; simp only at this;grind)
theorem ChOk'.flip {S acc:List P2}(h:ChOk' S acc):ChOk (S.map negP) (acc.map negP):=by
 refine⟨fun x hx=>?_,?_,fun q hq t e=>?_,fun q hq t e=>?_,fun q hq=>?_,(oE acc).2 h.trs,fun c=>h.ne (List.map_eq_nil_iff.1 c)⟩
 ·obtain⟨y,hy,rfl⟩:=zaj.1 hx;exact zaj.2 ⟨y,h.sub y hy,rfl⟩
 ·rw[zcT];exact h.dec.imp fun h=>tP.2 h
 ·obtain⟨y,hy,rfl⟩:=zaj.1 hq;rw[List.head?_map] at e;obtain⟨u,hu,rfl⟩:=Option.map_eq_some_iff.1 e;exact tT.2 (h.top y hy u hu)
 ·obtain⟨y,hy,rfl⟩:=zaj.1 hq;rw[List.getLast?_map] at e;obtain⟨u,hu,rfl⟩:=Option.map_eq_some_iff.1 e;exact tT.2 (h.bot y hy u hu)
 ·obtain⟨y,hy,rfl⟩:=zaj.1 hq;exact(tR acc).2 (h.lef y hy)
theorem zY4 {g:P2}:∀ l:List P2,edgD (negP g) (l.map negP)↔edgD g l
 | [] => .rfl
 | [_] => .rfl
 | t::s::r=>by
  have e:zG (subP (negP t) (negP s)) (negP g)=zG (subP t s) g:=by unfold zG subP negP;simp only;grind
  simp only[zaM,edgD,e];exact and_congr .rfl (zY4 (s::r))
theorem zY3 {g:P2}:∀ l:List P2,edgN (negP g) (l.map negP)↔edgN g l
 | [] => .rfl
 | [_] => .rfl
 | t::s::r=>by
  have e:zG (subP (negP t) (negP s)) (negP g)=zG (subP t s) g:=by unfold zG subP negP;simp only;grind
  simp only[zaM,edgN,e];exact and_congr .rfl (zY3 (s::r))
theorem high_cut {S acc:List P2}{g:P2}(hc:ChOk' S acc)(hg:lexN g):∃ Y w X,acc=Y++w::X∧edgN g (Y++[w])∧edgD g (w::X)∧∀ q∈S,zG (subP q w) g≤0:=by
 obtain⟨Y,w,X,e,h1,h2,h3⟩:=yK0 hc.flip (mW.2 hg);have hn:∀ l:List P2,(l.map negP).map negP=l:=fun l=>by
  rw[List.map_map];conv=>rhs;rw[← List.map_id l]
  exact zbZ fun x _=>mS x
 have e':acc=Y.map negP++negP w::X.map negP:=by
  have:=congrArg (List.map negP) e;rw[hn] at this;simpa using this
 refine⟨Y.map negP,negP w,X.map negP,e',?_,?_,fun q hq=>?_⟩
 ·refine(zY3 _).1 ?_;rw[zaq,hn,zaM,mS];exact h1
 ·refine(zY4 _).1 ?_;rw[zaM,mS,hn];exact h2
 ·have:=h3 (negP q) (zaj.2 ⟨q,hq,rfl⟩);unfold zG subP negP at *; simp only at *; grind
theorem vK:∀ acc:List P2,acc.Pairwise (fun a b=>ltP a b)→∀ e∈yX acc.reverse,lexN e
 | [],_,e,he=>by simp[yX] at he
 | [_],_,e,he=>by simp[yX] at he
 | t::s::r,h,e,he=>by
  rw[show (t::s::r).reverse=r.reverse++[s,t] by simp,dK,zad,zan] at he;rcases he with he | rfl
  ·exact vK (s::r) (List.pairwise_cons.1 h).2 e (by simpa using he)
  ·have:=(zaz.1 h).1 s (by simp);unfold ltP lexP subP at this;unfold lexN subP;simp only at *; grind
def gP (h:List P2):List P2:=if 1<h.length then yX (h++[gp h 0]) else []
theorem rW (a b:P2):addP a (subP b a)=b:=by unfold addP subP;rw[Prod.ext_iff];constructor<;>simp only<;>grind
theorem xJ (a:P2):addP a (0,0)=a:=by unfold addP;rw[Prod.ext_iff];constructor<;>simp only<;>grind
theorem qT (a b c:P2):addP (addP a b) c=addP a (addP b c):=by unfold addP;rw[Prod.ext_iff];constructor<;>simp only<;>grind
theorem zK3 (a b:P2):addP a b=addP b a:=by unfold addP;rw[Prod.ext_iff];constructor<;>simp only<;>grind
theorem yR4 {m w:P2}{X':List P2}(Y X:List P2)(e:Y++w::X=X'++[m]):addP m (sumP (yX (w::X).reverse))=w:=by
 rcases List.eq_nil_or_concat X with rfl | ⟨X,x,hX⟩
 ·have:w=m:=by
   have:=congrArg List.getLast? e;simpa using this
  subst this;exact xJ _
 ·rw[List.concat_eq_append] at hX;subst hX;have:x=m:=by
   have:=congrArg List.getLast? e;rw[show Y++w::(X++[x])=(Y++w::X)++[x] by simp,List.getLast?_concat,List.getLast?_concat] at this;exact Option.some.inj this
  subst this;rw[show (w::(X++[x])).reverse=x::(X.reverse++[w]) by simp,iT,rW]
theorem zX1 {l:List P2}{g:P2}(hs:l.Pairwise ltP)(hne:l≠[])(hg:lexP g∨lexN g) :
  ∃ e1 e2,gP (uC l)=e1++e2∧Cut g e1 e2∧∀ q∈l,zG (subP q (addP (gp (uC l) 0) (sumP e1))) g≤0:=by
 by_cases h2:l.length<2
 ·match l,hne,h2 with
  | [p],_,_ =>
   refine⟨[],[],rfl,⟨fun _=>by simp,fun _=>by simp⟩,fun q hq=>?_⟩;rw[zan.1 hq,show addP (gp (uC [p]) 0) (sumP [])=p from xJ p];unfold zG subP;simp only;grind
 obtain⟨mn,mx,A,B,cl,ch,eS,mnl,mxl,hlt,hmx,hmn,_⟩:=oU (by omega) hs;have eE:gP (uC l)=yX (mx::(A++[mn])).reverse++yX (mn::(B++[mx])).reverse:=by
  unfold gP;rw[eS,if_pos (by simp only[zas,zak];omega),show mn::(A.reverse++mx::B.reverse)++[gp (mn::(A.reverse++mx::B.reverse)) 0]=(mn::A.reverse)++mx::(B.reverse++[mn]) by simp,iU];congr 1<;>congr 1<;>simp
 have e0:gp (uC l) 0=mn:=by rw[eS];rfl
 rw[e0,eE];have low:∀ e∈yX (mx::(A++[mn])).reverse,lexP e:=zJ0 _ cl.dec;have high:∀ e∈yX (mn::(B++[mx])).reverse,lexN e:=vK _ ch.dec;have np:∀ g:P2,lexP g→lexN g→False:=fun g a b=>by unfold lexP lexN at *; grind
 have cut:∀(Y:List P2) (w:P2) (X:List P2),yX (Y++w::X).reverse=yX (w::X).reverse++yX (Y++[w]).reverse:=fun Y w X=>by
  rw[show (Y++w::X).reverse=X.reverse++w::Y.reverse by simp,iU];simp
 rcases hg with hg | hg
 ·obtain⟨Y,w,X,e,h1,h3,h4⟩:=yK0 cl hg;refine⟨yX (w::X).reverse,yX (Y++[w]).reverse++yX (mn::(B++[mx])).reverse,?_,⟨fun _=>⟨fun x hx=>⟨low x ?_,zQ8 _ h3 x hx⟩,fun x hx=>?_⟩,fun h=>(np g hg h).elim⟩,?_⟩
  ·rw[e,cut,zaB]
  ·rw[e,cut];exact zbI _ hx
  ·rcases zad.1 hx with hx | hx
   ·exact .inr ⟨low x (by rw[e,cut];exact List.mem_append_right _ hx),zQ7 _ h1 x hx⟩
   ·exact .inl (high x hx)
  ·rw[yR4 Y X (X':=mx::A) (m:=mn) (by rw[← e];simp)];exact h4
 ·obtain⟨Y,w,X,e,h1,h3,h4⟩:=high_cut ch hg;refine⟨yX (mx::(A++[mn])).reverse++yX (w::X).reverse,yX (Y++[w]).reverse,?_,⟨fun h=>(np g h hg).elim,fun _=>⟨fun x hx=>?_,fun x hx=>⟨high x ?_,zQ7 _ h1 x hx⟩⟩⟩,?_⟩
  ·rw[e,cut,zaB]
  ·rcases zad.1 hx with hx | hx
   ·exact .inl (low x hx)
   ·exact .inr ⟨high x (by rw[e,cut];exact zbI _ hx),zQ8 _ h3 x hx⟩
  ·rw[e,cut];exact List.mem_append_right _ hx
  ·rw[zT3,← qT,show (mx::(A++[mn])).reverse=mn::(A.reverse++[mx]) by simp,iT,rW,yR4 Y X (X':=mn::B) (m:=mx) (by rw[← e];simp)];exact h4
def outS (h k:List P2):List P2:=addP (gp h 0) (gp k 0)::wayS (addP (gp h 0) (gp k 0)) (mrg (gP h) (gP k))
theorem vH {h:List P2}:sumP (gP h)=(0,0):=by
 unfold gP;split
 ·match h with
  | a::r =>
   rw[show a::r++[gp (a::r) 0]=a::(r++[a]) from rfl,iT];unfold subP;rw[Prod.ext_iff];constructor<;>simp only<;>grind
 ·rfl
theorem yF0:∀(e1 e2:List P2) (at':P2),e1≠[]→e2≠[]→addP at' (sumP e1)∈wayS at' (e1++e2)
 | [],_,_,h,_=>absurd rfl h
 | [e],f::e2,a,_,_=>by simp only[zaR,zcr,wayS,sumP];rw[xJ];simp
 | e::f::e1,e2,a,_,h=>by
  have:=yF0 (f::e1) e2 (addP a e) (by simp) h;rw[zaR,zaR,wayS,sumP,← qT];exact zbj _ this
 | [_],[],_,_,h=>absurd rfl h
theorem out_mem {h k e1 e2:List P2}(e:mrg (gP h) (gP k)=e1++e2):addP (addP (gp h 0) (gp k 0)) (sumP e1)∈outS h k:=by
 unfold outS;have z:addP (sumP e1) (sumP e2)=(0,0):=by rw[← zT3,← e,zT2,vH,vH];exact xJ _
 by_cases c1:e1=[]
 ·subst c1;rw[show sumP []=(0,0) from rfl,xJ];simp
 by_cases c2:e2=[]
 ·subst c2;rw[show sumP []=(0,0) from rfl,xJ] at z;rw[z,xJ];simp
 ·rw[e];exact zbj _ (yF0 e1 e2 _ c1 c2)
theorem out_sup {l m:List P2}(hl:l.Pairwise ltP)(hm:m.Pairwise ltP)(nl:l≠[])(nm:m≠[]){a b:P2}(ha:a∈l)(hb:b∈m):Sup (outS (uC l) (uC m)) (addP a b):=fun u v=>by
 by_cases hz:lexP (-v,u)∨lexN (-v,u)
 ·obtain⟨e1,e2,ee,ec,eb⟩:=zX1 hl nl hz;obtain⟨f1,f2,fe,fc,fb⟩:=zX1 hm nm hz;have h1:=zJ2 hz ec fc;have h2:=zJ2 hz fc ec;have em:mrg (gP (uC l)) (gP (uC m))=mrg e1 f1++mrg e2 f2:=by
   rw[ee,fe];exact mrg_cut h1 fun y hy x hx=>ahead_asym (h2 y hy x hx)
  refine⟨_,out_mem em,?_⟩;rw[zT2];have k1:=eb a ha;have k2:=fb b hb;generalize gp (uC l) 0=p at *;generalize gp (uC m) 0=q at *;generalize sumP e1=s at *;generalize sumP f1=t at *;unfold zG subP addP at *; simp only at *; grind
 ·have hu:u=0:=by unfold lexP lexN at hz;simp only at hz;grind
  have hv:v=0:=by unfold lexP lexN at hz;simp only at hz;grind
  refine⟨_,zcn,?_⟩;rw[hu,hv];grind
theorem zI4 {h:List P2}(hne:h≠[]){e1 e2:List P2}(e:gP h=e1++e2):addP (gp h 0) (sumP e1)∈h:=by
 unfold gP at e;split at e
 ·match h,hne with
  | a::r,_ =>
   have e':yX (a::(r++[a]))=e1++e2:=e;have key:∀(r:List P2) (b z:P2) (e1:List P2),yX (b::(r++[z]))=e1++e2→addP b (sumP e1)∈b::(r++[z]):=fun r=>by
    induction r with
    | nil =>
     intro b z e1 e
     match e1,e with
     | [],_=>rw[show sumP []=(0,0) from rfl,xJ];simp
     | [x],e=>
      simp only[zcr,yX,zaR,List.cons.injEq] at e;rw[← e.1,sumP,show sumP []=(0,0) from rfl,xJ,rW];simp
     | x::y::s,e=>simp[yX] at e
    | cons c r ih =>
     intro b z e1 e
     match e1,e with
     | [],_=>rw[show sumP []=(0,0) from rfl,xJ];simp
     | x::s,e =>
      rw[zaR,yX,zaR,List.cons.injEq] at e;have:=ih c z s e.2;rw[← e.1,sumP,← qT,rW];exact zbj _ this
   have:=key r a a e1 e';show addP a (sumP e1)∈a::r;simp only[zae,zad,zan,zaN,or_false] at this ⊢;grind
 ·match h,hne with
  | a::r,_ =>
   obtain⟨rfl,rfl⟩:=List.append_eq_nil_iff.1 e.symm;rw[show sumP []=(0,0) from rfl,xJ];simp
theorem mrg_pre (p q:List P2):∀ {s t:List P2},mrg p q=s++t→∃ p1 p2 q1 q2,p=p1++p2∧q=q1++q2∧sumP s=addP (sumP p1) (sumP q1):=by
 fun_induction mrg p q with
 | case1 q=>exact fun {s t} e=>⟨[],[],s,t,rfl,e,by rw[show sumP []=(0,0) from rfl,zK3,xJ]⟩
 | case2 a p=>exact fun {s t} e=>⟨s,t,[],[],e,rfl,by rw[show sumP []=(0,0) from rfl,xJ]⟩
 | case3 a p b q h ih =>
  intro s t e
  match s,e with
  | [],e=>exact⟨[],_,[],_,rfl,rfl,by rw[show sumP []=(0,0) from rfl,xJ]⟩
  | x::s,e =>
   rw[zaR,List.cons.injEq] at e;obtain⟨p1,p2,q1,q2,h1,h2,h3⟩:=ih e.2;exact⟨a::p1,p2,q1,q2,by rw[h1];rfl,h2,by rw[sumP,sumP,h3,← e.1,qT]⟩
 | case4 a p b q h ih =>
  intro s t e
  match s,e with
  | [],e=>exact⟨[],_,[],_,rfl,rfl,by rw[show sumP []=(0,0) from rfl,xJ]⟩
  | x::s,e =>
   rw[zaR,List.cons.injEq] at e;obtain⟨p1,p2,q1,q2,h1,h2,h3⟩:=ih e.2;exact⟨p1,p2,b::q1,q2,h1,by rw[h2];rfl,by rw[sumP,sumP,h3,← e.1,← qT,zK3 b,qT]⟩
theorem yQ1:∀(es:List P2) (at' c:P2),c∈wayS at' es→∃ s t,es=s++t∧c=addP at' (sumP s)
 | [],_,_,h=>by simp[wayS] at h
 | [_],_,_,h=>by simp[wayS] at h
 | e::f::l,a,c,h=>by
  rw[wayS] at h;rcases zae.1 h with rfl | h
  ·exact⟨[e],f::l,rfl,by rw[sumP,show sumP []=(0,0) from rfl,xJ]⟩
  ·obtain⟨s,t,h1,h2⟩:=yQ1 (f::l) _ c h;exact⟨e::s,t,by rw[h1];rfl,by rw[h2,sumP,qT]⟩
theorem out_of {h k:List P2}(hh:h≠[])(hk:k≠[]){c:P2}(hc:c∈outS h k):∃ a∈h,∃ b∈k,c=addP a b:=by
 have key:∀ s t,mrg (gP h) (gP k)=s++t→c=addP (addP (gp h 0) (gp k 0)) (sumP s)→∃ a∈h,∃ b∈k,c=addP a b:=fun s t e ec=>by
  obtain⟨p1,p2,q1,q2,h1,h2,h3⟩:=mrg_pre _ _ e;refine⟨_,zI4 hh h1,_,zI4 hk h2,?_⟩;rw[ec,h3];unfold addP;rw[Prod.ext_iff];constructor<;>simp only<;>grind
 unfold outS at hc;rcases zae.1 hc with rfl | hc
 ·exact key [] _ rfl (by rw[show sumP []=(0,0) from rfl,xJ])
 ·obtain⟨s,t,h1,h2⟩:=yQ1 _ _ _ hc;exact key s t h1 h2
theorem bE:COrd cmpP:=⟨fun a b=>jD,fun a b=>by rw[aP,kL],fun a b c h k=>by rw[← yV0] at *; exact dV h.le k⟩
noncomputable def hullF (l:List P2):List P2:=uC (setOf cmpP l)
theorem fY (l:List P2):(setOf cmpP l).Pairwise ltP:=(xN bE l).rise.imp fun h=>yV0.2 h
theorem jI (l:List P2):IsHull l (hullF l):=by
 have h:=hullS_ok (fY l);exact⟨h.poly,fun c hc=>(yN bE).1 (h.sub c hc),fun q hq=>h.sup q ((yN bE).2 hq)⟩
theorem yM2 {l m:List P2}(h1:∀ q∈l,Sup m q)(h2:∀ q∈m,Sup l q):hullF l=hullF m:=hull_uniq (jI l) (jI m) h1 h2
theorem hull_congr {l m:List P2}(e:∀ q,q∈l↔q∈m):hullF l=hullF m:=yM2 (fun q hq=>eF ((e q).1 hq)) fun q hq=>eF ((e q).2 hq)
theorem cI {l:List P2}:hullF l=[]↔l=[]:=by
 constructor
 ·intro h
  match l,h with
  | [],_=>rfl
  | p::r,h=>obtain⟨c,hc,_⟩:=(jI (p::r)).sup p (by simp) 0 0;rw[h] at hc;cases hc
 ·intro h;subst h
  match e:hullF [],(jI []).sub with
  | [],_=>rfl
  | p::r,k=>exact absurd (k p (by simp)) (by simp)
theorem nF (l:List P2):(hullF l).length≤l.length:=qZ (jI l).poly.nd (jI l).sub
theorem hullS_fst {l:List P2}(hs:l.Pairwise ltP):∀ q∈l,leP (gp (uC l) 0) q:=fun q hq=>by
 by_cases h2:l.length<2
 ·match l,hq,h2 with
  | [p],hq,_=>rw[zan.1 hq];exact jN _
 obtain⟨mn,mx,A,B,cl,ch,eS,mnl,mxl,hlt,hmx,hmn,_⟩:=oU (by omega) hs;rw[eS];exact hmn q hq
theorem hull_fst {l:List P2}:∀ q∈l,leP (gp (hullF l) 0) q:=fun q hq=>hullS_fst (fY l) q ((yN bE).2 hq)
theorem eB (a b c:P2):trn a a c=0∧trn a b a=0∧trn a b b=0:=by unfold trn zG subP;simp only;grind
theorem hull_left {l:List P2}{q:P2}(hq:Sup (hullF l) q){i:Nat}(hi:i<(hullF l).length):0≤trn (gp (hullF l) i) (nx (hullF l) i) q:=by
 have p:=(jI l).poly;generalize hullF l=h at *;rcases zaf 2 h.length with h3 | h3
 ·exact jY (p.weak hi h3) hq
 ·match h,h3,hi with
  | [a],_,hi =>
   obtain rfl:i=0:=by simpa using hi
   rw[show nx [a] 0=a by simp[nx,gp],show gp [a] 0=a from rfl,(eB a a q).1];exact zaK
  | [a,b],_,hi =>
   have:=yG8 rfl hq;rcases zaf i 1 with c | c
   ·obtain rfl:i=0:=by omega
    have:trn a b q=0:=this;rw[show nx [a,b] 0=b by simp[nx,gp],show gp [a,b] 0=a from rfl,this];exact zaK
   ·obtain rfl:i=1:=by simp only[zas,zbb] at hi;omega
    rw[show nx [a,b] 1=a by simp[nx,gp],show gp [a,b] 1=b from rfl];have:trn a b q=0:=this;unfold trn zG subP at *; simp only at *; grind
def gM (a b:List P2):List P2:=a.flatMap fun x=>b.map fun y=>addP x y
theorem oO {a b:List P2}{q:P2}:q∈gM a b ↔ ∃ x∈a,∃ y∈b,q=addP x y:=by
 unfold gM;simp only[List.mem_flatMap,List.mem_map];exact⟨fun⟨x,hx,y,hy,e⟩=>⟨x,hx,y,hy,e.symm⟩,fun⟨x,hx,y,hy,e⟩=>⟨x,hx,y,hy,e.symm⟩⟩
noncomputable def sumF (a b:List P2):List P2:=hullF (gM a b)
theorem sum_made {a b:List P2}(ha:a≠[])(hb:b≠[]):hullF (outS (hullF a) (hullF b))=sumF a b:=by
 refine yM2 (fun q hq=>?_) fun q hq=>?_
 ·obtain⟨x,hx,y,hy,rfl⟩:=out_of (fun e=>ha (cI.1 e)) (fun e=>hb (cI.1 e)) hq;exact eF (oO.2 ⟨x,(jI a).sub x hx,y,(jI b).sub y hy,rfl⟩)
 ·obtain⟨x,hx,y,hy,rfl⟩:=oO.1 hq;have h:∀ {l:List P2} {x:P2},x∈l→setOf cmpP l≠[]:=fun {l x} hx e=>by have:=(yN bE (l:=l)).2 hx;rw[e] at this;cases this
  exact out_sup (fY a) (fY b) (h hx) (h hy) ((yN bE).2 hx) ((yN bE).2 hy)
theorem yH0 {a b:List P2}:sumF a b=[]↔a=[]∨b=[]:=by
 unfold sumF;rw[cI];constructor
 ·intro h
  match a,b,h with
  | [],_,_=>exact .inl rfl
  | _::_,[],_=>exact .inr rfl
  | _::_,_::_,h=>simp[gM] at h
 ·rintro(rfl | rfl)
  ·rfl
  ·simp[gM]
theorem yF1:∀(es:List P2) (a:P2),(wayS a es).length=es.length-1
 | [],_=>rfl
 | [_],_=>rfl
 | e::f::l,a=>by rw[wayS,zas,yF1 (f::l)];simp
theorem zJ1:∀ C:List P2,(yX C).length=C.length-1
 | []=>rfl
 | [_]=>rfl
 | a::b::r=>by rw[yX,zas,zJ1 (b::r)];simp
theorem zI5 (h:List P2):(gP h).length=if 1<h.length then h.length else 0:=by
 unfold gP;split
 ·rw[zJ1];simp
 ·rfl
theorem out_len (h k:List P2):(outS h k).length≤max 1 (h.length+k.length):=by
 unfold outS;rw[List.length_cons,yF1,mrg_len,zI5,zI5];split<;>split<;>omega
theorem sumF_len {a b:List P2}(ha:a≠[])(hb:b≠[]):(sumF a b).length≤a.length+b.length:=by
 rw[← sum_made ha hb];have h1:=nF (outS (hullF a) (hullF b));have h2:=out_len (hullF a) (hullF b);have h3:=nF a;have h4:=nF b;have:=List.length_pos_iff.2 ha;omega
theorem mI (x:Rat):0≤x*x:=by
 rcases (Rat.le_total:0≤x∨x≤0) with hx | hx
 ·exact zaF hx hx
 ·have:=zaF (show 0 ≤ -x by grind) (show 0 ≤ -x by grind);grind
theorem yN5 {c n:P2}(h:c≠n):0<(n.1-c.1)*(n.1-c.1)+(n.2-c.2)*(n.2-c.2):=by
 have s1:=mI (n.1-c.1);have s2:=mI (n.2-c.2);refine Classical.byContradiction fun k=>h ?_;have z1:(n.1-c.1)*(n.1-c.1)=0:=by grind
 have z2:(n.2-c.2)*(n.2-c.2)=0:=by grind
 exact zbi.2 ⟨by rcases zbp.1 z1 with h | h<;>grind,by rcases zbp.1 z2 with h | h<;>grind⟩
theorem seg_two {c n q:P2}(hcn:c≠n)(h:∀ u v:Rat,u*q.1+v*q.2≤u*c.1+v*c.2∨u*q.1+v*q.2≤u*n.1+v*n.2):∃ t:Rat,0≤t∧t≤1∧q.1=c.1+t*(n.1-c.1)∧q.2=c.2+t*(n.2-c.2):=by
 have h1:=h (n.2-c.2) (-(n.1-c.1));have h2:=h (-(n.2-c.2)) (n.1-c.1);have hz:trn c n q=0:=by unfold trn zG subP;simp only;grind
 obtain⟨t,e1,e2⟩:=fB hz hcn;have hd:=yN5 hcn;have h3:=h (n.1-c.1) (n.2-c.2);have h4:=h (-(n.1-c.1)) (-(n.2-c.2));rw[e1,e2] at h3 h4;refine⟨t,bQ hd ?_,?_,e1,e2⟩
 ·grind
 ·have:=bQ (x:=1-t) hd (by grind);grind
theorem Poly.seg {h:List P2}(p:Poly h)(h2:2≤h.length){i:Nat}(hi:i<h.length){q:P2}(hq:Sup h q) :
  0<trn (gp h i) (nx h i) q ∨ ∃ t:Rat,0≤t∧t≤1∧q.1=(gp h i).1+t*((nx h i).1-(gp h i).1)∧q.2=(gp h i).2+t*((nx h i).2-(gp h i).2):=by
 have hcn:gp h i≠nx h i:=fun e=>dU hi h2 (dI p.nd hi (gN hi) e).symm;rcases zaf 2 h.length with h3 | h3
 ·by_cases k:0<trn (gp h i) (nx h i) q
  ·exact .inl k
  have w:=jY (p.weak hi h3) hq;obtain⟨t,e1,e2⟩:=fB (show trn (gp h i) (nx h i) q=0 by grind) hcn;refine .inr ⟨t,?_,?_,e1,e2⟩
  ·obtain⟨j,hj,ej⟩:=iA hi;have w2:=jY (p.weak hj h3) hq;have hne:(i+1)%h.length≠j:=fun e2=>by
    have h6:(j+1)%h.length=i:=ej;rw[← e2] at h6;rcases zaf (i+1) h.length with c | c
    ·rw[zau c] at h6;rcases zaf (i+1+1) h.length with d | d
     ·rw[zau d] at h6;omega
     ·rw[show i+1+1=h.length by omega,zbz] at h6;omega
    ·rw[show i+1=h.length by omega,zbz,zau (by omega)] at h6;omega
   have k3:=p.conv h3 j ((i+1)%h.length) hj (gN hi) hne (by rw[ej];exact dU hi (by omega));unfold nx at *;rw[ej] at w2 k3;have e:trn (gp h j) (gp h i) q=trn (gp h j) (gp h i) (gp h ((i+1)%h.length))*t:=by unfold trn zG subP;simp only;rw[e1,e2];grind
   rw[e] at w2;exact bQ k3 w2
  ·have w2:=jY (p.weak (gN hi) h3) hq;have hne:((i+1)%h.length+1)%h.length≠i:=fun h6=>by
    rcases zaf (i+1) h.length with c | c
    ·rw[zau c] at h6;rcases zaf (i+1+1) h.length with d | d
     ·rw[zau d] at h6;omega
     ·rw[show i+1+1=h.length by omega,zbz] at h6;omega
    ·rw[show i+1=h.length by omega,zbz,zau (by omega)] at h6;omega
   have k3:=p.conv h3 i _ hi (gN (gN hi)) hne (dU (gN hi) h2);unfold nx at *;have e:trn (gp h ((i+1)%h.length)) (gp h (((i+1)%h.length+1)%h.length)) q=trn (gp h i) (gp h ((i+1)%h.length)) (gp h (((i+1)%h.length+1)%h.length))*(1-t):=by unfold trn zG subP;simp only;rw[e1,e2];grind
   rw[e] at w2;have:=bQ k3 w2;grind
 ·refine .inr (seg_two hcn fun u v=>?_);obtain⟨x,hx,k⟩:=hq u v;obtain⟨m,hm,rfl⟩:=lP hx;by_cases c:m=i
  ·subst c;exact .inl k
  ·have:(i+1)%h.length=m:=by
    have h5:=gN hi;have h6:=dU hi h2;omega
   unfold nx;rw[this];exact .inr k
theorem Poly.far {h:List P2}(p:Poly h)(h2:2≤h.length){i:Nat}(hi:i<h.length):∃ u v:Rat,∀ q,Sup h q→q≠gp h i→u*(gp h i).1+v*(gp h i).2<u*q.1+v*q.2:=by
 have hcn:gp h i≠nx h i:=fun e=>dU hi h2 (dI p.nd hi (gN hi) e).symm;rcases zaf 2 h.length with h3 | h3
 ·obtain⟨j,hj,ej⟩:=iA hi;have hne:(i+1)%h.length≠j:=fun e2=>by
   have h6:(j+1)%h.length=i:=ej;rw[← e2] at h6;rcases zaf (i+1) h.length with c | c
   ·rw[zau c] at h6;rcases zaf (i+1+1) h.length with d | d
    ·rw[zau d] at h6;omega
    ·rw[show i+1+1=h.length by omega,zbz] at h6;omega
   ·rw[show i+1=h.length by omega,zbz,zau (by omega)] at h6;omega
  have k3:=p.conv h3 j ((i+1)%h.length) hj (gN hi) hne (by rw[ej];exact dU hi (by omega));have w1:=fun q hq=>jY (q:=q) (p.weak hi h3) hq;have w2:=fun q hq=>jY (q:=q) (p.weak hj h3) hq;unfold nx at *;rw[ej] at w2 k3;generalize gp h i=c at *;generalize gp h ((i+1)%h.length)=n at *;generalize gp h j=r at *;refine⟨-((n.2-c.2)+(c.2-r.2)),(n.1-c.1)+(c.1-r.1),fun q hq hqc=>?_⟩;have a1:=w1 q hq;have a2:=w2 q hq;refine Classical.byContradiction fun hn=>hqc ?_;have z1:trn c n q=0:=by unfold trn zG subP at *; simp only at *; grind
  have z2:trn r c q=0:=by unfold trn zG subP at *; simp only at *; grind
  have e1:trn r c n*(q.1-c.1)=0:=by unfold trn zG subP at *; simp only at *; grind
  have e2:trn r c n*(q.2-c.2)=0:=by unfold trn zG subP at *; simp only at *; grind
  rcases zbp.1 e1 with f | f
  ·grind
  rcases zbp.1 e2 with g | g
  ·grind
  exact zbi.2 ⟨by grind,by grind⟩
 ·have hd:=yN5 hcn;refine⟨(nx h i).1-(gp h i).1,(nx h i).2-(gp h i).2,fun q hq hqc=>?_⟩;rcases p.seg h2 hi hq with k | ⟨t,zA0,zA1,e1,e2⟩
  ·have hz:trn (gp h i) (nx h i) q=0:=by
    have hm:∀ x∈h,trn (gp h i) (nx h i) x=0:=fun x hx=>by
     obtain⟨m,hm,rfl⟩:=lP hx;by_cases c:m=i
     ·subst c;exact(eB _ _ (gp h m)).2.1
     ·have:(i+1)%h.length=m:=by
       have h5:=gN hi;have h6:=dU hi h2;omega
      unfold nx;rw[this];exact(eB _ _ (gp h m)).2.2
    have a1:=jY (s:=gp h i) (t:=nx h i) (fun x hx=>by rw[hm x hx];exact zaK) hq;have a2:=jY (s:=nx h i) (t:=gp h i) (fun x hx=>by have:=hm x hx;unfold trn zG subP at *; simp only at *; grind) hq;unfold trn zG subP at *; simp only at *; grind
   rw[hz] at k;exact absurd k (by grind)
  ·have tp:0<t:=Classical.byContradiction fun c=>hqc (by
    have:t=0:=by grind
    rw[zbi,e1,e2,this];constructor<;>grind)
   have:=zaD tp hd;rw[e1,e2];grind
def gY (a best x:P2):P2:=if x=a then best else if best=a then x else if trn a best x<0∨trn a best x=0∧farP a best<farP a x then x else best
def eT (l:List P2)(a:P2):P2:=l.foldl (gY a) a
theorem far_seg {c n q:P2}{t:Rat}(ht:0≤t)(e1:q.1=c.1+t*(n.1-c.1))(e2:q.2=c.2+t*(n.2-c.2)):farP c q=t*farP c n:=by
 have h:∀ x:Rat,absR (t*x)=t*absR x:=fun x=>by
  unfold absR;by_cases c1:x<0
  ·rw[if_pos c1];by_cases c2:t*x<0
   ·rw[if_pos c2];grind
   ·rw[if_neg c2];have:=zaF ht (show 0 ≤ -x by grind);grind
  ·rw[if_neg c1,if_neg];have:=zaF ht (show 0≤x by grind);grind
 unfold farP;rw[e1,e2,show c.1-(c.1+t*(n.1-c.1))=t*(c.1-n.1) by grind,show c.2-(c.2+t*(n.2-c.2))=t*(c.2-n.2) by grind,h,h];grind
theorem far_pos {c n:P2}(h:c≠n):0<farP c n:=by
 have k:∀ x:Rat,0≤absR x∧(absR x=0→x=0):=fun x=>by unfold absR;split<;>grind
 unfold farP;have a:=k (c.1-n.1);have b:=k (c.2-n.2);refine Classical.byContradiction fun z=>h (zbi.2 ⟨?_,?_⟩)
 ·have:=a.2 (by grind);grind
 ·have:=b.2 (by grind);grind
theorem xG8 {c:P2}{u v:Rat}:∀(l pre:List P2) (best:P2),(∀ q∈pre++l,q≠c→u*c.1+v*c.2<u*q.1+v*q.2) →
  ((best=c∧∀ q∈pre,q=c)∨best∈pre∧best≠c∧∀ q∈pre,q≠c→0<trn c best q∨trn c best q=0∧farP c q≤farP c best) →
  (l.foldl (gY c) best=c∧∀ q∈pre++l,q=c)∨l.foldl (gY c) best∈pre++l∧l.foldl (gY c) best≠c∧∀ q∈pre++l,q≠c→0<trn c (l.foldl (gY c) best) q∨trn c (l.foldl (gY c) best) q=0∧farP c q≤farP c (l.foldl (gY c) best)
 | [],pre,best,_,h=>by simpa using h
 | x::l,pre,best,hf,h=>by
  have key:=xG8 l (pre++[x]) (gY c best x) (by simpa using hf) ?_
  ·simpa using key
  unfold gY;by_cases hx:x=c
  ·rw[if_pos hx];rcases h with⟨h1,h2⟩ | ⟨h1,h2,h3⟩
   ·refine .inl ⟨h1,fun q hq=>?_⟩;rcases zad.1 hq with hq | hq
    ·exact h2 q hq
    ·rw[zan.1 hq,hx]
   ·refine .inr ⟨zbI _ h1,h2,fun q hq hqc=>?_⟩;rcases zad.1 hq with hq | hq
    ·exact h3 q hq hqc
    ·exact absurd ((zan.1 hq).trans hx) hqc
  rw[if_neg hx];rcases h with⟨h1,h2⟩ | ⟨h1,h2,h3⟩
  ·rw[if_pos h1];refine .inr ⟨by simp,hx,fun q hq hqc=>?_⟩;rcases zad.1 hq with hq | hq
   ·exact absurd (h2 q hq) hqc
   ·rw[zan.1 hq];exact .inr ⟨(eB c x x).2.2,zaK⟩
  rw[if_neg h2];have fx:=hf x (by simp) hx;have fb:=hf best (by simp[h1]) h2;by_cases hb:trn c best x<0∨trn c best x=0∧farP c best<farP c x
  ·rw[if_pos hb];refine .inr ⟨by simp,hx,fun q hq hqc=>?_⟩;rcases zad.1 hq with hq | hq
   ·have fq:=hf q (by simp[hq]) hqc;have e:((u*best.1+v*best.2)-(u*c.1+v*c.2))*trn c x q=((u*x.1+v*x.2)-(u*c.1+v*c.2))*trn c best q+((u*q.1+v*q.2)-(u*c.1+v*c.2)) * -trn c best x:=by unfold trn zG subP;simp only;grind
    have pb:0<(u*best.1+v*best.2)-(u*c.1+v*c.2):=by grind
    have px:0<(u*x.1+v*x.2)-(u*c.1+v*c.2):=by grind
    have pq:0<(u*q.1+v*q.2)-(u*c.1+v*c.2):=by grind
    generalize (u*best.1+v*best.2)-(u*c.1+v*c.2)=B at *;generalize (u*x.1+v*x.2)-(u*c.1+v*c.2)=Xx at *;generalize (u*q.1+v*q.2)-(u*c.1+v*c.2)=Q at *;rcases h3 q hq hqc with g | ⟨g,g2⟩
    ·refine .inl (iD pb ?_);have m1:=zaD px g;have m2:=zaF (zaP pq) (show 0 ≤ -trn c best x by grind);grind
    ·rcases hb with hb | ⟨hb,hb2⟩
     ·refine .inl (iD pb ?_);have m2:=zaD pq (show 0 < -trn c best x by grind);rw[e,g];grind
     ·refine .inr ⟨?_,zck g2 (zaP hb2)⟩;have:B*trn c x q=0:=by rw[e,g,hb];grind
      rcases zbp.1 this with z | z
      ·rw[z] at pb;exact absurd pb (by grind)
      ·exact z
   ·rw[zan.1 hq];exact .inr ⟨(eB c x x).2.2,zaK⟩
  ·rw[if_neg hb];refine .inr ⟨zbI _ h1,h2,fun q hq hqc=>?_⟩;rcases zad.1 hq with hq | hq
   ·exact h3 q hq hqc
   ·rw[zan.1 hq];by_cases z:trn c best x=0
    ·exact .inr ⟨z,by grind⟩
    ·exact .inl (by grind)
theorem next_ok {l:List P2}(h2:2≤(hullF l).length){i:Nat}(hi:i<(hullF l).length):eT l (gp (hullF l) i)=nx (hullF l) i:=by
 have k:=jI l;obtain⟨u,v,hf⟩:=k.poly.far h2 hi;have hcn:gp (hullF l) i≠nx (hullF l) i:=fun e=>dU hi h2 (dI k.poly.nd hi (gN hi) e).symm;have hn:=k.sub _ (jJ (gN hi));have key:=xG8 (c:=gp (hullF l) i) (u:=u) (v:=v) l [] (gp (hullF l) i) (fun q hq hqc=>hf q (k.sup q (by simpa using hq)) hqc) (.inl ⟨rfl,by simp⟩);rw[zcr] at key;change ((eT l (gp (hullF l) i))=_∧_)∨(eT l (gp (hullF l) i))∈l∧(eT l (gp (hullF l) i))≠_∧∀ q∈l,q≠_→0<trn _ (eT l (gp (hullF l) i)) q∨trn _ (eT l (gp (hullF l) i)) q=0∧_≤farP _ (eT l (gp (hullF l) i)) at key;generalize eT l (gp (hullF l) i)=best at *;rcases key with⟨_,h⟩ | ⟨h3,h4,h5⟩
 ·exact absurd (h _ hn).symm hcn
 have g:=h5 _ hn (Ne.symm hcn);have hs:=k.poly.seg h2 hi (k.sup best h3);unfold nx at *;generalize gp (hullF l) i=c at *;generalize gp (hullF l) ((i+1)%(hullF l).length)=n at *;have e0:trn c best n = -trn c n best:=by unfold trn zG subP;simp only;grind
 rcases hs with hs | ⟨t,zA0,zA1,e1,e2⟩
 ·rw[e0] at g;grind
 ·have ez:trn c n best=0:=by unfold trn zG subP;simp only;rw[e1,e2];grind
  rcases g with g | ⟨_,g⟩
  ·rw[e0,ez] at g;exact absurd g (by grind)
  ·rw[far_seg zA0 e1 e2] at g;have fp:=far_pos hcn;have:t=1:=by
    refine Classical.byContradiction fun c0=>?_;have:=zaD (show 0<1-t by grind) fp;grind
   rw[zbi,e1,e2,this];constructor<;>grind
end Go.SL
namespace Go.Proofs.YtalkinejknjidaaGreatDoor
open Go.SL Go.RowKit Go.Proofs Tryz
section
variable {Ψ Φ : PV} {n m N : Nat} {p q : P2} {a b : List P2}
theorem vpt_pl [h:VPt Ψ n a]{M:Nat→Prop}{w:World}{v:Value}(h1:Ψ.p M w v):∀ x∈a,plen x (n+1):=fun x hx=>by
 obtain⟨cs,h3,h2⟩:=(h.h h1).row;obtain⟨i,hi,rfl⟩:=zaZ.1 hx;obtain⟨us,_,_,s,x,d,t,b,e,_,g⟩:=h2 i _ (zah hi);exact⟨g.x.rlen,g.y.rlen⟩
end
theorem ps_nil0 {k:Nat}:PSub (exP (.slice none 0 0)) (sv (sl k [])):=fun M w v h=>by
 obtain rfl:v = .slice none 0 0:=h;exact⟨_,[],rfl,⟨by simp,by simp,none,0,rfl,zac _,.inl rfl⟩,rfl,by simp[uV]⟩
theorem sub_nought (p:P2):subP (((0:Nat):Rat),((0:Nat):Rat)) p=negP p:=by
 unfold subP negP;rw[Prod.ext_iff];constructor<;>simp only<;>grind
theorem k8neg {Ψ:PV}{p:P2}{n:Nat}[h:QP Ψ n p](hn:n≤800):CTy prog 256 [Ψ] (ag (ptc (n+5) (negP p))):=by
 refine yE (σs:=[ag (ptq n p)]) ?_ (fs1 qp_q fs0);refine fw [.cell 2 39] func256 fun X=>?_;iterate 3 refine u ?_
 refine u fun b2=>?_;iterate 2 refine u ?_
 refine zL 3 mixed rfl rfl ?_;repeat refine u ?_
 refine zC rfl rfl (k8of (by(simp;done)) (by(simp;done))) ?_;repeat refine u ?_
 refine zC rfl rfl (kD (by omega) (by omega)) ?_;repeat refine u ?_
 refine zH 0 rfl rfl ?_;repeat refine u ?_
 refine⟨[_],zN 0 rfl rs0,yJ ?_⟩;exact sV (p:=subP (((0:Nat):Rat),((0:Nat):Rat)) p) (sub_nought p) (by omega)
theorem pcx_n {n:Nat}{l:List PX}(h:∀ a∈l,big2 a≤n):PSub (sv (pcx l)) (sv (pcs n (l.map px))):=fun M w v k=>by
 unfold pcx pcs at *;rw[List.map_map];exact dM (f:=ptx) (g:=ptq n ∘ px) (fun a ha _ _ _=>by
  have:=h a ha;unfold big2 m4 at this;dsimp only at this;exact xD3 a (by omega) (by omega) (by omega) (by omega)) (fun _=>rfl) k
theorem sum_len' (a b:List P2):(sumF a b).length≤a.length+b.length:=by
 by_cases ha:a=[]
 ·rw[yH0.2 (.inl ha)];simp
 by_cases hb:b=[]
 ·rw[yH0.2 (.inr hb)];simp
 exact sumF_len ha hb
instance:TAr prog 100 3 6:=⟨_,_,_,_,_,underlying100,sz39,yR3,rfl⟩
theorem cp_q {c:CT}{n:Nat}{q:P2}[h:CP c n q]{M:Nat→Prop}{w:World}{us:List Value}(k:c.p M w us):(ptq n q).p M w us:=by
 obtain⟨us',e,k'⟩:=qp_q (Ψ:=ag c) (n:=n) (q:=q) M w (.agg us.toArray) ⟨us,rfl,k⟩;have:us=us':=by simpa using e
 rw[this];exact k'
theorem tri_q {c1 c2 c3:CT}{m:Nat}{a b c:P2}[h1:CP c1 m a][h2:CP c2 m b][h3:CP c3 m c]:PSub (ag (st [c1,c2,c3])) (ag (st [ptq m a,ptq m b,ptq m c])):=fun M w v ⟨us,e,x,y,e1,k1,x2,y2,e2,k2,x3,y3,e3,k3,k4⟩ =>
 ⟨us,e,x,y,e1,cp_q k1,x2,y2,e2,cp_q k2,x3,y3,e3,cp_q k3,k4⟩
theorem k18corn {n:Nat}{a b c:P2}:CTy prog 97 [ag (st [ptq n a,ptq n b,ptq n c])] (sv (sl 6 ([a,b,c].map (ptq n)))):=by
 refine fw [.tmp 2] func97 fun X=>?_;repeat refine u ?_
 refine zA1 (oia 0 rfl rfl rfl rfl rfl) ?_;repeat refine u ?_
 refine zA1 (oia 1 rfl rfl rfl rfl rfl) ?_;repeat refine u ?_
 refine zA1 (oia 2 rfl rfl rfl rfl rfl) ?_;repeat refine u ?_
 exact e
theorem yT0 {d:PX}{n:Nat}(h:big2 d≤n){M:Nat→Prop}{w:World}{us:List Value}(k:(ptx d).p M w us):(ptq n (px d)).p M w us:=by
 unfold big2 m4 at h;dsimp only at h;exact xD3 d (by omega) (by omega) (by omega) (by omega) k
theorem trx_c {a b c:PX}{n:Nat}(h1:big2 a≤n)(h2:big2 b≤n)(h3:big2 c≤n):∀ M w us,(st [ptx a,ptx b,ptx c]).p M w us→(st [ptq n (px a),ptq n (px b),ptq n (px c)]).p M w us:=fun M w us ⟨x,y,e1,k1,x2,y2,e2,k2,x3,y3,e3,k3,k4⟩ =>
 ⟨x,y,e1,yT0 h1 k1,x2,y2,e2,yT0 h2 k2,x3,y3,e3,yT0 h3 k3,k4⟩
theorem k18cornc {c1 c2 c3:CT}{m:Nat}{a b c:P2}[h1:CP c1 m a][h2:CP c2 m b][h3:CP c3 m c]:CTy prog 97 [ag (st [c1,c2,c3])] (sv (sl 6 ([a,b,c].map (ptq m)))):=yE k18corn (fs1 tri_q fs0)
abbrev TX3:=PX×PX×PX
def trx (t:TX3):CT:=st [ptx t.1,ptx t.2.1,ptx t.2.2]
def trl (t:TX3):List PX:=[t.1,t.2.1,t.2.2]
instance:Df TX3:=⟨(Df.d,Df.d,Df.d)⟩
theorem zW9 {a b c:PX}:CTy prog 97 [ag (st [ptx a,ptx b,ptx c])] (sv (pcx [a,b,c])):=by
 refine fw [.tmp 2] func97 fun X=>?_;repeat refine u ?_
 refine zA1 (oia 0 rfl rfl rfl rfl rfl) ?_;repeat refine u ?_
 refine zA1 (oia 1 rfl rfl rfl rfl rfl) ?_;repeat refine u ?_
 refine zA1 (oia 2 rfl rfl rfl rfl rfl) ?_;repeat refine u ?_
 exact e
def vB (l:List TX3):Bool:=decide (8<l.length) || l.any fun t=>gr18 (trl t)
theorem gtris_at {l:List TX3}{i:Nat}(h:i<l.length)(k:gr18 (trl (l.getD i Df.d))=true):vB l=true:=by
 rw[zag,zah h,zbw] at k;unfold vB;rw[Bool.or_eq_true];exact .inr (zcH.2 ⟨_,zaI h,k⟩)
theorem kgtris {l:List TX3}:CTy prog 96 [sv (sl 18 (l.map trx))] (exP (.bool (vB l))):=by
 refine fw [.tmp 2] func96 fun X=>?_;repeat refine u ?_
 refine lp (σ:=Nat) [0] (fun i=>[(3,True,zI i)]) (fun i=>[]) (fun i=>i≤l.length∧i≤9∧∀ j,j<i→gr18 (trl (l.getD j Df.d))=false) (fun i=>l.length-i) (0) (⟨by omega,by omega,by omega⟩) fun i hJ Y _=>?_;obtain⟨hi,h9,hs⟩:=hJ;repeat refine u ?_
 refine ti (fun c0=>?_) fun c0=>?_;repeat refine u ?_
 refine zA1 (oix _ rfl rfl rfl (fun _=>rfl) (fun _=>(by(have e0:=dand c0;omega)))) ?_;repeat refine u ?_
 refine zB rfl rfl zW9 ?_;refine zB rfl rfl kg18 ?_;repeat refine u ?_
 refine ti (fun c1=>?_) fun c1=>?_;repeat refine u ?_
 refine e ?_;refine psb ?_;rotate_left;repeat refine u ?_
 rotate_left;repeat refine u ?_
 refine e ?_;refine psb ?_;rotate_left
 ·have:=dand c0;exact(gtris_at (i:=i) (by omega) c1.h).symm
 ·have:=dand c0;refine nxt (i+1) ?_;refine⟨by omega,by omega,fun j hj=>?_⟩;rcases zaf j i with c | c
  ·exact hs j c
  ·rw[show j=i by omega];exact c1.h
 ·have:=dor c0;unfold vB;rw[zct,zbN,decide_eq_true_eq,decide_eq_true_eq,zcH];refine⟨fun h => .inl (by omega),fun h=>?_⟩;rcases h with h | ⟨a,ha,h⟩
  ·omega
  ·obtain⟨k,hk,rfl⟩:=zaZ.1 ha;rcases zaf k i with c | c
   ·have h2:=hs k c;rw[zag,zah hk,zbw,h] at h2;cases h2
   ·omega
theorem xG0 {Ψ:PV}{p:Rat}{n:Nat}[h:QR Ψ n p](hn:n≤900):CTy prog 191 [Ψ] (ag (rtc (n+5) (absR p))):=by
 refine yE (σs:=[ag (rtq n p)]) ?_ (fs1 qr_q fs0);refine fw [.cell 2 29] func191 fun X=>?_;iterate 3 refine u ?_
 refine u fun b2=>?_;repeat refine u ?_
 refine zB rfl rfl (oR (by omega)) ?_;repeat refine u ?_
 refine ti (fun c0=>?_) fun c0=>?_;refine u ?_;refine zL 3 mixed rfl rfl ?_;repeat refine u ?_
 refine zC rfl rfl (k7of (by(simp;done))) ?_;repeat refine u ?_
 refine zC rfl rfl (mZ (by omega) (by omega)) ?_;repeat refine u ?_
 refine e ?_;rotate_left;repeat refine u ?_
 refine zB rfl rfl (jO (by omega)) ?_;repeat refine u ?_
 refine e ?_;rotate_left
 ·have h:=pX.1 (dt c0);exact cF (by omega) (by unfold absR;rw[if_pos h];grind)
 ·have h:¬ p<0:=fun k=>df c0 (pX.2 k);exact cF (by omega) (by unfold absR;rw[if_neg h])
theorem k20turn {Ψ Φ Θ:PV}{a b c:P2}{n m k:Nat}[h1:QP Ψ n a][h2:QP Φ m b][h3:QP Θ k c](hn:n≤90)(hm:m≤90)(hk:k≤90):CTy prog 344 [Ψ,Φ,Θ] (exP (.int .i64 (sgnR (trn a b c)))):=by
 refine yE (σs:=[ag (ptq n a),ag (ptq m b),ag (ptq k c)]) ?_ (fs1 qp_q (fs1 qp_q (fs1 qp_q fs0)));refine fw [.tmp 6] func344 fun X=>?_;iterate 8 refine u ?_
 refine zL 9 mixed rfl rfl ?_;repeat refine u ?_
 refine zC rfl rfl (kD (by omega) (by omega)) ?_;repeat refine u ?_
 refine zC rfl rfl (kD (by omega) (by omega)) ?_;refine zC rfl rfl (rK (by omega) (by omega)) ?_;refine zC rfl rfl (oR (by omega)) ?_;repeat refine u ?_
 exact e
theorem yW8 {Ψ Φ:PV}{a b:P2}{n m:Nat}[h1:QP Ψ n a][h2:QP Φ m b](hn:n≤90)(hm:m≤90):CTy prog 116 [Ψ,Φ] (ag (rtc (2*(n+m+8)+8) (farP a b))):=by
 refine yE (σs:=[ag (ptq n a),ag (ptq m b)]) ?_ (fs1 qp_q (fs1 qp_q fs0));refine fw [.cell 4 29] func116 fun X=>?_;iterate 4 refine u ?_
 refine u fun b4=>?_;repeat refine u ?_
 refine zB rfl rfl (kD (by omega) (by omega)) ?_;refine u fun b5=>?_;refine zH 0 rfl rfl (zR (zU (s:=5) 0 rfl rfl) ?_);iterate 2 refine u ?_
 refine zL 8 mixed rfl rfl ?_;repeat refine u ?_
 refine zC rfl rfl (xG0 (by omega)) ?_;repeat refine u ?_
 refine zC rfl rfl (xG0 (by omega)) ?_;repeat refine u ?_
 refine zC rfl rfl (nA (by omega)) ?_;repeat refine u ?_
 refine zH 0 rfl rfl ?_;repeat refine u ?_
 refine⟨[_],zN 0 rfl rs0,yJ ?_⟩;exact cF (by omega) rfl
theorem k20next {l:List P2}{a:P2}{n:Nat}(hn:n≤90)(hl:l.length≤1000):CTy prog 309 [sv (sl 6 (l.map (ptc n))),ag (ptc n a)] (ag (ptc n (eT l a))):=by
 refine fw [.cell 4 39] func309 fun X=>?_;iterate 3 refine u ?_
 refine u fun b4=>?_;iterate 4 refine u ?_
 refine u fun b5=>?_;refine zH 0 rfl rfl ?_;repeat refine u ?_
 have step:∀ i,i<l.length→(l.take (i+1)).foldl (gY a) a=gY a ((l.take i).foldl (gY a) a) (gp l i):=fun i hi=>by
  rw[(zP (Df.d:P2) hi).1,List.foldl_append];rfl
 refine lp (σ:=Nat) [0,3,4,5] (fun i=>[(6,True,zI i)]) (fun i=>[.blk b5 39 [ptc n ((l.take i).foldl (gY a) a)],.blk b4 39 (zc (.agg #[.bool false,.slice none 0 0,.slice none 0 0,.bool false,.slice none 0 0,.slice none 0 0]))]) (fun i=>i≤l.length) (fun i=>l.length-i) (0) ((by simp)) fun i hJ Y _=>?_;generalize hb:(l.take i).foldl (gY a) a=best;repeat refine u ?_
 refine ti (fun c0=>?_) fun c0=>?_;iterate 5 refine u ?_
 refine zL 6 mixed rfl rfl ?_;repeat refine u ?_
 refine d1 (oix _ rfl rfl rfl (fun _=>rfl) (fun _=>(by(have e0:=dt c0;omega)))) ?_;repeat refine u ?_
 refine zC rfl rfl (mX (by omega) (by omega)) ?_;repeat refine u ?_
 refine ti (fun c1=>?_) fun c1=>?_;repeat refine u ?_
 rotate_left;repeat refine u ?_
 refine zB rfl rfl (mX (by omega) (by omega)) ?_;repeat refine u ?_
 refine ti (fun c2=>?_) fun c2=>?_;repeat refine u ?_
 refine zA1 (oix _ rfl rfl rfl (fun _=>rfl) (fun _=>(by(have e0:=dt c0;have e1:=df c1;have e2:=dt c2;omega)))) ?_;repeat refine u ?_
 refine zH 0 rfl rfl ?_;repeat refine u ?_
 rotate_left;iterate 2 refine u ?_
 refine zL 8 mixed rfl rfl ?_;repeat refine u ?_
 refine d1 (oix _ rfl rfl rfl (fun _=>rfl) (fun _=>(by(have e0:=dt c0;have e1:=df c1;have e2:=df c2;omega)))) ?_;repeat refine u ?_
 refine zC rfl rfl (k20turn (by omega) (by omega) (by omega)) ?_;iterate 5 refine u ?_
 refine zL 19 mixed rfl rfl ?_;repeat refine u ?_
 refine d1g rfl rfl (oca rfl rfl fun g=>yW8 (by omega) (by omega)) ?_;repeat refine u ?_
 refine d1g rfl rfl (oix _ rfl rfl rfl (fun g=>rfl) (fun g=>(by(have e0:=dt c0;have e1:=df c1;have e2:=df c2;omega)))) ?_;repeat refine u ?_
 refine d1g rfl rfl (oca rfl rfl fun g=>yW8 (by omega) (by omega)) ?_;refine d1g rfl rfl (oca rfl rfl fun g=>gO (by omega) (by omega)) ?_;repeat refine u ?_
 refine ti (fun c3=>?_) fun c3=>?_;repeat refine u ?_
 refine zA1 (omv rfl) ?_;refine zA1 (omv rfl) ?_;refine zA1 (oix _ rfl rfl rfl (fun _=>rfl) (fun _=>(by(have e0:=dt c0;have e1:=df c1;have e2:=df c2;omega)))) ?_;repeat refine u ?_
 refine zH 0 rfl rfl ?_;repeat refine u ?_
 refine zA1 (omv rfl) ?_;repeat refine u ?_
 rotate_left;repeat refine u ?_
 rotate_left;repeat refine u ?_
 refine zH 1 rfl rfl ?_;repeat refine u ?_
 refine⟨[_],zN 1 rfl rs0,yJ ?_⟩;rotate_left
 ·have e:(l.take (i+1)).foldl (gY a) a=best:=by
   rw[step i (by have:=dt c0;omega),hb];unfold gY;rw[if_pos (show gp l i=a from jD.1 (dt c1))]
  refine⟨i+1,tes ?_ ?_ ?_,(by(have e0:=dt c0;have e1:=dt c1;omega)),(by(have e0:=dt c0;have e1:=dt c1;omega))⟩;refine zA rfl tn;refine zA rfl (zA rfl (zA rfl (zA rfl tn)));rw[e];exact zaa _
 ·have h1:¬ gp l i=a:=fun c=>df c1 (jD.2 c);have e:(l.take (i+1)).foldl (gY a) a=gp l i:=by
   rw[step i (by have:=dt c0;omega),hb];unfold gY;rw[if_neg h1,if_pos (show best=a from jD.1 (dt c2))]
  refine⟨i+1,tes ?_ ?_ ?_,(by(have e0:=dt c0;have e1:=df c1;have e2:=dt c2;omega)),(by(have e0:=dt c0;have e1:=df c1;have e2:=dt c2;omega))⟩;refine zA rfl tn;refine zA rfl (zA rfl (zA rfl (zA rfl tn)));rw[e];exact zaa _
 ·have h1:¬ gp l i=a:=fun c=>df c1 (jD.2 c);have h2:¬ best=a:=fun c=>df c2 (jD.2 c);have h3:trn a best (gp l i)<0∨trn a best (gp l i)=0∧farP a best<farP a (gp l i):=by
   have h:=c3.h;rw[zbN,zam,decide_eq_true_eq,decide_eq_true_eq,decide_eq_true_eq,pX,fX,xH] at h;exact h
  have e:(l.take (i+1)).foldl (gY a) a=gp l i:=by
   rw[step i (by have:=dt c0;omega),hb];unfold gY;rw[if_neg h1,if_neg h2,if_pos h3]
  refine⟨i+1,tes ?_ ?_ ?_,(by(have e0:=dt c0;have e1:=df c1;have e2:=df c2;omega)),(by(have e0:=dt c0;have e1:=df c1;have e2:=df c2;omega))⟩;refine zA rfl tn;refine zA rfl (zA rfl (zA rfl (zA rfl tn)));rw[e];exact zaa _
 ·have h1:¬ gp l i=a:=fun c=>df c1 (jD.2 c);have h2:¬ best=a:=fun c=>df c2 (jD.2 c);have h3:¬ (trn a best (gp l i)<0∨trn a best (gp l i)=0∧farP a best<farP a (gp l i)):=by
   have h:=c3.h;rw[Bool.or_eq_false_iff,zcR,decide_eq_false_iff_not,decide_eq_false_iff_not,decide_eq_false_iff_not,pX,fX,xH] at h;exact fun k=>k.elim h.1 fun k=>h.2.elim (fun h=>h k.1) fun h=>h k.2
  have e:(l.take (i+1)).foldl (gY a) a=best:=by
   rw[step i (by have:=dt c0;omega),hb];unfold gY;rw[if_neg h1,if_neg h2,if_neg h3]
  refine⟨i+1,tes ?_ ?_ ?_,(by(have e0:=dt c0;have e1:=df c1;have e2:=df c2;omega)),(by(have e0:=dt c0;have e1:=df c1;have e2:=df c2;omega))⟩;refine zA rfl tn;refine zA rfl (zA rfl (zA rfl (zA rfl tn)));rw[e];exact zaa _
 ·have:=df c0;rw[← hb,zaw (by omega)];exact PSub.refl _
theorem yG9 {x q:P2}(h:Sup [x] q):q=x:=by
 have e:∀ u v:Rat,u*q.1+v*q.2≤u*x.1+v*x.2:=fun u v=>by
  obtain⟨c,hc,h⟩:=h u v;rw[zan] at hc;rw[hc] at h;exact h
 have a:=e 1 0;have b:=e (-1) 0;have c:=e 0 1;have d:=e 0 (-1);rw[zbi];constructor<;>grind
theorem nE (l:List P2):hullF (setOf cmpP l)=hullF l:=hull_congr fun q=>yN bE
theorem hull_few {l:List P2}(h:(setOf cmpP l).length<2):setOf cmpP l=hullF l:=by
 unfold hullF uC;rw[if_pos (by omega)]
theorem hull_two {l:List P2}(h:2≤(setOf cmpP l).length):2≤(hullF l).length:=by
 have ok:=jI l;refine zcp fun c=>?_
 match hs:setOf cmpP l,h with
 | x::y::r,_ =>
  have hp:=fY l;rw[hs] at hp;have hxy:=(zaz.1 hp).1 y (by simp);have hx:x∈l:=(yN bE).1 (by rw[hs];simp);have hy:y∈l:=(yN bE).1 (by rw[hs];simp)
  match he:hullF l,c with
  | [],_=>rw[cI] at he;rw[he] at hx;cases hx
  | [z],_ =>
   have h1:=ok.sup _ hx;have h2:=ok.sup _ hy;rw[he] at h1 h2;have h1:=yG9 h1;have h2:=yG9 h2;exact hxy.ne (h1.trans h2.symm)
  | _::_::_,c=>simp only[zas] at c;omega
theorem set_fst {l:List P2}(h:l≠[]):gp (setOf cmpP l) 0=gp (hullF l) 0:=by
 have ok:=jI l;have hn:hullF l≠[]:=fun c=>h (cI.1 c);have h1:gp (hullF l) 0∈setOf cmpP l:=(yN bE).2 (ok.sub _ (jJ (List.length_pos_iff.2 hn)))
 match hs:setOf cmpP l,h1 with
 | x::r,h1 =>
  have hp:=fY l;rw[hs] at hp;have hx:x∈l:=(yN bE).1 (by rw[hs];simp);have h2:=hull_fst _ hx;show x=_;rcases zae.1 h1 with e | e
  ·exact e.symm
  ·have h3:=(zaz.1 hp).1 _ e;exfalso;generalize gp (hullF l) 0=y at *;exact(dV h2 h3).ne rfl
theorem k20hull {l:List P2}{n:Nat}(hn:n≤80)(hl:l.length≤100)(h1:∀ x∈l,plen x (n+1)):CTy prog 255 [sv (sl 6 (l.map (ptq n)))] (sv (sl 6 ((hullF l).map (ptc (n+1))))):=by
 refine fw [.tmp 2] func255 fun X=>?_;repeat refine u ?_
 refine yR (σ:=Nat) (fun i=>[(4,True,zI i),(3,True,sv (sl 6 ((setOf cmpP (l.take i)).map (ptc (n+1)))))]) (fun i=>[]) (fun i=>i≤l.length) (fun i=>l.length-i) (0) (tk 0 rfl (tk 2 rfl tn)) ?_ rfl ((by omega)) (fun i hJ Y _=>?_);refine zA rfl ?_;refine tc rfl ?_ ?_;rotate_left;refine tn;rotate_left
 ·rw[zcy,show setOf cmpP ([]:List P2)=[] from zcC.1 (Nat.le_zero.1 (yY bE [])),zba];exact ps_nil0
 have hsl:∀ i,(setOf cmpP (l.take i)).length≤100:=fun i=>zab (yY bE _) (by rw[zaG];omega);have hsl2:(setOf cmpP l).length≤100:=zab (yY bE _) hl;repeat refine u ?_
 refine ti (fun c0=>?_) fun c0=>?_;repeat refine u ?_
 refine zA1 (oix _ rfl rfl rfl (fun _=>rfl) (fun _=>(by(have e0:=dt c0;omega)))) ?_;repeat refine u ?_
 refine zB rfl rfl (yC9 (by omega) (by omega) ?_ ?_) ?_;rotate_left;rotate_left;repeat refine u ?_
 rotate_left;repeat refine u ?_
 refine ti (fun c1=>?_) fun c1=>?_;repeat refine u ?_
 refine e ?_;rotate_left;repeat refine u ?_
 refine zA1 (oix _ rfl rfl rfl (fun _=>rfl) (fun _=>(by(have e0:=df c1;simp;omega)))) ?_;refine u ?_;refine tbs rfl rfl rfl rfl rfl rfl fun r27=>?_;repeat refine u ?_
 rotate_left
 ·exact zab (hsl i) (by omega)
 ·have h:=h1 _ (jJ (h:=l) (i:=i) (by have:=dt c0;omega));exact⟨h.x,h.y⟩
 ·refine⟨i+1,tes ?_ ?_ (zaa _),(by(have e0:=dt c0;omega)),(by(have e0:=dt c0;omega))⟩;refine zA rfl ?_;refine tc rfl ?_ ?_;rotate_left;refine tn;refine zA rfl (zA rfl tn);rw[(zP (Df.d:P2) (show i<l.length by have:=dt c0;omega)).1];exact PSub.refl _
 ·have h0:=df c0;have h:=dt c1;rw[zaw (by omega)] at h ⊢;rw[hull_few (by omega)];exact PSub.refl _
 have h0:=df c0;rw[zaw (show l.length≤i by omega)] at *;have h2:=hull_two (l:=l) (by have:=df c1;omega);have hL:l≠[]:=fun e=>by rw[e,cI.2 rfl] at h2;simp at h2
 have ok:=jI l;have hlen:(hullF l).length≤(setOf cmpP l).length:=by have:=nF (setOf cmpP l);rw[nE] at this;exact this
 have hf:(setOf cmpP l).getD 0 Df.d=gp (hullF l) 0:=set_fst hL;refine yR (σ:=Nat×Value) (fun s=>[(6,True,zI s.1),(5,True,exP s.2)]) (fun s=>[.row s.2 39 6 (((hullF l).take (s.1+1)).map (ptc (n+1)))]) (fun s=>s.1+1≤(hullF l).length) (fun s=>(setOf cmpP l).length-s.1) ((0,r27)) (tk 3 rfl tn) ?_ ?_ ((by dsimp only;omega)) (fun s hJ Y _=>?_);refine zA rfl (zA rfl tn);rotate_left;rotate_left
 ·rw[hf]
  match he:hullF l,h2 with
  | x::r,_=>rfl
 obtain⟨i',v⟩:=s;dsimp only at hJ ⊢;have hll:((hullF l).take (i'+1)).length=i'+1:=by rw[zaG];omega
 have hla:((hullF l).take (i'+1)).getD i' Df.d=gp (hullF l) i':=by
  rw[zag,zaT,if_pos (by omega),← zag];rfl
 have hx:eT (setOf cmpP l) (((hullF l).take (i'+1)).getD i' Df.d)=nx (hullF l) i':=by
  have h:=next_ok (l:=setOf cmpP l) (by rw[nE];exact h2) (i:=i') (by rw[nE];omega);rw[nE] at h;rw[hla];exact h
 repeat refine u ?_
 refine ti (fun c2=>?_) fun c2=>?_;iterate 10 refine u ?_
 refine zA1 (oixo 0 i' rfl rfl rfl (fun _=>(by omega)) (fun _=>(by(simp;omega)))) ?_;repeat refine u ?_
 refine zB rfl rfl (k20next (by omega) (by omega)) ?_;refine u fun b7=>?_;refine zH 0 rfl rfl (zR (zU (s:=7) 0 rfl rfl) ?_);iterate 3 refine u ?_
 refine zL 5 mixed rfl rfl ?_;repeat refine u ?_
 refine zC rfl rfl (mX (by omega) (by omega)) ?_;repeat refine u ?_
 refine ti (fun c3=>?_) fun c3=>?_;iterate 5 refine u ?_
 refine t_ts (yK (s:=2) 0 rfl rfl) ?_;repeat refine u ?_
 refine e ?_;rotate_left;repeat refine u ?_
 refine tap 0 rfl rfl rfl (by(simp;omega)) rfl fun r51=>?_;repeat refine u ?_
 rotate_left;iterate 7 refine u ?_
 refine t_ts (yK (s:=2) 0 rfl rfl) ?_;repeat refine u ?_
 refine e ?_;rotate_left
 ·have h:=jD.1 (dt c3);have h3:nx (hullF l) i'=gp (hullF l) 0:=hx.symm.trans (Eq.trans h hf);have h4:i'+1=(hullF l).length:=by
   refine Nat.le_antisymm hJ (zcp fun c=>?_);unfold nx at h3;rw[zau c] at h3;exact absurd (dI ok.poly.nd c (by omega) h3) (by omega)
  rw[h4,zaS];exact PSub.refl _
 ·have h:¬ nx (hullF l) i'=gp (hullF l) 0:=fun e=>df c3 (jD.2 (Eq.trans hx (e.trans hf.symm)));have h4:i'+1<(hullF l).length:=by
   refine Nat.lt_of_le_of_ne hJ fun e=>h ?_;unfold nx;rw[e,zbz]
  have h5:nx (hullF l) i'=gp (hullF l) (i'+1):=by unfold nx;rw[Nat.mod_eq_of_lt h4]
  refine nxt ((i'+1,r51)) (by omega) (hS:=?_);dsimp only;rw[(zP (Df.d:P2) h4).1,zaq,show (hullF l).getD (i'+1) Df.d=eT (setOf cmpP l) (((hullF l).take (i'+1)).getD i' Df.d) from(hx.trans h5).symm];exact zaa _
 ·have:=df c2;omega
theorem k20hullc {Ψ:PV}{l:List P2}{n:Nat}[h:VPt Ψ n l](hn:n≤80)(hl:l.length≤100):CTy prog 255 [Ψ] (sv (sl 6 ((hullF l).map (ptc (n+1))))) :=
 ⟨(bo func255),fun M w vs hM hT hv=>by
  obtain⟨v,e,h1⟩:=fa1 hv;exact(k20hull hn hl (vpt_pl h1)).run M w vs hM hT ((fs1 pE fs0) _ _ _ hv)⟩
theorem k20flip {Ψ:PV}{l:List P2}{n:Nat}[h:VPt Ψ n l](hn:n≤300)(hl:l.length≤100):CTy prog 178 [Ψ] (sv (sl 6 ((l.map negP).map (ptc (n+5))))):=by
 refine yE (σs:=[sv (sl 6 (l.map (ptq n)))]) ?_ (fs1 pE fs0);refine fw [.tmp 2] func178 fun X=>?_;repeat refine u ?_
 refine t_ts (xQ 39 6) ?_;refine lp (σ:=Nat×Value) [0,2] (fun s=>[(3,True,exP s.2),(4,True,zI s.1)]) (fun s=>[.row s.2 39 6 (((l.take s.1).map negP).map (ptc (n+5)))]) (fun s=>s.1≤l.length) (fun s=>l.length-s.1) ((0,.slice none 0 0)) ((by simp)) fun s hJ Y _=>?_;repeat refine u ?_
 refine ti (fun c0=>?_) fun c0=>?_;repeat refine u ?_
 refine zA1 (oix _ rfl rfl rfl (fun _=>rfl) (fun _=>(by(have e0:=dt c0;omega)))) ?_;repeat refine u ?_
 refine zB rfl rfl (k8neg (by omega)) ?_;refine u ?_;refine u fun r18=>?_;repeat refine u ?_
 rotate_left;iterate 7 refine u ?_
 refine t_ts (yK (s:=2) 0 rfl rfl) ?_;repeat refine u ?_
 refine e ?_;rotate_left
 ·refine⟨(s.1+1,r18),tes ?_ ?_ ?_,(by(have e0:=dt c0;omega)),(by(have e0:=dt c0;omega))⟩;refine zA rfl (zA rfl tn);refine zA rfl (zA rfl tn);rw[(zP (Df.d:P2) (show s.1<l.length by have:=dt c0;omega)).1,zaq,zaq];rw[Nat.max_self];exact zaa _
 ·have h0:=df c0;rw[zaw (by omega)];exact PSub.refl _
theorem pairs_len (a b:List P2):(gM a b).length=a.length*b.length:=by
 induction a with
 | nil=>simp[gM]
 | cons x a ih =>
  unfold gM at *;rw[zbU,zak,ih,zai,zas,zaV,zbh,Nat.add_comm]
theorem pairs_snoc (a b:List P2)(x:P2):gM (a++[x]) b=gM a b++b.map fun y=>addP x y:=by
 unfold gM;rw[List.flatMap_append];simp
theorem k20sum {Ψ Φ:PV}{a b:List P2}{n m:Nat}[h:VPt Ψ n a][k:VPt Φ m b](hn:n≤30)(hm:m≤30)(ha:a.length≤10)(hb:b.length≤10):CTy prog 177 [Ψ,Φ] (sv (sl 6 ((sumF a b).map (ptc (2*max n m+8+1))))):=by
 refine yE (σs:=[sv (sl 6 (a.map (ptq n))),sv (sl 6 (b.map (ptq m)))]) ?_ (fs1 pE (fs1 pE fs0));refine fw [.tmp 4] func177 fun X=>?_;repeat refine u ?_
 refine t_ts (xQ 39 6) ?_;refine lp (σ:=Nat×Value) [0,1,4] (fun s=>[(5,True,exP s.2),(6,True,zI s.1)]) (fun s=>[.row s.2 39 6 ((gM (a.take s.1) b).map (ptc (2*max n m+8)))]) (fun s=>s.1≤a.length) (fun s=>a.length-s.1) ((0,.slice none 0 0)) ((by simp)) fun s hJ Y _=>?_;obtain⟨i,v⟩:=s;dsimp only at hJ ⊢;have hlp:∀ i,(gM (a.take i) b).length≤100:=fun i=>by
  rw[pairs_len];exact zab (zaY (show (a.take i).length≤10 by rw[zaG];omega) hb) (by decide)
 repeat refine u ?_
 refine ti (fun c0=>?_) fun c0=>?_;repeat refine u ?_
 rotate_left;repeat refine u ?_
 rotate_left
 ·have hi:=dt c0;refine yR (σ:=Nat×Value) (fun s=>[(5,True,exP s.2),(7,True,zI s.1)]) (fun s=>[.row s.2 39 6 ((gM (a.take i) b++(b.take s.1).map fun y=>addP (gp a i) y).map (ptc (2*max n m+8)))]) (fun s=>s.1≤b.length) (fun s=>b.length-s.1) ((0,v)) (tk 0 rfl (tk 1 rfl (tk 4 rfl (tk 6 rfl tn)))) ?_ (by(simp;done)) ((by simp)) (fun s hJ Y _=>?_);refine zA rfl (zA rfl tn);obtain⟨k,u⟩:=s;dsimp only at hJ ⊢;have hlk:(gM (a.take i) b++(b.take k).map fun y=>addP (gp a i) y).length≤200:=by
   rw[zak,zai,zaG];have:=hlp i;omega
  refine zY ?_;refine zY ?_;refine yH rfl ?_;refine zA1 (omv rfl) ?_;refine zA1 (omv rfl) ?_;refine zA1 (oln rfl) ?_;refine zA1 (olt rfl rfl) ?_;refine zA0 ?_;refine ti (fun c1=>?_) fun c1=>?_;refine bO ?_;refine zY ?_;refine bG (zL 11 mixed rfl rfl ?_);refine d1 (omv rfl) ?_;refine d1 (omv rfl) ?_;refine d1 (omv rfl) ?_;refine d1 (oix _ rfl rfl rfl (fun _=>rfl) (fun _=>(by omega))) ?_;refine d1 (old rfl rfl) ?_;refine d1 (omv rfl) ?_;refine d1 (omv rfl) ?_;refine d1 (oix _ rfl rfl rfl (fun _=>rfl) (fun _=>(by(have e0:=dt c1;omega)))) ?_;refine d1 (old rfl rfl) (zC rfl rfl (yC6 (by omega) (by omega)) ?_);refine d1 (obs rfl rfl rfl rfl rfl rfl) ?_;refine d0 ?_;refine tap 0 rfl rfl rfl ?_ rfl fun r31=>?_;rotate_left;refine zA1 (oas rfl) ?_;refine zA0 ?_;refine yH rfl ?_;refine zA1 (omv rfl) ?_;refine zA1 (oad rfl rfl (by omega)) ?_;refine zA1 (oas rfl) ?_;refine zA0 ?_;rotate_left;refine oF ?_;refine yH rfl ?_;refine zA1 (omv rfl) ?_;refine zA1 (oad rfl rfl (by omega)) ?_;refine zA1 (oas rfl) ?_;refine zA0 ?_;rotate_left
  ·rw[zai,zcI];omega
  ·have hk:=dt c1;refine⟨(k+1,r31),tes ?_ ?_ ?_,(by omega),(by omega)⟩;refine zA rfl (zA rfl tn);refine zA rfl (zA rfl (zA rfl (zA rfl tn)));have e:(gM (a.take i) b++(b.take (k+1)).map fun y=>addP (gp a i) y)=(gM (a.take i) b++(b.take k).map fun y=>addP (gp a i) y)++[addP (gp a i) (gp b k)]:=by
    rw[(zP (Df.d:P2) (show k<b.length by omega)).1,zaq,zaB];rfl
   dsimp only;rw[e,zaq,Nat.max_self,Nat.max_self];exact zaa _
  ·have hk:=df c1;refine⟨(i+1,u),tes ?_ ?_ ?_,(by omega),(by omega)⟩;refine zA rfl (zA rfl tn);refine zA rfl (zA rfl (zA rfl tn));rw[(zP (Df.d:P2) (show i<a.length by omega)).1,pairs_snoc,zaw (show b.length≤k by omega)];exact zaa _
 ·have hi:=df c0;rw[zaw (show a.length≤i by omega)] at *;refine zR (yK 0 rfl (s:=32) rfl) ?_;have hl:=hlp a.length;rw[zaS] at hl;refine zB rfl rfl (k20hullc (by omega) (by omega)) ?_;repeat refine u ?_
  exact e
theorem k20piece {l:List P2}{a b c:P2}{n m:Nat}(hn:n≤20)(hm:m≤20)(hl:l.length≤10):CTy prog 101 [sv (sl 6 (l.map (ptq n))),ag (st [ptq m a,ptq m b,ptq m c])] (sv (sl 6 ((sumF [a,b,c] (l.map negP)).map (ptc (2*max m (n+5)+8+1))))):=by
 have h3:([a,b,c]:List P2).length≤10:=by simp
 have h4:(l.map negP).length≤10:=by rw[zai];omega
 refine fw [.tmp 4] func101 fun X=>?_;repeat refine u ?_
 refine zB rfl rfl k18cornc ?_;repeat refine u ?_
 refine zB rfl rfl (k20flip (by omega) (by omega)) ?_;refine zB rfl rfl (k20sum (by omega) (by omega) (by omega) (by omega)) ?_;repeat refine u ?_
 refine e ?_;rw[Nat.max_self];exact PSub.refl _
abbrev T3P:=P2×P2×P2
def trq (n:Nat)(t:T3P):CT:=st [ptq n t.1,ptq n t.2.1,ptq n t.2.2]
def t3l (t:T3P):List P2:=[t.1,t.2.1,t.2.2]
instance:Df T3P:=⟨((0,0),(0,0),(0,0))⟩
theorem k20pieces {l:List P2}{ts:List T3P}{n m:Nat}(hn:n≤20)(hm:m≤20)(hl:l.length≤10)(ht:ts.length≤100):CTy prog 34 [sv (sl 6 (l.map (ptq n))),sv (sl 18 (ts.map (trq m)))] (sv (sl 1 ((ts.map fun t=>sumF (t3l t) (l.map negP)).map fun x=>sl 6 (x.map (ptc (2*max m (n+5)+8+1)))))):=by
 refine fw [.tmp 4] func34 fun X=>?_;repeat refine u ?_
 refine t_ts (xQ 22 1) ?_;refine lp (σ:=Nat×Value) [0,1,4] (fun s=>[(5,True,exP s.2),(6,True,zI s.1)]) (fun s=>[.row s.2 22 1 (((ts.take s.1).map fun t=>sumF (t3l t) (l.map negP)).map fun x=>sl 6 (x.map (ptc (2*max m (n+5)+8+1))))]) (fun s=>s.1≤ts.length) (fun s=>ts.length-s.1) ((0,.slice none 0 0)) ((by simp)) fun s hJ Y _=>?_;repeat refine u ?_
 refine ti (fun c0=>?_) fun c0=>?_;repeat refine u ?_
 refine zA1 (oix _ rfl rfl rfl (fun _=>rfl) (fun _=>(by(have e0:=dt c0;omega)))) ?_;repeat refine u ?_
 refine zB rfl rfl (k20piece (by omega) (by omega) (by omega)) ?_;refine u ?_;refine u fun r21=>?_;repeat refine u ?_
 rotate_left;iterate 7 refine u ?_
 refine t_ts (yK (s:=4) 0 rfl rfl) ?_;repeat refine u ?_
 refine e ?_;rotate_left
 ·refine⟨(s.1+1,r21),tes ?_ ?_ ?_,(by(have e0:=dt c0;omega)),(by(have e0:=dt c0;omega))⟩;refine zA rfl (zA rfl tn);refine zA rfl (zA rfl (zA rfl tn));rw[(zP (Df.d:T3P) (show s.1<ts.length by have:=dt c0;omega)).1,zaq];exact zaa _
 ·have h0:=df c0;rw[zaw (by omega)];exact PSub.refl _
def px3 (t:TX3):T3P:=(px t.1,px t.2.1,px t.2.2)
theorem trx_n {n:Nat}{l:List TX3}(h:∀ t∈l,∀ a∈trl t,big2 a≤n):PSub (sv (sl 18 (l.map trx))) (sv (sl 18 ((l.map px3).map (trq n)))):=fun M w v k=>by
 rw[List.map_map];exact dM (f:=trx) (g:=trq n ∘ px3) (fun t ht M w us k=>trx_c (h t ht t.1 (by simp[trl])) (h t ht t.2.1 (by simp[trl])) (h t ht t.2.2 (by simp[trl])) M w us k) (fun _=>rfl) k
theorem rG {a b p:P2}(h:a.1<b.1)(hl:0≤trn a b p):zM a b p.1≤p.2:=by
 obtain⟨k,e1,e2⟩:=xP (a:=a) (b:=b) (by grind);rw[e1];refine Classical.byContradiction fun c=>?_;have h1:0<b.1-a.1:=by grind
 have h2:0<a.2+k*(p.1-a.1)-p.2:=by grind
 have h3:=zaD h1 h2;have e3:trn a b p = -((b.1-a.1)*(a.2+k*(p.1-a.1)-p.2)):=by unfold trn zG subP;simp only;rw[← e2];grind
 grind
theorem rH {a b p:P2}(h:b.1<a.1)(hl:0≤trn a b p):p.2≤zM a b p.1:=by
 obtain⟨k,e1,e2⟩:=xP (a:=a) (b:=b) (by grind);rw[e1];refine Classical.byContradiction fun c=>?_;have h1:0<a.1-b.1:=by grind
 have h2:0<p.2-(a.2+k*(p.1-a.1)):=by grind
 have h3:=zaD h1 h2;have e3:trn a b p = -((a.1-b.1)*(p.2-(a.2+k*(p.1-a.1)))):=by unfold trn zG subP;simp only;rw[← e2];grind
 grind
theorem xA8 {c d z f0 f1 fz:Rat}(hcd:c<d)(hz:c≤z∧z≤d)(h0:0≤f0)(h1:0≤f1)(e:(d-c)*fz=(d-z)*f0+(z-c)*f1):0≤fz:=by
 refine Classical.byContradiction fun k=>?_;have h2:0<d-c:=by grind
 have h3:0 < -fz:=by grind
 have h4:=zaD h2 h3;have h5:0≤d-z:=by grind
 have h6:0≤z-c:=by grind
 have h7:=zaF h5 h0;have h8:=zaF h6 h1;grind
theorem yS2 {a b c d:P2}{z:Rat}(hcd:c.1<d.1)(hz:c.1≤z∧z≤d.1)(hab:a.1≠b.1)(hc:zM a b c.1≤c.2)(hd:zM a b d.1≤d.2):zM a b z≤zM c d z:=by
 obtain⟨k,e1,e2⟩:=xP (a:=a) (b:=b) hab;obtain⟨m,e3,e4⟩:=xP (a:=c) (b:=d) (by grind);rw[e1] at hc hd;rw[e1,e3];have:=xA8 (fz:=c.2+m*(z-c.1)-(a.2+k*(z-a.1))) hcd hz (f0:=c.2-(a.2+k*(c.1-a.1))) (f1:=d.2-(a.2+k*(d.1-a.1))) (by grind) (by grind) (by
  have e5:d.2=c.2+m*(d.1-c.1):=by grind
  rw[e5];grind)
 grind
theorem yS3 {a b c d:P2}{z:Rat}(hcd:c.1<d.1)(hz:c.1≤z∧z≤d.1)(hab:a.1≠b.1)(hc:c.2≤zM a b c.1)(hd:d.2≤zM a b d.1):zM c d z≤zM a b z:=by
 obtain⟨k,e1,e2⟩:=xP (a:=a) (b:=b) hab;obtain⟨m,e3,e4⟩:=xP (a:=c) (b:=d) (by grind);rw[e1] at hc hd;rw[e1,e3];have:=xA8 (fz:=a.2+k*(z-a.1)-(c.2+m*(z-c.1))) hcd hz (f0:=a.2+k*(c.1-a.1)-c.2) (f1:=a.2+k*(d.1-a.1)-d.2) (by grind) (by grind) (by
  have e5:d.2=c.2+m*(d.1-c.1):=by grind
  rw[e5];grind)
 grind
theorem fH {a b:P2}(h:a.1≠b.1)(z:Rat):zM a b z=zM b a z:=by
 obtain⟨k,e1,e2⟩:=xP (a:=a) (b:=b) h;obtain⟨m,e3,e4⟩:=xP (a:=b) (b:=a) (fun e=>h e.symm);rw[e1,e3];have h1:(k-m)*(b.1-a.1)=0:=by grind
 have h2:b.1-a.1≠0:=by grind
 have h3:k-m=0:=by
  rcases zbp.1 h1 with c | c
  ·exact c
  ·exact absurd c h2
 have h4:k=m:=by grind
 subst h4;grind
theorem yU3 {a b:Rat}(h:a≠b):a<b∨b<a:=by grind
theorem hull_still {h:List P2}{i j:Nat}(hl:∀ k,k<h.length→0≤trn (gp h i) (nx h i) (gp h k))(hj:j<h.length)(ni:(gp h i).1≠(nx h i).1)(nj:(gp h j).1≠(nx h j).1) :
  (∀ z,((gp h j).1≤z∧z≤(nx h j).1∨(nx h j).1≤z∧z≤(gp h j).1)→zM (gp h i) (nx h i) z≤zM (gp h j) (nx h j) z) ∨
  ∀ z,((gp h j).1≤z∧z≤(nx h j).1∨(nx h j).1≤z∧z≤(gp h j).1)→zM (gp h j) (nx h j) z≤zM (gp h i) (nx h i) z:=by
 have h1:=hl j hj;have h2:=hl ((j+1)%h.length) (zaJ _ (by omega));change 0≤trn (gp h i) (nx h i) (nx h j) at h2;generalize gp h i=a at *;generalize nx h i=b at *;generalize gp h j=c at *;generalize nx h j=d at *;rcases yU3 ni with k | k
 ·refine .inl fun z hz=>?_;rcases yU3 nj with q | q
  ·exact yS2 q (by grind) ni (rG k h1) (rG k h2)
  ·rw[fH nj];exact yS2 q (by grind) ni (rG k h2) (rG k h1)
 ·refine .inr fun z hz=>?_;rcases yU3 nj with q | q
  ·exact yS3 q (by grind) ni (rH k h1) (rH k h2)
  ·rw[fH nj];exact yS3 q (by grind) ni (rH k h2) (rH k h1)
end Go.Proofs.YtalkinejknjidaaGreatDoor
namespace Go.SL
def Cpb (a b:P2):Prop:=a.1≤b.1∧a.2≤b.2∨b.1≤a.1∧b.2≤a.2
theorem Cpb.symm {a b:P2}(h:Cpb a b):Cpb b a:=h.elim .inr .inl
theorem cpb_rise {a b:P2}(hc:cmpL a b<0)(h:Cpb a b):zN5 a b:=by
 rw[nQ] at hc;unfold leL at hc;have hn:a≠b:=fun e=>by subst e;grind
 rcases h with h | h
 ·exact⟨h.1,h.2,hn⟩
 ·refine⟨?_,?_,hn⟩<;>grind
theorem lv_rises {lo hi yl yh:Rat}{es:List (P2×P2)}{l:List P2}(h:IsLv lo hi yl yh es l)(hc:∀ a∈l,∀ b∈l,Cpb a b):lN l:=fun i hi'=>by
 have h1:=zci.1 h.rise i (i+1) (by omega) hi' (by omega);rw[zag,zag,zah (show i<l.length by omega),zah hi'];exact cpb_rise h1 (hc _ (zaI _) _ (zaI _))
theorem oI {l:List P2}(h:lN l):∀ j i,i≤j→j<l.length→(l.getD i (0,0)).1≤(l.getD j (0,0)).1∧(l.getD i (0,0)).2≤(l.getD j (0,0)).2
  | 0, i, h1, h2 => by obtain rfl : i = 0 := by omega
                       exact⟨zaK,zaK⟩
  | j+1,i,h1,h2=>by
    rcases zaf j i with c | c
    · obtain rfl:i=j+1:=by omega
      exact⟨zaK,zaK⟩
    · have a:=oI h j i c (by omega);have b:=h j h2;exact⟨zck a.1 b.1,zck a.2 b.2.1⟩
theorem lv_ends {lo hi yl yh:Rat}{es:List (P2×P2)}{l:List P2}(h:IsLv lo hi yl yh es l)(hr:lN l)(hy:yl<yh)(hb:∀ a∈l,yl≤a.1∧yl≤a.2∧a.1≤yh∧a.2≤yh) :
  2≤l.length∧(l.getD 0 (0,0))=(yl,yl)∧l.getD (l.length-1) (0,0)=(yh,yh):=by
 have m0:(yl,yl)∈l:=(h.mem _).2 (by simp);have m1:(yh,yh)∈l:=(h.mem _).2 (by simp);obtain⟨i,hi,ei⟩:=zaZ.1 m0;obtain⟨j,hj,ej⟩:=zaZ.1 m1;have gi:l.getD i (0,0)=(yl,yl):=by rw[zag,zah hi];exact ei
 have gj:l.getD j (0,0)=(yh,yh):=by rw[zag,zah hj];exact ej
 have hm:∀ k,k<l.length→l.getD k (0,0)∈l:=fun k hk=>by rw[zag,zah hk];exact zaI _
 have b0:=hb _ (hm 0 (by omega));have b1:=hb _ (hm (l.length-1) (by omega));have r0:=oI hr i 0 (by omega) hi;have r1:=oI hr (l.length-1) j (by omega) (by omega);rw[gi] at r0;rw[gj] at r1;simp only at r0 r1;have hne:i≠j:=fun e=>by subst e;rw[gi] at gj;have:=congrArg Prod.fst gj;simp only at this;grind
 refine⟨by omega,Prod.ext ?_ ?_,Prod.ext ?_ ?_⟩<;>simp only<;>grind
theorem zZ9 {f:Rat→Rat}{c k lo hi:Rat}(hf:∀ z,f z=c+k*z)(h:lo<hi)(hs:∀ x y,lo<x∧x<hi→lo<y∧y<hi→¬ (0<f x∧f y<0))(a:0<f lo)(b:f hi<0):False:=by
 have ⟨s,s0,s1,e⟩:∃ s:Rat,0<s∧s<1∧s*(f lo-f hi)=f lo:=by
  refine⟨f lo/(f lo-f hi),?_,?_,zcz (by grind)⟩
  ·rw[Rat.lt_div_iff (by grind)];grind
  ·rw[Rat.div_lt_iff (by grind)];grind
 have p0:=zaD s0 (show 0<hi-lo by grind);have p1:=zaD (show 0<1-s by grind) (show 0<hi-lo by grind);have p2:(1-s)*(hi-lo)=hi-lo-s*(hi-lo):=by grind
 have g1:f (lo+s*(hi-lo)/2)=f lo-s*(f lo-f hi)/2:=by rw[hf,hf lo,hf hi];grind
 have g2:f (hi-(hi-lo-s*(hi-lo))/2)=f hi-(f hi-f lo+s*(f lo-f hi))/2:=by rw[hf,hf lo,hf hi];grind
 rw[p2] at p1;generalize s*(hi-lo)=d at *;rw[e] at g1 g2;exact hs _ _ (by constructor<;>grind) (by constructor<;>grind) ⟨by rw[g1];grind,by rw[g2];grind⟩
theorem aff_ends {f:Rat→Rat}{c k lo hi:Rat}(hf:∀ z,f z=c+k*z)(h:lo<hi)(hs:∀ x y,lo<x∧x<hi→lo<y∧y<hi→¬ (0<f x∧f y<0)):f lo≤0∧f hi≤0∨0≤f lo∧0≤f hi:=by
 refine Classical.byContradiction fun hn=>?_;have h0:0<f lo∧f hi<0∨0 < -f lo ∧ -f hi<0:=by grind
 rcases h0 with⟨a,b⟩ | ⟨a,b⟩
 ·exact zZ9 hf h hs a b
 ·exact zZ9 (f:=fun z => -f z) (c:=-c) (k:=-k) (fun z=>by rw[hf];grind) h (fun x y hx hy q=>hs y x hy hx ⟨by grind,by grind⟩) a b
end Go.SL
namespace Go.Proofs.YtalkinejknjidaaGreatDoor
open Go.SL Go.RowKit Go.Proofs Tryz
def minQ (a b:Rat):Rat:=if b<a then b else a
def maxQ (a b:Rat):Rat:=if a<b then b else a
theorem zW7 {p q:Rat}{n m N:Nat}(hn:n≤N)(hm:m≤N)(hN:N≤1990):CTy prog 147 [ag (rtc n p),ag (rtc m q)] (ag (rtc N (minQ p q))):=by
 refine fw [.cell 4 29] func147 fun X=>?_;iterate 4 refine u ?_
 refine u fun b4=>?_;repeat refine u ?_
 refine zB rfl rfl (gO (by omega) (by omega)) ?_;repeat refine u ?_
 refine ti (fun c0=>?_) fun c0=>?_;repeat refine u ?_
 refine e ?_;rotate_left;repeat refine u ?_
 refine e ?_;rotate_left
 ·have h:=xH.1 (dt c0);have e:q=minQ p q:=by unfold minQ;rw[if_pos h]
  exact fun _ _ _ ⟨us,e1,s,a,d,e2,g⟩=>e ▸ ⟨us,e1,s,a,d,e2,g.up hm⟩
 ·have h:¬ q<p:=fun k=>df c0 (xH.2 k);have e:p=minQ p q:=by unfold minQ;rw[if_neg h]
  exact fun _ _ _ ⟨us,e1,s,a,d,e2,g⟩=>e ▸ ⟨us,e1,s,a,d,e2,g.up hn⟩
theorem yL7 {p q:Rat}{n m N:Nat}(hn:n≤N)(hm:m≤N)(hN:N≤1990):CTy prog 148 [ag (rtc n p),ag (rtc m q)] (ag (rtc N (maxQ p q))):=by
 refine fw [.cell 4 29] func148 fun X=>?_;iterate 4 refine u ?_
 refine u fun b4=>?_;repeat refine u ?_
 refine zB rfl rfl (gO (by omega) (by omega)) ?_;repeat refine u ?_
 refine ti (fun c0=>?_) fun c0=>?_;repeat refine u ?_
 refine e ?_;rotate_left;repeat refine u ?_
 refine e ?_;rotate_left
 ·have h:=bK.1 (dt c0);have e:q=maxQ p q:=by unfold maxQ;rw[if_pos h]
  exact fun _ _ _ ⟨us,e1,s,a,d,e2,g⟩=>e ▸ ⟨us,e1,s,a,d,e2,g.up hm⟩
 ·have h:¬ p<q:=fun k=>df c0 (bK.2 k);have e:p=maxQ p q:=by unfold maxQ;rw[if_neg h]
  exact fun _ _ _ ⟨us,e1,s,a,d,e2,g⟩=>e ▸ ⟨us,e1,s,a,d,e2,g.up hn⟩
theorem fW {l:List PX}(h:qM l=true):∀ a∈l,big2 a≤1:=fun a ha=>by
 have h:=zaH.1 h a ha;rw[zam] at h;have h1:=zS6 h.1;have h2:=zS6 h.2;unfold big2 m4;dsimp only;omega
abbrev BX:=P2×P2
def boxS (b:BX)(p:P2):BX:=((minQ b.1.1 p.1,minQ b.1.2 p.2),(maxQ b.2.1 p.1,maxQ b.2.2 p.2))
def boxF (l:List P2):BX:=l.foldl boxS (gp l 0,gp l 0)
theorem eI {n m:Nat}{p:P2}(h:m≤n){M:Nat→Prop}{w:World}{us:List Value}(k:(ptc m p).p M w us):(ptc n p).p M w us:=by
 obtain⟨x,y,e,⟨s,a,d,e2,g⟩,z,o,e3,⟨t,b,f,e4,g2⟩,e5⟩:=k;exact⟨x,y,e,⟨s,a,d,e2,g.up h⟩,z,o,e3,⟨t,b,f,e4,g2.up h⟩,e5⟩
theorem box2 {n:Nat}{p q:P2}{M:Nat→Prop}{w:World}{us:List Value}(k:stp [st [ptc n p,ptc n q]] M w us):stp [ptc n p,ptc n q] M w us:=by
 obtain⟨u,o,rfl,k1,k8⟩:=k;obtain rfl:o=[]:=k8;rw[zap];exact k1
theorem box41 {n:Nat}{p q:P2}{M:Nat→Prop}{w:World}{us:List Value}(k:stp [rtc n p.1,rtc n p.2,rtc n q.1,rtc n q.2] M w us):stp [st [ptc n p,ptc n q]] M w us:=by
 obtain⟨a,a2,rfl,k1,b,b2,rfl,k2,c,c2,rfl,k4,d,d2,rfl,k5,k6⟩:=k;obtain rfl:d2=[]:=k6;exact⟨(a++b)++(c++d),[],by simp,⟨a++b,c++d,rfl,⟨a,b,rfl,k1,b,[],by simp,k2,rfl⟩,c++d,[],(by simp),⟨c,d,rfl,k4,d,[],by simp,k5,rfl⟩,rfl⟩,rfl⟩
theorem box4 {n:Nat}{p q:P2}{M:Nat→Prop}{w:World}{us:List Value}(k:stp [ptc n p,ptc n q] M w us):stp [rtc n p.1,rtc n p.2,rtc n q.1,rtc n q.2] M w us:=by
 obtain⟨x,y,rfl,⟨a,a2,rfl,k1,b,b2,rfl,k2,k3⟩,x2,y2,rfl,⟨c,c2,rfl,k4,d,d2,rfl,k5,k6⟩,k7⟩:=k;obtain rfl:b2=[]:=k3;obtain rfl:d2=[]:=k6;obtain rfl:y2=[]:=k7;exact⟨a,b++(c++d),by simp,k1,b,c++d,rfl,k2,c,d,rfl,k4,d,[],by simp,k5,rfl⟩
theorem k21box {l:List P2}{n:Nat}(h0:1≤n)(hn:n≤300)(hl:l.length≤1000):CTy prog 72 [sv (sl 6 (l.map (ptq n)))] (tu [ag (st [ptc (n+1) (boxF l).1,ptc (n+1) (boxF l).2]),exP (.bool (decide (l≠[])))]):=by
 refine fw [.cell 2 41,.tmp 3] func72 fun X=>?_;iterate 2 refine u ?_
 refine u fun b2=>?_;repeat refine u ?_
 refine ti (fun c0=>?_) fun c0=>?_;repeat refine u ?_
 refine zB rfl rfl (k8of (by(simp;done)) (by(simp;done))) ?_;refine zB rfl rfl (k8of (by(simp;done)) (by(simp;done))) ?_;repeat refine u ?_
 refine zH 0 rfl rfl ?_;repeat refine u ?_
 refine⟨[_,_],zN 0 rfl (rst rfl rs0),aF ?_ ?_⟩;rotate_left;refine psb ?_;rotate_left;repeat refine u ?_
 refine zB rfl rfl (zP6 (by omega) (by omega)) ?_;iterate 3 refine u ?_
 apply yO 1 9 8 [(7,5,0),(8,1000008,0)] rfl rfl mixed rfl rfl rfl;repeat refine u ?_
 refine cx1 (oix _ rfl rfl rfl (fun _=>rfl) (fun _=>(by(have e0:=df c0;simp;omega)))) rfl ?_;repeat refine u ?_
 refine cx1 (oix _ rfl rfl rfl (fun _=>rfl) (fun _=>(by(have e0:=df c0;simp;omega)))) rfl ?_;repeat refine u ?_
 refine cx1 (obd rfl rfl rfl) rfl (cN rfl rfl (cal) (cS rfl rfl rfl (cst rfl rfl rfl) ?_));refine cE (fun b5=>?_);refine fm ?_;repeat refine u ?_
 rotate_left
 ·have h:=dt c0;rw[zcC.1 (show l.length=0 by omega)];exact fun M w v ⟨us,e,x,y,e1,k1,x2,y2,e2,k2,k3⟩=>⟨us,e,x,y,e1,eI (by omega) k1,x2,y2,e2,eI (by omega) k2,k3⟩
 ·have h:=dt c0;rw[zcC.1 (show l.length=0 by omega)];rfl
 refine t_ts (gH (cs':=[ptc (n+1) (gp l 0),ptc (n+1) (gp l 0)]) 0 rfl box2) ?_;have step:∀ i,i<l.length→(l.take (i+1)).foldl boxS (gp l 0,gp l 0)=boxS ((l.take i).foldl boxS (gp l 0,gp l 0)) (gp l i):=fun i hi=>by
  rw[(zP (Df.d:P2) hi).1,List.foldl_append];rfl
 refine yR (σ:=Nat) (fun i=>[(6,True,zI i)]) (fun i=>[.blk b5 41 [ptc (n+1) ((l.take i).foldl boxS (gp l 0,gp l 0)).1,ptc (n+1) ((l.take i).foldl boxS (gp l 0,gp l 0)).2],.blk b2 41 (zc (.agg #[.bool false,.slice none 0 0,.slice none 0 0,.bool false,.slice none 0 0,.slice none 0 0,.bool false,.slice none 0 0,.slice none 0 0,.bool false,.slice none 0 0,.slice none 0 0]))]) (fun i=>i≤l.length) (fun i=>l.length-i) (0) (tk 2 rfl (tk 3 rfl (tk 4 rfl (tk 5 rfl tn)))) ?_ rfl ((by simp)) (fun i hJ Y _=>?_);refine zA rfl tn;generalize hb:(l.take i).foldl boxS (gp l 0,gp l 0)=b;refine t_ts (gH (cs':=[rtc (n+1) b.1.1,rtc (n+1) b.1.2,rtc (n+1) b.2.1,rtc (n+1) b.2.2]) 0 rfl box4) ?_;repeat refine u ?_
 refine t_if rfl (fun c1=>?_) (fun c1=>?_);iterate 4 refine u ?_
 refine zL 20 mixed rfl rfl ?_;repeat refine u ?_
 refine d1 (zK 0 rfl) ?_;repeat refine u ?_
 refine d1 (oix _ rfl rfl rfl (fun _=>rfl) (fun _=>(by(have e0:=dt c1;omega)))) ?_;repeat refine u ?_
 refine zC rfl rfl (zW7 (N:=n+1) (by omega) (by omega) (by omega)) ?_;repeat refine u ?_
 refine d1 (zK 0 rfl) ?_;repeat refine u ?_
 refine d1 (oix _ rfl rfl rfl (fun _=>rfl) (fun _=>(by(have e0:=dt c1;omega)))) ?_;repeat refine u ?_
 refine zC rfl rfl (zW7 (N:=n+1) (by omega) (by omega) (by omega)) ?_;repeat refine u ?_
 refine zH 0 rfl rfl ?_;refine u ?_;refine zL 20 mixed rfl rfl ?_;repeat refine u ?_
 refine d1 (zK 0 rfl) ?_;repeat refine u ?_
 refine d1 (oix _ rfl rfl rfl (fun _=>rfl) (fun _=>(by(have e0:=dt c1;omega)))) ?_;repeat refine u ?_
 refine zC rfl rfl (yL7 (N:=n+1) (by omega) (by omega) (by omega)) ?_;repeat refine u ?_
 refine d1 (zK 0 rfl) ?_;repeat refine u ?_
 refine d1 (oix _ rfl rfl rfl (fun _=>rfl) (fun _=>(by(have e0:=dt c1;omega)))) ?_;repeat refine u ?_
 refine zC rfl rfl (yL7 (N:=n+1) (by omega) (by omega) (by omega)) ?_;repeat refine u ?_
 refine d1 (ofo rfl) ?_;repeat refine u ?_
 refine zH 0 rfl rfl ?_;repeat refine u ?_
 refine zA1 (omv rfl) ?_;repeat refine u ?_
 rotate_left;rotate_left
 ·have hi:=dt c1;have e:(l.take (i+1)).foldl boxS (gp l 0,gp l 0)=boxS b (gp l i):=by rw[step i (by omega),hb]
  refine⟨i+1,tes ?_ ?_ ?_,(by omega),(by omega)⟩;refine zA rfl tn;refine zA rfl (zA rfl (zA rfl (zA rfl tn)));rw[e];exact zaa _
 ·have hi:=df c1;have e:boxF l=b:=by rw[← hb,zaw (by omega)];rfl
  refine t_ts (gH (cs':=[st [ptc (n+1) b.1,ptc (n+1) b.2]]) 0 rfl box41) ?_;repeat refine u ?_
  refine zA1 (zK 0 rfl) ?_;refine zH 1 rfl rfl ?_;repeat refine u ?_
  refine⟨[_,_],zN 1 rfl (rst rfl rs0),aF ?_ ?_⟩;rotate_left;refine psb ?_;rotate_left
  ·rw[e];exact PSub.refl _
  ·have h0:=df c0;symm;rw[decide_eq_true_eq];exact fun c=>h0 (by rw[c];rfl)
theorem k21boxc {Ψ:PV}{l:List P2}{n:Nat}[h:VPt Ψ n l](h0:1≤n)(hn:n≤300)(hl:l.length≤1000):CTy prog 72 [Ψ] (tu [ag (st [ptc (n+1) (boxF l).1,ptc (n+1) (boxF l).2]),exP (.bool (decide (l≠[])))]):=yE (k21box h0 hn hl) (fs1 pE fs0)
def zQ (ls:zD):BX:=(subP (boxF ls.flatten).1 (((1:Nat):Rat),((1:Nat):Rat)),addP (boxF ls.flatten).2 (((1:Nat):Rat),((1:Nat):Rat)))
theorem flatn_len {ls:zD}{m k:Nat}(h:∀ l∈ls,l.length≤m)(hl:ls.length≤k):ls.flatten.length≤k*m:=by
 have h1:∀ ls:zD,(∀ l∈ls,l.length≤m)→ls.flatten.length≤ls.length*m:=by
  intro ls
  induction ls with
  | nil=>intro _;simp
  | cons l ls ih =>
   intro h;have h2:=ih fun x hx=>h x (by simp[hx]);have h3:=h l (by simp);rw[List.flatten_cons,zak,zas,zaV,zbh];omega
 exact zab (h1 ls h) (zaU _ hl)
instance {n:Nat}{p:P2}{d:CT}:FA (st [ptc n p,d]) 0 (ptc n p):=⟨fun h=>qK (l:=[ptc n p,d]) (o:=0) h rfl⟩
instance {n:Nat}{p:P2}{d:CT}:FA (st [ptc n p,d]) 6 d:=⟨fun h=>qK (l:=[ptc n p,d]) (o:=6) h rfl⟩
theorem k21frame {ls:zD}{n:Nat}(h0:1≤n)(hn:n≤200)(hl:ls.length≤100)(h9:∀ l∈ls,l.length≤9):CTy prog 19 [sv (sl 1 (ls.map fun x=>sl 6 (x.map (ptc n))))] (ag (st [ptc (n+6) (zQ ls).1,ptc (2*(n+1)+8) (zQ ls).2])):=by
 refine fw [.cell 2 41] func19 fun X=>?_;iterate 2 refine u ?_
 refine u fun b2=>?_;repeat refine u ?_
 refine t_ts (xQ 39 6) ?_;have hfl:∀ i,((ls.take i).flatten).length≤900:=fun i=>zab (flatn_len (m:=9) (k:=100) (fun l h=>h9 l (zbn h)) (by rw[zaG];omega)) (by decide);refine lp (σ:=Nat×Value) [0,2] (fun s=>[(3,True,exP s.2),(4,True,zI s.1)]) (fun s=>[.row s.2 39 6 (((ls.take s.1).flatten).map (ptc n)),.blk b2 41 (zc (.agg #[.bool false,.slice none 0 0,.slice none 0 0,.bool false,.slice none 0 0,.slice none 0 0,.bool false,.slice none 0 0,.slice none 0 0,.bool false,.slice none 0 0,.slice none 0 0]))]) (fun s=>s.1≤ls.length) (fun s=>ls.length-s.1) ((0,.slice none 0 0)) ((by simp)) fun s hJ Y _=>?_;obtain⟨i,v⟩:=s;dsimp only at hJ ⊢;have h5:=hfl i;repeat refine u ?_
 refine t_if rfl (fun c0=>?_) (fun c0=>?_);repeat refine u ?_
 refine zA1 (oix _ rfl rfl rfl (fun _=>rfl) (fun _=>(by(have e0:=dt c0;omega)))) ?_;repeat refine u ?_
 refine tap 0 rfl rfl rfl ?_ rfl fun r18=>?_;rotate_left;repeat refine u ?_
 rotate_left;rotate_left
 ·have hi:=dt c0;rw[zai,zai];have:=h9 _ (show ls.getD i Df.d∈ls by rw[zag,zah (show i<ls.length by omega)];exact zaI _);omega
 ·have hi:=dt c0;refine⟨(i+1,r18),tes ?_ ?_ ?_,(by omega),(by omega)⟩;refine zA rfl (zA rfl tn);refine zA rfl (zA rfl tn);rw[(zP (Df.d:List P2) (show i<ls.length by omega)).1,zca,zaq,List.flatten_cons,List.flatten_nil,zap];exact zaa _
 ·have hi:=df c0;rw[zaw (show ls.length≤i by omega)] at *;repeat refine u ?_
  refine zR (yK 0 rfl (s:=20) rfl) ?_;have h6:=hfl ls.length;rw[zaS] at h6;refine zB rfl rfl (k21boxc (by omega) (by omega) (by omega)) ?_;iterate 3 refine u ?_
  refine u fun b5=>?_;refine zH 0 rfl rfl ?_;iterate 3 refine u ?_
  refine zL 9 mixed rfl rfl ?_;repeat refine u ?_
  refine d1 (oldf 0 0 rfl rfl rfl rfl) (zC rfl rfl (k8of (k:=1) (l:=1) (by omega) (by omega)) ?_);refine zC rfl rfl (kD (by omega) (by omega)) ?_;repeat refine u ?_
  refine d1 (oldf 0 6 rfl rfl rfl rfl) (zC rfl rfl (k8of (k:=1) (l:=1) (by omega) (by omega)) ?_);refine zC rfl rfl (yC6 (by omega) (by omega)) ?_;repeat refine u ?_
  refine zH 1 rfl rfl ?_;repeat refine u ?_
  refine⟨[_],zN 1 rfl rs0,yJ ?_⟩;exact fun M w v ⟨us,e,x,y,e1,k1,x2,y2,e2,k2,k3⟩=>⟨us,e,x,y,e1,eI (p:=(zQ ls).1) (by omega) k1,x2,y2,e2,eI (p:=(zQ ls).2) (by omega) k2,k3⟩
def ordE (e:BX):BX:=if 0<cmpP e.1 e.2 then(e.2,e.1) else e
def sO (l:List P2):List BX:=(List.range l.length).map fun k=>ordE (gp l k,nx l k)
def xD (ls:zD):List BX:=ls.flatMap sO
def ect (n:Nat)(e:BX):CT:=st [ptc n e.1,ptc n e.2]
theorem mY {Ψ:PV}{l:List P2}{n:Nat}[h:VPt Ψ n l](hn:n≤1990)(hl:l.length≤1000000):CTy prog 77 [Ψ] (sv (sl 6 (l.map (ptc (n+1))))):=yE (zP6 hn hl) (fs1 pE fs0)
theorem lV {ls:zD}(h:∀ l∈ls,l.length≤9):(xD ls).length≤ls.length*9:=by
 induction ls with
 | nil=>simp[xD]
 | cons l ls ih =>
  have h1:=ih fun x hx=>h x (by simp[hx]);have h2:=h l (by simp);unfold xD at *;rw[zbU,zak,zas];have e:(sO l).length=l.length:=by unfold sO;simp
  omega
theorem k21edges {ls:zD}{n:Nat}(hn:n≤200)(hl:ls.length≤100)(h9:∀ l∈ls,l.length≤9):CTy prog 21 [sv (sl 1 (ls.map fun x=>sl 6 (x.map (ptc n))))] (sv (sl 12 ((xD ls).map (ect (n+1))))):=by
 refine fw [.tmp 2] func21 fun X=>?_;repeat refine u ?_
 refine t_ts (xQ 109 12) ?_;refine lp (σ:=Nat×Value) [0,2] (fun s=>[(3,True,exP s.2),(4,True,zI s.1)]) (fun s=>[.row s.2 109 12 ((xD (ls.take s.1)).map (ect (n+1)))]) (fun s=>s.1≤ls.length) (fun s=>ls.length-s.1) ((0,.slice none 0 0)) ((by simp)) fun s hJ Y _=>?_;obtain⟨i,v⟩:=s;dsimp only at hJ ⊢;have hll:i<ls.length→(ls.getD i Df.d).length≤9:=fun hi=>h9 _ (by rw[zag,zah hi];exact zaI _);repeat refine u ?_
 refine t_if rfl (fun c0=>?_) (fun c0=>?_);repeat refine u ?_
 refine zA1 (oix _ rfl rfl rfl (fun _=>rfl) (fun _=>(by(have e0:=dt c0;omega)))) ?_;repeat refine u ?_
 refine zB rfl rfl (mY (by omega) (zab (hll (by have:=dt c0;omega)) (by omega))) ?_;repeat refine u ?_
 rotate_left;rotate_left
 ·have hi:=dt c0;have h5:=hll (by omega);have hx:=(zP (Df.d:List P2) (show i<ls.length by omega)).1;generalize ls.getD i Df.d=l at *;have hel:=lV (ls:=ls.take i) fun l h=>h9 l (zbn h);rw[zaG] at hel;refine yR (σ:=Nat×Value) (fun s=>[(3,True,exP s.2),(6,True,zI s.1)]) (fun s=>[.row s.2 109 12 ((xD (ls.take i)++(List.range s.1).map fun k=>ordE (gp l k,nx l k)).map (ect (n+1)))]) (fun s=>s.1≤l.length) (fun s=>l.length-s.1) ((0,v)) (tk 0 rfl (tk 2 rfl (tk 4 rfl (tk 5 rfl tn)))) ?_ (by(simp;done)) ((by simp)) (fun s hJ Y _=>?_);refine zA rfl (zA rfl tn);obtain⟨k,u⟩:=s;dsimp only at hJ ⊢;refine zY ?_;refine zY ?_;refine yH rfl ?_;refine zA1 (omv rfl) ?_;refine zA1 (omv rfl) ?_;refine zA1 (oln rfl) ?_;refine zA1 (olt rfl rfl) ?_;refine zA0 ?_;refine t_if rfl (fun c1=>?_) (fun c1=>?_);refine bO ?_;refine zY ?_;refine bG ?_;refine zY ?_;apply yO 2 15 14 [(12,7,0),(13,8,1),(14,1000014,0)] rfl rfl mixed rfl rfl rfl;refine cx1 (omv rfl) rfl ?_;refine cx1 (omv rfl) rfl ?_;refine cx1 (oix _ rfl rfl rfl (fun _=>rfl) (fun _=>(by(have e0:=dt c1;omega)))) rfl ?_;refine cx1 (old rfl rfl) rfl ?_;refine cx1 (omv rfl) rfl ?_;refine cx1 (omv rfl) rfl ?_;refine cx1 (oad rfl rfl (by omega)) rfl ?_;refine cx1 (omv rfl) rfl ?_;refine cx1 (oln rfl) rfl ?_;refine cx1 (orm rfl rfl (by(have e0:=dt c1;omega))) rfl ?_;refine cx1 (oix _ rfl rfl rfl (fun _=>rfl) (fun _=>?_)) rfl ?_;rotate_left;refine cx1 (old rfl rfl) rfl (cN rfl rfl (cal) (cN rfl rfl (cal) (cS rfl rfl rfl (cst rfl rfl rfl) ?_)));refine cE (fun b7 b8=>?_);refine fm ?_;refine zH 0 rfl rfl ?_;refine zA0 ?_;refine zY ?_;refine zY ?_;refine yH rfl ?_;refine zA1 (zK 1 rfl) ?_;refine zA1 (zK 0 rfl) (zB rfl rfl (yW9 (by omega) (by omega)) ?_);refine zA1 (ogt rfl rfl) ?_;refine zA0 ?_;refine ti (fun c2=>?_) fun c2=>?_;refine yH rfl ?_;refine zA1 (zK 0 rfl) ?_;refine zA1 (zK 1 rfl) ?_;refine zH 1 rfl rfl ?_;refine zH 0 rfl rfl ?_;refine zA0 ?_;refine yH rfl ?_;refine zA1 (omv rfl) ?_;refine zA1 (zK 1 rfl) ?_;refine zA1 (zK 0 rfl) ?_;refine zA1 (obd rfl rfl rfl) ?_;refine zA1 (obs rfl rfl rfl rfl rfl rfl) (tap 2 rfl rfl rfl (by(simp;omega)) rfl fun r49=>?_);refine zA1 (oas rfl) ?_;refine zA0 ?_;refine yH rfl ?_;refine zA1 (omv rfl) ?_;refine zA1 (oad rfl rfl (by omega)) ?_;refine zA1 (oas rfl) ?_;refine zA0 ?_;rotate_left;refine bO ?_;refine yH rfl ?_;refine zA1 (omv rfl) ?_;refine zA1 (zK 1 rfl) ?_;refine zA1 (zK 0 rfl) ?_;refine zA1 (obd rfl rfl rfl) ?_;refine zA1 (obs rfl rfl rfl rfl rfl rfl) (tap 2 rfl rfl rfl (by(simp;omega)) rfl fun r49=>?_);refine zA1 (oas rfl) ?_;refine zA0 ?_;refine yH rfl ?_;refine zA1 (omv rfl) ?_;refine zA1 (oad rfl rfl (by omega)) ?_;refine zA1 (oas rfl) ?_;refine zA0 ?_;rotate_left;rotate_left
  ·have:=dt c1;exact zaJ _ (by omega)
  ·have hk:=dt c1;refine⟨(k+1,r49),tes ?_ ?_ ?_,(by omega),(by omega)⟩;refine zA rfl (zA rfl tn);refine zA rfl (zA rfl (zA rfl (zA rfl tn)));have e:ordE (gp l k,nx l k)=(nx l k,gp l k):=by unfold ordE;rw[if_pos (show 0<cmpP (gp l k,nx l k).1 (gp l k,nx l k).2 from dt c2)]
   have e2:(xD (ls.take i)++(List.range (k+1)).map fun k=>ordE (gp l k,nx l k))=(xD (ls.take i)++(List.range k).map fun k=>ordE (gp l k,nx l k))++[(nx l k,gp l k)]:=by
    rw[zaQ,zaq,zaB,zaM,zba,e]
   dsimp only;rw[e2,zaq];exact List.Sublist.cons _ (List.Sublist.cons _ (zaa _))
  ·have hk:=dt c1;refine⟨(k+1,r49),tes ?_ ?_ ?_,(by omega),(by omega)⟩;refine zA rfl (zA rfl tn);refine zA rfl (zA rfl (zA rfl (zA rfl tn)));have e:ordE (gp l k,nx l k)=(gp l k,nx l k):=by unfold ordE;rw[if_neg (show ¬ 0<cmpP (gp l k,nx l k).1 (gp l k,nx l k).2 from df c2)]
   have e2:(xD (ls.take i)++(List.range (k+1)).map fun k=>ordE (gp l k,nx l k))=(xD (ls.take i)++(List.range k).map fun k=>ordE (gp l k,nx l k))++[(gp l k,nx l k)]:=by
    rw[zaQ,zaq,zaB,zaM,zba,e]
   dsimp only;rw[e2,zaq];exact List.Sublist.cons _ (List.Sublist.cons _ (zaa _))
  ·have hk:=df c1;refine oF ?_;refine yH rfl ?_;refine zA1 (omv rfl) ?_;refine zA1 (oad rfl rfl (by omega)) ?_;refine zA1 (oas rfl) ?_;refine zA0 ?_;refine nxt ((i+1,u)) (by omega) (hS:=?_);have e:xD (ls.take (i+1))=xD (ls.take i)++(List.range k).map fun k=>ordE (gp l k,nx l k):=by
    rw[hx];unfold xD;rw[zcS,zbU,List.flatMap_nil,zap];unfold sO;rw[show l.length=k by omega]
   dsimp only;rw[e];exact zaa _
 ·have hi:=df c0;iterate 7 refine u ?_
  refine t_ts (yK (s:=2) 0 rfl rfl) ?_;repeat refine u ?_
  refine e ?_;rw[zaw (show ls.length≤i by omega)];exact PSub.refl _
def InB (b:BX)(p:P2):Prop:=b.1.1≤p.1∧p.1≤b.2.1∧b.1.2≤p.2∧p.2≤b.2.2
theorem inb_step {b:BX}{p q:P2}(h:InB b p):InB (boxS b q) p∧InB (boxS b q) q:=by
 unfold InB boxS minQ maxQ at *;dsimp only at *;refine⟨⟨?_,?_,?_,?_⟩,?_,?_,?_,?_⟩<;>split<;>grind
theorem tZ:∀(l:List P2) (b:BX) (p:P2),InB b p→InB (l.foldl boxS b) p∧∀ q∈l,InB (l.foldl boxS b) q
 | [],b,p,h=>⟨h,fun q hq=>by cases hq⟩
 | x::l,b,p,h=>by
  have h1:=inb_step (q:=x) h;have h2:=tZ l (boxS b x) p h1.1;have h3:=tZ l (boxS b x) x h1.2;refine⟨h2.1,fun q hq=>?_⟩;rcases zae.1 hq with rfl | hq
  ·exact h3.1
  ·exact h2.2 q hq
theorem box_in (l:List P2):(∀ q∈l,InB (boxF l) q)∧(boxF l).1.1≤(boxF l).2.1∧(boxF l).1.2≤(boxF l).2.2:=by
 have h:=tZ l (gp l 0,gp l 0) (gp l 0) ⟨zaK,zaK,zaK,zaK⟩;refine⟨h.2,?_⟩;have h1:=h.1;unfold InB at h1;exact⟨zck h1.1 h1.2.1,zck h1.2.2.1 h1.2.2.2⟩
theorem xD9:((1:Nat):Rat)=1:=rfl
theorem fJ (ls:zD):(∀ l∈ls,∀ q∈l,(zQ ls).1.1<q.1∧q.1<(zQ ls).2.1∧(zQ ls).1.2<q.2∧q.2<(zQ ls).2.2)∧(zQ ls).1.1<(zQ ls).2.1∧(zQ ls).1.2<(zQ ls).2.2:=by
 have h:=box_in ls.flatten;unfold zQ subP addP;dsimp only;rw[xD9];refine⟨fun l hl q hq=>?_,by grind,by grind⟩;have h1:=h.1 q (List.mem_flatten.2 ⟨l,hl,hq⟩);unfold InB at h1;grind
theorem rQ {ls:zD}{e:BX}(h:e∈xD ls):∃ i k,i<ls.length∧k<(ls.getD i []).length∧e=ordE (gp (ls.getD i []) k,nx (ls.getD i []) k):=by
 unfold xD sO at h;obtain⟨l,hl,h⟩:=zaX.1 h;obtain⟨k,hk,rfl⟩:=zaj.1 h;obtain⟨i,hi,rfl⟩:=zaZ.1 hl;have e:ls.getD i []=ls[i]:=by rw[zag,zah hi];rfl
 exact⟨i,k,hi,by rw[e];exact zaE.1 hk,by rw[e]⟩
def Thr (lo hi:Rat)(a b:P2):Prop:=a.1≤lo∧hi≤b.1∨b.1≤lo∧hi≤a.1
theorem zO3 {lo hi:Rat}{a b:P2}(h:aH lo hi (ordE (a,b)))(hlh:lo<hi):Thr lo hi a b∧qO lo hi (ordE (a,b))=(zM a b lo,zM a b hi):=by
 unfold ordE at *;unfold aH at h;split at h
 ·rename_i c;dsimp only at h;unfold qO;rw[if_pos c];dsimp only;have hs:=fH (a:=b) (b:=a) (by grind);rw[hs,hs];exact⟨.inr (by grind),rfl⟩
 ·rename_i c;dsimp only at h;rw[if_neg c];exact⟨.inl (by grind),rfl⟩
theorem sJ {lo hi:Rat}{a b:P2}(h:Thr lo hi a b)(hl:lo<hi):a.1≠b.1:=by unfold Thr at h;grind
theorem xA1 {x y u v:Rat}(h:x≤u∧y≤v∨u≤x∧v≤y):Cpb (x,y) (u,v):=h
theorem cmp_sw {p q r s:Rat}(h:cmpR p q=cmpR r s):¬ (0<p-q∧r-s<0):=fun c=>by
 have h1:0<cmpR p q:=bK.2 (by grind);have h2:cmpR r s<0:=xH.2 (by grind);omega
theorem eD {lo hi z:Rat}{a b:P2}(h:Thr lo hi a b)(h1:lo<z)(h2:z<hi):pG a b z=true:=by
 unfold pG Thr at *;simp only[zbN,zam,decide_eq_true_eq];grind
theorem wC {lo hi:Rat}{a b c d:P2}(hl:lo<hi)(zA1:Thr lo hi a b)(zA2:Thr lo hi c d)(h:∀ x y,lo<x∧x<hi→lo<y∧y<hi→cmpR (zM a b x) (zM c d x)=cmpR (zM a b y) (zM c d y)) :
  Cpb (zM a b lo,zM a b hi) (zM c d lo,zM c d hi):=by
 obtain⟨k,e1,_⟩:=xP (sJ zA1 hl);obtain⟨m,e2,_⟩:=xP (sJ zA2 hl);have h3:=aff_ends (f:=fun z=>zM a b z-zM c d z) (c:=a.2-k*a.1-(c.2-m*c.1)) (k:=k-m) (fun z=>by rw[e1,e2];grind) hl fun x y hx hy=>cmp_sw (h x y hx hy);refine xA1 ?_;rcases h3 with h3 | h3
 ·exact .inl (by grind)
 ·exact .inr (by grind)
theorem levels_cpb {ls:zD}{b:BX}{j:Nat}(hls:∀ l∈ls,∃ m,l=hullF m)(hj:j+1<(cutsOf ls b).length){e f:BX}(h1:e∈xD ls)(h2:f∈xD ls)
  (zA1:aH ((cutsOf ls b).getD j 0) ((cutsOf ls b).getD (j+1) 0) e) (zA2:aH ((cutsOf ls b).getD j 0) ((cutsOf ls b).getD (j+1) 0) f):Cpb (qO ((cutsOf ls b).getD j 0) ((cutsOf ls b).getD (j+1) 0) e) (qO ((cutsOf ls b).getD j 0) ((cutsOf ls b).getD (j+1) 0) f):=by
 have hl:=cM ls b j hj;have hstill:=fun i k x y=>still_cuts (ls:=ls) (b:=b) (j:=j) (i:=i) (k:=k) (x:=x) (y:=y) hj;generalize (cutsOf ls b).getD j 0=lo at *;generalize (cutsOf ls b).getD (j+1) 0=hi at *;obtain⟨i,k,hi1,hk1,rfl⟩:=rQ h1;obtain⟨i2,k2,hi2,hk2,rfl⟩:=rQ h2;obtain⟨zA1,g1⟩:=zO3 zA1 hl;obtain⟨zA2,g2⟩:=zO3 zA2 hl;rw[g1,g2];have hh:∀ i,i<ls.length→∃ m,ls.getD i []=hullF m:=fun i hi=>hls _ (by rw[zag,zah hi];exact zaI hi);rcases zbH i i2 with c | c | c
 ·refine Cpb.symm (wC hl zA2 zA1 fun x y hx hy=>?_);exact hstill i2 i x y c hi2 hx hy k2 k hk2 hk1 (eD zA2 hx.1 hx.2) (eD zA1 hx.1 hx.2) (eD zA2 hy.1 hy.2) (eD zA1 hy.1 hy.2)
 ·subst c;obtain⟨m,em⟩:=hh i hi1;rw[em] at hk1 hk2 zA1 zA2 ⊢;have h3:=hull_still (i:=k) (j:=k2) (h:=hullF m) (fun q hq=>hull_left (eF (jJ hq)) hk1) hk2 (sJ zA1 hl) (sJ zA2 hl);have r1:(gp (hullF m) k2).1≤lo∧lo≤(nx (hullF m) k2).1∨(nx (hullF m) k2).1≤lo∧lo≤(gp (hullF m) k2).1:=by unfold Thr at zA2;grind
  have r2:(gp (hullF m) k2).1≤hi∧hi≤(nx (hullF m) k2).1∨(nx (hullF m) k2).1≤hi∧hi≤(gp (hullF m) k2).1:=by unfold Thr at zA2;grind
  refine xA1 ?_;rcases h3 with h3 | h3
  ·exact .inl ⟨h3 lo r1,h3 hi r2⟩
  ·exact .inr ⟨h3 lo r1,h3 hi r2⟩
 ·refine wC hl zA1 zA2 fun x y hx hy=>?_;exact hstill i i2 x y c hi1 hx hy k k2 hk1 hk2 (eD zA1 hx.1 hx.2) (eD zA2 hx.1 hx.2) (eD zA1 hy.1 hy.2) (eD zA2 hy.1 hy.2)
theorem zI2 {a b:P2}{z l u:Rat}(ha:l<a.2∧a.2<u)(hb:l<b.2∧b.2<u)(h:a.1≠b.1)(hz:a.1≤z∧z≤b.1∨b.1≤z∧z≤a.1):l<zM a b z∧zM a b z<u:=by
 obtain⟨k,e1,e2⟩:=xP h;rw[e1];have key:∀ {c d y0 y1 fz:Rat},c<d→c≤z→z≤d→(d-c)*fz=(d-z)*y0+(z-c)*y1→0<y0→0<y1→0<fz:=fun {c d y0 y1 fz} q1 q2 q3 q4 q5 q6=>by
  have p1:0<(d-c)*fz:=by
   rw[q4];rcases Classical.em (z=c) with r | r
   ·have:=zaD (show 0<d-z by grind) q5;have:(z-c)*y1=0:=by rw[r];grind
    grind
   ·have:=zaD (show 0<z-c by grind) q6;have:=zaF (show 0≤d-z by grind) (show 0≤y0 by grind);grind
  exact iD (show 0<d-c by grind) p1
 have e3:b.2=a.2+k*(b.1-a.1):=by grind
 rcases hz with hz | hz
 ·have hab:a.1<b.1:=by grind
  have f1:=key (y0:=a.2-l) (y1:=b.2-l) (fz:=a.2+k*(z-a.1)-l) hab hz.1 hz.2 (by rw[e3];grind) (by grind) (by grind);have f2:=key (y0:=u-a.2) (y1:=u-b.2) (fz:=u-(a.2+k*(z-a.1))) hab hz.1 hz.2 (by rw[e3];grind) (by grind) (by grind);grind
 ·have hab:b.1<a.1:=by grind
  have f1:=key (y0:=b.2-l) (y1:=a.2-l) (fz:=a.2+k*(z-a.1)-l) hab hz.1 hz.2 (by rw[e3];grind) (by grind) (by grind);have f2:=key (y0:=u-b.2) (y1:=u-a.2) (fz:=u-(a.2+k*(z-a.1))) hab hz.1 hz.2 (by rw[e3];grind) (by grind) (by grind);grind
theorem bA {α:Type}{l:List α}{d:α}{i:Nat}(h:i<l.length):l.getD i d∈l:=by rw[zag,zah h];exact zaI h
theorem slab_rises {ls:zD}{j:Nat}{l:List P2}(hls:∀ l∈ls,∃ m,l=hullF m)(hj:j+1<(cutsOf ls (zQ ls)).length)
  (h:IsLv ((cutsOf ls (zQ ls)).getD j 0) ((cutsOf ls (zQ ls)).getD (j+1) 0) (zQ ls).1.2 (zQ ls).2.2 (xD ls) l) :
  lN l∧2≤l.length∧l.getD 0 (0,0)=((zQ ls).1.2,(zQ ls).1.2)∧l.getD (l.length-1) (0,0)=((zQ ls).2.2,(zQ ls).2.2):=by
 have hl:=cM ls (zQ ls) j hj;have hf:=fJ ls;have hcp:=fun e f=>levels_cpb (e:=e) (f:=f) hls hj;generalize (cutsOf ls (zQ ls)).getD j 0=lo at *;generalize (cutsOf ls (zQ ls)).getD (j+1) 0=hi at *;have hmem:∀ x∈l,(∃ e∈xD ls,aH lo hi e∧x=qO lo hi e)∨x=((zQ ls).1.2,(zQ ls).1.2)∨x=((zQ ls).2.2,(zQ ls).2.2):=fun x hx=>by
  rcases zad.1 ((h.mem x).1 hx) with q | q
  ·exact .inl (mD.1 q)
  ·simp only[zae,zaN,or_false] at q;exact .inr q
 have hin:∀ e∈xD ls,aH lo hi e→((zQ ls).1.2<(qO lo hi e).1∧(qO lo hi e).1<(zQ ls).2.2)∧(zQ ls).1.2<(qO lo hi e).2∧(qO lo hi e).2<(zQ ls).2.2:=fun e he t=>by
  obtain⟨i,k,hi1,hk1,rfl⟩:=rQ he;obtain⟨t,g⟩:=zO3 t hl;rw[g];have h1:=hf.1 _ (bA hi1) _ (jJ hk1);have h2:=hf.1 _ (bA (d:=[]) hi1) _ (jJ (gN hk1));change _∧_∧_<(nx (ls.getD i []) k).2∧(nx (ls.getD i []) k).2<_ at h2;have hn:=sJ t hl;unfold Thr at t;exact⟨zI2 h1.2.2 h2.2.2 hn (by grind),zI2 h1.2.2 h2.2.2 hn (by grind)⟩
 have hc:∀ a∈l,∀ b∈l,Cpb a b:=fun a ha b hb=>by
  rcases hmem a ha with⟨e,he,te,rfl⟩ | rfl | rfl
  ·have he':=hin e he te;rcases hmem b hb with⟨f,hf',tf,rfl⟩ | rfl | rfl
   ·exact hcp e f he hf' te tf
   ·exact .inr ⟨by grind,by grind⟩
   ·exact .inl ⟨by grind,by grind⟩
  ·rcases hmem b hb with⟨f,hf',tf,rfl⟩ | rfl | rfl
   ·have he':=hin f hf' tf;exact .inl ⟨by grind,by grind⟩
   ·exact .inl ⟨zaK,zaK⟩
   ·exact .inl ⟨by grind,by grind⟩
  ·rcases hmem b hb with⟨f,hf',tf,rfl⟩ | rfl | rfl
   ·have he':=hin f hf' tf;exact .inr ⟨by grind,by grind⟩
   ·exact .inr ⟨by grind,by grind⟩
   ·exact .inl ⟨zaK,zaK⟩
 have hr:=lv_rises h hc;refine⟨hr,lv_ends h hr hf.2.2 fun a ha=>?_⟩;rcases hmem a ha with⟨e,he,te,rfl⟩ | rfl | rfl
 ·have:=hin e he te;grind
 ·have:=hf.2.2;dsimp only;grind
 ·have:=hf.2.2;dsimp only;grind
def Fx (N M:Nat)(q:Rat):Prop:=∃(z:Int) (m:Nat),0<m∧m≤M∧z.natAbs≤N∧q*((m:Nat):Rat)=((z:Int):Rat)
def Fd (D A:Nat)(q:Rat):Prop:=∃ z:Int,z.natAbs≤A∧q*((D:Nat):Rat)=((z:Int):Rat)
theorem zN4 {N M k:Nat}{q:Rat}(h:Fx N M q)(hN:N<4294967296^k)(hM:M<4294967296^k):rlen q k:=by
 obtain⟨z,m,h0,h1,h2,e⟩:=h;have e2:q.num*(m:Int)=z*(q.den:Int):=by
  have c:(q.num:Rat)=q*(q.den:Rat):=(kV q).symm;have d:(q.num:Rat)*((m:Nat):Rat)=(z:Rat)*(q.den:Rat):=by rw[c,← e];grind
  exact_mod_cast d
 have e3:q.num.natAbs*m=z.natAbs*q.den:=by
  have:=congrArg Int.natAbs e2;rwa [zbR,zbR,zbu,zbu] at this
 have hd:q.den ∣ m:=by
  have:q.den ∣ q.num.natAbs*m:=by rw[e3];exact Nat.dvd_mul_left _ _
  exact(Nat.Coprime.symm q.reduced).dvd_of_dvd_mul_left this
 obtain⟨t,rfl⟩:=hd;have ht:0<t:=zbf fun c=>by subst c;simp at h0
 have e4:q.num.natAbs*t=z.natAbs:=by
  have h5:=q.den_pos;have:q.den*(q.num.natAbs*t)=q.den*z.natAbs:=by rw[zax q.den z.natAbs,← e3];rw[zcl]
  exact Nat.eq_of_mul_eq_mul_left h5 this
 have l1:q.num.natAbs≤q.num.natAbs*t:=zcs _ ht;have l2:q.den≤q.den*t:=zcs _ ht;exact⟨zT (by omega),zT (by omega)⟩
theorem Fd.add {D A B:Nat}{p q:Rat}(h:Fd D A p)(k:Fd D B q):Fd D (A+B) (p+q):=by
 obtain⟨z,h1,e1⟩:=h;obtain⟨y,h2,e2⟩:=k;exact⟨z+y,by omega,by rw[Rat.add_mul,e1,e2,Rat.intCast_add]⟩
theorem Fd.neg {D A:Nat}{p:Rat}(h:Fd D A p):Fd D A (-p):=by
 obtain⟨z,h1,e1⟩:=h;exact⟨-z,by omega,by rw[Rat.neg_mul,e1,zcm]⟩
theorem Fd.up {D A B:Nat}{p:Rat}(h:Fd D A p)(k:A≤B):Fd D B p:=let ⟨z,a,b⟩:=h;⟨z,by omega,b⟩
theorem Fd.fx {D A:Nat}{p:Rat}(h:Fd D A p)(h0:0<D):Fx A D p:=let ⟨z,a,b⟩:=h;⟨z,D,h0,zac _,a,b⟩
theorem dS {a b:Int}{A B:Nat}(h:a.natAbs≤A)(k:b.natAbs≤B):(a*b).natAbs≤A*B:=by rw[zbR];exact zaY h k
theorem fx_int {N M:Nat}{q:Rat}{r X:Int}(hr:r≠0)(e:q*(r:Rat)=(X:Rat))(h1:X.natAbs≤N)(h2:r.natAbs≤M):Fx N M q:=by
 rcases Int.natAbs_eq r with h | h
 ·exact⟨X,r.natAbs,by omega,h2,h1,by rw[← e,show ((r.natAbs:Nat):Rat)=((r:Int):Rat) by conv=>rhs;rw[h,Rat.intCast_natCast]]⟩
 ·refine⟨-X,r.natAbs,by omega,h2,by omega,?_⟩;have h3:(r:Rat) = -((r.natAbs:Nat):Rat):=by conv=>lhs;rw[h,zcm,Rat.intCast_natCast]
  rw[zcm,← e,h3];grind
theorem jK {a b:Int}{A:Nat}(h:a.natAbs≤A)(k:b.natAbs≤A):(a-b).natAbs≤2*A:=by omega
theorem yZ5 {a b c d:Int}{A:Nat}(h1:a.natAbs≤2*A)(h2:b.natAbs≤2*A)(h3:c.natAbs≤2*A)(h4:d.natAbs≤2*A):(a*b-c*d).natAbs≤8*(A*A):=by
 have k1:=dS h1 h2;have k2:=dS h3 h4;have e:2*A*(2*A)=4*(A*A):=by rw[Nat.mul_mul_mul_comm]
 omega
theorem cross_at {R x n:Rat}{a u r N:Int}{det num:Rat}(hR:R≠0)(hd:det≠0)(e1:x*R=(a:Rat))(e2:n*R=(u:Rat))(e3:det*(R*R)=(r:Rat))(e4:num*(R*R)=(N:Rat)):(x+num/det*n)*(R*(r:Rat))=((a*r+N*u:Int):Rat):=by
 rw[Rat.intCast_add,zbt,zbt,← e1,← e2,← e3,← e4];have h:num/det*det=num:=zcz hd;generalize num/det=t at *;subst h;grind
theorem lines_fx {D A:Nat}(h0:0<D){a b c d:P2}(ha:Fd D A a.1∧Fd D A a.2)(hb:Fd D A b.1∧Fd D A b.2)(hc:Fd D A c.1∧Fd D A c.2)(hd:Fd D A d.1∧Fd D A d.2)(hl:yV a b c d) :
  Fx (24*(A*A*A)) (D*(8*(A*A))) (xO a b c d).1∧Fx (24*(A*A*A)) (D*(8*(A*A))) (xO a b c d).2:=by
 obtain⟨⟨a1,p1,e1⟩,a2,p2,e2⟩:=ha;obtain⟨⟨b1,p3,e3⟩,b2,p4,e4⟩:=hb;obtain⟨⟨c1,p5,e5⟩,c2,p6,e6⟩:=hc;obtain⟨⟨d1,p7,e7⟩,d2,p8,e8⟩:=hd;have hD:((D:Nat):Rat)≠0:=by exact_mod_cast (show D≠0 by omega)
 unfold xO;rw[if_pos hl];unfold yV at hl;have f1:zG (subP b a) (subP d c)*(((D:Nat):Rat)*((D:Nat):Rat))=(((b1-a1)*(d2-c2)-(b2-a2)*(d1-c1):Int):Rat):=by
  rw[zbC,zbt,zbt,zbC,zbC,zbC,zbC,← e1,← e2,← e3,← e4,← e5,← e6,← e7,← e8];unfold zG subP;grind
 have f2:zG (subP c a) (subP d c)*(((D:Nat):Rat)*((D:Nat):Rat))=(((c1-a1)*(d2-c2)-(c2-a2)*(d1-c1):Int):Rat):=by
  rw[zbC,zbt,zbt,zbC,zbC,zbC,zbC,← e1,← e2,← e5,← e6,← e7,← e8];unfold zG subP;grind
 have k1:=yZ5 (jK p3 p1) (jK p8 p6) (jK p4 p2) (jK p7 p5);have k2:=yZ5 (jK p5 p1) (jK p8 p6) (jK p6 p2) (jK p7 p5);generalize (b1-a1)*(d2-c2)-(b2-a2)*(d1-c1)=r at *;generalize (c1-a1)*(d2-c2)-(c2-a2)*(d1-c1)=m at *;have hr:r≠0:=fun z=>by
  rw[z] at f1;rcases zbp.1 (f1.trans rfl) with k | k
  ·exact hl k
  ·rcases zbp.1 k with k | k<;>exact hD k
 have hDr:((D:Nat):Int)*r≠0:=Int.mul_ne_zero (by omega) hr;have hm:(((D:Nat):Int)*r).natAbs≤D*(8*(A*A)):=by
  rw[zbR,zbu];exact zbm _ k1
 have hX:∀ a u:Int,a.natAbs≤A→u.natAbs≤2*A→(a*r+m*u).natAbs≤24*(A*A*A):=fun a u h1 h2=>by
  have q1:=dS h1 k1;have q2:=dS k2 h2;have w1:A*(8*(A*A))=8*(A*A*A):=by rw[zcl,zay A A A]
  have w2:8*(A*A)*(2*A)=16*(A*A*A):=by rw[Nat.mul_mul_mul_comm]
  omega
 have key:∀(x n:Rat) (y u:Int),x*((D:Nat):Rat)=(y:Rat)→n*((D:Nat):Rat)=(u:Rat)→y.natAbs≤A→u.natAbs≤2*A→Fx (24*(A*A*A)) (D*(8*(A*A))) (x+n*zO9 a b c d):=fun x n y u g1 g2 g3 g4=>by
  refine fx_int hDr ?_ (hX y u g3 g4) hm;rw[zbt,Rat.intCast_natCast,Rat.mul_comm n];exact cross_at hD hl g1 g2 f1 f2
 refine⟨key a.1 (b.1-a.1) a1 (b1-a1) e1 ?_ p1 (jK p3 p1),key a.2 (b.2-a.2) a2 (b2-a2) e2 ?_ p2 (jK p4 p2)⟩
 ·rw[zbC,← e1,← e3];grind
 ·rw[zbC,← e2,← e4];grind
theorem nP:COrd cmpL:=⟨fun a b=>cmpL_zero,fun a b=>by
 unfold cmpL;have h1:=@bK (a.1+a.2) (b.1+b.2);have h2:=@xH (b.1+b.2) (a.1+a.2);have h3:=@xA (a.1+a.2) (b.1+b.2);have h4:=@xA (b.1+b.2) (a.1+a.2);have h5:=@bK a.1 b.1;have h6:=@xH b.1 a.1;grind,fun a b c h k=>bS h k⟩
theorem kmheight {Ψ Φ Θ:PV}{p q:P2}{x:Rat}{n m k:Nat}[QP Ψ n p][QP Φ m q][QR Θ k x](hn:n≤400)(hm:m≤400)(hk:k≤400):CTy prog 159 [Ψ,Φ,Θ] (tu [ag (rtc (20*(n+m+k)+100) (zM p q x)),exP (.bool (decide (q.1-p.1≠0)))]):=by
 refine yE (σs:=[ag (ptq n p),ag (ptq m q),ag (rtq k x)]) ?_ (fs1 qp_q (fs1 qp_q (fs1 qr_q fs0)));refine fw [.cell 6 29,.tmp 7] func159 fun X=>?_;iterate 5 refine u ?_
 refine u fun b6=>?_;iterate 3 refine u ?_
 apply yO 1 16 14 [(13,8,0),(14,1000014,0)] rfl rfl mixed rfl rfl rfl;repeat refine u ?_
 refine cx1 (oca rfl rfl fun _=>wW (by omega) (by omega)) rfl ?_;repeat refine u ?_
 refine cx1 (oca rfl rfl fun _=>wW (by omega) (by omega)) rfl ?_;refine cx1 (oca rfl rfl fun _=>krquo (by omega) (by omega)) rfl ?_;repeat refine u ?_
 refine cN rfl rfl (cal) (cS rfl rfl rfl (cst rfl rfl rfl) ?_);repeat refine u ?_
 refine cE (fun b8=>?_);refine fm ?_;repeat refine u ?_
 refine ti (fun c0=>?_) fun c0=>?_;repeat refine u ?_
 refine zB rfl rfl (krof (k:=0) (K:=2) (by omega) (by omega)) ?_;repeat refine u ?_
 refine e ⟨?_,?_⟩;rotate_left;refine psb ?_;rotate_left;repeat refine u ?_
 refine zB rfl rfl (kvat (by omega) (by omega) (by omega)) ?_;repeat refine u ?_
 refine e ⟨?_,?_⟩;rotate_left;refine psb ?_;rotate_left
 ·have hq:q.1-p.1=0:=Classical.byContradiction fun c=>dt c0 (if_neg c);exact cF (by omega) (by unfold zM;rw[if_pos hq];rfl)
 ·have hq:q.1-p.1=0:=Classical.byContradiction fun c=>dt c0 (if_neg c);rw[decide_eq_false (fun c=>c hq)]
 ·have hq:q.1-p.1≠0:=fun c=>df c0 (by rw[if_pos c];decide);exact cF (by omega) (by unfold zM;rw[if_neg hq])
 ·have hq:q.1-p.1≠0:=fun c=>df c0 (by rw[if_pos c];decide);rw[decide_eq_true hq]
instance dfBX:Df BX:=⟨((0,0),(0,0))⟩
noncomputable abbrev lvA (xs:List Rat)(bl bh:P2)(es:List BX)(j:Nat):List P2:=lvOf (xs.getD j 0) (xs.getD (j+1) 0) bl.2 bh.2 es
theorem zQ2 (D A:Nat):Fd D A 0:=⟨0,zaC _,by rw[Rat.zero_mul];rfl⟩
theorem fd_mk {z:Int}{m:Nat}(hz:z.natAbs≤999)(hm:m≤12):Fd 27720 27692280 (mkRat z m):=by
 rcases zbd m with h | h
 ·subst h;rw[Rat.mkRat_zero];exact zQ2 _ _
 ·obtain⟨k,hk⟩:m ∣ 27720:=(show ∀ m:Fin 13,0<m.val→m.val ∣ 27720 by decide) ⟨m,by omega⟩ h;have h1:k≤m*k:=Nat.le_mul_of_pos_left _ h;refine⟨z*k,?_,?_⟩
  ·rw[zbR,zbu];have:=zaY hz (show k≤27720 by omega);omega
  ·have h0:((m:Nat):Rat)≠0:=by exact_mod_cast (show m≠0 by omega)
   rw[Rat.mkRat_eq_div,hk,Rat.natCast_mul,zbt,Rat.intCast_natCast,← Rat.mul_assoc,zcz h0]
theorem yF2 {l:List Nat}{B:Nat}(g1:l.length≤1)(g2:l.length=0∨l.getD 0 Df.d≤B):val l≤B:=by
 match l,g1 with
 | [],_=>exact zaC _
 | [x],_ =>
  rcases g2 with g | g
  ·cases g
  ·simpa [val] using g
theorem yM5 {a:RX}(h:aG a=true):Fd 27720 27692280 (qx a):=by
 unfold aG at h;simp only[zam,zbN,decide_eq_true_eq] at h;obtain⟨⟨⟨h1,h2⟩,h3⟩,h4⟩:=h;refine fd_mk ?_ (yF2 h2 h4);have:=yF2 h1 h3;unfold zv;split<;>omega
def FP (D A:Nat)(q:P2):Prop:=Fd D A q.1∧Fd D A q.2
theorem zX5 {l:List PX}(h:qM l=true):∀ a∈l,FP 27720 27692280 (px a):=fun a ha=>by
 have h:=zaH.1 h a ha;rw[zam] at h;exact⟨yM5 h.1,yM5 h.2⟩
noncomputable def piecesX (r:List PX)(ts:List TX3):zD:=(ts.map px3).map fun t=>sumF (t3l t) ((r.map px).map negP)
theorem zQ4 {D A:Nat}{p q:Rat}(h:Fd D A p)(k:Fd D A q):Fd D A (minQ p q)∧Fd D A (maxQ p q):=by
 unfold minQ maxQ;constructor<;>split<;>assumption
theorem xA7 {D A:Nat}:∀(l:List P2) (b:BX),(∀ q∈l,FP D A q)→FP D A b.1→FP D A b.2→FP D A (l.foldl boxS b).1∧FP D A (l.foldl boxS b).2
 | [],b,_,h1,h2=>⟨h1,h2⟩
 | x::l,b,h,h1,h2=>by
  have hx:=h x (by simp);exact xA7 l (boxS b x) (fun q hq=>h q (by simp[hq])) ⟨(zQ4 h1.1 hx.1).1,(zQ4 h1.2 hx.2).1⟩ ⟨(zQ4 h2.1 hx.1).2,(zQ4 h2.2 hx.2).2⟩
theorem zQ3 (D:Nat):Fd D D (((1:Nat):Rat)):=⟨D,by simp,by rw[xD9,Rat.one_mul,Rat.intCast_natCast]⟩
theorem frame_fp {D A:Nat}{ls:zD}(h:∀ l∈ls,∀ q∈l,FP D A q):FP D (A+D) (zQ ls).1∧FP D (A+D) (zQ ls).2:=by
 have h1:∀ q∈ls.flatten,FP D A q:=fun q hq=>by
  obtain⟨l,hl,hq⟩:=List.mem_flatten.1 hq;exact h l hl q hq
 have h2:FP D A (gp ls.flatten 0):=by
  rcases zbd ls.flatten.length with c | c
  ·rw[zcC.1 c];exact⟨zQ2 _ _,zQ2 _ _⟩
  ·exact h1 _ (jJ c)
 have h3:=xA7 _ (gp ls.flatten 0,gp ls.flatten 0) h1 h2 h2;have e:∀ p:Rat,p-((1:Nat):Rat)=p + -((1:Nat):Rat):=fun p=>zcP _ _;unfold zQ;refine⟨⟨?_,?_⟩,?_,?_⟩
 ·show Fd D (A+D) (_-_);rw[e];exact h3.1.1.add (zQ3 D).neg
 ·show Fd D (A+D) (_-_);rw[e];exact h3.1.2.add (zQ3 D).neg
 ·exact h3.2.1.add (zQ3 D)
 ·exact h3.2.2.add (zQ3 D)
theorem yM8 {D A:Nat}{l:List P2}(h:∀ q∈l,FP D A q){m:Nat}(hm:m<l.length):FP D A (qH l m).1∧FP D A (qH l m).2:=by
 have h1:=h _ (jJ hm);have h2:=h _ (jJ (gN hm));obtain⟨a,b⟩:=rP (l.getD m (0,0)) (l.getD ((m+1)%l.length) (0,0));unfold qH;simp only[zae,zaN,or_false] at a b;constructor
 ·rcases a with e | e<;>rw[e]<;>assumption
 ·rcases b with e | e<;>rw[e]<;>assumption
theorem cut_fx {D A:Nat}{ls:zD}{b:BX}(h0:0<D)(h:∀ l∈ls,∀ q∈l,FP D A q)(hb:FP D A b.1∧FP D A b.2){x:Rat}(hx:x∈cutsOf ls b):Fd D A x∨Fx (24*(A*A*A)) (D*(8*(A*A))) x:=by
 unfold cutsOf at hx;rw[yN jQ] at hx;unfold rawC nO at hx;rcases zad.1 hx with hx | hx
 ·rcases zad.1 hx with hx | hx
  ·simp only[zae,zaN,or_false] at hx;rcases hx with rfl | rfl
   ·exact .inl hb.1.1
   ·exact .inl hb.2.1
  ·obtain⟨l,hl,hx⟩:=zaX.1 hx;obtain⟨q,hq,rfl⟩:=zaj.1 hx;exact .inl (h l hl q hq).1
 ·obtain⟨i,k,hik,hk,hx⟩:=iM.1 hx;obtain⟨p,hp,rfl⟩:=zaj.1 hx;rw[aS] at hp;obtain⟨s,hs,t,ht,hp⟩:=eG.1 ((yN uU).1 hp);obtain⟨m,hm,rfl⟩:=bD.1 hs;obtain⟨n,hn,rfl⟩:=bD.1 ht;have f1:=yM8 (h _ (bA (d:=[]) (show i<ls.length by omega))) hm;have f2:=yM8 (h _ (bA (d:=[]) hk)) hn;generalize qH (ls.getD i []) m=s at *;generalize qH (ls.getD k []) n=t at *;unfold qF at hp;split at hp
  ·cases hp
  rename_i c;simp only[zae,zaN,or_false] at hp;have lo:FP D A (loP s t):=by unfold loP;split;exact f2.1;exact f1.1
  have hi:FP D A (hiP s t):=by unfold hiP;split;exact f2.2;exact f1.2
  rcases pL s t with e | ⟨_,e⟩ | ⟨ok,e⟩
  ·rw[e] at c;exact absurd rfl c
  ·rw[e] at hp;rcases hp with rfl | rfl
   ·exact .inl lo.1
   ·exact .inl hi.1
  ·rw[e] at hp;obtain rfl:p=xO s.1 s.2 t.1 t.2:=hp.elim id id;exact .inr (lines_fx h0 f1.1 f1.2 f2.1 f2.2 ok).1
theorem dW {q:Rat}(h:Fd 27720 55412280 q):rlen q 1:=zN4 (h.fx (by decide)) (by decide) (by decide)
theorem pA {ls:zD}{b:BX}(h:∀ l∈ls,∀ q∈l,FP 27720 55412280 q)(hb:FP 27720 55412280 b.1∧FP 27720 55412280 b.2){x:Rat}(hx:x∈cutsOf ls b):rlen x 3:=by
 rcases cut_fx (by decide) h hb hx with k | k
 ·exact zO (dW k) (by omega)
 ·exact zN4 k (by decide) (by decide)
theorem FP.up {D A B:Nat}{q:P2}(h:FP D A q)(k:A≤B):FP D B q:=⟨h.1.up k,h.2.up k⟩
theorem nI {q:P2}(h:FP 27720 55412280 q):plen q 1:=⟨dW h.1,dW h.2⟩
theorem zY2 {D A:Nat}{ls:zD}(h:∀ l∈ls,∀ q∈l,FP D A q){e:BX}(he:e∈xD ls):FP D A e.1∧FP D A e.2:=by
 obtain⟨i,k,hi,hk,rfl⟩:=rQ he;have h1:=h _ (bA (d:=[]) hi) _ (jJ hk);have h2:=h _ (bA (d:=[]) hi) _ (jJ (gN hk));unfold ordE;split
 ·exact⟨h2,h1⟩
 ·exact⟨h1,h2⟩
theorem yK2 {ls:zD}{b:BX}(h:∀ l∈ls,∀ q∈l,FP 27720 55412280 q)(hb:FP 27720 55412280 b.1∧FP 27720 55412280 b.2){lo hi:Rat}(hl:lo∈cutsOf ls b)(hh:hi∈cutsOf ls b) :
  ∀ x∈jP lo hi (xD ls) (xD ls).length++[(b.1.2,b.1.2),(b.2.2,b.2.2)],rlen x.1 14∧rlen x.2 14:=fun x hx=>by
 rcases zad.1 hx with hx | hx
 ·obtain⟨e,he,_,rfl⟩:=mD.1 hx;obtain⟨k1,k2⟩:=zY2 h he;have k1:=nI k1;have k2:=nI k2;exact⟨cY k1 k2 (pA h hb hl),cY k1 k2 (pA h hb hh)⟩
 ·simp only[zae,zaN,or_false] at hx;rcases hx with rfl | rfl
  ·exact⟨zO (dW hb.1.2) (by omega),zO (dW hb.1.2) (by omega)⟩
  ·exact⟨zO (dW hb.2.2) (by omega),zO (dW hb.2.2) (by omega)⟩
theorem zY0:∀ m:List P2,∃ l:List P2,l.Pairwise (fun a b=>cmpL a b<0)∧∀ x,x∈l↔x∈m
 | []=>⟨[],.nil,fun x=>Iff.rfl⟩
 | a::m=>by
  obtain⟨l,h1,h2⟩:=zY0 m;refine⟨l.filter (fun x=>decide (cmpL x a<0))++a::l.filter (fun x=>decide (cmpL a x<0)),?_,fun x=>?_⟩
  ·refine List.pairwise_append.2 ⟨h1.filter _,List.pairwise_cons.2 ⟨fun b hb=>by simpa using (List.mem_filter.1 hb).2,h1.filter _⟩,fun b hb c hc=>?_⟩;have hb':cmpL b a<0:=by simpa using (List.mem_filter.1 hb).2
   rcases zae.1 hc with rfl | hc
   ·exact hb'
   ·exact bS hb' (by simpa using (List.mem_filter.1 hc).2)
  ·simp only[zad,zae,zbL,decide_eq_true_eq,h2];constructor
   ·rintro(⟨h,_⟩ | rfl | ⟨h,_⟩)
    ·exact .inr h
    ·exact .inl rfl
    ·exact .inr h
   ·rintro(rfl | h)
    ·exact .inr (.inl rfl)
    ·rcases wV x a with c | c
     ·by_cases e:leL a x
      ·exact .inr (.inl (zW2 c e))
      ·exact .inl ⟨h,nQ.2 e⟩
     ·by_cases e:leL x a
      ·exact .inr (.inl (zW2 e c))
      ·exact .inr (.inr ⟨h,nQ.2 e⟩)
theorem rF {lo hi yl yh:Rat}{es:List BX}(h:lo<hi):IsLv lo hi yl yh es (lvOf lo hi yl yh es):=by
 obtain⟨l,h1,h2⟩:=zY0 (jP lo hi es es.length++[(yl,yl),(yh,yh)]);have h3:IsLv lo hi yl yh es l:=⟨h1,h2⟩;rw[← mV (l:=l) (by rw[if_pos h];exact h3)];exact h3
theorem yU9:∀ {l m:List P2},l.Pairwise (fun a b=>cmpL a b<0)→(∀ x∈l,x∈m)→l.length≤m.length
 | [],m,_,_=>zaC _
 | a::l,m,h,hs=>by
  obtain⟨h1,h2⟩:=zaz.1 h;have h3:=yU9 (m:=m.erase a) h2 fun x hx=>(List.mem_erase_of_ne fun e=>by have:=h1 x hx;rw[e] at this;exact nR a this).2 (hs x (by simp[hx]));have h4:=List.length_erase_of_mem (hs a (by simp));have h5:=zcW (hs a (by simp));simp only[zas];omega
theorem lv_len {lo hi yl yh:Rat}{es:List BX}(h:lo<hi):(lvOf lo hi yl yh es).length≤es.length+2:=by
 have h1:=rF (yl:=yl) (yh:=yh) (es:=es) h;have h2:=yU9 h1.rise fun x hx=>(h1.mem x).1 hx;have h3:=sI lo hi es es.length;rw[zak] at h2;simp only[zas,zbb] at h2;omega
theorem hs_rise {lo hi x:Rat}{l:List P2}(hr:lN l)(h1:lo<x)(h2:x<hi){k:Nat}(hk:k+1<l.length):(hsL lo hi x l).getD k 0<(hsL lo hi x l).getD (k+1) 0:=by
 obtain⟨a,b⟩:=Go.SL.part_in h1 h2;rw[uN (by omega),uN hk];exact height_rise a b (hr k hk)
def posY (ys:List Rat)(j:Nat)(y:Rat):Prop:=if j%2=0 then y=ys.getD (j/2) 0 else ys.getD (j/2) 0<y∧y<ys.getD (j/2+1) 0
def cloY (ys:List Rat)(j:Nat)(y:Rat):Prop:=if j%2=0 then y=ys.getD (j/2) 0 else ys.getD (j/2) 0≤y∧y≤ys.getD (j/2+1) 0
noncomputable def repY (ys:List Rat)(j:Nat):Rat:=if j%2=0 then ys.getD (j/2) 0 else xU (ys.getD (j/2) 0) (ys.getD (j/2+1) 0)
def incQ (ys:List Rat):Prop:=∀ i,i+1<ys.length→ys.getD i 0≤ys.getD (i+1) 0
theorem qX {ys:List Rat}(h:jM ys):incQ ys:=fun i hi=>zaP (h i hi)
theorem bR {ys:List Rat}(h:incQ ys):∀ {j i:Nat},i≤j→j<ys.length→ys.getD i 0≤ys.getD j 0
  | 0, i, h1, h2 => by obtain rfl : i = 0 := by omega
                       exact zaK
  | j+1,i,h1,h2=>by
    rcases zaf j i with c | c
    · obtain rfl:i=j+1:=by omega
      exact zaK
    · exact zck (bR h c (by omega)) (h j h2)
theorem pos_clo {ys:List Rat}{j:Nat}{y:Rat}(h:posY ys j y):cloY ys j y:=by
 unfold posY at h;unfold cloY;split at h
 ·rename_i c;rw[if_pos c];exact h
 ·rename_i c;rw[if_neg c];exact⟨zaP h.1,zaP h.2⟩
theorem iC {ys:List Rat}(h:jM ys){j:Nat}(hj:j<2*ys.length-1):posY ys j (repY ys j):=by
 unfold posY repY;split
 ·rfl
 ·exact betw_ok (h _ (by omega))
theorem yT3 {ys:List Rat}(h:jM ys){i j:Nat}(hij:i<j)(hj:j<2*ys.length-1){y z:Rat}(h1:posY ys i y)(h2:posY ys j z):y<z:=by
 unfold posY at h1 h2;split at h1
 ·subst h1;split at h2
  ·subst h2;exact qW h (by omega) (by omega)
  ·have:=bR (qX h) (show i/2≤j/2 by omega) (by omega);grind
 ·split at h2
  ·subst h2;have:=bR (qX h) (show i/2+1≤j/2 by omega) (by omega);grind
  ·have:=bR (qX h) (show i/2+1≤j/2 by omega) (by omega);grind
theorem tA {ys:List Rat}(h:jM ys){i j:Nat}(hi:i<2*ys.length-1)(hj:j<2*ys.length-1){y:Rat}(h1:posY ys i y)(h2:posY ys j y):i=j:=by
 rcases zbH i j with c | c | c
 ·have:=yT3 h c hj h1 h2;exact absurd this (by grind)
 ·exact c
 ·have:=yT3 h c hi h2 h1;exact absurd this (by grind)
theorem nS {ys:List Rat}(h:jM ys){i j:Nat}(hi:i<2*ys.length-1)(hj:j<2*ys.length-1):cloY ys i (repY ys j)↔i=j∨i%2=1∧(j=i+1∨j+1=i):=by
 have hp:=iC h hj;constructor
 ·intro hc;rcases Classical.em (i=j) with e | e
  ·exact .inl e
  ·right;have key:∀ k,k<2*ys.length-1→posY ys k (repY ys j)→k=j:=fun k hk hpk=>tA h hk hj hpk hp;unfold cloY at hc;split at hc
   ·rename_i c;exact absurd (key i hi (by unfold posY;rw[if_pos c];exact hc)) e
   ·rename_i c;refine⟨by omega,?_⟩;rcases Classical.em (repY ys j=ys.getD (i/2) 0) with d | d
    ·right;have:=key (i-1) (by omega) (by unfold posY;rw[if_pos (by omega),show (i-1)/2=i/2 by omega];exact d);omega
    ·rcases Classical.em (repY ys j=ys.getD (i/2+1) 0) with d2 | d2
     ·left;have:=key (i+1) (by omega) (by unfold posY;rw[if_pos (by omega),show (i+1)/2=i/2+1 by omega];exact d2);omega
     ·exact absurd (key i hi (by unfold posY;rw[if_neg c];exact⟨by grind,by grind⟩)) e
 ·rintro(rfl | ⟨c,rfl | e⟩)
  ·exact pos_clo hp
  ·unfold cloY repY;rw[if_neg (by omega),if_pos (by omega),show (i+1)/2=i/2+1 by omega];exact⟨zaP (h _ (by omega)),zaK⟩
  ·subst e;unfold cloY repY;rw[if_neg (by omega),if_pos (by omega),show (j+1)/2=j/2 by omega];exact⟨zaK,zaP (h _ (by omega))⟩
noncomputable def xsM (ls:zD):List Rat:=cutsOf ls (zQ ls)
noncomputable def lvM (ls:zD)(j:Nat):List P2:=lvOf ((xsM ls).getD j 0) ((xsM ls).getD (j+1) 0) (zQ ls).1.2 (zQ ls).2.2 (xD ls)
noncomputable def wlR (ls:zD)(i:Nat):List Rat:=[(zQ ls).1.2,(zQ ls).2.2]++(if 0<i then(lvM ls (i-1)).map (·.2) else [])++(if i+1<(xsM ls).length then(lvM ls i).map (·.1) else [])++(ls.flatten.filter fun p=>decide (p.1=(xsM ls).getD i 0)).map (·.2)
noncomputable def wlM (ls:zD)(i:Nat):List Rat:=setOf cmpR (wlR ls i)
theorem wE (l:List Rat):jM (setOf cmpR l):=fun i hi=>by
 have h:=zci.1 (xN jQ l).rise i (i+1) (by omega) hi (by omega);rw[zag,zag,zah (show i<(setOf cmpR l).length by omega),zah hi];exact xH.1 h
theorem cJ {l:List Rat}{i:Nat}(h:i<l.length):l.getD i 0∈l:=by rw[zag,zah h];exact zaI h
theorem iK {l:List Rat}{x:Rat}(h:x∈l):∃ i,i<l.length∧l.getD i 0=x:=by
 obtain⟨i,hi,e⟩:=zaZ.1 h;exact⟨i,hi,by rw[zag,zah hi];exact e⟩
theorem zT7 {l:List Rat}{a b:Rat}(ha:a∈l)(hb:b∈l)(hab:a<b)(h:∀ x∈l,a≤x∧x≤b):2≤(setOf cmpR l).length∧(setOf cmpR l).getD 0 0=a∧(setOf cmpR l).getD ((setOf cmpR l).length-1) 0=b:=by
 have hr:=wE l;have hm:∀ x∈setOf cmpR l,a≤x∧x≤b:=fun x hx=>h x ((yN jQ).1 hx);obtain⟨i,hi,ei⟩:=iK ((yN jQ).2 ha);obtain⟨j,hj,ej⟩:=iK ((yN jQ).2 hb);generalize setOf cmpR l=s at *;have hij:i≠j:=fun e=>by subst e;grind
 have h0:=hm _ (cJ (show 0<s.length by omega));have h1:=hm _ (cJ (show s.length-1<s.length by omega));refine⟨by omega,?_,?_⟩
 ·rcases zbd i with c | c
  ·subst c;exact ei
  ·have:=qW hr c hi;grind
 ·rcases zaf j (s.length-1) with c | c
  ·have:=qW hr c (by omega);grind
  ·rw[show s.length-1=j by omega];exact ej
theorem cut_in {ls:zD}{x:Rat}(hx:x∈xsM ls):(zQ ls).1.1≤x∧x≤(zQ ls).2.1:=by
 have hf:=fJ ls;unfold xsM cutsOf at hx;rw[yN jQ] at hx;unfold rawC nO at hx;rcases zad.1 hx with hx | hx
 ·rcases zad.1 hx with hx | hx
  ·simp only[zae,zaN,or_false] at hx;rcases hx with rfl | rfl
   ·exact⟨zaK,zaP hf.2.1⟩
   ·exact⟨zaP hf.2.1,zaK⟩
  ·obtain⟨l,hl,hx⟩:=zaX.1 hx;obtain⟨q,hq,rfl⟩:=zaj.1 hx;have:=hf.1 l hl q hq;exact⟨zaP this.1,zaP this.2.1⟩
 ·obtain⟨i,k,hik,hk,hx⟩:=iM.1 hx;obtain⟨p,hp,rfl⟩:=zaj.1 hx;rw[aS] at hp;obtain⟨s,hs,t,ht,hp⟩:=eG.1 ((yN uU).1 hp);obtain⟨m,hm,rfl⟩:=bD.1 hs;have hb:=zP9 (pair_has hp).1;have hl:=bA (d:=[]) (show i<ls.length by omega);have h1:=hf.1 _ hl _ (jJ hm);have h2:=hf.1 _ hl _ (jJ (gN hm));have h3:=rP (gp (ls.getD i []) m) (nx (ls.getD i []) m);simp only[zae,zaN,or_false] at h3;change (xI (gp (ls.getD i []) m) (nx (ls.getD i []) m)).1.1≤p.1∧p.1≤(xI (gp (ls.getD i []) m) (nx (ls.getD i []) m)).2.1∧_ at hb;generalize xI (gp (ls.getD i []) m) (nx (ls.getD i []) m)=s at *;constructor
  ·rcases h3.1 with e | e<;>rw[e] at hb<;>grind
  ·rcases h3.2 with e | e<;>rw[e] at hb<;>grind
theorem jE (ls:zD):jM (xsM ls):=cM ls _
theorem xs_ends (ls:zD):2≤(xsM ls).length∧(xsM ls).getD 0 0=(zQ ls).1.1∧(xsM ls).getD ((xsM ls).length-1) 0=(zQ ls).2.1 :=
 zT7 (l:=rawC ls (zQ ls)) (by simp[rawC]) (by simp[rawC]) (fJ ls).2.1 fun x hx=>cut_in (by unfold xsM cutsOf;exact(yN jQ).2 hx)
theorem yJ8 {ls:zD}(hls:∀ l∈ls,∃ m,l=hullF m){j:Nat}(hj:j+1<(xsM ls).length) :
  lN (lvM ls j)∧2≤(lvM ls j).length∧(lvM ls j).getD 0 (0,0)=((zQ ls).1.2,(zQ ls).1.2)∧(lvM ls j).getD ((lvM ls j).length-1) (0,0)=((zQ ls).2.2,(zQ ls).2.2) :=
 slab_rises hls hj (rF (jE ls j hj))
theorem xE4 {ls:zD}(hls:∀ l∈ls,∃ m,l=hullF m){j:Nat}(hj:j+1<(xsM ls).length){a:P2}(ha:a∈lvM ls j):(zQ ls).1.2≤a.1∧a.1≤(zQ ls).2.2∧(zQ ls).1.2≤a.2∧a.2≤(zQ ls).2.2:=by
 obtain⟨h1,h2,h3,h4⟩:=yJ8 hls hj;obtain⟨i,hi,e⟩:=zaZ.1 ha;have e2:(lvM ls j).getD i (0,0)=a:=by rw[zag,zah hi];exact e
 have k1:=Go.SL.oI h1 i 0 (by omega) hi;have k2:=Go.SL.oI h1 ((lvM ls j).length-1) i (by omega) (by omega);rw[e2,h3] at k1;rw[e2,h4] at k2;exact⟨k1.1,k2.1,k1.2,k2.2⟩
theorem yA8 {ls:zD}{i:Nat}{y:Rat}:y∈wlM ls i↔y∈wlR ls i:=yN jQ
theorem lK {ls:zD}{i:Nat}{y:Rat}:y∈wlR ls i↔(y=(zQ ls).1.2∨y=(zQ ls).2.2)∨(0<i∧∃ a∈lvM ls (i-1),a.2=y)∨(i+1<(xsM ls).length∧∃ a∈lvM ls i,a.1=y) ∨ ∃ l∈ls,∃ p∈l,p.1=(xsM ls).getD i 0∧p.2=y:=by
 unfold wlR;simp only[zad,zae,zaN,or_false,zaj,zbL,List.mem_flatten,decide_eq_true_eq];rw[or_assoc,or_assoc];refine or_congr Iff.rfl (or_congr ?_ (or_congr ?_ ?_))
 ·split
  ·rename_i c;simp[c]
  ·rename_i c;simp[c]
 ·split
  ·rename_i c;simp[c]
  ·rename_i c;simp[c]
 ·constructor
  ·rintro⟨p,⟨⟨l,hl,hp⟩,e⟩,rfl⟩;exact⟨l,hl,p,hp,e,rfl⟩
  ·rintro⟨l,hl,p,hp,e,rfl⟩;exact⟨p,⟨⟨l,hl,hp⟩,e⟩,rfl⟩
theorem wl_in {ls:zD}(hls:∀ l∈ls,∃ m,l=hullF m){i:Nat}(hi:i<(xsM ls).length){y:Rat}(h:y∈wlR ls i):(zQ ls).1.2≤y∧y≤(zQ ls).2.2:=by
 have hf:=fJ ls;rcases lK.1 h with(rfl | rfl) | ⟨h0,a,ha,rfl⟩ | ⟨h0,a,ha,rfl⟩ | ⟨l,hl,p,hp,_,rfl⟩
 ·exact⟨zaK,zaP hf.2.2⟩
 ·exact⟨zaP hf.2.2,zaK⟩
 ·have:=xE4 hls (by omega) ha;exact this.2.2
 ·have:=xE4 hls h0 ha;exact⟨this.1,this.2.1⟩
 ·have:=hf.1 l hl p hp;exact⟨zaP this.2.2.1,zaP this.2.2.2⟩
theorem bW (ls:zD)(i:Nat):jM (wlM ls i):=wE _
theorem wl_ends {ls:zD}(hls:∀ l∈ls,∃ m,l=hullF m){i:Nat}(hi:i<(xsM ls).length):2≤(wlM ls i).length∧(wlM ls i).getD 0 0=(zQ ls).1.2∧(wlM ls i).getD ((wlM ls i).length-1) 0=(zQ ls).2.2 :=
 zT7 (l:=wlR ls i) (lK.2 (.inl (.inl rfl))) (lK.2 (.inl (.inr rfl))) (fJ ls).2.2 fun x hx=>wl_in hls hi hx
noncomputable def xcM (ls:zD)(c:Nat):Rat:=repY (xsM ls) c
noncomputable def ycM (ls:zD)(c:Nat)(x:Rat):List Rat:=if c%2=0 then wlM ls (c/2) else hsL ((xsM ls).getD (c/2) 0) ((xsM ls).getD (c/2+1) 0) x (lvM ls (c/2))
noncomputable def ynM (ls:zD)(c:Nat):Nat:=if c%2=0 then(wlM ls (c/2)).length else(lvM ls (c/2)).length
theorem oB (ls:zD)(c:Nat)(x:Rat):(ycM ls c x).length=ynM ls c:=by unfold ycM ynM;split;rfl;exact nG _ _ _ _
def ownC (ls:zD)(c j:Nat)(p:P2):Prop:=posY (xsM ls) c p.1∧posY (ycM ls c p.1) j p.2
def touC (ls:zD)(c j:Nat)(p:P2):Prop:=cloY (xsM ls) c p.1∧cloY (ycM ls c p.1) j p.2
noncomputable def repC (ls:zD)(c j:Nat):P2:=(xcM ls c,repY (ycM ls c (xcM ls c)) j)
def inC (ls:zD)(c j:Nat):Prop:=c<2*(xsM ls).length-1∧j<2*ynM ls c-1
theorem zR8 {ls:zD}(hls:∀ l∈ls,∃ m,l=hullF m){c:Nat}(hc:c<2*(xsM ls).length-1){x:Rat}(hx:posY (xsM ls) c x):jM (ycM ls c x):=by
 unfold ycM;unfold posY at hx;split
 ·exact bW _ _
 ·rename_i h;rw[if_neg h] at hx;intro k hk;rw[nG] at hk;exact hs_rise (yJ8 hls (by omega)).1 hx.1 hx.2 hk
theorem part_at {lo hi x:Rat}(h:lo<hi)(h1:lo≤x)(h2:x≤hi):0≤qE lo hi x∧qE lo hi x≤1:=by
 unfold qE;rw[if_pos h];have hp:(0:Rat)<hi-lo:=by grind
 have e:(x-lo)/(hi-lo)*(hi-lo)=x-lo:=zcz (by grind);generalize (x-lo)/(hi-lo)=t at *;constructor
 ·refine Classical.byContradiction fun c=>?_;have:=zaD (show 0 < -t by grind) hp;grind
 ·refine Classical.byContradiction fun c=>?_;have:=zaD (show 0<t-1 by grind) hp;grind
theorem height_mono {a b:P2}{t:Rat}(h0:0≤t)(h1:t≤1)(ha:a.1≤b.1)(hb:a.2≤b.2):xF a t≤xF b t:=by
 unfold xF;have f1:=zaF (show 0≤1-t by grind) (show 0≤b.1-a.1 by grind);have f2:=zaF h0 (show 0≤b.2-a.2 by grind);grind
theorem yA4 {ls:zD}(hls:∀ l∈ls,∃ m,l=hullF m){c:Nat}(hc:c<2*(xsM ls).length-1){x:Rat}(hx:cloY (xsM ls) c x):incQ (ycM ls c x):=by
 unfold ycM;unfold cloY at hx;split
 ·exact qX (bW _ _)
 ·rename_i h;rw[if_neg h] at hx;intro k hk;rw[nG] at hk;have hr:=(yJ8 hls (j:=c/2) (by omega)).1 k hk;obtain⟨a,b⟩:=part_at (jE ls (c/2) (by omega)) hx.1 hx.2;rw[uN (by omega),uN hk];exact height_mono a b hr.1 hr.2.1
theorem zK9 {ls:zD}(hls:∀ l∈ls,∃ m,l=hullF m){c:Nat}(hc:c<2*(xsM ls).length-1)(x:Rat):2≤(ycM ls c x).length∧(ycM ls c x).getD 0 0=(zQ ls).1.2∧(ycM ls c x).getD ((ycM ls c x).length-1) 0=(zQ ls).2.2:=by
 unfold ycM;split
 ·exact wl_ends hls (by omega)
 ·obtain⟨h1,h2,h3,h4⟩:=yJ8 hls (j:=c/2) (by omega);rw[nG];refine⟨h2,?_,?_⟩
  ·rw[uN (by omega),h3];unfold xF;grind
  ·rw[uN (by omega),h4];unfold xF;grind
theorem pow_b (a:Nat):2^(32*a)=4294967296^a:=by rw[Nat.pow_mul]
theorem rlen_dy {p:Rat}{s a:Nat}(hp:rlen p a)(hs:s≤32*(a+a)):rlen (vJ p s) (3*a+1):=by
 have hn:=yA hp.1;have h2:2^s≤4294967296^(a+a):=by rw[← pow_b];exact zbe (by omega) hs
 have h0:0<2^s:=zbO (by omega);have e3:4294967296^(3*a)=4294967296^a*4294967296^(a+a):=by rw[← zaL];congr 1;omega
 have l1:(jV (p*p2 s)).natAbs≤p.num.natAbs*2^s+1:=by
  rw[yA2];have h3:(p.num*((2^s:Nat):Int)/(p.den:Int)).natAbs≤(p.num*((2^s:Nat):Int)).natAbs:=Int.natAbs_ediv_le_natAbs _ _;rw[zbR,zbu] at h3;omega
 have l2:p.num.natAbs*2^s+1≤4294967296^(3*a):=by
  rw[e3];have h4:(p.num.natAbs+1)*2^s≤4294967296^a*4294967296^(a+a):=zaY hn h2;rw[zaV] at h4;omega
 have l3:4294967296^(3*a)<4294967296^(3*a+1):=zcO (by omega) (by omega);have l4:4294967296^(a+a)<4294967296^(3*a+1):=zcO (by omega) (by omega);exact zN4 (N:=4294967296^(3*a)) (M:=4294967296^(a+a)) ⟨jV (p*p2 s),2^s,h0,h2,zab l1 l2,zY6 p s⟩ l3 l4
theorem sR {p q:Rat}{a:Nat}(hp:rlen p a)(hq:rlen q a)(h:p<q):rlen (nT p q) (3*a+1):=by
 unfold nT;split
 ·exact zO lM (by omega)
 ·refine rlen_dy hp (zcp fun c=>(nL h).2 _ c (zY5 h (yA hp.2) (yA hq.2)))
theorem wH {p q:Rat}{a:Nat}(hp:rlen p a)(hq:rlen q a):rlen (xU p q) (3*a+1):=by
 unfold xU;split
 ·rename_i h;split
  ·exact sR hp hq h
  ·exact uI (sR (uI hq) (uI hp) (by grind))
 ·exact zO lM (by omega)
theorem yN6 {α:Type}{f g:α→CT}{k:Nat}{xs:List α}(h:∀ a∈xs,∀ {M w us},(f a).p M w us→(g a).p M w us)(hs:∀ a,(g a).sz=k):PSub (sv (sl k (xs.map f))) (sv (sl k (xs.map g))):=fun M w v q=>dM (f:=f) (g:=g) h hs q
abbrev pcc (n:Nat)(x:List P2):CT:=sl 6 (x.map (ptc n))
theorem pcc_up {n m:Nat}{ls:zD}(h:∀ l∈ls,∀ q∈l,plen q m):PSub (sv (sl 1 (ls.map (pcc n)))) (sv (sl 1 (ls.map (pcc m)))) :=
 yN6 (f:=pcc n) (g:=pcc m) (fun a ha {M w us} k=>dM (f:=ptc n) (g:=ptc m) (fun q hq {M w us} k=>wJ ⟨(h a ha q hq).x,(h a ha q hq).y⟩ M w us k) (fun _=>rfl) k) (fun _=>rfl)
theorem pcc_q {n:Nat}{ls:zD}:PSub (sv (sl 1 (ls.map (pcc n)))) (sv (sl 1 (ls.map (pcs n)))) :=
 yN6 (f:=pcc n) (g:=pcs n) (fun a ha {M w us} k=>dM (f:=ptc n) (g:=ptq n) (fun q hq {M w us} k=>yT1 q k) (fun _=>rfl) k) (fun _=>rfl)
abbrev bxc (n:Nat)(b:BX):CT:=st [ptc n b.1,ptc n b.2]
theorem bxc_q {n:Nat}{b:BX}:PSub (ag (bxc n b)) (ag (st [ptq n b.1,ptq n b.2])):=fun M w v ⟨us,e,x,y,e1,h1,z,o,e2,h2,h3⟩=>⟨us,e,x,y,e1,yT1 _ h1,z,o,e2,yT1 _ h2,h3⟩
theorem bxc_up {n m k:Nat}{b:BX}(h:plen b.1 k∧plen b.2 k):PSub (ag (st [ptc n b.1,ptc m b.2])) (ag (bxc k b)):=fun M w v ⟨us,e,x,y,e1,h1,z,o,e2,h2,h3⟩=>⟨us,e,x,y,e1,wJ ⟨h.1.x,h.1.y⟩ _ _ _ h1,z,o,e2,wJ ⟨h.2.x,h.2.y⟩ _ _ _ h2,h3⟩
theorem rts_up {n m:Nat}{xs:List Rat}(h:∀ x∈xs,rlen x m):PSub (sv (sl 3 (xs.map (rtc n)))) (sv (sl 3 (xs.map (rtc m)))) :=
 yN6 (f:=rtc n) (g:=rtc m) (fun a ha {M w us} k=>by
  obtain⟨s,b,d,e,g⟩:=k;exact⟨s,b,d,e,g.relen (h a ha)⟩) (fun _=>rfl)
def Prt (ls:zD):Prop:=ls.length≤3∧∀ l∈ls,(∃ m,l=hullF m)∧l.length≤9∧∀ q∈l,FP 27720 55384560 q
theorem Prt.fp {ls:zD}(h:Prt ls):∀ l∈ls,∀ q∈l,FP 27720 55412280 q:=fun l hl q hq=>((h.2 l hl).2.2 q hq).up (by omega)
theorem Prt.bx {ls:zD}(h:Prt ls):FP 27720 55412280 (zQ ls).1∧FP 27720 55412280 (zQ ls).2:=frame_fp (A:=55384560) fun l hl q hq=>(h.2 l hl).2.2 q hq
theorem Prt.br {ls:zD}(h:Prt ls):plen (zQ ls).1 1∧plen (zQ ls).2 1:=⟨nI h.bx.1,nI h.bx.2⟩
theorem Prt.hull {ls:zD}(h:Prt ls):∀ l∈ls,∃ m,l=hullF m:=fun l hl=>(h.2 l hl).1
theorem Prt.nine {ls:zD}(h:Prt ls):∀ l∈ls,l.length≤9:=fun l hl=>(h.2 l hl).2.1
theorem vQ {ls:zD}{j:Nat}(hj:j<(xsM ls).length):(xsM ls).getD j 0∈cutsOf ls (zQ ls):=cJ hj
section
variable {ls : zD} (h : Prt ls)
include h
theorem kframeP:CTy prog 19 [sv (sl 1 (ls.map (pcc 1)))] (ag (bxc 1 (zQ ls))):=gQ (k21frame (n:=1) (by omega) (by omega) (by have:=h.1;omega) h.nine) (bxc_up h.br)
theorem k22allP:CTy prog 20 [sv (sl 1 (ls.map (pcc 1))),ag (bxc 1 (zQ ls))] (sv (sl 3 ((xsM ls).map (rtc 3)))) :=
 gQ (yE (k22all (ls:=ls) (b:=zQ ls) (by have:=h.1;omega) h.nine (fun l hl x hx=>⟨zO (nI (h.fp l hl x hx)).x (by omega),zO (nI (h.fp l hl x hx)).y (by omega)⟩) ⟨zO h.br.1.x (by omega),zO h.br.2.x (by omega)⟩) (fs1 pcc_q (fs1 bxc_q fs0))) (rts_up fun x hx=>pA h.fp h.bx hx)
theorem dX:(xsM ls).length≤10000:=cuts_len (by have:=h.1;omega) h.nine
theorem ed_len:(xD ls).length≤27:=by have:=lV h.nine;have:=h.1;omega
end
theorem yQ2 {raw:List Rat}{p:Rat}{n m:Nat}(hm:m≤1900)(hn:n≤1900)(hL:(setOf cmpR raw).length≤100000)(h1:rlen p n):CTy prog 252 [sv (sl 3 ((setOf cmpR raw).map (rtc n))),ag (rtq m p)] (sv (sl 3 ((setOf cmpR (raw++[p])).map (rtc n)))):=by
 refine fw [.tmp 4] func252 fun X=>?_;repeat refine u ?_
 refine lp (σ:=Nat) [0,3,4] (fun k=>[(5,True,zI k)]) (fun k=>[]) (fun k=>k≤(setOf cmpR raw).length∧∀ j,j<k→cmpR ((setOf cmpR raw).getD j 0) p<0) (fun k=>(setOf cmpR raw).length-k) (0) (⟨by omega,by omega⟩) fun k hJ Y _=>?_;obtain⟨hk,hlt⟩:=hJ;iterate 2 refine u ?_
 refine zL 13 mixed rfl rfl ?_;repeat refine u ?_
 refine d1g rfl rfl (oca rfl rfl fun g=>gO (by omega) (by omega)) ?_;repeat refine u ?_
 refine ti (fun c0=>?_) fun c0=>?_;repeat refine u ?_
 rotate_left;iterate 4 refine u ?_
 refine zL 13 mixed rfl rfl ?_;repeat refine u ?_
 refine d1g rfl rfl (oca rfl rfl fun g=>gO (by omega) (by omega)) ?_;repeat refine u ?_
 refine ti (fun c1=>?_) fun c1=>?_;repeat refine u ?_
 refine e ?_;rotate_left;iterate 3 refine u ?_
 refine tbs0 fun r35=>?_;iterate 3 refine u ?_
 refine u fun r40=>?_;iterate 3 refine u ?_
 refine uH 0 9 0 [(4,45,0),(8,49,0)] rfl rfl rfl mixed rfl rfl ?_;repeat refine u ?_
 refine cx1 (oca rfl rfl fun _=>jO (by omega)) rfl ?_;refine cx1 (obs rfl rfl rfl rfl rfl rfl) rfl (cB rfl rfl (cap0 rfl rfl (by(simp;omega)) rfl) ?_);repeat refine u ?_
 refine cA rfl rfl rfl (cap rfl (by(simp;omega)) rfl) ?_;refine cE (fun r49=>?_);refine fm ?_;iterate 3 refine u ?_
 refine t_ts (yK (s:=4) 0 rfl rfl) ?_;repeat refine u ?_
 refine e ?_;rotate_left
 ·have hc:=dand c0;refine⟨k+1,tes ?_ ?_ (zaa _),?_,(by omega)⟩;refine zA rfl tn;refine zA rfl (zA rfl (zA rfl tn));refine⟨by omega,fun j hj=>?_⟩;rcases zaf j k with c | c
  ·exact hlt j c
  ·rw[show j=k by omega];exact hc.2
 ·have hc:=dand c1;rw[(fG jQ (x:=p) (k:=k) 0 hk hlt fun h=>(fun c=>dor c0 ⟨by omega,c⟩)).1 (by omega) hc.2];exact PSub.refl _
 ·have hi:=(fG jQ (x:=p) (k:=k) 0 hk hlt fun h=>(fun c=>dor c0 ⟨by omega,c⟩)).2 fun h c=>dor c1 ⟨by omega,c⟩;exact rM (f:=rtc n) hi (r_up h1) rfl
theorem rL {Φ:PV}{raw:List Rat}{p:Rat}{n m:Nat}[k:QR Φ m p](hm:m≤1900)(hn:n≤1900)(hL:(setOf cmpR raw).length≤100000)(h1:rlen p n):CTy prog 252 [sv (sl 3 ((setOf cmpR raw).map (rtc n))),Φ] (sv (sl 3 ((setOf cmpR (raw++[p])).map (rtc n)))):=yE (yQ2 hm hn hL h1) (fs1 (PSub.refl _) (fs1 qr_q fs0))
theorem k24put0 {Φ:PV}{p:Rat}{n m:Nat}[k:QR Φ m p](hm:m≤1900)(hn:n≤1900)(h1:rlen p n):CTy prog 252 [exP (.slice none 0 0),Φ] (sv (sl 3 ((setOf cmpR [p]).map (rtc n)))):=yE (yQ2 (raw:=[]) hm hn (by rw[fZ jQ];simp) h1) (fs1 (mN jQ rfl) (fs1 qr_q fs0))
def uS (lvs:zD)(i:Nat):List Rat:=if 0<i then(lvs.getD (i-1) []).map (·.2) else []
def aD (lvs:zD)(i:Nat):List Rat:=(lvs.getD i []).map (·.1)
def atX (x:Rat)(l:List P2):List Rat:=(l.filter fun p=>decide (p.1=x)).map (·.2)
def bX (ls:zD)(b:BX)(xs:List Rat)(lvs:zD)(i:Nat):List Rat:=[b.1.2,b.2.2]++uS lvs i++aD lvs i++atX (xs.getD i 0) ls.flatten
theorem zS3 {lvs:zD}{i k:Nat}(h:0<i)(hk:k<(lvs.getD (i-1) Df.d).length):uS lvs i=(lvs.getD (i-1) Df.d).map (·.2)∧(uS lvs i).take (k+1)=(uS lvs i).take k++[((lvs.getD (i-1) Df.d).getD k Df.d).2]∧((lvs.getD (i-1) Df.d).getD k Df.d).2∈uS lvs i:=by
 have e:uS lvs i=(lvs.getD (i-1) Df.d).map (·.2):=by unfold uS;rw[if_pos h];rfl
 refine⟨e,?_,?_⟩
 ·rw[e,← List.map_take,← List.map_take,(zP (Df.d:P2) hk).1,zaq];rfl
 ·rw[e];exact zcw (xB hk)
theorem zS2 {lvs:zD}{i k:Nat}(hk:k<(lvs.getD i Df.d).length):(aD lvs i).take (k+1)=(aD lvs i).take k++[((lvs.getD i Df.d).getD k Df.d).1]∧((lvs.getD i Df.d).getD k Df.d).1∈aD lvs i:=by
 have e:aD lvs i=(lvs.getD i Df.d).map (·.1):=rfl;refine⟨?_,?_⟩
 ·rw[e,← List.map_take,← List.map_take,(zP (Df.d:P2) hk).1,zaq];rfl
 ·rw[e];exact zcw (xB hk)
theorem nU (x:Rat)(l m:List P2):atX x (l++m)=atX x l++atX x m:=by unfold atX;rw[List.filter_append,List.map_append]
theorem zR3 (x:Rat)(p:P2):atX x [p]=if p.1=x then [p.2] else []:=by unfold atX;by_cases h:p.1=x<;>simp[h]
theorem take_split_all {α:Type}[Df α]{l:List α}{k:Nat}(h:k<l.length):l=l.take k++l.getD k Df.d::l.drop (k+1):=by
 rw[zag,zah h,zbw,← zcL h,zbx]
theorem k24wall {ls:zD}{b:BX}{xs:List Rat}{lvs:zD}{i n m N:Nat}(hn:n≤300)(hm:m≤300)(hN:N≤300)(hi:i<xs.length)(hib:i<1000000000)(h9:∀ l∈ls,l.length≤1000000)(hll:ls.length≤1000000)(hL:(bX ls b xs lvs i).length≤90000)(hr:∀ y∈bX ls b xs lvs i,rlen y N) :
  CTy prog 174 [sv (sl 1 (ls.map (pcc n))),ag (bxc n b),sv (sl 3 (xs.map (rtc m))),sv (sl 1 (lvs.map (pcc N))),zI i] (sv (sl 3 ((setOf cmpR (bX ls b xs lvs i)).map (rtc N)))):=by
 have hA:2+(uS lvs i).length+(aD lvs i).length+(atX (xs.getD i 0) ls.flatten).length≤90000:=by unfold bX at hL;simp only[List.length_append,List.length_cons,List.length_nil] at hL;omega
 have mA:∀ y∈uS lvs i,rlen y N:=fun y hy=>hr y (zad.2 (.inl (zad.2 (.inl (zad.2 (.inr hy))))));have mB:∀ y∈aD lvs i,rlen y N:=fun y hy=>hr y (zad.2 (.inl (zad.2 (.inr hy))));have mC:∀ y∈atX (xs.getD i 0) ls.flatten,rlen y N:=fun y hy=>hr y (zad.2 (.inr hy));have hs:∀ {raw:List Rat},raw.length≤100000→(setOf cmpR raw).length≤100000:=fun h=>zab (yY jQ _) h;refine fw [.tmp 10] func174 fun X=>?_;iterate 6 refine u ?_
 refine zL 9 mixed rfl rfl ?_;repeat refine u ?_
 refine zC rfl rfl (k24put0 (n:=N) (by omega) (by omega) ?_) ?_;rotate_left;repeat refine u ?_
 refine zC rfl rfl (rL (by omega) (by omega) ?_ ?_) ?_;rotate_left;rotate_left;repeat refine u ?_
 rotate_left
 ·exact hr _ (by simp[bX])
 ·exact hs (by simp)
 ·exact hr _ (by simp[bX])
 have hil:i<1000000000:=hib;refine yR (σ:=Nat) (fun k=>[(11,True,sv (sl 3 ((setOf cmpR ([b.1.2,b.2.2]++(uS lvs i).take k)).map (rtc N)))),(12,True,zI k)]) (fun k=>[]) (fun k=>k≤(uS lvs i).length) (fun k=>(uS lvs i).length-k) (0) (tk 0 rfl (tk 2 rfl (tk 3 rfl (tk 4 rfl (tk 10 rfl tn))))) ?_ rfl ((by omega)) (fun k hJ Y _=>?_);refine zA rfl (zA rfl tn);iterate 17 refine u ?_
 refine t1g rfl rfl (oix (i-1) rfl rfl rfl (fun g=>(by(simp at g;omega))) (fun g=>(by(simp at g;omega)))) ?_;repeat refine u ?_
 refine tp (fun c0=>?_) fun c0=>?_;iterate 8 refine u ?_
 refine zA1 (oix (i-1) rfl rfl rfl (fun g=>(by omega)) (fun g=>(by omega))) ?_;repeat refine u ?_
 refine zB rfl rfl (rL (by omega) (by omega) ?_ ?_) ?_;rotate_left;rotate_left;repeat refine u ?_
 rotate_left;rotate_left
 ·exact hs (by rw[zak,zaG];simp only[zas,zbb];omega)
 ·exact mA _ (zS3 (by omega) (by omega)).2.2
 ·have h1:=zS3 (lvs:=lvs) (i:=i) (k:=k) (by omega) (by omega);have h2:=congrArg List.length h1.1;rw[zai] at h2;refine⟨k+1,tes ?_ ?_ (zaa _),(by omega),(by omega)⟩;refine tc rfl ?_ ?_;rotate_left;refine zA rfl tn;refine zA rfl (zA rfl (zA rfl (zA rfl (zA rfl tn))));rw[h1.2.1,← zaB];exact PSub.refl _
 have hk:(uS lvs i).length≤k:=by
  unfold uS;split
  ·rename_i h;rw[zai,show lvs.getD (i-1) []=lvs.getD (i-1) Df.d from rfl];rcases zaf (i-1) lvs.length with c | c
   ·omega
   ·rw[zag,zbX c];exact zaC _
  ·exact zaC _
 rw[zaw hk];repeat refine u ?_
 refine yR (σ:=Nat) (fun k=>[(11,True,sv (sl 3 ((setOf cmpR ([b.1.2,b.2.2]++uS lvs i++(aD lvs i).take k)).map (rtc N)))),(13,True,zI k)]) (fun k=>[]) (fun k=>k≤(aD lvs i).length) (fun k=>(aD lvs i).length-k) (0) (tk 0 rfl (tk 2 rfl (tk 3 rfl (tk 4 rfl (tk 10 rfl tn))))) ?_ rfl ((by omega)) (fun k hJ Y _=>?_);refine tc rfl ?_ ?_;rotate_left;refine zA rfl tn;rotate_left
 ·rw[zcy,zap];exact PSub.refl _
 repeat refine u ?_
 refine tp (fun c1=>?_) fun c1=>?_;repeat refine u ?_
 refine zB rfl rfl (rL (by omega) (by omega) ?_ ?_) ?_;rotate_left;rotate_left;repeat refine u ?_
 rotate_left;rotate_left
 ·exact hs (by rw[zak,zak,zaG];simp only[zas,zbb];omega)
 ·exact mB _ (zS2 (by omega)).2
 ·have h1:=zS2 (lvs:=lvs) (i:=i) (k:=k) (by omega);have h2:(aD lvs i).length=(lvs.getD i Df.d).length:=zai _;refine⟨k+1,tes ?_ ?_ (zaa _),(by omega),(by omega)⟩;refine tc rfl ?_ ?_;rotate_left;refine zA rfl tn;refine zA rfl (zA rfl (zA rfl (zA rfl (zA rfl tn))));rw[h1.1,← zaB];exact PSub.refl _
 have hk:(aD lvs i).length≤k:=by
  unfold aD;rw[zai,show lvs.getD i []=lvs.getD i Df.d from rfl];rcases zaf i lvs.length with c | c
  ·omega
  ·rw[zag,zbX c];exact zaC _
 rw[zaw hk];repeat refine u ?_
 have hC:∀ k j,(atX (xs.getD i 0) (ls.take k).flatten++atX (xs.getD i 0) ((ls.getD k Df.d).take j)).length≤(atX (xs.getD i 0) ls.flatten).length∧∀ y∈atX (xs.getD i 0) (ls.take k).flatten++atX (xs.getD i 0) ((ls.getD k Df.d).take j),rlen y N:=fun k j=>by
  have h:((ls.take k).flatten++(ls.getD k Df.d).take j).Sublist ls.flatten:=by
   rcases zaf k ls.length with c | c
   ·have e:ls.flatten=(ls.take k).flatten++((ls.getD k Df.d)++(ls.drop (k+1)).flatten):=by
     rw[← List.flatten_cons,← zca,← take_split_all c]
    rw[e];exact List.Sublist.append (zaa _) ((List.take_sublist _ _).trans (List.sublist_append_left _ _))
   ·rw[zaw c,zag,zbX c];show (ls.flatten++List.take j []).Sublist _;rw[List.take_nil,zap];exact zaa _
  rw[← nU];have h2:(atX (xs.getD i 0) ((ls.take k).flatten++(ls.getD k Df.d).take j)).Sublist (atX (xs.getD i 0) ls.flatten):=(h.filter _).map _;exact⟨h2.length_le,fun y hy=>mC y (h2.subset hy)⟩
 generalize hx0:xs.getD i 0=x0 at *;refine yR (σ:=Nat) (fun k=>[(11,True,sv (sl 3 ((setOf cmpR (([b.1.2,b.2.2]++uS lvs i++aD lvs i)++atX x0 (ls.take k).flatten)).map (rtc N)))),(14,True,zI k)]) (fun k=>[]) (fun k=>k≤ls.length) (fun k=>ls.length-k) (0) (tk 0 rfl (tk 2 rfl (tk 4 rfl (tk 10 rfl tn)))) ?_ rfl ((by omega)) (fun k hJ Y _=>?_);refine tc rfl ?_ ?_;rotate_left;refine zA rfl tn;rotate_left
 ·rw[show atX x0 (ls.take 0).flatten=[] from rfl,zap];exact PSub.refl _
 repeat refine u ?_
 refine tp (fun c2=>?_) fun c2=>?_;repeat refine u ?_
 rotate_left;rotate_left
 ·have hk2:k<ls.length:=by omega
  refine yR (σ:=Nat) (fun j=>[(11,True,sv (sl 3 ((setOf cmpR (([b.1.2,b.2.2]++uS lvs i++aD lvs i)++(atX x0 (ls.take k).flatten++atX x0 ((ls.getD k Df.d).take j)))).map (rtc N)))),(15,True,zI j)]) (fun j=>[]) (fun j=>j≤(ls.getD k Df.d).length) (fun j=>(ls.getD k Df.d).length-j) (0) (tk 0 rfl (tk 2 rfl (tk 4 rfl (tk 10 rfl (tk 14 rfl tn))))) ?_ rfl ((by omega)) (fun j hJ Y _=>?_);refine tc rfl ?_ ?_;rotate_left;refine zA rfl tn;rotate_left
  ·rw[zcy,show atX x0 []=[] from rfl,zap];exact PSub.refl _
  have hj1:=hC k j;have hj2:=hC k (j+1);repeat refine u ?_
  refine tp (fun c3=>?_) fun c3=>?_;iterate 4 refine u ?_
  refine zL 14 mixed rfl rfl ?_;repeat refine u ?_
  refine zC rfl rfl (gO (by omega) (by omega)) ?_;repeat refine u ?_
  refine tp (fun c4=>?_) fun c4=>?_;repeat refine u ?_
  refine zB rfl rfl (rL (by omega) (by omega) ?_ ?_) ?_;rotate_left;rotate_left;repeat refine u ?_
  refine zA1 (oad rfl rfl ?_) ?_;rotate_left;repeat refine u ?_
  rotate_left;repeat refine u ?_
  refine zA1 (oad rfl rfl ?_) ?_;rotate_left;repeat refine u ?_
  rotate_left;rotate_left
  ·exact hs (by rw[zak,zak,zak];simp only[zas,zbb];omega)
  ·have hq:cmpR _ _=0:=c4;rw[xA,show xs.getD i Df.d=x0 from hx0] at hq;exact hj2.2 _ (by rw[(zP (Df.d:P2) (l:=ls.getD k Df.d) (s:=j) (by omega)).1,nU,zR3,if_pos hq];simp)
  ·have:=h9 _ (xB hk2);omega
  ·have hq:cmpR _ _=0:=c4;rw[xA,show xs.getD i Df.d=x0 from hx0] at hq;refine⟨j+1,tes ?_ ?_ (zaa _),(by omega),(by omega)⟩;refine tc rfl ?_ ?_;rotate_left;refine zA rfl tn;refine zA rfl (zA rfl (zA rfl (zA rfl (zA rfl tn))));rw[(zP (Df.d:P2) (l:=ls.getD k Df.d) (s:=j) (by omega)).1,nU,zR3,if_pos hq];simp only[zaB];exact PSub.refl _
  ·have:=h9 _ (xB hk2);omega
  ·have hq:¬ cmpR _ _=0:=c4;rw[xA,show xs.getD i Df.d=x0 from hx0] at hq;refine⟨j+1,tes ?_ ?_ (zaa _),(by omega),(by omega)⟩;refine tc rfl ?_ ?_;rotate_left;refine zA rfl tn;refine zA rfl (zA rfl (zA rfl (zA rfl (zA rfl tn))));rw[(zP (Df.d:P2) (l:=ls.getD k Df.d) (s:=j) (by omega)).1,nU,zR3,if_neg hq,zap];exact PSub.refl _
  ·repeat refine u ?_
   refine⟨k+1,tes ?_ ?_ (zaa _),(by omega),(by omega)⟩;refine tc rfl ?_ ?_;rotate_left;refine zA rfl tn;refine zA rfl (zA rfl (zA rfl (zA rfl tn)));rw[(zP (Df.d:List P2) (l:=ls) (s:=k) hk2).1,zca,nU,show [ls.getD k Df.d].flatten=ls.getD k Df.d by simp,zaw (show (ls.getD k Df.d).length≤j by omega)];exact PSub.refl _
 ·have:ls.length≤k:=by omega
  rw[zaw this];repeat refine u ?_
  refine e ?_;rw[← hx0];exact PSub.refl _
theorem k24walls {ls:zD}{b:BX}{xs:List Rat}{lvs:zD}{n m N:Nat}(hn:n≤300)(hm:m≤300)(hN:N≤300)(hxl:xs.length≤1000000)(h9:∀ l∈ls,l.length≤1000000)(hll:ls.length≤1000000)(hL:∀ i,i<xs.length→(bX ls b xs lvs i).length≤90000)(hr:∀ i,i<xs.length→∀ y∈bX ls b xs lvs i,rlen y N) :
  CTy prog 99 [sv (sl 1 (ls.map (pcc n))),ag (bxc n b),sv (sl 3 (xs.map (rtc m))),sv (sl 1 (lvs.map (pcc N)))] (sv (sl 1 (((List.range xs.length).map fun i=>setOf cmpR (bX ls b xs lvs i)).map fun l=>sl 3 (l.map (rtc N))))):=by
 refine fw [.tmp 8] func99 fun X=>?_;repeat refine u ?_
 refine t_ts (xQ 43 1) ?_;refine lp (σ:=Nat×Value) [0,2,3,5,8] (fun s=>[(9,True,exP s.2),(10,True,zI s.1)]) (fun s=>[.row s.2 43 1 (((List.range s.1).map fun i=>setOf cmpR (bX ls b xs lvs i)).map fun l=>sl 3 (l.map (rtc N)))]) (fun s=>s.1≤xs.length) (fun s=>xs.length-s.1) ((0,.slice none 0 0)) ((by simp)) fun s hJ Y _=>?_;obtain⟨i,v⟩:=s;dsimp only at hJ ⊢;repeat refine u ?_
 refine tp (fun c0=>?_) fun c0=>?_;repeat refine u ?_
 refine zB rfl rfl (k24wall (by omega) (by omega) (by omega) (by omega) (by omega) h9 hll ?_ ?_) ?_;rotate_left;rotate_left;refine u ?_;refine u fun r25=>?_;repeat refine u ?_
 rotate_left;rotate_left
 ·exact hL i (by omega)
 ·exact hr i (by omega)
 ·refine⟨(i+1,r25),tes ?_ ?_ ?_,(by omega),(by omega)⟩;refine zA rfl (zA rfl tn);refine zA rfl (zA rfl (zA rfl (zA rfl (zA rfl tn))));rw[zaQ,zaq];exact zaa _
 ·have:i=xs.length:=by omega
  subst this;iterate 7 refine u ?_
  refine t_ts (yK (s:=8) 0 rfl rfl) ?_;repeat refine u ?_
  exact e
theorem w24between {p q:Rat}{n:Nat}(hn:n≤24):CTy prog 253 [ag (rtc n p),ag (rtc n q)] (ag (rtc 400 (xU p q))):=by
 refine fw [.cell 4 29] func253 fun X=>?_;iterate 4 refine u ?_
 refine u fun b4=>?_;repeat refine u ?_
 refine zB rfl rfl (k7betw (by omega)) ?_;iterate 3 refine u ?_
 refine u fun b5=>?_;refine u ?_;refine zR (zU (s:=5) 0 rfl rfl) ?_;repeat refine u ?_
 refine ti (fun c0=>?_) fun c0=>?_;repeat refine u ?_
 refine zB rfl rfl (xG1 (k:=0) (K:=400) (by omega) (by omega)) ?_;refine zH 0 rfl rfl ?_;repeat refine u ?_
 refine⟨[_],zN 0 rfl rs0,yJ ?_⟩;rotate_left;repeat refine u ?_
 refine zH 0 rfl rfl ?_;repeat refine u ?_
 refine⟨[_],zN 0 rfl rs0,yJ (PSub.refl _)⟩;have h:¬ p<q:=of_decide_eq_false (by have:=c0.h;rw[Bool.not_eq_true'] at this;exact this);exact uT (by unfold xU;rw[if_neg h];rfl) (by omega)
theorem lT {p q:Rat}{n m K:Nat}(hn:n≤24)(hp:rlen p m)(hq:rlen q m)(hK:3*m+1≤K):CTy prog 253 [ag (rtc n p),ag (rtc n q)] (ag (rtc K (xU p q))):=zY9 (w24between hn) (zO (wH hp hq) hK)
abbrev CL:=Nat×Nat×Nat×P2
abbrev celT (N:Nat)(c:CL):CT:=st [xc (.int .i8 ((c.1:Nat):Int)),xc (.int .i64 ((c.2.1:Nat):Int)),xc (.int .i64 ((c.2.2.1:Nat):Int)),ptc N c.2.2.2]
noncomputable abbrev colC (k a:Nat)(x:Rat)(ys:List Rat)(j:Nat):CL:=(k+j%2,a,j/2,(x,repY ys j))
noncomputable abbrev celC (N k a:Nat)(x:Rat)(ys:List Rat)(j:Nat):CT:=celT N (colC k a x ys j)
noncomputable def colL (k a:Nat)(x:Rat)(ys:List Rat):List CL:=(List.range (2*ys.length-1)).map (colC k a x ys)
theorem zN9 {n m:Nat}{p:P2}(h:m≤n):PSub (ag (ptc m p)) (ag (ptc n p)):=fun M w v ⟨us,e,k⟩=>⟨us,e,eI h k⟩
theorem rJ {x y:Rat}{n m:Nat}(hn:n≤1990)(hm:m≤1990):CTy prog 77 [sv (sl 6 [st [rtc n x,rtc m y]])] (sv (sl 6 [ptc (max n m+1) (x,y)])) :=
 yE (zP6 (l:=[(x,y)]) (n:=max n m) (by omega) (by simp)) (fs1 (yR7 (A:=[]) (B:=[]) (c':=ptq (max n m) (x,y)) (fun M w us k=>by
  obtain⟨s,a,d,t,b,e,rfl,g⟩:=CP.h (c:=st [rtc n x,rtc m y]) k;exact yC1 g) rfl) fs0)
theorem yN7 {α:Type}(f:Nat→α){i l:Nat}(h:i+1<l):((List.range (min (2*i) (2*l-1))).map f++[f (2*i)])++[f (2*i+1)]=(List.range (min (2*(i+1)) (2*l-1))).map f:=by
 rw[zbB (by omega),zbB (by omega),show 2*(i+1)=2*i+1+1 by omega,zaQ,zaQ,zaq,zaq];rfl
theorem zZ0 {α:Type}(f:Nat→α){i l:Nat}(h:i<l)(h2:¬ i+1<l):(List.range (min (2*i) (2*l-1))).map f++[f (2*i)]=(List.range (min (2*(i+1)) (2*l-1))).map f:=by
 rw[zbB (by omega),Nat.min_eq_right (by omega),show 2*l-1=2*i+1 by omega,zaQ,zaq];rfl
theorem iX {N k a i:Nat}{x:Rat}{ys:List Rat}:celC N k a x ys (2*i)=st [xc (.int .i8 ((k:Nat):Int)),xc (.int .i64 ((a:Nat):Int)),xc (.int .i64 ((i:Nat):Int)),ptc N (x,ys.getD i Df.d)]:=by
 unfold celC celT colC repY;dsimp only;rw[show 2*i%2=0 by omega,show 2*i/2=i by omega,if_pos rfl];rfl
theorem zZ1 {N k a i:Nat}{x:Rat}{ys:List Rat}:celC N k a x ys (2*i+1)=st [xc (.int .i8 ((k+1:Nat):Int)),xc (.int .i64 ((a:Nat):Int)),xc (.int .i64 ((i:Nat):Int)),ptc N (x,xU (ys.getD i Df.d) (ys.getD (i+1) Df.d))]:=by
 unfold celC celT colC repY;dsimp only;rw[show (2*i+1)%2=1 by omega,show (2*i+1)/2=i by omega,if_neg (by omega)];rfl
theorem k24wallCells {x:Rat}{ys:List Rat}{a n N:Nat}(hn:n≤24)(hr:∀ y∈ys,rlen y n)(hN:3*n+2≤N)(hl:ys.length≤100000):CTy prog 175 [ag (rtc n x),sv (sl 3 (ys.map (rtc n))),zI a] (sv (sl 9 ((List.range (2*ys.length-1)).map (celC N 0 a x ys)))):=by
 refine fw [.tmp 6] func175 fun X=>?_;repeat refine u ?_
 refine t_ts (xQ 85 9) ?_;refine lp (σ:=Nat×Value) [1,2,3,6] (fun s=>[(7,True,exP s.2),(8,True,zI s.1)]) (fun s=>[.row s.2 85 9 ((List.range (min (2*s.1) (2*ys.length-1))).map (celC N 0 a x ys))]) (fun s=>s.1≤ys.length) (fun s=>ys.length-s.1) ((0,.slice none 0 0)) ((by simp)) fun s hJ Y _=>?_;obtain⟨i,v⟩:=s;dsimp only at hJ ⊢;repeat refine u ?_
 refine tp (fun c0=>?_) fun c0=>?_;iterate 4 refine u ?_
 refine uH 0 16 0 [(15,30,0)] rfl rfl rfl mixed rfl rfl ?_;repeat refine u ?_
 refine cx1 (obd rfl rfl rfl) rfl ?_;refine cx1 (obs rfl rfl rfl rfl rfl rfl) rfl (cx1 (oca rfl rfl fun _=>rJ (by omega) (by omega)) rfl ?_);refine cx1 (oix _ rfl rfl rfl (fun _=>rfl) (fun _=>(by(simp;done)))) rfl (cx1 (yT (old rfl rfl) (zN9 (n:=N) (by omega))) rfl ?_);refine cx1 (obd rfl rfl rfl) rfl ?_;refine cx1 (obs rfl rfl rfl rfl rfl rfl) rfl (cB rfl rfl (cap0 rfl rfl (by(simp;omega)) rfl) ?_);refine cE (fun r30=>?_);refine fm ?_;repeat refine u ?_
 refine tp (fun c1=>?_) fun c1=>?_;refine uH 0 22 0 [(21,57,0)] rfl rfl rfl mixed rfl rfl ?_;repeat refine u ?_
 refine cx1 (oca rfl rfl fun _=>lT (m:=n) (K:=3*n+1) (by omega) ?_ ?_ (by omega)) rfl ?_;rotate_left;rotate_left;refine cx1 (obd rfl rfl rfl) rfl ?_;refine cx1 (obs rfl rfl rfl rfl rfl rfl) rfl (cx1 (oca rfl rfl fun _=>rJ (by omega) (by omega)) rfl ?_);refine cx1 (oix _ rfl rfl rfl (fun _=>rfl) (fun _=>(by(simp;done)))) rfl (cx1 (yT (old rfl rfl) (zN9 (n:=N) (by omega))) rfl ?_);refine cx1 (obd rfl rfl rfl) rfl ?_;refine cx1 (obs rfl rfl rfl rfl rfl rfl) rfl (cB rfl rfl (cap0 rfl rfl (by(simp;omega)) rfl) ?_);refine cE (fun r57=>?_);refine fm ?_;repeat refine u ?_
 refine zA1 (omv rfl) ?_;repeat refine u ?_
 rotate_left;repeat refine u ?_
 rotate_left;rotate_left
 ·exact hr _ (xB (by omega))
 ·exact hr _ (xB (by omega))
 ·refine⟨(i+1,r57),tes ?_ ?_ ?_,(by omega),(by omega)⟩;refine zA rfl (zA rfl tn);refine zA rfl (zA rfl (zA rfl (zA rfl tn)));rw[← yN7 _ (show i+1<ys.length by omega),iX,zZ1];exact zaa _
 ·refine⟨(i+1,r30),tes ?_ ?_ ?_,(by omega),(by omega)⟩;refine zA rfl (zA rfl tn);refine zA rfl (zA rfl (zA rfl (zA rfl tn)));rw[← zZ0 _ (show i<ys.length by omega) (by omega),iX];exact zaa _
 ·have:i=ys.length:=by omega
  subst this;iterate 7 refine u ?_
  refine t_ts (yK (s:=6) 0 rfl rfl) ?_;repeat refine u ?_
  refine e ?_;rw[Nat.min_eq_right (by omega)];exact PSub.refl _
theorem k24wallCellsL {x:Rat}{ys:List Rat}{a n N:Nat}(hn:n≤24)(hr:∀ y∈ys,rlen y n)(hN:3*n+2≤N)(hl:ys.length≤100000):CTy prog 175 [ag (rtc n x),sv (sl 3 (ys.map (rtc n))),zI a] (sv (sl 9 ((colL 0 a x ys).map (celT N)))):=by
 unfold colL;rw[List.map_map];exact k24wallCells hn hr hN hl
theorem k24slabCells {lo hi:Rat}{ls:List P2}{a n m N:Nat}(hn:n≤24)(hm:m≤24)(hlo:rlen lo n)(hhi:rlen hi n)(hq:lo<hi)(hr:∀ y∈hsL lo hi (xU lo hi) ls,rlen y m)(hN:3*m+2≤N)(hN2:3*n+2≤N)(hl:ls.length≤1000){q:Nat}(hq2:q≤90):CTy prog 176 [ag (rtc n lo),ag (rtc n hi),sv (pcc q ls),zI a] (sv (sl 9 ((colL 2 a (xU lo hi) (hsL lo hi (xU lo hi) ls)).map (celT N)))):=by
 have hK:=gQ (k23heights (Ψ:=ag (rtc n lo)) (Φ:=ag (rtc n hi)) (Θ:=ag (rtc (3*n+1) (xU lo hi))) (Ξ:=sv (pcc q ls)) (by omega) (by omega) (by omega) (by omega) hl hq) (yN6 (f:=rtc _) (g:=rtc m) (fun y hy {M w us} ⟨s,b,d,e,g⟩=>⟨s,b,d,e,g.relen (hr y hy)⟩) fun _=>rfl);unfold colL;rw[List.map_map];have hlen:(hsL lo hi (xU lo hi) ls).length=ls.length:=by unfold hsL;rw[List.length_map]
 generalize hys:hsL lo hi (xU lo hi) ls=ys at *;refine fw [.tmp 8] func176 fun X=>?_;repeat refine u ?_
 refine zB rfl rfl (lT (m:=n) (K:=3*n+1) (by omega) (by omega) (by omega) (by omega)) ?_;refine u fun b10=>?_;refine u ?_;refine zR (zU (s:=10) 0 rfl rfl) ?_;repeat refine u ?_
 refine zB rfl rfl hK ?_;repeat refine u ?_
 refine t_ts (xQ 85 9) ?_;refine yR (σ:=Nat×Value) (fun s=>[(9,True,exP s.2),(12,True,zI s.1)]) (fun s=>[.row s.2 85 9 ((List.range (min (2*s.1) (2*ys.length-1))).map (celC N 2 a (xU lo hi) ys))]) (fun s=>s.1≤ys.length) (fun s=>ys.length-s.1) ((0,.slice none 0 0)) (tk 3 rfl (tk 8 rfl (tk 10 rfl (tk 11 rfl tn)))) ?_ rfl ((by simp)) (fun s hJ Y _=>?_);refine zA rfl (zA rfl tn);obtain⟨i,v⟩:=s;dsimp only at hJ ⊢;repeat refine u ?_
 refine tp (fun c0=>?_) fun c0=>?_;iterate 4 refine u ?_
 refine uH 0 16 0 [(15,42,0)] rfl rfl rfl mixed rfl rfl ?_;repeat refine u ?_
 refine cx1 (obd rfl rfl rfl) rfl ?_;refine cx1 (obs rfl rfl rfl rfl rfl rfl) rfl (cx1 (oca rfl rfl fun _=>rJ (by omega) (by omega)) rfl ?_);refine cx1 (oix _ rfl rfl rfl (fun _=>rfl) (fun _=>(by(simp;done)))) rfl (cx1 (yT (old rfl rfl) (zN9 (n:=N) (by omega))) rfl ?_);refine cx1 (obd rfl rfl rfl) rfl ?_;refine cx1 (obs rfl rfl rfl rfl rfl rfl) rfl (cB rfl rfl (cap0 rfl rfl (by(simp;omega)) rfl) ?_);refine cE (fun r42=>?_);refine fm ?_;repeat refine u ?_
 refine tp (fun c1=>?_) fun c1=>?_;refine uH 0 22 0 [(21,69,0)] rfl rfl rfl mixed rfl rfl ?_;repeat refine u ?_
 refine cx1 (oca rfl rfl fun _=>lT (m:=m) (K:=3*m+1) (by omega) ?_ ?_ (by omega)) rfl ?_;rotate_left;rotate_left;refine cx1 (obd rfl rfl rfl) rfl ?_;refine cx1 (obs rfl rfl rfl rfl rfl rfl) rfl (cx1 (oca rfl rfl fun _=>rJ (by omega) (by omega)) rfl ?_);refine cx1 (oix _ rfl rfl rfl (fun _=>rfl) (fun _=>(by(simp;done)))) rfl (cx1 (yT (old rfl rfl) (zN9 (n:=N) (by omega))) rfl ?_);refine cx1 (obd rfl rfl rfl) rfl ?_;refine cx1 (obs rfl rfl rfl rfl rfl rfl) rfl (cB rfl rfl (cap0 rfl rfl (by(simp;omega)) rfl) ?_);refine cE (fun r69=>?_);refine fm ?_;repeat refine u ?_
 refine zA1 (omv rfl) ?_;repeat refine u ?_
 rotate_left;repeat refine u ?_
 rotate_left;rotate_left
 ·exact hr _ (xB (by omega))
 ·exact hr _ (xB (by omega))
 ·refine⟨(i+1,r69),tes ?_ ?_ ?_,(by omega),(by omega)⟩;refine zA rfl (zA rfl tn);refine zA rfl (zA rfl (zA rfl (zA rfl tn)));rw[← yN7 _ (show i+1<ys.length by omega),iX,zZ1];exact zaa _
 ·refine⟨(i+1,r42),tes ?_ ?_ ?_,(by omega),(by omega)⟩;refine zA rfl (zA rfl tn);refine zA rfl (zA rfl (zA rfl (zA rfl tn)));rw[← zZ0 _ (show i<ys.length by omega) (by omega),iX];exact zaa _
 ·have:i=ys.length:=by omega
  subst this;iterate 7 refine u ?_
  refine t_ts (yK (s:=8) 0 rfl rfl) ?_;repeat refine u ?_
  refine e ?_;rw[Nat.min_eq_right (by omega)];exact PSub.refl _
structure Mdl where
 b:BX
 xs:List Rat
 lv:zD
 wl:List (List Rat)
 cs:List CL
abbrev mdT (N:Nat)(m:Mdl):CT:=st [bxc N m.b,sl 3 (m.xs.map (rtc N)),sl 1 (m.lv.map (pcc N)),sl 1 (m.wl.map fun l=>sl 3 (l.map (rtc N))),sl 9 (m.cs.map (celT N))]
noncomputable instance:Df (List Rat):=⟨[]⟩
noncomputable def cellsI (xs:List Rat)(lv:zD)(wl:List (List Rat))(i:Nat):List CL :=
 (if i<wl.length then colL 0 i (xs.getD i 0) (wl.getD i []) else [])++(if i<lv.length∧i+1<xs.length then colL 2 i (xU (xs.getD i 0) (xs.getD (i+1) 0)) (hsL (xs.getD i 0) (xs.getD (i+1) 0) (xU (xs.getD i 0) (xs.getD (i+1) 0)) (lv.getD i [])) else [])
noncomputable def cellsM (xs:List Rat)(lv:zD)(wl:List (List Rat)):List CL:=((List.range xs.length).map (cellsI xs lv wl)).flatten
theorem zQ0 {α:Type}{K:Nat}:∀ {L:List (List α)},(∀ l∈L,l.length≤K)→L.flatten.length≤L.length*K
 | [],_=>by simp
 | l::L,h=>by
  have h1:=h l (by simp);have h2:=zQ0 (L:=L) fun x hx=>h x (by simp[hx]);rw[List.flatten_cons,zak,zas,zaV];omega
theorem dN {N:Nat}{xs:List Rat}{lv:zD}{wl:List (List Rat)}{i:Nat}:((List.range (i+1)).map (cellsI xs lv wl)).flatten.map (celT N)=((List.range i).map (cellsI xs lv wl)).flatten.map (celT N)++(cellsI xs lv wl i).map (celT N):=by
 rw[zaQ,zaq,zca,zaq];simp
theorem k24cells {n m q N:Nat}{b:BX}{xs:List Rat}{lv:zD}{wl:List (List Rat)}(hn:n≤24)(hm:m≤24)(hq:q≤24)(hx:∀ x∈xs,rlen x n)(hr:jM xs)(hw:∀ l∈wl,l.length≤1000∧∀ y∈l,rlen y m)(hl:∀ l∈lv,l.length≤1000)
  (hs:∀ i,i<lv.length→i+1<xs.length→∀ y∈hsL (xs.getD i 0) (xs.getD (i+1) 0) (xU (xs.getD i 0) (xs.getD (i+1) 0)) (lv.getD i []),rlen y m) (hN:3*m+2≤N) (hN2:3*n+2≤N) (hnm:n≤m) (hxl:xs.length≤10000) :
  CTy prog 100 [ag (st [bxc 1 b,sl 3 (xs.map (rtc n)),sl 1 (lv.map (pcc q)),sl 1 (wl.map fun l=>sl 3 (l.map (rtc m))),sl 9 []])] (sv (sl 9 ((cellsM xs lv wl).map (celT N)))):=by
 refine fw [.tmp 2] func100 fun X=>?_;repeat refine u ?_
 refine t_ts (xQ 85 9) ?_;refine lp (σ:=Nat×Value) [1,2] (fun s=>[(3,True,exP s.2),(4,True,zI s.1)]) (fun s=>[.row s.2 85 9 (((List.range s.1).map (cellsI xs lv wl)).flatten.map (celT N))]) (fun s=>s.1≤xs.length) (fun s=>xs.length-s.1) ((0,.slice none 0 0)) ((by simp)) fun s hJ Y _=>?_;obtain⟨i,v⟩:=s;dsimp only at hJ ⊢;have hA:i<xs.length→i<wl.length→CTy prog 175 [ag (rtc n (xs.getD i Df.d)),sv (sl 3 ((wl.getD i Df.d).map (rtc m))),zI i] (sv (sl 9 ((colL 0 i (xs.getD i 0) (wl.getD i [])).map (celT N)))):=fun h1 h2 =>
  yE (k24wallCellsL (n:=m) (by omega) (hw _ (xB h2)).2 hN (zab (hw _ (xB h2)).1 (by omega))) (fs1 (zT9 rfl (zO (hx _ (xB h1)) hnm)) (fs1 (PSub.refl _) (fs1 (PSub.refl _) fs0)))
 have hB:i+1<xs.length→i<lv.length→CTy prog 176 [ag (rtc n (xs.getD i Df.d)),ag (rtc n (xs.getD (i+1) Df.d)),sv (pcc q (lv.getD i Df.d)),zI i] (sv (sl 9 ((colL 2 i (xU (xs.getD i 0) (xs.getD (i+1) 0)) (hsL (xs.getD i 0) (xs.getD (i+1) 0) (xU (xs.getD i 0) (xs.getD (i+1) 0)) (lv.getD i []))).map (celT N)))):=fun h1 h2 =>
  k24slabCells hn hm (hx _ (xB (by omega))) (hx _ (xB h1)) (hr i h1) (hs i h2 h1) hN hN2 (hl _ (xB h2)) (by omega)
 have hA0:∀ i,i<wl.length→(colL 0 i (xs.getD i 0) (wl.getD i [])).length≤2000:=fun i h=>by
  have:=(hw _ (xB h)).1;unfold colL;rw[List.length_map,List.length_range];have e:(wl.getD i ([]:List Rat)).length≤1000:=this;omega
 have hB0:∀ i,i<lv.length→(colL 2 i (xU (xs.getD i 0) (xs.getD (i+1) 0)) (hsL (xs.getD i 0) (xs.getD (i+1) 0) (xU (xs.getD i 0) (xs.getD (i+1) 0)) (lv.getD i []))).length≤2000:=fun i h=>by
  have:=hl _ (xB h);unfold colL hsL;rw[List.length_map,List.length_range,List.length_map];have e:(lv.getD i ([]:List P2)).length≤1000:=this;omega
 have hC:(((List.range i).map (cellsI xs lv wl)).flatten).length≤i*4000:=by
  have:=zQ0 (K:=4000) (L:=(List.range i).map (cellsI xs lv wl)) fun l hl'=>by
   obtain⟨j,_,rfl⟩:=zaj.1 hl';unfold cellsI;rw[zak];split<;>split
   ·rename_i h1 h2;have:=hA0 j h1;have:=hB0 j h2.1;omega
   ·rename_i h1 h2;have:=hA0 j h1;rw[zbb];omega
   ·rename_i h1 h2;have:=hB0 j h2.1;rw[zbb];omega
   ·simp
  rwa [zai,zbJ] at this
 repeat refine u ?_
 refine tp (fun c0=>?_) fun c0=>?_;repeat refine u ?_
 refine tp (fun c1=>?_) fun c1=>?_;refine uH 0 14 0 [(13,30,0)] rfl rfl rfl mixed rfl rfl ?_;repeat refine u ?_
 refine cx1 (oca rfl rfl fun _=>hA (by omega) (by omega)) rfl ?_;refine cB rfl rfl (cap0 rfl rfl ?_ rfl) ?_;rotate_left;refine cE (fun r30=>?_);refine fm ?_;repeat refine u ?_
 refine t1g rfl rfl (ofa rfl rfl) ?_;repeat refine u ?_
 refine tp (fun c2=>?_) fun c2=>?_;refine uH 0 20 0 [(19,63,0)] rfl rfl rfl mixed rfl rfl ?_;repeat refine u ?_
 refine cx1 (ofa rfl rfl) rfl ?_;repeat refine u ?_
 refine cx1 (omv rfl) rfl ?_;repeat refine u ?_
 refine cx1 (ofa rfl rfl) rfl ?_;repeat refine u ?_
 refine cx1 (omv rfl) rfl ?_;repeat refine u ?_
 refine cx1 (ofa rfl rfl) rfl ?_;repeat refine u ?_
 refine cx1 (omv rfl) rfl ?_;repeat refine u ?_
 refine cx1 (omv rfl) rfl (cx1 (oca rfl rfl fun _=>hB (by omega) (by omega)) rfl ?_);refine cB rfl rfl (cap0 rfl rfl ?_ rfl) ?_;rotate_left;refine cE (fun r63=>?_);refine fm ?_;repeat refine u ?_
 refine zA1 (omv rfl) ?_;repeat refine u ?_
 rotate_left;repeat refine u ?_
 rotate_left;repeat refine u ?_
 refine tp (fun c3=>?_) fun c3=>?_;refine uH 0 20 0 [(19,63,0)] rfl rfl rfl mixed rfl rfl ?_;repeat refine u ?_
 refine cx1 (ofa rfl rfl) rfl ?_;repeat refine u ?_
 refine cx1 (omv rfl) rfl (cx1 (oca rfl rfl fun _=>hB (by omega) (by omega)) rfl ?_);refine cB rfl rfl (cap0 rfl rfl ?_ rfl) ?_;rotate_left;refine cE (fun r63=>?_);refine fm ?_;repeat refine u ?_
 refine zA1 (omv rfl) ?_;repeat refine u ?_
 rotate_left;repeat refine u ?_
 rotate_left;rotate_left
 ·have:=hA0 i (by omega);rw[zai,zai];omega
 ·have:=hA0 i (by omega);have:=hB0 i (by omega);rw[zak,zai,zai,zai];omega
 ·refine⟨(i+1,r63),tes ?_ ?_ ?_,(by omega),(by omega)⟩;refine zA rfl (zA rfl tn);refine zA rfl (zA rfl tn);rw[dN];unfold cellsI;rw[if_pos (by omega),if_pos (by omega),List.map_append,← List.append_assoc];exact List.Sublist.refl _
 ·refine⟨(i+1,r30),tes ?_ ?_ ?_,(by omega),(by omega)⟩;refine zA rfl (zA rfl tn);refine zA rfl (zA rfl tn);rw[dN];unfold cellsI;rw[if_pos (by omega),if_neg (by omega),List.append_nil];exact List.Sublist.refl _
 ·have:=hB0 i (by omega);rw[zai,zai];omega
 ·refine⟨(i+1,r63),tes ?_ ?_ ?_,(by omega),(by omega)⟩;refine zA rfl (zA rfl tn);refine zA rfl (zA rfl tn);rw[dN];unfold cellsI;rw[if_neg (by omega),if_pos (by omega),List.nil_append];exact List.Sublist.refl _
 ·refine⟨(i+1,v),tes ?_ ?_ ?_,(by omega),(by omega)⟩;refine zA rfl (zA rfl tn);refine zA rfl (zA rfl tn);rw[dN];unfold cellsI;rw[if_neg (by omega),if_neg (by omega),List.append_nil,List.map_nil,List.append_nil];exact List.Sublist.refl _
 ·have:i=xs.length:=by omega
  subst this;iterate 7 refine u ?_
  refine t_ts (yK (s:=2) 0 rfl rfl) ?_;repeat refine u ?_
  exact e
theorem yX5 {l:P2}{n:Nat}(hn:n≤900):CTy prog 341 [ag (ptc n l)] (ag (rtc (2*n+8) (l.1+l.2))):=by
 refine fw [.cell 2 29] func341 fun X=>?_;iterate 3 refine u ?_
 refine u fun b2=>?_;repeat refine u ?_
 refine zB rfl rfl (nA (by omega)) ?_;repeat refine u ?_
 refine e ?_;exact uT rfl (by omega)
theorem yL6 {p q:P2}{n m:Nat}(hn:n≤900)(hm:m≤900):CTy prog 306 [ag (ptc n p),ag (ptc m q)] (exP (.bool (decide (cmpL p q<0)))):=by
 refine fw [.tmp 4] func306 fun X=>?_;iterate 7 refine u ?_
 refine zL 6 mixed rfl rfl ?_;repeat refine u ?_
 refine zC rfl rfl (yX5 (by omega)) ?_;repeat refine u ?_
 refine zC rfl rfl (yX5 (by omega)) ?_;refine zC rfl rfl (gO (by omega) (by omega)) ?_;repeat refine u ?_
 refine t1g rfl rfl (oca rfl rfl fun g=>gO (by omega) (by omega)) ?_;repeat refine u ?_
 refine e ?_;refine psb ?_;unfold cmpL;by_cases h:cmpR (p.1+p.2) (q.1+q.2)=0
 ·simp[h]
 ·simp[h]
theorem yQ3 {raw:List P2}{p:P2}{n:Nat}(hn:n≤900)(hL:(setOf cmpL raw).length≤100000):CTy prog 249 [sv (sl 6 ((setOf cmpL raw).map (ptc n))),ag (ptc n p)] (sv (sl 6 ((setOf cmpL (raw++[p])).map (ptc n)))):=by
 refine fw [.tmp 4] func249 fun X=>?_;repeat refine u ?_
 refine lp (σ:=Nat) [0,3,4] (fun k=>[(5,True,zI k)]) (fun k=>[]) (fun k=>k≤(setOf cmpL raw).length∧∀ j,j<k→cmpL ((setOf cmpL raw).getD j Df.d) p<0) (fun k=>(setOf cmpL raw).length-k) (0) (⟨by omega,by omega⟩) fun k hJ Y _=>?_;obtain⟨hk,hlt⟩:=hJ;iterate 2 refine u ?_
 refine zL 12 mixed rfl rfl ?_;repeat refine u ?_
 refine d1g rfl rfl (oca rfl rfl fun g=>yL6 (by omega) (by omega)) ?_;repeat refine u ?_
 refine tp (fun c0=>?_) fun c0=>?_;repeat refine u ?_
 rotate_left;iterate 4 refine u ?_
 refine zL 13 mixed rfl rfl ?_;repeat refine u ?_
 refine d1g rfl rfl (oca rfl rfl fun g=>yL6 (by omega) (by omega)) ?_;repeat refine u ?_
 refine tp (fun c1=>?_) fun c1=>?_;repeat refine u ?_
 refine e ?_;rotate_left;iterate 2 refine u ?_
 refine zM0 1 12 [(0,34,0),(4,38,0),(7,41,0),(11,45,0)] rfl rfl mixed rfl rfl ?_;repeat refine u ?_
 refine cN rfl rfl (cb0) ?_;repeat refine u ?_
 refine cA rfl rfl rfl (cap rfl (by(simp;omega)) rfl) ?_;repeat refine u ?_
 refine cx1 (obs rfl rfl rfl rfl rfl rfl) rfl (cA rfl rfl rfl (cap rfl (by(simp;omega)) rfl) ?_);repeat refine u ?_
 refine cA rfl rfl rfl (cap rfl (by(simp;omega)) rfl) ?_;refine cE (fun r45=>?_);refine fm ?_;iterate 3 refine u ?_
 refine t_ts (yK (s:=4) 0 rfl rfl) ?_;repeat refine u ?_
 refine e ?_;rotate_left
 ·refine⟨k+1,tes ?_ ?_ (zaa _),?_,(by omega)⟩;refine zA rfl tn;refine zA rfl (zA rfl (zA rfl tn));refine⟨by omega,fun j hj=>?_⟩;rcases zaf j k with c | c
  ·exact hlt j c
  ·rw[show j=k by omega];exact c0.2
 ·have h2:=(nP.anti ((setOf cmpL raw).getD k Df.d) p);have h3:¬ cmpL ((setOf cmpL raw).getD k Df.d) p<0:=fun c=>c0 ⟨c1.1,c⟩;rw[(fG nP (x:=p) (k:=k) Df.d hk hlt fun _=>h3).1 (by omega) (by have:=c1.2;omega)];exact PSub.refl _
 ·have hi:=(fG nP (x:=p) (k:=k) Df.d hk hlt fun h c=>c0 ⟨by omega,c⟩).2 fun h c=>c1 ⟨by omega,fun c2=>by have:=(nP.anti ((setOf cmpL raw).getD k Df.d) p).2 c2;omega⟩;exact rM (f:=ptc n) hi (fun _ _ _ h=>h) rfl
end Go.Proofs.YtalkinejknjidaaGreatDoor
set_option maxHeartbeats 4000000
namespace Go.SL
open Go.RowKit
theorem yS5 {n l:Nat}{C C1 C2:Nat→Prop}{w w1 w2:World}(h:Rnd n l C w C1 w1)(k:Rnd n l C1 w1 C2 w2):Rnd n l C w C2 w2 :=
 ⟨k.os.trans h.os,k.tape.trans h.tape,k.output.trans h.output,zab h.size k.size,fun i cs t fz hi hc=>k.cells i cs t fz (fun c=>(h.new i c).elim hi fun c=>by have:=(zar.1 hc).1;omega) (h.cells i cs t fz hi hc),
  fun i h1 h2 h3 h4=>(k.own i h1 (zao h2 h.size) (fun c=>(h.new i c).elim h3 fun c=>by omega) h4).trans (h.own i h1 h2 h3 h4),fun i c=>(k.new i c).elim (h.new i) fun c => .inr (zab h.size c),k.ok⟩
theorem rB {n n1 l:Nat}{C C1 I I':Nat→Prop}{w w1 w2:World}(h:Rnd n l C w C1 w1)(d:Stp n1 I w1 I' w2)(hn:w.heap.size≤n1)(hI:∀ k,I k→w.heap.size≤k):Rnd n l C w C1 w2 :=
 ⟨d.os.trans h.os,d.tape.trans h.tape,d.output.trans h.output,zab h.size d.size,fun i cs t fz hi hc=>d.cells i cs t fz (fun c=>by have:=hI i c;have:=(zar.1 hc).1;omega) (h.cells i cs t fz hi hc),
  fun i h1 h2 h3 h4=>(d.low i (by omega) (fun c=>by have:=hI i c;omega)).trans (h.own i h1 h2 h3 h4),h.new,fun i c=>zao (h.ok i c) d.size⟩
theorem yH6 {n:Nat}{I I' B:Nat→Prop}{w w':World}(d:Stp n I w I' w'):Stp n (fun k=>B k∨I k) w (fun k=>B k∨I' k) w' :=
 ⟨d.os,d.tape,d.output,d.size,fun k cs t fz h=>d.cells k cs t fz fun c=>h (.inr c),fun k h1 h2=>d.low k h1 fun c=>h2 (.inr c),fun k h=>h.elim (fun h => .inl (.inl h)) fun h=>(d.new k h).imp .inr id⟩
end Go.SL
namespace Go.Proofs.YtalkinejknjidaaGreatDoor
open Go.SL Go.RowKit Go.Proofs Tryz
theorem each_run {α:Type}{xs:List α}{τ:α→List PV}{l n:Nat}{J:(Nat→Prop)→(Nat→Prop)→List α→World→Prop}{Xx:(Nat→Prop)→World→Prop}(hln:l<n)
  (hJd:∀ C I I' pre w w',J C I pre w→n≤w.heap.size→Stp n I w I' w'→J C I' pre w') (hXd:∀ I I' w w',Xx I w→n≤w.heap.size→Stp n I w I' w'→Xx I' w') (hdis:∀ C I pre w,J C I pre w→OkM C w∧∀ k,C k→¬ I k)
  (hy:∀ C I pre x vs post w,xs=pre++x::post→J C I pre w→Fa (τ x) (fun k=>C k∨I k) w vs→n≤w.heap.size→YieldV prog l vs w fun b w'=>n≤w'.heap.size∧∃ C',Rnd n l C w C' w'∧((b=true∧J C' I (pre++[x]) w')∨(b=false∧Xx I w')))
  {pre mid post:List α} (hx:xs=pre++mid++post) {g:FuncId} {caps:List PV} (it:CIt prog g caps mid τ) (h2:∀ x,(τ x).length=2)
  {C0 B0:Nat→Prop} {w:World} (hJ0:J C0 B0 pre w) (hn:n≤w.heap.size) (hT:Gd (fun k=>B0 k∨C0 k) [] w) {cap:Array Value} (hcap:Fa caps (fun k=>B0 k∨C0 k) w cap.toList)
  {bx o:Nat} (hbx:¬ (B0 bx∨C0 bx)) (hseg:Seg w bx o [.func (.yield l) #[] #[]]) :
  CallsV prog 180 [.func (.func g) #[] cap,.pointer (some ⟨bx,o,none⟩)] w fun v w'=>∃ C',Rnd n l C0 w C' w'∧n≤w'.heap.size∧((v = .bool true∧J C' B0 (pre++mid) w')∨(v = .bool false∧Xx B0 w')):=by
 refine kW func180 rfl rfl rfl ?_;refine kZ (jL (iH rfl sz4 fun w1 b3 hn1=>yZ ?_));refine kZ (kZ (jL (aU rfl rfl (yZ ?_))));have hb3:b3=w.heap.size:=hn1.at_;have hs1:w1.heap.size=w.heap.size+1:=hn1.size;have hblk:Blk w1 b3 4 [.bool false]:=hn1.obj;have hC0:=hdis _ _ _ _ hJ0;have hST0:Stp n B0 w (fun k=>B0 k∨k=b3) w1:=⟨hn1.os,hn1.tape,hn1.output,by omega,fun k cs t fz _ hc=>(hn1.other k (zar.1 hc).1).trans hc,fun k hk _=>hn1.other k (by omega),fun k hk=>hk.imp id fun e=>by omega⟩;have hcl1:Cl (fun k=>B0 k∨C0 k) w (fun k=>C0 k∨(B0 k∨k=b3)) w1:=fun k cur t fz hk hw=>by
  have hlt:=(zar.1 hw).1;exact⟨fun c=>c.elim (fun c=>hk (.inr c)) fun c=>c.elim (fun c=>hk (.inl c)) fun c=>by omega,(hn1.other k hlt).trans hw⟩
 have hmk:∀ M:Nat→Prop,Mk [] M=M:=fun M=>by funext k;simp[Mk]
 have hB0:∀ k,B0 k→k<w.heap.size:=fun k hk=>hT.ok k (.inl hk);have hM:OkM (fun k=>C0 k∨(B0 k∨k=b3)) w1:=fun k hk=>by
  rcases hk with c | c | c
  ·have:=hT.ok k (.inr c);omega
  ·have:=hB0 k c;omega
  ·omega
 have itr:=it.run (fun k=>C0 k∨(B0 k∨k=b3)) w1 cap.toList (by rw[hmk];exact⟨hM,hT.tab.cl hcl1,by simp⟩) trivial (fun b ⟨_,h,_⟩=>absurd h zaN) hM (by rw[hmk];exact hcap.mono hcl1)
 let Ji:(Nat→Prop)→(Nat→Prop)→List α→World→Prop:=fun C I pr wv=>∃ Co:Nat→Prop,C=(fun k=>Co k∨(B0 k∨k=b3))∧J Co (fun k=>(B0 k∨k=b3)∨I k) (pre++pr) wv∧Rnd n l C0 w Co wv∧w1.heap.size≤wv.heap.size∧(∀ k,I k→w1.heap.size≤k)∧Blk wv b3 4 [.bool false]
 let Ri:(Nat→Prop)→World→Prop:=fun I wv=>∃ Co:Nat→Prop,Xx (fun k=>(B0 k∨k=b3)∨I k) wv∧Rnd n l C0 w Co wv∧w1.heap.size≤wv.heap.size∧(∀ k,I k→w1.heap.size≤k)∧Blk wv b3 4 [.bool false]
 have hnb:∀ {w1' I w2' I'},Stp w1.heap.size I w1' I' w2'→w1.heap.size≤w1'.heap.size→(∀ k,I k→w1.heap.size≤k)→(∀ k,I' k→w1.heap.size≤k):=fun d hs hI k hk=>(d.new k hk).elim (hI k) fun c=>by omega
 have hbb:∀ {w1' I w2' I'},Stp w1.heap.size I w1' I' w2'→(∀ k,I k→w1.heap.size≤k)→Blk w1' b3 4 [.bool false]→Blk w2' b3 4 [.bool false]:=fun d hI hb=>d.cells _ _ _ _ (fun c=>by have:=hI _ c;omega) hb;have hend:∀(v:Bool) (w5:World) (Co I:Nat→Prop) (E:Env),get E 3=some (.pointer (some ⟨b3,0,none⟩))→Rnd n l C0 w Co w5→w1.heap.size≤w5.heap.size→w5.heap[w1.heap.size]? = some (.deferred (some []))→Blk w5 b3 4 [.bool v] →
   (∀ w6,Stp n (fun k=>(B0 k∨k=b3)∨I k) w5 B0 w6→(Value.bool v = .bool true∧J Co B0 (pre++mid) w6)∨(Value.bool v = .bool false∧Xx B0 w6)) →
   SL.Fin prog f180.results.toList (fun v w'=>∃ C',Rnd n l C0 w C' w'∧n≤w'.heap.size∧((v = .bool true∧J C' B0 (pre++mid) w')∨(v = .bool false∧Xx B0 w'))) (kI none w1++[]) E w5:=fun v w5 Co I E he hr hs hm hb hq=>by
  have hdp:Drift NoT w1.heap.size w5 (w5.putObj w1.heap.size (.deferred none)):=Drift.put hm (by simp) (zac _);have hb6:Blk (w5.putObj w1.heap.size (.deferred none)) b3 4 [.bool v]:=hdp.cells _ _ _ _ (fun c=>c) hb;have h6:=hdp.size;refine⟨w1.heap.size,rfl,hm,[.bool v],⟨⟨⟨b3,0,none⟩,he,?_⟩,trivial⟩,Co,rB hr (Stp.of_drift (I:=fun _=>False) hdp (zac _)) (by omega) (fun _ h=>h.elim),by omega,hq _ ?_⟩
  ·have hu:=hb6.cell (i:=0);simp only[List.getElem?_cons_zero] at hu;simp[loadVar,yZ1 _,hu]
  ·exact⟨hdp.os,hdp.tape,hdp.output,hdp.size,fun k cs t fz _ hc=>hdp.cells _ _ _ _ (fun c=>c) hc,fun k hk _=>hdp.low k (by omega) (fun c=>c),fun k hk => .inl (.inl (.inl hk))⟩
 refine rZ (vS (M:=fun k=>C0 k∨(B0 k∨k=b3)) (I0:=bks []) (w:=w1) mid (fun x C w vs=>Fa (τ x) C w vs) _ (cap:=cap) rfl it.bod itr (fun k ⟨_,h,_⟩=>absurd h zaN) (fun C I wa wb ⟨So,f1,f2,f3,f4⟩ d=>⟨So,f1,by subst f1;exact⟨fun k hk=>zao (f2.ok k hk) d.size,f2.tab.cl (jZ d),by simp⟩,f3,f4⟩) trivial (fun x C w vs h=>by rw[h.len,h2];rfl) rfl
  Ji (fun _ _ _=>False) Ri (.inl trivial) ?_ ?_ (fun _ _ _ _ _ h _=>h) ?_ ?_ ?_ ?_ (fun _ _ _ h=>h.elim) ?_)
 ·-- at the start
  have:(fun k=>(B0 k∨k=b3)∨bks [] k)=fun k=>B0 k∨k=b3:=funext fun k=>propext ⟨fun c=>c.elim id fun⟨_,h,_⟩=>absurd h zaN,.inl⟩;refine⟨C0,rfl,?_,⟨hn1.os,hn1.tape,hn1.output,by omega,fun i cs t fz _ hc=>(hn1.other i (zar.1 hc).1).trans hc,fun i _ h2 _ _=>hn1.other i h2,fun _ h => .inl h,fun k hk=>by have:=hC0.1 k hk;omega⟩,zac _,fun k ⟨_,h,_⟩=>absurd h zaN,hblk⟩;rw[this,zap];exact hJd _ _ _ _ _ _ hJ0 hn hST0
 ·rintro C I I' pr wa wb ⟨Co,rfl,k1,k2,k3,k4,k5⟩ d;exact⟨Co,rfl,hJd _ _ _ _ _ _ k1 (by omega) (yH6 (d.mono (by omega))),rB k2 d (by omega) (fun k hk=>by have:=k4 k hk;omega),zab k3 d.size,hnb d k3 k4,hbb d k4 k5⟩
 ·rintro I I' wa wb ⟨Co,k1,k2,k3,k4,k5⟩ d;exact⟨Co,hXd _ _ _ _ k1 (by omega) (yH6 (d.mono (by omega))),rB k2 d (by omega) (fun k hk=>by have:=k4 k hk;omega),zab k3 d.size,hnb d k3 k4,hbb d k4 k5⟩
 ·rintro C I pr wa ⟨Co,rfl,k1,k2,k3,k4,k5⟩;have hd:=hdis _ _ _ _ k1;refine⟨fun k hk=>?_,fun k hk c=>?_⟩
  ·rcases hk with c | c
   ·exact hd.1 k c
   ·have:=hM k (.inr c);omega
  ·rcases hk with e | e
   ·exact hd.2 k e (.inr c)
   ·have:=hM k (.inr e);have:=k4 k c;omega
 ·-- a round
  rintro C I pr x vs po li bi wa ρ δ hxs ⟨Co,rfl,k1,k2,k3,k4,k5⟩ hRl hnl hnb2 hIlb hCl hl1 hb1 hδ;obtain⟨va,vb,rfl⟩:∃ va vb,vs=[va,vb]:=by
   have:=hRl.len;rw[h2] at this
   match vs,this with
   | [va,vb],_=>exact⟨va,vb,rfl⟩
  have hlia:li<wa.heap.size:=(zar.1 hl1).1;have hbia:bi<wa.heap.size:=(zar.1 hb1).1;refine kZ (jL (aW rfl rfl (yZ (jL (aW rfl rfl (yZ ⟨hl1,hb1,rfl,fun w3 ρ' δ' hd ho hl3 hb3 hδ'=>?_⟩))))));have hJ3:=hJd _ _ _ _ _ _ k1 (by omega) (Stp.of_drift hd (n:=n) (by omega));have hR3:Fa (τ x) (fun k=>Co k∨((B0 k∨k=b3)∨I k)) w3 [va,vb]:=hRl.mono fun k cur t fz hk hw=>⟨fun c=>hk (c.elim (fun c => .inl (.inl c)) fun c=>c.elim (fun c => .inl (.inr c)) .inr),hd.cells _ _ _ _ (fun c=>c) hw⟩;have hxs':xs=(pre++pr)++x::(po++post):=by rw[hx,hxs];simp
  have hyd:=hy _ _ _ x [va,vb] _ w3 hxs' hJ3 hR3 (by have:=hd.size;omega);have hbx3:Seg w3 bx o [.func (.yield l) #[] #[]]:=by
   obtain⟨cur,t,fz,e1,e2⟩:=hseg;exact⟨cur,t,fz,hd.cells _ _ _ _ (fun c=>c) (k2.cells bx cur t fz (fun c=>hbx (.inr c)) e1),e2⟩
  have hk5:Blk w3 b3 4 [.bool false]:=hd.cells _ _ _ _ (fun c=>c) k5;have hd3:=hd.size;have hdr:Rnd n l C0 w Co w3:=rB k2 (Stp.of_drift (I:=fun _=>False) hd (zac _)) (by omega) fun _ h=>h.elim;refine rZ (kZ (jL (aV rfl (xG underlying207 rfl) rfl (hbx3.cell (j:=0) rfl) (aU rfl rfl (aU rfl rfl (oK rfl rfl rfl (hyd.mono ?_)))))));rintro b w' ⟨q1,C',q2,q3⟩;have hsz:=q2.size;have hli':w'.heap[li]? = some (.loop ρ'):=(q2.own li (by omega) (by omega) (fun c=>hCl.1 (.inl c)) (by omega)).trans hl3;have hbi':w'.heap[bi]? = some δ':=(q2.own bi (by omega) (by omega) (fun c=>hCl.2 (.inl c)) (by omega)).trans hb3;have hb3n:¬ Co b3:=fun c=>(hdis _ _ _ _ k1).2 b3 c (.inl (.inr rfl));have hk6:Blk w' b3 4 [.bool false]:=q2.cells _ _ _ _ hb3n hk5;have hin:Rnd w1.heap.size li (fun k=>Co k∨(B0 k∨k=b3)) wa (fun k=>C' k∨(B0 k∨k=b3)) w' :=
   ⟨q2.os.trans hd.os,q2.tape.trans hd.tape,q2.output.trans hd.output,by omega,fun k cs t fz hk hc=>q2.cells k cs t fz (fun c=>hk (.inl c)) (hd.cells _ _ _ _ (fun c=>c) hc),fun k h1 h2 h3 h4=>(q2.own k (by omega) (by omega) (fun c=>h3 (.inl c)) (by omega)).trans (ho k h4),
    fun k hk=>hk.elim (fun c=>(q2.new k c).elim (fun c => .inl (.inl c)) fun c => .inr (by omega)) fun c => .inl (.inr c),fun k hk=>hk.elim (fun c=>q2.ok k c) fun c=>by have:=hM k (.inr c);omega⟩
  refine yJ0 rfl rfl (yZ ?_);rcases q3 with⟨rfl,q3⟩ | ⟨rfl,q3⟩
  ·refine vU rfl (zL1 ⟨hli',hbi',_,hin,C',rfl,?_,yS5 hdr q2,by omega,k4,hk6⟩);rw[← zaB];exact q3
  ·refine vT rfl (kZ (jL (tH rfl rfl sz4 hk6 rfl fun w4 g1 g2=>yZ (zL2 ?_))));have hs4:=g1.size;have hne:∀(k:Nat) (ob:Obj),w'.heap[k]? = some ob→(∀ cs t fz,ob ≠ .cells cs t fz)→k≠b3:=fun k ob h hc e=>by subst e;rw[show w'.heap[k]? = _ from hk6] at h;exact hc _ _ _ (Option.some.inj h).symm
   have hst4:Stp n (fun k=>(B0 k∨k=b3)∨I k) w' (fun k=>(B0 k∨k=b3)∨I k) w4:=⟨g1.os,g1.tape,g1.output,by omega,fun k cs t fz hk hc=>(g1.other k fun e=>hk (.inl (.inr e))).trans hc,fun k _ hk=>g1.other k fun e=>hk (.inl (.inr e)),fun k hk => .inl hk⟩;refine⟨(g1.other li (hne li _ hli' (by simp))).trans hli',(g1.other bi (hne bi _ hbi' hδ')).trans hbi',fun k=>C' k∨(B0 k∨k=b3),?_,C',hXd _ _ _ _ q3 q1 hst4,?_,by omega,k4,g2⟩
   ·exact⟨g1.os.trans hin.os,g1.tape.trans hin.tape,g1.output.trans hin.output,by omega,fun k cs t fz hk hc=>(g1.other k fun e=>hk (.inr (.inr e))).trans (hin.cells k cs t fz hk hc),fun k h1 h2 h3 h4=>(g1.other k fun e=>h3 (.inr (.inr e))).trans (hin.own k h1 h2 h3 h4),hin.new,fun k hk=>by have:=hin.ok k hk;omega⟩
   ·have hr:=yS5 hdr q2;exact⟨g1.os.trans hr.os,g1.tape.trans hr.tape,g1.output.trans hr.output,by have:=hr.size;omega,fun k cs t fz hk hc=>(g1.other k fun e=>by have:=(zar.1 hc).1;omega).trans (hr.cells k cs t fz hk hc),fun k h1 h2 h3 h4=>(g1.other k fun e=>by omega).trans (hr.own k h1 h2 h3 h4),hr.new,fun k hk=>by have:=hr.ok k hk;omega⟩
 ·-- all told
  rintro C I w' ⟨Co,rfl,k1,k2,k3,k4,k5⟩ _ hm;refine kZ (jL (tH rfl rfl sz4 k5 rfl fun w4 g1 g2=>yZ (zL2 ?_)));have hs4:=g1.size;have hne:w1.heap.size≠b3:=by omega
  have hr4:Rnd n l C0 w Co w4:=⟨g1.os.trans k2.os,g1.tape.trans k2.tape,g1.output.trans k2.output,by have:=k2.size;omega,fun k cs t fz hk hc=>(g1.other k fun e=>by have:=(zar.1 hc).1;omega).trans (k2.cells k cs t fz hk hc),fun k h1 h2 h3 h4=>(g1.other k fun e=>by omega).trans (k2.own k h1 h2 h3 h4),k2.new,fun k hk=>by have:=k2.ok k hk;omega⟩;have hst4:Stp n (fun k=>(B0 k∨k=b3)∨I k) w' (fun k=>(B0 k∨k=b3)∨I k) w4:=⟨g1.os,g1.tape,g1.output,by omega,fun k cs t fz hk hc=>(g1.other k fun e=>hk (.inl (.inr e))).trans hc,fun k _ hk=>g1.other k fun e=>hk (.inl (.inr e)),fun k hk => .inl hk⟩;have hJ4:=hJd _ _ _ _ _ _ k1 (by omega) hst4;exact hend true w4 Co I _ rfl hr4 (by omega) ((g1.other _ hne).trans (hm _ rfl rfl)) g2 fun w6 hst => .inl ⟨rfl,hJd _ _ _ _ _ _ hJ4 (by omega) hst⟩
 ·-- left
  rintro I w' ⟨Co,k1,k2,k3,k4,k5⟩ hm;exact hend false w' Co I _ rfl k2 k3 (hm _ rfl rfl) k5 fun w6 hst => .inr ⟨rfl,hXd _ _ _ _ k1 (by omega) hst⟩
theorem yM9 {α:Type}{xs pre mid post:List α}{τ:α→List PV}{y:Nat}{YS:List α→Cx→Prop}{YX:Cx→Prop}{X:Cx}{Γ:TE}{S:List Ow}{E:Env}{w:World}{g:FuncId}{caps:List PV}(hY:Yl prog xs τ y YS YX)(hS:YS pre X)(hx:xs=pre++mid++post)(it:CIt prog g caps mid τ)(h2:∀ x,(τ x).length=2)(hs:St X Γ S E w)
  {cap:Array Value} {u:Value} (h4:Fa caps (Mk S X.M) w cap.toList) (h3:(pa (xc (.func (.yield y) #[] #[]))).p (Mk S X.M) w u):X.ms=[]∧CallsV prog 180 [.func (.func g) #[] cap,u] w fun v w'=>∃ Y,St Y Γ S E w'∧Y.ms=[]∧((v = .bool true∧YS (pre++mid) Y)∨(v = .bool false∧YX Y)):=by
 obtain⟨n,m,J,Xx,hln,hJd,hXd,hdis,hy,hYS,hYX⟩:=hY.raw;obtain⟨k1,k2,k2',k3,k4⟩:=(hYS _ _).1 hS;obtain⟨bx,o,us,rfl,g1,g2,g3,_⟩:=h3;obtain rfl:us=_:=g3;have hst:=zR2 hs k2;have hsw:X.w.heap.size≤w.heap.size:=hs.bel.size;refine⟨k3,(each_run hln hJd hXd hdis hy hx it h2 (hJd _ _ _ _ _ _ k1 k2 hst) (zab k2 hsw) ⟨hs.gd.ok,hs.gd.tab,by simp⟩ h4 g1 g2).mono ?_⟩;rintro v w' ⟨C',q1,q2,q3⟩;have hm:m≤w'.heap.size:=zab (zab k2' hsw) q1.size;refine⟨⟨C',w',bks S,m,[],none⟩,hs.yielded q1 hm,rfl,?_⟩;rcases q3 with⟨e,q3⟩ | ⟨e,q3⟩
 ·exact .inl ⟨e,(hYS _ _).2 ⟨q3,q2,hm,rfl,rfl⟩⟩
 ·exact .inr ⟨e,(hYX _).2 ⟨q3,q2,rfl,rfl⟩⟩
section
variable {r : Option Nat} {N : Nat} {X : Cx} {Γ : TE} {S : List Ow} {ops : Array Oper} {K : TK}
theorem yQ9 {α:Type}{xs:List α}{τ:α→List PV}{y:Nat}{YS:List α→Cx→Prop}{YX:Cx→Prop}{pre mid post:List α}{d:Nat}{fo ao:Operand}{ts:Array TypeId}{t':TypeId}{pos:String}{af:Array Edge}{l:List Oper}{q q':Prop}{Φf Φ:PV}{g:FuncId}{caps:List PV}(hY:Yl prog xs τ y YS YX)(hS:YS pre X)(hx:xs=pre++mid++post)(it:CIt prog g caps mid τ)(hl:∀ x,(τ x).length=2)
  (hf:tv Γ fo=some (q,Φf)) (ha:tv Γ ao=some (q',Φ)) [Tr q] [Tr q'] [hv:VF Φf 180 [pa (xc (.func (.yield y) #[] #[]))]] [hg:VF Φ g caps]
  (h1:∀ Y,YS (pre++mid) Y→TO prog r N ops Y K l ((d,True,exP (.bool true))::Γ) S) (h2:∀ Y,YX Y→TO prog r N ops Y K l ((d,True,exP (.bool false))::Γ) S) :
  TO prog r N ops X K (⟨some d,.call ⟨.value fo,#[ao],ts⟩,t',pos,af,none⟩::l) Γ S:=fun hN D E w hs=>by
 unfold okN at hN;simp only[zaW,zam] at hN;obtain⟨u,e1,h3⟩:=uF hs hf;obtain⟨ce,rfl,h7⟩:=hv.h h3;clear h3;obtain⟨v,e2,h4⟩:=uF hs ha;obtain⟨cap,rfl,h8⟩:=hg.h h4;obtain⟨u,us,rfl,h3,h5⟩:=h7;obtain rfl:us=[]:=h5;obtain⟨hms,hy⟩:=yM9 (cap:=cap.toArray) hY hS hx it hl hs h8 h3;refine iG (vs:=[.func (.func g) #[] cap.toArray]) hN.1 (bo func180) e1 (by unfold evs;rw[e2];rfl) (hy.mono ?_);rintro v w' ⟨Y,k1,k2,⟨rfl,k3⟩ | ⟨rfl,k3⟩⟩
 ·have:=h1 Y k3 hN.2 D _ w' (k1.put (xK _) (fun _=>rfl) (fun c=>absurd trivial c));rw[k2] at this;rw[hms];exact this
 ·have:=h2 Y k3 hN.2 D _ w' (k1.put (xK _) (fun _=>rfl) (fun c=>absurd trivial c));rw[k2] at this;rw[hms];exact this
theorem mF {α:Type}{xs:List α}{τ:α→List PV}{y:Nat}{YS:List α→Cx→Prop}{YX:Cx→Prop}{pre mid post:List α}{d:Nat}{fo ao:Operand}{ts:Array TypeId}{t':TypeId}{pos:String}{af:Array Edge}{l:List Oper}{q q' qj:Prop}{Φf Φ Φj:PV}{g:FuncId}{caps:List PV}{γ b:Bool}{j dj:Nat}(hY:Yl prog xs τ y YS YX)(hS:γ=b→YS pre X)(hx:xs=pre++mid++post)(it:CIt prog g caps mid τ)(hl:∀ x,(τ x).length=2)
  (hj:(ops[j]?).bind (·.dst)=some dj) (hΓ:tf Γ dj=some (qj,Φj)) [hb:VB Φj γ] [hqj:Tr qj]
  (hf:tv Γ fo=some (q,Φf)) (ha:tv Γ ao=some (q',Φ)) [hq:Im (γ=b) q] [hq':Im (γ=b) q'] [hv:VF Φf 180 [pa (xc (.func (.yield y) #[] #[]))]] [hg:VF Φ g caps]
  (h0:γ≠b→TO prog r N ops X K l ((d,γ=b,exP (.bool true))::Γ) S)
  (h1:γ=b→∀ Y,YS (pre++mid) Y→TO prog r N ops Y K l ((d,γ=b,exP (.bool true))::Γ) S) (h2:γ=b→∀ Y,YX Y→TO prog r N ops Y K l ((d,γ=b,exP (.bool false))::Γ) S) :
  TO prog r N ops X K (⟨some d,.call ⟨.value fo,#[ao],ts⟩,t',pos,af,some (j,b)⟩::l) Γ S:=fun hN D E w hs=>by
 unfold okN at hN;simp only[zaW,zam] at hN;obtain⟨v0,e0,h6⟩:=(hs.tm dj _ hΓ).1 hqj.h;obtain rfl:=hb.h h6;by_cases hγ:γ=b
 ·obtain⟨u,e1,h3⟩:=lY (hs.tm.tm (Γ.map (·.1))) hf (fun t e=>by subst e;exact bN hf) (hq.h hγ);obtain⟨ce,rfl,h7⟩:=hv.h h3;clear h3;obtain⟨v,e2,h4⟩:=lY (hs.tm.tm (Γ.map (·.1))) ha (fun t e=>by subst e;exact bN ha) (hq'.h hγ);obtain⟨cap,rfl,h8⟩:=hg.h h4;obtain⟨u,us,rfl,h3,h5⟩:=h7;obtain rfl:us=[]:=h5;obtain⟨hms,hy⟩:=yM9 (cap:=cap.toArray) hY (hS hγ) hx it hl hs h8 h3;subst hγ;refine eO hj e0 (iG (vs:=[.func (.func g) #[] cap.toArray]) hN.1 (bo func180) e1 (by unfold evs;rw[e2];rfl) (hy.mono ?_));rintro v w' ⟨Y,k1,k2,⟨rfl,k3⟩ | ⟨rfl,k3⟩⟩
  ·have:=h1 rfl Y k3 hN.2 D _ w' (k1.put (q:=(γ=γ,exP (.bool true))) (xK _) (fun _=>rfl) (fun c=>absurd rfl c));rw[k2] at this;rw[hms];exact this
  ·have:=h2 rfl Y k3 hN.2 D _ w' (k1.put (q:=(γ=γ,exP (.bool false))) (xK _) (fun _=>rfl) (fun c=>absurd rfl c));rw[k2] at this;rw[hms];exact this
 ·exact eQ hN.1 hj e0 (by simpa using hγ) (h0 hγ hN.2 D _ w (hs.put (xK _) (q:=(γ=b,exP (.bool true))) (fun c=>absurd c hγ) (fun _=>rfl)))
end
section
variable {P : Program} {r : Option Nat} {N : Nat} {X : Cx} {Γ : TE} {S : List Ow} {ops : Array Oper} {K : TK}
theorem sL {α:Type}{xs:List α}{τ:α→List PV}{y:Nat}{YS:List α→Cx→Prop}{YX:Cx→Prop}{pre:List α}{x:α}{d:Nat}{fo:Operand}{ys:List Operand}{ts:Array TypeId}{t':TypeId}{pos:String}{af:Array Edge}{l:List Oper}{q q' qj:Prop}{Φ:PV}{γ b:Bool}{j dj:Nat}{τs:List PV}(hY:Yl P xs τ y YS YX)(hS:YS pre X)
  (hj:(ops[j]?).bind (·.dst)=some dj) (hΓ:tf Γ dj=some (qj,Φ)) [hb:VB Φ γ] [hqj:Tr qj] (hx:γ=b→∃ post,xs=pre++x::post)
  (hf:tv Γ fo=some (q,exP (.func (.yield y) #[] #[]))) (ha:tvs Γ ys=some (q',τs)) [hq:Im (γ=b) q] [hq':Im (γ=b) q'] (hτ:∀ M w vs,Fa τs M w vs→Fa (τ x) M w vs)
  (h1:∀ Y,YS (pre++if γ=b then [x] else []) Y→TO P r N ops Y K l ((d,γ=b,exP (.bool true))::Γ) S) (h2:γ=b→∀ Y,YX Y→TO P r N ops Y K l ((d,γ=b,exP (.bool false))::Γ) S) :
  TO P r N ops X K (⟨some d,.call ⟨.value fo,ys.toArray,ts⟩,t',pos,af,some (j,b)⟩::l) Γ S :=
 zS9 hY hS hj hΓ hx hf ha hτ (fun e=>h1 X (by rw[if_neg e,zap];exact hS)) (fun e Y hY=>h1 Y (by rw[if_pos e];exact hY)) h2
end
end Go.Proofs.YtalkinejknjidaaGreatDoor
namespace Go.Proofs.YtalkinejknjidaaGreatDoor
open Go.SL Go.RowKit Go.Proofs Tryz
def offN (f:Nat→Nat):Nat→Nat
 | 0=>0
 | c+1=>offN f c+f c
theorem zV4 {f:Nat→Nat}(c:Nat):offN f (c+1)=offN f c+f c:=rfl
theorem yU0 {f:Nat→Nat}{c:Nat}:∀ {d:Nat},c≤d→offN f c≤offN f d
 | 0,h=>by rw[show c=0 by omega];exact zac _
 | d+1,h=>by
  rcases zaf d c with k | k
  ·rw[show c=d+1 by omega];exact zac _
  ·have:=yU0 (f:=f) k;rw[zV4];omega
theorem oN {f:Nat→Nat}{c d j:Nat}(h:c<d)(hj:j<f c):offN f c+j<offN f d:=by
 have:=yU0 (f:=f) (show c+1≤d from h);rw[zV4] at this;omega
theorem yU1 {f:Nat→Nat}:∀ {K n:Nat},n<offN f K→∃ c j,c<K∧j<f c∧n=offN f c+j
 | 0,n,h=>absurd h (Nat.not_lt_zero _)
 | K+1,n,h=>by
  rw[zV4] at h;rcases zaf n (offN f K) with k | k
  ·obtain⟨c,j,a,b,e⟩:=yU1 k;exact⟨c,j,by omega,b,e⟩
  ·exact⟨K,n-offN f K,by omega,by omega,by omega⟩
theorem off_inj {f:Nat→Nat}{c d j k:Nat}(hj:j<f c)(hk:k<f d)(e:offN f c+j=offN f d+k):c=d∧j=k:=by
 rcases zbH c d with h | h | h
 ·have:=oN h hj;omega
 ·subst h;exact⟨rfl,by omega⟩
 ·have:=oN h hk;omega
theorem off_cmp {f:Nat→Nat}{c d j k:Nat}(hj:j<f c)(hk:k<f d):offN f c+j<offN f d+k↔c<d∨c=d∧j<k:=by
 rcases zbH c d with h | h | h
 ·have:=oN h hj;exact⟨fun _ => .inl h,fun _=>by omega⟩
 ·subst h;exact⟨fun h => .inr ⟨rfl,by omega⟩,fun h=>by omega⟩
 ·have:=oN h hk;exact⟨fun _=>by omega,fun h=>by omega⟩
theorem cK {α:Type}{f:Nat→Nat}{g:Nat→Nat→α}:∀ K,(((List.range K).map fun c=>(List.range (f c)).map (g c)).flatten).length=offN f K
 | 0=>rfl
 | K+1=>by rw[zaQ,zaq,zca,zak,cK K,zV4];simp
theorem zX6 {α:Type}{f:Nat→Nat}{g:Nat→Nat→α}{d:α}{c j:Nat}(hj:j<f c):∀ {K:Nat},c<K→(((List.range K).map fun c=>(List.range (f c)).map (g c)).flatten).getD (offN f c+j) d=g c j
 | K+1,h=>by
  rw[zaQ,zaq,zca,zag];rcases zaf c K with k | k
  ·have:=oN (f:=f) k hj;rw[List.getElem?_append_left (by rw[cK];exact this),← zag];exact zX6 hj k
  ·obtain rfl:c=K:=by omega
   rw[List.getElem?_append_right (by rw[cK];omega),cK,Nat.add_sub_cancel_left];simp[List.getElem?_range hj]
noncomputable def nC (ls:zD)(c:Nat):Nat:=2*ynM ls c-1
noncomputable abbrev kC (ls:zD):Nat:=2*(xsM ls).length-1
noncomputable def cellC (ls:zD)(c j:Nat):CL:=(2*(c%2)+j%2,c/2,j/2,repC ls c j)
noncomputable def lvsM (ls:zD):zD:=(List.range ((xsM ls).length-1)).map (lvM ls)
noncomputable def wlsM (ls:zD):List (List Rat):=(List.range (xsM ls).length).map (wlM ls)
noncomputable def celM (ls:zD):List CL:=cellsM (xsM ls) (lvsM ls) (wlsM ls)
theorem eZ {ls:zD}{i:Nat}(h:i+1<(xsM ls).length):(lvsM ls).getD i []=lvM ls i:=by unfold lvsM;rw[List.getD_eq_getElem?_getD,List.getElem?_map,List.getElem?_range (by omega)];rfl
theorem lJ {ls:zD}{i:Nat}(h:i<(xsM ls).length):(wlsM ls).getD i []=wlM ls i:=by unfold wlsM;rw[List.getD_eq_getElem?_getD,List.getElem?_map,List.getElem?_range h];rfl
theorem iN (ls:zD):(lvsM ls).length=(xsM ls).length-1:=by unfold lvsM;rw[List.length_map,List.length_range]
theorem lX (ls:zD):(wlsM ls).length=(xsM ls).length:=by unfold wlsM;rw[List.length_map,List.length_range]
theorem wN {α:Type}(F:Nat→List α)(n:Nat):∀ m,m<n→((List.range m).map fun i=>F (2*i)++(if i+1<n then F (2*i+1) else [])).flatten=((List.range (2*m)).map F).flatten
 | 0,_=>rfl
 | m+1,h=>by
  rw[zaQ,zaq,zca,wN F n m (by omega),show 2*(m+1)=2*m+1+1 by omega,zaQ,zaQ,zaq,zaq,zca,zca,zaB];simp[h]
theorem pair_flat' {α:Type}(F:Nat→List α):∀ n,((List.range n).map fun i=>F (2*i)++(if i+1<n then F (2*i+1) else [])).flatten=((List.range (2*n-1)).map F).flatten
 | 0=>rfl
 | m+1=>by
  rw[zaQ,zaq,zca,wN F (m+1) m (by omega),show 2*(m+1)-1=2*m+1 by omega,zaQ,zaq,zca];simp
theorem xA6 (ls:zD):celM ls=((List.range (kC ls)).map fun c=>(List.range (nC ls c)).map (cellC ls c)).flatten:=by
 unfold celM cellsM kC;rw[← pair_flat'];refine congrArg _ (zbZ fun i hi=>?_);have hi:=zaE.1 hi;unfold cellsI;rw[lX,iN,if_pos hi,lJ hi];congr 1
 ·unfold colL nC ynM;rw[if_pos (by omega),show 2*i/2=i by omega];refine zbZ fun j hj=>?_;unfold colC cellC repC xcM;have h1:repY (xsM ls) (2*i)=(xsM ls).getD i 0:=by unfold repY;rw[if_pos (by omega),show 2*i/2=i by omega]
  have h2:∀ x,ycM ls (2*i) x=wlM ls i:=fun x=>by unfold ycM;rw[if_pos (by omega),show 2*i/2=i by omega]
  rw[h1,h2,show 2*i%2=0 by omega,show 2*i/2=i by omega]
 ·by_cases h:i+1<(xsM ls).length
  ·rw[if_pos ⟨by omega,h⟩,if_pos h,eZ h];unfold colL nC ynM;rw[if_neg (by omega),show (2*i+1)/2=i by omega,nG];refine zbZ fun j hj=>?_;unfold colC cellC repC xcM;have h1:repY (xsM ls) (2*i+1)=xU ((xsM ls).getD i 0) ((xsM ls).getD (i+1) 0):=by unfold repY;rw[if_neg (by omega),show (2*i+1)/2=i by omega]
   have h2:∀ x,ycM ls (2*i+1) x=hsL ((xsM ls).getD i 0) ((xsM ls).getD (i+1) 0) x (lvM ls i):=fun x=>by unfold ycM;rw[if_neg (by omega),show (2*i+1)/2=i by omega]
   rw[h1,h2,show (2*i+1)%2=1 by omega,show (2*i+1)/2=i by omega]
  ·rw[if_neg fun c=>h c.2,if_neg h]
noncomputable abbrev offC (ls:zD)(c:Nat):Nat:=offN (nC ls) c
theorem rS (ls:zD):(celM ls).length=offC ls (kC ls):=by rw[xA6,cK]
theorem fN {ls:zD}{d:CL}{c j:Nat}(h:inC ls c j):(celM ls).getD (offC ls c+j) d=cellC ls c j:=by rw[xA6];exact zX6 (f:=nC ls) (g:=cellC ls) (K:=kC ls) h.2 h.1
theorem zR1 {ls:zD}{c j:Nat}(h:inC ls c j):offC ls c+j<(celM ls).length:=by rw[rS];exact oN h.1 h.2
theorem xA5 {ls:zD}{n:Nat}(h:n<(celM ls).length):∃ c j,inC ls c j∧n=offC ls c+j:=by
 rw[rS] at h;obtain⟨c,j,h1,h2,e⟩:=yU1 h;exact⟨c,j,⟨h1,h2⟩,e⟩
theorem gX {ls:zD}{c j d k:Nat}(h1:inC ls c j)(h2:inC ls d k)(e:offC ls c+j=offC ls d+k):c=d∧j=k:=off_inj (f:=nC ls) h1.2 h2.2 e
def jnC (ls:zD)(c j d k:Nat):Prop:=¬ (c=d∧j=k)∧(touC ls c j (repC ls d k)∨touC ls d k (repC ls c j))
theorem jn_symm {ls:zD}{c j d k:Nat}:jnC ls c j d k↔jnC ls d k c j:=by
 unfold jnC;rw[or_comm];exact⟨fun h=>⟨fun e=>h.1 ⟨e.1.symm,e.2.symm⟩,h.2⟩,fun h=>⟨fun e=>h.1 ⟨e.1.symm,e.2.symm⟩,h.2⟩⟩
def lE (ls:zD)(c j d k:Nat):Prop:=c%2=1∧(d=c+1∨d+1=c)∧cloY (ycM ls c (xcM ls d)) j (repY (ycM ls d (xcM ls d)) k)
theorem yG1 {ls:zD}(hls:∀ l∈ls,∃ m,l=hullF m){c j d k:Nat}(h1:inC ls c j)(h2:inC ls d k):touC ls c j (repC ls d k)↔c=d∧(j=k∨j%2=1∧(k=j+1∨k+1=j))∨lE ls c j d k:=by
 have e1:cloY (xsM ls) c (xcM ls d)↔_:=nS (jE ls) h1.1 h2.1;have hp:=iC (jE ls) h2.1;have e2:c=d→(cloY (ycM ls c (xcM ls d)) j (repY (ycM ls d (xcM ls d)) k)↔_):=fun e=>by
  subst e;exact nS (zR8 hls h1.1 hp) (by rw[oB];exact h1.2) (by rw[oB];exact h2.2)
 unfold touC lE;show cloY (xsM ls) c (xcM ls d)∧cloY (ycM ls c (xcM ls d)) j (repY (ycM ls d (xcM ls d)) k)↔_;rw[e1];constructor
 ·rintro⟨h | ⟨h,h3⟩,h4⟩
  ·exact .inl ⟨h,(e2 h).1 h4⟩
  ·exact .inr ⟨h,h3,h4⟩
 ·rintro(⟨h,h4⟩ | ⟨h,h3,h4⟩)
  ·exact⟨.inl h,(e2 h).2 h4⟩
  ·exact⟨.inr ⟨h,h3⟩,h4⟩
theorem yD0 {ls:zD}(hls:∀ l∈ls,∃ m,l=hullF m){c j d k:Nat}(h1:inC ls c j)(h2:inC ls d k):jnC ls c j d k↔c=d∧(j+1=k∨k+1=j)∨lE ls c j d k∨lE ls d k c j:=by
 unfold jnC;rw[yG1 hls h1 h2,yG1 hls h2 h1];constructor
 ·rintro⟨hn,(⟨e,h⟩ | h) | (⟨e,h⟩ | h)⟩
  ·exact .inl ⟨e,by omega⟩
  ·exact .inr (.inl h)
  ·exact .inl ⟨e.symm,by omega⟩
  ·exact .inr (.inr h)
 ·rintro(⟨e,h⟩ | h | h)
  ·refine⟨by omega,?_⟩;rcases zbg j with m | m
   ·exact .inr (.inl ⟨e.symm,by omega⟩)
   ·exact .inl (.inl ⟨e,by omega⟩)
  ·refine⟨fun e=>?_,.inl (.inr h)⟩;have:=h.2.1;omega
  ·refine⟨fun e=>?_,.inr (.inr h)⟩;have:=h.2.1;omega
noncomputable def endsM (ls:zD)(i:Nat)(r:Bool):List Rat:=(lvM ls i).map fun a=>if r then a.2 else a.1
theorem zL0 {ls:zD}(i:Nat):xcM ls (2*i)=(xsM ls).getD i 0:=by unfold xcM repY;rw[if_pos (by omega),show 2*i/2=i by omega]
theorem fS {ls:zD}(i:Nat)(x:Rat):ycM ls (2*i) x=wlM ls i:=by unfold ycM;rw[if_pos (by omega),show 2*i/2=i by omega]
theorem pS {ls:zD}(i:Nat)(x:Rat):ycM ls (2*i+1) x=hsL ((xsM ls).getD i 0) ((xsM ls).getD (i+1) 0) x (lvM ls i):=by unfold ycM;rw[if_neg (by omega),show (2*i+1)/2=i by omega]
theorem zK8 {ls:zD}(i:Nat)(h:i+1<(xsM ls).length):ycM ls (2*i+1) (xcM ls (2*i))=endsM ls i false:=by
 rw[pS,zL0];unfold hsL endsM;have hl:=jE ls i h;refine zbZ fun a _=>?_;unfold xF qE;rw[if_pos hl,Rat.sub_self,Rat.div_def,Rat.zero_mul,Rat.zero_mul,Rat.add_zero,if_neg (by decide)]
theorem rX {ls:zD}(i:Nat)(h:i+1<(xsM ls).length):ycM ls (2*i+1) (xcM ls (2*i+2))=endsM ls i true:=by
 rw[pS,show 2*i+2=2*(i+1) by omega,zL0];unfold hsL endsM;have hl:=jE ls i h;refine zbZ fun a _=>?_;unfold xF qE;rw[if_pos hl,Rat.div_def,Rat.mul_inv_cancel _ (by grind),Rat.one_mul,if_pos rfl];grind
theorem zY1 {ls:zD}(hls:∀ l∈ls,∃ m,l=hullF m){i:Nat}(h:i+1<(xsM ls).length)(r:Bool):incQ (endsM ls i r):=by
 cases r with
 | false=>rw[← zK8 i h];exact yA4 hls (by omega) ((nS (jE ls) (by omega) (by omega)).2 (.inr ⟨by omega,.inr rfl⟩))
 | true=>rw[← rX i h];exact yA4 hls (by omega) ((nS (jE ls) (by omega) (by omega)).2 (.inr ⟨by omega,.inl rfl⟩))
theorem iS {ls:zD}{i:Nat}(h:i+1<(xsM ls).length):(∀ x∈endsM ls i false,x∈wlM ls i)∧∀ x∈endsM ls i true,x∈wlM ls (i+1):=by
 constructor
 ·intro x hx;obtain⟨a,ha,rfl⟩:=zaj.1 hx;exact yA8.2 (lK.2 (.inr (.inr (.inl ⟨h,a,ha,rfl⟩))))
 ·intro x hx;obtain⟨a,ha,rfl⟩:=zaj.1 hx;exact yA8.2 (lK.2 (.inr (.inl ⟨by omega,a,ha,rfl⟩)))
theorem pQ {ls:zD}(i:Nat):ynM ls (2*i)=(wlM ls i).length:=by unfold ynM;rw[if_pos (by omega),show 2*i/2=i by omega]
theorem pR {ls:zD}(i:Nat):ynM ls (2*i+1)=(lvM ls i).length:=by unfold ynM;rw[if_neg (by omega),show (2*i+1)/2=i by omega]
theorem oW {ls:zD}(i:Nat)(r:Bool):(endsM ls i r).length=(lvM ls i).length:=by unfold endsM;rw[List.length_map]
def acrK (W S:Nat)(y e:List Rat)(k r:Nat):List (Nat×Nat) :=
 (if e.getD r 0=y.getD k 0 then [(W+2*k,S+2*r)] else [])++(if r+1<e.length∧e.getD r 0≤y.getD k 0∧y.getD k 0≤e.getD (r+1) 0 then [(W+2*k,S+2*r+1)] else [])++(if r+1<e.length∧e.getD r 0≤y.getD k 0∧y.getD k 0<e.getD (r+1) 0∧k+1<y.length then [(W+2*k+1,S+2*r+1)] else [])
def acrR (W S:Nat)(y e:List Rat)(k:Nat):List (Nat×Nat):=(List.range e.length).flatMap (acrK W S y e k)
def acrS (W S:Nat)(y e:List Rat):List (Nat×Nat):=(List.range y.length).flatMap (acrR W S y e)
def gZ (W n:Nat):List (Nat×Nat):=(List.range (2*n-2)).map fun i=>(W+i,W+i+1)
theorem oP {α:Type}{c:Prop}[Decidable c]{x y:α}:x∈(if c then [y] else [])↔c∧x=y:=by
 by_cases h:c
 ·rw[if_pos h];simp[h]
 ·rw[if_neg h];simp[h]
theorem yA1 {W S:Nat}{y e:List Rat}{x:Nat×Nat}:x∈acrS W S y e ↔ ∃ k r,k<y.length∧r<e.length∧(e.getD r 0=y.getD k 0∧x=(W+2*k,S+2*r)∨(r+1<e.length∧e.getD r 0≤y.getD k 0∧y.getD k 0≤e.getD (r+1) 0)∧x=(W+2*k,S+2*r+1)∨(r+1<e.length∧e.getD r 0≤y.getD k 0∧y.getD k 0<e.getD (r+1) 0∧k+1<y.length)∧x=(W+2*k+1,S+2*r+1)):=by
 unfold acrS acrR acrK;simp only[zaX,zaE,zad,oP,or_assoc];constructor
 ·rintro⟨k,hk,r,hr,h⟩;exact⟨k,r,hk,hr,h⟩
 ·rintro⟨k,r,hk,hr,h⟩;exact⟨k,hk,r,hr,h⟩
theorem yP0 {W S:Nat}{y e:List Rat}(hy:jM y)(hs:∀ x∈e,x∈y){a b:Nat}:(a,b)∈acrS W S y e ↔ ∃ k j,k<2*y.length-1∧j<2*e.length-1∧a=W+k∧b=S+j∧cloY e j (repY y k):=by
 have at_:∀ r,r<e.length→∃ i,i<y.length∧y.getD i 0=e.getD r 0:=fun r h=>iK (hs _ (cJ h));have rep2:∀ k,repY y (2*k)=y.getD k 0:=fun k=>by unfold repY;rw[if_pos (by omega),show 2*k/2=k by omega]
 have clo2:∀ r x,cloY e (2*r) x↔x=e.getD r 0:=fun r x=>by unfold cloY;rw[if_pos (by omega),show 2*r/2=r by omega]
 have clo3:∀ r x,cloY e (2*r+1) x↔e.getD r 0≤x∧x≤e.getD (r+1) 0:=fun r x=>by unfold cloY;rw[if_neg (by omega),show (2*r+1)/2=r by omega]
 have rep3:∀ k,k+1<y.length→y.getD k 0<repY y (2*k+1)∧repY y (2*k+1)<y.getD (k+1) 0:=fun k h=>by
  have:=iC hy (j:=2*k+1) (by omega);unfold posY at this;rw[if_neg (by omega),show (2*k+1)/2=k by omega] at this;exact this
 rw[yA1];constructor
 ·rintro⟨k,r,hk,hr,⟨h,e1⟩ | ⟨⟨h1,h2,h3⟩,e1⟩ | ⟨⟨h1,h2,h3,h4⟩,e1⟩⟩
  ·obtain⟨rfl,rfl⟩:=Prod.mk.inj e1;exact⟨2*k,2*r,by omega,by omega,rfl,rfl,by rw[clo2,rep2];exact h.symm⟩
  ·obtain⟨rfl,rfl⟩:=Prod.mk.inj e1;exact⟨2*k,2*r+1,by omega,by omega,rfl,rfl,by rw[clo3,rep2];exact⟨h2,h3⟩⟩
  ·obtain⟨rfl,rfl⟩:=Prod.mk.inj e1;refine⟨2*k+1,2*r+1,by omega,by omega,rfl,rfl,?_⟩;rw[clo3];have h5:=rep3 k h4;obtain⟨i,hi,ei⟩:=at_ (r+1) h1;have h6:k+1≤i:=by
    rcases zaf k i with c | c
    ·exact c
    ·have:=bR (qX hy) c hk;rw[ei] at this;exact absurd h3 (Rat.not_lt.2 this)
   have h7:=bR (qX hy) h6 hi;rw[ei] at h7;exact⟨zck h2 (zaP h5.1),zck (zaP h5.2) h7⟩
 ·rintro⟨k,j,hk,hj,rfl,rfl,hc⟩;rcases zbg j with mj | mj
  ·obtain⟨r,rfl⟩:∃ r,j=2*r:=⟨j/2,by omega⟩;rw[clo2] at hc;obtain⟨i,hi,ei⟩:=at_ r (by omega);have hp:=iC hy hk;have:k=2*i:=tA hy hk (by omega) hp (by unfold posY;rw[if_pos (by omega),show 2*i/2=i by omega,ei];exact hc);subst this;exact⟨i,r,hi,by omega,.inl ⟨by rw[← ei],rfl⟩⟩
  ·obtain⟨r,rfl⟩:∃ r,j=2*r+1:=⟨j/2,by omega⟩;rw[clo3] at hc;rcases zbg k with mk | mk
   ·obtain⟨i,rfl⟩:∃ i,k=2*i:=⟨k/2,by omega⟩;rw[rep2] at hc;exact⟨i,r,by omega,by omega,.inr (.inl ⟨⟨by omega,hc.1,hc.2⟩,rfl⟩)⟩
   ·obtain⟨i,rfl⟩:∃ i,k=2*i+1:=⟨k/2,by omega⟩;have h5:=rep3 i (by omega);obtain⟨q,hq,eq⟩:=at_ r (by omega);have h6:q≤i:=by
     rcases zaf i q with c | c
     ·have:=bR (qX hy) (show i+1≤q from c) hq;rw[eq] at this;have h7:=hc.1;exact absurd h5.2 (Rat.not_lt.2 (zck this h7))
     ·exact c
    have h8:=bR (qX hy) h6 (by omega);rw[eq] at h8;refine⟨i,r,by omega,by omega,.inr (.inr ⟨⟨by omega,h8,?_,by omega⟩,rfl⟩)⟩;have:=hc.2;grind
noncomputable def wlJ (ls:zD)(i:Nat):List (Nat×Nat):=gZ (offC ls (2*i)) (wlM ls i).length
noncomputable def slJ (ls:zD)(i:Nat):List (Nat×Nat):=gZ (offC ls (2*i+1)) (lvM ls i).length++(acrS (offC ls (2*i)) (offC ls (2*i+1)) (wlM ls i) (endsM ls i false)++acrS (offC ls (2*(i+1))) (offC ls (2*i+1)) (wlM ls (i+1)) (endsM ls i true))
noncomputable def joinSeq (ls:zD):List (Nat×Nat):=(List.range (xsM ls).length).flatMap (wlJ ls)++(List.range ((xsM ls).length-1)).flatMap (slJ ls)
def sjn (p:Nat×Nat):Nat×Nat:=(min p.1 p.2,max p.1 p.2)
theorem yB7 {p q:Nat×Nat}(h:sjn p=sjn q):p.1=q.1∧p.2=q.2∨p.1=q.2∧p.2=q.1:=by
 have h1:=(Prod.mk.inj h).1;have h2:=(Prod.mk.inj h).2;omega
theorem zK1 {W n:Nat}{x:Nat×Nat}:x∈gZ W n ↔ ∃ i,i<2*n-2∧x=(W+i,W+i+1):=by
 unfold gZ;simp only[List.mem_map,List.mem_range];exact⟨fun⟨i,h,e⟩=>⟨i,h,e.symm⟩,fun⟨i,h,e⟩=>⟨i,h,e.symm⟩⟩
def Pcl (ls:zD)(c d:Nat)(x:Nat×Nat):Prop:=∃ j k,inC ls c j∧inC ls d k∧x=(offC ls c+j,offC ls d+k)
theorem iE {ls:zD}{c d c' d':Nat}{x y:Nat×Nat}(h1:Pcl ls c d x)(h2:Pcl ls c' d' y)(e:sjn x=sjn y):c=c'∧d=d'∨c=d'∧d=c':=by
 obtain⟨j,k,a1,a2,rfl⟩:=h1;obtain⟨j',k',b1,b2,rfl⟩:=h2;rcases yB7 e with⟨e1,e2⟩ | ⟨e1,e2⟩
 ·exact .inl ⟨(gX a1 b1 e1).1,(gX a2 b2 e2).1⟩
 ·exact .inr ⟨(gX a1 b2 e1).1,(gX a2 b1 e2).1⟩
section
variable {ls : zD}
theorem yP6 {i:Nat}(h:i<(xsM ls).length){x:Nat×Nat}:x∈wlJ ls i ↔ ∃ j,inC ls (2*i) (j+1)∧x=(offC ls (2*i)+j,offC ls (2*i)+(j+1)):=by
 unfold wlJ;rw[zK1];unfold inC;rw[pQ];exact⟨fun⟨j,h1,e⟩=>⟨j,by omega,e⟩,fun⟨j,h1,e⟩=>⟨j,by omega,e⟩⟩
theorem yR9 {i:Nat}(h:i+1<(xsM ls).length){x:Nat×Nat}:x∈gZ (offC ls (2*i+1)) (lvM ls i).length ↔ ∃ j,inC ls (2*i+1) (j+1)∧x=(offC ls (2*i+1)+j,offC ls (2*i+1)+(j+1)):=by
 rw[zK1];unfold inC;rw[pR];exact⟨fun⟨j,h1,e⟩=>⟨j,by omega,e⟩,fun⟨j,h1,e⟩=>⟨j,by omega,e⟩⟩
theorem yR8 {i:Nat}(h:i+1<(xsM ls).length){a b:Nat}:(a,b)∈acrS (offC ls (2*i)) (offC ls (2*i+1)) (wlM ls i) (endsM ls i false) ↔ ∃ k j,inC ls (2*i) k∧inC ls (2*i+1) j∧a=offC ls (2*i)+k∧b=offC ls (2*i+1)+j∧lE ls (2*i+1) j (2*i) k:=by
 rw[yP0 (bW ls i) (iS h).1,oW];unfold lE inC;rw[zK8 i h,fS,pQ,pR];exact⟨fun⟨k,j,h1,h2,h3,h4,h5⟩=>⟨k,j,⟨by omega,h1⟩,⟨by omega,h2⟩,h3,h4,by omega,by omega,h5⟩,fun⟨k,j,h1,h2,h3,h4,_,_,h5⟩=>⟨k,j,h1.2,h2.2,h3,h4,h5⟩⟩
theorem yR6 {i:Nat}(h:i+1<(xsM ls).length){a b:Nat}:(a,b)∈acrS (offC ls (2*(i+1))) (offC ls (2*i+1)) (wlM ls (i+1)) (endsM ls i true) ↔ ∃ k j,inC ls (2*(i+1)) k∧inC ls (2*i+1) j∧a=offC ls (2*(i+1))+k∧b=offC ls (2*i+1)+j∧lE ls (2*i+1) j (2*(i+1)) k:=by
 rw[yP0 (bW ls (i+1)) (iS h).2,oW];unfold lE inC;rw[show 2*(i+1)=2*i+2 by omega,rX i h,show 2*i+2=2*(i+1) by omega,fS,pQ,pR];exact⟨fun⟨k,j,h1,h2,h3,h4,h5⟩=>⟨k,j,⟨by omega,h1⟩,⟨by omega,h2⟩,h3,h4,by omega,by omega,h5⟩,fun⟨k,j,h1,h2,h3,h4,_,_,h5⟩=>⟨k,j,h1.2,h2.2,h3,h4,h5⟩⟩
theorem zM8 {i:Nat}{x:Nat×Nat}:x∈slJ ls i↔x∈gZ (offC ls (2*i+1)) (lvM ls i).length∨x∈acrS (offC ls (2*i)) (offC ls (2*i+1)) (wlM ls i) (endsM ls i false)∨x∈acrS (offC ls (2*(i+1))) (offC ls (2*i+1)) (wlM ls (i+1)) (endsM ls i true):=by
 unfold slJ;rw[List.mem_append,List.mem_append]
theorem pZ {a b:Nat}:(a,b)∈joinSeq ls ↔ ∃ c j d k,inC ls c j∧inC ls d k∧a=offC ls c+j∧b=offC ls d+k∧(c=d∧k=j+1∨lE ls d k c j):=by
 unfold joinSeq;rw[zad,zaX,zaX];simp only[zaE];constructor
 ·rintro(⟨i,hi,h⟩ | ⟨i,hi,h⟩)
  ·obtain⟨j,h1,e⟩:=(yP6 hi).1 h;exact⟨2*i,j,2*i,j+1,⟨h1.1,by have:=h1.2;omega⟩,h1,(Prod.mk.inj e).1,(Prod.mk.inj e).2,.inl ⟨rfl,rfl⟩⟩
  ·have hi':i+1<(xsM ls).length:=by omega
   rcases zM8.1 h with h | h | h
   ·obtain⟨j,h1,e⟩:=(yR9 hi').1 h;exact⟨2*i+1,j,2*i+1,j+1,⟨h1.1,by have:=h1.2;omega⟩,h1,(Prod.mk.inj e).1,(Prod.mk.inj e).2,.inl ⟨rfl,rfl⟩⟩
   ·obtain⟨k,j,h1,h2,e1,e2,h3⟩:=(yR8 hi').1 h;exact⟨_,k,_,j,h1,h2,e1,e2,.inr h3⟩
   ·obtain⟨k,j,h1,h2,e1,e2,h3⟩:=(yR6 hi').1 h;exact⟨_,k,_,j,h1,h2,e1,e2,.inr h3⟩
 ·rintro⟨c,j,d,k,h1,h2,rfl,rfl,⟨rfl,rfl⟩ | h3⟩
  ·have hc:=h1.1;rcases zbg c with m | m
   ·obtain⟨i,rfl⟩:∃ i,c=2*i:=⟨c/2,by omega⟩;exact .inl ⟨i,by omega,(yP6 (by omega)).2 ⟨j,h2,rfl⟩⟩
   ·obtain⟨i,rfl⟩:∃ i,c=2*i+1:=⟨c/2,by omega⟩;exact .inr ⟨i,by omega,zM8.2 (.inl ((yR9 (by omega)).2 ⟨j,h2,rfl⟩))⟩
  ·have hd:=h2.1;obtain⟨i,rfl⟩:∃ i,d=2*i+1:=⟨d/2,by have:=h3.1;omega⟩;refine .inr ⟨i,by omega,zM8.2 (.inr ?_)⟩;rcases h3.2.1 with e | e
   ·obtain rfl:c=2*(i+1):=by omega
    exact .inr ((yR6 (by omega)).2 ⟨j,k,h1,h2,rfl,rfl,h3⟩)
   ·obtain rfl:c=2*i:=by omega
    exact .inl ((yR8 (by omega)).2 ⟨j,k,h1,h2,rfl,rfl,h3⟩)
theorem zK0 (W n:Nat):(gZ W n).Pairwise fun x y=>sjn x≠sjn y:=by
 unfold gZ;rw[zcT];refine List.Pairwise.imp (fun {a b} (h:a<b) e=>?_) zdc;have:=yB7 e;simp only at this;omega
theorem nX {W S k r:Nat}{y e:List Rat}{x:Nat×Nat}(h:x∈acrK W S y e k r):x=(W+2*k,S+2*r)∨x=(W+2*k,S+2*r+1)∨x=(W+2*k+1,S+2*r+1):=by
 unfold acrK at h;simp only[zad,oP] at h;rcases h with(h | h) | h
 ·exact .inl h.2
 ·exact .inr (.inl h.2)
 ·exact .inr (.inr h.2)
theorem zR5 (W S:Nat)(y e:List Rat):(acrS W S y e).Pairwise fun x y=>x≠y:=by
 unfold acrS;rw[zdd];constructor
 ·intro k _;unfold acrR;rw[zdd];constructor
  ·intro r _;unfold acrK;rw[zbK,zbK];refine⟨⟨?_,?_,fun a ha b hb e=>?_⟩,?_,fun a ha b hb e=>?_⟩
   ·split<;>simp
   ·split<;>simp
   ·rw[oP] at ha hb;rw[ha.2,hb.2] at e;have:=(Prod.mk.inj e).2;omega
   ·split<;>simp
   ·rw[zad,oP,oP] at ha;rw[oP] at hb;rcases ha with ha | ha
    ·rw[ha.2,hb.2] at e;have:=(Prod.mk.inj e).1;omega
    ·rw[ha.2,hb.2] at e;have:=(Prod.mk.inj e).1;omega
  ·refine List.Pairwise.imp (fun {r r'} (h:r<r')=>fun a ha b hb e=>?_) zdc;rcases nX ha with h1 | h1 | h1<;>rcases nX hb with h2 | h2 | h2<;>rw[h1,h2] at e<;>(have:=Prod.mk.inj e;omega)
 ·refine List.Pairwise.imp (fun {k k'} (h:k<k')=>fun a ha b hb e=>?_) zdc;unfold acrR at ha hb;obtain⟨r,_,ha⟩:=zaX.1 ha;obtain⟨r',_,hb⟩:=zaX.1 hb;rcases nX ha with h1 | h1 | h1<;>rcases nX hb with h2 | h2 | h2<;>rw[h1,h2] at e<;>(have:=Prod.mk.inj e;omega)
theorem yA7 {i:Nat}(h:i<(xsM ls).length){x:Nat×Nat}(hx:x∈wlJ ls i):Pcl ls (2*i) (2*i) x:=by
 obtain⟨j,h1,rfl⟩:=(yP6 h).1 hx;exact⟨j,j+1,⟨h1.1,by have:=h1.2;omega⟩,h1,rfl⟩
theorem yD9 {i:Nat}(h:i+1<(xsM ls).length){x:Nat×Nat}(hx:x∈gZ (offC ls (2*i+1)) (lvM ls i).length):Pcl ls (2*i+1) (2*i+1) x:=by
 obtain⟨j,h1,rfl⟩:=(yR9 h).1 hx;exact⟨j,j+1,⟨h1.1,by have:=h1.2;omega⟩,h1,rfl⟩
theorem zP0 {i:Nat}(h:i+1<(xsM ls).length){x:Nat×Nat}(hx:x∈acrS (offC ls (2*i)) (offC ls (2*i+1)) (wlM ls i) (endsM ls i false)):Pcl ls (2*i) (2*i+1) x:=by
 obtain⟨a,b⟩:=x;obtain⟨k,j,h1,h2,e1,e2,_⟩:=(yR8 h).1 hx;exact⟨k,j,h1,h2,by rw[e1,e2]⟩
theorem zN0 {i:Nat}(h:i+1<(xsM ls).length){x:Nat×Nat}(hx:x∈acrS (offC ls (2*(i+1))) (offC ls (2*i+1)) (wlM ls (i+1)) (endsM ls i true)):Pcl ls (2*(i+1)) (2*i+1) x:=by
 obtain⟨a,b⟩:=x;obtain⟨k,j,h1,h2,e1,e2,_⟩:=(yR6 h).1 hx;exact⟨k,j,h1,h2,by rw[e1,e2]⟩
theorem yB6 {i:Nat}(h:i+1<(xsM ls).length){x:Nat×Nat}(hx:x∈slJ ls i):∃ c,(c=2*i+1∨c=2*i∨c=2*(i+1))∧Pcl ls c (2*i+1) x:=by
 rcases zM8.1 hx with k | k | k
 ·exact⟨_,.inl rfl,yD9 h k⟩
 ·exact⟨_,.inr (.inl rfl),zP0 h k⟩
 ·exact⟨_,.inr (.inr rfl),zN0 h k⟩
theorem yO8 {c d:Nat}(hcd:c≠d){l:List (Nat×Nat)}(h:l.Pairwise fun x y=>x≠y)(hm:∀ x∈l,Pcl ls c d x):l.Pairwise fun x y=>sjn x≠sjn y:=by
 refine List.Pairwise.imp_of_mem (fun {a b} ha hb hn e=>?_) h;obtain⟨j,k,a1,a2,ea⟩:=hm a ha;obtain⟨j',k',b1,b2,eb⟩:=hm b hb;rcases yB7 e with⟨e1,e2⟩ | ⟨e1,e2⟩
 ·exact hn (Prod.ext e1 e2)
 ·rw[ea,eb] at e1;exact hcd (gX a1 b2 e1).1
theorem seq_sep:(joinSeq ls).Pairwise fun x y=>sjn x≠sjn y:=by
 unfold joinSeq;rw[zbK,zdd,zdd];refine⟨⟨fun i _=>zK0 _ _,?_⟩,⟨fun i hi=>?_,?_⟩,fun x hx y hy e=>?_⟩
 ·refine List.Pairwise.imp_of_mem (fun {i k} hi hk (h:i<k) x hx y hy e=>?_) zdc;have:=iE (yA7 (zaE.1 hi) hx) (yA7 (zaE.1 hk) hy) e;omega
 ·have hi':i+1<(xsM ls).length:=by have:=zaE.1 hi;omega
  unfold slJ;rw[zbK,zbK];refine⟨zK0 _ _,⟨yO8 (by omega) (zR5 _ _ _ _) fun x hx=>zP0 hi' hx,yO8 (by omega) (zR5 _ _ _ _) fun x hx=>zN0 hi' hx,fun x hx y hy e=>?_⟩,fun x hx y hy e=>?_⟩
  ·have:=iE (zP0 hi' hx) (zN0 hi' hy) e;omega
  ·rcases zad.1 hy with hy | hy
   ·have:=iE (yD9 hi' hx) (zP0 hi' hy) e;omega
   ·have:=iE (yD9 hi' hx) (zN0 hi' hy) e;omega
 ·refine List.Pairwise.imp_of_mem (fun {i k} hi hk (h:i<k) x hx y hy e=>?_) zdc;have hi:=zaE.1 hi;have hk:=zaE.1 hk;obtain⟨c,hc,h1⟩:=yB6 (by omega) hx;obtain⟨d,hd,h2⟩:=yB6 (by omega) hy;have:=iE h1 h2 e;omega
 ·obtain⟨i,hi,hx⟩:=zaX.1 hx;obtain⟨k,hk,hy⟩:=zaX.1 hy;have hi:=zaE.1 hi;have hk:=zaE.1 hk;obtain⟨d,hd,h2⟩:=yB6 (by omega) hy;have:=iE (yA7 hi hx) h2 e;omega
end
def cmpJ (p q:Nat×Nat):Int:=if p.1=q.1 then(if p.2<q.2 then -1 else if p.2=q.2 then 0 else 1) else if p.1<q.1 then -1 else 1
theorem vL:COrd cmpJ:=by
 refine⟨fun a b=>?_,fun a b=>?_,fun a b c h k=>?_⟩
 ·obtain⟨a1,a2⟩:=a;obtain⟨b1,b2⟩:=b;unfold cmpJ;simp only[Prod.mk.injEq]
  repeat' split
  all_goals constructor<;>intro h<;>first | omega | (exfalso;omega)
 ·obtain⟨a1,a2⟩:=a;obtain⟨b1,b2⟩:=b;unfold cmpJ;simp only
  repeat' split
  all_goals omega
 ·obtain⟨a1,a2⟩:=a;obtain⟨b1,b2⟩:=b;obtain⟨c1,c2⟩:=c;unfold cmpJ at *; simp only at *;revert h k
  repeat' split
  all_goals intros
  all_goals first | omega | (exfalso;omega)
noncomputable def rawJ (ls:zD)(free:Nat→Bool):List (Nat×Nat):=((joinSeq ls).filter fun p=>free p.1&&free p.2).map sjn
theorem zU2 (ls:zD)(free:Nat→Bool):(rawJ ls free).Nodup:=by
 unfold rawJ List.Nodup;rw[zcT];exact seq_sep.sublist List.filter_sublist
noncomputable def allJ (ls:zD)(free:Nat→Bool):List (Nat×Nat):=setOf cmpJ (rawJ ls free)
def jnN (ls:zD)(a b:Nat):Prop:=∃ c j d k,inC ls c j∧inC ls d k∧a=offC ls c+j∧b=offC ls d+k∧jnC ls c j d k
theorem tX {ls:zD}{a b:Nat}(h:jnN ls a b):jnN ls b a:=by
 obtain⟨c,j,d,k,h1,h2,e1,e2,h3⟩:=h;exact⟨d,k,c,j,h2,h1,e2,e1,jn_symm.1 h3⟩
theorem jnN_at {ls:zD}{c j d k:Nat}(h1:inC ls c j)(h2:inC ls d k):jnN ls (offC ls c+j) (offC ls d+k)↔jnC ls c j d k:=by
 constructor
 ·rintro⟨c',j',d',k',a1,a2,e1,e2,h⟩;obtain⟨rfl,rfl⟩:=gX h1 a1 e1;obtain⟨rfl,rfl⟩:=gX h2 a2 e2;exact h
 ·exact fun h=>⟨c,j,d,k,h1,h2,rfl,rfl,h⟩
theorem yD1 {ls:zD}{a b:Nat}(h:jnN ls a b):a≠b:=by
 obtain⟨c,j,d,k,h1,h2,rfl,rfl,h3⟩:=h;exact fun e=>h3.1 (gX h1 h2 e)
theorem yY1 {ls:zD}{a b:Nat}(h:jnN ls a b):a<(celM ls).length∧b<(celM ls).length:=by
 obtain⟨c,j,d,k,h1,h2,rfl,rfl,_⟩:=h;exact⟨zR1 h1,zR1 h2⟩
theorem zU3 {ls:zD}(hls:∀ l∈ls,∃ m,l=hullF m){free:Nat→Bool}{a b:Nat}:(a,b)∈rawJ ls free↔a<b∧free a=true∧free b=true∧jnN ls a b:=by
 unfold rawJ;simp only[zaj,zbL,zam];constructor
 ·rintro⟨⟨p,q⟩,⟨hx,f1,f2⟩,e⟩;obtain⟨c,j,d,k,h1,h2,e1,e2,h3⟩:=pZ.1 hx;have hj:jnN ls p q:=⟨c,j,d,k,h1,h2,e1,e2,(yD0 hls h1 h2).2 (h3.elim (fun h => .inl ⟨h.1,.inl h.2.symm⟩) fun h => .inr (.inr h))⟩;have hn:=yD1 hj;unfold sjn at e;obtain⟨ea,eb⟩:=Prod.mk.inj e;simp only at ea eb f1 f2;rcases Nat.lt_or_gt_of_ne hn with c | c
  ·obtain rfl:a=p:=by omega
   obtain rfl:b=q:=by omega
   exact⟨c,f1,f2,hj⟩
  ·obtain rfl:a=q:=by omega
   obtain rfl:b=p:=by omega
   exact⟨c,f2,f1,tX hj⟩
 ·rintro⟨hlt,f1,f2,c,j,d,k,h1,h2,rfl,rfl,h3⟩;rcases (yD0 hls h1 h2).1 h3 with⟨rfl,h | h⟩ | h | h
  ·exact⟨_,⟨pZ.2 ⟨c,j,c,k,h1,h2,rfl,rfl,.inl ⟨rfl,h.symm⟩⟩,f1,f2⟩,by unfold sjn;rw[Nat.min_eq_left (by omega),Nat.max_eq_right (by omega)]⟩
  ·omega
  ·exact⟨_,⟨pZ.2 ⟨d,k,c,j,h2,h1,rfl,rfl,.inr h⟩,f2,f1⟩,by unfold sjn;rw[Nat.min_eq_right (by omega),Nat.max_eq_left (by omega)]⟩
  ·exact⟨_,⟨pZ.2 ⟨c,j,d,k,h1,h2,rfl,rfl,.inr h⟩,f1,f2⟩,by unfold sjn;rw[Nat.min_eq_left (by omega),Nat.max_eq_right (by omega)]⟩
theorem k23through {e:BX}{lo hi:Rat}{n m q:Nat}(hn:n≤900)(hm:m≤900)(hq:q≤900):CTy prog 250 [ag (ect n e),ag (rtc m lo),ag (rtc q hi)] (exP (.bool (decide (aH lo hi e)))):=by
 refine fw [.tmp 6] func250 fun X=>?_;repeat refine u ?_
 refine zA1 (ofa rfl rfl) ?_;repeat refine u ?_
 refine zB rfl rfl (gO (by omega) (by omega)) ?_;repeat refine u ?_
 refine t1g rfl rfl (ofa rfl rfl) ?_;repeat refine u ?_
 refine t1g rfl rfl (oca rfl rfl fun g=>gO (by omega) (by omega)) ?_;repeat refine u ?_
 refine t1g rfl rfl (ofa rfl rfl) ?_;repeat refine u ?_
 refine t1g rfl rfl (ofa rfl rfl) ?_;repeat refine u ?_
 refine t1g rfl rfl (oca rfl rfl fun g=>gO (by omega) (by omega)) ?_;repeat refine u ?_
 refine⟨[_],rst rfl rs0,yJ ?_⟩;refine psb ?_;rw[zct];simp only[zam,decide_eq_true_eq];have h1:=@bK e.1.1 lo;have h2:=@xH e.2.1 hi;have h3:=@xH e.1.1 e.2.1;unfold aH;rw[← h1,← h2,← h3];exact⟨fun h=>⟨by omega,by omega,h.2⟩,fun h=>⟨⟨by omega,by omega⟩,h.2.2⟩⟩
theorem yL5 {raw:List P2}{p:P2}{n K:Nat}(hn:n≤900)(hL:(setOf cmpL raw).length≤100000)(h:rlen p.1 n∧rlen p.2 n):CTy prog 249 [sv (sl 6 ((setOf cmpL raw).map (ptc n))),ag (st [rtc K p.1,rtc K p.2])] (sv (sl 6 ((setOf cmpL (raw++[p])).map (ptc n)))) :=
 yE (yQ3 hn hL) (fs1 (PSub.refl _) (fs1 (fun M w v ⟨us,e,k⟩=>⟨us,e,wJ h M w us k⟩) fs0))
theorem k23put0 {p:P2}{n K:Nat}(hn:n≤900)(h:rlen p.1 n∧rlen p.2 n):CTy prog 249 [exP (.slice none 0 0),ag (st [rtc K p.1,rtc K p.2])] (sv (sl 6 ((setOf cmpL [p]).map (ptc n)))) :=
 yE (yQ3 (raw:=[]) hn (by rw[fZ nP];simp)) (fs1 (mN nP rfl) (fs1 (fun M w v ⟨us,e,k⟩=>⟨us,e,wJ h M w us k⟩) fs0))
theorem xG6 {Ψ Φ Θ:PV}{a b:P2}{x:Rat}{n m:Nat}[h1:QP Ψ n a][h2:QP Φ n b][h3:QR Θ m x](hn:n≤10)(hm:m≤400):CTy prog 251 [Ψ,Φ,Θ] (tu [ag (rtc 1800 (zM a b x)),exP (.bool (decide (b.1-a.1≠0)))]):=yE (k10h hn hm) (fs1 qp_q (fs1 qp_q (fs1 qr_q fs0)))
theorem k23ofT {lo hi:Rat}{bl bh:P2}{es:List BX}{m n n3 N:Nat}(hm:m≤400)(hn:n≤10)(h3:n3≤200)(hN:N≤900)(hl:es.length≤900)(hr:∀ x∈jP lo hi es es.length++[(bl.2,bl.2),(bh.2,bh.2)],rlen x.1 N∧rlen x.2 N) :
  CTy prog 173 [ag (rtc m lo),ag (rtc m hi),ag (bxc n3 (bl,bh)),sv (sl 12 (es.map (ect n)))] (sv (sl 6 ((lvOf lo hi bl.2 bh.2 es).map (ptc N)))):=by
 have hb1:rlen bl.2 N:=(hr (bl.2,bl.2) (by simp)).1;have hb2:rlen bh.2 N:=(hr (bh.2,bh.2) (by simp)).1;have ht:∀ x∈jP lo hi es es.length,rlen x.1 N∧rlen x.2 N:=fun x hx=>hr x (by simp[hx]);have hL:∀ i,i≤es.length→(setOf cmpL ([(bl.2,bl.2),(bh.2,bh.2)]++jP lo hi es i)).length≤100000:=fun i hil=>by
  have h1:=yY nP ([(bl.2,bl.2),(bh.2,bh.2)]++jP lo hi es i);have h2:=sI lo hi es i;rw[zak] at h1;simp only[zas,zbb] at h1;omega
 refine fw [.tmp 8] func173 fun X=>?_;repeat refine u ?_
 refine zB rfl rfl (gO (by omega) (by omega)) ?_;repeat refine u ?_
 refine tp (fun c0=>?_) fun c0=>?_;repeat refine u ?_
 refine e ?_;rotate_left;iterate 6 refine u ?_
 refine zL 12 mixed rfl rfl ?_;repeat refine u ?_
 refine zC rfl rfl (jO (by omega)) ?_;repeat refine u ?_
 refine zC rfl rfl (jO (by omega)) ?_;repeat refine u ?_
 refine zC rfl rfl (k23put0 (p:=(bl.2,bl.2)) (n:=N) (by omega) (by(simp;omega))) ?_;iterate 5 refine u ?_
 refine zL 12 mixed rfl rfl ?_;repeat refine u ?_
 refine zC rfl rfl (jO (by omega)) ?_;repeat refine u ?_
 refine zC rfl rfl (jO (by omega)) ?_;repeat refine u ?_
 refine zC rfl rfl (yL5 (p:=(bh.2,bh.2)) (by omega) ?_ (by(simp;omega))) ?_;rotate_left;repeat refine u ?_
 rotate_left
 ·have hq:¬ lo<hi:=fun h=>by have:=aO.1 c0;grind
  rw[← mV (l:=[]) (by rw[if_neg hq])];exact aB
 ·exact zab (yY nP _) (by simp)
 ·have hq:lo<hi:=by have h:=mt aO.2 c0;grind
  refine yR (σ:=Nat) (fun i=>[(9,True,sv (sl 6 ((setOf cmpL ([(bl.2,bl.2),(bh.2,bh.2)]++jP lo hi es i)).map (ptc N)))),(10,True,zI i)]) (fun i=>[]) (fun i=>i≤es.length) (fun i=>es.length-i) (0) (tk 3 rfl (tk 4 rfl (tk 5 rfl (tk 8 rfl tn)))) ?_ rfl ((by omega)) (fun i hJ Y _=>?_);refine zA rfl (zA rfl tn);repeat refine u ?_
  refine tp (fun c1=>?_) fun c1=>?_;iterate 5 refine u ?_
  refine zL 8 mixed rfl rfl ?_;repeat refine u ?_
  refine zC rfl rfl (k23through (by omega) (by omega) (by omega)) ?_;repeat refine u ?_
  refine tp (fun c2=>?_) fun c2=>?_;repeat refine u ?_
  rotate_left;iterate 2 refine u ?_
  apply yO 1 18 16 [(15,11,0),(16,1000016,0)] rfl rfl mixed rfl rfl rfl;repeat refine u ?_
  refine cx1 (ofa rfl rfl) rfl ?_;repeat refine u ?_
  refine cx1 (ofa rfl rfl) rfl ?_;repeat refine u ?_
  refine cx1 (oca rfl rfl fun _=>xG6 (by omega) (by omega)) rfl ?_;repeat refine u ?_
  refine cN rfl rfl (cal) (cS rfl rfl rfl (cst rfl rfl rfl) ?_);repeat refine u ?_
  refine cE (fun b11=>?_);refine fm ?_;iterate 3 refine u ?_
  apply yO 1 18 16 [(15,13,0),(16,1000016,0)] rfl rfl mixed rfl rfl rfl;repeat refine u ?_
  refine cx1 (ofa rfl rfl) rfl ?_;repeat refine u ?_
  refine cx1 (ofa rfl rfl) rfl ?_;repeat refine u ?_
  refine cx1 (old rfl rfl) rfl (cx1 (oca rfl rfl fun _=>xG6 (by omega) (by omega)) rfl ?_);repeat refine u ?_
  refine cN rfl rfl (cal) (cS rfl rfl rfl (cst rfl rfl rfl) ?_);repeat refine u ?_
  refine cE (fun b13=>?_);refine fm ?_;repeat refine u ?_
  refine zA1 (omv rfl) ?_;repeat refine u ?_
  refine zB rfl rfl (yL5 (p:=qO lo hi (es.getD i Df.d)) (by omega) ?_ ?_) ?_;rotate_left;rotate_left;repeat refine u ?_
  refine zA1 (omv rfl) ?_;repeat refine u ?_
  rotate_left;repeat refine u ?_
  refine e ?_;rotate_left
  ·refine⟨i+1,tes ?_ ?_ (zaa _),(by omega),(by omega)⟩;refine tc rfl ?_ ?_;rotate_left;refine zA rfl tn;refine zA rfl (zA rfl (zA rfl (zA rfl tn)));rw[thru_skip c2];exact PSub.refl _
  ·exact hL i (by omega)
  ·exact ht _ (mD.2 ⟨_,xB (by omega),zcu.1 c2,rfl⟩)
  ·refine⟨i+1,tes ?_ ?_ (by(simp;done)),(by omega),(by omega)⟩;refine tc rfl ?_ ?_;rotate_left;refine zA rfl tn;refine zA rfl (zA rfl (zA rfl (zA rfl tn)));rw[thru_take (zcu.1 c2),← zaB];exact PSub.refl _
  ·have:i=es.length:=by omega
   subst this;rw[show setOf cmpL ([(bl.2,bl.2),(bh.2,bh.2)]++jP lo hi es es.length)=lvOf lo hi bl.2 bh.2 es from mV (by
    rw[if_pos hq];have h1:=xN nP ([(bl.2,bl.2),(bh.2,bh.2)]++jP lo hi es es.length);exact⟨h1.rise,fun x=>by rw[h1.mem,zad,zad,or_comm]⟩)]
   exact PSub.refl _
theorem k23allT {ls:zD}{bl bh:P2}{xs:List Rat}{n m n3 N:Nat}(hn:n≤9)(hm:m≤400)(h3:n3≤200)(hN:N≤900)(hl:ls.length≤50)(h9:∀ l∈ls,l.length≤9)(hx:xs.length≤10000)(hr:∀ j,j+1<xs.length→∀ x∈jP (xs.getD j 0) (xs.getD (j+1) 0) (xD ls) (xD ls).length++[(bl.2,bl.2),(bh.2,bh.2)],rlen x.1 N∧rlen x.2 N) :
  CTy prog 98 [sv (sl 1 (ls.map (pcc n))),ag (bxc n3 (bl,bh)),sv (sl 3 (xs.map (rtc m)))] (sv (sl 1 ((List.range (xs.length-1)).map fun j=>sl 6 ((lvA xs bl bh (xD ls) j).map (ptc N))))):=by
 have he:=lV h9;refine fw [.tmp 6] func98 fun X=>?_;repeat refine u ?_
 refine zB rfl rfl (k21edges (by omega) (by omega) h9) ?_;repeat refine u ?_
 refine t_ts (xQ 49 1) ?_;refine lp (σ:=Nat×Value) [2,4,6,8] (fun s=>[(9,True,zI s.1),(7,True,exP s.2)]) (fun s=>[.row s.2 49 1 ((List.range s.1).map fun j=>sl 6 ((lvA xs bl bh (xD ls) j).map (ptc N)))]) (fun s=>s.1≤xs.length-1) (fun s=>xs.length-1-s.1) ((0,.slice none 0 0)) ((by simp)) fun s hJ Y _=>?_;obtain⟨i,v⟩:=s;dsimp only at hJ ⊢;have hi:i<xs.length-1→i+1<xs.length:=fun h=>by omega
 repeat refine u ?_
 refine tp (fun c0=>?_) fun c0=>?_;iterate 3 refine u ?_
 refine zL 14 mixed rfl rfl ?_;repeat refine u ?_
 refine zC rfl rfl (k23ofT (N:=N) (by omega) (by omega) (by omega) (by omega) (by omega) ?_) ?_;rotate_left;iterate 3 refine u ?_
 refine u fun r33=>?_;repeat refine u ?_
 rotate_left;iterate 7 refine u ?_
 refine t_ts (yK (s:=6) 0 rfl rfl) ?_;repeat refine u ?_
 refine e ?_;rotate_left
 ·exact hr i (by omega)
 ·refine⟨(i+1,r33),tes ?_ ?_ ?_,(by omega),(by omega)⟩;refine zA rfl (zA rfl tn);refine zA rfl (zA rfl (zA rfl (zA rfl tn)));rw[zaQ];exact zaa _
 ·rw[show xs.length-1=i by omega];exact PSub.refl _
abbrev zMd:Value:=.agg #[.bool false,.slice none 0 0,.slice none 0 0,.bool false,.slice none 0 0,.slice none 0 0,.bool false,.slice none 0 0,.slice none 0 0,.bool false,.slice none 0 0,.slice none 0 0,.slice none 0 0,.slice none 0 0,.slice none 0 0,.slice none 0 0]
theorem obmd {P:Program}{r:Option Nat}{N:Nat}{ops:Array Oper}{M:Nat→Prop}{S:List Ow}{p qx:Prop}{Γ:TE}{Ψx:PV}{c:CT}{d:Nat}{x:Operand}{t t':TypeId}{pos:String}{af:Array Edge}(hx:tv Γ x=some (qx,Ψx))[Im p qx][hp:TPl P t [12,1,1,1,1]][tz:TZ P t zMd][hc:CtOf Ψx c](hs:Nat.beq c.sz 12=true) :
  Ob P r N ops M S p ⟨some d,.build t #[(0,x)],t',pos,af,none⟩ Γ (ag (st [c,xc (.slice none 0 0),xc (.slice none 0 0),xc (.slice none 0 0),xc (.slice none 0 0)])) :=
 ob1 hx (by simp[Op.operands]) fun D E w u hN hg e1 h1=>by
  obtain⟨us,k1,k2⟩:=hc.h h1;obtain⟨sz,bytes,hz⟩:=tz.s;have hl:us.length=12:=(c.len k2).trans (zal hs);refine cZ (vs:=[u]) (cs:=[us]) (zs:=zMd.cells.toList) hN hp.h hz (by simp[evs,e1]) ⟨k1,trivial⟩ (by simp[hl];exact(by decide:12≤zMd.cells.size)) rfl (fin ⟨us++[.slice none 0 0,.slice none 0 0,.slice none 0 0,.slice none 0 0],?_,us,_,rfl,k2,[.slice none 0 0],_,rfl,⟨rfl,rfl⟩,[.slice none 0 0],_,rfl,⟨rfl,rfl⟩,[.slice none 0 0],_,rfl,⟨rfl,rfl⟩,[.slice none 0 0],[],rfl,⟨rfl,rfl⟩,rfl⟩);simp[updC,hl];rfl
noncomputable def clsM (m:Mdl)(k a r:Nat):List P2 :=
 if k<2 then
  if a<m.xs.length∧a<m.wl.length∧r+k<(m.wl.getD a Df.d).length then
   (m.xs.getD a Df.d,(m.wl.getD a Df.d).getD r Df.d)::if k=1 then [(m.xs.getD a Df.d,(m.wl.getD a Df.d).getD (r+1) Df.d)] else []
  else []
 else if a<m.lv.length∧a+1<m.xs.length∧r+(k-2)<(m.lv.getD a Df.d).length then
  (m.xs.getD a Df.d,((m.lv.getD a Df.d).getD r Df.d).1)::(m.xs.getD (a+1) Df.d,((m.lv.getD a Df.d).getD r Df.d).2)::if k=3 then [(m.xs.getD (a+1) Df.d,((m.lv.getD a Df.d).getD (r+1) Df.d).2),(m.xs.getD a Df.d,((m.lv.getD a Df.d).getD (r+1) Df.d).1)] else []
 else []
theorem yV5 {Ψ Φ:PV}{p q:Rat}{n m:Nat}[h:QR Ψ n p][k:QR Φ m q](hn:n≤40000)(hm:m≤40000):CTy prog 137 [Ψ,Φ] (exP (.bool (decide (p=q)))):=by
 refine yE (σs:=[ag (rtq n p),ag (rtq m q)]) ?_ (fs1 qr_q (fs1 qr_q fs0));refine fw [.tmp 4] func137 fun X=>?_;repeat refine u ?_
 refine zB rfl rfl (pN (by omega) (by omega)) ?_;repeat refine u ?_
 refine e ?_;refine psb ?_;rw[zct];simp only[decide_eq_true_eq,xA]
def eU (s:Bool):Int:=if s then -1 else 0
def inB (s:Bool)(a x b:Rat):Bool:=decide (cmpR a x≤eU s)&&decide (cmpR x b≤eU s)
theorem ksin {p q r:Rat}{n m k:Nat}{s:Bool}(hn:n≤40000)(hm:m≤40000)(hk:k≤40000):CTy prog 208 [ag (rtq n p),ag (rtq m q),ag (rtq k r),pa (xc (.int .i64 (eU s)))] (exP (.bool (decide (cmpR p q≤eU s)&&decide (cmpR q r≤eU s)))):=by
 refine fw [.tmp 7] func208 fun X=>?_;iterate 8 refine u ?_
 refine zL 13 mixed rfl rfl ?_;repeat refine u ?_
 refine zC rfl rfl (pN (by omega) (by omega)) ?_;repeat refine u ?_
 refine d1g rfl rfl (oca rfl rfl fun g=>pN (by omega) (by omega)) ?_;repeat refine u ?_
 exact e
theorem yK6 {Ψ Φ Θ:PV}{p q r:Rat}{n m k:Nat}{s:Bool}[h1:QR Ψ n p][h2:QR Φ m q][h3:QR Θ k r](hn:n≤40000)(hm:m≤40000)(hk:k≤40000):CTy prog 208 [Ψ,Φ,Θ,pa (xc (.int .i64 (eU s)))] (exP (.bool (inB s p q r))):=yE (ksin hn hm hk) (fs1 qr_q (fs1 qr_q (fs1 qr_q (fs1 (PSub.refl _) fs0))))
theorem kswithin {s:Bool}:CTy prog 126 [exP (.bool s)] (fn 208 [pa (xc (.int .i64 (eU s)))]):=by
 refine fw [.tmp 2] func126 fun X=>?_;iterate 6 refine u ?_
 refine u fun b3=>?_;repeat refine u ?_
 refine tp (fun c0=>?_) fun c0=>?_;iterate 5 refine u ?_
 refine zR (zU 0 rfl (s:=3) rfl) (zA1 (omf rfl) ?_);repeat refine u ?_
 refine e ?_;rotate_left;iterate 3 refine u ?_
 refine zR (zU 0 rfl (s:=3) rfl) (zA1 (omf rfl) ?_);repeat refine u ?_
 refine e ?_;rotate_left
 ·rw[show eU s = -1 from if_pos c0];exact PSub.refl _
 ·rw[show eU s=0 from if_neg c0];exact PSub.refl _
theorem tk1 {l:List Rat}{r:Nat}(h:r<l.length):List.take (r+0+1-r) (List.drop r l)=[l.getD r Df.d]:=by
 rw[show r+0+1-r=1 by omega,zcL h,List.take_succ_cons,zcy];simp[zag,h]
theorem tk2 {l:List Rat}{r:Nat}(h:r+1<l.length):List.take (r+1+1-r) (List.drop r l)=[l.getD r Df.d,l.getD (r+1) Df.d]:=by
 rw[show r+1+1-r=2 by omega,zcL (by omega),List.take_succ_cons,zcL h,List.take_succ_cons,zcy];simp[zag,h,show r<l.length by omega]
theorem ksclosed0 {m:Mdl}{N K a r:Nat}{p:P2}(hN:N≤20000)(ha:a≤1000000000000)(hr:r≤1000000000000)(hx:m.xs.length≤1000000)(hw:∀ i,(m.wl.getD i Df.d).length≤1000000)(hv:∀ i,(m.lv.getD i Df.d).length≤1000000):CTy prog 58 [ag (mdT N m),ag (st [xc (.int .i8 0),xc (.int .i64 ((a:Nat):Int)),xc (.int .i64 ((r:Nat):Int)),ptc K p])] (sv (sl 6 ((clsM m 0 a r).map (ptc (N+1))))):=by
 have hwa:=hw a;have hva:=hv a;refine fw [.tmp 4] func58 fun X=>?_;repeat refine u ?_
 refine tp (fun c0=>(by omega)) fun c0=>?_;repeat refine u ?_
 refine tp (fun c1=>(by omega)) fun c1=>?_;repeat refine u ?_
 refine tp (fun c2=>?_) fun c2=>(by omega);repeat refine u ?_
 refine tp (fun c3=>?_) fun c3=>(by omega);iterate 2 refine u ?_
 refine zL 24 mixed rfl rfl ?_;repeat refine u ?_
 refine d1g rfl rfl (ofa rfl rfl) ?_;repeat refine u ?_
 refine d1g rfl rfl (ofa rfl rfl) ?_;repeat refine u ?_
 refine d1g rfl rfl (omv rfl) ?_;repeat refine u ?_
 refine tp (fun c4=>?_) fun c4=>?_;repeat refine u ?_
 refine e ?_;rotate_left;iterate 7 refine u ?_
 refine zL 16 mixed rfl rfl ?_;repeat refine u ?_
 refine d1 (ofa rfl rfl) ?_;repeat refine u ?_
 refine d1 (ofa rfl rfl) ?_;repeat refine u ?_
 refine d1 (ofa rfl rfl) ?_;repeat refine u ?_
 refine d1 (ofa rfl rfl) ?_;repeat refine u ?_
 refine d1 (omv rfl) ?_;repeat refine u ?_
 rotate_left
 ·unfold clsM;rw[if_pos (by omega),if_neg fun c=>by omega];exact aB
 unfold clsM;rw[if_pos (by omega),if_pos ⟨by omega,by omega,by omega⟩];have hT:List.take (r+0+1-r) (List.drop r (m.wl.getD a Df.d))=(m.wl.getD a Df.d).getD r Df.d::[]:=tk1 (by omega);rw[if_neg (by omega),show [(m.xs.getD a Df.d,(m.wl.getD a Df.d).getD r Df.d)]=(List.take (r+0+1-r) (List.drop r (m.wl.getD a Df.d))).map (Prod.mk (m.xs.getD a Df.d)) by rw[hT];rfl];have hTl:(List.take (r+0+1-r) (List.drop r (m.wl.getD a Df.d))).length≤2:=by rw[hT];simp
 clear hT;generalize List.take (r+0+1-r) (List.drop r (m.wl.getD a Df.d))=T at *;refine t_ts (xQ 39 6) ?_;refine yR (σ:=Nat×Value) (fun s=>[(6,True,exP s.2),(74,True,zI s.1)]) (fun s=>[.row s.2 39 6 (((T.take s.1).map (Prod.mk (m.xs.getD a Df.d))).map (ptc N))]) (fun s=>s.1≤T.length) (fun s=>T.length-s.1) ((0,.slice none 0 0)) (tk 2 rfl (tk 3 rfl (tk 4 rfl (tk 72 rfl (tk 73 rfl tn))))) ?_ rfl ((by simp)) (fun s hJ Y _=>?_);refine zA rfl (zA rfl tn);obtain⟨i,v⟩:=s;dsimp only at hJ ⊢;repeat refine u ?_
 refine tp (fun c5=>?_) fun c5=>?_;iterate 7 refine u ?_
 refine u fun b8=>?_;refine u ?_;refine zR (zU (s:=8) 0 rfl rfl) ?_;refine u ?_;refine zL 10 mixed rfl rfl ?_;repeat refine u ?_
 refine tap 0 rfl rfl rfl (by(simp;omega)) rfl fun r88=>?_;repeat refine u ?_
 rotate_left;repeat refine u ?_
 refine zR (yK (s:=90) 0 rfl rfl) (zB rfl rfl (zP2 (n:=N) (by omega) (by(simp;omega))) ?_);repeat refine u ?_
 refine e ?_;rotate_left
 ·refine⟨(i+1,r88),tes ?_ ?_ ?_,(by omega),(by omega)⟩;refine zA rfl (zA rfl tn);refine zA rfl (zA rfl (zA rfl (zA rfl (zA rfl tn))));rw[(zP (Df.d:Rat) (l:=T) (s:=i) (by omega)).1,zaq,zaq];exact zaa _
 ·rw[zaw (by omega)];exact PSub.refl _
theorem ksclosed1 {m:Mdl}{N K a r:Nat}{p:P2}(hN:N≤20000)(ha:a≤1000000000000)(hr:r≤1000000000000)(hx:m.xs.length≤1000000)(hw:∀ i,(m.wl.getD i Df.d).length≤1000000)(hv:∀ i,(m.lv.getD i Df.d).length≤1000000):CTy prog 58 [ag (mdT N m),ag (st [xc (.int .i8 1),xc (.int .i64 ((a:Nat):Int)),xc (.int .i64 ((r:Nat):Int)),ptc K p])] (sv (sl 6 ((clsM m 1 a r).map (ptc (N+1))))):=by
 have hwa:=hw a;have hva:=hv a;refine fw [.tmp 4] func58 fun X=>?_;repeat refine u ?_
 refine tp (fun c0=>?_) fun c0=>(by omega);repeat refine u ?_
 refine tp (fun c1=>(by omega)) fun c1=>?_;repeat refine u ?_
 refine tp (fun c2=>(by omega)) fun c2=>?_;repeat refine u ?_
 refine tp (fun c3=>?_) fun c3=>(by omega);iterate 2 refine u ?_
 refine zL 24 mixed rfl rfl ?_;repeat refine u ?_
 refine d1g rfl rfl (ofa rfl rfl) ?_;repeat refine u ?_
 refine d1g rfl rfl (ofa rfl rfl) ?_;repeat refine u ?_
 refine d1g rfl rfl (ofa rfl rfl) ?_;repeat refine u ?_
 refine d1g rfl rfl (omv rfl) ?_;repeat refine u ?_
 refine tp (fun c4=>?_) fun c4=>?_;repeat refine u ?_
 refine e ?_;rotate_left;iterate 7 refine u ?_
 refine zL 16 mixed rfl rfl ?_;repeat refine u ?_
 refine d1 (ofa rfl rfl) ?_;repeat refine u ?_
 refine d1 (ofa rfl rfl) ?_;repeat refine u ?_
 refine d1 (ofa rfl rfl) ?_;repeat refine u ?_
 refine d1 (ofa rfl rfl) ?_;repeat refine u ?_
 refine d1 (omv rfl) ?_;repeat refine u ?_
 rotate_left
 ·unfold clsM;rw[if_pos (by omega),if_neg fun c=>by omega];exact aB
 unfold clsM;rw[if_pos (by omega),if_pos ⟨by omega,by omega,by omega⟩];have hT:List.take (r+1+1-r) (List.drop r (m.wl.getD a Df.d))=(m.wl.getD a Df.d).getD r Df.d::[(m.wl.getD a Df.d).getD (r+1) Df.d]:=tk2 (by omega);rw[if_pos rfl,show [(m.xs.getD a Df.d,(m.wl.getD a Df.d).getD r Df.d),(m.xs.getD a Df.d,(m.wl.getD a Df.d).getD (r+1) Df.d)]=(List.take (r+1+1-r) (List.drop r (m.wl.getD a Df.d))).map (Prod.mk (m.xs.getD a Df.d)) by rw[hT];rfl];have hTl:(List.take (r+1+1-r) (List.drop r (m.wl.getD a Df.d))).length≤2:=by rw[hT];simp
 clear hT;generalize List.take (r+1+1-r) (List.drop r (m.wl.getD a Df.d))=T at *;refine t_ts (xQ 39 6) ?_;refine yR (σ:=Nat×Value) (fun s=>[(6,True,exP s.2),(74,True,zI s.1)]) (fun s=>[.row s.2 39 6 (((T.take s.1).map (Prod.mk (m.xs.getD a Df.d))).map (ptc N))]) (fun s=>s.1≤T.length) (fun s=>T.length-s.1) ((0,.slice none 0 0)) (tk 2 rfl (tk 3 rfl (tk 4 rfl (tk 72 rfl (tk 73 rfl tn))))) ?_ rfl ((by simp)) (fun s hJ Y _=>?_);refine zA rfl (zA rfl tn);obtain⟨i,v⟩:=s;dsimp only at hJ ⊢;repeat refine u ?_
 refine tp (fun c5=>?_) fun c5=>?_;iterate 7 refine u ?_
 refine u fun b8=>?_;refine u ?_;refine zR (zU (s:=8) 0 rfl rfl) ?_;refine u ?_;refine zL 10 mixed rfl rfl ?_;repeat refine u ?_
 refine tap 0 rfl rfl rfl (by(simp;omega)) rfl fun r88=>?_;repeat refine u ?_
 rotate_left;repeat refine u ?_
 refine zR (yK (s:=90) 0 rfl rfl) (zB rfl rfl (zP2 (n:=N) (by omega) (by(simp;omega))) ?_);repeat refine u ?_
 refine e ?_;rotate_left
 ·refine⟨(i+1,r88),tes ?_ ?_ ?_,(by omega),(by omega)⟩;refine zA rfl (zA rfl tn);refine zA rfl (zA rfl (zA rfl (zA rfl (zA rfl tn))));rw[(zP (Df.d:Rat) (l:=T) (s:=i) (by omega)).1,zaq,zaq];exact zaa _
 ·rw[zaw (by omega)];exact PSub.refl _
theorem ksclosed2 {m:Mdl}{N K a r:Nat}{p:P2}(hN:N≤20000)(ha:a≤1000000000000)(hr:r≤1000000000000)(hx:m.xs.length≤1000000)(hw:∀ i,(m.wl.getD i Df.d).length≤1000000)(hv:∀ i,(m.lv.getD i Df.d).length≤1000000):CTy prog 58 [ag (mdT N m),ag (st [xc (.int .i8 2),xc (.int .i64 ((a:Nat):Int)),xc (.int .i64 ((r:Nat):Int)),ptc K p])] (sv (sl 6 ((clsM m 2 a r).map (ptc (N+1))))):=by
 have hwa:=hw a;have hva:=hv a;refine fw [.tmp 4] func58 fun X=>?_;repeat refine u ?_
 refine tp (fun c0=>(by omega)) fun c0=>?_;repeat refine u ?_
 refine tp (fun c1=>(by omega)) fun c1=>?_;repeat refine u ?_
 refine tp (fun c2=>(by omega)) fun c2=>?_;repeat refine u ?_
 refine tp (fun c3=>(by omega)) fun c3=>?_;repeat refine u ?_
 refine tp (fun c4=>?_) fun c4=>(by omega);repeat refine u ?_
 refine tp (fun c5=>?_) fun c5=>(by omega);iterate 2 refine u ?_
 refine zL 25 mixed rfl rfl ?_;repeat refine u ?_
 refine d1g rfl rfl (ofa rfl rfl) ?_;repeat refine u ?_
 refine d1g rfl rfl (ofa rfl rfl) ?_;repeat refine u ?_
 refine d1g rfl rfl (ofa rfl rfl) ?_;repeat refine u ?_
 refine d1g rfl rfl (omv rfl) ?_;repeat refine u ?_
 refine tp (fun c6=>?_) fun c6=>?_;repeat refine u ?_
 refine e ?_;rotate_left;iterate 2 refine u ?_
 apply yO 2 16 15 [(13,9,0),(14,10,1),(15,1000015,0)] rfl rfl mixed rfl rfl rfl;repeat refine u ?_
 refine cx1 (ofa rfl rfl) rfl ?_;repeat refine u ?_
 refine cx1 (ofa rfl rfl) rfl ?_;repeat refine u ?_
 refine cx1 (ofa rfl rfl) rfl ?_;repeat refine u ?_
 refine cx1 (ofa rfl rfl) rfl ?_;repeat refine u ?_
 refine cN rfl rfl (cal) (cN rfl rfl (cal) (cS rfl rfl rfl (cst rfl rfl rfl) ?_));refine cE (fun b9 b10=>?_);refine fm ?_;refine u ?_;refine zR (zU (s:=9) 1 rfl rfl) ?_;refine zH 0 rfl rfl (zR (zU (s:=10) 0 rfl rfl) ?_);iterate 2 refine u ?_
 apply yO 2 25 24 [(22,11,0),(23,12,1),(24,1000024,0)] rfl rfl mixed rfl rfl rfl;repeat refine u ?_
 refine cx1 (ofa rfl rfl) rfl ?_;repeat refine u ?_
 refine cx1 (ofa rfl rfl) rfl ?_;repeat refine u ?_
 refine cx1 (ofa rfl rfl) rfl ?_;repeat refine u ?_
 refine cx1 (ofa rfl rfl) rfl ?_;repeat refine u ?_
 refine cx1 (ofa rfl rfl) rfl ?_;repeat refine u ?_
 refine cx1 (ofa rfl rfl) rfl ?_;repeat refine u ?_
 refine cx1 (omv rfl) rfl ?_;repeat refine u ?_
 refine cN rfl rfl (cal) (cN rfl rfl (cal) (cS rfl rfl rfl (cst rfl rfl rfl) ?_));refine cE (fun b11 b12=>?_);refine fm ?_;refine u ?_;refine zR (zU (s:=11) 1 rfl rfl) ?_;refine zH 0 rfl rfl (zR (zU (s:=12) 0 rfl rfl) ?_);iterate 19 refine u ?_
 refine zA1 (yT (obs rfl rfl rfl rfl rfl rfl) (show PSub _ (sv (sl 6 ([(m.xs.getD a Df.d,((m.lv.getD a Df.d).getD r Df.d).1),(m.xs.getD (a+1) Df.d,((m.lv.getD a Df.d).getD r Df.d).2),(m.xs.getD (a+1) Df.d,((m.lv.getD a Df.d).getD (r+0) Df.d).2),(m.xs.getD a Df.d,((m.lv.getD a Df.d).getD (r+0) Df.d).1)].map (ptc N)))) from PSub.refl _)) ?_;repeat refine u ?_
 refine zA1 (omv rfl) ?_;refine u ?_;refine zA1 (yT (oad rfl rfl (by omega)) (ps_i (show _=((2:Nat):Int) from rfl))) ?_;repeat refine u ?_
 refine zB rfl rfl (zP2 (n:=N) (by omega) (by(simp;done))) ?_;repeat refine u ?_
 refine e ?_;rotate_left
 ·unfold clsM;rw[if_neg (by omega),if_neg fun c=>by omega];exact aB
 ·unfold clsM;rw[if_neg (by omega),if_pos ⟨by omega,by omega,by omega⟩];exact PSub.refl _
theorem ksclosed3 {m:Mdl}{N K a r:Nat}{p:P2}(hN:N≤20000)(ha:a≤1000000000000)(hr:r≤1000000000000)(hx:m.xs.length≤1000000)(hw:∀ i,(m.wl.getD i Df.d).length≤1000000)(hv:∀ i,(m.lv.getD i Df.d).length≤1000000):CTy prog 58 [ag (mdT N m),ag (st [xc (.int .i8 3),xc (.int .i64 ((a:Nat):Int)),xc (.int .i64 ((r:Nat):Int)),ptc K p])] (sv (sl 6 ((clsM m 3 a r).map (ptc (N+1))))):=by
 have hwa:=hw a;have hva:=hv a;refine fw [.tmp 4] func58 fun X=>?_;repeat refine u ?_
 refine tp (fun c0=>?_) fun c0=>(by omega);repeat refine u ?_
 refine tp (fun c1=>(by omega)) fun c1=>?_;repeat refine u ?_
 refine tp (fun c2=>(by omega)) fun c2=>?_;repeat refine u ?_
 refine tp (fun c3=>(by omega)) fun c3=>?_;repeat refine u ?_
 refine tp (fun c4=>(by omega)) fun c4=>?_;repeat refine u ?_
 refine tp (fun c5=>?_) fun c5=>(by omega);iterate 2 refine u ?_
 refine zL 25 mixed rfl rfl ?_;repeat refine u ?_
 refine d1 (ofa rfl rfl) ?_;repeat refine u ?_
 refine d1g rfl rfl (ofa rfl rfl) ?_;repeat refine u ?_
 refine d1g rfl rfl (ofa rfl rfl) ?_;repeat refine u ?_
 refine d1g rfl rfl (ofa rfl rfl) ?_;repeat refine u ?_
 refine d1g rfl rfl (omv rfl) ?_;repeat refine u ?_
 refine tp (fun c6=>?_) fun c6=>?_;repeat refine u ?_
 refine e ?_;rotate_left;iterate 2 refine u ?_
 apply yO 2 16 15 [(13,9,0),(14,10,1),(15,1000015,0)] rfl rfl mixed rfl rfl rfl;repeat refine u ?_
 refine cx1 (ofa rfl rfl) rfl ?_;repeat refine u ?_
 refine cx1 (ofa rfl rfl) rfl ?_;repeat refine u ?_
 refine cx1 (ofa rfl rfl) rfl ?_;repeat refine u ?_
 refine cx1 (ofa rfl rfl) rfl ?_;repeat refine u ?_
 refine cN rfl rfl (cal) (cN rfl rfl (cal) (cS rfl rfl rfl (cst rfl rfl rfl) ?_));refine cE (fun b9 b10=>?_);refine fm ?_;refine u ?_;refine zR (zU (s:=9) 1 rfl rfl) ?_;refine zH 0 rfl rfl (zR (zU (s:=10) 0 rfl rfl) ?_);iterate 2 refine u ?_
 apply yO 2 25 24 [(22,11,0),(23,12,1),(24,1000024,0)] rfl rfl mixed rfl rfl rfl;repeat refine u ?_
 refine cx1 (ofa rfl rfl) rfl ?_;repeat refine u ?_
 refine cx1 (ofa rfl rfl) rfl ?_;repeat refine u ?_
 refine cx1 (ofa rfl rfl) rfl ?_;repeat refine u ?_
 refine cx1 (ofa rfl rfl) rfl ?_;repeat refine u ?_
 refine cx1 (ofa rfl rfl) rfl ?_;repeat refine u ?_
 refine cx1 (ofa rfl rfl) rfl ?_;repeat refine u ?_
 refine cx1 (omv rfl) rfl ?_;repeat refine u ?_
 refine cN rfl rfl (cal) (cN rfl rfl (cal) (cS rfl rfl rfl (cst rfl rfl rfl) ?_));refine cE (fun b11 b12=>?_);refine fm ?_;refine u ?_;refine zR (zU (s:=11) 1 rfl rfl) ?_;refine zH 0 rfl rfl (zR (zU (s:=12) 0 rfl rfl) ?_);iterate 19 refine u ?_
 refine zA1 (yT (obs rfl rfl rfl rfl rfl rfl) (show PSub _ (sv (sl 6 ([(m.xs.getD a Df.d,((m.lv.getD a Df.d).getD r Df.d).1),(m.xs.getD (a+1) Df.d,((m.lv.getD a Df.d).getD r Df.d).2),(m.xs.getD (a+1) Df.d,((m.lv.getD a Df.d).getD (r+1) Df.d).2),(m.xs.getD a Df.d,((m.lv.getD a Df.d).getD (r+1) Df.d).1)].map (ptc N)))) from PSub.refl _)) ?_;repeat refine u ?_
 refine zA1 (omv rfl) ?_;refine u ?_;refine zA1 (yT (oad rfl rfl (by omega)) (ps_i (show _=((4:Nat):Int) from rfl))) ?_;repeat refine u ?_
 refine zB rfl rfl (zP2 (n:=N) (by omega) (by(simp;done))) ?_;repeat refine u ?_
 refine e ?_;rotate_left
 ·unfold clsM;rw[if_neg (by omega),if_neg fun c=>by omega];exact aB
 ·unfold clsM;rw[if_neg (by omega),if_pos ⟨by omega,by omega,by omega⟩];exact PSub.refl _
def hasB (s:Bool)(k:Nat):List P2→P2→Bool
 | [a],p=>decide (a=p)
 | [a,b],p=>if k=1 then decide (a.1=p.1)&&inB s a.2 p.2 b.2 else inB s a.1 p.1 b.1&&decide (zM a b p.1=p.2)
 | [a,b,c,d],p=>inB s a.1 p.1 b.1&&inB s (zM a b p.1) p.2 (zM d c p.1)
 | _,_=>false
theorem tU {a b:P2}{p:P2}{n m:Nat}(hn:n≤400)(hm:m≤400):CTy prog 207 [ag (ptc n a),ag (ptc n b),pa (ptc m p)] (ag (rtc (20*(n+n+m)+100) (zM a b p.1))):=by
 refine fw [.cell 5 29] func207 fun X=>?_;iterate 4 refine u ?_
 refine u fun b5=>?_;repeat refine u ?_
 refine zB rfl rfl (kmheight (by omega) (by omega) (by omega)) ?_;iterate 3 refine u ?_
 refine u fun b6=>?_;refine u ?_;refine zR (zU (s:=6) 0 rfl rfl) ?_;repeat refine u ?_
 refine zH 0 rfl rfl ?_;repeat refine u ?_
 refine⟨[_],zN 0 rfl rs0,yJ ?_⟩;rw[Nat.max_self];exact PSub.refl _
theorem mdT_cl {m:Mdl}{N K:Nat}{c:CL}(hN:N≤20000)(hk:c.1<4)(ha:c.2.1≤1000000000000)(hr:c.2.2.1≤1000000000000)(hx:m.xs.length≤1000000)(hw:∀ i,(m.wl.getD i Df.d).length≤1000000)(hv:∀ i,(m.lv.getD i Df.d).length≤1000000):CTy prog 58 [ag (mdT N m),ag (celT K c)] (sv (sl 6 ((clsM m c.1 c.2.1 c.2.2.1).map (ptc (N+1))))):=by
 obtain⟨k,a,r,p⟩:=c;dsimp only at hk ha hr ⊢;have h4:k=0∨k=1∨k=2∨k=3:=by omega
 rcases h4 with rfl | rfl | rfl | rfl
 ·exact ksclosed0 hN ha hr hx hw hv
 ·exact ksclosed1 hN ha hr hx hw hv
 ·exact ksclosed2 hN ha hr hx hw hv
 ·exact ksclosed3 hN ha hr hx hw hv
theorem zJ5 (m:Mdl)(k a r:Nat):clsM m k a r=[]∨(∃ x,clsM m k a r=[x])∨(∃ x y,clsM m k a r=[x,y]) ∨ ∃ x y z u,clsM m k a r=[x,y,z,u]:=by
 unfold clsM;split
 ·split
  ·split
   ·exact .inr (.inr (.inl ⟨_,_,rfl⟩))
   ·exact .inr (.inl ⟨_,rfl⟩)
  ·exact .inl rfl
 ·split
  ·split
   ·exact .inr (.inr (.inr ⟨_,_,_,_,rfl⟩))
   ·exact .inr (.inr (.inl ⟨_,_,rfl⟩))
  ·exact .inl rfl
theorem kshas {m:Mdl}{N K n:Nat}{c:CL}{p:P2}{s:Bool}(hN:N≤300)(hn:n≤300)(hk:c.1<4)(ha:c.2.1≤1000000000000)(hr:c.2.2.1≤1000000000000)(hx:m.xs.length≤1000000)(hw:∀ i,(m.wl.getD i Df.d).length≤1000000)(hv:∀ i,(m.lv.getD i Df.d).length≤1000000):CTy prog 125 [ag (mdT N m),ag (celT K c),ag (ptc n p),fn 208 [pa (xc (.int .i64 (eU s)))]] (exP (.bool (hasB s c.1 (clsM m c.1 c.2.1 c.2.2.1) p))):=by
 have hc:=mdT_cl (K:=K) (c:=c) (N:=N) (m:=m) (by omega) hk ha hr hx hw hv;rcases zJ5 m c.1 c.2.1 c.2.2.1 with e | ⟨x,e⟩ | ⟨x,y,e⟩ | ⟨x,y,z,u,e⟩
 ·rw[e] at hc ⊢;refine fw [.tmp 8] func125 fun X=>?_;repeat refine u ?_
  refine zB rfl rfl hc ?_;repeat refine u ?_
  refine xW rfl rfl ?_;repeat refine u ?_
  refine xW rfl rfl ?_;repeat refine u ?_
  refine xW rfl rfl ?_;repeat refine u ?_
  refine⟨[_],rst rfl rs0,yJ (PSub.refl _)⟩
 ·rw[e] at hc ⊢;refine fw [.tmp 8] func125 fun X=>?_;repeat refine u ?_
  refine zB rfl rfl hc ?_;repeat refine u ?_
  refine qC rfl rfl (zL 6 mixed rfl rfl ?_);repeat refine u ?_
  refine zC rfl rfl (kvsame (by omega) (by omega)) ?_;repeat refine u ?_
  refine⟨[_],rst rfl rs0,yJ ?_⟩;refine psb ?_;show decide (cmpP x p=0)=decide (x=p);exact decide_eq_decide.2 (uU.zero _ _)
 ·rw[e] at hc ⊢;refine fw [.tmp 8] func125 fun X=>?_;repeat refine u ?_
  refine zB rfl rfl hc ?_;repeat refine u ?_
  refine xW rfl rfl ?_;repeat refine u ?_
  refine qC rfl rfl ?_;repeat refine u ?_
  refine tp (fun c2=>?_) fun c2=>?_;refine u ?_;refine zL 22 mixed rfl rfl ?_;repeat refine u ?_
  refine zC rfl rfl (yV5 (by omega) (by omega)) ?_;repeat refine u ?_
  refine d1g rfl rfl (oca rfl rfl fun g=>yK6 (by omega) (by omega) (by omega)) ?_;repeat refine u ?_
  refine⟨[_],rst rfl rs0,yJ ?_⟩;refine psb ?_;rotate_left;refine u ?_;refine zL 26 mixed rfl rfl ?_;repeat refine u ?_
  refine zC rfl rfl (yK6 (by omega) (by omega) (by omega)) ?_;repeat refine u ?_
  refine d1g rfl rfl (oca rfl rfl fun g=>tU (by omega) (by omega)) ?_;refine d1g rfl rfl (ofa rfl rfl) ?_;repeat refine u ?_
  refine d1g rfl rfl (oca rfl rfl fun g=>yV5 (by omega) (by omega)) ?_;repeat refine u ?_
  refine⟨[_],rst rfl rs0,yJ ?_⟩;refine psb ?_;rotate_left
  ·show _=if c.1=1 then _ else _;rw[if_pos (by omega)];rfl
  ·show _=if c.1=1 then _ else _;rw[if_neg (by omega)];rfl
 ·rw[e] at hc ⊢;refine fw [.tmp 8] func125 fun X=>?_;refine zY ?_;refine yH rfl ?_;refine zA1 (obx rfl) ?_;refine zA1 (obx rfl) ?_;refine zA1 (obx rfl) ?_;refine zA1 (oas rfl) ?_;refine zA0 ?_;refine yG4 ?_;refine zY ?_;refine yH rfl ?_;refine zA1 (old rfl rfl) ?_;refine zA1 (old rfl rfl) (zB rfl rfl hc ?_);refine zA1 (oas rfl) ?_;refine zA0 ?_;refine zY ?_;refine yH rfl ?_;refine zA1 (omf rfl) ?_;refine zA1 (oas rfl) ?_;refine zA0 ?_;refine zY ?_;refine yG5 ?_;refine zY ?_;refine zY ?_;refine yH rfl ?_;refine zA1 (omv rfl) ?_;refine zA1 (oln rfl) ?_;refine zA0 ?_;refine bG ?_;refine zY ?_;refine yH rfl ?_;refine zA1 (oeq rfl rfl) ?_;refine zA1 (oas rfl) ?_;refine zA0 (xW rfl rfl ?_);refine zY ?_;refine yH rfl ?_;refine zA1 (oeq rfl rfl) ?_;refine zA1 (oas rfl) ?_;refine zA0 (xW rfl rfl ?_);refine zY ?_;refine yH rfl ?_;refine zA1 (oeq rfl rfl) ?_;refine zA1 (oas rfl) ?_;refine zA0 (qC rfl rfl (zL 35 mixed rfl rfl ?_));refine d1 (omv rfl) ?_;refine d1 (omv rfl) ?_;refine d1 (oix _ rfl rfl rfl (fun _=>rfl) (fun _=>(by(simp;done)))) ?_;refine d1 (ofa rfl rfl) ?_;refine d1 (old rfl rfl) ?_;refine d1 (ofa rfl rfl) ?_;refine d1 (old rfl rfl) ?_;refine d1 (omv rfl) ?_;refine d1 (oix _ rfl rfl rfl (fun _=>rfl) (fun _=>(by(simp;done)))) ?_;refine d1 (ofa rfl rfl) ?_;refine d1 (old rfl rfl) (zC rfl rfl (yK6 (by omega) (by omega) (by omega)) ?_);refine d1 (omv rfl) ?_;refine d1g rfl rfl (omv rfl) ?_;refine d1g rfl rfl (omv rfl) ?_;refine d1g rfl rfl (omv rfl) ?_;refine d1g rfl rfl (oix _ rfl rfl rfl (fun g=>rfl) (fun g=>(by(simp;done)))) ?_;refine d1g rfl rfl (old rfl rfl) ?_;refine d1g rfl rfl (omv rfl) ?_;refine d1g rfl rfl (oix _ rfl rfl rfl (fun g=>rfl) (fun g=>(by(simp;done)))) ?_;refine d1g rfl rfl (old rfl rfl) (d1g rfl rfl (oca rfl rfl fun g=>tU (by omega) (by omega)) ?_);refine d1g rfl rfl (ofa rfl rfl) ?_;refine d1g rfl rfl (old rfl rfl) ?_;refine d1g rfl rfl (omv rfl) ?_;refine d1g rfl rfl (omv rfl) ?_;refine d1g rfl rfl (oix _ rfl rfl rfl (fun g=>rfl) (fun g=>(by(simp;done)))) ?_;refine d1g rfl rfl (old rfl rfl) ?_;refine d1g rfl rfl (omv rfl) ?_;refine d1g rfl rfl (oix _ rfl rfl rfl (fun g=>rfl) (fun g=>(by(simp;done)))) ?_;refine d1g rfl rfl (old rfl rfl) (d1g rfl rfl (oca rfl rfl fun g=>tU (by omega) (by omega)) ?_);refine d1g rfl rfl (oca rfl rfl fun g=>yK6 (by omega) (by omega) (by omega)) ?_;refine d1 (opk rfl rfl rfl) ?_;refine d1 (oas rfl) ?_;refine d0 ?_;refine zA0 ?_;refine zY ?_;refine yH rfl ?_;refine zA1 (omv rfl) ?_;refine zA1 (oas rfl) ?_;refine zA0 ?_;refine kO (⟨[_],rst rfl rs0,yJ (PSub.refl _)⟩)
theorem kstouch {m:Mdl}{N K n:Nat}{c:CL}{p:P2}(hN:N≤300)(hn:n≤300)(hk:c.1<4)(ha:c.2.1≤1000000000000)(hr:c.2.2.1≤1000000000000)(hx:m.xs.length≤1000000)(hw:∀ i,(m.wl.getD i Df.d).length≤1000000)(hv:∀ i,(m.lv.getD i Df.d).length≤1000000):CTy prog 54 [ag (mdT N m),ag (celT K c),ag (ptc n p)] (exP (.bool (hasB false c.1 (clsM m c.1 c.2.1 c.2.2.1) p))):=by
 refine fw [.tmp 6] func54 fun X=>?_;iterate 8 refine u ?_
 refine zL 6 mixed rfl rfl ?_;repeat refine u ?_
 refine zC rfl rfl kswithin ?_;refine zC rfl rfl (kshas (by omega) (by omega) hk ha hr hx hw hv) ?_;repeat refine u ?_
 exact e
theorem sE:zQ []=(((-1:Rat),(-1:Rat)),((1:Rat),(1:Rat))):=by decide +kernel
theorem yE8 {raw:List Rat}(h:∀ x,x∈raw↔x = -1∨x=1):setOf cmpR raw=[-1,1]:=by
 refine(IsSet.eq jQ ⟨?_,fun x=>?_⟩).symm
 ·exact zaz.2 ⟨fun b hb=>by rw[zan.1 hb];decide +kernel,List.pairwise_singleton _ _⟩
 ·rw[h];simp
theorem sC:xsM []=[-1,1]:=by
 unfold xsM cutsOf;refine yE8 fun x=>?_;rw[sE];unfold rawC nO meetX;rw[show yP ([]:zD)=[] from rfl];simp
theorem zS1:lvM [] 0=[(-1,-1),(1,1)]:=by
 unfold lvM;rw[sC,sE];refine(mV ?_).symm;rw[if_pos (by decide +kernel)];refine⟨zaz.2 ⟨fun b hb=>by rw[zan.1 hb];decide +kernel,List.pairwise_singleton _ _⟩,fun x=>?_⟩;unfold xD;simp[jP]
theorem vV {i:Nat}(h:i<2):wlM [] i=[-1,1]:=by
 unfold wlM;refine yE8 fun x=>?_;rw[lK,sE,sC];have:i=0∨i=1:=by omega
 rcases this with rfl | rfl
 ·rw[zS1];simp;grind
 ·rw[show 1-1=0 by omega,zS1];simp;grind
end Go.Proofs.YtalkinejknjidaaGreatDoor
