/- Lemmas and walks of functions; no statement. -/
import Derived.Test.YtflobagimodmgaaGreatDoorPe
set_option linter.unusedVariables false
set_option linter.unusedSimpArgs false
set_option maxRecDepth 100000
namespace Go.SL
theorem nodup_rev {α : Type} {l : List α} : l.reverse.Nodup ↔ l.Nodup:=by
 unfold List.Nodup; rw [List.pairwise_reverse]
 exact ⟨fun h => h.imp Ne.symm,fun h => h.imp Ne.symm⟩
theorem tO {q : P2} : ∀ (X : List P2) (m : P2) (Y : List P2),kZ q (X ++ [m]) → kZ q (m :: Y) → kZ q (X ++ m :: Y)
 | [],_,_,_,h => h
 | [_],_,_,h,k => ⟨h.1,k⟩
 | _ :: y :: X,m,Y,h,k => ⟨h.1,tO (y :: X) m Y h.2 k⟩
theorem bA {q : P2} : ∀ (X Y : List P2),kZ q (X ++ Y) → kZ q Y
 | [],_,h => h
 | [x],[],_ => trivial
 | [x],y :: Y,h => h.2
 | x :: y :: X,Y,h => bA (y :: X) Y h.2
theorem iX : ∀ (X Y : List P2),qK (X ++ Y) → qK Y
 | [],_,h => h
 | [x],[],_ => trivial
 | [x],[_],_ => trivial
 | [x],_ :: _ :: _,h => h.2
 | [x,y],[],_ => trivial
 | [x,y],_ :: Y,h => iX [y] _ h.2
 | x :: y :: z :: X,Y,h => iX (y :: z :: X) Y h.2
theorem oK : ∀ (X : List P2) (b m a : P2) (Y : List P2),qK (X ++ [b,m]) → qK (m :: a :: Y) → 0 < trn a m b → qK (X ++ b :: m :: a :: Y)
 | [],_,_,_,_,_,h,k => ⟨k,h⟩
 | [x],b,m,a,Y,g,h,k => ⟨g.1,k,h⟩
 | [x,y],b,m,a,Y,g,h,k => ⟨g.1,g.2.1,k,h⟩
 | x :: y :: z :: X,b,m,a,Y,g,h,k => ⟨g.1,oK (y :: z :: X) b m a Y g.2 h k⟩
theorem zL4 {q : P2} : ∀ (C : List P2) (j : Nat),kZ q C → j + 1 < C.length → 0 ≤ trn (gp C (j + 1)) (gp C j) q
 | [],_,_,h => by simp at h
 | [_],_,_,h => by simp at h
 | _ :: _ :: _,0,h,_ => h.1
 | t :: s :: r,j + 1,h,hj => zL4 (s :: r) j h.2 (by simp only [List.length_cons] at hj ⊢; omega)
theorem wX : ∀ (C : List P2) (j : Nat),qK C → j + 2 < C.length → 0 < trn (gp C (j + 2)) (gp C (j + 1)) (gp C j)
 | [],_,_,h => by simp at h
 | [_],_,_,h => by simp at h
 | [_,_],_,_,h => by simp only [List.length_cons,List.length_nil] at h; omega
 | _ :: _ :: _ :: _,0,h,_ => h.1
 | u :: t :: s :: r,j + 1,h,hj => wX (t :: s :: r) j h.2 (by simp only [List.length_cons] at hj ⊢; omega)
theorem deg {l : List P2} {a m b : P2} (hm : ∀ q ∈ l,leP q m) (ha : ltP a m) (hb : ltP b m) (h0 : trn a m b = 0) (h1 : ∀ q ∈ l,0 ≤ trn a m q) (h2 : ∀ q ∈ l,0 ≤ trn m b q) :
  ∀ x ∈ l,∀ y ∈ l,∀ z ∈ l,trn x y z = 0:=by
 have k0 : 0 ≤ zQ (subP m a) (subP m b):=by unfold trn zQ subP at *; simp only at *; grind
 have kz : ∀ q ∈ l,zQ (subP m a) (subP m q) = 0:=fun q hq => by
  have a1:=h1 q hq; have a2:=h2 q hq
  have:=oL (lexP.le ha) hb (fS.1 (hm q hq)) k0 (by unfold trn zQ subP at *; simp only at *; grind)
  unfold trn zQ subP at *; simp only at *; grind
 have kk : ∀ x ∈ l,∀ y ∈ l,0 ≤ zQ (subP m x) (subP m y):=fun x hx y hy => oL (fS.1 (hm x hx)) ha (fS.1 (hm y hy)) (by have:=kz x hx; unfold zQ subP at *; simp only at *; grind) (by rw [kz y hy]; exact Rat.le_refl)
 intro x hx y hy z hz
 have b1:=kk x hx y hy; have b2:=kk y hy x hx; have b3:=kk y hy z hz; have b4:=kk z hz y hy; have b5:=kk x hx z hz; have b6:=kk z hz x hx
 unfold trn zQ subP at *; simp only at *; grind
theorem apart3 {l : List P2} {a b c a' b' : P2} (hb' : b' ∈ l) (hb : b ∈ l) (h1 : ltP a c) (h2 : ltP c b) (h3 : 0 < trn a c b) (h4 : ∀ q ∈ l,0 ≤ trn a c q) (g1 : ltP b' c) (g2 : ∀ q ∈ l,0 ≤ trn c b' q) : False:=by
 have k1:=h4 b' hb'
 have k2:=g2 b hb
 have:=tr_gp (a:=subP c b') (b:=subP c a) (c:=subP b c) g1 h1 (lexP.le h2) (by unfold trn zQ subP at *; simp only at *; grind) (by unfold trn zQ subP at *; simp only at *; grind)
 unfold trn zQ subP at *; simp only at *; grind
theorem eZ {α : Type} {l : List α} (h : l ≠ []) : ∃ r x,l = r ++ [x]:=⟨_,_,(List.dropLast_concat_getLast h).symm⟩
def uH (l : List P2) : List P2:=if l.length < 3 then l else (xW [] l).reverse.dropLast ++ (xW [] l.reverse).reverse.dropLast
theorem two_sup {a b q : P2} (hab : ltP a b) (h0 : trn a b q = 0) (h1 : leP a q) (h2 : leP q b) : Sup [a,b] q:=fun u v => by
 obtain ⟨t,e1,e2⟩:=aZ h0 hab.ne
 have ht0 : 0 ≤ t:=by
  refine Classical.byContradiction fun c => ?_
  have c : 0 < -t:=by grind
  unfold ltP lexP subP leP at *; simp only at *
  rcases hab with hab | ⟨hab,hb2⟩
  ·have:=Rat.mul_pos c hab; grind
  ·have:=Rat.mul_pos c hb2; grind
 have ht1 : 0 ≤ 1 - t:=by
  refine Classical.byContradiction fun c => ?_
  have c : 0 < t - 1:=by grind
  unfold ltP lexP subP leP at *; simp only at *
  rcases hab with hab | ⟨hab,hb2⟩
  ·have:=Rat.mul_pos c hab; grind
  ·have:=Rat.mul_pos c hb2; grind
 by_cases c : u * a.1 + v * a.2 ≤ u * b.1 + v * b.2
 ·refine ⟨b,by simp,?_⟩
  rw [e1,e2]
  have:=Rat.mul_nonneg ht1 (show 0 ≤ (u * b.1 + v * b.2) - (u * a.1 + v * a.2) by grind)
  grind
 ·refine ⟨a,by simp,?_⟩
  rw [e1,e2]
  have:=Rat.mul_nonneg ht0 (show 0 ≤ (u * a.1 + v * a.2) - (u * b.1 + v * b.2) by grind)
  grind
theorem lL {l : List P2} (h2 : 2 ≤ l.length) (hs : l.Pairwise ltP) : ∃ mn mx A B,ChOk l (mx :: (A ++ [mn])) ∧ ChOk' l (mn :: (B ++ [mx])) ∧ uH l = mn :: (A.reverse ++ mx :: B.reverse) ∧ mn ∈ l ∧ mx ∈ l ∧ ltP mn mx ∧ (∀ q ∈ l,leP q mx) ∧ (∀ q ∈ l,leP mn q) ∧ xW [] l = mx :: (A ++ [mn]) ∧ xW [] l.reverse = mn :: (B ++ [mx]):=by
 have hne : l ≠ []:=fun e => by rw [e] at h2; simp at h2
 have hS : uH l = (xW [] l).reverse.dropLast ++ (xW [] l.reverse).reverse.dropLast:=by
  unfold uH; split
  ·match l,h2 with
   | [p,q],_ => simp [xW,gQ]
   | _ :: _ :: _ :: _,_ => rename_i h; simp at h; omega
  ·rfl
 have cl:=zZ1 hne hs
 have ch:=ch_ok' hne hs
 generalize eL : xW [] l = L at *
 generalize eH : xW [] l.reverse = H at *
 obtain ⟨mx,L1,rfl⟩:=List.exists_cons_of_ne_nil cl.ne
 obtain ⟨mn,H1,rfl⟩:=List.exists_cons_of_ne_nil ch.ne
 have hmx : ∀ q ∈ l,leP q mx:=fun q hq => cl.top q hq mx rfl
 have hmn : ∀ q ∈ l,leP mn q:=fun q hq => ch.top q hq mn rfl
 have mxl:=cl.sub mx (by simp)
 have mnl:=ch.sub mn (by simp)
 have hlt : ltP mn mx:=by
  refine tL (hmx mn mnl) fun e => ?_
  match l,hs,h2,hmx,hmn with
  | p :: p2 :: r,hs,h3,hmx,hmn =>
   have h1:=(List.pairwise_cons.1 hs).1 p2 (by simp)
   have h4:=uG (eY (hmx p2 (by simp)) (e ▸ hmn p (by simp))) h1.le
   exact h1.ne h4.symm
  | [p],_,h3,_,_ => simp at h3
 have l1 : L1 ≠ []:=fun e => by
  subst e
  exact hlt.ne (uG hlt.le (cl.bot mn mnl mx rfl))
 have h1 : H1 ≠ []:=fun e => by
  subst e
  exact hlt.ne (uG hlt.le (ch.bot mx mxl mn rfl))
 obtain ⟨A,z,rfl⟩:=eZ l1
 obtain ⟨B,y,rfl⟩:=eZ h1
 have ez : z = mn:=uG (cl.bot mn mnl z (by rw [← List.cons_append,List.getLast?_concat])) (hmn z (cl.sub z (by simp)))
 have ey : y = mx:=uG (hmx y (ch.sub y (by simp))) (ch.bot mx mxl y (by rw [← List.cons_append,List.getLast?_concat]))
 subst ez ey
 exact ⟨_,_,A,B,cl,ch,by rw [hS,show (y :: (A ++ [z])).reverse = (z :: A.reverse) ++ [y] by simp,show (z :: (B ++ [y])).reverse = (y :: B.reverse) ++ [z] by simp,List.dropLast_concat,List.dropLast_concat]; rfl,mnl,mxl,hlt,hmx,hmn,rfl,rfl⟩
theorem hullS_ok {l : List P2} (hs : l.Pairwise ltP) : IsHull l (uH l):=by
 have hnd : l.Nodup:=hs.imp fun h => ltP.ne h
 by_cases h3 : l.length < 2
 ·have e : uH l = l:=by unfold uH; rw [if_pos (by omega)]
  rw [e]
  refine ⟨⟨fun c hc => ?_,hnd,fun h => by omega⟩,fun _ h => h,fun q hq => sM hq⟩
  match l,hs,hc with
  | p :: r,hs,hc =>
   rcases List.mem_cons.1 hc with rfl | hc
   ·exact iK _
   ·exact ((List.pairwise_cons.1 hs).1 c hc).le
 obtain ⟨mn,mx,A,B,cl,ch,eS,mnl,mxl,hlt,hmx,hmn,_⟩:=lL (by omega) hs
 rw [eS]
 have sub : ∀ c ∈ mn :: (A.reverse ++ mx :: B.reverse),c ∈ l:=fun c hc => by
  simp only [List.mem_cons,List.mem_append,List.mem_reverse] at hc
  rcases hc with rfl | hc | rfl | hc
  ·exact mnl
  ·exact cl.sub c (by simp [hc])
  ·exact mxl
  ·exact ch.sub c (by simp [hc])
 have dL:=cl.dec
 have dH:=ch.dec
 have nd : (mn :: (A.reverse ++ mx :: B.reverse)).Nodup:=by
  have n1 : (mx :: (A ++ [mn])).Nodup:=dL.imp fun h => (ltP.ne h).symm
  have n2 : (mn :: (B ++ [mx])).Nodup:=dH.imp fun h => ltP.ne h
  have n3 : ∀ c,c ∈ A → c ∈ B → False:=fun c hA hB => by
   obtain ⟨A1,A2,rfl⟩:=List.append_of_mem hA
   obtain ⟨B1,B2,rfl⟩:=List.append_of_mem hB
   obtain ⟨r1,b,e1⟩:=eZ (l:=mx :: A1) (by simp)
   obtain ⟨r2,b',e2⟩:=eZ (l:=mn :: B1) (by simp)
   obtain ⟨a,s1,e3⟩:=List.exists_cons_of_ne_nil (l:=A2 ++ [mn]) (by simp)
   obtain ⟨a',s2,e4⟩:=List.exists_cons_of_ne_nil (l:=B2 ++ [mx]) (by simp)
   have E1 : mx :: ((A1 ++ c :: A2) ++ [mn]) = r1 ++ b :: c :: a :: s1:=by
    rw [show mx :: ((A1 ++ c :: A2) ++ [mn]) = (mx :: A1) ++ c :: (A2 ++ [mn]) by simp,e1,e3]; simp
   have E2 : mn :: ((B1 ++ c :: B2) ++ [mx]) = r2 ++ b' :: c :: a' :: s2:=by
    rw [show mn :: ((B1 ++ c :: B2) ++ [mx]) = (mn :: B1) ++ c :: (B2 ++ [mx]) by simp,e2,e4]; simp
   rw [E1] at cl dL
   rw [E2] at ch dH
   have p1:=List.pairwise_cons.1 (List.pairwise_append.1 dL).2.1
   have p2:=List.pairwise_cons.1 (List.pairwise_append.1 dH).2.1
   exact apart3 (l:=l) (a:=a) (b:=b) (c:=c) (a':=a') (b':=b') (ch.sub b' (by simp)) (cl.sub b (by simp)) ((List.pairwise_cons.1 p1.2).1 a (by simp)) (p1.1 c (by simp)) (iX r1 _ cl.trs).1 (fun q hq => (bA r1 _ (cl.lef q hq)).2.1) (p2.1 c (by simp)) fun q hq => (bA r2 _ (ch.lef q hq)).1
  simp only [List.nodup_cons,List.mem_append,List.mem_cons,List.mem_reverse,List.nodup_append,nodup_rev,List.mem_singleton,List.not_mem_nil,not_false_eq_true,List.nodup_nil,true_and,and_true] at n1 n2 ⊢
  grind
 have fst : ∀ c ∈ mn :: (A.reverse ++ mx :: B.reverse),leP (gp (mn :: (A.reverse ++ mx :: B.reverse)) 0) c:=fun c hc => hmn c (sub c hc)
 by_cases hAB : A = [] ∧ B = []
 ·obtain ⟨rfl,rfl⟩:=hAB
  refine ⟨⟨fst,nd,fun h => absurd h (by simp)⟩,sub,fun q hq => two_sup hlt ?_ (hmn q hq) (hmx q hq)⟩
  have a1 : 0 ≤ trn mn mx q:=(cl.lef q hq).1
  have a2 : 0 ≤ trn mx mn q:=(ch.lef q hq).1
  unfold trn zQ subP at *; simp only at *; grind
 have hn3 : 3 ≤ (mn :: (A.reverse ++ mx :: B.reverse)).length:=by
  simp only [List.length_cons,List.length_append,List.length_reverse]
  rcases A with _ | ⟨a,A⟩
  ·rcases B with _ | ⟨b,B⟩
   ·exact absurd ⟨rfl,rfl⟩ hAB
   ·simp only [List.length_cons,List.length_nil]; omega
  ·simp only [List.length_cons]; omega
 obtain ⟨r1,b1,e1⟩:=eZ (l:=mx :: A) (by simp)
 obtain ⟨r2,b2,e2⟩:=eZ (l:=mn :: B) (by simp)
 obtain ⟨a1,s1,e3⟩:=List.exists_cons_of_ne_nil (l:=A ++ [mn]) (by simp)
 obtain ⟨a2,s2,e4⟩:=List.exists_cons_of_ne_nil (l:=B ++ [mx]) (by simp)
 have EL1 : mx :: (A ++ [mn]) = r1 ++ [b1,mn]:=by rw [← List.cons_append,e1]; simp
 have EL2 : mx :: (A ++ [mn]) = mx :: a1 :: s1:=by rw [e3]
 have EH1 : mn :: (B ++ [mx]) = r2 ++ [b2,mx]:=by rw [← List.cons_append,e2]; simp
 have EH2 : mn :: (B ++ [mx]) = mn :: a2 :: s2:=by rw [e4]
 have ndeg : ¬ ∀ x ∈ l,∀ y ∈ l,∀ z ∈ l,trn x y z = 0:=fun hd => by
  rcases A with _ | ⟨a,A⟩
  ·rcases B with _ | ⟨b,B⟩
   ·exact hAB ⟨rfl,rfl⟩
   ·obtain ⟨c,s,e⟩:=List.exists_cons_of_ne_nil (l:=B ++ [mx]) (by simp)
    have t:=ch.trs
    have s':=ch.sub
    rw [List.cons_append,e] at t s'
    have:=hd c (s' c (by simp)) b (s' b (by simp)) mn (s' mn (by simp))
    have:=t.1; grind
  ·obtain ⟨c,s,e⟩:=List.exists_cons_of_ne_nil (l:=A ++ [mn]) (by simp)
   have t:=cl.trs
   have s':=cl.sub
   rw [List.cons_append,e] at t s'
   have:=hd c (s' c (by simp)) a (s' a (by simp)) mx (s' mx (by simp))
   have:=t.1; grind
 have sb1:=cl.sub b1 (by rw [EL1]; simp)
 have sb2:=ch.sub b2 (by rw [EH1]; simp)
 have sa1:=cl.sub a1 (by rw [EL2]; simp)
 have sa2:=ch.sub a2 (by rw [EH2]; simp)
 have la1 : ltP a1 mx:=by rw [EL2] at dL; exact (List.pairwise_cons.1 dL).1 a1 (by simp)
 have lb1 : ltP mn b1:=by rw [EL1] at dL; exact (List.pairwise_cons.1 (List.pairwise_append.1 dL).2.1).1 mn (by simp)
 have la2 : ltP mn a2:=by rw [EH2] at dH; exact (List.pairwise_cons.1 dH).1 a2 (by simp)
 have lb2 : ltP b2 mx:=by rw [EH1] at dH; exact (List.pairwise_cons.1 (List.pairwise_append.1 dH).2.1).1 mx (by simp)
 have fa1 : ∀ q ∈ l,0 ≤ trn a1 mx q:=fun q hq => by have:=cl.lef q hq; rw [EL2] at this; exact this.1
 have fb1 : ∀ q ∈ l,0 ≤ trn mn b1 q:=fun q hq => by have:=cl.lef q hq; rw [EL1] at this; exact (bA r1 _ this).1
 have fa2 : ∀ q ∈ l,0 ≤ trn a2 mn q:=fun q hq => by have:=ch.lef q hq; rw [EH2] at this; exact this.1
 have fb2 : ∀ q ∈ l,0 ≤ trn mx b2 q:=fun q hq => by have:=ch.lef q hq; rw [EH1] at this; exact (bA r2 _ this).1
 have jmx : 0 < trn a1 mx b2:=by
  have:=fa1 b2 sb2
  refine Classical.byContradiction fun c => ndeg (deg hmx la1 lb2 (by grind) fa1 fb2)
 have jmn : 0 < trn a2 mn b1:=by
  have:=fa2 b1 sb1
  refine Classical.byContradiction fun c => ndeg ?_
  have hd:=deg (l:=l.map negP) (a:=negP a2) (m:=negP mn) (b:=negP b1) (fun q hq => by obtain ⟨x,hx,rfl⟩:=List.mem_map.1 hq; exact nV.2 (hmn x hx)) (nS.2 la2) (nS.2 lb1) (by rw [bK]; grind)
   (fun q hq => by obtain ⟨x,hx,rfl⟩:=List.mem_map.1 hq; rw [bK]; exact fa2 x hx) (fun q hq => by obtain ⟨x,hx,rfl⟩:=List.mem_map.1 hq; rw [bK]; exact fb1 x hx)
  intro x hx y hy z hz
  rw [← bK]
  exact hd _ (List.mem_map.2 ⟨x,hx,rfl⟩) _ (List.mem_map.2 ⟨y,hy,rfl⟩) _ (List.mem_map.2 ⟨z,hz,rfl⟩)
 -- the way round,backwards
 have lC : ∀ q ∈ l,kZ q (mn :: B ++ mx :: (A ++ [mn])):=fun q hq => tO (mn :: B) mx _ (by have:=ch.lef q hq; simpa using this) (cl.lef q hq)
 have tC : qK (mn :: B ++ mx :: (A ++ [mn])):=by
  have zA1:=ch.trs; have zA2:=cl.trs
  rw [EH1] at zA1; rw [EL2] at zA2
  rw [e2,e3,List.append_assoc]
  exact oK r2 b2 mx a1 s1 zA1 zA2 jmx
 have hC : (mn :: B ++ mx :: (A ++ [mn])).length = (mn :: (A.reverse ++ mx :: B.reverse)).length + 1:=by simp; omega
 have eC : mn :: (A.reverse ++ mx :: B.reverse) = (mn :: B ++ mx :: (A ++ [mn])).tail.reverse:=by simp
 have c1 : gp (mn :: B ++ mx :: (A ++ [mn])) 1 = a2:=by
  rw [show mn :: B ++ mx :: (A ++ [mn]) = (mn :: (B ++ [mx])) ++ (A ++ [mn]) by simp,EH2]; rfl
 have c2 : gp (mn :: B ++ mx :: (A ++ [mn])) 0 = mn:=rfl
 have c3 : gp (mn :: B ++ mx :: (A ++ [mn])) ((mn :: (A.reverse ++ mx :: B.reverse)).length - 1) = b1:=by
  rw [show mn :: B ++ mx :: (A ++ [mn]) = (mn :: B) ++ (mx :: (A ++ [mn])) by simp,EL1,← List.append_assoc,gp,List.getD_eq_getElem?_getD,List.getElem?_append_right (by have:=congrArg List.length EL1; simp at this ⊢; omega)]
  have : (mn :: (A.reverse ++ mx :: B.reverse)).length - 1 - (mn :: B ++ r1).length = 0:=by have:=congrArg List.length EL1; simp at this ⊢; omega
  rw [this]; rfl
 generalize mn :: B ++ mx :: (A ++ [mn]) = C at *
 generalize hh : mn :: (A.reverse ++ mx :: B.reverse) = h at *
 have c4 : gp h 0 = mn:=by rw [← hh]; rfl
 have g1 : ∀ i,i < h.length → gp h i = gp C (h.length - i):=fun i hi => by
  have ht : C.tail.length = h.length:=by rw [List.length_tail]; omega
  have : gp h i = gp C.tail (C.tail.length - 1 - i):=by
   conv => lhs; rw [eC]
   unfold gp
   rw [List.getD_eq_getElem?_getD,List.getD_eq_getElem?_getD,List.getElem?_reverse (by omega)]
  rw [this,ht]
  unfold gp
  rw [List.getD_eq_getElem?_getD,List.getD_eq_getElem?_getD,List.getElem?_tail,show h.length - 1 - i + 1 = h.length - i by omega]
 have g2 : ∀ i,i < h.length → nx h i = gp C (h.length - 1 - i):=fun i hi => by
  unfold nx
  rcases Nat.lt_or_ge (i + 1) h.length with c | c
  ·rw [Nat.mod_eq_of_lt c,g1 _ c,show h.length - (i + 1) = h.length - 1 - i by omega]
  ·rw [show i + 1 = h.length by omega,Nat.mod_self,c4,show h.length - 1 - i = 0 by omega,c2]
 have weak : ∀ i,i < h.length → ∀ q ∈ l,0 ≤ trn (gp h i) (nx h i) q:=fun i hi q hq => by
  have:=zL4 C (h.length - 1 - i) (lC q hq) (by omega)
  rw [show h.length - 1 - i + 1 = h.length - i by omega] at this
  rw [g1 i hi,g2 i hi]; exact this
 have turn : ∀ i,i < h.length → 0 < trn (gp h i) (nx h i) (nx h ((i + 1) % h.length)):=fun i hi => by
  rcases Nat.lt_or_ge (i + 1) h.length with c | c
  ·have:=wX C (h.length - 2 - i) tC (by omega)
   rw [Nat.mod_eq_of_lt c,g1 i hi,g2 i hi,g2 _ c,show h.length - 1 - (i + 1) = h.length - 2 - i by omega,show h.length - 1 - i = h.length - 2 - i + 1 by omega,show h.length - i = h.length - 2 - i + 2 by omega]
   exact this
  ·have e : i = h.length - 1:=by omega
   rw [show i + 1 = h.length by omega,Nat.mod_self,g1 i hi,g2 i hi,g2 0 (by omega),e,show h.length - (h.length - 1) = 1 by omega,show h.length - 1 - (h.length - 1) = 0 by omega,Nat.sub_zero,c1,c2,c3]
   exact jmn
 have po : Poly h:=⟨fst,nd,fun h3 => conv_of nd h3 (fun i k hi hk => weak i hi _ (sub _ (qA hk))) turn⟩
 exact ⟨po,sub,fun q hq => sup_of_left po hn3 fun i hi => weak i hi q hq⟩
def xN (d : P2) : Int:=if 0 < d.1 then 0 else if d.1 = 0 ∧ 0 < d.2 then 1 else if d.1 < 0 then 2 else 3
def gR (a b : P2) : Bool:=if xN a ≠ xN b then decide (xN a < xN b) else decide (0 < zQ a b)
def lexN (v : P2) : Prop:=v.1 < 0 ∨ v.1 = 0 ∧ v.2 < 0
theorem qt0 {d : P2} (h : 0 < d.1) : xN d = 0:=if_pos h
theorem qt1 {d : P2} (h : d.1 = 0) (k : 0 < d.2) : xN d = 1:=by unfold xN; rw [if_neg (by grind),if_pos ⟨h,k⟩]
theorem qt2 {d : P2} (h : d.1 < 0) : xN d = 2:=by unfold xN; rw [if_neg (by grind),if_neg (by grind),if_pos h]
theorem qt3 {d : P2} (h : d.1 = 0) (k : d.2 < 0) : xN d = 3:=by unfold xN; rw [if_neg (by grind),if_neg (by grind),if_neg (by grind)]
theorem dI {a b : P2} (h : xN a = xN b) : gR a b = true ↔ 0 < zQ a b:=by
 unfold gR; rw [if_neg (by simp [h]),decide_eq_true_eq]
theorem kM {a b : P2} (h : xN a ≠ xN b) : gR a b = true ↔ xN a < xN b:=by
 unfold gR; rw [if_pos h,decide_eq_true_eq]
theorem ahead_pp {a b : P2} (ha : lexP a) (hb : lexP b) : gR a b = true ↔ 0 < zQ a b:=by
 rcases ha with ha | ⟨ha,ha2⟩ <;> rcases hb with hb | ⟨hb,hb2⟩
 ·exact dI ((qt0 ha).trans (qt0 hb).symm)
 ·have h:=Rat.mul_pos ha hb2
  rw [kM (by rw [qt0 ha,qt1 hb hb2]; decide),qt0 ha,qt1 hb hb2]
  unfold zQ; rw [hb]; exact iff_of_true (by decide) (by grind)
 ·have h:=Rat.mul_pos ha2 hb
  rw [kM (by rw [qt1 ha ha2,qt0 hb]; decide),qt1 ha ha2,qt0 hb]
  unfold zQ; rw [ha]; exact iff_of_false (by decide) (by grind)
 ·exact dI ((qt1 ha ha2).trans (qt1 hb hb2).symm)
theorem vN {a b : P2} (ha : lexP a) (hb : lexN b) : gR a b = true ∧ gR b a = false:=by
 have h1 : xN a = 0 ∨ xN a = 1:=by rcases ha with ha | ⟨ha,ha2⟩; exact .inl (qt0 ha); exact .inr (qt1 ha ha2)
 have h2 : xN b = 2 ∨ xN b = 3:=by rcases hb with hb | ⟨hb,hb2⟩; exact .inl (qt2 hb); exact .inr (qt3 hb hb2)
 have h3 : xN b ≠ xN a:=by omega
 refine ⟨(kM h3.symm).2 (by omega),?_⟩
 rw [Bool.eq_false_iff]; exact fun c => by have:=(kM h3).1 c; omega
theorem ahead_nn {a b : P2} (ha : lexN a) (hb : lexN b) : gR a b = true ↔ 0 < zQ a b:=by
 have k : ∀ x y : Rat,x < 0 → y < 0 → 0 < x * y:=fun x y hx hy => by
  have h:=Rat.mul_pos (show 0 < -x by grind) (show 0 < -y by grind)
  rw [Rat.neg_mul,Rat.mul_neg,Rat.neg_neg] at h; exact h
 rcases ha with ha | ⟨ha,ha2⟩ <;> rcases hb with hb | ⟨hb,hb2⟩
 ·exact dI ((qt2 ha).trans (qt2 hb).symm)
 ·have h:=k _ _ ha hb2
  clear k
  rw [kM (by rw [qt2 ha,qt3 hb hb2]; decide),qt2 ha,qt3 hb hb2]
  unfold zQ; rw [hb]; exact iff_of_true (by decide) (by grind)
 ·have h:=k _ _ ha2 hb
  clear k
  rw [kM (by rw [qt3 ha ha2,qt2 hb]; decide),qt3 ha ha2,qt2 hb]
  unfold zQ; rw [ha]; exact iff_of_false (by decide) (by grind)
 ·exact dI ((qt3 ha ha2).trans (qt3 hb hb2).symm)
def mrg : List P2 → List P2 → List P2
 | [],q => q
 | a :: p,[] => a :: p
 | a :: p,b :: q => if gR a b then a :: mrg p (b :: q) else b :: mrg (a :: p) q
termination_by p q => p.length + q.length
theorem rK (p : List P2) : mrg p [] = p:=by cases p <;> simp [mrg]
theorem tK (q : List P2) : mrg [] q = q:=by simp [mrg]
theorem zL1 (p q : List P2) : (mrg p q).length = p.length + q.length:=by
 fun_induction mrg p q <;> simp_all <;> omega
theorem mrg_cut {p1 p2 q1 q2 : List P2} (h1 : ∀ x ∈ p1,∀ y ∈ q2,gR x y = true) (h2 : ∀ y ∈ q1,∀ x ∈ p2,gR x y = false) : mrg (p1 ++ p2) (q1 ++ q2) = mrg p1 q1 ++ mrg p2 q2:=by
 fun_induction mrg p1 q1 with
 | case1 q =>
  induction q with
  | nil => rfl
  | cons b q ih =>
   cases p2 with
   | nil => simp [mrg]
   | cons a p =>
    have:=h2 b (by simp) a (by simp)
    have ih':=ih fun y hy => h2 y (by simp [hy])
    simp only [List.nil_append,List.cons_append] at ih' ⊢
    rw [mrg,this,if_neg (by simp),ih']
 | case2 a p =>
  clear h2
  generalize ha : a :: p = p' at *
  clear ha
  induction p' with
  | nil => simp [mrg]
  | cons a p ih =>
   have ih':=ih fun x hx y hy => h1 x (by simp [hx]) y hy
   cases q2 with
   | nil => simp [rK]
   | cons b q =>
    have:=h1 a (by simp) b (by simp)
    simp only [List.nil_append,List.cons_append] at ih' ⊢
    rw [mrg,this,if_pos rfl,ih']
 | case3 a p b q h ih =>
  simp only [List.cons_append] at ih ⊢
  rw [mrg,if_pos h,ih (fun x hx y hy => h1 x (by simp [hx]) y hy) h2]
 | case4 a p b q h ih =>
  simp only [List.cons_append] at ih ⊢
  rw [mrg,if_neg h,ih h1 fun y hy x hx => h2 y (by simp [hy]) x hx]
def sumP : List P2 → P2
 | [] => (0,0)
 | e :: l => addP e (sumP l)
theorem nB (l m : List P2) : sumP (l ++ m) = addP (sumP l) (sumP m):=by
 induction l with
 | nil => unfold addP sumP; rw [Prod.ext_iff]; constructor <;> simp [Rat.zero_add]
 | cons a l ih => rw [List.cons_append,sumP,ih,sumP]; unfold addP; rw [Prod.ext_iff]; constructor <;> simp only <;> grind
theorem sO (p q : List P2) : sumP (mrg p q) = addP (sumP p) (sumP q):=by
 fun_induction mrg p q with
 | case1 q => unfold addP; rw [Prod.ext_iff]; constructor <;> simp [sumP,Rat.zero_add]
 | case2 a p => unfold addP; rw [Prod.ext_iff]; constructor <;> simp [sumP,addP,Rat.add_zero]
 | case3 a p b q h ih => rw [sumP,ih]; unfold addP; rw [Prod.ext_iff]; constructor <;> simp only [sumP,addP] <;> grind
 | case4 a p b q h ih => rw [sumP,ih]; unfold addP; rw [Prod.ext_iff]; constructor <;> simp only [sumP,addP] <;> grind
def wayS (at' : P2) : List P2 → List P2
 | [] => []
 | [_] => []
 | e :: f :: l => addP at' e :: wayS (addP at' e) (f :: l)
def xY : List P2 → List P2
 | a :: b :: r => subP b a :: xY (b :: r)
 | _ => []
theorem fE : ∀ (X : List P2) (m : P2) (Y : List P2),xY (X ++ m :: Y) = xY (X ++ [m]) ++ xY (m :: Y)
 | [],m,Y => by simp [xY]
 | [x],m,Y => by simp [xY]
 | x :: y :: X,m,Y => by
  have:=fE (y :: X) m Y
  simp only [List.cons_append,xY] at this ⊢
  rw [this]
theorem fD : ∀ (a : P2) (X : List P2) (b : P2),sumP (xY (a :: (X ++ [b]))) = subP b a
 | a,[],b => by simp only [List.nil_append,xY,sumP]; unfold addP subP; rw [Prod.ext_iff]; constructor <;> simp only <;> grind
 | a,x :: X,b => by
  rw [List.cons_append,xY,sumP,fD x X b]
  unfold addP subP; rw [Prod.ext_iff]; constructor <;> simp only <;> grind
def edgN (w : P2) : List P2 → Prop
 | t :: s :: r => zQ (subP t s) w ≤ 0 ∧ edgN w (s :: r)
 | _ => True
theorem dF (X : List P2) (a b : P2) : xY (X ++ [a,b]) = xY (X ++ [a]) ++ [subP b a]:=by
 rw [show X ++ [a,b] = X ++ a :: [b] by rfl,fE]; rfl
theorem rY {g : P2} : ∀ acc : List P2,edgD g acc → ∀ e ∈ xY acc.reverse,0 < zQ e g
 | [],_,e,he => by simp [xY] at he
 | [_],_,e,he => by simp [xY] at he
 | t :: s :: r,h,e,he => by
  rw [show (t :: s :: r).reverse = r.reverse ++ [s,t] by simp,dF,List.mem_append,List.mem_singleton] at he
  rcases he with he | rfl
  ·exact rY (s :: r) h.2 e (by simpa using he)
  ·exact h.1
theorem rX {g : P2} : ∀ acc : List P2,edgN g acc → ∀ e ∈ xY acc.reverse,zQ e g ≤ 0
 | [],_,e,he => by simp [xY] at he
 | [_],_,e,he => by simp [xY] at he
 | t :: s :: r,h,e,he => by
  rw [show (t :: s :: r).reverse = r.reverse ++ [s,t] by simp,dF,List.mem_append,List.mem_singleton] at he
  rcases he with he | rfl
  ·exact rX (s :: r) h.2 e (by simpa using he)
  ·exact h.1
theorem pH : ∀ acc : List P2,acc.Pairwise (fun a b => ltP b a) → ∀ e ∈ xY acc.reverse,lexP e
 | [],_,e,he => by simp [xY] at he
 | [_],_,e,he => by simp [xY] at he
 | t :: s :: r,h,e,he => by
  rw [show (t :: s :: r).reverse = r.reverse ++ [s,t] by simp,dF,List.mem_append,List.mem_singleton] at he
  rcases he with he | rfl
  ·exact pH (s :: r) (List.pairwise_cons.1 h).2 e (by simpa using he)
  ·exact (List.pairwise_cons.1 h).1 s (by simp)
theorem sR {g : P2} (hg : lexP g) : ∀ acc : List P2,acc ≠ [] → qK acc → acc.Pairwise (fun a b => ltP b a) → ∃ Y w X,acc = Y ++ w :: X ∧ edgN g (Y ++ [w]) ∧ edgD g (w :: X)
 | [],h,_,_ => absurd rfl h
 | [t],_,_,_ => ⟨[],t,[],rfl,trivial,trivial⟩
 | t :: s :: r,_,ht,hd => by
  by_cases c : 0 < zQ (subP t s) g
  ·exact ⟨[],t,s :: r,rfl,trivial,rV hg _ ht hd fun t' s' r' e => by injection e with e1 e2; injection e2 with e2 e3; subst e1 e2; exact c⟩
  ·have ht' : qK (s :: r):=by
    cases r with
    | nil => trivial
    | cons u r => exact ht.2
   obtain ⟨Y,w,X,e,h1,h2⟩:=sR hg (s :: r) (by simp) ht' (List.pairwise_cons.1 hd).2
   refine ⟨t :: Y,w,X,by rw [e]; rfl,?_,h2⟩
   cases Y with
   | nil => injection e with e1 e2; subst e1; exact ⟨by grind,trivial⟩
   | cons y Y => injection e with e1 e2; subst e1; exact ⟨by grind,h1⟩
theorem zL3 {S acc : List P2} {g : P2} (hc : ChOk S acc) (hg : lexP g) : ∃ Y w X,acc = Y ++ w :: X ∧ edgN g (Y ++ [w]) ∧ edgD g (w :: X) ∧ ∀ q ∈ S,zQ (subP q w) g ≤ 0:=by
 obtain ⟨Y,w,X,rfl,h1,h2⟩:=sR hg acc hc.ne hc.trs hc.dec
 refine ⟨Y,w,X,rfl,h1,h2,fun q hq => ?_⟩
 have hl:=hc.lef q hq
 have hd:=hc.dec
 rcases oY w q with k | k
 ·rcases List.eq_nil_or_concat Y with rfl | ⟨Y',n,rfl⟩
  ·have:=uG (hc.top q hq w rfl) k
   subst this; unfold zQ subP; simp only; grind
  ·rw [List.concat_eq_append] at hl hd h1
   rw [List.append_assoc] at hl hd
   have k1:=(bA Y' _ hl).1
   have k2 : zQ (subP n w) g ≤ 0:=by
    have : ∀ Z : List P2,edgN g (Z ++ [n,w]) → zQ (subP n w) g ≤ 0:=fun Z => by
     induction Z with
     | nil => exact fun h => h.1
     | cons z Z ih => intro h; cases Z with
      | nil => exact h.2.1
      | cons z' Z => exact ih h.2
    exact this Y' (by simpa using h1)
   have k3 : ltP w n:=(List.pairwise_cons.1 (List.pairwise_append.1 hd).2.1).1 w (by simp)
   have:=oL (a:=g) (b:=subP n w) (c:=subP q w) (lexP.le hg) k3 (fS.1 k) (by unfold zQ at *; grind) k1
   unfold zQ at *; grind
 ·rcases X with _ | ⟨p,X⟩
  ·have:=uG (hc.bot q hq w (by simp)) k
   subst this; unfold zQ subP; simp only; grind
  ·have k1:=(bA Y _ hl).1
   have k2:=h2.1
   have k3 : ltP p w:=(List.pairwise_cons.1 (List.pairwise_append.1 hd).2.1).1 p (by simp)
   have:=oL (a:=subP w q) (b:=subP w p) (c:=g) (fS.1 k) k3 (lexP.le hg) (by unfold trn zQ subP at *; simp only at *; grind) (Rat.le_of_lt k2)
   unfold trn zQ subP at *; simp only at *; grind
theorem ahead_asym {a b : P2} (h : gR a b = true) : gR b a = false:=by
 unfold gR at *
 by_cases c : xN a = xN b
 ·rw [if_neg (by simp [c])] at h
  rw [if_neg (by simp [c]),decide_eq_false]
  have:=of_decide_eq_true h
  unfold zQ at *; grind
 ·rw [if_pos c] at h
  rw [if_pos (Ne.symm c),decide_eq_false]
  have:=of_decide_eq_true h; omega
theorem iJ {a : P2} : lexP (negP a) ↔ lexN a:=by unfold lexP lexN negP; simp only; grind
structure Cut (g : P2) (e1 e2 : List P2) : Prop where
 pos : lexP g → (∀ e ∈ e1,lexP e ∧ 0 < zQ e g) ∧ ∀ e ∈ e2,lexN e ∨ lexP e ∧ zQ e g ≤ 0
 neg : lexN g → (∀ e ∈ e1,lexP e ∨ lexN e ∧ 0 < zQ e g) ∧ ∀ e ∈ e2,lexN e ∧ zQ e g ≤ 0
theorem pJ {g : P2} {e1 e2 f1 f2 : List P2} (hg : lexP g ∨ lexN g) (a : Cut g e1 e2) (b : Cut g f1 f2) : ∀ x ∈ e1,∀ y ∈ f2,gR x y = true:=fun x hx y hy => by
 rcases hg with hg | hg
 ·obtain ⟨h1,h2⟩:=(a.pos hg).1 x hx
  rcases (b.pos hg).2 y hy with h3 | ⟨h3,h4⟩
  ·exact (vN h1 h3).1
  ·exact (ahead_pp h1 h3).2 (zP4 (lexP.le h1) hg h3 h2 (by unfold zQ at *; grind))
 ·obtain ⟨h3,h4⟩:=(b.neg hg).2 y hy
  rcases (a.neg hg).1 x hx with h1 | ⟨h1,h2⟩
  ·exact (vN h1 h3).1
  ·have:=zP4 (lexP.le (iJ.2 h1)) (iJ.2 hg) (iJ.2 h3) (by unfold zQ negP at *; simp only; grind) (by unfold zQ negP at *; simp only; grind)
   exact (ahead_nn h1 h3).2 (by unfold zQ negP at *; simp only at this; grind)
theorem ChOk'.flip {S acc : List P2} (h : ChOk' S acc) : ChOk (S.map negP) (acc.map negP):=by
 refine ⟨fun x hx => ?_,?_,fun q hq t e => ?_,fun q hq t e => ?_,fun q hq => ?_,(iY acc).2 h.trs,fun c => h.ne (List.map_eq_nil_iff.1 c)⟩
 ·obtain ⟨y,hy,rfl⟩:=List.mem_map.1 hx
  exact List.mem_map.2 ⟨y,h.sub y hy,rfl⟩
 ·rw [List.pairwise_map]; exact h.dec.imp fun h => nS.2 h
 ·obtain ⟨y,hy,rfl⟩:=List.mem_map.1 hq
  rw [List.head?_map] at e
  obtain ⟨u,hu,rfl⟩:=Option.map_eq_some_iff.1 e
  exact nV.2 (h.top y hy u hu)
 ·obtain ⟨y,hy,rfl⟩:=List.mem_map.1 hq
  rw [List.getLast?_map] at e
  obtain ⟨u,hu,rfl⟩:=Option.map_eq_some_iff.1 e
  exact nV.2 (h.bot y hy u hu)
 ·obtain ⟨y,hy,rfl⟩:=List.mem_map.1 hq
  exact (nU acc).2 (h.lef y hy)
theorem vB {g : P2} : ∀ l : List P2,edgD (negP g) (l.map negP) ↔ edgD g l
 | [] => .rfl
 | [_] => .rfl
 | t :: s :: r => by
  have e : zQ (subP (negP t) (negP s)) (negP g) = zQ (subP t s) g:=by unfold zQ subP negP; simp only; grind
  simp only [List.map_cons,edgD,e]; exact and_congr .rfl (vB (s :: r))
theorem vA {g : P2} : ∀ l : List P2,edgN (negP g) (l.map negP) ↔ edgN g l
 | [] => .rfl
 | [_] => .rfl
 | t :: s :: r => by
  have e : zQ (subP (negP t) (negP s)) (negP g) = zQ (subP t s) g:=by unfold zQ subP negP; simp only; grind
  simp only [List.map_cons,edgN,e]; exact and_congr .rfl (vA (s :: r))
theorem high_cut {S acc : List P2} {g : P2} (hc : ChOk' S acc) (hg : lexN g) : ∃ Y w X,acc = Y ++ w :: X ∧ edgN g (Y ++ [w]) ∧ edgD g (w :: X) ∧ ∀ q ∈ S,zQ (subP q w) g ≤ 0:=by
 obtain ⟨Y,w,X,e,h1,h2,h3⟩:=zL3 hc.flip (iJ.2 hg)
 have hn : ∀ l : List P2,(l.map negP).map negP = l:=fun l => by
  rw [List.map_map]; conv => rhs; rw [← List.map_id l]
  exact List.map_congr_left fun x _ => iH x
 have e' : acc = Y.map negP ++ negP w :: X.map negP:=by
  have:=congrArg (List.map negP) e
  rw [hn] at this; simpa using this
 refine ⟨Y.map negP,negP w,X.map negP,e',?_,?_,fun q hq => ?_⟩
 ·refine (vA _).1 ?_
  rw [List.map_append,hn,List.map_cons,iH]; exact h1
 ·refine (vB _).1 ?_
  rw [List.map_cons,iH,hn]; exact h2
 ·have:=h3 (negP q) (List.mem_map.2 ⟨q,hq,rfl⟩)
  unfold zQ subP negP at *; simp only at *; grind
theorem nZ : ∀ acc : List P2,acc.Pairwise (fun a b => ltP a b) → ∀ e ∈ xY acc.reverse,lexN e
 | [],_,e,he => by simp [xY] at he
 | [_],_,e,he => by simp [xY] at he
 | t :: s :: r,h,e,he => by
  rw [show (t :: s :: r).reverse = r.reverse ++ [s,t] by simp,dF,List.mem_append,List.mem_singleton] at he
  rcases he with he | rfl
  ·exact nZ (s :: r) (List.pairwise_cons.1 h).2 e (by simpa using he)
  ·have:=(List.pairwise_cons.1 h).1 s (by simp)
   unfold ltP lexP subP at this; unfold lexN subP; simp only at *; grind
def xP (h : List P2) : List P2:=if 1 < h.length then xY (h ++ [gp h 0]) else []
theorem mT (a b : P2) : addP a (subP b a) = b:=by unfold addP subP; rw [Prod.ext_iff]; constructor <;> simp only <;> grind
theorem jI (a : P2) : addP a (0,0) = a:=by unfold addP; rw [Prod.ext_iff]; constructor <;> simp only <;> grind
theorem qT (a b c : P2) : addP (addP a b) c = addP a (addP b c):=by unfold addP; rw [Prod.ext_iff]; constructor <;> simp only <;> grind
theorem pO (a b : P2) : addP a b = addP b a:=by unfold addP; rw [Prod.ext_iff]; constructor <;> simp only <;> grind
theorem zQ0 {m w : P2} {X' : List P2} (Y X : List P2) (e : Y ++ w :: X = X' ++ [m]) : addP m (sumP (xY (w :: X).reverse)) = w:=by
 rcases List.eq_nil_or_concat X with rfl | ⟨X,x,hX⟩
 ·have : w = m:=by
   have:=congrArg List.getLast? e; simpa using this
  subst this; exact jI _
 ·rw [List.concat_eq_append] at hX
  subst hX
  have : x = m:=by
   have:=congrArg List.getLast? e
   rw [show Y ++ w :: (X ++ [x]) = (Y ++ w :: X) ++ [x] by simp,List.getLast?_concat,List.getLast?_concat] at this
   exact Option.some.inj this
  subst this
  rw [show (w :: (X ++ [x])).reverse = x :: (X.reverse ++ [w]) by simp,fD,mT]
theorem tV {l : List P2} {g : P2} (hs : l.Pairwise ltP) (hne : l ≠ []) (hg : lexP g ∨ lexN g) :
  ∃ e1 e2,xP (uH l) = e1 ++ e2 ∧ Cut g e1 e2 ∧ ∀ q ∈ l,zQ (subP q (addP (gp (uH l) 0) (sumP e1))) g ≤ 0:=by
 by_cases h2 : l.length < 2
 ·match l,hne,h2 with
  | [p],_,_ =>
   refine ⟨[],[],rfl,⟨fun _ => by simp,fun _ => by simp⟩,fun q hq => ?_⟩
   rw [List.mem_singleton.1 hq,show addP (gp (uH [p]) 0) (sumP []) = p from jI p]
   unfold zQ subP; simp only; grind
 obtain ⟨mn,mx,A,B,cl,ch,eS,mnl,mxl,hlt,hmx,hmn,_⟩:=lL (by omega) hs
 have eE : xP (uH l) = xY (mx :: (A ++ [mn])).reverse ++ xY (mn :: (B ++ [mx])).reverse:=by
  unfold xP
  rw [eS,if_pos (by simp only [List.length_cons,List.length_append]; omega),show mn :: (A.reverse ++ mx :: B.reverse) ++ [gp (mn :: (A.reverse ++ mx :: B.reverse)) 0] = (mn :: A.reverse) ++ mx :: (B.reverse ++ [mn]) by simp,fE]
  congr 1 <;> congr 1 <;> simp
 have e0 : gp (uH l) 0 = mn:=by rw [eS]; rfl
 rw [e0,eE]
 have low : ∀ e ∈ xY (mx :: (A ++ [mn])).reverse,lexP e:=pH _ cl.dec
 have high : ∀ e ∈ xY (mn :: (B ++ [mx])).reverse,lexN e:=nZ _ ch.dec
 have np : ∀ g : P2,lexP g → lexN g → False:=fun g a b => by unfold lexP lexN at *; grind
 have cut : ∀ (Y : List P2) (w : P2) (X : List P2),xY (Y ++ w :: X).reverse = xY (w :: X).reverse ++ xY (Y ++ [w]).reverse:=fun Y w X => by
  rw [show (Y ++ w :: X).reverse = X.reverse ++ w :: Y.reverse by simp,fE]; simp
 rcases hg with hg | hg
 ·obtain ⟨Y,w,X,e,h1,h3,h4⟩:=zL3 cl hg
  refine ⟨xY (w :: X).reverse,xY (Y ++ [w]).reverse ++ xY (mn :: (B ++ [mx])).reverse,?_,⟨fun _ => ⟨fun x hx => ⟨low x ?_,rY _ h3 x hx⟩,fun x hx => ?_⟩,fun h => (np g hg h).elim⟩,?_⟩
  ·rw [e,cut,List.append_assoc]
  ·rw [e,cut]; exact List.mem_append_left _ hx
  ·rcases List.mem_append.1 hx with hx | hx
   ·exact .inr ⟨low x (by rw [e,cut]; exact List.mem_append_right _ hx),rX _ h1 x hx⟩
   ·exact .inl (high x hx)
  ·rw [zQ0 Y X (X':=mx :: A) (m:=mn) (by rw [← e]; simp)]; exact h4
 ·obtain ⟨Y,w,X,e,h1,h3,h4⟩:=high_cut ch hg
  refine ⟨xY (mx :: (A ++ [mn])).reverse ++ xY (w :: X).reverse,xY (Y ++ [w]).reverse,?_,⟨fun h => (np g h hg).elim,fun _ => ⟨fun x hx => ?_,fun x hx => ⟨high x ?_,rX _ h1 x hx⟩⟩⟩,?_⟩
  ·rw [e,cut,List.append_assoc]
  ·rcases List.mem_append.1 hx with hx | hx
   ·exact .inl (low x hx)
   ·exact .inr ⟨high x (by rw [e,cut]; exact List.mem_append_left _ hx),rY _ h3 x hx⟩
  ·rw [e,cut]; exact List.mem_append_right _ hx
  ·rw [nB,← qT,show (mx :: (A ++ [mn])).reverse = mn :: (A.reverse ++ [mx]) by simp,fD,mT,zQ0 Y X (X':=mn :: B) (m:=mx) (by rw [← e]; simp)]; exact h4
def outS (h k : List P2) : List P2:=addP (gp h 0) (gp k 0) :: wayS (addP (gp h 0) (gp k 0)) (mrg (xP h) (xP k))
theorem nY {h : List P2} : sumP (xP h) = (0,0):=by
 unfold xP; split
 ·match h with
  | a :: r =>
   rw [show a :: r ++ [gp (a :: r) 0] = a :: (r ++ [a]) from rfl,fD]
   unfold subP; rw [Prod.ext_iff]; constructor <;> simp only <;> grind
 ·rfl
theorem wQ : ∀ (e1 e2 : List P2) (at' : P2),e1 ≠ [] → e2 ≠ [] → addP at' (sumP e1) ∈ wayS at' (e1 ++ e2)
 | [],_,_,h,_ => absurd rfl h
 | [e],f :: e2,a,_,_ => by simp only [List.cons_append,List.nil_append,wayS,sumP]; rw [jI]; simp
 | e :: f :: e1,e2,a,_,h => by
  have:=wQ (f :: e1) e2 (addP a e) (by simp) h
  rw [List.cons_append,List.cons_append,wayS,sumP,← qT]
  exact List.mem_cons_of_mem _ this
 | [_],[],_,_,h => absurd rfl h
theorem out_mem {h k e1 e2 : List P2} (e : mrg (xP h) (xP k) = e1 ++ e2) : addP (addP (gp h 0) (gp k 0)) (sumP e1) ∈ outS h k:=by
 unfold outS
 have z : addP (sumP e1) (sumP e2) = (0,0):=by rw [← nB,← e,sO,nY,nY]; exact jI _
 by_cases c1 : e1 = []
 ·subst c1; rw [show sumP [] = (0,0) from rfl,jI]; simp
 by_cases c2 : e2 = []
 ·subst c2; rw [show sumP [] = (0,0) from rfl,jI] at z; rw [z,jI]; simp
 ·rw [e]; exact List.mem_cons_of_mem _ (wQ e1 e2 _ c1 c2)
theorem out_sup {l m : List P2} (hl : l.Pairwise ltP) (hm : m.Pairwise ltP) (nl : l ≠ []) (nm : m ≠ []) {a b : P2} (ha : a ∈ l) (hb : b ∈ m) : Sup (outS (uH l) (uH m)) (addP a b):=fun u v => by
 by_cases hz : lexP (-v,u) ∨ lexN (-v,u)
 ·obtain ⟨e1,e2,ee,ec,eb⟩:=tV hl nl hz
  obtain ⟨f1,f2,fe,fc,fb⟩:=tV hm nm hz
  have h1:=pJ hz ec fc
  have h2:=pJ hz fc ec
  have em : mrg (xP (uH l)) (xP (uH m)) = mrg e1 f1 ++ mrg e2 f2:=by
   rw [ee,fe]; exact mrg_cut h1 fun y hy x hx => ahead_asym (h2 y hy x hx)
  refine ⟨_,out_mem em,?_⟩
  rw [sO]
  have k1:=eb a ha
  have k2:=fb b hb
  generalize gp (uH l) 0 = p at *
  generalize gp (uH m) 0 = q at *
  generalize sumP e1 = s at *
  generalize sumP f1 = t at *
  unfold zQ subP addP at *; simp only at *; grind
 ·have hu : u = 0:=by unfold lexP lexN at hz; simp only at hz; grind
  have hv : v = 0:=by unfold lexP lexN at hz; simp only at hz; grind
  refine ⟨_,List.mem_cons_self,?_⟩
  rw [hu,hv]; grind
theorem fB {h : List P2} (hne : h ≠ []) {e1 e2 : List P2} (e : xP h = e1 ++ e2) : addP (gp h 0) (sumP e1) ∈ h:=by
 unfold xP at e
 split at e
 ·match h,hne with
  | a :: r,_ =>
   have e' : xY (a :: (r ++ [a])) = e1 ++ e2:=e
   have key : ∀ (r : List P2) (b z : P2) (e1 : List P2),xY (b :: (r ++ [z])) = e1 ++ e2 → addP b (sumP e1) ∈ b :: (r ++ [z]):=fun r => by
    induction r with
    | nil =>
     intro b z e1 e
     match e1,e with
     | [],_ => rw [show sumP [] = (0,0) from rfl,jI]; simp
     | [x],e => 
      simp only [List.nil_append,xY,List.cons_append,List.cons.injEq] at e
      rw [← e.1,sumP,show sumP [] = (0,0) from rfl,jI,mT]; simp
     | x :: y :: s,e => simp [xY] at e
    | cons c r ih =>
     intro b z e1 e
     match e1,e with
     | [],_ => rw [show sumP [] = (0,0) from rfl,jI]; simp
     | x :: s,e =>
      rw [List.cons_append,xY,List.cons_append,List.cons.injEq] at e
      have:=ih c z s e.2
      rw [← e.1,sumP,← qT,mT]
      exact List.mem_cons_of_mem _ this
   have:=key r a a e1 e'
   show addP a (sumP e1) ∈ a :: r
   simp only [List.mem_cons,List.mem_append,List.mem_singleton,List.not_mem_nil,or_false] at this ⊢
   grind
 ·match h,hne with
  | a :: r,_ =>
   obtain ⟨rfl,rfl⟩:=List.append_eq_nil_iff.1 e.symm
   rw [show sumP [] = (0,0) from rfl,jI]; simp
theorem zL0 (p q : List P2) : ∀ {s t : List P2},mrg p q = s ++ t → ∃ p1 p2 q1 q2,p = p1 ++ p2 ∧ q = q1 ++ q2 ∧ sumP s = addP (sumP p1) (sumP q1):=by
 fun_induction mrg p q with
 | case1 q => exact fun {s t} e => ⟨[],[],s,t,rfl,e,by rw [show sumP [] = (0,0) from rfl,pO,jI]⟩
 | case2 a p => exact fun {s t} e => ⟨s,t,[],[],e,rfl,by rw [show sumP [] = (0,0) from rfl,jI]⟩
 | case3 a p b q h ih =>
  intro s t e
  match s,e with
  | [],e => exact ⟨[],_,[],_,rfl,rfl,by rw [show sumP [] = (0,0) from rfl,jI]⟩
  | x :: s,e =>
   rw [List.cons_append,List.cons.injEq] at e
   obtain ⟨p1,p2,q1,q2,h1,h2,h3⟩:=ih e.2
   exact ⟨a :: p1,p2,q1,q2,by rw [h1]; rfl,h2,by rw [sumP,sumP,h3,← e.1,qT]⟩
 | case4 a p b q h ih =>
  intro s t e
  match s,e with
  | [],e => exact ⟨[],_,[],_,rfl,rfl,by rw [show sumP [] = (0,0) from rfl,jI]⟩
  | x :: s,e =>
   rw [List.cons_append,List.cons.injEq] at e
   obtain ⟨p1,p2,q1,q2,h1,h2,h3⟩:=ih e.2
   exact ⟨p1,p2,b :: q1,q2,h1,by rw [h2]; rfl,by rw [sumP,sumP,h3,← e.1,← qT,pO b,qT]⟩
theorem zO6 : ∀ (es : List P2) (at' c : P2),c ∈ wayS at' es → ∃ s t,es = s ++ t ∧ c = addP at' (sumP s)
 | [],_,_,h => by simp [wayS] at h
 | [_],_,_,h => by simp [wayS] at h
 | e :: f :: l,a,c,h => by
  rw [wayS] at h
  rcases List.mem_cons.1 h with rfl | h
  ·exact ⟨[e],f :: l,rfl,by rw [sumP,show sumP [] = (0,0) from rfl,jI]⟩
  ·obtain ⟨s,t,h1,h2⟩:=zO6 (f :: l) _ c h
   exact ⟨e :: s,t,by rw [h1]; rfl,by rw [h2,sumP,qT]⟩
theorem out_of {h k : List P2} (hh : h ≠ []) (hk : k ≠ []) {c : P2} (hc : c ∈ outS h k) : ∃ a ∈ h,∃ b ∈ k,c = addP a b:=by
 have key : ∀ s t,mrg (xP h) (xP k) = s ++ t → c = addP (addP (gp h 0) (gp k 0)) (sumP s) → ∃ a ∈ h,∃ b ∈ k,c = addP a b:=fun s t e ec => by
  obtain ⟨p1,p2,q1,q2,h1,h2,h3⟩:=zL0 _ _ e
  refine ⟨_,fB hh h1,_,fB hk h2,?_⟩
  rw [ec,h3]; unfold addP; rw [Prod.ext_iff]; constructor <;> simp only <;> grind
 unfold outS at hc
 rcases List.mem_cons.1 hc with rfl | hc
 ·exact key [] _ rfl (by rw [show sumP [] = (0,0) from rfl,jI])
 ·obtain ⟨s,t,h1,h2⟩:=zO6 _ _ _ hc
  exact key s t h1 h2
theorem oB : COrd cmpP:=⟨fun a b => pK,fun a b => by rw [zN1,mP],fun a b c h k => by rw [← zS4] at *; exact leP_of_lt_trans h.le k⟩
noncomputable def hullF (l : List P2) : List P2:=uH (setOf cmpP l)
theorem mF (l : List P2) : (setOf cmpP l).Pairwise ltP:=(fN oB l).rise.imp fun h => zS4.2 h
theorem gZ (l : List P2) : IsHull l (hullF l):=by
 have h:=hullS_ok (mF l)
 exact ⟨h.poly,fun c hc => (cC oB).1 (h.sub c hc),fun q hq => h.sup q ((cC oB).2 hq)⟩
theorem hull_eq {l m : List P2} (h1 : ∀ q ∈ l,Sup m q) (h2 : ∀ q ∈ m,Sup l q) : hullF l = hullF m:=hull_uniq (gZ l) (gZ m) h1 h2
theorem bC {l : List P2} : hullF l = [] ↔ l = []:=by
 constructor
 ·intro h
  match l,h with
  | [],_ => rfl
  | p :: r,h => obtain ⟨c,hc,_⟩:=(gZ (p :: r)).sup p (by simp) 0 0; rw [h] at hc; cases hc
 ·intro h; subst h
  match e : hullF [],(gZ []).sub with
  | [],_ => rfl
  | p :: r,k => exact absurd (k p (by simp)) (by simp)
theorem eI (l : List P2) : (hullF l).length ≤ l.length:=cG (gZ l).poly.nd (gZ l).sub
theorem fW (a b c : P2) : trn a a c = 0 ∧ trn a b a = 0 ∧ trn a b b = 0:=by unfold trn zQ subP; simp only; grind
theorem hull_left {l : List P2} {q : P2} (hq : Sup (hullF l) q) {i : Nat} (hi : i < (hullF l).length) : 0 ≤ trn (gp (hullF l) i) (nx (hullF l) i) q:=by
 have p:=(gZ l).poly
 generalize hullF l = h at *
 rcases Nat.lt_or_ge 2 h.length with h3 | h3
 ·exact eG (p.weak hi h3) hq
 ·match h,h3,hi with
  | [a],_,hi =>
   obtain rfl : i = 0:=by simpa using hi
   rw [show nx [a] 0 = a by simp [nx,gp],show gp [a] 0 = a from rfl,(fW a a q).1]; exact Rat.le_refl
  | [a,b],_,hi =>
   have:=fZ rfl hq
   rcases Nat.lt_or_ge i 1 with c | c
   ·obtain rfl : i = 0:=by omega
    have : trn a b q = 0:=this
    rw [show nx [a,b] 0 = b by simp [nx,gp],show gp [a,b] 0 = a from rfl,this]; exact Rat.le_refl
   ·obtain rfl : i = 1:=by simp only [List.length_cons,List.length_nil] at hi; omega
    rw [show nx [a,b] 1 = a by simp [nx,gp],show gp [a,b] 1 = b from rfl]
    have : trn a b q = 0:=this
    unfold trn zQ subP at *; simp only at *; grind
theorem trn_add (a b c d : P2) : trn (addP a d) (addP b d) (addP c d) = trn a b c:=by unfold trn zQ subP addP; simp only; grind
theorem fT {h : List P2} (f : P2 → P2) {i : Nat} (hi : i < h.length) : gp (h.map f) i = f (gp h i):=by
 unfold gp; simp [List.getD_eq_getElem?_getD,List.getElem?_eq_getElem hi]
def kE (a b : List P2) : List P2:=a.flatMap fun x => b.map fun y => addP x y
theorem gY {a b : List P2} {q : P2} : q ∈ kE a b ↔ ∃ x ∈ a,∃ y ∈ b,q = addP x y:=by
 unfold kE; simp only [List.mem_flatMap,List.mem_map]
 exact ⟨fun ⟨x,hx,y,hy,e⟩ => ⟨x,hx,y,hy,e.symm⟩,fun ⟨x,hx,y,hy,e⟩ => ⟨x,hx,y,hy,e.symm⟩⟩
noncomputable def sumF (a b : List P2) : List P2:=hullF (kE a b)
theorem sN {a b : List P2} (ha : a ≠ []) (hb : b ≠ []) : hullF (outS (hullF a) (hullF b)) = sumF a b:=by
 refine hull_eq (fun q hq => ?_) fun q hq => ?_
 ·obtain ⟨x,hx,y,hy,rfl⟩:=out_of (fun e => ha (bC.1 e)) (fun e => hb (bC.1 e)) hq
  exact sM (gY.2 ⟨x,(gZ a).sub x hx,y,(gZ b).sub y hy,rfl⟩)
 ·obtain ⟨x,hx,y,hy,rfl⟩:=gY.1 hq
  have h : ∀ {l : List P2} {x : P2},x ∈ l → setOf cmpP l ≠ []:=fun {l x} hx e => by have:=(cC oB (l:=l)).2 hx; rw [e] at this; cases this
  exact out_sup (mF a) (mF b) (h hx) (h hy) ((cC oB).2 hx) ((cC oB).2 hy)
theorem pW {a b : List P2} : sumF a b = [] ↔ a = [] ∨ b = []:=by
 unfold sumF; rw [bC]
 constructor
 ·intro h
  match a,b,h with
  | [],_,_ => exact .inl rfl
  | _ :: _,[],_ => exact .inr rfl
  | _ :: _,_ :: _,h => simp [kE] at h
 ·rintro (rfl | rfl)
  ·rfl
  ·simp [kE]
theorem wR : ∀ (es : List P2) (a : P2),(wayS a es).length = es.length - 1
 | [],_ => rfl
 | [_],_ => rfl
 | e :: f :: l,a => by rw [wayS,List.length_cons,wR (f :: l)]; simp
theorem pI : ∀ C : List P2,(xY C).length = C.length - 1
 | [] => rfl
 | [_] => rfl
 | a :: b :: r => by rw [xY,List.length_cons,pI (b :: r)]; simp
theorem cH (h : List P2) : (xP h).length = if 1 < h.length then h.length else 0:=by
 unfold xP; split
 ·rw [pI]; simp
 ·rfl
theorem zK0 (h k : List P2) : (outS h k).length ≤ max 1 (h.length + k.length):=by
 unfold outS; rw [List.length_cons,wR,zL1,cH,cH]; split <;> split <;> omega
theorem sumF_len {a b : List P2} (ha : a ≠ []) (hb : b ≠ []) : (sumF a b).length ≤ a.length + b.length:=by
 rw [← sN ha hb]
 have h1:=eI (outS (hullF a) (hullF b))
 have h2:=zK0 (hullF a) (hullF b)
 have h3:=eI a; have h4:=eI b
 have:=List.length_pos_iff.2 ha
 omega
structure Conv (l : List P2) : Prop where
 three : 3 ≤ l.length
 left : ∀ i k,i < l.length → k < l.length → 0 ≤ trn (gp l i) (nx l i) (gp l k)
 strict : ∀ i k,i < l.length → k < l.length → k ≠ i → k ≠ (i + 1) % l.length → trn (gp l i) (nx l i) (gp l k) ≠ 0
theorem Poly.conv' {h : List P2} (p : Poly h) (h3 : 3 ≤ h.length) : Conv h:=⟨h3,fun i k hi hk => p.weak hi h3 _ (qA hk),fun i k hi hk n1 n2 => by have:=p.conv h3 i k hi hk n1 n2; grind⟩
theorem Conv.pos {l : List P2} (c : Conv l) {i k : Nat} (hi : i < l.length) (hk : k < l.length) (n1 : k ≠ i) (n2 : k ≠ (i + 1) % l.length) : 0 < trn (gp l i) (nx l i) (gp l k):=by
 have:=c.left i k hi hk; have:=c.strict i k hi hk n1 n2; grind
theorem third_ex {n i : Nat} (hi : i < n) (h3 : 3 ≤ n) : ∃ k,k < n ∧ k ≠ i ∧ k ≠ (i + 1) % n:=by
 rcases Nat.lt_or_ge (i + 1) n with c | c
 ·rw [Nat.mod_eq_of_lt c]
  rcases Nat.lt_or_ge (i + 2) n with d | d
  ·exact ⟨i + 2,d,by omega,by omega⟩
  ·exact ⟨0,by omega,by omega,by omega⟩
 ·rw [show i + 1 = n by omega,Nat.mod_self]; exact ⟨1,by omega,by omega,by omega⟩
theorem Conv.ne {l : List P2} (c : Conv l) {i : Nat} (hi : i < l.length) : gp l i ≠ nx l i:=fun e => by
 obtain ⟨k,hk,n1,n2⟩:=third_ex hi c.three
 exact c.strict i k hi hk n1 n2 (by rw [← e]; exact (fW _ (gp l i) _).1)
theorem Conv.face {l : List P2} (c : Conv l) {i k : Nat} (hi : i < l.length) (hk : k < l.length) {e : P2} {s : Rat} (hs : 0 < s) (e1 : (gp l k).1 - (gp l i).1 = s * e.1) (e2 : (gp l k).2 - (gp l i).2 = s * e.2) (he : e ≠ (0,0))
  (hm : ∀ x ∈ l,0 ≤ zQ e (subP x (gp l i))) : nx l i = gp l k:=by
 by_cases n1 : k = i
 ·subst n1
  have a1 : s * e.1 = 0:=by grind
  have a2 : s * e.2 = 0:=by grind
  refine absurd (Prod.ext_iff.2 ⟨?_,?_⟩) he
  ·rcases Rat.mul_eq_zero.1 a1 with h | h <;> grind
  ·rcases Rat.mul_eq_zero.1 a2 with h | h <;> grind
 by_cases n2 : k = (i + 1) % l.length
 ·rw [n2]
 have h1:=c.pos hi hk n1 n2
 have h2:=hm _ (qA (bP hi))
 unfold nx at *
 generalize gp l i = a at *
 generalize gp l k = b at *
 generalize gp l ((i + 1) % l.length) = n at *
 have h3 : trn a n b = s * -zQ e (subP n a):=by
  unfold trn zQ subP; simp only; rw [e1,e2]; grind
 rw [h3] at h1
 have:=mH hs h1
 grind
theorem edge_of {A B : List P2} (cA : Conv A) (cB : Conv B) {c n : P2} (hc : c ∈ kE A B) (hn : n ∈ kE A B) (hcn : c ≠ n) (hl : ∀ q ∈ kE A B,0 ≤ trn c n q) :
  (∃ i s,i < A.length ∧ 0 < s ∧ (nx A i).1 - (gp A i).1 = s * (n.1 - c.1) ∧ (nx A i).2 - (gp A i).2 = s * (n.2 - c.2)) ∨ ∃ i s,i < B.length ∧ 0 < s ∧ (nx B i).1 - (gp B i).1 = s * (n.1 - c.1) ∧ (nx B i).2 - (gp B i).2 = s * (n.2 - c.2):=by
 obtain ⟨a,ha,b,hb,rfl⟩:=gY.1 hc
 obtain ⟨a',ha',b',hb',rfl⟩:=gY.1 hn
 have m1 : ∀ x ∈ A,0 ≤ zQ (subP (addP a' b') (addP a b)) (subP x a):=fun x hx => by
  have:=hl (addP x b) (gY.2 ⟨x,hx,b,hb,rfl⟩)
  unfold trn zQ subP addP at *; simp only at *; grind
 have m2 : ∀ y ∈ B,0 ≤ zQ (subP (addP a' b') (addP a b)) (subP y b):=fun y hy => by
  have:=hl (addP a y) (gY.2 ⟨a,ha,y,hy,rfl⟩)
  unfold trn zQ subP addP at *; simp only at *; grind
 have k1:=m1 a' ha'
 have k2:=m2 b' hb'
 have z1 : zQ (subP (addP a' b') (addP a b)) (subP a' a) = 0:=by unfold zQ subP addP at *; simp only at *; grind
 have z2 : zQ (subP (addP a' b') (addP a b)) (subP b' b) = 0:=by unfold zQ subP addP at *; simp only at *; grind
 have he : subP (addP a' b') (addP a b) ≠ (0,0):=fun e => hcn (by unfold subP at e; rw [Prod.ext_iff] at *; simp only at e; exact ⟨by grind,by grind⟩)
 obtain ⟨s,e1,e2⟩:=aZ (c:=addP a b) (n:=addP a' b') (x:=addP a' b) (by unfold trn zQ subP addP at *; simp only at *; grind) hcn
 obtain ⟨i,hi,rfl⟩:=kK ha
 obtain ⟨k,hk,rfl⟩:=kK ha'
 obtain ⟨j,hj,rfl⟩:=kK hb
 obtain ⟨m,hm,rfl⟩:=kK hb'
 rcases wB 0 s with hs | hs
 ·have f1 : (gp A k).1 - (gp A i).1 = s * (subP (addP (gp A k) (gp B m)) (addP (gp A i) (gp B j))).1:=by unfold subP addP at *; simp only at *; grind
  have f2 : (gp A k).2 - (gp A i).2 = s * (subP (addP (gp A k) (gp B m)) (addP (gp A i) (gp B j))).2:=by unfold subP addP at *; simp only at *; grind
  have:=cA.face hi hk hs f1 f2 he m1
  exact .inl ⟨i,s,hi,hs,by rw [this]; exact f1,by rw [this]; exact f2⟩
 ·have f1 : (gp B m).1 - (gp B j).1 = (1 - s) * (subP (addP (gp A k) (gp B m)) (addP (gp A i) (gp B j))).1:=by unfold subP addP at *; simp only at *; grind
  have f2 : (gp B m).2 - (gp B j).2 = (1 - s) * (subP (addP (gp A k) (gp B m)) (addP (gp A i) (gp B j))).2:=by unfold subP addP at *; simp only at *; grind
  have hs' : 0 < 1 - s:=by grind
  have:=cB.face hj hm hs' f1 f2 he m2
  exact .inr ⟨j,1 - s,hj,hs',by rw [this]; exact f1,by rw [this]; exact f2⟩
def dK (l : List P2) (p : P2) : Prop:=3 ≤ l.length ∧ ∀ i,i < l.length → 0 < trn (gp l i) (nx l i) p
def fV (a b : P2) (l : List P2) : Prop:=∀ x ∈ l,trn a b x ≤ 0
def OneP (a b : List P2) : Prop:=∃ i,i < a.length ∧ fV (gp a i) (nx a i) b
theorem mX {h : List P2} {p : P2} (k : Poly h) (hw : dK h p) {u v : Rat} (huv : ¬ (u = 0 ∧ v = 0)) : ∃ c ∈ h,u * p.1 + v * p.2 < u * c.1 + v * c.2:=by
 obtain ⟨h3,hw⟩:=hw
 obtain ⟨c,hc,hm⟩:=wD u v (h:=h) (by intro e; rw [e] at h3; simp at h3)
 refine ⟨c,hc,?_⟩
 obtain ⟨i,hi,rfl⟩:=kK hc
 obtain ⟨j,hj,e⟩:=iA hi
 have k1:=hw i hi
 have k2:=hw j hj
 have hne : (i + 1) % h.length ≠ j:=fun e2 => by
  have h6 : (j + 1) % h.length = i:=e
  rw [← e2] at h6
  rcases Nat.lt_or_ge (i + 1) h.length with c | c
  ·rw [Nat.mod_eq_of_lt c] at h6
   rcases Nat.lt_or_ge (i + 1 + 1) h.length with d | d
   ·rw [Nat.mod_eq_of_lt d] at h6; omega
   ·rw [show i + 1 + 1 = h.length by omega,Nat.mod_self] at h6; omega
  ·rw [show i + 1 = h.length by omega,Nat.mod_self,Nat.mod_eq_of_lt (by omega)] at h6; omega
 have k3:=k.conv h3 j ((i + 1) % h.length) hj (bP hi) hne (by rw [e]; exact tH hi (by omega))
 have m1:=hm _ (qA hj)
 have m2:=hm _ (qA (bP hi))
 unfold nx at k1 k2 k3
 rw [e] at k2 k3
 generalize gp h i = c at *
 generalize gp h ((i + 1) % h.length) = n at *
 generalize gp h j = r at *
 have e1 : trn r c n * (u * (p.1 - c.1) + v * (p.2 - c.2)) = (u * (n.1 - c.1) + v * (n.2 - c.2)) * trn r c p + (u * (r.1 - c.1) + v * (r.2 - c.2)) * trn c n p:=by unfold trn zQ subP; simp only; grind
 refine Classical.byContradiction fun hn => huv ?_
 have a1 : 0 ≤ -(u * (n.1 - c.1) + v * (n.2 - c.2)):=by grind
 have a2 : 0 ≤ -(u * (r.1 - c.1) + v * (r.2 - c.2)):=by grind
 have b1:=Rat.mul_nonneg a1 (Rat.le_of_lt k2)
 have b2:=Rat.mul_nonneg a2 (Rat.le_of_lt k1)
 have b3:=Rat.mul_nonneg (Rat.le_of_lt k3) (show 0 ≤ u * (p.1 - c.1) + v * (p.2 - c.2) by grind)
 have c1 : (u * (n.1 - c.1) + v * (n.2 - c.2)) * trn r c p = 0:=by grind
 have c2 : (u * (r.1 - c.1) + v * (r.2 - c.2)) * trn c n p = 0:=by grind
 have d1 : u * (n.1 - c.1) + v * (n.2 - c.2) = 0:=by
  rcases Rat.mul_eq_zero.1 c1 with z | z
  ·exact z
  ·rw [z] at k2; exact absurd k2 (by grind)
 have d2 : u * (r.1 - c.1) + v * (r.2 - c.2) = 0:=by
  rcases Rat.mul_eq_zero.1 c2 with z | z
  ·exact z
  ·rw [z] at k1; exact absurd k1 (by grind)
 have f1 : trn r c n * u = 0:=by unfold trn zQ subP; simp only; grind
 have f2 : trn r c n * v = 0:=by unfold trn zQ subP; simp only; grind
 constructor
 ·rcases Rat.mul_eq_zero.1 f1 with z | z
  ·rw [z] at k3; exact absurd k3 (by grind)
  ·exact z
 ·rcases Rat.mul_eq_zero.1 f2 with z | z
  ·rw [z] at k3; exact absurd k3 (by grind)
  ·exact z
theorem Conv.neg {l : List P2} (c : Conv l) : Conv (l.map negP):=by
 have e : ∀ i k,i < l.length → k < l.length → trn (gp (l.map negP) i) (nx (l.map negP) i) (gp (l.map negP) k) = trn (gp l i) (nx l i) (gp l k):=fun i k hi hk => by
  unfold nx
  rw [List.length_map,fT _ hi,fT _ hk,fT _ (bP hi),bK]
 refine ⟨by rw [List.length_map]; exact c.three,fun i k hi hk => ?_,fun i k hi hk n1 n2 => ?_⟩
 ·rw [List.length_map] at hi hk; rw [e i k hi hk]; exact c.left i k hi hk
 ·rw [List.length_map] at hi hk n2; rw [e i k hi hk]; exact c.strict i k hi hk n1 n2
theorem col_two {h : List P2} (p : Poly h) (h2 : h.length ≤ 2) {x y z : P2} (hx : Sup h x) (hy : Sup h y) (hz : Sup h z) : trn x y z = 0:=by
 match h,p,h2,hx,hy,hz with
 | [],_,_,hx,_,_ => obtain ⟨c,hc,_⟩:=hx 0 0; cases hc
 | [a],_,_,hx,hy,hz =>
  have g : ∀ q,Sup [a] q → q = a:=fun q hq => by
   have g : ∀ u v : Rat,u * q.1 + v * q.2 ≤ u * a.1 + v * a.2:=fun u v => by
    obtain ⟨x,hx,h1⟩:=hq u v
    rw [List.mem_singleton.1 hx] at h1; exact h1
   have g1:=g 1 0; have g2:=g (-1) 0; have g3:=g 0 1; have g4:=g 0 (-1)
   exact Prod.ext_iff.2 ⟨by grind,by grind⟩
  rw [g x hx,g y hy]; exact (fW a a _).1
 | [a,b],p,_,hx,hy,hz =>
  have hab : a ≠ b:=by have:=p.nd; simp at this; exact this
  obtain ⟨s,e1,e2⟩:=aZ (show trn a b x = 0 from fZ rfl hx) hab
  obtain ⟨t,e3,e4⟩:=aZ (show trn a b y = 0 from fZ rfl hy) hab
  obtain ⟨r,e5,e6⟩:=aZ (show trn a b z = 0 from fZ rfl hz) hab
  unfold trn zQ subP; simp only; rw [e1,e2,e3,e4,e5,e6]; grind
theorem vF {A B : List P2} (cA : Conv A) (hB : B ≠ []) : Conv (sumF A B):=by
 have k:=gZ (kE A B)
 refine k.poly.conv' (Nat.lt_of_not_le fun h2 => ?_)
 match B,hB with
 | b :: B,_ =>
  have h3:=cA.three
  have s : ∀ i,i < A.length → Sup (hullF (kE A (b :: B))) (addP (gp A i) b):=fun i hi => k.sup _ (gY.2 ⟨_,qA hi,b,by simp,rfl⟩)
  have:=col_two k.poly h2 (s 0 (by omega)) (s 1 (by omega)) (s 2 (by omega))
  rw [trn_add] at this
  exact cA.strict 0 2 (by omega) (by omega) (by omega) (by rw [Nat.mod_eq_of_lt (by omega)]; omega) (by unfold nx; rw [Nat.mod_eq_of_lt (by omega)]; exact this)
theorem withinP_iff {R T : List P2} (cR : Conv R) (cT : Conv T) (p : P2) : dK (sumF T (R.map negP)) p ↔ ¬ (OneP (R.map (addP · p)) T ∨ OneP T (R.map (addP · p))):=by
 have k:=gZ (kE T (R.map negP))
 have hRn : R.map negP ≠ []:=fun e => by have:=cR.three; rw [List.map_eq_nil_iff.1 e] at this; simp at this
 have cc:=vF cT hRn
 change IsHull _ (sumF T (R.map negP)) at k
 constructor
 ·rintro hw (⟨i,hi,hp⟩ | ⟨i,hi,hp⟩)
  ·rw [List.length_map] at hi
   have hne:=cR.ne hi
   unfold fV nx at hp
   rw [List.length_map,fT _ hi,fT _ (bP hi)] at hp
   obtain ⟨c,hc,h1⟩:=mX k.poly hw (u:=-((nx R i).2 - (gp R i).2)) (v:=(nx R i).1 - (gp R i).1) fun ⟨a,b⟩ => hne (Prod.ext_iff.2 ⟨by grind,by grind⟩)
   obtain ⟨t,ht,y,hy,rfl⟩:=gY.1 (k.sub c hc)
   obtain ⟨r,hr,rfl⟩:=List.mem_map.1 hy
   obtain ⟨m,hm,rfl⟩:=kK hr
   have h2:=hp t ht
   have h3:=cR.left i m hi hm
   unfold nx at *
   unfold trn zQ subP addP negP at *; simp only at *; grind
  ·have hne:=cT.ne hi
   obtain ⟨c,hc,h1⟩:=mX k.poly hw (u:=(nx T i).2 - (gp T i).2) (v:=-((nx T i).1 - (gp T i).1)) fun ⟨a,b⟩ => hne (Prod.ext_iff.2 ⟨by grind,by grind⟩)
   obtain ⟨t,ht,y,hy,rfl⟩:=gY.1 (k.sub c hc)
   obtain ⟨r,hr,rfl⟩:=List.mem_map.1 hy
   obtain ⟨m,hm,rfl⟩:=kK ht
   have h2:=hp _ (List.mem_map.2 ⟨r,hr,rfl⟩)
   have h3:=cT.left i m hi hm
   unfold nx at *
   unfold trn zQ subP addP negP at *; simp only at *; grind
 ·intro hn
  refine ⟨cc.three,fun i hi => Classical.byContradiction fun hz => hn ?_⟩
  have hc:=k.sub _ (qA hi)
  have hx:=k.sub _ (qA (bP hi))
  have hl : ∀ q ∈ kE T (R.map negP),0 ≤ trn (gp (sumF T (R.map negP)) i) (nx (sumF T (R.map negP)) i) q:=fun q hq => hull_left (k.sup q hq) hi
  rcases edge_of cT cR.neg hc hx (cc.ne hi) hl with ⟨m,s,hm,hs,e1,e2⟩ | ⟨m,s,hm,hs,e1,e2⟩
  ·refine .inr ⟨m,hm,fun x hx' => ?_⟩
   obtain ⟨r,hr,rfl⟩:=List.mem_map.1 hx'
   have h1:=hl (addP (gp T m) (negP r)) (gY.2 ⟨_,qA hm,_,List.mem_map.2 ⟨r,hr,rfl⟩,rfl⟩)
   unfold nx at *
   generalize gp (sumF T (R.map negP)) i = c at *
   generalize gp (sumF T (R.map negP)) ((i + 1) % (sumF T (R.map negP)).length) = n at *
   generalize gp T ((m + 1) % T.length) = b at *
   generalize gp T m = a at *
   have e : trn a b (addP r p) = s * (trn c n p - trn c n (addP a (negP r))):=by
    unfold trn zQ subP addP negP; simp only; rw [e1,e2]; grind
   rw [e]
   have:=Rat.mul_nonneg (Rat.le_of_lt hs) (show 0 ≤ -(trn c n p - trn c n (addP a (negP r))) by grind)
   grind
  ·rw [List.length_map] at hm
   refine .inl ⟨m,by rw [List.length_map]; exact hm,fun t ht => ?_⟩
   unfold nx at e1 e2 ⊢
   rw [List.length_map,fT _ hm,fT _ (bP hm)] at e1 e2 ⊢
   have h1:=hl (addP t (negP (gp R m))) (gY.2 ⟨t,ht,_,List.mem_map.2 ⟨_,qA hm,rfl⟩,rfl⟩)
   unfold nx at h1 hz
   generalize gp (sumF T (R.map negP)) i = c at *
   generalize gp (sumF T (R.map negP)) ((i + 1) % (sumF T (R.map negP)).length) = n at *
   generalize gp R m = a at *
   generalize gp R ((m + 1) % R.length) = b at *
   unfold negP at e1 e2 h1; simp only at e1 e2
   have e : trn (addP a p) (addP b p) t = s * (trn c n p - trn c n (addP t (-a.1,-a.2))):=by
    unfold trn zQ subP addP; simp only
    rw [show b.1 + p.1 - (a.1 + p.1) = -(s * (n.1 - c.1)) by grind,show b.2 + p.2 - (a.2 + p.2) = -(s * (n.2 - c.2)) by grind]; grind
   rw [e]
   have:=Rat.mul_nonneg (Rat.le_of_lt hs) (show 0 ≤ -(trn c n p - trn c n (addP t (-a.1,-a.2))) by grind)
   grind
theorem corner_not {l : List P2} {i : Nat} (hi : i < l.length) : ¬ dK l (gp l i):=fun h => by
 have:=h.2 i hi
 rw [(fW _ (nx l i) (gp l i)).2.1] at this; exact absurd this (by grind)
end Go.SL
set_option maxHeartbeats 4000000
namespace Go.Proofs.YtflobagimodmgaaGreatDoor
open Go.SL Go.RowKit Go.Proofs Tryz
theorem wturn {p q : P2} {n m : Nat} (hn : n ≤ 20000) (hm : m ≤ 20000) : CTy prog 133 [ag (ptq n p),ag (ptq m q)] (exP (.int .i64 (sgnR (zQ p q)))):=by
 refine ctc func133 rfl rfl rfl rfl fun X => (zI (zK rfl (zA1 (obx rfl) (zA1 (obx rfl) (zA1 (oas rfl) (zA0 (zI (zK rfl (zA1 (old rfl rfl) ?_)))))))))
 refine zA1 (old rfl rfl) (zA1 (oca rfl rfl fun _ => kvcross (by omega) (by omega)) (zA1 (oca rfl rfl fun _ => wF (by omega)) (zA1 (oas rfl) (zA0 (yK (⟨[_],rst rfl rs0,yQ (PSub.refl _)⟩))))))
theorem zX3 {Ψ Φ : PV} {p q : P2} {n m : Nat} [h : QP Ψ n p] [k : QP Φ m q] (hn : n ≤ 20000) (hm : m ≤ 20000) : CTy prog 133 [Ψ,Φ] (exP (.int .i64 (sgnR (zQ p q)))):=qB (wturn hn hm) (fs1 qp_q (fs1 qp_q fs0))
theorem wquarter {p : P2} {n : Nat} (hn : n ≤ 20000) : CTy prog 141 [ag (ptq n p)] (exP (.int .i64 (xN p))):=by
 refine ctc func141 rfl rfl rfl rfl fun X => (zI (zK rfl (zA1 (obx rfl) (zA1 (oas rfl) (zA0 (zI (zI (xT 8 mixed rfl rfl (d1 (ofa rfl rfl) ?_)))))))))
 refine d1 (old rfl rfl) (d1 (oca rfl rfl fun _ => wF (by omega)) (d1 (ofa rfl rfl) (d1 (old rfl rfl) (d1 (oca rfl rfl fun _ => wF (by omega)) (d1 (oas rfl) (d1 (oas rfl) (d0 (zA0 (yO ?_)))))))))
 refine zI (zK rfl (zA1 (omv rfl) (zA1 (ogt rfl rfl) (zA1 (oas rfl) (zA0 ?_)))))
 refine t_if rfl (fun c0 => ?_) (fun c0 => ?_)
 refine zI (zK rfl (zA1 (oas rfl) (zA0 (yK (⟨[_],rst rfl rs0,yQ ?_⟩)))))
 refine ps_i ?_
 rotate_left 1
 refine zI (zK rfl (zA1 (omv rfl) (zA1 (oeq rfl rfl) (zA1 (omv rfl) (t1g rfl rfl (omv rfl) (t1g rfl rfl (ogt rfl rfl) (zA1 (opk rfl rfl rfl) (zA1 (oas rfl) (zA0 ?_)))))))))
 refine t_if rfl (fun c1 => ?_) (fun c1 => ?_)
 refine zI (zK rfl (zA1 (oas rfl) (zA0 (yK (⟨[_],rst rfl rs0,yQ ?_⟩)))))
 refine ps_i ?_
 rotate_left 1
 refine zI (zK rfl (zA1 (omv rfl) (zA1 (olt rfl rfl) (zA1 (oas rfl) (zA0 ?_)))))
 refine t_if rfl (fun c2 => ?_) (fun c2 => ?_)
 refine zI (zK rfl (zA1 (oas rfl) (zA0 (yK (⟨[_],rst rfl rs0,yQ ?_⟩)))))
 refine ps_i ?_
 rotate_left 1
 refine yY (zI (zK rfl (zA1 (oas rfl) (zA0 (yK (⟨[_],rst rfl rs0,yQ ?_⟩))))))
 refine ps_i ?_
 rotate_left 1
 ·exact (qt0 (bL.1 (dt c0))).symm
 ·have h:=dand c1
  exact (qt1 (lE.1 h.1) (bL.1 h.2)).symm
 ·exact (qt2 (rA.1 (dt c2))).symm
 ·have h0:=mt bL.2 (df c0)
  have h1:=dor c1
  rw [lE,bL] at h1
  have h2:=mt rA.2 (df c2)
  unfold xN; rw [if_neg h0,if_neg h1,if_neg h2]
theorem tP {Ψ : PV} {p : P2} {n : Nat} [h : QP Ψ n p] (hn : n ≤ 20000) : CTy prog 141 [Ψ] (exP (.int .i64 (xN p))):=qB (wquarter hn) (fs1 qp_q fs0)
theorem wahead {p q : P2} {n m : Nat} (hn : n ≤ 20000) (hm : m ≤ 20000) : CTy prog 81 [ag (ptq n p),ag (ptq m q)] (exP (.bool (gR p q))):=by
 refine ctc func81 rfl rfl rfl rfl fun X => (zI (zK rfl (zA1 (obx rfl) (zA1 (obx rfl) (zA1 (oas rfl) (zA0 (zI (zI (xT 6 mixed rfl rfl ?_)))))))))
 refine d1 (old rfl rfl) (d1 (oca rfl rfl fun _ => tP (by omega)) (d1 (old rfl rfl) (d1 (oca rfl rfl fun _ => tP (by omega)) (d1 (oas rfl) (d1 (oas rfl) (d0 (zA0 (zI (zK rfl ?_)))))))))
 refine zA1 (omv rfl) (zA1 (omv rfl) (zA1 (oni rfl rfl) (zA0 ?_)))
 refine t_if rfl (fun c0 => ?_) (fun c0 => ?_)
 refine zI (zK rfl (zA1 (omv rfl) (zA1 (omv rfl) (zA1 (olt rfl rfl) (zA1 (oas rfl) (zA0 (yK (⟨[_],rst rfl rs0,yQ ?_⟩))))))))
 refine psb ?_
 rotate_left 1
 refine yY (zI (zK rfl (zA1 (old rfl rfl) (zA1 (old rfl rfl) (zA1 (oca rfl rfl fun _ => zX3 (by omega) (by omega)) (zA1 (ogt rfl rfl) (zA1 (oas rfl) (zA0 (yK ?_)))))))))
 refine ⟨[_],rst rfl rs0,yQ ?_⟩
 refine psb ?_
 rotate_left 1
 ·have h:=dt c0
  unfold gR; rw [if_pos h]
 ·have h:=df c0
  unfold gR; rw [if_neg h,decide_eq_decide]; exact bL
theorem kahead {Ψ Φ : PV} {p q : P2} {n m : Nat} [h : QP Ψ n p] [k : QP Φ m q] (hn : n ≤ 20000) (hm : m ≤ 20000) : CTy prog 81 [Ψ,Φ] (exP (.bool (gR p q))):=qB (wahead hn hm) (fs1 qp_q (fs1 qp_q fs0))
theorem mG {t s : P2} {r : List P2} : (t :: s :: r).reverse.getD (r.length + 1) Df.d = t ∧ (t :: s :: r).reverse.getD r.length Df.d = s:=by
 rw [show (t :: s :: r).reverse = r.reverse ++ [s,t] by simp]
 constructor <;> simp [List.getD_eq_getElem?_getD]
theorem drop_step {cur : List P2} {p : P2} (h : Tr ((decide (1 < (cur.length : Int)) && decide (sgnR (zQ (subP (cur.reverse.getD (cur.length - 1) Df.d) (cur.reverse.getD (cur.length - 2) Df.d)) (subP p (cur.reverse.getD (cur.length - 1) Df.d))) ≤ 0)) = true)) : 1 < cur.length ∧ gQ p cur.tail = gQ p cur:=by
 obtain ⟨h1,h2⟩:=dand h
 match cur,h1,h2 with
 | t :: s :: r,h1,h2 =>
  refine ⟨by omega,?_⟩
  rw [show (t :: s :: r).length - 1 = r.length + 1 from rfl,show (t :: s :: r).length - 2 = r.length from rfl,mG.1,mG.2,rB] at h2
  rw [List.tail_cons]; conv => rhs; rw [gQ]
  rw [if_pos h2]
theorem drop_stop {cur : List P2} {p : P2} (h : Tr ((decide (1 < (cur.length : Int)) && decide (sgnR (zQ (subP (cur.reverse.getD (cur.length - 1) Df.d) (cur.reverse.getD (cur.length - 2) Df.d)) (subP p (cur.reverse.getD (cur.length - 1) Df.d))) ≤ 0)) = false)) : gQ p cur = cur:=by
 have h1:=dor h
 match cur,h1 with
 | [],_ => rfl
 | [_],_ => rfl
 | t :: s :: r,h1 =>
  rw [show (t :: s :: r).length - 1 = r.length + 1 from rfl,show (t :: s :: r).length - 2 = r.length from rfl,mG.1,mG.2,rB] at h1
  rw [gQ,if_neg fun c => h1 ⟨by simp only [List.length_cons]; omega,c⟩]
theorem dx1 {n : Nat} {q : Prop} (h : q ∧ decide (1 < (n : Int)) = true) : 1 < n:=by have:=of_decide_eq_true h.2; omega
theorem rev_tail {cur : List P2} {f : P2 → CT} (h : 1 < cur.length) : (cur.reverse.map f).take (cur.length - 1) = cur.tail.reverse.map f:=by
 match cur,h with
 | t :: r,_ => rw [List.reverse_cons,List.map_append,List.tail_cons,List.take_left' (by simp)]
theorem kdrop {acc : List P2} {p : P2} {n b : Nat} {v : Value} (hn : n ≤ 5000) (hl : acc.length ≤ 1000) : CTo prog 132 [ag (ptc n p),exP (.pointer (some ⟨b,0,none⟩))] [.row v 35 6 (acc.reverse.map (ptc n)),.blk b 22 [xc v]] (fun ρ So => ρ = tu [] ∧ ∃ v',So = [.row v' 35 6 ((gQ p acc).reverse.map (ptc n)),.blk b 22 [xc v']]):=by
 refine ctd func132 rfl rfl rfl rfl (fun _ _ _ _ _ _ _ hs hp => fO hs hp) fun X => (zI (zK rfl (zA1 (obx rfl) (zA0 (zI (zK rfl (zA1 (oldo 1 rfl rfl rfl rfl) (zA1 (olno 0 rfl rfl) (zA1 (oas rfl) ?_)))))))))
 refine zA0 (yO ?_)
 rotate_left 1
 refine jU (σ:=List P2 × Value) (fun s => [(3,True,exP (.int .i64 ((s.1.length : Nat) : Int)))]) (fun s => [.row s.2 35 6 (s.1.reverse.map (ptc n)),.blk b 22 [xc s.2]]) (fun s => s.1.length ≤ acc.length ∧ gQ p s.1 = gQ p acc) (fun s => s.1.length) ((acc,v)) (tk 1 rfl (tk 2 rfl tn)) ?_ rfl (⟨by simp,rfl⟩) (fun s hJ Y _ => ?_)
 refine tc rfl (ps_i (by (simp; done))) (tn)
 rotate_left 1
 obtain ⟨cur,v1⟩:=s
 dsimp only at hJ ⊢
 obtain ⟨j1,j2⟩:=hJ
 refine zI (zI (xT 24 mixed rfl rfl (d1 (omv rfl) (d1 (ogt rfl rfl) (d1 (omv rfl) (d1g rfl rfl (oldo 1 rfl rfl rfl rfl) (d1g rfl rfl (omv rfl) (d1g rfl rfl (osb rfl rfl (by omega)) (d1g rfl rfl (oixo 0 (cur.length - 1) rfl rfl rfl (fun h => by have:=dx1 h; omega) (fun h => by have:=dx1 h; simp only [List.length_map,List.length_reverse]; omega)) ?_)))))))))
 refine d1g rfl rfl (oldr 0 rfl rfl (fun g => (by (have:=dx1 ‹_›; simp only [List.length_map,List.length_reverse]; omega))) rfl) (d1g rfl rfl (oldo 1 rfl rfl rfl rfl) (d1g rfl rfl (omv rfl) (d1g rfl rfl (osb rfl rfl (by omega)) (d1g rfl rfl (oixo 0 (cur.length - 2) rfl rfl rfl (fun h => by have:=dx1 h; omega) (fun h => by have:=dx1 h; simp only [List.length_map,List.length_reverse]; omega)) (d1g rfl rfl (oldr 0 rfl rfl (fun g => (by (have:=dx1 ‹_›; simp only [List.length_map,List.length_reverse]; omega))) rfl) (d1g rfl rfl (oca rfl rfl fun g => zL5 (by omega) (by omega)) (d1g rfl rfl (old rfl rfl) (d1g rfl rfl (oldo 1 rfl rfl rfl rfl) (d1g rfl rfl (omv rfl) ?_)))))))))
 refine d1g rfl rfl (osb rfl rfl (by omega)) (d1g rfl rfl (oixo 0 (cur.length - 1) rfl rfl rfl (fun h => by have:=dx1 h; omega) (fun h => by have:=dx1 h; simp only [List.length_map,List.length_reverse]; omega)) (d1g rfl rfl (oldr 0 rfl rfl (fun g => (by (have:=dx1 ‹_›; simp only [List.length_map,List.length_reverse]; omega))) rfl) (d1g rfl rfl (oca rfl rfl fun g => zL5 (by omega) (by omega)) (d1g rfl rfl (oca rfl rfl fun g => zX3 (by omega) (by omega)) (d1g rfl rfl (ole rfl rfl) (d1 (opk rfl rfl rfl) (d0 (zA0 ?_))))))))
 refine t_if rfl (fun c0 => ?_) (fun c0 => ?_)
 refine yY (zI (yO (zK rfl (zA1 (oldo 1 rfl rfl rfl rfl) (zA1 (omv rfl) (zA1 (osb rfl rfl (by omega)) (tsh 0 (cur.length - 1) rfl rfl rfl (by (have e0:=dand c0; omega)) (by (simp; done)) fun r35 => (tsw 1 0 rfl rfl rfl rfl rfl rfl rfl (zA0 ?_)))))))))
 refine zK rfl (zA1 (omv rfl) (zA1 (osb rfl rfl (by omega)) (zA1 (oas rfl) (zA0 ?_))))
 rotate_left 1
 refine jY ?_
 rotate_left 1
 ·have hs:=drop_step c0
  refine ⟨(cur.tail,r35),tes ?_ ?_ ?_,?_,(by (simp; omega))⟩
  refine tc rfl (ps_i (by (simp; omega))) (tn)
  refine tc rfl (ps_r _) (tc rfl (ps_r _) (tn))
  rotate_left 1
  rotate_left 1
  ·rw [rev_tail hs.1]; exact List.Sublist.refl _
  ·exact ⟨by simp only [List.length_tail]; omega,hs.2.trans j2⟩
 ·refine ⟨[],tu [],_,rs0,List.Sublist.refl _,⟨rfl,v1,by rw [← j2,drop_stop c0]⟩,zW9⟩
end Go.Proofs.YtflobagimodmgaaGreatDoor
set_option maxHeartbeats 4000000
namespace Go.Proofs.YtflobagimodmgaaGreatDoor
open Go.SL Go.RowKit Go.Proofs Tryz
theorem oD : ∀ (l : List P2) (acc : List P2) (p : P2),xW acc (l ++ [p]) = p :: gQ p (xW acc l)
 | [],_,_ => rfl
 | q :: l,acc,p => by rw [List.cons_append,xW,xW]; exact oD l _ p
theorem lN (p : P2) : ∀ l : List P2,(gQ p l).length ≤ l.length
 | [] => Nat.le_refl _
 | [_] => Nat.le_refl _
 | t :: s :: r => by
  rw [gQ]; split
  ·have:=lN p (s :: r); simp only [List.length_cons] at *; omega
  ·exact Nat.le_refl _
theorem dG : ∀ (l acc : List P2),(xW acc l).length ≤ acc.length + l.length
 | [],_ => Nat.le_refl _
 | p :: l,acc => by
  rw [xW]
  have h1:=dG l (p :: gQ p acc)
  have h2:=lN p acc
  simp only [List.length_cons] at *; omega
theorem zT1 {l : List P2} {n : Nat} (hn : n ≤ 5000) (hl : l.length ≤ 500) : CTy prog 72 [sv (sl 6 (l.map (ptc n)))] (sv (sl 6 ((xW [] l).reverse.map (ptc n)))):=by
 refine ctc func72 rfl rfl rfl rfl fun X => (zI (zK rfl (zA1 (oas rfl) (zA0 (zI (zK rfl (tal fun b3 => (zA0 (zI ?_)))))))))
 refine zK rfl (zA1 (omf rfl) (zA1 (oas rfl) (zA0 (zI (zI (zK rfl (zA1 (omv rfl) (zA1 (oln rfl) (zA1 (omv rfl) ?_)))))))))
 refine zA0 (yO ?_)
 rotate_left 1
 refine t_ts (nA 35 6) ?_
 refine jU (σ:=Nat × Value) (fun s => [(10,True,exP (.int .i64 ((s.1 : Nat) : Int)))]) (fun s => [.row s.2 35 6 ((xW [] (l.take s.1)).reverse.map (ptc n)),.blk b3 22 [xc s.2]]) (fun s => s.1 ≤ l.length) (fun s => l.length - s.1) ((0,.slice none 0 0)) (tk 3 rfl (tk 4 rfl (tk 8 rfl (tk 9 rfl tn)))) ?_ rfl ((by simp)) (fun s hJ Y _ => ?_)
 refine tc rfl (ps_r _) (tn)
 rotate_left 1
 have hc:=dG (l.take s.1) []
 have hd:=fun p => lN p (xW [] (l.take s.1))
 rw [List.length_take,List.length_nil] at hc
 refine zI (zK rfl (zA1 (olt rfl rfl) (zA0 (zI ?_))))
 refine t_if rfl (fun c0 => ?_) (fun c0 => ?_)
 refine yY (zI (yO (zI (zK rfl (zA1 (oix _ rfl rfl rfl (fun _ => rfl) (fun _ => (by (have e0:=dt c0; omega)))) (zA1 (old rfl rfl) (tal fun b6 => (tst 0 rfl rfl rfl rfl rfl rfl (kT (aG (s:=6) 0 rfl rfl) ?_)))))))))
 refine zA0 (zI (zK rfl (zA1 (omv rfl) (zA1 (old rfl rfl) ?_))))
 rotate_left 1
 refine jY (zI (zK rfl (zA1 (oldo 1 rfl rfl rfl rfl) (zA1 (oas rfl) (zA0 (t_ts (aT (s:=2) 0 rfl rfl) (yK (⟨[_],rst rfl rs0,yQ ?_⟩))))))))
 rotate_left 1
 ·have h0:=dt c0
  refine tco [0,1] rfl rfl rfl (kdrop (n:=n) (acc:=xW [] (l.take s.1)) (p:=l.getD s.1 Df.d) (by omega) (by omega)) ?_
  rintro _ _ ⟨rfl,v',rfl⟩
  refine zA0 (zK rfl (zA1 (oldo 1 rfl rfl rfl rfl) (zA1 (old rfl rfl) (zA1 (obs rfl rfl rfl rfl rfl rfl) ?_))))
  refine tap 0 rfl rfl rfl ?_ rfl fun r20 => ?_
  rotate_left 1
  refine tsw 1 0 rfl rfl rfl rfl rfl rfl rfl (zA0 (zK rfl (zA1 (oad rfl rfl (by omega)) (zA1 (omv rfl) (zA0 ?_)))))
  rotate_left 1
  ·have:=hd (l.getD s.1 Df.d)
   simp only [List.length_map,List.length_reverse,List.length_cons,List.length_nil]; omega
  ·refine ⟨(s.1 + 1,r20),tes ?_ ?_ ?_,(by omega),(by omega)⟩
   refine tc rfl (ps_r _) (tn)
   refine tc rfl (ps_r _) (tc rfl (ps_r _) (tc rfl (ps_r _) (tc rfl (ps_r _) (tn))))
   rotate_left 1
   rw [(jJ (Df.d : P2) (show s.1 < l.length by omega)).1,oD,List.reverse_cons,List.map_append]
   exact List.Sublist.refl _
 ·have h0:=df c0
  rw [List.take_of_length_le (by omega)]
  exact PSub.refl _
theorem kvnormo {Ψ : PV} {l : List P2} {n : Nat} [h : VPt Ψ n l] (hn : n ≤ 20000) (hl : l.length ≤ 1000000) : CTo prog 67 [Ψ] [] (fun ρ So => ∃ v,ρ = exP v ∧ So = [.row v 35 6 (l.map (ptc (n + 1)))]):=by
 refine cto_w (σs:=[sv (sl 6 (l.map (ptq n)))]) ?_ (fs1 bH fs0)
 refine ctd func67 rfl rfl rfl rfl (fun _ _ _ _ _ _ _ hs hp => fO hs hp) fun X => (zI (zK rfl (zA1 (oas rfl) (zA0 (zI (zI (zK rfl (zA1 (omv rfl) (zA1 (oln rfl) ?_)))))))))
 refine zA1 (omv rfl) (zA0 (yO ?_))
 rotate_left 1
 refine t_ts (nA 35 6) ?_
 refine jU (σ:=Nat × Value) (fun s => [(2,True,exP s.2),(7,True,exP (.int .i64 ((s.1 : Nat) : Int)))]) (fun s => [.row s.2 35 6 ((l.take s.1).map (ptc (n + 1)))]) (fun s => s.1 ≤ l.length) (fun s => l.length - s.1) ((0,.slice none 0 0)) (tk 5 rfl (tk 6 rfl tn)) ?_ rfl ((by simp)) (fun s hJ Y _ => ?_)
 refine tc rfl (ps_r _) (tc rfl (ps_r _) (tn))
 rotate_left 1
 refine zI (zK rfl (zA1 (olt rfl rfl) (zA0 (zI ?_))))
 refine t_if rfl (fun c0 => ?_) (fun c0 => ?_)
 refine yY (zI (yO (zI (zK rfl (zA1 (oix _ rfl rfl rfl (fun _ => rfl) (fun _ => (by (have e0:=dt c0; omega)))) (zA1 (old rfl rfl) (tal fun b4 => (tst 0 rfl rfl rfl rfl rfl rfl (kT (aG (s:=4) 0 rfl rfl) ?_)))))))))
 refine zA0 (xT 9 mixed rfl rfl (d1 (omv rfl) (d1 (ofa rfl rfl) (d1 (old rfl rfl) (d1 (oca rfl rfl fun _ => zS8 (by omega)) (d1 (ofa rfl rfl) (d1 (old rfl rfl) (d1 (oca rfl rfl fun _ => zS8 (by omega)) ?_))))))))
 refine d1 (obd rfl rfl rfl) (d1 (obs rfl rfl rfl rfl rfl rfl) (d0 (tap 0 rfl rfl rfl (by (simp; omega)) rfl fun r20 => (zA1 (oas rfl) (zA0 (zK rfl (zA1 (oad rfl rfl (by omega)) (zA1 (omv rfl) (zA0 ?_)))))))))
 rotate_left 1
 refine jY (zI (zK rfl (zA1 (omv rfl) (zA1 (oas rfl) (zA0 (yK ?_))))))
 rotate_left 1
 ·refine ⟨(s.1 + 1,r20),tes ?_ ?_ ?_,(by (have e0:=dt c0; omega)),(by (have e0:=dt c0; omega))⟩
  refine tc rfl (ps_r _) (tc rfl (ps_r _) (tn))
  refine tc rfl (ps_r _) (tc rfl (ps_r _) (tn))
  rotate_left 1
  rw [(jJ (Df.d : P2) (show s.1 < l.length by have:=dt c0; omega)).1,List.map_append]
  exact List.Sublist.refl _
 ·have h0:=df c0
  exact ⟨[_],exP s.2,_,rst rfl rs0,List.Sublist.refl _,⟨s.2,rfl,by rw [List.take_of_length_le (by omega)]⟩,yQ (PSub.refl _)⟩
theorem kclone {l : List P2} {n : Nat} (h0 : 0 < l.length) (hl : l.length ≤ 1000) : CTo prog 73 [sv (sl 6 (l.map (ptc n)))] [] (fun ρ So => ∃ v,ρ = exP v ∧ So = [.row v 35 6 (l.map (ptc n))]):=by
 refine ctd func73 rfl rfl rfl rfl (fun _ _ _ _ _ _ _ hs hp => fO hs hp) fun X => (zI (zK rfl (zA1 (oas rfl) (zA0 (zI (zI (zK rfl (zA1 (omv rfl) (zA1 (oqn rfl (fun _ => (by (simp; omega)))) ?_)))))))))
 refine zA0 (zV8 rfl rfl (yY (zI (zK rfl (tbs0 fun r5 => (zA1 (omv rfl) (tap 0 rfl rfl rfl (by (simp; omega)) rfl fun r7 => (zA1 (oas rfl) (zA0 ?_)))))))))
 refine yK ?_
 rotate_left 1
 exact ⟨[_],exP r7,_,rst rfl rs0,List.Sublist.refl _,⟨r7,rfl,rfl⟩,yQ (PSub.refl _)⟩
theorem krevP {v : Value} {l : List P2} {n : Nat} (h0 : 0 < l.length) (hl : l.length ≤ 1000000) : CTo prog 74 [exP v] [.row v 35 6 (l.map (ptc n))] (fun r So => r = tu [] ∧ So = [.row v 35 6 (l.reverse.map (ptc n))]) :=
 trev (ρ:=revPt_ren) revPt rfl rS (gN sz35) (fun _ => rfl) (bo func74) h0 hl
end Go.Proofs.YtflobagimodmgaaGreatDoor
set_option maxHeartbeats 4000000
namespace Go.Proofs.YtflobagimodmgaaGreatDoor
open Go.SL Go.RowKit Go.Proofs Tryz
theorem chain_two {l : List P2} (h2 : 2 ≤ l.length) (hs : l.Pairwise ltP) : 2 ≤ (xW [] l).length ∧ 2 ≤ (xW [] l.reverse).length:=by
 obtain ⟨mn,mx,A,B,cl,ch,eS,mnl,mxl,hlt,hmx,hmn,eL,eH⟩:=lL h2 hs
 rw [eL,eH]; simp only [List.length_cons,List.length_append,List.length_nil]; omega
theorem lM {α β : Type} (f : α → β) (l : List α) : (l.reverse.drop 0).take (l.length - 1 - 0) = l.reverse.dropLast:=by
 rw [List.drop_zero,Nat.sub_zero,List.dropLast_eq_take,List.length_reverse]
theorem oZ {Ψ : PV} {l : List P2} {n : Nat} [h : VPt Ψ n l] (hn : n ≤ 4000) (hl : l.length ≤ 400) : CTy prog 13 [Ψ] (sv (sl 6 ((hullF l).map (ptc (n + 1))))):=by
 refine qB (σs:=[sv (sl 6 (l.map (ptq n)))]) ?_ (fs1 bH fs0)
 refine ctc func13 rfl rfl rfl rfl fun X => (zI (zK rfl (zA1 (oas rfl) (zA0 (zI (zK rfl (zA1 (omv rfl) (tco [] rfl rfl rfl (kvnormo (by omega) (by omega)) ?_))))))))
 rotate_left 1
 rintro _ _ ⟨v,rfl,rfl⟩
 refine zA1 (oas rfl) (zA0 (zI (zK rfl (zA1 (omv rfl) ?_))))
 rotate_left 1
 refine tco [0] rfl rfl rfl (ksortP (by omega) (by omega)) ?_
 rintro _ _ ⟨rfl,l',hp',hso,rfl⟩
 have hll:=hp'.length_eq
 refine zA0 (zI (zK rfl (zA1 (omv rfl) ?_)))
 rotate_left 1
 refine tco [0] rfl rfl rfl (wcompactP (by omega) (by omega)) ?_
 rintro _ _ ⟨v3,rfl,rfl⟩
 have hsl:=setOf_len zM9 l
 rw [show uQ eqP Df.d l' l'.length = setOf cmpP l from (sd_of_sort zM9 hp' hso).eq zM9]
 refine zA1 (oas rfl) (zA0 (zI (zI (zK rfl (zA1 (omv rfl) (zA1 (olno 0 rfl rfl) (zA1 (olt rfl rfl) (zA0 ?_))))))))
 refine t_if rfl (fun c0 => ?_) (fun c0 => ?_)
 refine zI (zK rfl (zA1 (omv rfl) (zA1 (oas rfl) (zA0 (t_ts (aT (s:=2) 0 rfl rfl) (yK (⟨[_],rst rfl rs0,yQ ?_⟩)))))))
 rotate_left 1
 rotate_left 1
 ·have h0:=dt c0
  exact ps_p (by unfold hullF uH; rw [if_pos (by omega)])
 have h0:=df c0
 obtain ⟨c2,c3⟩:=chain_two (l:=setOf cmpP l) (by omega) (mF l)
 have hL:=dG (setOf cmpP l) []
 have hH:=dG (setOf cmpP l).reverse []
 rw [List.length_nil] at hL hH
 rw [List.length_reverse] at hH
 refine t_ts (aT 0 rfl (s:=3) rfl) ?_
 refine yY (zI (zK rfl (zA1 (omv rfl) (zA1 (oca rfl rfl fun _ => zT1 (by omega) (by omega)) (zA1 (oas rfl) (zA0 (zI (zK rfl (zA1 (omv rfl) ?_)))))))))
 refine tco [] rfl rfl rfl (kclone (by omega) (by omega)) ?_
 rotate_left 1
 rintro _ _ ⟨v5,rfl,rfl⟩
 refine zA1 (oas rfl) (zA0 (zI (zK rfl (zA1 (omv rfl) (tco [0] rfl rfl rfl (krevP (by omega) (by omega)) ?_)))))
 rotate_left 1
 rintro _ _ ⟨rfl,rfl⟩
 refine zA0 (t_ts (aT 0 rfl (s:=5) rfl) ?_)
 refine zI (zK rfl (zA1 (omv rfl) (zA1 (oca rfl rfl fun _ => zT1 (by omega) (by (simp; omega))) (zA1 (oas rfl) (zA0 (zI (zI3 1 14 [(13,38,0)] rfl rfl mixed rfl rfl (cx1 (omv rfl) rfl (cx1 (omv rfl) rfl ?_)))))))))
 refine cx1 (oln rfl) rfl (cx1 (osb rfl rfl (by (simp; omega))) rfl (cx1 (omv rfl) rfl (cx1 (oln rfl) rfl (cx1 (osb rfl rfl (by (simp; omega))) rfl (cx1 (osl3 ((xW [] (setOf cmpP l)).length - 1) rfl rfl rfl (fun _ => (by (simp; omega))) (fun _ => (by (simp; omega))) (fun _ => (by (simp; done)))) rfl (cx1 (omv rfl) rfl (cx1 (omv rfl) rfl (cx1 (oln rfl) rfl (cx1 (osb rfl rfl (by (simp; omega))) rfl ?_)))))))))
 refine cx1 (osl 0 ((xW [] (setOf cmpP l).reverse).length - 1) rfl rfl ⟨_,_,_,_,rfl,fun _ => ⟨⟩,inferInstance,fun _ => (by (simp; omega))⟩ (fun _ => (by omega)) (fun _ => (by (simp; done)))) rfl (cN rfl rfl (capX rfl rfl (by (simp; omega)) (by (simp; omega)) (by (simp; omega)) rfl) ?_)
 refine cE (fun r38 => ?_)
 refine zA1 (oas rfl) (zA0 (t_ts (aT (s:=2) 0 rfl rfl) (yK (⟨[_],rst rfl rs0,yQ ?_⟩))))
 rotate_left 1
 all_goals first
  | (rw [List.length_reverse]; omega)
  | (rw [List.length_map,lM id,List.length_dropLast,List.length_reverse]; omega)
  | (rw [lM id,lM id,← List.map_append]; exact ps_p (by unfold hullF uH; rw [if_neg (by omega)]))
end Go.Proofs.YtflobagimodmgaaGreatDoor
set_option maxHeartbeats 4000000
namespace Go.Proofs.YtflobagimodmgaaGreatDoor
open Go.SL Go.RowKit Go.Proofs Tryz
theorem vE : ∀ (C : List P2) (i : Nat),i + 1 < C.length → (xY C)[i]? = some (subP (gp C (i + 1)) (gp C i))
 | [],_,h => by simp at h
 | [_],_,h => by simp at h
 | a :: b :: r,0,_ => rfl
 | a :: b :: r,i + 1,h => by
  have:=vE (b :: r) i (by simp only [List.length_cons] at h ⊢; omega)
  simpa [xY] using this
theorem edgesP_at {h : List P2} {i : Nat} (h1 : 1 < h.length) (hi : i < h.length) : (xP h)[i]? = some (subP (nx h i) (gp h i)):=by
 unfold xP
 rw [if_pos h1,vE _ i (by simp; omega)]
 have e1 : gp (h ++ [gp h 0]) i = gp h i:=by
  unfold gp; rw [List.getD_eq_getElem?_getD,List.getElem?_append_left hi,List.getD_eq_getElem?_getD]
 have e2 : gp (h ++ [gp h 0]) (i + 1) = nx h i:=by
  unfold nx
  rcases Nat.lt_or_ge (i + 1) h.length with c | c
  ·rw [Nat.mod_eq_of_lt c]; unfold gp; rw [List.getD_eq_getElem?_getD,List.getElem?_append_left c,List.getD_eq_getElem?_getD]
  ·have : i + 1 = h.length:=by omega
   rw [this,Nat.mod_self]; unfold gp; rw [List.getD_eq_getElem?_getD,List.getElem?_append_right (Nat.le_refl _)]; simp
 rw [e1,e2]
theorem iP {h : List P2} {i : Nat} (h1 : 1 < h.length) (hi : i < h.length) : (∃ post,xP h = (xP h).take i ++ subP (nx h i) (gp h i) :: post) ∧ (xP h).take (i + 1) = (xP h).take i ++ [subP (nx h i) (gp h i)]:=by
 have h2:=edgesP_at h1 hi
 obtain ⟨hl,e⟩:=List.getElem?_eq_some_iff.1 h2
 refine ⟨⟨(xP h).drop (i + 1),?_⟩,?_⟩
 ·rw [← e,List.getElem_cons_drop,List.take_append_drop]
 ·rw [List.take_succ_eq_append_getElem hl,e]
theorem zU3 {h : List P2} {n : Nat} (hn : n ≤ 5000) (hl : h.length ≤ 1000000) : CIt prog 137 [pa (sl 6 (h.map (ptc n)))] (xP h) (fun e => [ag (ptc (2 * n + 3) e)]):=by
 refine cit func137 rfl rfl rfl rfl rfl fun X y YS YX hY hS => (zI (zK rfl (zA1 (old rfl rfl) (zA1 (oln rfl) (zA1 (omv rfl) (zA0 (yO ?_)))))))
 rotate_left 1
 refine sL (σ:=Nat) (fun i => [(7,True,exP (.int .i64 ((i : Nat) : Int)))]) (fun i => []) (fun i Y => YS ((xP h).take i) Y ∧ i ≤ h.length) (fun i => h.length - i) (0) (tk 0 rfl (tk 1 rfl (tk 5 rfl (tk 6 rfl tn)))) ?_ rfl (⟨hS,by omega⟩) (fun i Y hG => ?_)
 refine tc rfl (ps_r _) (tn)
 rotate_left 1
 obtain ⟨hS,hi⟩:=hG
 refine zI (zK rfl (zA1 (olt rfl rfl) (zA0 (zI ?_))))
 refine t_if rfl (fun c0 => ?_) (fun c0 => ?_)
 refine yY (zI (yO (zI (zK rfl (zA1 (omv rfl) (zA1 (oix _ rfl rfl rfl (fun _ => rfl) (fun _ => (by (have e0:=dt c0; omega)))) (zA1 (old rfl rfl) (tal fun b4 => (zA1 (oas rfl) ?_)))))))))
 refine tst 0 rfl rfl rfl rfl rfl rfl (kT (aG (s:=4) 0 rfl rfl) (zA0 (zI (xT 15 mixed rfl rfl (d1 (old rfl rfl) (d1 (oln rfl) (d1 (ogt rfl rfl) (d1 (omv rfl) (d1g rfl rfl (omv rfl) ?_)))))))))
 refine d1g rfl rfl (old rfl rfl) (d1g rfl rfl (omv rfl) (d1g rfl rfl (oad rfl rfl (by omega)) (d1g rfl rfl (old rfl rfl) (d1g rfl rfl (oln rfl) (d1g rfl rfl (orm rfl rfl (by (have e0:=dt c0; omega))) ?_)))))
 refine d1g rfl rfl (oix _ rfl rfl rfl (fun g => rfl) (fun g => ?_)) ?_
 rotate_left 1
 refine d1g rfl rfl (old rfl rfl) (d1g rfl rfl (old rfl rfl) (d1g rfl rfl (oca rfl rfl fun g => zL5 (by omega) (by omega)) (d0 ?_)))
 rotate_left 1
 refine jY ?_
 rotate_left 1
 ·have:=dt c0
  exact Nat.mod_lt _ (by omega)
 have h2 : i < h.length:=by have:=dt c0; omega
 refine t_yieldh hY hS rfl rfl (fun e => (iP (by have:=of_decide_eq_true e; omega) h2).1) rfl rfl (fs1 (zR2 (p:=subP (nx h i) (gp h i)) rfl (by omega)) fs0) (fun e => ?_) (fun e Y hS => ?_) (fun e Y hX => ?_)
 ·refine t1g rfl rfl (ont rfl) (zA1 (opk rfl rfl rfl) (zA0 ?_))
  refine t_if rfl (fun c1 => ?_) (fun c1 => ?_)
  refine yK ?_
  rotate_left 1
  refine yY (zK rfl (zA1 (oad rfl rfl (by omega)) (zA1 (omv rfl) (zA0 ?_))))
  rotate_left 1
  ·exact absurd c1.h (by simp)
  ·have he : xP h = []:=by unfold xP; rw [if_neg fun c => e (decide_eq_true (by omega))]
   refine ⟨i + 1,tes ?_ ?_ (List.Sublist.refl _),?_,(by omega)⟩
   refine tc rfl (ps_r _) (tn)
   refine tc rfl (ps_r _) (tc rfl (ps_r _) (tc rfl (ps_r _) (tc rfl (ps_r _) (tn))))
   rotate_left 1
   exact ⟨by rw [he] at hS ⊢; simpa using hS,by omega⟩
 ·have h1 : 1 < h.length:=by have:=of_decide_eq_true e; omega
  refine t1g rfl rfl (ont rfl) (zA1 (opk rfl rfl rfl) (zA0 ?_))
  refine t_if rfl (fun c1 => ?_) (fun c1 => ?_)
  refine yK ?_
  rotate_left 1
  refine yY (zK rfl (zA1 (oad rfl rfl (by omega)) (zA1 (omv rfl) (zA0 ?_))))
  rotate_left 1
  ·exact absurd c1.h (by simp)
  ·refine ⟨i + 1,tes ?_ ?_ (List.Sublist.refl _),?_,(by omega)⟩
   refine tc rfl (ps_r _) (tn)
   refine tc rfl (ps_r _) (tc rfl (ps_r _) (tc rfl (ps_r _) (tc rfl (ps_r _) (tn))))
   rotate_left 1
   exact ⟨by rw [(iP h1 h2).2]; exact hS,by omega⟩
 ·refine t1g rfl rfl (ont rfl) (zA1 (opk rfl rfl rfl) (zA0 ?_))
  refine t_if rfl (fun c1 => ?_) (fun c1 => ?_)
  refine yK ?_
  rotate_left 1
  refine yY (zK rfl (zA1 (oad rfl rfl (by omega)) (zA1 (omv rfl) (zA0 ?_))))
  rotate_left 1
  ·exact .inr hX
  ·rw [e] at c1; exact absurd c1.h (by simp)
 ·have : i = h.length:=by have:=df c0; omega
  subst this
  rw [List.take_of_length_le (by rw [cH]; split <;> omega)] at hS
  exact .inl hS
theorem zT0 {h : List P2} {n : Nat} : CTy prog 79 [sv (sl 6 (h.map (ptc n)))] (fn 137 [pa (sl 6 (h.map (ptc n)))]):=by
 refine ctc func79 rfl rfl rfl rfl fun X => (zI (zK rfl (zA1 (obx rfl) (zA1 (oas rfl) (zA0 (zI (zK rfl (zA1 (omf rfl) (zA1 (oas rfl) ?_)))))))))
 refine zA0 (yK (⟨[_],rst rfl rs0,yQ (PSub.refl _)⟩))
theorem kappP {g : FuncId} {caps : List PV} {xs : List P2} {m : Nat} (it : CIt prog g caps xs (fun e => [ag (ptc m e)])) (hl : xs.length ≤ 1000) : CTy prog 136 [exP (.slice none 0 0),fn g caps] (sv (sl 6 (xs.map (ptc m)))):=by
 refine ctc func136 rfl rfl rfl rfl fun X => (zI (zK rfl (tbx (hc:=cts1) rfl fun b2 => (zA1 (oas rfl) (zA0 (zI (zI (zK rfl (zA1 (omv rfl) ?_)))))))))
 refine zA0 (yO ?_)
 rotate_left 1
 refine t_ts (nA 35 6) ?_
 refine pU (σ:=List P2 × Value) (fun t => [.row t.2 35 6 (t.1.map (ptc m)),.blk b2 22 [xc t.2]]) (fun pre t => t.1 = pre) ([],.slice none 0 0) rfl it (fun _ => rfl) rfl zR8 (by simp) rfl (fun pre x post t hx hJ Y y hl => ?_) (fun t hJ Y _ => ?_)
 ·obtain ⟨pr,v1⟩:=t
  obtain rfl : pr = pre:=hJ
  have h1 : pr.length ≤ 1000:=by have:=congrArg List.length hx; simp at this; omega
  refine zK rfl (tal fun b5 => (tst 0 rfl rfl rfl rfl rfl rfl (kT (aG (s:=5) 0 rfl rfl) (zA0 (⟨rfl,fun Y hl => (yO (zK rfl (zA1 (oldo 1 rfl rfl rfl rfl) (zA1 (old rfl rfl) ?_))))⟩)))))
  refine zA1 (obs rfl rfl rfl rfl rfl rfl) (tap 0 rfl rfl rfl (by (simp; omega)) rfl fun r11 => (tsw 1 0 rfl rfl rfl rfl rfl rfl rfl (zA0 ?_)))
  rotate_left 1
  refine ⟨(pr ++ [x],r11),(by (simp; done)),rfl⟩
 ·obtain ⟨_,v1⟩:=t
  obtain rfl : _ = xs:=hJ
  refine zI (zK rfl (zA1 (oldo 1 rfl rfl rfl rfl) (zA1 (oas rfl) (zA0 (t_ts (aT (s:=4) 0 rfl rfl) (yK (⟨[_],rst rfl rs0,yQ (PSub.refl _)⟩)))))))
theorem zY3 {g : FuncId} {caps : List PV} {xs : List P2} {m : Nat} (it : CIt prog g caps xs (fun e => [ag (ptc m e)])) (hl : xs.length ≤ 1000) : CTy prog 78 [fn g caps] (sv (sl 6 (xs.map (ptc m)))):=by
 refine ctc func78 rfl rfl rfl rfl fun X => (zI (zK rfl (zA1 (oas rfl) (zA0 (zI (zK rfl (zA1 (omv rfl) (zA1 (oca rfl rfl fun _ => kappP it (by omega)) (zA1 (oas rfl) ?_)))))))))
 refine zA0 (yK (⟨[_],rst rfl rs0,yQ (PSub.refl _)⟩))
end Go.Proofs.YtflobagimodmgaaGreatDoor
set_option maxHeartbeats 4000000
namespace Go.Proofs.YtflobagimodmgaaGreatDoor
open Go.SL Go.RowKit Go.Proofs Tryz
section
variable {Ψ Φ : PV} {n m N : Nat} {p q : P2} {a b : List P2}
theorem ps_pl {p q : P2} {n N : Nat} (e : p = q) (h : plen q N) : PSub (ag (st [rtc n p.1,rtc n p.2])) (ag (ptc N q)):=fun M w v ⟨us,e1,x,y,e2,⟨s,a,d,k1,g1⟩,z,o,e3,⟨t,b,f,k2,g2⟩,e4⟩ => by
 subst e; exact ⟨us,e1,x,y,e2,⟨s,a,d,k1,g1.relen h.x⟩,z,o,e3,⟨t,b,f,k2,g2.relen h.y⟩,e4⟩
theorem wE [h : QP Ψ n p] [k : QP Φ m q] (hn : n ≤ 30000) (hm : m ≤ 30000) (hr : plen (addP p q) N) : CTy prog 80 [Ψ,Φ] (ag (ptc N (addP p q))):=oA (kvadd hn hm) (ps_pl rfl hr)
theorem zO8 [h : VPt Ψ n a] {M : Nat → Prop} {w : World} {v : Value} (h1 : Ψ.p M w v) : ∀ x ∈ a,plen x (n + 1):=fun x hx => by
 obtain ⟨cs,h3,h2⟩:=(h.h h1).row
 obtain ⟨i,hi,rfl⟩:=List.mem_iff_getElem.1 hx
 obtain ⟨us,_,_,s,x,d,t,b,e,_,g⟩:=h2 i _ (List.getElem?_eq_getElem hi)
 exact ⟨g.x.rlen,g.y.rlen⟩
theorem cty_2pt [h : VPt Ψ n a] [k : VPt Φ m b] {P : Program} {f : FuncId} {ρ : PV} (hb : Bod P f) (hr : (∀ x ∈ a,plen x (n + 1)) → (∀ x ∈ b,plen x (m + 1)) → CTy P f [sv (sl 6 (a.map (ptq n))),sv (sl 6 (b.map (ptq m)))] ρ) : CTy P f [Ψ,Φ] ρ :=
 ⟨hb,fun M w vs hM hT hv => by
  obtain ⟨v,u,_,h1,h2⟩:=fa2 hv
  exact (hr (zO8 h1) (zO8 h2)).run M w vs hM hT ((fs1 bH (fs1 bH fs0)) _ _ _ hv)⟩
end
theorem ps_nil0 {k : Nat} : PSub (exP (.slice none 0 0)) (sv (sl k [])):=fun M w v h => by
 obtain rfl : v = .slice none 0 0:=h
 exact ⟨_,[],rfl,⟨by simp,by simp,none,0,rfl,Nat.le_refl _,.inl rfl⟩,rfl,by simp [aD]⟩
theorem zO7 {h k s t : List P2} (hh : h ≠ []) (hk : k ≠ []) (e : mrg (xP h) (xP k) = s ++ t) : ∃ x ∈ h,∃ y ∈ k,addP (addP (gp h 0) (gp k 0)) (sumP s) = addP x y:=by
 obtain ⟨p1,p2,q1,q2,h1,h2,h3⟩:=zL0 _ _ e
 refine ⟨_,fB hh h1,_,fB hk h2,?_⟩
 rw [h3]; unfold addP; rw [Prod.ext_iff]; constructor <;> simp only <;> grind
structure MJ (h k : List P2) (p q : List P2) (at' : P2) (out : List P2) : Prop where
 way : out ++ wayS at' (mrg p q) = outS h k
 at_ : ∃ s,mrg (xP h) (xP k) = s ++ mrg p q ∧ at' = addP (addP (gp h 0) (gp k 0)) (sumP s)
theorem mj0 {h k : List P2} : MJ h k (xP h) (xP k) (addP (gp h 0) (gp k 0)) [addP (gp h 0) (gp k 0)]:=⟨rfl,[],rfl,(jI _).symm⟩
theorem rL {h k p q out : List P2} {d at' : P2} (j : MJ h k (d :: p) q at' out) (hc : q = [] ∨ gR d (q.getD 0 Df.d) = true) : mrg (d :: p) q = d :: mrg p q:=by
 match q,hc with
 | [],_ => rw [rK,rK]
 | b :: q,hc =>
  have : gR d b = true:=hc.elim (fun c => by cases c) id
  rw [mrg,if_pos this]
theorem nQ {h k p q out : List P2} {d at' : P2} (j : MJ h k p (d :: q) at' out) (hc : p = [] ∨ gR (p.getD 0 Df.d) d = false) : mrg p (d :: q) = d :: mrg p q:=by
 match p,hc with
 | [],_ => rw [tK,tK]
 | a :: p,hc =>
  have : gR a d = false:=hc.elim (fun c => by cases c) id
  rw [mrg,if_neg (by rw [this]; simp)]
theorem eX {h k p q p' q' out : List P2} {d at' : P2} (j : MJ h k p q at' out) (e : mrg p q = d :: mrg p' q') : (mrg p' q' = [] → out = outS h k) ∧ (mrg p' q' ≠ [] → MJ h k p' q' (addP at' d) (out ++ [addP at' d])) ∧ ∃ s,mrg (xP h) (xP k) = s ++ mrg p' q' ∧ addP at' d = addP (addP (gp h 0) (gp k 0)) (sumP s):=by
 obtain ⟨j1,s,j2,j3⟩:=j
 have h3 : ∃ s,mrg (xP h) (xP k) = s ++ mrg p' q' ∧ addP at' d = addP (addP (gp h 0) (gp k 0)) (sumP s):=⟨s ++ [d],by rw [j2,e]; simp,by rw [j3,nB,qT]; congr 2; rw [sumP,show sumP [] = (0,0) from rfl,jI]⟩
 refine ⟨fun h0 => ?_,fun h0 => ⟨?_,h3⟩,h3⟩
 ·rw [e,h0,wayS,List.append_nil] at j1; exact j1
 ·rw [e] at j1
  match hm : mrg p' q',h0 with
  | f :: l,_ => rw [hm,wayS] at j1; rw [← j1]; simp
theorem mp_l {p q : List P2} {b : Bool} (h1 : 0 < (p.length : Int) + (q.length : Int)) (h : Tr ((decide ((q.length : Int) = 0) || (decide (0 < (p.length : Int)) && b)) = true)) : ∃ d p',p = d :: p' ∧ (q = [] ∨ b = true):=by
 have h:=h.h
 rw [Bool.or_eq_true,Bool.and_eq_true,decide_eq_true_eq,decide_eq_true_eq] at h
 match p with
 | d :: p' => exact ⟨d,p',rfl,h.imp (fun h => List.length_eq_zero_iff.1 (by omega)) (·.2)⟩
 | [] => rw [List.length_nil] at h h1; omega
theorem mp_r {p q : List P2} {b : Bool} (h : Tr ((decide ((q.length : Int) = 0) || (decide (0 < (p.length : Int)) && b)) = false)) : ∃ d q',q = d :: q' ∧ (p = [] ∨ b = false):=by
 have h:=h.h
 rw [Bool.or_eq_false_iff,Bool.and_eq_false_iff,decide_eq_false_iff_not,decide_eq_false_iff_not] at h
 match q with
 | d :: q' => exact ⟨d,q',rfl,h.2.imp (fun h => List.length_eq_zero_iff.1 (by omega)) id⟩
 | [] => exact absurd rfl h.1
theorem aP {d : P2} {l : List P2} {f : P2 → CT} : ((d :: l).drop 1).take (((d :: l).map f).length - 1) = l:=by simp
theorem zS2 {p q : List P2} (h : p.length + q.length = 0) : mrg p q = []:=by
 rw [List.length_eq_zero_iff.1 (show p.length = 0 by omega),List.length_eq_zero_iff.1 (show q.length = 0 by omega)]; simp [mrg]
theorem zS1 {p q : List P2} (h : mrg p q = []) : p.length + q.length = 0:=by rw [← zL1,h]; rfl
theorem lD {a b : List P2} (ha : hullF a ≠ []) (hb : hullF b ≠ []) : hullF (outS (hullF a) (hullF b)) = sumF a b:=sN (fun c => ha (bC.2 c)) fun c => hb (bC.2 c)
theorem wsum {a b : List P2} {n m : Nat} (hn : n ≤ 300) (hm : m ≤ 300) (ha : a.length ≤ 100) (hb : b.length ≤ 100) (pa' : ∀ x ∈ a,plen x (n + 1)) (pb' : ∀ x ∈ b,plen x (m + 1)) : CTy prog 22 [sv (sl 6 (a.map (ptq n))),sv (sl 6 (b.map (ptq m)))] (sv (sl 6 ((sumF a b).map (ptc (n + m + 4))))):=by
 have la:=eI a
 have lb:=eI b
 refine ctc func22 rfl rfl rfl rfl fun X => (zI (zK rfl (zA1 (oas rfl) (zA0 (t_scope (zI (zK rfl (zA1 (omv rfl) (zA1 (oca rfl rfl fun _ => oZ (by omega) (by omega)) ?_)))))))))
 refine zA1 (omv rfl) (zA1 (oca rfl rfl fun _ => oZ (by omega) (by omega)) (zA1 (oas rfl) (zA1 (oas rfl) (zA0 (zI (zI (zK rfl (zA1 (omv rfl) (zA1 (oln rfl) ?_)))))))))
 refine zA1 (oeq rfl rfl) (zA1 (omv rfl) (t1g rfl rfl (omv rfl) (t1g rfl rfl (oln rfl) (t1g rfl rfl (oeq rfl rfl) (zA1 (opk rfl rfl rfl) (zA0 ?_))))))
 refine t_if rfl (fun c0 => ?_) (fun c0 => ?_)
 refine zI (zK rfl (zA1 (oas rfl) (zA0 (yK (⟨[_],rst rfl rs0,yQ ?_⟩)))))
 rotate_left 1
 rotate_left 1
 ·have h:=c0.h
  rw [Bool.or_eq_true,decide_eq_true_eq,decide_eq_true_eq] at h
  rw [pW.2 (h.imp (fun h => bC.1 (List.length_eq_zero_iff.1 (by omega))) fun h => bC.1 (List.length_eq_zero_iff.1 (by omega)))]
  exact ps_nil0
 have h:=c0.h
 rw [Bool.or_eq_false_iff,decide_eq_false_iff_not,decide_eq_false_iff_not] at h
 have ha0 : hullF a ≠ []:=fun c => h.1 (by rw [c]; rfl)
 have hb0 : hullF b ≠ []:=fun c => h.2 (by rw [c]; rfl)
 have hA : 0 < (hullF a).length:=List.length_pos_iff.2 ha0
 have hB : 0 < (hullF b).length:=List.length_pos_iff.2 hb0
 have ea : (xP (hullF a)).length ≤ 100:=by rw [cH]; split <;> omega
 have eb : (xP (hullF b)).length ≤ 100:=by rw [cH]; split <;> omega
 have hpl : ∀ x ∈ hullF a,∀ y ∈ hullF b,plen (addP x y) (n + m + 3):=fun x hx y hy => ((pa' x ((gZ a).sub x hx)).add (pb' y ((gZ b).sub y hy))).up (by omega)
 have hol:=zK0 (hullF a) (hullF b)
 refine yY (zI (zK rfl (zA1 (omv rfl) (zA1 (oca rfl rfl fun _ => zT0) (zA1 (oca rfl rfl fun _ => zY3 (zU3 (by omega) (by omega)) (by omega)) (zA1 (omv rfl) (zA1 (oca rfl rfl fun _ => zT0) (zA1 (oca rfl rfl fun _ => zY3 (zU3 (by omega) (by omega)) (by omega)) (zA1 (oas rfl) ?_)))))))))
 refine zA1 (oas rfl) (zA0 (zI ?_))
 apply pV 1 9 8 [(7,7,0),(8,1000008,0)] rfl rfl mixed rfl rfl rfl
 refine cx1 (omv rfl) rfl (cx1 (oix _ rfl rfl rfl (fun _ => rfl) (fun _ => (by omega))) rfl (cx1 (old rfl rfl) rfl (cx1 (omv rfl) rfl (cx1 (oix _ rfl rfl rfl (fun _ => rfl) (fun _ => (by omega))) rfl (cx1 (old rfl rfl) rfl ?_)))))
 refine cx1 (oca rfl rfl fun _ => wE (N:=n + m + 3) (by omega) (by omega) ?_) rfl ?_
 rotate_left 1
 refine cN rfl rfl (cal) (cS rfl rfl rfl (cst rfl rfl rfl) ?_)
 refine cE (fun b7 => ?_)
 refine zA0 (zI (zK rfl (zA1 (oldo 0 rfl rfl rfl rfl) (tbs rfl rfl rfl rfl rfl rfl fun r36 => (zA1 (oas rfl) (zA0 (zI (t_label (zI ?_)))))))))
 refine yO ?_
 rotate_left 1
 ·exact hpl _ (qA hA) _ (qA hB)
 refine jU (σ:=(List P2 × List P2) × P2 × List P2 × Value) (fun s => [(8,True,exP s.2.2.2),(5,True,sv (sl 6 (s.1.1.map (ptc (2 * (n + 1) + 3))))),(6,True,sv (sl 6 (s.1.2.map (ptc (2 * (m + 1) + 3)))))]) (fun s => [.row s.2.2.2 35 6 (s.2.2.1.map (ptc (n + m + 3))),.blk b7 35 [ptc (n + m + 3) s.2.1]]) (fun s => MJ (hullF a) (hullF b) s.1.1 s.1.2 s.2.1 s.2.2.1 ∧ s.1.1.length ≤ 100 ∧ s.1.2.length ≤ 100 ∧ s.2.2.1.length ≤ 250) (fun s => s.1.1.length + s.1.2.length) (((xP (hullF a),xP (hullF b)),addP (gp (hullF a) 0) (gp (hullF b) 0),[addP (gp (hullF a) 0) (gp (hullF b) 0)],r36)) (tk 7 rfl tn) ?_ rfl (⟨mj0,by simpa using ea,by simpa using eb,by simp⟩) (fun s hJ Y _ => ?_)
 refine tc rfl (ps_r _) (tc rfl (ps_r _) (tc rfl (ps_r _) (tn)))
 rotate_left 1
 obtain ⟨⟨p,q⟩,at1,out,v1⟩:=s
 dsimp only at hJ ⊢
 obtain ⟨j,j1,j2,j3⟩:=hJ
 refine zI (zI (zK rfl (zA1 (omv rfl) (zA1 (oln rfl) (zA1 (omv rfl) (zA1 (oln rfl) (zA1 (oad rfl rfl (by omega)) (zA1 (ogt rfl rfl) (zA0 ?_)))))))))
 refine t_if rfl (fun c1 => ?_) (fun c1 => ?_)
 refine yY (yO (zI (zK rfl (tal fun b9 => (zA0 (zI (zI (xT 17 mixed rfl rfl (d1 (omv rfl) ?_)))))))))
 refine d1 (oln rfl) (d1 (oeq rfl rfl) (d1 (omv rfl) (d1g rfl rfl (omv rfl) (d1g rfl rfl (oln rfl) (d1g rfl rfl (ogt rfl rfl) (d1g rfl rfl (omv rfl) (d1g rfl rfl (omv rfl) ?_)))))))
 refine d1g rfl rfl (oix _ rfl rfl rfl (fun g => rfl) (fun g => ?_)) ?_
 rotate_left 1
 refine d1g rfl rfl (old rfl rfl) (d1g rfl rfl (omv rfl) ?_)
 refine d1g rfl rfl (oix _ rfl rfl rfl (fun g => rfl) (fun g => ?_)) ?_
 rotate_left 1
 refine d1g rfl rfl (old rfl rfl) (d1g rfl rfl (oca rfl rfl fun g => kahead (by omega) (by omega)) (d1g rfl rfl (opk rfl rfl rfl) (d1 (opk rfl rfl rfl) (d0 (zA0 ?_)))))
 refine t_if rfl (fun c2 => ?_) (fun c2 => ?_)
 apply zI0 0 6 0 5 [(5,999,0)] rfl rfl rfl mixed rfl rfl rfl
 refine cx1 (omv rfl) rfl ?_
 refine cx1 (oix _ rfl rfl rfl (fun _ => rfl) (fun _ => ?_)) rfl ?_
 rotate_left 1
 refine cx1 (old rfl rfl) rfl (cx1 (omv rfl) rfl ?_)
 refine cx1 (osl _ _ rfl ⟨_,_,_,_,rfl,fun _ => trivial,inferInstance,fun _ => rfl⟩ (fun _ => rfl) (fun _ => ?_) (fun _ => (by omega))) rfl ?_
 rotate_left 1
 refine cV rfl rfl (cstv rfl rfl rfl rfl) ?_
 refine cE ?_
 refine zA1 (oas rfl) (zA0 (zI (zK rfl (zA1 (oldo 2 rfl rfl rfl rfl) (zA1 (oldo 0 rfl rfl rfl rfl) ?_)))))
 refine zA1 (oca rfl rfl fun _ => wE (N:=n + m + 3) (by omega) (by omega) ?_) ?_
 rotate_left 1
 refine tst 2 rfl rfl rfl rfl rfl rfl (zA0 (zI (zI (zK rfl (zA1 (omv rfl) (zA1 (oln rfl) (zA1 (omv rfl) (zA1 (oln rfl) (zA1 (oad rfl rfl (by (simp; omega))) ?_)))))))))
 refine zA1 (oeq rfl rfl) (zA0 ?_)
 refine t_if rfl (fun c3 => ?_) (fun c3 => ?_)
 refine jY (zI (zK rfl (zA1 (omv rfl) ?_)))
 rotate_left 1
 refine yY (zK rfl (zA1 (omv rfl) (zA1 (oldo 2 rfl rfl rfl rfl) (zA1 (obs rfl rfl rfl rfl rfl rfl) (tap 1 rfl rfl rfl (by (simp; omega)) rfl fun r82 => (zA1 (oas rfl) (zA0 ?_)))))))
 rotate_left 1
 apply zI0 0 6 0 5 [(5,999,0)] rfl rfl rfl mixed rfl rfl rfl
 refine cx1 (omv rfl) rfl ?_
 refine cx1 (oix _ rfl rfl rfl (fun _ => rfl) (fun _ => ?_)) rfl ?_
 rotate_left 1
 refine cx1 (old rfl rfl) rfl (cx1 (omv rfl) rfl ?_)
 refine cx1 (osl _ _ rfl ⟨_,_,_,_,rfl,fun _ => trivial,inferInstance,fun _ => rfl⟩ (fun _ => rfl) (fun _ => ?_) (fun _ => (by omega))) rfl ?_
 rotate_left 1
 refine cV rfl rfl (cstv rfl rfl rfl rfl) ?_
 refine cE ?_
 refine zA1 (oas rfl) (zA0 (zI (zK rfl (zA1 (oldo 2 rfl rfl rfl rfl) (zA1 (oldo 0 rfl rfl rfl rfl) ?_)))))
 refine zA1 (oca rfl rfl fun _ => wE (N:=n + m + 3) (by omega) (by omega) ?_) ?_
 rotate_left 1
 refine tst 2 rfl rfl rfl rfl rfl rfl (zA0 (zI (zI (zK rfl (zA1 (omv rfl) (zA1 (oln rfl) (zA1 (omv rfl) (zA1 (oln rfl) (zA1 (oad rfl rfl (by (simp; omega))) ?_)))))))))
 refine zA1 (oeq rfl rfl) (zA0 ?_)
 refine t_if rfl (fun c4 => ?_) (fun c4 => ?_)
 refine jY (zI (zK rfl (zA1 (omv rfl) ?_)))
 rotate_left 1
 refine yY (zK rfl (zA1 (omv rfl) (zA1 (oldo 2 rfl rfl rfl rfl) (zA1 (obs rfl rfl rfl rfl rfl rfl) (tap 1 rfl rfl rfl (by (simp; omega)) rfl fun r82 => (zA1 (oas rfl) (zA0 ?_)))))))
 rotate_left 1
 refine jY (zI (zK rfl (zA1 (omv rfl) ?_)))
 rotate_left 1
 ·exact Int.ofNat_lt.1 (of_decide_eq_true g.2)
 ·have h2:=of_decide_eq_false g.1.2
  exact Nat.pos_of_ne_zero fun c => h2 (by rw [c]; rfl)
 ·obtain ⟨d,p',rfl,h3⟩:=mp_l (dt c1) c2; simp
 ·obtain ⟨d,p',rfl,h3⟩:=mp_l (dt c1) c2; simp
 ·obtain ⟨d,p',rfl,h3⟩:=mp_l (dt c1) c2
  obtain ⟨_,_,s,h4,h5⟩:=eX j (rL j h3)
  obtain ⟨x,hx,y,hy,e⟩:=zO7 ha0 hb0 h4
  show plen (addP at1 d) _
  rw [h5,e]; exact hpl x hx y hy
 ·obtain ⟨d,p',rfl,h3⟩:=mp_l (dt c1) c2
  have h4:=(eX j (rL j h3)).1 (zS2 (by have:=dt c3; rw [aP] at this; omega))
  rw [h4]
  refine kT (aT 1 rfl (s:=83) rfl) ?_
  refine zA1 (oca rfl rfl fun _ => oZ (by omega) (by omega)) (zA1 (oas rfl) (zA0 (yK (⟨[_],rst rfl rs0,yQ ?_⟩))))
  rotate_left 1
  rw [lD ha0 hb0]; exact PSub.refl _
 ·obtain ⟨d,p',rfl,h3⟩:=mp_l (dt c1) c2
  have h4:=(eX j (rL j h3)).2.1 fun c => df c3 (by rw [aP]; have:=zS1 c; omega)
  have h5:=congrArg List.length h4.way
  rw [List.length_append] at h5
  refine ⟨((p',q),addP at1 d,out ++ [addP at1 d],r82),tes ?_ ?_ (by (simp; done)),?_,(by (simp; done))⟩
  refine tc rfl (ps_r _) ?_
  refine tc rfl ?_ ?_
  rotate_left 1
  refine tc rfl (ps_r _) (tn)
  refine tc rfl (ps_r _) (tn)
  rotate_left 1
  ·rw [aP]; exact PSub.refl _
  ·simp only [List.length_cons] at j1
   refine ⟨h4,?_,j2,?_⟩ <;> dsimp only <;> omega
 ·obtain ⟨d,q',rfl,h3⟩:=mp_r c2; simp
 ·obtain ⟨d,q',rfl,h3⟩:=mp_r c2; simp
 ·obtain ⟨d,q',rfl,h3⟩:=mp_r c2
  obtain ⟨_,_,s,h4,h5⟩:=eX j (nQ j h3)
  obtain ⟨x,hx,y,hy,e⟩:=zO7 ha0 hb0 h4
  show plen (addP at1 d) _
  rw [h5,e]; exact hpl x hx y hy
 ·obtain ⟨d,q',rfl,h3⟩:=mp_r c2
  have h4:=(eX j (nQ j h3)).1 (zS2 (by have:=dt c4; rw [aP] at this; omega))
  rw [h4]
  refine kT (aT 1 rfl (s:=83) rfl) ?_
  refine zA1 (oca rfl rfl fun _ => oZ (by omega) (by omega)) (zA1 (oas rfl) (zA0 (yK (⟨[_],rst rfl rs0,yQ ?_⟩))))
  rotate_left 1
  rw [lD ha0 hb0]; exact PSub.refl _
 ·obtain ⟨d,q',rfl,h3⟩:=mp_r c2
  have h4:=(eX j (nQ j h3)).2.1 fun c => df c4 (by rw [aP]; have:=zS1 c; omega)
  have h5:=congrArg List.length h4.way
  rw [List.length_append] at h5
  refine ⟨((p,q'),addP at1 d,out ++ [addP at1 d],r82),tes ?_ ?_ (by (simp; done)),?_,(by (simp; done))⟩
  refine tc rfl (ps_r _) (tc rfl (ps_r _) ?_)
  refine tc rfl ?_ ?_
  rotate_left 1
  refine tn
  refine tc rfl (ps_r _) (tn)
  rotate_left 1
  ·rw [aP]; exact PSub.refl _
  ·simp only [List.length_cons] at j2
   refine ⟨h4,j1,?_,?_⟩ <;> dsimp only <;> omega
 ·have h4:=j.way
  rw [zS2 (by have:=df c1; omega),wayS,List.append_nil] at h4
  rw [h4]
  refine kT (aT 0 rfl (s:=83) rfl) ?_
  refine zA1 (oca rfl rfl fun _ => oZ (by omega) (by omega)) (zA1 (oas rfl) (zA0 (yK (⟨[_],rst rfl rs0,yQ ?_⟩))))
  rotate_left 1
  rw [lD ha0 hb0]; exact PSub.refl _
theorem ksum {Ψ Φ : PV} {a b : List P2} {n m : Nat} [h : VPt Ψ n a] [k : VPt Φ m b] (hn : n ≤ 300) (hm : m ≤ 300) (ha : a.length ≤ 100) (hb : b.length ≤ 100) : CTy prog 22 [Ψ,Φ] (sv (sl 6 ((sumF a b).map (ptc (n + m + 4))))):=cty_2pt (bo func22) fun h1 h2 => wsum hn hm ha hb h1 h2
end Go.Proofs.YtflobagimodmgaaGreatDoor
set_option maxHeartbeats 4000000
namespace Go.Proofs.YtflobagimodmgaaGreatDoor
open Go.SL Go.RowKit Go.Proofs Tryz
theorem k5ofn {k : Nat} (h0 : 0 < k) (hk : k < 1000000) : CTy prog 149 [exP (.int .i64 (-((k : Nat) : Int)))] (ag (ztc 2 (-((k : Nat) : Int)))):=by
 refine ctc func149 rfl rfl rfl rfl fun X => (zI (zK rfl (tal fun b2 => (zA0 (zI (zI (zK rfl (zA1 (omv rfl) (zA1 (olt rfl rfl) ?_)))))))))
 refine zA0 ?_
 refine t_if rfl (fun c0 => ?_) (fun c0 => ?_)
 refine zI (zK rfl (zA1 (omv rfl) (zA1 (oad rfl rfl (by omega)) (zA1 (lY (ong rfl (fun _ => by omega)) (ps_i (show -(-((k : Nat) : Int) + 1) = (((k - 1 : Nat)) : Int) by omega))) (zA1 (ocv64 rfl (by omega)) (zA1 (lY (oadv rfl rfl (by omega)) (ps_i (show (((k - 1 + 1 : Nat)) : Int) = ((k : Nat) : Int) by omega))) (zA1 (oca rfl rfl fun _ => k1of (n:=k) (by omega)) ?_)))))))
 refine zA1 (obd rfl rfl rfl) (tst 0 rfl rfl rfl rfl rfl rfl (zA0 (yK (⟨[_],rsc 0 rfl rfl rfl rfl rs0,yQ ?_⟩))))
 rotate_left 1
 refine yY (zI (zK rfl (zA1 (omv rfl) ?_)))
 rotate_left 1
 ·exact ps_z (decide_eq_true (by omega)).symm (by omega) (limbs2 (by omega))
 ·exact absurd (by omega : (-(k : Int)) < 0) (df c0)
theorem sub_nought (p : P2) : subP (((0 : Nat) : Rat),((0 : Nat) : Rat)) p = negP p:=by
 unfold subP negP; rw [Prod.ext_iff]; constructor <;> simp only <;> grind
theorem kvneg {Ψ : PV} {p : P2} {n : Nat} [h : QP Ψ n p] (hn : n ≤ 800) : CTy prog 82 [Ψ] (ag (ptc (n + 5) (negP p))):=by
 refine qB (σs:=[ag (ptq n p)]) ?_ (fs1 qp_q fs0)
 refine ctc func82 rfl rfl rfl rfl fun X => (zI (zK rfl (zA1 (obx rfl) (tal fun b2 => (zA0 (zI (xT 3 mixed rfl rfl (d1 (oca rfl rfl fun _ => kvof (by (simp; done)) (by (simp; done))) (d1 (old rfl rfl) ?_)))))))))
 refine d1 (oca rfl rfl fun _ => zL5 (by omega) (by omega)) (d0 (tst 0 rfl rfl rfl rfl rfl rfl (zA0 (yK (⟨[_],rsc 0 rfl rfl rfl rfl rs0,yQ ?_⟩)))))
 rotate_left 1
 exact zR2 (p:=subP (((0 : Nat) : Rat),((0 : Nat) : Rat)) p) (sub_nought p) (by omega)
theorem k8alike {p q : P2} {n m : Nat} (hn : n ≤ 1990) (hm : m ≤ 1990) : CTy prog 75 [ag (ptc n p),ag (ptc m q)] (exP (.bool (decide (p = q)))):=by
 refine ctc func75 rfl rfl rfl rfl fun X => (zI (zK rfl (zA1 (obx rfl) (zA1 (obx rfl) (zA1 (oas rfl) (zA0 (zI (zK rfl (zA1 (ofa rfl rfl) ?_)))))))))
 refine zA1 (old rfl rfl) (zA1 (ofa rfl rfl) (zA1 (old rfl rfl) (zA1 (oca rfl rfl fun _ => zT3 (by omega) (by omega)) (zA1 (omv rfl) (t1g rfl rfl (ofa rfl rfl) (t1g rfl rfl (old rfl rfl) (t1g rfl rfl (ofa rfl rfl) (t1g rfl rfl (old rfl rfl) (t1g rfl rfl (oca rfl rfl fun g => zT3 (by omega) (by omega)) ?_)))))))))
 refine zA1 (opk rfl rfl rfl) (zA1 (oas rfl) (zA0 (yK (⟨[_],rst rfl rs0,yQ ?_⟩))))
 refine psb ?_
 rotate_left 1
 rw [← Bool.decide_and,decide_eq_decide,Prod.ext_iff]
theorem zT2 {l k : List P2} {n m : Nat} (hn : n ≤ 1990) (hm : m ≤ 1990) : CTy prog 14 [sv (sl 6 (l.map (ptc n))),sv (sl 6 (k.map (ptc m)))] (exP (.bool (decide (l = k)))):=by
 refine ctc func14 rfl rfl rfl rfl fun X => (zI (zK rfl (zA1 (oas rfl) (zA0 (zI (zI (zK rfl (zA1 (omv rfl) (zA1 (oln rfl) ?_)))))))))
 refine zA1 (omv rfl) (zA1 (oln rfl) (zA1 (oni rfl rfl) (zA0 ?_)))
 refine t_if rfl (fun c0 => ?_) (fun c0 => ?_)
 refine zI (zK rfl (zA1 (oas rfl) (zA0 (yK (⟨[_],rst rfl rs0,yQ ?_⟩)))))
 refine psb ?_
 rotate_left 1
 refine yY (zI (zI (zK rfl (zA1 (oas rfl) (zA0 (yO ?_))))))
 rotate_left 1
 ·have:=dt c0
  rw [decide_eq_false fun e => this (by rw [e])]
 ·have hlk : l.length = k.length:=by have:=df c0; omega
  refine t_len 0 rfl fun hL => ?_
  rw [List.length_map] at hL
  refine jU (σ:=Nat) (fun i => [(5,True,exP (.int .i64 ((i : Nat) : Int)))]) (fun i => []) (fun i => i ≤ l.length ∧ l.take i = k.take i) (fun i => l.length - i) (0) (tk 0 rfl (tk 1 rfl tn)) ?_ rfl (⟨by omega,by simp⟩) (fun i hJ Y _ => ?_)
  refine tc rfl (ps_r _) (tn)
  rotate_left 1
  obtain ⟨hi,hs⟩:=hJ
  refine zI (zI (zK rfl (zA1 (omv rfl) (zA1 (omv rfl) (zA1 (oln rfl) (zA1 (olt rfl rfl) (zA0 ?_)))))))
  refine t_if rfl (fun c1 => ?_) (fun c1 => ?_)
  refine yY (zI (yO (zI (xT 10 mixed rfl rfl (d1 (omv rfl) (d1 (omv rfl) (d1 (oix _ rfl rfl rfl (fun _ => rfl) (fun _ => (by (have e0:=dt c1; omega)))) (d1 (old rfl rfl) (d1 (omv rfl) ?_)))))))))
  refine d1 (omv rfl) (d1 (oix _ rfl rfl rfl (fun _ => rfl) (fun _ => (by (have e0:=dt c1; omega)))) (d1 (old rfl rfl) (d1 (oca rfl rfl fun _ => k8alike (by omega) (by omega)) (d1 (ont rfl) (d0 (zA0 ?_))))))
  refine t_if rfl (fun c2 => ?_) (fun c2 => ?_)
  refine zI (zK rfl (zA1 (oas rfl) (zA0 (yK (⟨[_],rst rfl rs0,yQ ?_⟩)))))
  refine psb ?_
  rotate_left 1
  refine yY (zK rfl (zA1 (omv rfl) (zA1 (oad rfl rfl (by (have e0:=dt c1; omega))) (zA1 (oas rfl) (zA0 ?_)))))
  rotate_left 1
  refine jY (zI (zK rfl (zA1 (oas rfl) (zA0 (yK (⟨[_],rst rfl rs0,yQ ?_⟩))))))
  refine psb ?_
  rotate_left 1
  ·rw [decide_eq_false fun e => by have h:=c2.h; rw [e] at h; simp at h]
  ·have h2 : l.getD i Df.d = k.getD i Df.d:=by have h:=c2.h; simpa using h
   refine ⟨i + 1,tes ?_ ?_ (List.Sublist.refl _),?_,(by (have e0:=dt c1; omega))⟩
   refine tc rfl (ps_r _) (tn)
   refine tc rfl (ps_r _) (tc rfl (ps_r _) (tn))
   rotate_left 1
   have h3:=dt c1
   exact ⟨by omega,by rw [(jJ (Df.d : P2) (l:=l) (by omega)).1,(jJ (Df.d : P2) (l:=k) (by omega)).1,hs,h2]⟩
  ·have h3:=df c1
   rw [List.take_of_length_le (by omega),List.take_of_length_le (by omega)] at hs
   exact (decide_eq_true hs).symm
theorem kmflip {l : List P2} {n : Nat} (hn : n ≤ 300) (hl : l.length ≤ 100) : CTy prog 24 [sv (sl 6 (l.map (ptq n)))] (sv (sl 6 ((l.map negP).map (ptc (n + 5))))):=by
 refine ctc func24 rfl rfl rfl rfl fun X => (zI (zK rfl (zA1 (oas rfl) (zA0 (zI (zI (zK rfl (zA1 (omv rfl) (zA1 (oln rfl) ?_)))))))))
 refine zA1 (omv rfl) (zA0 (yO ?_))
 rotate_left 1
 refine t_ts (nA 35 6) ?_
 refine jU (σ:=Nat × Value) (fun s => [(2,True,exP s.2),(7,True,exP (.int .i64 ((s.1 : Nat) : Int)))]) (fun s => [.row s.2 35 6 (((l.take s.1).map negP).map (ptc (n + 5)))]) (fun s => s.1 ≤ l.length) (fun s => l.length - s.1) ((0,.slice none 0 0)) (tk 5 rfl (tk 6 rfl tn)) ?_ rfl ((by simp)) (fun s hJ Y _ => ?_)
 refine tc rfl (ps_r _) (tc rfl (ps_r _) (tn))
 rotate_left 1
 refine zI (zK rfl (zA1 (olt rfl rfl) (zA0 (zI ?_))))
 refine t_if rfl (fun c0 => ?_) (fun c0 => ?_)
 refine yY (zI (yO (zI (zK rfl (zA1 (oix _ rfl rfl rfl (fun _ => rfl) (fun _ => (by (have e0:=dt c0; omega)))) (zA1 (old rfl rfl) (tal fun b4 => (tst 0 rfl rfl rfl rfl rfl rfl (kT (aG (s:=4) 0 rfl rfl) ?_)))))))))
 refine zA0 (zK rfl (zA1 (omv rfl) (zA1 (old rfl rfl) (zA1 (oca rfl rfl fun _ => kvneg (by omega)) (zA1 (obs rfl rfl rfl rfl rfl rfl) (tap 0 rfl rfl rfl (by (simp; omega)) rfl fun r15 => (zA1 (oas rfl) (zA0 (zK rfl ?_)))))))))
 refine zA1 (oad rfl rfl (by omega)) (zA1 (omv rfl) (zA0 ?_))
 rotate_left 1
 refine jY (zI (zK rfl (zA1 (omv rfl) (zA1 (oas rfl) (zA0 (t_ts (aT (s:=2) 0 rfl rfl) (yK (⟨[_],rst rfl rs0,yQ ?_⟩))))))))
 rotate_left 1
 ·refine ⟨(s.1 + 1,r15),tes ?_ ?_ ?_,(by (have e0:=dt c0; omega)),(by (have e0:=dt c0; omega))⟩
  refine tc rfl (ps_r _) (tc rfl (ps_r _) (tn))
  refine tc rfl (ps_r _) (tc rfl (ps_r _) (tn))
  rotate_left 1
  rw [(jJ (Df.d : P2) (show s.1 < l.length by have:=dt c0; omega)).1,List.map_append,List.map_append]
  rw [Nat.max_self]
  exact List.Sublist.refl _
 ·have h0:=df c0
  rw [List.take_of_length_le (by omega)]
  exact PSub.refl _
end Go.Proofs.YtflobagimodmgaaGreatDoor
set_option maxHeartbeats 4000000
namespace Go.Proofs.YtflobagimodmgaaGreatDoor
open Go.SL Go.RowKit Go.Proofs Tryz
theorem one_nat {M : Nat → Prop} {w : World} {us : List Value} (h : (sl 1 [xc (.int .u32 1)]).p M w us) : (ntc 1 1).p M w us:=by
 obtain ⟨u,vs,rfl,h1,⟨x,y,e1,e2,h2⟩,_⟩:=h
 obtain rfl : y = []:=h2
 have h3 : x = [.int .u32 1]:=e2.1
 subst h3 e1
 have h4 : IsNat M w u [1]:=⟨h1,by simp⟩
 refine ⟨u,rfl,⟨[1],h4,by simp,by simp [val]⟩,?_⟩
 rw [show limbs 1 = [1] by rw [uA (by decide)]; simp [yU]]; exact h4
theorem ps_int {n N : Nat} {q : Rat} {z : Int} (h1 : z = q.num) (h2 : 1 = q.den) (hn : n ≤ N) (hm : 1 ≤ N) : PSub (ag (st [ztc n z,sl 1 [xc (.int .u32 1)]])) (ag (rtc N q)):=fun M w v ⟨us,e,x,y,e1,k1,u,o,e2,k2,e3⟩ => zR3 h1 h2 hn hm M w v ⟨us,e,x,y,e1,k1,u,o,e2,one_nat k2,e3⟩
theorem zK9 (k : Nat) : (-((k : Nat) : Int)) = (-((k : Nat) : Rat)).num ∧ 1 = (-((k : Nat) : Rat)).den:=by
 rw [Rat.neg_num,Rat.neg_den]; exact ⟨rfl,rfl⟩
theorem zY4 {k : Nat} (h0 : 0 < k) (hk : k < 1000000) : CTy prog 94 [exP (.int .i64 (-((k : Nat) : Int)))] (ag (rtc 2 (-((k : Nat) : Rat)))):=by
 refine ctc func94 rfl rfl rfl rfl fun X => (zI (zK rfl (tal fun b2 => (zA0 (zI (zK rfl (zA1 (omv rfl) (zA1 (oca rfl rfl fun _ => k5ofn (by omega) (by omega)) (zA1 (obs rfl rfl rfl rfl rfl rfl) ?_)))))))))
 refine zA1 (obd rfl rfl rfl) (tst 0 rfl rfl rfl rfl rfl rfl (zA0 (yK (⟨[_],rsc 0 rfl rfl rfl rfl rs0,yQ ?_⟩))))
 rotate_left 1
 exact ps_int (zK9 k).1 (zK9 k).2 (Nat.le_refl _) (by omega)
theorem kpt {x y : Nat} (hx : x < 1000000) (hy : y < 1000000) : CTy prog 32 [exP (.int .i64 ((x : Nat) : Int)),exP (.int .i64 ((y : Nat) : Int))] (ag (ptc 2 (((x : Nat) : Rat),((y : Nat) : Rat)))):=by
 refine ctc func32 rfl rfl rfl rfl fun X => (zI (zK rfl (tal fun b4 => (zA0 (zI (zK rfl (zA1 (omv rfl) (zA1 (omv rfl) (zA1 (oca rfl rfl fun _ => k8of (by omega) (by omega)) ?_)))))))))
 refine tst 0 rfl rfl rfl rfl rfl rfl (zA0 (yK (⟨[_],rsc 0 rfl rfl rfl rfl rs0,yQ (PSub.refl _)⟩)))
theorem k8ofx {x y : Nat} (h0 : 0 < x) (hx : x < 1000000) (hy : y < 1000000) : CTy prog 85 [exP (.int .i64 (-((x : Nat) : Int))),exP (.int .i64 ((y : Nat) : Int))] (ag (ptc 2 (-((x : Nat) : Rat),((y : Nat) : Rat)))):=by
 refine ctc func85 rfl rfl rfl rfl fun X => (zI (zK rfl (tal fun b4 => (zA0 (zI (zK rfl (zA1 (omv rfl) (zA1 (oca rfl rfl fun _ => zY4 (by omega) (by omega)) (zA1 (omv rfl) ?_)))))))))
 refine zA1 (oca rfl rfl fun _ => k7of (by omega)) ?_
 refine zA1 (obd rfl rfl rfl) (tst 0 rfl rfl rfl rfl rfl rfl (zA0 (yK (⟨[_],rsc 0 rfl rfl rfl rfl rs0,yQ (PSub.refl _)⟩))))
theorem k8ofy {x y : Nat} (h0 : 0 < y) (hx : x < 1000000) (hy : y < 1000000) : CTy prog 85 [exP (.int .i64 ((x : Nat) : Int)),exP (.int .i64 (-((y : Nat) : Int)))] (ag (ptc 2 (((x : Nat) : Rat),-((y : Nat) : Rat)))):=by
 refine ctc func85 rfl rfl rfl rfl fun X => (zI (zK rfl (tal fun b4 => (zA0 (zI (zK rfl (zA1 (omv rfl) (zA1 (oca rfl rfl fun _ => k7of (by omega)) (zA1 (omv rfl) ?_)))))))))
 refine zA1 (oca rfl rfl fun _ => zY4 (by omega) (by omega)) ?_
 refine zA1 (obd rfl rfl rfl) (tst 0 rfl rfl rfl rfl rfl rfl (zA0 (yK (⟨[_],rsc 0 rfl rfl rfl rfl rs0,yQ (PSub.refl _)⟩))))
theorem kptx {x y : Nat} (h0 : 0 < x) (hx : x < 1000000) (hy : y < 1000000) : CTy prog 32 [exP (.int .i64 (-((x : Nat) : Int))),exP (.int .i64 ((y : Nat) : Int))] (ag (ptc 2 (-((x : Nat) : Rat),((y : Nat) : Rat)))):=by
 refine ctc func32 rfl rfl rfl rfl fun X => (zI (zK rfl (tal fun b4 => (zA0 (zI (zK rfl (zA1 (omv rfl) (zA1 (omv rfl) (zA1 (oca rfl rfl fun _ => k8ofx (by omega) (by omega) (by omega)) ?_)))))))))
 refine tst 0 rfl rfl rfl rfl rfl rfl (zA0 (yK (⟨[_],rsc 0 rfl rfl rfl rfl rs0,yQ (PSub.refl _)⟩)))
theorem kpty {x y : Nat} (h0 : 0 < y) (hx : x < 1000000) (hy : y < 1000000) : CTy prog 32 [exP (.int .i64 ((x : Nat) : Int)),exP (.int .i64 (-((y : Nat) : Int)))] (ag (ptc 2 (((x : Nat) : Rat),-((y : Nat) : Rat)))):=by
 refine ctc func32 rfl rfl rfl rfl fun X => (zI (zK rfl (tal fun b4 => (zA0 (zI (zK rfl (zA1 (omv rfl) (zA1 (omv rfl) (zA1 (oca rfl rfl fun _ => k8ofy (by omega) (by omega) (by omega)) ?_)))))))))
 refine tst 0 rfl rfl rfl rfl rfl rfl (zA0 (yK (⟨[_],rsc 0 rfl rfl rfl rfl rs0,yQ (PSub.refl _)⟩)))
abbrev wkT : List P2:=[(((0 : Nat) : Rat),((0 : Nat) : Rat)),(((2 : Nat) : Rat),((0 : Nat) : Rat)),(((1 : Nat) : Rat),((0 : Nat) : Rat)),(((0 : Nat) : Rat),((2 : Nat) : Rat))]
abbrev wkH : List P2:=[(((0 : Nat) : Rat),((0 : Nat) : Rat)),(((2 : Nat) : Rat),((0 : Nat) : Rat)),(((0 : Nat) : Rat),((2 : Nat) : Rat))]
abbrev wkE : List P2:=[(((0 : Nat) : Rat),((0 : Nat) : Rat)),(((1 : Nat) : Rat),((0 : Nat) : Rat))]
abbrev wkS : List P2:=[(((0 : Nat) : Rat),((0 : Nat) : Rat)),(((3 : Nat) : Rat),((0 : Nat) : Rat)),(((1 : Nat) : Rat),((2 : Nat) : Rat)),(((0 : Nat) : Rat),((2 : Nat) : Rat))]
theorem mA {l m h : List P2} (h1 : m.Pairwise fun a b => cmpP a b < 0) (h2 : ∀ x,x ∈ m ↔ x ∈ l) (h3 : uH m = h) : hullF l = h:=by
 unfold hullF; rw [← IsSet.eq oB ⟨h1,h2⟩,h3]
theorem wP : hullF wkT = wkH:=mA (m:=[(0,0),(0,2),(1,0),(2,0)]) (by decide) (fun x => by simp; grind) (by decide +kernel)
theorem wk_sum : sumF wkH wkE = wkS:=mA (m:=[(0,0),(0,2),(1,0),(1,2),(2,0),(3,0)]) (by decide) (fun x => by simp [kE,addP]; grind) (by decide +kernel)
abbrev wkF : List P2:=[(((0 : Nat) : Rat),((0 : Nat) : Rat)),(-((2 : Nat) : Rat),((0 : Nat) : Rat)),(((0 : Nat) : Rat),-((2 : Nat) : Rat))]
theorem wk_flip : wkH.map negP = wkF:=by decide
theorem zL6 {Ψ : PV} {l : List P2} {n : Nat} [h : VPt Ψ n l] (hn : n ≤ 300) (hl : l.length ≤ 100) : CTy prog 24 [Ψ] (sv (sl 6 ((l.map negP).map (ptc (n + 5))))):=qB (kmflip hn hl) (fs1 bH fs0)
theorem zX2 : CTy prog 12 [] (exP (.bool true)):=by
 have hs : (hullF wkT).length ≤ 100:=by rw [wP]; decide
 refine ctc func12 rfl rfl rfl rfl fun X => (zI (zK rfl (zA1 (oas rfl) (zA0 (zI (zK rfl (zA1 (oca rfl rfl fun _ => kpt (x:=0) (y:=0) (by omega) (by omega)) (zA1 (oca rfl rfl fun _ => kpt (x:=2) (y:=0) (by omega) (by omega)) (zA1 (oca rfl rfl fun _ => kpt (x:=1) (y:=0) (by omega) (by omega)) ?_)))))))))
 refine zA1 (oca rfl rfl fun _ => kpt (x:=0) (y:=2) (by omega) (by omega)) (zA1 (lY (obs rfl rfl rfl rfl rfl rfl) (ps_p (show _ = sv (sl 6 (wkT.map (ptc 2))) from rfl))) (zA1 (oca rfl rfl fun _ => oZ (l:=wkT) (by omega) (by (simp; done))) (zA1 (oas rfl) (zA0 (zI (zK rfl (zA1 (omv rfl) (zA1 (oca rfl rfl fun _ => kpt (x:=0) (y:=0) (by omega) (by omega)) (zA1 (oca rfl rfl fun _ => kpt (x:=1) (y:=0) (by omega) (by omega)) ?_)))))))))
 refine zA1 (lY (obs rfl rfl rfl rfl rfl rfl) (ps_p (show _ = sv (sl 6 (wkE.map (ptc 2))) from rfl))) (zA1 (oca rfl rfl fun _ => ksum (b:=wkE) (by omega) (by omega) (by omega) (by (simp; done))) (zA1 (oas rfl) (zA0 (zI (zK rfl (zA1 (omv rfl) (zA1 (oca rfl rfl fun _ => kpt (x:=0) (y:=0) (by omega) (by omega)) (zA1 (oca rfl rfl fun _ => kpt (x:=2) (y:=0) (by omega) (by omega)) (zA1 (oca rfl rfl fun _ => kpt (x:=0) (y:=2) (by omega) (by omega)) ?_)))))))))
 refine zA1 (lY (obs rfl rfl rfl rfl rfl rfl) (ps_p (show _ = sv (sl 6 (wkH.map (ptc 2))) from rfl))) (zA1 (oca rfl rfl fun _ => zT2 (by omega) (by omega)) (zA1 (omv rfl) (t1g rfl rfl (omv rfl) (t1g rfl rfl (oca rfl rfl fun _ => kpt (x:=0) (y:=0) (by omega) (by omega)) (t1g rfl rfl (oca rfl rfl fun _ => kpt (x:=3) (y:=0) (by omega) (by omega)) (t1g rfl rfl (oca rfl rfl fun _ => kpt (x:=1) (y:=2) (by omega) (by omega)) (t1g rfl rfl (oca rfl rfl fun _ => kpt (x:=0) (y:=2) (by omega) (by omega)) (t1g rfl rfl (lY (obs rfl rfl rfl rfl rfl rfl) (ps_p (show _ = sv (sl 6 (wkS.map (ptc 2))) from rfl))) (t1g rfl rfl (oca rfl rfl fun g => zT2 (by omega) (by omega)) ?_)))))))))
 refine zA1 (opk rfl rfl rfl) (zA1 (omv rfl) (t1g rfl rfl (omv rfl) (t1g rfl rfl (oca rfl rfl fun g => zL6 (by omega) (by omega)) (t1g rfl rfl (oca rfl rfl fun _ => kpt (x:=0) (y:=0) (by omega) (by omega)) (t1g rfl rfl (oca rfl rfl fun _ => kptx (x:=2) (y:=0) (by omega) (by omega) (by omega)) (t1g rfl rfl (oca rfl rfl fun _ => kpty (x:=0) (y:=2) (by omega) (by omega) (by omega)) (t1g rfl rfl (lY (obs rfl rfl rfl rfl rfl rfl) (ps_p (show _ = sv (sl 6 (wkF.map (ptc 2))) from rfl))) (t1g rfl rfl (oca rfl rfl fun g => zT2 (by omega) (by omega)) (zA1 (opk rfl rfl rfl) ?_)))))))))
 refine zA1 (oas rfl) (zA0 (yK (⟨[_],rst rfl rs0,yQ ?_⟩)))
 refine psb ?_
 rotate_left 1
 rw [wP,wk_sum,wk_flip]; simp
end Go.Proofs.YtflobagimodmgaaGreatDoor
set_option maxHeartbeats 4000000
namespace Go.Proofs.YtflobagimodmgaaGreatDoor
open Go.SL Go.RowKit Go.Proofs Tryz
def oC (l : List P2) (i k : Nat) : Prop:=0 ≤ trn (gp l i) (nx l i) (gp l k) ∧ (k ≠ i → k ≠ (i + 1) % l.length → trn (gp l i) (nx l i) (gp l k) ≠ 0)
theorem vG {l : List P2} : Conv l ↔ 3 ≤ l.length ∧ ∀ i,i < l.length → ∀ k,k < l.length → oC l i k :=
 ⟨fun h => ⟨h.three,fun i hi k hk => ⟨h.left i k hi hk,h.strict i k hi hk⟩⟩,fun h => ⟨h.1,fun i k hi hk => (h.2 i hi k hk).1,fun i k hi hk => (h.2 i hi k hk).2⟩⟩
noncomputable instance (l : List P2) : Decidable (Conv l):=Classical.propDecidable _
theorem zV1 {l : List P2} {i k : Nat} {b : Bool} (h : Tr ((decide (sgnR (trn (gp l i) (nx l i) (gp l k)) < 0) || (decide (sgnR (trn (gp l i) (nx l i) (gp l k)) = 0) && decide ((k : Int) ≠ (i : Int)) && decide ((k : Int) ≠ ((i : Int) + 1) % (l.length : Int)))) = b)) : oC l i k ↔ b = false:=by
 have h:=h.h
 subst h
 unfold oC
 rw [Bool.or_eq_false_iff,Bool.and_eq_false_iff,Bool.and_eq_false_iff,decide_eq_false_iff_not,decide_eq_false_iff_not,decide_eq_false_iff_not,decide_eq_false_iff_not,rA,lE]
 have e : (((i + 1) % l.length : Nat) : Int) = ((i : Int) + 1) % (l.length : Int):=by simp
 rw [← e]
 refine and_congr (by grind) ?_
 by_cases c1 : k = i
 ·simp [c1]
 by_cases c2 : k = (i + 1) % l.length
 ·simp [c2]
 ·have d1 : (k : Int) ≠ i:=by omega
  have d2 : (k : Int) ≠ (((i + 1) % l.length : Nat) : Int):=by omega
  exact ⟨fun h => .inl (.inl (h c1 c2)),fun h _ _ => h.elim (·.elim id fun h => absurd d1 h) fun h => absurd d2 h⟩
theorem zM0 {l : List P2} {n : Nat} (hn : n ≤ 190) (hl : l.length ≤ 1000) : CTy prog 20 [sv (sl 6 (l.map (ptq n)))] (exP (.bool (decide (Conv l)))):=by
 refine ctc func20 rfl rfl rfl rfl fun X => (zI (zK rfl (zA1 (oas rfl) (zA0 (zI (zI (zK rfl (zA1 (oas rfl) (zA0 ?_)))))))))
 refine yO ?_
 rotate_left 1
 refine jU (σ:=Nat) (fun i => [(3,True,exP (.int .i64 ((i : Nat) : Int)))]) (fun i => []) (fun i => i ≤ l.length ∧ ∀ j,j < i → ∀ k,k < l.length → oC l j k) (fun i => l.length - i) (0) (tk 0 rfl tn) ?_ rfl (⟨by omega,by omega⟩) (fun i hJ Y _ => ?_)
 refine tc rfl (ps_r _) (tn)
 rotate_left 1
 obtain ⟨hi,hs⟩:=hJ
 refine zI (zI (zK rfl (zA1 (omv rfl) (zA1 (omv rfl) (zA1 (oln rfl) (zA1 (olt rfl rfl) (zA0 ?_)))))))
 refine t_if rfl (fun c0 => ?_) (fun c0 => ?_)
 refine yY (zI (yO (zI ?_)))
 apply pV 2 15 14 [(12,4,0),(13,5,1),(14,1000014,0)] rfl rfl mixed rfl rfl rfl
 refine cx1 (omv rfl) rfl (cx1 (omv rfl) rfl (cx1 (oix _ rfl rfl rfl (fun _ => rfl) (fun _ => (by (have e0:=dt c0; omega)))) rfl (cx1 (old rfl rfl) rfl (cx1 (omv rfl) rfl (cx1 (omv rfl) rfl (cx1 (oad rfl rfl (by omega)) rfl (cx1 (omv rfl) rfl (cx1 (oln rfl) rfl (cx1 (orm rfl rfl (by (have e0:=dt c0; omega))) rfl ?_)))))))))
 refine cx1 (oix _ rfl rfl rfl (fun _ => rfl) (fun _ => ?_)) rfl ?_
 rotate_left 1
 refine cx1 (old rfl rfl) rfl (cN rfl rfl (cal) (cN rfl rfl (cal) (cS rfl rfl rfl (cst rfl rfl rfl) ?_)))
 refine cE (fun b4 b5 => ?_)
 refine kT (aG (s:=4) 1 rfl rfl) (tst 0 rfl rfl rfl rfl rfl rfl (kT (aG (s:=5) 0 rfl rfl) (zA0 (zI (zK rfl (zA1 (oas rfl) (zA0 (yO ?_))))))))
 rotate_left 1
 refine jY (zI (zK rfl (zA1 (omv rfl) (zA1 (oln rfl) (zA1 (oge rfl rfl) (zA1 (oas rfl) (zA0 (yK (⟨[_],rst rfl rs0,yQ ?_⟩)))))))))
 refine psb ?_
 rotate_left 1
 ·have:=dt c0
  exact Nat.mod_lt _ (by omega)
 ·have hi2 : i < l.length:=by have:=dt c0; omega
  refine jU (σ:=Nat) (fun k => [(6,True,exP (.int .i64 ((k : Nat) : Int)))]) (fun k => []) (fun k => k ≤ l.length ∧ ∀ m,m < k → oC l i m) (fun k => l.length - k) (0) (tk 0 rfl (tk 3 rfl (tk 4 rfl (tk 5 rfl tn)))) ?_ rfl (⟨by omega,by omega⟩) (fun k hJ Y _ => ?_)
  refine tc rfl (ps_r _) (tn)
  rotate_left 1
  obtain ⟨hk,ht⟩:=hJ
  refine zI (zI (zK rfl (zA1 (omv rfl) (zA1 (omv rfl) (zA1 (oln rfl) (zA1 (olt rfl rfl) (zA0 ?_)))))))
  refine t_if rfl (fun c1 => ?_) (fun c1 => ?_)
  refine yY (zI (yO (zI (xT 12 mixed rfl rfl (d1 (old rfl rfl) (d1 (old rfl rfl) (d1 (oca rfl rfl fun _ => lK (by omega) (by omega)) (d1 (omv rfl) (d1 (omv rfl) ?_)))))))))
  refine d1 (oix _ rfl rfl rfl (fun _ => rfl) (fun _ => (by (have e0:=dt c1; omega)))) (d1 (old rfl rfl) (d1 (old rfl rfl) (d1 (oca rfl rfl fun _ => lK (by omega) (by omega)) (d1 (oca rfl rfl fun _ => rP (by omega) (by omega)) (d1 (oca rfl rfl fun _ => wG (by omega)) (d1 (oas rfl) (d0 (zA0 (zI ?_)))))))))
  refine zK rfl (zA1 (omv rfl) (zA1 (olt rfl rfl) (zA1 (omv rfl) (t1g rfl rfl (omv rfl) (t1g rfl rfl (oeq rfl rfl) (t1g rfl rfl (omv rfl) (t1g rfl rfl (omv rfl) (t1g rfl rfl (omv rfl) (t1g rfl rfl (oni rfl rfl) ?_)))))))))
  refine t1g rfl rfl (opk rfl rfl rfl) (t1g rfl rfl (omv rfl) (t1g rfl rfl (omv rfl) (t1g rfl rfl (omv rfl) (t1g rfl rfl (oad rfl rfl (by omega)) (t1g rfl rfl (omv rfl) (t1g rfl rfl (oln rfl) (t1g rfl rfl (orm rfl rfl (by omega)) (t1g rfl rfl (oni rfl rfl) (t1g rfl rfl (opk rfl rfl rfl) ?_)))))))))
  refine zA1 (opk rfl rfl rfl) (zA0 ?_)
  refine t_if rfl (fun c2 => ?_) (fun c2 => ?_)
  refine zI (zK rfl (zA1 (oas rfl) (zA0 (yK (⟨[_],rst rfl rs0,yQ ?_⟩)))))
  refine psb ?_
  rotate_left 1
  refine yY (zK rfl (zA1 (omv rfl) (zA1 (oad rfl rfl (by omega)) (zA1 (oas rfl) (zA0 ?_)))))
  rotate_left 1
  refine jY (zK rfl (zA1 (omv rfl) (zA1 (oad rfl rfl (by omega)) (zA1 (oas rfl) (zA0 ?_)))))
  rotate_left 1
  ·have h:=zV1 c2
   rw [decide_eq_false fun c => by have:=h.1 ((vG.1 c).2 i hi2 k (by have:=dt c1; omega)); cases this]
  ·have h:=(zV1 c2).2 rfl
   refine ⟨k + 1,tes ?_ ?_ (List.Sublist.refl _),?_,(by (have e0:=dt c1; omega))⟩
   refine tc rfl (ps_r _) (tn)
   refine tc rfl (ps_r _) (tc rfl (ps_r _) (tc rfl (ps_r _) (tc rfl (ps_r _) (tn))))
   rotate_left 1
   refine ⟨by have:=dt c1; omega,fun m hm => ?_⟩
   rcases Nat.lt_or_ge m k with c | c
   ·exact ht m c
   ·rw [show m = k by omega]; exact h
  ·have h:=df c1
   refine ⟨i + 1,tes ?_ ?_ (List.Sublist.refl _),?_,(by omega)⟩
   refine tc rfl (ps_r _) (tn)
   refine tc rfl (ps_r _) (tn)
   rotate_left 1
   refine ⟨by omega,fun j hj m hm => ?_⟩
   rcases Nat.lt_or_ge j i with c | c
   ·exact hs j c m hm
   ·rw [show j = i by omega]; exact ht m (by omega)
 ·have h0:=df c0
  rw [decide_eq_decide,vG]
  exact ⟨fun h => ⟨by omega,fun j hj => hs j (by omega)⟩,fun h => by have:=h.1; omega⟩
theorem k18convc {Ψ : PV} {l : List P2} {n : Nat} [h : VPt Ψ n l] (hn : n ≤ 190) (hl : l.length ≤ 1000) : CTy prog 20 [Ψ] (exP (.bool (decide (Conv l)))):=qB (zM0 hn hl) (fs1 bH fs0)
end Go.Proofs.YtflobagimodmgaaGreatDoor
set_option maxHeartbeats 4000000
namespace Go.Proofs.YtflobagimodmgaaGreatDoor
open Go.SL Go.RowKit Go.Proofs Tryz
theorem zW8 {n : Nat} {l : List PX} (h : ∀ a ∈ l,big2 a ≤ n) : PSub (sv (pcx l)) (sv (pcs n (l.map px))):=fun M w v k => by
 unfold pcx pcs at *
 rw [List.map_map]
 exact ct_row (f:=ptx) (g:=ptq n ∘ px) (fun a ha _ _ _ => by
  have:=h a ha
  unfold big2 m4 at this
  dsimp only at this
  exact zW5 a (by omega) (by omega) (by omega) (by omega)) (fun _ => rfl) k
theorem mJ {l : List PX} (h : Tr (gr18 l = false)) : l.length ≤ 8 ∧ ∀ a ∈ l,big2 a ≤ 2:=by
 have h:=h.h
 unfold gr18 at h
 rw [Bool.or_eq_false_iff,decide_eq_false_iff_not,List.any_eq_false] at h
 exact ⟨by omega,fun a ha => by have:=h.2 a ha; simp only [decide_eq_true_eq] at this; omega⟩
end Go.Proofs.YtflobagimodmgaaGreatDoor
set_option maxHeartbeats 4000000
namespace Go.Proofs.YtflobagimodmgaaGreatDoor
open Go.SL Go.RowKit Go.Proofs Tryz
theorem zU0 {Ψ Φ : PV} {l : List P2} {d : P2} {n m : Nat} [h : VPt Ψ n l] [k : QP Φ m d] (hn : n ≤ 400) (hm : m ≤ 400) (hl : l.length ≤ 100) : CTy prog 23 [Ψ,Φ] (sv (sl 6 ((l.map (addP · d)).map (ptc (2 * max n m + 8))))) :=
 qB (k18shift hn hm hl) (fs1 bH (fs1 qp_q fs0))
theorem sum_len' (a b : List P2) : (sumF a b).length ≤ a.length + b.length:=by
 by_cases ha : a = []
 ·rw [pW.2 (.inl ha)]; simp
 by_cases hb : b = []
 ·rw [pW.2 (.inr hb)]; simp
 exact sumF_len ha hb
end Go.Proofs.YtflobagimodmgaaGreatDoor
set_option maxHeartbeats 4000000
namespace Go.Proofs.YtflobagimodmgaaGreatDoor
open Go.SL Go.RowKit Go.Proofs Tryz
theorem tT {l : List PX} (h : gr18 l = false) : CTy prog 20 [sv (pcx l)] (exP (.bool (decide (Conv (l.map px))))):=by
 obtain ⟨hl,hb⟩:=mJ ⟨h⟩
 exact qB (zM0 (n:=2) (by omega) (by rw [List.length_map]; omega)) (fs1 (zW8 hb) fs0)
end Go.Proofs.YtflobagimodmgaaGreatDoor
set_option maxHeartbeats 4000000
namespace Go.SL
open Go.RowKit
section arr
variable {P : Program} {r : Option Nat} {N : Nat} {all : Array Oper} {K : Pd} {D : List Deferred} {E : Env} {w : World} {rest : List Oper}
theorem ops_idxarr {d len sz bytes b o : Nat} {x ix : Operand} {t e t' : TypeId} {pos : String} {af : Array Edge} {z : Value} {k : IntKind} {i : Int} (j : Nat) (hd : Nat.blt d N = true) (ht : P.underlying t = some (.array len e)) (he : Sz P e sz bytes z)
  (hx : ev E x = some (.pointer (some ⟨b,o,none⟩))) (hi : ev E ix = some (.int k i)) (hij : i = (j : Int)) (hj : j < len) (h : Ops P r N all K rest D ((d,.pointer (some ⟨b,o + j * sz,none⟩)) :: E) w) :
  Ops P r N all K (⟨some d,.indexAddr t x ix,t',pos,af,none⟩ :: rest) D E w:=by
 refine yX hd (by intro c hc; cases hc) (fun a ha => ?_) h
 have e1 : (Instr.indexAt t (.pointer (some ⟨b,o,none⟩)) (.int k i)).run P w = .ok (.pointer (some ⟨b,o + j * sz,none⟩)) w:=by
  subst hij
  simp [Instr.indexAt,Instr.sureAddr,asIntOf,run_underlying ht,Result.andThen,gN he,hj,jT]
 simp only [execOp,ha.ev hx,ha.ev hi,Sem.run_bind,e1,Result.andThen]; rfl
theorem ops_slicea {d len sz bytes b o : Nat} {x : Operand} {t e t' : TypeId} {pos : String} {af : Array Edge} {z : Value} (hd : Nat.blt d N = true) (ht : P.underlying t = some (.array len e)) (he : Sz P e sz bytes z)
  (hx : ev E x = some (.pointer (some ⟨b,o,none⟩))) (h : Ops P r N all K rest D ((d,.slice (some ⟨b,o,none⟩) len len) :: E) w) :
  Ops P r N all K (⟨some d,.slice t x none none none,t',pos,af,none⟩ :: rest) D E w:=by
 refine yX hd (by intro c hc; cases hc) (fun a ha => ?_) h
 have e1 : (Instr.sliceAt t (.pointer (some ⟨b,o,none⟩)) none none none).run P w = .ok (.slice (some ⟨b,o,none⟩) len len) w:=by
  have e2 : (Instr.sliceBounds false len len none none none).run P w = .ok (0,len,len) w:=rfl
  have e3 : (if len = 0 then (⟨b,o,none⟩ : Addr) else (⟨b,o,none⟩ : Addr).add (0 * sz)) = ⟨b,o,none⟩:=by
   split
   ·rfl
   ·rw [Nat.zero_mul,jT]; rfl
  simp only [Instr.sliceAt,Sem.run_bind,run_underlying ht,Result.andThen,Instr.sureAddr,Sem.run_pure,e2,gN he,e3,Nat.sub_zero]
 simp only [execOp,ha.ev hx,Option.map_none,Sem.run_bind,e1,Result.andThen]; rfl
end arr
class TAr (P : Program) (t : TypeId) (len sz : outParam Nat) : Prop where
 h : ∃ e z z' bytes bytes',P.underlying t = some (.array len e) ∧ Sz P e sz bytes z ∧ Sz P t (len * sz) bytes' z' ∧ z'.cells.size = len * sz
theorem oia {P : Program} {r : Option Nat} {N : Nat} {Γ : TE} {S : List Ow} {ops : Array Oper} {M : Nat → Prop} {p qx qi : Prop} {Ψi : PV} {d len sz : Nat} {x ix : Operand} {t t' : TypeId} {pos : String} {af : Array Edge} {l : List CT} {c : CT} {ki : IntKind} {i : Int} (j : Nat) (hx : tv Γ x = some (qx,pa (st l))) (hi : tv Γ ix = some (qi,Ψi)) [Im p qx] [Im p qi]
  [ht : TAr P t len sz] [hki : VI Ψi ki i] (hij : i = (j : Int)) (hj : Nat.blt j len = true) (ha : iQ l (j * sz) = some c) : Ob P r N ops M S p ⟨some d,.indexAddr t x ix,t',pos,af,none⟩ Γ (pa c) :=
 ob2 hx hi (by simp [Op.operands]) (by simp [Op.operands]) fun D E w u v hN hg e1 e2 ⟨b,o,us,e,h1,h2,h3⟩ h4 => by
  subst e
  obtain ⟨el,z,z',bytes,bytes',k1,k2,k3,k4⟩:=ht.h
  rw [hki.h h4] at e2
  exact ops_idxarr j hN k1 k2 e1 e2 hij (by simpa [Nat.blt_eq] using hj) (fin ⟨b,o + j * sz,_,rfl,h1,h2.sub (j * sz) c.sz,kS h3 ha⟩)
theorem osa {P : Program} {r : Option Nat} {N : Nat} {Γ : TE} {S : List Ow} {ops : Array Oper} {M : Nat → Prop} {p qx : Prop} {d len sz : Nat} {x : Operand} {t t' : TypeId} {pos : String} {af : Array Edge} {l : List CT} (hx : tv Γ x = some (qx,pa (st l))) [Im p qx]
  [ht : TAr P t len sz] (hl : Nat.beq l.length len = true) (hs : (l.all fun c => Nat.beq c.sz sz) = true) (hm : Nat.ble len 1000 = true) : Ob P r N ops M S p ⟨some d,.slice t x none none none,t',pos,af,none⟩ Γ (sv (sl sz l)) :=
 ob1 hx (by simp [Op.operands]) fun D E w u hN hg e1 ⟨b,o,us,e,h1,h2,h3⟩ => by
  subst e
  obtain ⟨el,z,z',bytes,bytes',k1,k2,k3,k4⟩:=ht.h
  have hl:=Nat.eq_of_beq_eq_true hl
  have hall : aD sz l:=fun c hc => Nat.eq_of_beq_eq_true (List.all_eq_true.1 hs c hc)
  have hlen:=kN h3
  rw [fY hall] at hlen
  have hm:=Nat.le_of_ble_eq_true hm
  refine ops_slicea hN k1 k2 e1 (fin ⟨_,us,rfl,⟨hlen,by omega,_,len,by rw [hl],by omega,.inr ⟨b,o,rfl,h1,h2⟩⟩,h3,hall⟩)
end Go.SL
namespace Go.Proofs.YtflobagimodmgaaGreatDoor
open Go.SL Go.RowKit Go.Proofs Tryz
instance : TAr prog 47 3 6:=⟨_,_,_,_,_,underlying47,sz35,sz47,rfl⟩
end Go.Proofs.YtflobagimodmgaaGreatDoor
set_option maxHeartbeats 4000000
namespace Go.Proofs.YtflobagimodmgaaGreatDoor
open Go.SL Go.RowKit Go.Proofs Tryz
theorem cp_q {c : CT} {n : Nat} {q : P2} [h : CP c n q] {M : Nat → Prop} {w : World} {us : List Value} (k : c.p M w us) : (ptq n q).p M w us:=by
 obtain ⟨us',e,k'⟩:=qp_q (Ψ:=ag c) (n:=n) (q:=q) M w (.agg us.toArray) ⟨us,rfl,k⟩
 have : us = us':=by simpa using e
 rw [this]; exact k'
theorem zV7 {c1 c2 c3 : CT} {m : Nat} {a b c : P2} [h1 : CP c1 m a] [h2 : CP c2 m b] [h3 : CP c3 m c] : PSub (ag (st [c1,c2,c3])) (ag (st [ptq m a,ptq m b,ptq m c])):=fun M w v ⟨us,e,x,y,e1,k1,x2,y2,e2,k2,x3,y3,e3,k3,k4⟩ =>
 ⟨us,e,x,y,e1,cp_q k1,x2,y2,e2,cp_q k2,x3,y3,e3,cp_q k3,k4⟩
theorem k18corn {n : Nat} {a b c : P2} : CTy prog 28 [ag (st [ptq n a,ptq n b,ptq n c])] (sv (sl 6 ([a,b,c].map (ptq n)))):=by
 refine ctc func28 rfl rfl rfl rfl fun X => (zI (zK rfl (zA1 (obx rfl) (zA1 (oas rfl) (zA0 (zI (zK rfl (zA1 (oia 0 rfl rfl rfl rfl rfl) (zA1 (old rfl rfl) ?_)))))))))
 refine zA1 (oia 1 rfl rfl rfl rfl rfl) (zA1 (old rfl rfl) (zA1 (oia 2 rfl rfl rfl rfl rfl) (zA1 (old rfl rfl) (zA1 (obs rfl rfl rfl rfl rfl rfl) (zA1 (oas rfl) (zA0 (yK (⟨[_],rst rfl rs0,yQ (PSub.refl _)⟩))))))))
theorem kpiece {l : List P2} {a b c : P2} {n m : Nat} (hn : n ≤ 200) (hm : m ≤ 200) (hl : l.length ≤ 90) : CTy prog 29 [sv (sl 6 (l.map (ptq n))),ag (st [ptq m a,ptq m b,ptq m c])] (sv (sl 6 ((sumF [a,b,c] (l.map negP)).map (ptc (m + (n + 5) + 4))))):=by
 have h3 : ([a,b,c] : List P2).length ≤ 100:=by simp
 have h4 : (l.map negP).length ≤ 100:=by rw [List.length_map]; omega
 refine ctc func29 rfl rfl rfl rfl fun X => (zI (zK rfl (zA1 (obx rfl) (zA1 (oas rfl) (zA0 (zI (xT 5 mixed rfl rfl (d1 (lY (osa rfl rfl rfl rfl) (show PSub _ (sv (sl 6 ([a,b,c].map (ptq m)))) from PSub.refl _)) (d1 (omv rfl) ?_)))))))))
 refine d1 (oca rfl rfl fun _ => zL6 (by omega) (by omega)) (d1 (oca rfl rfl fun _ => ksum (by omega) (by omega) (by omega) (by omega)) (d1 (oas rfl) (d0 (zA0 (yK (⟨[_],rst rfl rs0,yQ (PSub.refl _)⟩))))))
theorem kpiecec {Ψ : PV} {c1 c2 c3 : CT} {l : List P2} {a b c : P2} {n m : Nat} [h : VPt Ψ n l] [h1 : CP c1 m a] [h2 : CP c2 m b] [h3 : CP c3 m c] (hn : n ≤ 200) (hm : m ≤ 200) (hl : l.length ≤ 90) : CTy prog 29 [Ψ,ag (st [c1,c2,c3])] (sv (sl 6 ((sumF [a,b,c] (l.map negP)).map (ptc (m + (n + 5) + 4))))) :=
 qB (kpiece hn hm hl) (fs1 bH (fs1 zV7 fs0))
theorem zR5 {c c' : CT} (h : ∀ M w us,c.p M w us → c'.p M w us) : PSub (pa c) (pa c'):=fun M w v ⟨b,o,us,e,h1,h2,h3⟩ => ⟨b,o,us,e,h1,h2,h _ _ _ h3⟩
theorem zJ4 {d : PX} {n : Nat} (h : big2 d ≤ n) {M : Nat → Prop} {w : World} {us : List Value} (k : (ptx d).p M w us) : (ptq n (px d)).p M w us:=by
 unfold big2 m4 at h
 dsimp only at h
 exact zW5 d (by omega) (by omega) (by omega) (by omega) k
theorem trx_c {a b c : PX} {n : Nat} (h1 : big2 a ≤ n) (h2 : big2 b ≤ n) (h3 : big2 c ≤ n) : ∀ M w us,(st [ptx a,ptx b,ptx c]).p M w us → (st [ptq n (px a),ptq n (px b),ptq n (px c)]).p M w us:=fun M w us ⟨x,y,e1,k1,x2,y2,e2,k2,x3,y3,e3,k3,k4⟩ =>
 ⟨x,y,e1,zJ4 h1 k1,x2,y2,e2,zJ4 h2 k2,x3,y3,e3,zJ4 h3 k3,k4⟩
theorem tR {c1 c2 c3 : CT} {m : Nat} {a b c : P2} [h1 : CP c1 m a] [h2 : CP c2 m b] [h3 : CP c3 m c] : CTy prog 28 [ag (st [c1,c2,c3])] (sv (sl 6 ([a,b,c].map (ptq m)))):=qB k18corn (fs1 zV7 fs0)
end Go.Proofs.YtflobagimodmgaaGreatDoor
set_option maxHeartbeats 4000000
namespace Go.Proofs.YtflobagimodmgaaGreatDoor
open Go.SL Go.RowKit Go.Proofs Tryz
noncomputable instance (a b : P2) (l : List P2) : Decidable (fV a b l):=Classical.propDecidable _
noncomputable instance (a b : List P2) : Decidable (OneP a b):=Classical.propDecidable _
noncomputable instance (l : List P2) (p : P2) : Decidable (dK l p):=Classical.propDecidable _
theorem k18parts {a b : P2} {l : List P2} {n m k : Nat} (hn : n ≤ 90) (hm : m ≤ 90) (hk : k ≤ 90) (hl : l.length ≤ 1000) : CTy prog 143 [ag (ptq n a),ag (ptq m b),sv (sl 6 (l.map (ptq k)))] (exP (.bool (decide (fV a b l)))):=by
 refine ctc func143 rfl rfl rfl rfl fun X => (zI (zK rfl (zA1 (obx rfl) (zA1 (obx rfl) (zA1 (oas rfl) (zA0 (zI (zI (zK rfl ?_)))))))))
 refine zA1 (oas rfl) (zA0 (yO ?_))
 rotate_left 1
 refine jU (σ:=Nat) (fun i => [(7,True,exP (.int .i64 ((i : Nat) : Int)))]) (fun i => []) (fun i => i ≤ l.length ∧ ∀ j,j < i → trn a b (gp l j) ≤ 0) (fun i => l.length - i) (0) (tk 2 rfl (tk 3 rfl (tk 4 rfl tn))) ?_ rfl (⟨by omega,by omega⟩) (fun i hJ Y _ => ?_)
 refine tc rfl (ps_r _) (tn)
 rotate_left 1
 obtain ⟨hi,hs⟩:=hJ
 refine zI (zI (zK rfl (zA1 (omv rfl) (zA1 (omv rfl) (zA1 (oln rfl) (zA1 (olt rfl rfl) (zA0 ?_)))))))
 refine t_if rfl (fun c0 => ?_) (fun c0 => ?_)
 refine yY (zI (yO (zI (xT 12 mixed rfl rfl (d1 (old rfl rfl) (d1 (old rfl rfl) (d1 (oca rfl rfl fun _ => lK (by omega) (by omega)) (d1 (omv rfl) (d1 (omv rfl) ?_)))))))))
 refine d1 (oix _ rfl rfl rfl (fun _ => rfl) (fun _ => (by (have e0:=dt c0; omega)))) (d1 (old rfl rfl) (d1 (old rfl rfl) (d1 (oca rfl rfl fun _ => lK (by omega) (by omega)) (d1 (oca rfl rfl fun _ => rP (by omega) (by omega)) (d1 (oca rfl rfl fun _ => wG (by omega)) (d1 (ogt rfl rfl) (d0 (zA0 ?_))))))))
 refine t_if rfl (fun c1 => ?_) (fun c1 => ?_)
 refine zI (zK rfl (zA1 (oas rfl) (zA0 (yK (⟨[_],rst rfl rs0,yQ ?_⟩)))))
 refine psb ?_
 rotate_left 1
 refine yY (zK rfl (zA1 (omv rfl) (zA1 (oad rfl rfl (by omega)) (zA1 (oas rfl) (zA0 ?_)))))
 rotate_left 1
 refine jY (zI (zK rfl (zA1 (oas rfl) (zA0 (yK (⟨[_],rst rfl rs0,yQ ?_⟩))))))
 refine psb ?_
 rotate_left 1
 ·have h:=bL.1 (dt c1)
  exact (decide_eq_false fun k => by have:=k _ (qA (h:=l) (i:=i) (by have:=dt c0; omega)); exact absurd this (by rw [Rat.not_le]; exact h)).symm
 ·have h : ¬ 0 < trn a b (gp l i):=fun k => df c1 (bL.2 k)
  refine ⟨i + 1,tes ?_ ?_ (List.Sublist.refl _),?_,(by (have e0:=dt c0; have e1:=df c1; omega))⟩
  refine tc rfl (ps_r _) (tn)
  refine tc rfl (ps_r _) (tc rfl (ps_r _) (tc rfl (ps_r _) (tn)))
  rotate_left 1
  refine ⟨by have:=dt c0; omega,fun j hj => ?_⟩
  rcases Nat.lt_or_ge j i with c | c
  ·exact hs j c
  ·rw [show j = i by omega]; exact Rat.not_lt.1 h
 ·have h:=df c0
  exact (decide_eq_true (p:=fV a b l) fun x hx => by obtain ⟨j,hj,rfl⟩:=kK hx; exact hs j (by omega)).symm
theorem k18partsc {Ψ Φ Θ : PV} {a b : P2} {l : List P2} {n m k : Nat} [h1 : QP Ψ n a] [h2 : QP Φ m b] [h3 : VPt Θ k l] (hn : n ≤ 90) (hm : m ≤ 90) (hk : k ≤ 90) (hl : l.length ≤ 1000) : CTy prog 143 [Ψ,Φ,Θ] (exP (.bool (decide (fV a b l)))):=qB (k18parts hn hm hk hl) (fs1 qp_q (fs1 qp_q (fs1 bH fs0)))
theorem k18one {a b : List P2} {n m : Nat} (hn : n ≤ 90) (hm : m ≤ 90) (ha : a.length ≤ 1000) (hb : b.length ≤ 1000) : CTy prog 84 [sv (sl 6 (a.map (ptq n))),sv (sl 6 (b.map (ptq m)))] (exP (.bool (decide (OneP a b)))):=by
 refine ctc func84 rfl rfl rfl rfl fun X => (zI (zK rfl (zA1 (oas rfl) (zA0 (zI (zI (zK rfl (zA1 (oas rfl) (zA0 ?_)))))))))
 refine yO ?_
 rotate_left 1
 refine jU (σ:=Nat) (fun i => [(5,True,exP (.int .i64 ((i : Nat) : Int)))]) (fun i => []) (fun i => i ≤ a.length ∧ ∀ j,j < i → ¬ fV (gp a j) (nx a j) b) (fun i => a.length - i) (0) (tk 0 rfl (tk 1 rfl tn)) ?_ rfl (⟨by omega,by omega⟩) (fun i hJ Y _ => ?_)
 refine tc rfl (ps_r _) (tn)
 rotate_left 1
 obtain ⟨hi,hs⟩:=hJ
 refine zI (zI (zK rfl (zA1 (omv rfl) (zA1 (omv rfl) (zA1 (oln rfl) (zA1 (olt rfl rfl) (zA0 ?_)))))))
 refine t_if rfl (fun c0 => ?_) (fun c0 => ?_)
 refine yY (zI (yO (zI (xT 14 mixed rfl rfl (d1 (omv rfl) (d1 (omv rfl) (d1 (oix _ rfl rfl rfl (fun _ => rfl) (fun _ => (by (have e0:=dt c0; omega)))) (d1 (old rfl rfl) (d1 (omv rfl) ?_)))))))))
 refine d1 (omv rfl) (d1 (oad rfl rfl (by omega)) (d1 (omv rfl) (d1 (oln rfl) (d1 (orm rfl rfl (by (have e0:=dt c0; omega))) ?_))))
 refine d1 (oix _ rfl rfl rfl (fun _ => rfl) (fun _ => ?_)) ?_
 rotate_left 1
 refine d1 (old rfl rfl) (d1 (omv rfl) (d1 (oca rfl rfl fun _ => k18partsc (by omega) (by omega) (by omega) (by omega)) (d0 (zA0 ?_))))
 refine t_if rfl (fun c1 => ?_) (fun c1 => ?_)
 refine zI (zK rfl (zA1 (oas rfl) (zA0 (yK (⟨[_],rst rfl rs0,yQ ?_⟩)))))
 refine psb ?_
 rotate_left 1
 refine yY (zK rfl (zA1 (omv rfl) (zA1 (oad rfl rfl (by omega)) (zA1 (oas rfl) (zA0 ?_)))))
 rotate_left 1
 refine jY (zI (zK rfl (zA1 (oas rfl) (zA0 (yK (⟨[_],rst rfl rs0,yQ ?_⟩))))))
 refine psb ?_
 rotate_left 1
 ·have:=dt c0
  exact Nat.mod_lt _ (by omega)
 ·exact (decide_eq_true ⟨i,by have:=dt c0; omega,dt c1⟩).symm
 ·have h:=df c1
  refine ⟨i + 1,tes ?_ ?_ (List.Sublist.refl _),?_,(by (have e0:=dt c0; have e1:=df c1; omega))⟩
  refine tc rfl (ps_r _) (tn)
  refine tc rfl (ps_r _) (tc rfl (ps_r _) (tn))
  rotate_left 1
  refine ⟨by have:=dt c0; omega,fun j hj => ?_⟩
  rcases Nat.lt_or_ge j i with c | c
  ·exact hs j c
  ·rw [show j = i by omega]; exact h
 ·have h:=df c0
  exact (decide_eq_false fun ⟨j,hj,k⟩ => hs j (by omega) k).symm
theorem zL9 {Ψ Φ : PV} {a b : List P2} {n m : Nat} [h1 : VPt Ψ n a] [h2 : VPt Φ m b] (hn : n ≤ 90) (hm : m ≤ 90) (ha : a.length ≤ 1000) (hb : b.length ≤ 1000) : CTy prog 84 [Ψ,Φ] (exP (.bool (decide (OneP a b)))):=qB (k18one hn hm ha hb) (fs1 bH (fs1 bH fs0))
theorem k18polys {a b : List P2} {n m : Nat} (hn : n ≤ 90) (hm : m ≤ 90) (ha : a.length ≤ 1000) (hb : b.length ≤ 1000) : CTy prog 31 [sv (sl 6 (a.map (ptq n))),sv (sl 6 (b.map (ptq m)))] (exP (.bool (decide (OneP a b) || decide (OneP b a)))):=by
 refine ctc func31 rfl rfl rfl rfl fun X => (zI (zK rfl (zA1 (oas rfl) (zA0 (zI (zK rfl (zA1 (omv rfl) (zA1 (omv rfl) (zA1 (oca rfl rfl fun _ => zL9 (by omega) (by omega) (by omega) (by omega)) ?_)))))))))
 refine zA1 (omv rfl) (t1g rfl rfl (omv rfl) (t1g rfl rfl (omv rfl) (t1g rfl rfl (oca rfl rfl fun g => zL9 (by omega) (by omega) (by omega) (by omega)) (zA1 (opk rfl rfl rfl) (zA1 (oas rfl) (zA0 (yK (⟨[_],rst rfl rs0,yQ (PSub.refl _)⟩))))))))
theorem pA {Ψ Φ : PV} {a b : List P2} {n m : Nat} [h1 : VPt Ψ n a] [h2 : VPt Φ m b] (hn : n ≤ 90) (hm : m ≤ 90) (ha : a.length ≤ 1000) (hb : b.length ≤ 1000) : CTy prog 31 [Ψ,Φ] (exP (.bool (decide (OneP a b) || decide (OneP b a)))):=qB (k18polys hn hm ha hb) (fs1 bH (fs1 bH fs0))
theorem k18within {l : List P2} {p : P2} {n m : Nat} (hn : n ≤ 90) (hm : m ≤ 90) (hl : l.length ≤ 1000) : CTy prog 30 [sv (sl 6 (l.map (ptq n))),ag (ptq m p)] (exP (.bool (decide (dK l p)))):=by
 refine ctc func30 rfl rfl rfl rfl fun X => (zI (zK rfl (zA1 (obx rfl) (zA1 (oas rfl) (zA0 (zI (zI (zK rfl (zA1 (oas rfl) ?_)))))))))
 refine zA0 (yO ?_)
 rotate_left 1
 refine jU (σ:=Nat) (fun i => [(5,True,exP (.int .i64 ((i : Nat) : Int)))]) (fun i => []) (fun i => i ≤ l.length ∧ ∀ j,j < i → 0 < trn (gp l j) (nx l j) p) (fun i => l.length - i) (0) (tk 0 rfl (tk 3 rfl tn)) ?_ rfl (⟨by omega,by omega⟩) (fun i hJ Y _ => ?_)
 refine tc rfl (ps_r _) (tn)
 rotate_left 1
 obtain ⟨hi,hs⟩:=hJ
 refine zI (zI (zK rfl (zA1 (omv rfl) (zA1 (omv rfl) (zA1 (oln rfl) (zA1 (olt rfl rfl) (zA0 ?_)))))))
 refine t_if rfl (fun c0 => ?_) (fun c0 => ?_)
 refine yY (zI (yO (zI (xT 22 mixed rfl rfl (d1 (omv rfl) (d1 (omv rfl) (d1 (oad rfl rfl (by omega)) (d1 (omv rfl) (d1 (oln rfl) ?_)))))))))
 refine d1 (orm rfl rfl (by (have e0:=dt c0; omega))) ?_
 refine d1 (oix _ rfl rfl rfl (fun _ => rfl) (fun _ => ?_)) ?_
 rotate_left 1
 refine d1 (old rfl rfl) (d1 (omv rfl) (d1 (omv rfl) (d1 (oix _ rfl rfl rfl (fun _ => rfl) (fun _ => (by (have e0:=dt c0; omega)))) (d1 (old rfl rfl) (d1 (oca rfl rfl fun _ => lK (by omega) (by omega)) (d1 (old rfl rfl) (d1 (omv rfl) (d1 (omv rfl) (d1 (oix _ rfl rfl rfl (fun _ => rfl) (fun _ => (by (have e0:=dt c0; omega)))) ?_)))))))))
 refine d1 (old rfl rfl) (d1 (oca rfl rfl fun _ => lK (by omega) (by omega)) (d1 (oca rfl rfl fun _ => rP (by omega) (by omega)) (d1 (oca rfl rfl fun _ => wG (by omega)) (d1 (ole rfl rfl) (d0 (zA0 ?_))))))
 refine t_if rfl (fun c1 => ?_) (fun c1 => ?_)
 refine zI (zK rfl (zA1 (oas rfl) (zA0 (yK (⟨[_],rst rfl rs0,yQ ?_⟩)))))
 refine psb ?_
 rotate_left 1
 refine yY (zK rfl (zA1 (omv rfl) (zA1 (oad rfl rfl (by omega)) (zA1 (oas rfl) (zA0 ?_)))))
 rotate_left 1
 refine jY (zI (zK rfl (zA1 (omv rfl) (zA1 (oln rfl) (zA1 (oge rfl rfl) (zA1 (oas rfl) (zA0 (yK (⟨[_],rst rfl rs0,yQ ?_⟩)))))))))
 refine psb ?_
 rotate_left 1
 ·have:=dt c0
  exact Nat.mod_lt _ (by omega)
 ·have h:=dt c1
  have h2 : trn (gp l i) (nx l i) p ≤ 0:=rB.1 h
  exact (decide_eq_false (p:=dK l p) fun k => absurd (k.2 i (by have:=dt c0; omega)) (Rat.not_lt.2 h2)).symm
 ·have h : 0 < trn (gp l i) (nx l i) p:=bL.1 (Int.not_le.1 (df c1))
  refine ⟨i + 1,tes ?_ ?_ (List.Sublist.refl _),?_,(by (have e0:=dt c0; have e1:=df c1; omega))⟩
  refine tc rfl (ps_r _) (tn)
  refine tc rfl (ps_r _) (tc rfl (ps_r _) (tn))
  rotate_left 1
  refine ⟨by have:=dt c0; omega,fun j hj => ?_⟩
  rcases Nat.lt_or_ge j i with c | c
  ·exact hs j c
  ·rw [show j = i by omega]; exact h
 ·have h:=df c0
  rw [decide_eq_decide]
  exact ⟨fun k => ⟨by omega,fun j hj => hs j (by omega)⟩,fun k => by have:=k.1; omega⟩
theorem k18withinc {Ψ Φ : PV} {l : List P2} {p : P2} {n m : Nat} [h1 : VPt Ψ n l] [h2 : QP Φ m p] (hn : n ≤ 90) (hm : m ≤ 90) (hl : l.length ≤ 1000) : CTy prog 30 [Ψ,Φ] (exP (.bool (decide (dK l p)))):=qB (k18within hn hm hl) (fs1 bH (fs1 qp_q fs0))
abbrev TX3:=PX × PX × PX
def trx (t : TX3) : CT:=st [ptx t.1,ptx t.2.1,ptx t.2.2]
def trl (t : TX3) : List PX:=[t.1,t.2.1,t.2.2]
instance : Df TX3:=⟨(Df.d,Df.d,Df.d)⟩
theorem tQ {a b c : PX} : CTy prog 28 [ag (st [ptx a,ptx b,ptx c])] (sv (pcx [a,b,c])):=by
 refine ctc func28 rfl rfl rfl rfl fun X => (zI (zK rfl (zA1 (obx rfl) (zA1 (oas rfl) (zA0 (zI (zK rfl (zA1 (oia 0 rfl rfl rfl rfl rfl) (zA1 (old rfl rfl) ?_)))))))))
 refine zA1 (oia 1 rfl rfl rfl rfl rfl) (zA1 (old rfl rfl) (zA1 (oia 2 rfl rfl rfl rfl rfl) (zA1 (old rfl rfl) (zA1 (obs rfl rfl rfl rfl rfl rfl) (zA1 (oas rfl) (zA0 (yK (⟨[_],rst rfl rs0,yQ (PSub.refl _)⟩))))))))
def pB (l : List TX3) : Bool:=decide (8 < l.length) || l.any fun t => gr18 (trl t)
theorem gtris_at {l : List TX3} {i : Nat} (h : i < l.length) (k : gr18 (trl (l.getD i Df.d)) = true) : pB l = true:=by
 rw [List.getD_eq_getElem?_getD,List.getElem?_eq_getElem h,Option.getD_some] at k
 unfold pB; rw [Bool.or_eq_true]
 exact .inr (List.any_eq_true.2 ⟨_,List.getElem_mem h,k⟩)
theorem kgtris {l : List TX3} : CTy prog 27 [sv (sl 18 (l.map trx))] (exP (.bool (pB l))):=by
 refine ctc func27 rfl rfl rfl rfl fun X => (zI (zK rfl (zA1 (oas rfl) (zA0 (zI (zI (zK rfl (zA1 (oas rfl) (zA0 ?_)))))))))
 refine yO ?_
 rotate_left 1
 refine jU (σ:=Nat) (fun i => [(3,True,exP (.int .i64 ((i : Nat) : Int)))]) (fun i => []) (fun i => i ≤ l.length ∧ i ≤ 9 ∧ ∀ j,j < i → gr18 (trl (l.getD j Df.d)) = false) (fun i => l.length - i) (0) (tk 0 rfl tn) ?_ rfl (⟨by omega,by omega,by omega⟩) (fun i hJ Y _ => ?_)
 refine tc rfl (ps_r _) (tn)
 rotate_left 1
 obtain ⟨hi,h9,hs⟩:=hJ
 refine zI (zI (zK rfl (zA1 (omv rfl) (zA1 (omv rfl) (zA1 (oln rfl) (zA1 (olt rfl rfl) (zA1 (omv rfl) (t1g rfl rfl (omv rfl) (t1g rfl rfl (ole rfl rfl) ?_)))))))))
 refine zA1 (opk rfl rfl rfl) (zA0 ?_)
 refine t_if rfl (fun c0 => ?_) (fun c0 => ?_)
 refine yY (zI (yO (zI (zK rfl (zA1 (omv rfl) (zA1 (omv rfl) (zA1 (oix _ rfl rfl rfl (fun _ => rfl) (fun _ => (by (have e0:=dand c0; omega)))) (zA1 (old rfl rfl) (zA1 (oca rfl rfl fun _ => tQ) ?_)))))))))
 refine zA1 (oca rfl rfl fun _ => kg18) (zA0 ?_)
 refine t_if rfl (fun c1 => ?_) (fun c1 => ?_)
 refine zI (zK rfl (zA1 (oas rfl) (zA0 (yK (⟨[_],rst rfl rs0,yQ ?_⟩)))))
 refine psb ?_
 rotate_left 1
 refine yY (zK rfl (zA1 (omv rfl) (zA1 (oad rfl rfl (by omega)) (zA1 (oas rfl) (zA0 ?_)))))
 rotate_left 1
 refine jY (zI (zK rfl (zA1 (omv rfl) (zA1 (oln rfl) (zA1 (ogt rfl rfl) (zA1 (oas rfl) (zA0 (yK (⟨[_],rst rfl rs0,yQ ?_⟩)))))))))
 refine psb ?_
 rotate_left 1
 ·have:=dand c0
  exact (gtris_at (i:=i) (by omega) c1.h).symm
 ·have:=dand c0
  refine ⟨i + 1,tes ?_ ?_ (List.Sublist.refl _),?_,(by omega)⟩
  refine tc rfl (ps_r _) (tn)
  refine tc rfl (ps_r _) (tn)
  rotate_left 1
  refine ⟨by omega,by omega,fun j hj => ?_⟩
  rcases Nat.lt_or_ge j i with c | c
  ·exact hs j c
  ·rw [show j = i by omega]; exact c1.h
 ·have:=dor c0
  unfold pB
  rw [Bool.eq_iff_iff,Bool.or_eq_true,decide_eq_true_eq,decide_eq_true_eq,List.any_eq_true]
  refine ⟨fun h => .inl (by omega),fun h => ?_⟩
  rcases h with h | ⟨a,ha,h⟩
  ·omega
  ·obtain ⟨k,hk,rfl⟩:=List.mem_iff_getElem.1 ha
   rcases Nat.lt_or_ge k i with c | c
   ·have h2:=hs k c
    rw [List.getD_eq_getElem?_getD,List.getElem?_eq_getElem hk,Option.getD_some,h] at h2
    cases h2
   ·omega
theorem tW {l : List TX3} (h : pB l = false) : l.length ≤ 8 ∧ ∀ t ∈ l,gr18 (trl t) = false:=by
 unfold pB at h
 rw [Bool.or_eq_false_iff,decide_eq_false_iff_not,List.any_eq_false] at h
 exact ⟨by omega,fun t ht => by simpa using h.2 t ht⟩
end Go.Proofs.YtflobagimodmgaaGreatDoor
set_option maxHeartbeats 4000000
namespace Go.Proofs.YtflobagimodmgaaGreatDoor
open Go.SL Go.RowKit Go.Proofs Tryz
theorem law_MinkWithin {r : List PX} {t : PX × PX × PX} {d : PX} : CTy prog 6 [sv (pcx r),ag (st [ptx t.1,ptx t.2.1,ptx t.2.2]),ag (ptx d)] (exP (.bool true)):=by
 obtain ⟨a,b,c⟩:=t
 dsimp only
 refine ctc func6 rfl rfl rfl rfl fun X => (zI (zK rfl (zA1 (obx rfl) (zA1 (obx rfl) (zA1 (oas rfl) (zA0 (zI (zI (zK rfl ?_)))))))))
 refine zA1 (omv rfl) (zA1 (oln rfl) (zA1 (ogt rfl rfl) (zA1 (omv rfl) (t1g rfl rfl (omv rfl) (t1g rfl rfl (oca rfl rfl fun g => kg18) (zA1 (opk rfl rfl rfl) (zA1 (omv rfl) (t1g rfl rfl (old rfl rfl) (t1g rfl rfl (obs rfl rfl rfl rfl rfl rfl) ?_)))))))))
 refine t1g rfl rfl (oca rfl rfl fun _ => kg18 (l:=[d])) (zA1 (opk rfl rfl rfl) (zA1 (omv rfl) (t1g rfl rfl (old rfl rfl) (t1g rfl rfl (obs rfl rfl rfl rfl rfl rfl) (t1g rfl rfl (oca rfl rfl fun _ => kgtris (l:=[(a,b,c)])) (zA1 (opk rfl rfl rfl) (zA1 (omv rfl) (t1g rfl rfl (omv rfl) ?_))))))))
 refine t1g rfl rfl (oca rfl rfl fun g => tT ?_) ?_
 rotate_left 1
 refine t1g rfl rfl (ont rfl) (zA1 (opk rfl rfl rfl) (zA1 (omv rfl) (t1g rfl rfl (old rfl rfl) (t1g rfl rfl (oca rfl rfl fun g => tQ) ?_))))
 refine t1g rfl rfl (oca rfl rfl fun g => tT (l:=[a,b,c]) ?_) ?_
 rotate_left 1
 refine t1g rfl rfl (ont rfl) (zA1 (opk rfl rfl rfl) (zA0 ?_))
 refine t_if rfl (fun c0 => ?_) (fun c0 => ?_)
 refine zI (zK rfl (zA1 (oca rfl rfl fun _ => zX2) (zA1 (oas rfl) (zA0 (yK (⟨[_],rst rfl rs0,yQ (PSub.refl _)⟩))))))
 rotate_left 1
 ·have h:=g.2
  simp only [Bool.or_eq_false_iff] at h
  exact h.1.1.2
 ·have h:=g.2
  simp only [Bool.or_eq_false_iff] at h
  exact (tW h.1.2).2 (a,b,c) (by simp)
 have h:=c0.h
 simp only [Bool.or_eq_false_iff,decide_eq_false_iff_not,Bool.not_eq_false',decide_eq_true_eq] at h
 obtain ⟨⟨⟨⟨⟨h1,h2⟩,h3⟩,h4⟩,cR⟩,cT⟩:=h
 have h5:=(mJ ⟨(tW h4).2 (a,b,c) (by simp)⟩).2
 have lr : (r.map px).length ≤ 6:=by rw [List.length_map]; omega
 refine t_ts (zP3 (s:=0) rfl (zW8 (mJ ⟨h2⟩).2)) ?_
 refine t_ts (zP3 (s:=4) rfl (zR5 (trx_c (h5 a (by simp [trl])) (h5 b (by simp [trl])) (h5 c (by simp [trl]))))) ?_
 refine t_ts (zP3 (s:=5) rfl (zR5 fun _ _ _ => zJ4 ((mJ ⟨h3⟩).2 d (by simp)))) ?_
 rw [List.map_cons,List.map_cons,List.map_cons,List.map_nil] at cT
 generalize r.map px = R at *
 generalize px a = a at *
 generalize px b = b at *
 generalize px c = c at *
 generalize px d = d at *
 have l1 : (sumF [a,b,c] (R.map negP)).length ≤ R.length + 3:=by have:=sum_len' [a,b,c] (R.map negP); rw [List.length_map] at this; simp at this; omega
 have l3 : ([a,b,c] : List P2).length ≤ 1000:=by simp
 have hR : R ≠ []:=fun e => by have:=cR.three; rw [e] at this; simp at this
 have cS : Conv (sumF [a,b,c] (R.map negP)):=vF cT fun e => hR (List.map_eq_nil_iff.1 e)
 have hw:=withinP_iff cR cT
 refine yY (zI (zK rfl (zA1 (omv rfl) (zA1 (old rfl rfl) (zA1 (oca rfl rfl fun _ => kpiecec (by omega) (by omega) (by omega)) (zA1 (oas rfl) (zA0 (zI (zI ?_)))))))))
 refine zK rfl (zA1 (omv rfl) ?_)
 refine zA1 (oca rfl rfl fun _ => k18convc (by omega) ?_) ?_
 rotate_left 1
 refine zA1 (ont rfl) (zA1 (omv rfl) (t1g rfl rfl (omv rfl) (t1g rfl rfl (oln rfl) (t1g rfl rfl (omv rfl) (t1g rfl rfl (oln rfl) (t1g rfl rfl (oad rfl rfl (by omega)) (t1g rfl rfl (ogt rfl rfl) (zA1 (opk rfl rfl rfl) (zA0 ?_)))))))))
 refine t_if rfl (fun c1 => ?_) (fun c1 => ?_)
 refine zI (zK rfl (zA1 (oas rfl) (zA0 (yK (⟨[_],rst rfl rs0,yQ ?_⟩)))))
 refine psb ?_
 rotate_left 1
 refine yY (zI (zI (xT 10 mixed rfl rfl (d1 (omv rfl) (d1 (old rfl rfl) ?_)))))
 refine d1 (oca rfl rfl fun _ => k18withinc (by omega) (by omega) ?_) ?_
 rotate_left 1
 refine d1 (omv rfl) (d1 (old rfl rfl) (d1 (oca rfl rfl fun _ => zU0 (by omega) (by omega) (by omega)) (d1 (old rfl rfl) (d1 (oca rfl rfl fun _ => tR) (d1 (oca rfl rfl fun _ => pA (by omega) (by omega) (by (simp; omega)) (by omega)) (d1 (obe rfl rfl) (d0 (zA0 ?_))))))))
 refine t_if rfl (fun c2 => ?_) (fun c2 => ?_)
 refine zI (zK rfl (zA1 (oas rfl) (zA0 (yK (⟨[_],rst rfl rs0,yQ ?_⟩)))))
 refine psb ?_
 rotate_left 1
 refine yY (zI (zI (zK rfl (zA1 (oas rfl) (zA0 (yO ?_))))))
 rotate_left 1
 ·show (sumF [a,b,c] (R.map negP)).length ≤ 1000
  omega
 ·have h : (!decide (Conv (sumF [a,b,c] (R.map negP))) || decide ((R.length : Int) + 3 < (sumF [a,b,c] (R.map negP)).length)) = true:=c1.h
  rw [decide_eq_true cS,decide_eq_false (by omega)] at h
  exact h
 ·show (sumF [a,b,c] (R.map negP)).length ≤ 1000
  omega
 ·have h : (decide (dK (sumF [a,b,c] (R.map negP)) d) == (decide (OneP (R.map (addP · d)) [a,b,c]) || decide (OneP [a,b,c] (R.map (addP · d))))) = true:=c2.h
  have e : decide (dK (sumF [a,b,c] (R.map negP)) d) = !(decide (OneP (R.map (addP · d)) [a,b,c]) || decide (OneP [a,b,c] (R.map (addP · d)))):=by
   rw [← Bool.decide_or,← decide_not,decide_eq_decide]; exact hw d
  rw [e] at h
  revert h
  cases (decide (OneP (R.map (addP · d)) [a,b,c]) || decide (OneP [a,b,c] (R.map (addP · d)))) <;> simp
 ·refine jU (σ:=Nat) (fun i => [(8,True,exP (.int .i64 ((i : Nat) : Int)))]) (fun i => []) (fun i => i ≤ (sumF [a,b,c] (R.map negP)).length) (fun i => (sumF [a,b,c] (R.map negP)).length - i) (0) (tk 0 rfl (tk 4 rfl (tk 7 rfl tn))) ?_ rfl ((by omega)) (fun i hJ Y _ => ?_)
  refine tc rfl (ps_r _) (tn)
  rotate_left 1
  refine zI (zI (zK rfl (zA1 (omv rfl) (zA1 (omv rfl) (zA1 (oln rfl) (zA1 (olt rfl rfl) (zA0 ?_)))))))
  refine t_if rfl (fun c3 => ?_) (fun c3 => ?_)
  refine yY (zI (yO (zI (xT 10 mixed rfl rfl (d1 (omv rfl) (d1 (omv rfl) (d1 (omv rfl) (d1 (oix _ rfl rfl rfl (fun _ => rfl) (fun _ => (by (have e0:=dt c3; omega)))) (d1 (old rfl rfl) ?_)))))))))
  refine d1 (oca rfl rfl fun _ => zU0 (by omega) (by omega) (by omega)) (d1 (old rfl rfl) (d1 (oca rfl rfl fun _ => tR) (d1 (oca rfl rfl fun _ => pA (by omega) (by omega) (by (simp; omega)) (by omega)) (d1 (ont rfl) (d0 (zA0 ?_))))))
  refine t_if rfl (fun c4 => ?_) (fun c4 => ?_)
  refine zI (zK rfl (zA1 (oas rfl) (zA0 (yK (⟨[_],rst rfl rs0,yQ ?_⟩)))))
  refine psb ?_
  rotate_left 1
  refine yY (zK rfl (zA1 (omv rfl) (zA1 (oad rfl rfl (by omega)) (zA1 (oas rfl) (zA0 ?_)))))
  rotate_left 1
  refine jY (zI (zK rfl (zA1 (oca rfl rfl fun _ => zX2) (zA1 (oas rfl) (zA0 (yK (⟨[_],rst rfl rs0,yQ (PSub.refl _)⟩)))))))
  ·have hi : (i : Int) < ((sumF [a,b,c] (R.map negP)).length : Int):=dt c3
   have h : (!(decide (OneP (R.map (addP · (gp (sumF [a,b,c] (R.map negP)) i))) [a,b,c]) || decide (OneP [a,b,c] (R.map (addP · (gp (sumF [a,b,c] (R.map negP)) i)))))) = true:=c4.h
   have k:=corner_not (l:=sumF [a,b,c] (R.map negP)) (i:=i) (by omega)
   rw [hw,Classical.not_not] at k
   rw [← Bool.decide_or,decide_eq_true k] at h
   exact h
  ·have hi : (i : Int) < ((sumF [a,b,c] (R.map negP)).length : Int):=dt c3
   refine ⟨i + 1,tes ?_ ?_ (List.Sublist.refl _),(by omega),(by omega)⟩
   refine tc rfl (ps_r _) (tn)
   refine tc rfl (ps_r _) (tc rfl (ps_r _) (tc rfl (ps_r _) (tn)))
end Go.Proofs.YtflobagimodmgaaGreatDoor
namespace Go.Proofs.YtflobagimodmgaaGreatDoor
open Go Go.SL Go.RowKit Go.Proofs Go.ChangeShapes Go.WideShapes Go.ChangeAt Go.Deep Tryz
section
variable {H : Type} {enc : TypeId × Value → H} {P : Program} {W : World} {B : Nat} {tp tr ti tn tb tw : TypeId}
abbrev BdX (B : Nat) (a : RX) : Prop:=(True ∧ a.1.2.length ≤ B) ∧ a.2.length ≤ B
abbrev BpX (B : Nat) (a : PX) : Prop:=BdX B a.1 ∧ BdX B a.2
theorem tG (T : NumTypes P tp tr ti tn tb tw) : Opn enc P W B tr 3 rtx (BdX B) :=
 rJ T.r (rJ T.i (opn_bool T.b T.cb) (zK4 T.n T.w T.cw T.cn T.hb)) (zK4 T.n T.w T.cw T.cn T.hb)
theorem opn_ptx (T : NumTypes P tp tr ti tn tb tw) : Opn enc P W B tp 6 ptx (BpX B) :=
 rJ T.p (tG T) (tG T)
theorem opn_pcx {t : TypeId} (T : NumTypes P tp tr ti tn tb tw) (ht : P.underlying t = some (.slice tp)) (c : P.cellsOf t = 1) : Opn enc P W B t 1 pcx (fun l => l.length * P.bytesOf tp ≤ B ∧ ∀ a ∈ l,BpX B a) :=
 opn_slicew ht c (opn_ptx T) (by omega)
end
section
variable {H : Type} {enc : TypeId × Value → H} {P : Program} {W : World} {B : Nat}
theorem trod_arr3 {base : Nat} {spare : Nat → Bool} {held : Bool} {fuel : Nat} {t e : TypeId} {cs : List Value} {x : DataW H × List MemPlace} (ht : P.underlying t = some (.array 3 e)) (h : DataW.trod enc P W base spare held fuel t cs = some x) :
  ∃ (xs : List (DataW H × List MemPlace)) (n : Nat),fuel = n + 1 ∧ x = (.agg (xs.map (·.1)),xs.flatMap (·.2)) ∧ cs.length = P.cellsOf t ∧ xs.length = 3 ∧
   ∀ i,i < 3 → DataW.trod enc P W base spare held n e ((cs.drop (i * P.cellsOf e)).take (P.cellsOf e)) = xs[i]?:=by
 cases fuel with
 | zero => simp [DataW.trod] at h
 | succ n =>
  unfold DataW.trod at h
  rw [ht] at h
  split at h <;> simp_all
  obtain ⟨hl,xs,hp,hd⟩:=h
  exact ⟨xs,hd.symm,by simpa using mapM_some_length hp,fun i hi => by have:=mapM_some_get hp i i (by simp [hi]); simpa using this⟩
theorem opn_tri {α : Type} {t e : TypeId} {k : Nat} {f : α → CT} {Bf : α → Prop} (ht : P.underlying t = some (.array 3 e)) (hc : P.cellsOf t = k + (k + k)) (h0 : Opn enc P W B e k f Bf) :
  Opn enc P W B t (k + (k + k)) (fun a : α × α × α => st [f a.1,f a.2.1,f a.2.2]) (fun a => Bf a.1 ∧ Bf a.2.1 ∧ Bf a.2.2):=by
 refine ⟨hc,fun a => by show (f a.1).sz + ((f a.2.1).sz + ((f a.2.2).sz + 0)) = _; rw [h0.s,h0.s,h0.s]; rfl,fun {fuel cs x} hw h => ?_⟩
 obtain ⟨xs,n,_,hxe,hl,hx,hall⟩:=trod_arr3 ht h
 have n0:=h0.c
 have e0:=hall 0 (by omega)
 have e1:=hall 1 (by omega)
 have e2:=hall 2 (by omega)
 rw [n0] at e0 e1 e2
 rw [Nat.zero_mul,List.drop_zero] at e0
 rw [Nat.one_mul] at e1
 have hd : (cs.drop (2 * k)).length = k:=by rw [List.length_drop]; omega
 rw [List.take_of_length_le (by omega)] at e2
 have hwi : ∀ (i : Nat) (hi : i < xs.length),∀ m ∈ (xs[i]'hi).1.weights P e,m ≤ B:=fun i hi m hm => hw m (by
  rw [hxe]; simp only [DataW.weights,ht]
  exact dQ hm (List.mem_map_of_mem (List.getElem_mem hi)))
 rw [List.getElem?_eq_getElem (show 0 < xs.length by omega)] at e0
 rw [List.getElem?_eq_getElem (show 1 < xs.length by omega)] at e1
 rw [List.getElem?_eq_getElem (show 2 < xs.length by omega)] at e2
 obtain ⟨a,p0,b0⟩:=h0.o (hwi 0 (by omega)) e0
 obtain ⟨b,p1,b1⟩:=h0.o (hwi 1 (by omega)) e1
 obtain ⟨c,p2,b2⟩:=h0.o (hwi 2 (by omega)) e2
 refine ⟨(a,b,c),⟨cs.take k,cs.drop k,(List.take_append_drop _ _).symm,p0,(cs.drop k).take k,(cs.drop k).drop k,(List.take_append_drop _ _).symm,p1,cs.drop (2 * k),[],?_,p2,rfl⟩,b0,b1,b2⟩
 rw [List.drop_drop,List.append_nil]; congr 1; omega
theorem top_arr {α : Type} {t : TypeId} {k n : Nat} {te : TypeId} {f : α → CT} {Bf : α → Prop} {r : Reach} {b0 : Nat} {v : Value} {d : DataW H} {ps : List MemPlace} (ho : Opn enc P W B t k f Bf) (ht : P.underlying t = some (.array n te)) (hval : Value.okWide P W r b0 t v) (hw : ∀ m ∈ d.weights P t,m ≤ B) (h : DataW.Trod enc P W 0 (fun _ => true) true t v d ps) :
  ∃ a,(ag (f a)).p F0 W v ∧ Bf a:=by
 simp only [Value.okWide,ht] at hval
 obtain ⟨cs,rfl,_⟩:=hval
 obtain ⟨fuel,hf⟩:=h
 obtain ⟨a,h1,h2⟩:=ho.o (x:=(d,ps)) hw hf
 exact ⟨a,⟨_,by simp [Value.cells],h1⟩,h2⟩
end
end Go.Proofs.YtflobagimodmgaaGreatDoor
