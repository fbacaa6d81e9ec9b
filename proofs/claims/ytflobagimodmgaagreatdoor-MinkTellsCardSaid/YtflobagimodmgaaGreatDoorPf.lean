/- Lemmas and walks of functions; no statement. -/
import Derived.Test.YtflobagimodmgaaGreatDoorPe
set_option linter.unusedVariables false
set_option linter.unusedSimpArgs false
set_option maxRecDepth 100000
namespace Go.SL
theorem aO:COrd cmpP:=⟨fun a b => qC,fun a b => by rw [zN2,mY],fun a b c h k => by rw [← zS7] at *; exact dP h.le k⟩
noncomputable def hullF (l:List P2):List P2:=qT (setOf cmpP l)
theorem cR (l:List P2):(setOf cmpP l).Pairwise ltP:=(cT aO l).rise.imp fun h => zS7.2 h
theorem gW (l:List P2):IsHull l (hullF l):=by
 have h:=hullS_ok (cR l)
 exact ⟨h.poly,fun c hc => (qA aO).1 (h.sub c hc),fun q hq => h.sup q ((qA aO).2 hq)⟩
theorem zM3 {l m:List P2} (h1:∀ q ∈ l,Sup m q) (h2:∀ q ∈ m,Sup l q):hullF l = hullF m:=hull_uniq (gW l) (gW m) h1 h2
theorem hull_congr {l m:List P2} (e:∀ q,q ∈ l ↔ q ∈ m):hullF l = hullF m:=zM3 (fun q hq => iJ ((e q).1 hq)) fun q hq => iJ ((e q).2 hq)
theorem uM {l:List P2}:hullF l = [] ↔ l = []:=by
 constructor
 ·intro h
  match l,h with
  | [],_ => rfl
  | p :: r,h => obtain ⟨c,hc,_⟩:=(gW (p :: r)).sup p (by simp) 0 0; rw [h] at hc; cases hc
 ·intro h; subst h
  match e:hullF [],(gW []).sub with
  | [],_ => rfl
  | p :: r,k => exact absurd (k p (by simp)) (by simp)
theorem cH (l:List P2):(hullF l).length ≤ l.length:=cG (gW l).poly.nd (gW l).sub
theorem hullS_fst {l:List P2} (hs:l.Pairwise ltP):∀ q ∈ l,leP (gp (qT l) 0) q:=fun q hq => by
 by_cases h2:l.length < 2
 ·match l,hq,h2 with
  | [p],hq,_ => rw [List.mem_singleton.1 hq]; exact eO _
 obtain ⟨mn,mx,A,B,cl,ch,eS,mnl,mxl,hlt,hmx,hmn,_⟩:=fL (by omega) hs
 rw [eS]; exact hmn q hq
theorem hull_fst {l:List P2}:∀ q ∈ l,leP (gp (hullF l) 0) q:=fun q hq => hullS_fst (cR l) q ((qA aO).2 hq)
theorem iG (a b c:P2):trn a a c = 0 ∧ trn a b a = 0 ∧ trn a b b = 0:=by unfold trn zQ subP; simp only; grind
def qN (a b:List P2):List P2:=a.flatMap fun x => b.map fun y => addP x y
theorem pC {a b:List P2} {q:P2}:q ∈ qN a b ↔ ∃ x ∈ a,∃ y ∈ b,q = addP x y:=by
 unfold qN; simp only [List.mem_flatMap,List.mem_map]
 exact ⟨fun ⟨x,hx,y,hy,e⟩ => ⟨x,hx,y,hy,e.symm⟩,fun ⟨x,hx,y,hy,e⟩ => ⟨x,hx,y,hy,e.symm⟩⟩
noncomputable def sumF (a b:List P2):List P2:=hullF (qN a b)
theorem sQ {a b:List P2} (ha:a ≠ []) (hb:b ≠ []):hullF (outS (hullF a) (hullF b)) = sumF a b:=by
 refine zM3 (fun q hq => ?_) fun q hq => ?_
 ·obtain ⟨x,hx,y,hy,rfl⟩:=out_of (fun e => ha (uM.1 e)) (fun e => hb (uM.1 e)) hq
  exact iJ (pC.2 ⟨x,(gW a).sub x hx,y,(gW b).sub y hy,rfl⟩)
 ·obtain ⟨x,hx,y,hy,rfl⟩:=pC.1 hq
  have h:∀ {l:List P2} {x:P2},x ∈ l → setOf cmpP l ≠ []:=fun {l x} hx e => by have:=(qA aO (l:=l)).2 hx; rw [e] at this; cases this
  exact out_sup (cR a) (cR b) (h hx) (h hy) ((qA aO).2 hx) ((qA aO).2 hy)
theorem rA {a b:List P2}:sumF a b = [] ↔ a = [] ∨ b = []:=by
 unfold sumF; rw [uM]
 constructor
 ·intro h
  match a,b,h with
  | [],_,_ => exact .inl rfl
  | _ :: _,[],_ => exact .inr rfl
  | _ :: _,_ :: _,h => simp [qN] at h
 ·rintro (rfl | rfl)
  ·rfl
  ·simp [qN]
theorem wM:∀ (es:List P2) (a:P2),(wayS a es).length = es.length - 1
 | [],_ => rfl
 | [_],_ => rfl
 | e :: f :: l,a => by rw [wayS,List.length_cons,wM (f :: l)]; simp
theorem pN:∀ C:List P2,(xZ C).length = C.length - 1
 | [] => rfl
 | [_] => rfl
 | a :: b :: r => by rw [xZ,List.length_cons,pN (b :: r)]; simp
theorem cI (h:List P2):(xR h).length = if 1 < h.length then h.length else 0:=by
 unfold xR; split
 ·rw [pN]; simp
 ·rfl
theorem zK0 (h k:List P2):(outS h k).length ≤ max 1 (h.length + k.length):=by
 unfold outS; rw [List.length_cons,wM,zL0,cI,cI]; split <;> split <;> omega
theorem sumF_len {a b:List P2} (ha:a ≠ []) (hb:b ≠ []):(sumF a b).length ≤ a.length + b.length:=by
 rw [← sQ ha hb]
 have h1:=cH (outS (hullF a) (hullF b))
 have h2:=zK0 (hullF a) (hullF b)
 have h3:=cH a; have h4:=cH b
 have:=List.length_pos_iff.2 ha
 omega
theorem zW4 (x:Rat):0 ≤ x * x:=by
 rcases (Rat.le_total:0 ≤ x ∨ x ≤ 0) with hx | hx
 ·exact Rat.mul_nonneg hx hx
 ·have:=Rat.mul_nonneg (show 0 ≤ -x by grind) (show 0 ≤ -x by grind); grind
theorem zM8 {c n:P2} (h:c ≠ n):0 < (n.1 - c.1) * (n.1 - c.1) + (n.2 - c.2) * (n.2 - c.2):=by
 have s1:=zW4 (n.1 - c.1); have s2:=zW4 (n.2 - c.2)
 refine Classical.byContradiction fun k => h ?_
 have z1:(n.1 - c.1) * (n.1 - c.1) = 0:=by grind
 have z2:(n.2 - c.2) * (n.2 - c.2) = 0:=by grind
 exact Prod.ext_iff.2 ⟨by rcases Rat.mul_eq_zero.1 z1 with h | h <;> grind,by rcases Rat.mul_eq_zero.1 z2 with h | h <;> grind⟩
theorem seg_two {c n q:P2} (hcn:c ≠ n) (h:∀ u v:Rat,u * q.1 + v * q.2 ≤ u * c.1 + v * c.2 ∨ u * q.1 + v * q.2 ≤ u * n.1 + v * n.2):∃ t:Rat,0 ≤ t ∧ t ≤ 1 ∧ q.1 = c.1 + t * (n.1 - c.1) ∧ q.2 = c.2 + t * (n.2 - c.2):=by
 have h1:=h (n.2 - c.2) (-(n.1 - c.1))
 have h2:=h (-(n.2 - c.2)) (n.1 - c.1)
 have hz:trn c n q = 0:=by unfold trn zQ subP; simp only; grind
 obtain ⟨t,e1,e2⟩:=eN hz hcn
 have hd:=zM8 hcn
 have h3:=h (n.1 - c.1) (n.2 - c.2)
 have h4:=h (-(n.1 - c.1)) (-(n.2 - c.2))
 rw [e1,e2] at h3 h4
 refine ⟨t,bW hd ?_,?_,e1,e2⟩
 ·grind
 ·have:=bW (x:=1 - t) hd (by grind)
  grind
theorem Poly.seg {h:List P2} (p:Poly h) (h2:2 ≤ h.length) {i:Nat} (hi:i < h.length) {q:P2} (hq:Sup h q) :
  0 < trn (gp h i) (nx h i) q ∨ ∃ t:Rat,0 ≤ t ∧ t ≤ 1 ∧ q.1 = (gp h i).1 + t * ((nx h i).1 - (gp h i).1) ∧ q.2 = (gp h i).2 + t * ((nx h i).2 - (gp h i).2):=by
 have hcn:gp h i ≠ nx h i:=fun e => dO hi h2 (dE p.nd hi (kD hi) e).symm
 rcases Nat.lt_or_ge 2 h.length with h3 | h3
 ·by_cases k:0 < trn (gp h i) (nx h i) q
  ·exact .inl k
  have w:=qS (p.weak hi h3) hq
  obtain ⟨t,e1,e2⟩:=eN (show trn (gp h i) (nx h i) q = 0 by grind) hcn
  refine .inr ⟨t,?_,?_,e1,e2⟩
  ·obtain ⟨j,hj,ej⟩:=fB hi
   have w2:=qS (p.weak hj h3) hq
   have hne:(i + 1) % h.length ≠ j:=fun e2 => by
    have h6:(j + 1) % h.length = i:=ej
    rw [← e2] at h6
    rcases Nat.lt_or_ge (i + 1) h.length with c | c
    ·rw [Nat.mod_eq_of_lt c] at h6
     rcases Nat.lt_or_ge (i + 1 + 1) h.length with d | d
     ·rw [Nat.mod_eq_of_lt d] at h6; omega
     ·rw [show i + 1 + 1 = h.length by omega,Nat.mod_self] at h6; omega
    ·rw [show i + 1 = h.length by omega,Nat.mod_self,Nat.mod_eq_of_lt (by omega)] at h6; omega
   have k3:=p.conv h3 j ((i + 1) % h.length) hj (kD hi) hne (by rw [ej]; exact dO hi (by omega))
   unfold nx at *
   rw [ej] at w2 k3
   have e:trn (gp h j) (gp h i) q = trn (gp h j) (gp h i) (gp h ((i + 1) % h.length)) * t:=by unfold trn zQ subP; simp only; rw [e1,e2]; grind
   rw [e] at w2
   exact bW k3 w2
  ·have w2:=qS (p.weak (kD hi) h3) hq
   have hne:((i + 1) % h.length + 1) % h.length ≠ i:=fun h6 => by
    rcases Nat.lt_or_ge (i + 1) h.length with c | c
    ·rw [Nat.mod_eq_of_lt c] at h6
     rcases Nat.lt_or_ge (i + 1 + 1) h.length with d | d
     ·rw [Nat.mod_eq_of_lt d] at h6; omega
     ·rw [show i + 1 + 1 = h.length by omega,Nat.mod_self] at h6; omega
    ·rw [show i + 1 = h.length by omega,Nat.mod_self,Nat.mod_eq_of_lt (by omega)] at h6; omega
   have k3:=p.conv h3 i _ hi (kD (kD hi)) hne (dO (kD hi) h2)
   unfold nx at *
   have e:trn (gp h ((i + 1) % h.length)) (gp h (((i + 1) % h.length + 1) % h.length)) q = trn (gp h i) (gp h ((i + 1) % h.length)) (gp h (((i + 1) % h.length + 1) % h.length)) * (1 - t):=by unfold trn zQ subP; simp only; rw [e1,e2]; grind
   rw [e] at w2
   have:=bW k3 w2
   grind
 ·refine .inr (seg_two hcn fun u v => ?_)
  obtain ⟨x,hx,k⟩:=hq u v
  obtain ⟨m,hm,rfl⟩:=iC hx
  by_cases c:m = i
  ·subst c; exact .inl k
  ·have:(i + 1) % h.length = m:=by
    have h5:=kD hi; have h6:=dO hi h2; omega
   unfold nx; rw [this]; exact .inr k
theorem Poly.far {h:List P2} (p:Poly h) (h2:2 ≤ h.length) {i:Nat} (hi:i < h.length):∃ u v:Rat,∀ q,Sup h q → q ≠ gp h i → u * (gp h i).1 + v * (gp h i).2 < u * q.1 + v * q.2:=by
 have hcn:gp h i ≠ nx h i:=fun e => dO hi h2 (dE p.nd hi (kD hi) e).symm
 rcases Nat.lt_or_ge 2 h.length with h3 | h3
 ·obtain ⟨j,hj,ej⟩:=fB hi
  have hne:(i + 1) % h.length ≠ j:=fun e2 => by
   have h6:(j + 1) % h.length = i:=ej
   rw [← e2] at h6
   rcases Nat.lt_or_ge (i + 1) h.length with c | c
   ·rw [Nat.mod_eq_of_lt c] at h6
    rcases Nat.lt_or_ge (i + 1 + 1) h.length with d | d
    ·rw [Nat.mod_eq_of_lt d] at h6; omega
    ·rw [show i + 1 + 1 = h.length by omega,Nat.mod_self] at h6; omega
   ·rw [show i + 1 = h.length by omega,Nat.mod_self,Nat.mod_eq_of_lt (by omega)] at h6; omega
  have k3:=p.conv h3 j ((i + 1) % h.length) hj (kD hi) hne (by rw [ej]; exact dO hi (by omega))
  have w1:=fun q hq => qS (q:=q) (p.weak hi h3) hq
  have w2:=fun q hq => qS (q:=q) (p.weak hj h3) hq
  unfold nx at *
  rw [ej] at w2 k3
  generalize gp h i = c at *
  generalize gp h ((i + 1) % h.length) = n at *
  generalize gp h j = r at *
  refine ⟨-((n.2 - c.2) + (c.2 - r.2)),(n.1 - c.1) + (c.1 - r.1),fun q hq hqc => ?_⟩
  have a1:=w1 q hq
  have a2:=w2 q hq
  refine Classical.byContradiction fun hn => hqc ?_
  have z1:trn c n q = 0:=by unfold trn zQ subP at *; simp only at *; grind
  have z2:trn r c q = 0:=by unfold trn zQ subP at *; simp only at *; grind
  have e1:trn r c n * (q.1 - c.1) = 0:=by unfold trn zQ subP at *; simp only at *; grind
  have e2:trn r c n * (q.2 - c.2) = 0:=by unfold trn zQ subP at *; simp only at *; grind
  rcases Rat.mul_eq_zero.1 e1 with f | f
  ·grind
  rcases Rat.mul_eq_zero.1 e2 with g | g
  ·grind
  exact Prod.ext_iff.2 ⟨by grind,by grind⟩
 ·have hd:=zM8 hcn
  refine ⟨(nx h i).1 - (gp h i).1,(nx h i).2 - (gp h i).2,fun q hq hqc => ?_⟩
  rcases p.seg h2 hi hq with k | ⟨t,zA0,zA1,e1,e2⟩
  ·have hz:trn (gp h i) (nx h i) q = 0:=by
    have hm:∀ x ∈ h,trn (gp h i) (nx h i) x = 0:=fun x hx => by
     obtain ⟨m,hm,rfl⟩:=iC hx
     by_cases c:m = i
     ·subst c; exact (iG _ _ (gp h m)).2.1
     ·have:(i + 1) % h.length = m:=by
       have h5:=kD hi; have h6:=dO hi h2; omega
      unfold nx; rw [this]; exact (iG _ _ (gp h m)).2.2
    have a1:=qS (s:=gp h i) (t:=nx h i) (fun x hx => by rw [hm x hx]; exact Rat.le_refl) hq
    have a2:=qS (s:=nx h i) (t:=gp h i) (fun x hx => by have:=hm x hx; unfold trn zQ subP at *; simp only at *; grind) hq
    unfold trn zQ subP at *; simp only at *; grind
   rw [hz] at k; exact absurd k (by grind)
  ·have tp:0 < t:=Classical.byContradiction fun c => hqc (by
    have:t = 0:=by grind
    rw [Prod.ext_iff,e1,e2,this]; constructor <;> grind)
   have:=Rat.mul_pos tp hd
   rw [e1,e2]; grind
def uH (a best x:P2):P2:=if x = a then best else if best = a then x else if trn a best x < 0 ∨ trn a best x = 0 ∧ farP a best < farP a x then x else best
def eI (l:List P2) (a:P2):P2:=l.foldl (uH a) a
theorem far_seg {c n q:P2} {t:Rat} (ht:0 ≤ t) (e1:q.1 = c.1 + t * (n.1 - c.1)) (e2:q.2 = c.2 + t * (n.2 - c.2)):farP c q = t * farP c n:=by
 have h:∀ x:Rat,absR (t * x) = t * absR x:=fun x => by
  unfold absR
  by_cases c1:x < 0
  ·rw [if_pos c1]
   by_cases c2:t * x < 0
   ·rw [if_pos c2]; grind
   ·rw [if_neg c2]; have:=Rat.mul_nonneg ht (show 0 ≤ -x by grind); grind
  ·rw [if_neg c1,if_neg]; have:=Rat.mul_nonneg ht (show 0 ≤ x by grind); grind
 unfold farP
 rw [e1,e2,show c.1 - (c.1 + t * (n.1 - c.1)) = t * (c.1 - n.1) by grind,show c.2 - (c.2 + t * (n.2 - c.2)) = t * (c.2 - n.2) by grind,h,h]; grind
theorem far_pos {c n:P2} (h:c ≠ n):0 < farP c n:=by
 have k:∀ x:Rat,0 ≤ absR x ∧ (absR x = 0 → x = 0):=fun x => by unfold absR; split <;> grind
 unfold farP
 have a:=k (c.1 - n.1); have b:=k (c.2 - n.2)
 refine Classical.byContradiction fun z => h (Prod.ext_iff.2 ⟨?_,?_⟩)
 ·have:=a.2 (by grind); grind
 ·have:=b.2 (by grind); grind
theorem zZ5 {c:P2} {u v:Rat}:∀ (l pre:List P2) (best:P2),(∀ q ∈ pre ++ l,q ≠ c → u * c.1 + v * c.2 < u * q.1 + v * q.2) →
  ((best = c ∧ ∀ q ∈ pre,q = c) ∨ best ∈ pre ∧ best ≠ c ∧ ∀ q ∈ pre,q ≠ c → 0 < trn c best q ∨ trn c best q = 0 ∧ farP c q ≤ farP c best) →
  (l.foldl (uH c) best = c ∧ ∀ q ∈ pre ++ l,q = c) ∨ l.foldl (uH c) best ∈ pre ++ l ∧ l.foldl (uH c) best ≠ c ∧ ∀ q ∈ pre ++ l,q ≠ c → 0 < trn c (l.foldl (uH c) best) q ∨ trn c (l.foldl (uH c) best) q = 0 ∧ farP c q ≤ farP c (l.foldl (uH c) best)
 | [],pre,best,_,h => by simpa using h
 | x :: l,pre,best,hf,h => by
  have key:=zZ5 l (pre ++ [x]) (uH c best x) (by simpa using hf) ?_
  ·simpa using key
  unfold uH
  by_cases hx:x = c
  ·rw [if_pos hx]
   rcases h with ⟨h1,h2⟩ | ⟨h1,h2,h3⟩
   ·refine .inl ⟨h1,fun q hq => ?_⟩
    rcases List.mem_append.1 hq with hq | hq
    ·exact h2 q hq
    ·rw [List.mem_singleton.1 hq,hx]
   ·refine .inr ⟨List.mem_append_left _ h1,h2,fun q hq hqc => ?_⟩
    rcases List.mem_append.1 hq with hq | hq
    ·exact h3 q hq hqc
    ·exact absurd ((List.mem_singleton.1 hq).trans hx) hqc
  rw [if_neg hx]
  rcases h with ⟨h1,h2⟩ | ⟨h1,h2,h3⟩
  ·rw [if_pos h1]
   refine .inr ⟨by simp,hx,fun q hq hqc => ?_⟩
   rcases List.mem_append.1 hq with hq | hq
   ·exact absurd (h2 q hq) hqc
   ·rw [List.mem_singleton.1 hq]; exact .inr ⟨(iG c x x).2.2,Rat.le_refl⟩
  rw [if_neg h2]
  have fx:=hf x (by simp) hx
  have fb:=hf best (by simp [h1]) h2
  by_cases hb:trn c best x < 0 ∨ trn c best x = 0 ∧ farP c best < farP c x
  ·rw [if_pos hb]
   refine .inr ⟨by simp,hx,fun q hq hqc => ?_⟩
   rcases List.mem_append.1 hq with hq | hq
   ·have fq:=hf q (by simp [hq]) hqc
    have e:((u * best.1 + v * best.2) - (u * c.1 + v * c.2)) * trn c x q = ((u * x.1 + v * x.2) - (u * c.1 + v * c.2)) * trn c best q + ((u * q.1 + v * q.2) - (u * c.1 + v * c.2)) * -trn c best x:=by unfold trn zQ subP; simp only; grind
    have pb:0 < (u * best.1 + v * best.2) - (u * c.1 + v * c.2):=by grind
    have px:0 < (u * x.1 + v * x.2) - (u * c.1 + v * c.2):=by grind
    have pq:0 < (u * q.1 + v * q.2) - (u * c.1 + v * c.2):=by grind
    generalize (u * best.1 + v * best.2) - (u * c.1 + v * c.2) = B at *
    generalize (u * x.1 + v * x.2) - (u * c.1 + v * c.2) = Xx at *
    generalize (u * q.1 + v * q.2) - (u * c.1 + v * c.2) = Q at *
    rcases h3 q hq hqc with g | ⟨g,g2⟩
    ·refine .inl (iM pb ?_)
     have m1:=Rat.mul_pos px g
     have m2:=Rat.mul_nonneg (Rat.le_of_lt pq) (show 0 ≤ -trn c best x by grind)
     grind
    ·rcases hb with hb | ⟨hb,hb2⟩
     ·refine .inl (iM pb ?_)
      have m2:=Rat.mul_pos pq (show 0 < -trn c best x by grind)
      rw [e,g]; grind
     ·refine .inr ⟨?_,Rat.le_trans g2 (Rat.le_of_lt hb2)⟩
      have:B * trn c x q = 0:=by rw [e,g,hb]; grind
      rcases Rat.mul_eq_zero.1 this with z | z
      ·rw [z] at pb; exact absurd pb (by grind)
      ·exact z
   ·rw [List.mem_singleton.1 hq]; exact .inr ⟨(iG c x x).2.2,Rat.le_refl⟩
  ·rw [if_neg hb]
   refine .inr ⟨List.mem_append_left _ h1,h2,fun q hq hqc => ?_⟩
   rcases List.mem_append.1 hq with hq | hq
   ·exact h3 q hq hqc
   ·rw [List.mem_singleton.1 hq]
    by_cases z:trn c best x = 0
    ·exact .inr ⟨z,by grind⟩
    ·exact .inl (by grind)
theorem next_ok {l:List P2} (h2:2 ≤ (hullF l).length) {i:Nat} (hi:i < (hullF l).length):eI l (gp (hullF l) i) = nx (hullF l) i:=by
 have k:=gW l
 obtain ⟨u,v,hf⟩:=k.poly.far h2 hi
 have hcn:gp (hullF l) i ≠ nx (hullF l) i:=fun e => dO hi h2 (dE k.poly.nd hi (kD hi) e).symm
 have hn:=k.sub _ (kQ (kD hi))
 have key:=zZ5 (c:=gp (hullF l) i) (u:=u) (v:=v) l [] (gp (hullF l) i) (fun q hq hqc => hf q (k.sup q (by simpa using hq)) hqc) (.inl ⟨rfl,by simp⟩)
 rw [List.nil_append] at key
 change ((eI l (gp (hullF l) i)) = _ ∧ _) ∨ (eI l (gp (hullF l) i)) ∈ l ∧ (eI l (gp (hullF l) i)) ≠ _ ∧ ∀ q ∈ l,q ≠ _ → 0 < trn _ (eI l (gp (hullF l) i)) q ∨ trn _ (eI l (gp (hullF l) i)) q = 0 ∧ _ ≤ farP _ (eI l (gp (hullF l) i)) at key
 generalize eI l (gp (hullF l) i) = best at *
 rcases key with ⟨_,h⟩ | ⟨h3,h4,h5⟩
 ·exact absurd (h _ hn).symm hcn
 have g:=h5 _ hn (Ne.symm hcn)
 have hs:=k.poly.seg h2 hi (k.sup best h3)
 unfold nx at *
 generalize gp (hullF l) i = c at *
 generalize gp (hullF l) ((i + 1) % (hullF l).length) = n at *
 have e0:trn c best n = -trn c n best:=by unfold trn zQ subP; simp only; grind
 rcases hs with hs | ⟨t,zA0,zA1,e1,e2⟩
 ·rw [e0] at g; grind
 ·have ez:trn c n best = 0:=by unfold trn zQ subP; simp only; rw [e1,e2]; grind
  rcases g with g | ⟨_,g⟩
  ·rw [e0,ez] at g; exact absurd g (by grind)
  ·rw [far_seg zA0 e1 e2] at g
   have fp:=far_pos hcn
   have:t = 1:=by
    refine Classical.byContradiction fun c0 => ?_
    have:=Rat.mul_pos (show 0 < 1 - t by grind) fp
    grind
   rw [Prod.ext_iff,e1,e2,this]; constructor <;> grind
end Go.SL
set_option maxHeartbeats 4000000
namespace Go.Proofs.YtflobagimodmgaaGreatDoor
open Go.SL Go.RowKit Go.Proofs Tryz
theorem wturn {p q:P2} {n m:Nat} (hn:n ≤ 20000) (hm:m ≤ 20000):CTy prog 133 [ag (ptq n p),ag (ptq m q)] (exP (.int .i64 (sgnR (zQ p q)))):=by
 refine ctc func133 rfl rfl rfl rfl fun X => (zI (zJ rfl (zA1 (obx rfl) (zA1 (obx rfl) (zA1 (oas rfl) (zA0 (zI (zJ rfl (zA1 (old rfl rfl) ?_)))))))))
 refine zA1 (old rfl rfl) (zA1 (oca rfl rfl fun _ => kvcross (by omega) (by omega)) (zA1 (oca rfl rfl fun _ => wC (by omega)) (zA1 (oas rfl) (zA0 (yF (⟨[_],rst rfl rs0,yN (PSub.refl _)⟩))))))
theorem zX6 {Ψ Φ:PV} {p q:P2} {n m:Nat} [h:QP Ψ n p] [k:QP Φ m q] (hn:n ≤ 20000) (hm:m ≤ 20000):CTy prog 133 [Ψ,Φ] (exP (.int .i64 (sgnR (zQ p q)))):=gS (wturn hn hm) (fs1 qp_q (fs1 qp_q fs0))
theorem wquarter {p:P2} {n:Nat} (hn:n ≤ 20000):CTy prog 141 [ag (ptq n p)] (exP (.int .i64 (xP p))):=by
 refine ctc func141 rfl rfl rfl rfl fun X => (zI (zJ rfl (zA1 (obx rfl) (zA1 (oas rfl) (zA0 (zI (zI (xH 8 mixed rfl rfl (d1 (ofa rfl rfl) ?_)))))))))
 refine d1 (old rfl rfl) (d1 (oca rfl rfl fun _ => wC (by omega)) (d1 (ofa rfl rfl) (d1 (old rfl rfl) (d1 (oca rfl rfl fun _ => wC (by omega)) (d1 (oas rfl) (d1 (oas rfl) (d0 (zA0 (yJ ?_)))))))))
 refine zI (zJ rfl (zA1 (omv rfl) (zA1 (ogt rfl rfl) (zA1 (oas rfl) (zA0 ?_)))))
 refine t_if rfl (fun c0 => ?_) (fun c0 => ?_)
 refine zI (zJ rfl (zA1 (oas rfl) (zA0 (yF (⟨[_],rst rfl rs0,yN ?_⟩)))))
 refine ps_i ?_
 rotate_left 1
 refine zI (zJ rfl (zA1 (omv rfl) (zA1 (oeq rfl rfl) (zA1 (omv rfl) (t1g rfl rfl (omv rfl) (t1g rfl rfl (ogt rfl rfl) (zA1 (opk rfl rfl rfl) (zA1 (oas rfl) (zA0 ?_)))))))))
 refine t_if rfl (fun c1 => ?_) (fun c1 => ?_)
 refine zI (zJ rfl (zA1 (oas rfl) (zA0 (yF (⟨[_],rst rfl rs0,yN ?_⟩)))))
 refine ps_i ?_
 rotate_left 1
 refine zI (zJ rfl (zA1 (omv rfl) (zA1 (olt rfl rfl) (zA1 (oas rfl) (zA0 ?_)))))
 refine t_if rfl (fun c2 => ?_) (fun c2 => ?_)
 refine zI (zJ rfl (zA1 (oas rfl) (zA0 (yF (⟨[_],rst rfl rs0,yN ?_⟩)))))
 refine ps_i ?_
 rotate_left 1
 refine yV (zI (zJ rfl (zA1 (oas rfl) (zA0 (yF (⟨[_],rst rfl rs0,yN ?_⟩))))))
 refine ps_i ?_
 rotate_left 1
 ·exact (qt0 (iL.1 (dt c0))).symm
 ·have h:=dand c1
  exact (qt1 (eY.1 h.1) (iL.1 h.2)).symm
 ·exact (qt2 (eZ.1 (dt c2))).symm
 ·have h0:=mt iL.2 (df c0)
  have h1:=dor c1
  rw [eY,iL] at h1
  have h2:=mt eZ.2 (df c2)
  unfold xP; rw [if_neg h0,if_neg h1,if_neg h2]
theorem tR {Ψ:PV} {p:P2} {n:Nat} [h:QP Ψ n p] (hn:n ≤ 20000):CTy prog 141 [Ψ] (exP (.int .i64 (xP p))):=gS (wquarter hn) (fs1 qp_q fs0)
theorem wahead {p q:P2} {n m:Nat} (hn:n ≤ 20000) (hm:m ≤ 20000):CTy prog 81 [ag (ptq n p),ag (ptq m q)] (exP (.bool (gT p q))):=by
 refine ctc func81 rfl rfl rfl rfl fun X => (zI (zJ rfl (zA1 (obx rfl) (zA1 (obx rfl) (zA1 (oas rfl) (zA0 (zI (zI (xH 6 mixed rfl rfl ?_)))))))))
 refine d1 (old rfl rfl) (d1 (oca rfl rfl fun _ => tR (by omega)) (d1 (old rfl rfl) (d1 (oca rfl rfl fun _ => tR (by omega)) (d1 (oas rfl) (d1 (oas rfl) (d0 (zA0 (zI (zJ rfl ?_)))))))))
 refine zA1 (omv rfl) (zA1 (omv rfl) (zA1 (oni rfl rfl) (zA0 ?_)))
 refine t_if rfl (fun c0 => ?_) (fun c0 => ?_)
 refine zI (zJ rfl (zA1 (omv rfl) (zA1 (omv rfl) (zA1 (olt rfl rfl) (zA1 (oas rfl) (zA0 (yF (⟨[_],rst rfl rs0,yN ?_⟩))))))))
 refine psb ?_
 rotate_left 1
 refine yV (zI (zJ rfl (zA1 (old rfl rfl) (zA1 (old rfl rfl) (zA1 (oca rfl rfl fun _ => zX6 (by omega) (by omega)) (zA1 (ogt rfl rfl) (zA1 (oas rfl) (zA0 (yF ?_)))))))))
 refine ⟨[_],rst rfl rs0,yN ?_⟩
 refine psb ?_
 rotate_left 1
 ·have h:=dt c0
  unfold gT; rw [if_pos h]
 ·have h:=df c0
  unfold gT; rw [if_neg h,decide_eq_decide]; exact iL
theorem kahead {Ψ Φ:PV} {p q:P2} {n m:Nat} [h:QP Ψ n p] [k:QP Φ m q] (hn:n ≤ 20000) (hm:m ≤ 20000):CTy prog 81 [Ψ,Φ] (exP (.bool (gT p q))):=gS (wahead hn hm) (fs1 qp_q (fs1 qp_q fs0))
theorem mR {t s:P2} {r:List P2}:(t :: s :: r).reverse.getD (r.length + 1) Df.d = t ∧ (t :: s :: r).reverse.getD r.length Df.d = s:=by
 rw [show (t :: s :: r).reverse = r.reverse ++ [s,t] by simp]
 constructor <;> simp [List.getD_eq_getElem?_getD]
theorem drop_step {cur:List P2} {p:P2} (h:Tr ((decide (1 < (cur.length:Int)) && decide (sgnR (zQ (subP (cur.reverse.getD (cur.length - 1) Df.d) (cur.reverse.getD (cur.length - 2) Df.d)) (subP p (cur.reverse.getD (cur.length - 1) Df.d))) ≤ 0)) = true)):1 < cur.length ∧ gR p cur.tail = gR p cur:=by
 obtain ⟨h1,h2⟩:=dand h
 match cur,h1,h2 with
 | t :: s :: r,h1,h2 =>
  refine ⟨by omega,?_⟩
  rw [show (t :: s :: r).length - 1 = r.length + 1 from rfl,show (t :: s :: r).length - 2 = r.length from rfl,mR.1,mR.2,zJ0] at h2
  rw [List.tail_cons]; conv => rhs; rw [gR]
  rw [if_pos h2]
theorem drop_stop {cur:List P2} {p:P2} (h:Tr ((decide (1 < (cur.length:Int)) && decide (sgnR (zQ (subP (cur.reverse.getD (cur.length - 1) Df.d) (cur.reverse.getD (cur.length - 2) Df.d)) (subP p (cur.reverse.getD (cur.length - 1) Df.d))) ≤ 0)) = false)):gR p cur = cur:=by
 have h1:=dor h
 match cur,h1 with
 | [],_ => rfl
 | [_],_ => rfl
 | t :: s :: r,h1 =>
  rw [show (t :: s :: r).length - 1 = r.length + 1 from rfl,show (t :: s :: r).length - 2 = r.length from rfl,mR.1,mR.2,zJ0] at h1
  rw [gR,if_neg fun c => h1 ⟨by simp only [List.length_cons]; omega,c⟩]
theorem dx1 {n:Nat} {q:Prop} (h:q ∧ decide (1 < (n:Int)) = true):1 < n:=by have:=of_decide_eq_true h.2; omega
theorem rev_tail {cur:List P2} {f:P2 → CT} (h:1 < cur.length):(cur.reverse.map f).take (cur.length - 1) = cur.tail.reverse.map f:=by
 match cur,h with
 | t :: r,_ => rw [List.reverse_cons,List.map_append,List.tail_cons,List.take_left' (by simp)]
theorem kdrop {acc:List P2} {p:P2} {n b:Nat} {v:Value} (hn:n ≤ 5000) (hl:acc.length ≤ 1000):CTo prog 132 [ag (ptc n p),exP (.pointer (some ⟨b,0,none⟩))] [.row v 35 6 (acc.reverse.map (ptc n)),.blk b 22 [xc v]] (fun ρ So => ρ = tu [] ∧ ∃ v',So = [.row v' 35 6 ((gR p acc).reverse.map (ptc n)),.blk b 22 [xc v']]):=by
 refine ctd func132 rfl rfl rfl rfl (fun _ _ _ _ _ _ _ hs hp => fZ hs hp) fun X => (zI (zJ rfl (zA1 (obx rfl) (zA0 (zI (zJ rfl (zA1 (oldo 1 rfl rfl rfl rfl) (zA1 (olno 0 rfl rfl) (zA1 (oas rfl) ?_)))))))))
 refine zA0 (yJ ?_)
 rotate_left 1
 refine jJ (σ:=List P2 × Value) (fun s => [(3,True,exP (.int .i64 ((s.1.length:Nat):Int)))]) (fun s => [.row s.2 35 6 (s.1.reverse.map (ptc n)),.blk b 22 [xc s.2]]) (fun s => s.1.length ≤ acc.length ∧ gR p s.1 = gR p acc) (fun s => s.1.length) ((acc,v)) (tk 1 rfl (tk 2 rfl tn)) ?_ rfl (⟨by simp,rfl⟩) (fun s hJ Y _ => ?_)
 refine tc rfl (ps_i (by (simp; done))) (tn)
 rotate_left 1
 obtain ⟨cur,v1⟩:=s
 dsimp only at hJ ⊢
 obtain ⟨j1,j2⟩:=hJ
 refine zI (zI (xH 24 mixed rfl rfl (d1 (omv rfl) (d1 (ogt rfl rfl) (d1 (omv rfl) (d1g rfl rfl (oldo 1 rfl rfl rfl rfl) (d1g rfl rfl (omv rfl) (d1g rfl rfl (osb rfl rfl (by omega)) (d1g rfl rfl (oixo 0 (cur.length - 1) rfl rfl rfl (fun h => by have:=dx1 h; omega) (fun h => by have:=dx1 h; simp only [List.length_map,List.length_reverse]; omega)) ?_)))))))))
 refine d1g rfl rfl (oldr 0 rfl rfl (fun g => (by (have:=dx1 ‹_›; simp only [List.length_map,List.length_reverse]; omega))) rfl) (d1g rfl rfl (oldo 1 rfl rfl rfl rfl) (d1g rfl rfl (omv rfl) (d1g rfl rfl (osb rfl rfl (by omega)) (d1g rfl rfl (oixo 0 (cur.length - 2) rfl rfl rfl (fun h => by have:=dx1 h; omega) (fun h => by have:=dx1 h; simp only [List.length_map,List.length_reverse]; omega)) (d1g rfl rfl (oldr 0 rfl rfl (fun g => (by (have:=dx1 ‹_›; simp only [List.length_map,List.length_reverse]; omega))) rfl) (d1g rfl rfl (oca rfl rfl fun g => zL4 (by omega) (by omega)) (d1g rfl rfl (old rfl rfl) (d1g rfl rfl (oldo 1 rfl rfl rfl rfl) (d1g rfl rfl (omv rfl) ?_)))))))))
 refine d1g rfl rfl (osb rfl rfl (by omega)) (d1g rfl rfl (oixo 0 (cur.length - 1) rfl rfl rfl (fun h => by have:=dx1 h; omega) (fun h => by have:=dx1 h; simp only [List.length_map,List.length_reverse]; omega)) (d1g rfl rfl (oldr 0 rfl rfl (fun g => (by (have:=dx1 ‹_›; simp only [List.length_map,List.length_reverse]; omega))) rfl) (d1g rfl rfl (oca rfl rfl fun g => zL4 (by omega) (by omega)) (d1g rfl rfl (oca rfl rfl fun g => zX6 (by omega) (by omega)) (d1g rfl rfl (ole rfl rfl) (d1 (opk rfl rfl rfl) (d0 (zA0 ?_))))))))
 refine t_if rfl (fun c0 => ?_) (fun c0 => ?_)
 refine yV (zI (yJ (zJ rfl (zA1 (oldo 1 rfl rfl rfl rfl) (zA1 (omv rfl) (zA1 (osb rfl rfl (by omega)) (tsh 0 (cur.length - 1) rfl rfl rfl (by (have e0:=dand c0; omega)) (by (simp; done)) fun r35 => (tsw 1 0 rfl rfl rfl rfl rfl rfl rfl (zA0 ?_)))))))))
 refine zJ rfl (zA1 (omv rfl) (zA1 (osb rfl rfl (by omega)) (zA1 (oas rfl) (zA0 ?_))))
 rotate_left 1
 refine jK ?_
 rotate_left 1
 ·have hs:=drop_step c0
  refine ⟨(cur.tail,r35),tes ?_ ?_ ?_,?_,(by (simp; omega))⟩
  refine tc rfl (ps_i (by (simp; omega))) (tn)
  refine tc rfl (ps_r _) (tc rfl (ps_r _) (tn))
  rotate_left 1
  rotate_left 1
  ·rw [rev_tail hs.1]; exact List.Sublist.refl _
  ·exact ⟨by simp only [List.length_tail]; omega,hs.2.trans j2⟩
 ·refine ⟨[],tu [],_,rs0,List.Sublist.refl _,⟨rfl,v1,by rw [← j2,drop_stop c0]⟩,zX2⟩
end Go.Proofs.YtflobagimodmgaaGreatDoor
set_option maxHeartbeats 4000000
namespace Go.Proofs.YtflobagimodmgaaGreatDoor
open Go.SL Go.RowKit Go.Proofs Tryz
theorem oJ:∀ (l:List P2) (acc:List P2) (p:P2),xX acc (l ++ [p]) = p :: gR p (xX acc l)
 | [],_,_ => rfl
 | q :: l,acc,p => by rw [List.cons_append,xX,xX]; exact oJ l _ p
theorem lV (p:P2):∀ l:List P2,(gR p l).length ≤ l.length
 | [] => Nat.le_refl _
 | [_] => Nat.le_refl _
 | t :: s :: r => by
  rw [gR]; split
  ·have:=lV p (s :: r); simp only [List.length_cons] at *; omega
  ·exact Nat.le_refl _
theorem dK:∀ (l acc:List P2),(xX acc l).length ≤ acc.length + l.length
 | [],_ => Nat.le_refl _
 | p :: l,acc => by
  rw [xX]
  have h1:=dK l (p :: gR p acc)
  have h2:=lV p acc
  simp only [List.length_cons] at *; omega
theorem zT5 {l:List P2} {n:Nat} (hn:n ≤ 5000) (hl:l.length ≤ 500):CTy prog 72 [sv (sl 6 (l.map (ptc n)))] (sv (sl 6 ((xX [] l).reverse.map (ptc n)))):=by
 refine ctc func72 rfl rfl rfl rfl fun X => (zI (zJ rfl (zA1 (oas rfl) (zA0 (zI (zJ rfl (tal fun b3 => (zA0 (zI ?_)))))))))
 refine zJ rfl (zA1 (omf rfl) (zA1 (oas rfl) (zA0 (zI (zI (zJ rfl (zA1 (omv rfl) (zA1 (oln rfl) (zA1 (omv rfl) ?_)))))))))
 refine zA0 (yJ ?_)
 rotate_left 1
 refine t_ts (cO 35 6) ?_
 refine jJ (σ:=Nat × Value) (fun s => [(10,True,exP (.int .i64 ((s.1:Nat):Int)))]) (fun s => [.row s.2 35 6 ((xX [] (l.take s.1)).reverse.map (ptc n)),.blk b3 22 [xc s.2]]) (fun s => s.1 ≤ l.length) (fun s => l.length - s.1) ((0,.slice none 0 0)) (tk 3 rfl (tk 4 rfl (tk 8 rfl (tk 9 rfl tn)))) ?_ rfl ((by simp)) (fun s hJ Y _ => ?_)
 refine tc rfl (ps_r _) (tn)
 rotate_left 1
 have hc:=dK (l.take s.1) []
 have hd:=fun p => lV p (xX [] (l.take s.1))
 rw [List.length_take,List.length_nil] at hc
 refine zI (zJ rfl (zA1 (olt rfl rfl) (zA0 (zI ?_))))
 refine t_if rfl (fun c0 => ?_) (fun c0 => ?_)
 refine yV (zI (yJ (zI (zJ rfl (zA1 (oix _ rfl rfl rfl (fun _ => rfl) (fun _ => (by (have e0:=dt c0; omega)))) (zA1 (old rfl rfl) (tal fun b6 => (tst 0 rfl rfl rfl rfl rfl rfl (uZ (uQ (s:=6) 0 rfl rfl) ?_)))))))))
 refine zA0 (zI (zJ rfl (zA1 (omv rfl) (zA1 (old rfl rfl) ?_))))
 rotate_left 1
 refine jK (zI (zJ rfl (zA1 (oldo 1 rfl rfl rfl rfl) (zA1 (oas rfl) (zA0 (t_ts (qL (s:=2) 0 rfl rfl) (yF (⟨[_],rst rfl rs0,yN ?_⟩))))))))
 rotate_left 1
 ·have h0:=dt c0
  refine tco [0,1] rfl rfl rfl (kdrop (n:=n) (acc:=xX [] (l.take s.1)) (p:=l.getD s.1 Df.d) (by omega) (by omega)) ?_
  rintro _ _ ⟨rfl,v',rfl⟩
  refine zA0 (zJ rfl (zA1 (oldo 1 rfl rfl rfl rfl) (zA1 (old rfl rfl) (zA1 (obs rfl rfl rfl rfl rfl rfl) ?_))))
  refine tap 0 rfl rfl rfl ?_ rfl fun r20 => ?_
  rotate_left 1
  refine tsw 1 0 rfl rfl rfl rfl rfl rfl rfl (zA0 (zJ rfl (zA1 (oad rfl rfl (by omega)) (zA1 (omv rfl) (zA0 ?_)))))
  rotate_left 1
  ·have:=hd (l.getD s.1 Df.d)
   simp only [List.length_map,List.length_reverse,List.length_cons,List.length_nil]; omega
  ·refine ⟨(s.1 + 1,r20),tes ?_ ?_ ?_,(by omega),(by omega)⟩
   refine tc rfl (ps_r _) (tn)
   refine tc rfl (ps_r _) (tc rfl (ps_r _) (tc rfl (ps_r _) (tc rfl (ps_r _) (tn))))
   rotate_left 1
   rw [(xG (Df.d:P2) (show s.1 < l.length by omega)).1,oJ,List.reverse_cons,List.map_append]
   exact List.Sublist.refl _
 ·have h0:=df c0
  rw [List.take_of_length_le (by omega)]
  exact PSub.refl _
theorem kvnormo {Ψ:PV} {l:List P2} {n:Nat} [h:VPt Ψ n l] (hn:n ≤ 20000) (hl:l.length ≤ 1000000):CTo prog 67 [Ψ] [] (fun ρ So => ∃ v,ρ = exP v ∧ So = [.row v 35 6 (l.map (ptc (n + 1)))]):=by
 refine cto_w (σs:=[sv (sl 6 (l.map (ptq n)))]) ?_ (fs1 iF fs0)
 refine ctd func67 rfl rfl rfl rfl (fun _ _ _ _ _ _ _ hs hp => fZ hs hp) fun X => (zI (zJ rfl (zA1 (oas rfl) (zA0 (zI (zI (zJ rfl (zA1 (omv rfl) (zA1 (oln rfl) ?_)))))))))
 refine zA1 (omv rfl) (zA0 (yJ ?_))
 rotate_left 1
 refine t_ts (cO 35 6) ?_
 refine jJ (σ:=Nat × Value) (fun s => [(2,True,exP s.2),(7,True,exP (.int .i64 ((s.1:Nat):Int)))]) (fun s => [.row s.2 35 6 ((l.take s.1).map (ptc (n + 1)))]) (fun s => s.1 ≤ l.length) (fun s => l.length - s.1) ((0,.slice none 0 0)) (tk 5 rfl (tk 6 rfl tn)) ?_ rfl ((by simp)) (fun s hJ Y _ => ?_)
 refine tc rfl (ps_r _) (tc rfl (ps_r _) (tn))
 rotate_left 1
 refine zI (zJ rfl (zA1 (olt rfl rfl) (zA0 (zI ?_))))
 refine t_if rfl (fun c0 => ?_) (fun c0 => ?_)
 refine yV (zI (yJ (zI (zJ rfl (zA1 (oix _ rfl rfl rfl (fun _ => rfl) (fun _ => (by (have e0:=dt c0; omega)))) (zA1 (old rfl rfl) (tal fun b4 => (tst 0 rfl rfl rfl rfl rfl rfl (uZ (uQ (s:=4) 0 rfl rfl) ?_)))))))))
 refine zA0 (xH 9 mixed rfl rfl (d1 (omv rfl) (d1 (ofa rfl rfl) (d1 (old rfl rfl) (d1 (oca rfl rfl fun _ => zT1 (by omega)) (d1 (ofa rfl rfl) (d1 (old rfl rfl) (d1 (oca rfl rfl fun _ => zT1 (by omega)) ?_))))))))
 refine d1 (obd rfl rfl rfl) (d1 (obs rfl rfl rfl rfl rfl rfl) (d0 (tap 0 rfl rfl rfl (by (simp; omega)) rfl fun r20 => (zA1 (oas rfl) (zA0 (zJ rfl (zA1 (oad rfl rfl (by omega)) (zA1 (omv rfl) (zA0 ?_)))))))))
 rotate_left 1
 refine jK (zI (zJ rfl (zA1 (omv rfl) (zA1 (oas rfl) (zA0 (yF ?_))))))
 rotate_left 1
 ·refine ⟨(s.1 + 1,r20),tes ?_ ?_ ?_,(by (have e0:=dt c0; omega)),(by (have e0:=dt c0; omega))⟩
  refine tc rfl (ps_r _) (tc rfl (ps_r _) (tn))
  refine tc rfl (ps_r _) (tc rfl (ps_r _) (tn))
  rotate_left 1
  rw [(xG (Df.d:P2) (show s.1 < l.length by have:=dt c0; omega)).1,List.map_append]
  exact List.Sublist.refl _
 ·have h0:=df c0
  exact ⟨[_],exP s.2,_,rst rfl rs0,List.Sublist.refl _,⟨s.2,rfl,by rw [List.take_of_length_le (by omega)]⟩,yN (PSub.refl _)⟩
theorem kclone {l:List P2} {n:Nat} (h0:0 < l.length) (hl:l.length ≤ 1000):CTo prog 73 [sv (sl 6 (l.map (ptc n)))] [] (fun ρ So => ∃ v,ρ = exP v ∧ So = [.row v 35 6 (l.map (ptc n))]):=by
 refine ctd func73 rfl rfl rfl rfl (fun _ _ _ _ _ _ _ hs hp => fZ hs hp) fun X => (zI (zJ rfl (zA1 (oas rfl) (zA0 (zI (zI (zJ rfl (zA1 (omv rfl) (zA1 (oqn rfl (fun _ => (by (simp; omega)))) ?_)))))))))
 refine zA0 (zW0 rfl rfl (yV (zI (zJ rfl (tbs0 fun r5 => (zA1 (omv rfl) (tap 0 rfl rfl rfl (by (simp; omega)) rfl fun r7 => (zA1 (oas rfl) (zA0 ?_)))))))))
 refine yF ?_
 rotate_left 1
 exact ⟨[_],exP r7,_,rst rfl rs0,List.Sublist.refl _,⟨r7,rfl,rfl⟩,yN (PSub.refl _)⟩
theorem krevP {v:Value} {l:List P2} {n:Nat} (h0:0 < l.length) (hl:l.length ≤ 1000000):CTo prog 74 [exP v] [.row v 35 6 (l.map (ptc n))] (fun r So => r = tu [] ∧ So = [.row v 35 6 (l.reverse.map (ptc n))]) :=
 trev (ρ:=revPt_ren) revPt rfl rV (gO sz35) (fun _ => rfl) (bo func74) h0 hl
end Go.Proofs.YtflobagimodmgaaGreatDoor
set_option maxHeartbeats 4000000
namespace Go.Proofs.YtflobagimodmgaaGreatDoor
open Go.SL Go.RowKit Go.Proofs Tryz
theorem chain_two {l:List P2} (h2:2 ≤ l.length) (hs:l.Pairwise ltP):2 ≤ (xX [] l).length ∧ 2 ≤ (xX [] l.reverse).length:=by
 obtain ⟨mn,mx,A,B,cl,ch,eS,mnl,mxl,hlt,hmx,hmn,eL,eH⟩:=fL h2 hs
 rw [eL,eH]; simp only [List.length_cons,List.length_append,List.length_nil]; omega
theorem lU {α β:Type} (f:α → β) (l:List α):(l.reverse.drop 0).take (l.length - 1 - 0) = l.reverse.dropLast:=by
 rw [List.drop_zero,Nat.sub_zero,List.dropLast_eq_take,List.length_reverse]
theorem oE {Ψ:PV} {l:List P2} {n:Nat} [h:VPt Ψ n l] (hn:n ≤ 4000) (hl:l.length ≤ 400):CTy prog 13 [Ψ] (sv (sl 6 ((hullF l).map (ptc (n + 1))))):=by
 refine gS (σs:=[sv (sl 6 (l.map (ptq n)))]) ?_ (fs1 iF fs0)
 refine ctc func13 rfl rfl rfl rfl fun X => (zI (zJ rfl (zA1 (oas rfl) (zA0 (zI (zJ rfl (zA1 (omv rfl) (tco [] rfl rfl rfl (kvnormo (by omega) (by omega)) ?_))))))))
 rotate_left 1
 rintro _ _ ⟨v,rfl,rfl⟩
 refine zA1 (oas rfl) (zA0 (zI (zJ rfl (zA1 (omv rfl) ?_))))
 rotate_left 1
 refine tco [0] rfl rfl rfl (ksortP (by omega) (by omega)) ?_
 rintro _ _ ⟨rfl,l',hp',hso,rfl⟩
 have hll:=hp'.length_eq
 refine zA0 (zI (zJ rfl (zA1 (omv rfl) ?_)))
 rotate_left 1
 refine tco [0] rfl rfl rfl (wcompactP (by omega) (by omega)) ?_
 rintro _ _ ⟨v3,rfl,rfl⟩
 have hsl:=fA pP l
 rw [show uW eqP Df.d l' l'.length = setOf cmpP l from (sd_of_sort pP hp' hso).eq pP]
 refine zA1 (oas rfl) (zA0 (zI (zI (zJ rfl (zA1 (omv rfl) (zA1 (olno 0 rfl rfl) (zA1 (olt rfl rfl) (zA0 ?_))))))))
 refine t_if rfl (fun c0 => ?_) (fun c0 => ?_)
 refine zI (zJ rfl (zA1 (omv rfl) (zA1 (oas rfl) (zA0 (t_ts (qL (s:=2) 0 rfl rfl) (yF (⟨[_],rst rfl rs0,yN ?_⟩)))))))
 rotate_left 1
 rotate_left 1
 ·have h0:=dt c0
  exact ps_p (by unfold hullF qT; rw [if_pos (by omega)])
 have h0:=df c0
 obtain ⟨c2,c3⟩:=chain_two (l:=setOf cmpP l) (by omega) (cR l)
 have hL:=dK (setOf cmpP l) []
 have hH:=dK (setOf cmpP l).reverse []
 rw [List.length_nil] at hL hH
 rw [List.length_reverse] at hH
 refine t_ts (qL 0 rfl (s:=3) rfl) ?_
 refine yV (zI (zJ rfl (zA1 (omv rfl) (zA1 (oca rfl rfl fun _ => zT5 (by omega) (by omega)) (zA1 (oas rfl) (zA0 (zI (zJ rfl (zA1 (omv rfl) ?_)))))))))
 refine tco [] rfl rfl rfl (kclone (by omega) (by omega)) ?_
 rotate_left 1
 rintro _ _ ⟨v5,rfl,rfl⟩
 refine zA1 (oas rfl) (zA0 (zI (zJ rfl (zA1 (omv rfl) (tco [0] rfl rfl rfl (krevP (by omega) (by omega)) ?_)))))
 rotate_left 1
 rintro _ _ ⟨rfl,rfl⟩
 refine zA0 (t_ts (qL 0 rfl (s:=5) rfl) ?_)
 refine zI (zJ rfl (zA1 (omv rfl) (zA1 (oca rfl rfl fun _ => zT5 (by omega) (by (simp; omega))) (zA1 (oas rfl) (zA0 (zI (zI0 1 14 [(13,38,0)] rfl rfl mixed rfl rfl (cx1 (omv rfl) rfl (cx1 (omv rfl) rfl ?_)))))))))
 refine cx1 (oln rfl) rfl (cx1 (osb rfl rfl (by (simp; omega))) rfl (cx1 (omv rfl) rfl (cx1 (oln rfl) rfl (cx1 (osb rfl rfl (by (simp; omega))) rfl (cx1 (osl3 ((xX [] (setOf cmpP l)).length - 1) rfl rfl rfl (fun _ => (by (simp; omega))) (fun _ => (by (simp; omega))) (fun _ => (by (simp; done)))) rfl (cx1 (omv rfl) rfl (cx1 (omv rfl) rfl (cx1 (oln rfl) rfl (cx1 (osb rfl rfl (by (simp; omega))) rfl ?_)))))))))
 refine cx1 (osl 0 ((xX [] (setOf cmpP l).reverse).length - 1) rfl rfl ⟨_,_,_,_,rfl,fun _ => ⟨⟩,inferInstance,fun _ => (by (simp; omega))⟩ (fun _ => (by omega)) (fun _ => (by (simp; done)))) rfl (cN rfl rfl (capX rfl rfl (by (simp; omega)) (by (simp; omega)) (by (simp; omega)) rfl) ?_)
 refine cE (fun r38 => ?_)
 refine zA1 (oas rfl) (zA0 (t_ts (qL (s:=2) 0 rfl rfl) (yF (⟨[_],rst rfl rs0,yN ?_⟩))))
 rotate_left 1
 all_goals first
  | (rw [List.length_reverse]; omega)
  | (rw [List.length_map,lU id,List.length_dropLast,List.length_reverse]; omega)
  | (rw [lU id,lU id,← List.map_append]; exact ps_p (by unfold hullF qT; rw [if_neg (by omega)]))
end Go.Proofs.YtflobagimodmgaaGreatDoor
set_option maxHeartbeats 4000000
namespace Go.Proofs.YtflobagimodmgaaGreatDoor
open Go.SL Go.RowKit Go.Proofs Tryz
theorem vE:∀ (C:List P2) (i:Nat),i + 1 < C.length → (xZ C)[i]? = some (subP (gp C (i + 1)) (gp C i))
 | [],_,h => by simp at h
 | [_],_,h => by simp at h
 | a :: b :: r,0,_ => rfl
 | a :: b :: r,i + 1,h => by
  have:=vE (b :: r) i (by simp only [List.length_cons] at h ⊢; omega)
  simpa [xZ] using this
theorem edgesP_at {h:List P2} {i:Nat} (h1:1 < h.length) (hi:i < h.length):(xR h)[i]? = some (subP (nx h i) (gp h i)):=by
 unfold xR
 rw [if_pos h1,vE _ i (by simp; omega)]
 have e1:gp (h ++ [gp h 0]) i = gp h i:=by
  unfold gp; rw [List.getD_eq_getElem?_getD,List.getElem?_append_left hi,List.getD_eq_getElem?_getD]
 have e2:gp (h ++ [gp h 0]) (i + 1) = nx h i:=by
  unfold nx
  rcases Nat.lt_or_ge (i + 1) h.length with c | c
  ·rw [Nat.mod_eq_of_lt c]; unfold gp; rw [List.getD_eq_getElem?_getD,List.getElem?_append_left c,List.getD_eq_getElem?_getD]
  ·have:i + 1 = h.length:=by omega
   rw [this,Nat.mod_self]; unfold gp; rw [List.getD_eq_getElem?_getD,List.getElem?_append_right (Nat.le_refl _)]; simp
 rw [e1,e2]
theorem lE {h:List P2} {i:Nat} (h1:1 < h.length) (hi:i < h.length):(∃ post,xR h = (xR h).take i ++ subP (nx h i) (gp h i) :: post) ∧ (xR h).take (i + 1) = (xR h).take i ++ [subP (nx h i) (gp h i)]:=by
 have h2:=edgesP_at h1 hi
 obtain ⟨hl,e⟩:=List.getElem?_eq_some_iff.1 h2
 refine ⟨⟨(xR h).drop (i + 1),?_⟩,?_⟩
 ·rw [← e,List.getElem_cons_drop,List.take_append_drop]
 ·rw [List.take_succ_eq_append_getElem hl,e]
theorem zU5 {h:List P2} {n:Nat} (hn:n ≤ 5000) (hl:h.length ≤ 1000000):CIt prog 137 [pa (sl 6 (h.map (ptc n)))] (xR h) (fun e => [ag (ptc (2 * n + 3) e)]):=by
 refine cit func137 rfl rfl rfl rfl rfl fun X y YS YX hY hS => (zI (zJ rfl (zA1 (old rfl rfl) (zA1 (oln rfl) (zA1 (omv rfl) (zA0 (yJ ?_)))))))
 rotate_left 1
 refine sO (σ:=Nat) (fun i => [(7,True,exP (.int .i64 ((i:Nat):Int)))]) (fun i => []) (fun i Y => YS ((xR h).take i) Y ∧ i ≤ h.length) (fun i => h.length - i) (0) (tk 0 rfl (tk 1 rfl (tk 5 rfl (tk 6 rfl tn)))) ?_ rfl (⟨hS,by omega⟩) (fun i Y hG => ?_)
 refine tc rfl (ps_r _) (tn)
 rotate_left 1
 obtain ⟨hS,hi⟩:=hG
 refine zI (zJ rfl (zA1 (olt rfl rfl) (zA0 (zI ?_))))
 refine t_if rfl (fun c0 => ?_) (fun c0 => ?_)
 refine yV (zI (yJ (zI (zJ rfl (zA1 (omv rfl) (zA1 (oix _ rfl rfl rfl (fun _ => rfl) (fun _ => (by (have e0:=dt c0; omega)))) (zA1 (old rfl rfl) (tal fun b4 => (zA1 (oas rfl) ?_)))))))))
 refine tst 0 rfl rfl rfl rfl rfl rfl (uZ (uQ (s:=4) 0 rfl rfl) (zA0 (zI (xH 15 mixed rfl rfl (d1 (old rfl rfl) (d1 (oln rfl) (d1 (ogt rfl rfl) (d1 (omv rfl) (d1g rfl rfl (omv rfl) ?_)))))))))
 refine d1g rfl rfl (old rfl rfl) (d1g rfl rfl (omv rfl) (d1g rfl rfl (oad rfl rfl (by omega)) (d1g rfl rfl (old rfl rfl) (d1g rfl rfl (oln rfl) (d1g rfl rfl (orm rfl rfl (by (have e0:=dt c0; omega))) ?_)))))
 refine d1g rfl rfl (oix _ rfl rfl rfl (fun g => rfl) (fun g => ?_)) ?_
 rotate_left 1
 refine d1g rfl rfl (old rfl rfl) (d1g rfl rfl (old rfl rfl) (d1g rfl rfl (oca rfl rfl fun g => zL4 (by omega) (by omega)) (d0 ?_)))
 rotate_left 1
 refine jK ?_
 rotate_left 1
 ·have:=dt c0
  exact Nat.mod_lt _ (by omega)
 have h2:i < h.length:=by have:=dt c0; omega
 refine t_yieldh hY hS rfl rfl (fun e => (lE (by have:=of_decide_eq_true e; omega) h2).1) rfl rfl (fs1 (zJ5 (p:=subP (nx h i) (gp h i)) rfl (by omega)) fs0) (fun e => ?_) (fun e Y hS => ?_) (fun e Y hX => ?_)
 ·refine t1g rfl rfl (ont rfl) (zA1 (opk rfl rfl rfl) (zA0 ?_))
  refine t_if rfl (fun c1 => ?_) (fun c1 => ?_)
  refine yF ?_
  rotate_left 1
  refine yV (zJ rfl (zA1 (oad rfl rfl (by omega)) (zA1 (omv rfl) (zA0 ?_))))
  rotate_left 1
  ·exact absurd c1.h (by simp)
  ·have he:xR h = []:=by unfold xR; rw [if_neg fun c => e (decide_eq_true (by omega))]
   refine ⟨i + 1,tes ?_ ?_ (List.Sublist.refl _),?_,(by omega)⟩
   refine tc rfl (ps_r _) (tn)
   refine tc rfl (ps_r _) (tc rfl (ps_r _) (tc rfl (ps_r _) (tc rfl (ps_r _) (tn))))
   rotate_left 1
   exact ⟨by rw [he] at hS ⊢; simpa using hS,by omega⟩
 ·have h1:1 < h.length:=by have:=of_decide_eq_true e; omega
  refine t1g rfl rfl (ont rfl) (zA1 (opk rfl rfl rfl) (zA0 ?_))
  refine t_if rfl (fun c1 => ?_) (fun c1 => ?_)
  refine yF ?_
  rotate_left 1
  refine yV (zJ rfl (zA1 (oad rfl rfl (by omega)) (zA1 (omv rfl) (zA0 ?_))))
  rotate_left 1
  ·exact absurd c1.h (by simp)
  ·refine ⟨i + 1,tes ?_ ?_ (List.Sublist.refl _),?_,(by omega)⟩
   refine tc rfl (ps_r _) (tn)
   refine tc rfl (ps_r _) (tc rfl (ps_r _) (tc rfl (ps_r _) (tc rfl (ps_r _) (tn))))
   rotate_left 1
   exact ⟨by rw [(lE h1 h2).2]; exact hS,by omega⟩
 ·refine t1g rfl rfl (ont rfl) (zA1 (opk rfl rfl rfl) (zA0 ?_))
  refine t_if rfl (fun c1 => ?_) (fun c1 => ?_)
  refine yF ?_
  rotate_left 1
  refine yV (zJ rfl (zA1 (oad rfl rfl (by omega)) (zA1 (omv rfl) (zA0 ?_))))
  rotate_left 1
  ·exact .inr hX
  ·rw [e] at c1; exact absurd c1.h (by simp)
 ·have:i = h.length:=by have:=df c0; omega
  subst this
  rw [List.take_of_length_le (by rw [cI]; split <;> omega)] at hS
  exact .inl hS
theorem zT4 {h:List P2} {n:Nat}:CTy prog 79 [sv (sl 6 (h.map (ptc n)))] (fn 137 [pa (sl 6 (h.map (ptc n)))]):=by
 refine ctc func79 rfl rfl rfl rfl fun X => (zI (zJ rfl (zA1 (obx rfl) (zA1 (oas rfl) (zA0 (zI (zJ rfl (zA1 (omf rfl) (zA1 (oas rfl) ?_)))))))))
 refine zA0 (yF (⟨[_],rst rfl rs0,yN (PSub.refl _)⟩))
theorem kappP {g:FuncId} {caps:List PV} {xs:List P2} {m:Nat} (it:CIt prog g caps xs (fun e => [ag (ptc m e)])) (hl:xs.length ≤ 1000):CTy prog 136 [exP (.slice none 0 0),fn g caps] (sv (sl 6 (xs.map (ptc m)))):=by
 refine ctc func136 rfl rfl rfl rfl fun X => (zI (zJ rfl (tbx (hc:=cts1) rfl fun b2 => (zA1 (oas rfl) (zA0 (zI (zI (zJ rfl (zA1 (omv rfl) ?_)))))))))
 refine zA0 (yJ ?_)
 rotate_left 1
 refine t_ts (cO 35 6) ?_
 refine pZ (σ:=List P2 × Value) (fun t => [.row t.2 35 6 (t.1.map (ptc m)),.blk b2 22 [xc t.2]]) (fun pre t => t.1 = pre) ([],.slice none 0 0) rfl it (fun _ => rfl) rfl zS0 (by simp) rfl (fun pre x post t hx hJ Y y hl => ?_) (fun t hJ Y _ => ?_)
 ·obtain ⟨pr,v1⟩:=t
  obtain rfl:pr = pre:=hJ
  have h1:pr.length ≤ 1000:=by have:=congrArg List.length hx; simp at this; omega
  refine zJ rfl (tal fun b5 => (tst 0 rfl rfl rfl rfl rfl rfl (uZ (uQ (s:=5) 0 rfl rfl) (zA0 (⟨rfl,fun Y hl => (yJ (zJ rfl (zA1 (oldo 1 rfl rfl rfl rfl) (zA1 (old rfl rfl) ?_))))⟩)))))
  refine zA1 (obs rfl rfl rfl rfl rfl rfl) (tap 0 rfl rfl rfl (by (simp; omega)) rfl fun r11 => (tsw 1 0 rfl rfl rfl rfl rfl rfl rfl (zA0 ?_)))
  rotate_left 1
  refine ⟨(pr ++ [x],r11),(by (simp; done)),rfl⟩
 ·obtain ⟨_,v1⟩:=t
  obtain rfl:_ = xs:=hJ
  refine zI (zJ rfl (zA1 (oldo 1 rfl rfl rfl rfl) (zA1 (oas rfl) (zA0 (t_ts (qL (s:=4) 0 rfl rfl) (yF (⟨[_],rst rfl rs0,yN (PSub.refl _)⟩)))))))
theorem zY5 {g:FuncId} {caps:List PV} {xs:List P2} {m:Nat} (it:CIt prog g caps xs (fun e => [ag (ptc m e)])) (hl:xs.length ≤ 1000):CTy prog 78 [fn g caps] (sv (sl 6 (xs.map (ptc m)))):=by
 refine ctc func78 rfl rfl rfl rfl fun X => (zI (zJ rfl (zA1 (oas rfl) (zA0 (zI (zJ rfl (zA1 (omv rfl) (zA1 (oca rfl rfl fun _ => kappP it (by omega)) (zA1 (oas rfl) ?_)))))))))
 refine zA0 (yF (⟨[_],rst rfl rs0,yN (PSub.refl _)⟩))
end Go.Proofs.YtflobagimodmgaaGreatDoor
set_option maxHeartbeats 4000000
namespace Go.Proofs.YtflobagimodmgaaGreatDoor
open Go.SL Go.RowKit Go.Proofs Tryz
section
variable {Ψ Φ : PV} {n m N : Nat} {p q : P2} {a b : List P2}
theorem ps_pl {p q:P2} {n N:Nat} (e:p = q) (h:plen q N):PSub (ag (st [rtc n p.1,rtc n p.2])) (ag (ptc N q)):=fun M w v ⟨us,e1,x,y,e2,⟨s,a,d,k1,g1⟩,z,o,e3,⟨t,b,f,k2,g2⟩,e4⟩ => by
 subst e; exact ⟨us,e1,x,y,e2,⟨s,a,d,k1,g1.relen h.x⟩,z,o,e3,⟨t,b,f,k2,g2.relen h.y⟩,e4⟩
theorem wB [h:QP Ψ n p] [k:QP Φ m q] (hn:n ≤ 30000) (hm:m ≤ 30000) (hr:plen (addP p q) N):CTy prog 80 [Ψ,Φ] (ag (ptc N (addP p q))):=oI (kvadd hn hm) (ps_pl rfl hr)
theorem vR [h:VPt Ψ n a] {M:Nat → Prop} {w:World} {v:Value} (h1:Ψ.p M w v):∀ x ∈ a,plen x (n + 1):=fun x hx => by
 obtain ⟨cs,h3,h2⟩:=(h.h h1).row
 obtain ⟨i,hi,rfl⟩:=List.mem_iff_getElem.1 hx
 obtain ⟨us,_,_,s,x,d,t,b,e,_,g⟩:=h2 i _ (List.getElem?_eq_getElem hi)
 exact ⟨g.x.rlen,g.y.rlen⟩
theorem cty_2pt [h:VPt Ψ n a] [k:VPt Φ m b] {P:Program} {f:FuncId} {ρ:PV} (hb:Bod P f) (hr:(∀ x ∈ a,plen x (n + 1)) → (∀ x ∈ b,plen x (m + 1)) → CTy P f [sv (sl 6 (a.map (ptq n))),sv (sl 6 (b.map (ptq m)))] ρ):CTy P f [Ψ,Φ] ρ :=
 ⟨hb,fun M w vs hM hT hv => by
  obtain ⟨v,u,_,h1,h2⟩:=fa2 hv
  exact (hr (vR h1) (vR h2)).run M w vs hM hT ((fs1 iF (fs1 iF fs0)) _ _ _ hv)⟩
end
theorem zJ6 {k:Nat}:PSub (exP (.slice none 0 0)) (sv (sl k [])):=fun M w v h => by
 obtain rfl:v = .slice none 0 0:=h
 exact ⟨_,[],rfl,⟨by simp,by simp,none,0,rfl,Nat.le_refl _,.inl rfl⟩,rfl,by simp [aJ]⟩
theorem zO9 {h k s t:List P2} (hh:h ≠ []) (hk:k ≠ []) (e:mrg (xR h) (xR k) = s ++ t):∃ x ∈ h,∃ y ∈ k,addP (addP (gp h 0) (gp k 0)) (sumP s) = addP x y:=by
 obtain ⟨p1,p2,q1,q2,h1,h2,h3⟩:=zK9 _ _ e
 refine ⟨_,fM hh h1,_,fM hk h2,?_⟩
 rw [h3]; unfold addP; rw [Prod.ext_iff]; constructor <;> simp only <;> grind
structure MJ (h k:List P2) (p q:List P2) (at':P2) (out:List P2):Prop where
 way:out ++ wayS at' (mrg p q) = outS h k
 at_:∃ s,mrg (xR h) (xR k) = s ++ mrg p q ∧ at' = addP (addP (gp h 0) (gp k 0)) (sumP s)
theorem mj0 {h k:List P2}:MJ h k (xR h) (xR k) (addP (gp h 0) (gp k 0)) [addP (gp h 0) (gp k 0)]:=⟨rfl,[],rfl,(jL _).symm⟩
theorem rM {h k p q out:List P2} {d at':P2} (j:MJ h k (d :: p) q at' out) (hc:q = [] ∨ gT d (q.getD 0 Df.d) = true):mrg (d :: p) q = d :: mrg p q:=by
 match q,hc with
 | [],_ => rw [rL,rL]
 | b :: q,hc =>
  have:gT d b = true:=hc.elim (fun c => by cases c) id
  rw [mrg,if_pos this]
theorem nY {h k p q out:List P2} {d at':P2} (j:MJ h k p (d :: q) at' out) (hc:p = [] ∨ gT (p.getD 0 Df.d) d = false):mrg p (d :: q) = d :: mrg p q:=by
 match p,hc with
 | [],_ => rw [tM,tM]
 | a :: p,hc =>
  have:gT a d = false:=hc.elim (fun c => by cases c) id
  rw [mrg,if_neg (by rw [this]; simp)]
theorem fH {h k p q p' q' out:List P2} {d at':P2} (j:MJ h k p q at' out) (e:mrg p q = d :: mrg p' q'):(mrg p' q' = [] → out = outS h k) ∧ (mrg p' q' ≠ [] → MJ h k p' q' (addP at' d) (out ++ [addP at' d])) ∧ ∃ s,mrg (xR h) (xR k) = s ++ mrg p' q' ∧ addP at' d = addP (addP (gp h 0) (gp k 0)) (sumP s):=by
 obtain ⟨j1,s,j2,j3⟩:=j
 have h3:∃ s,mrg (xR h) (xR k) = s ++ mrg p' q' ∧ addP at' d = addP (addP (gp h 0) (gp k 0)) (sumP s):=⟨s ++ [d],by rw [j2,e]; simp,by rw [j3,nI,qY]; congr 2; rw [sumP,show sumP [] = (0,0) from rfl,jL]⟩
 refine ⟨fun h0 => ?_,fun h0 => ⟨?_,h3⟩,h3⟩
 ·rw [e,h0,wayS,List.append_nil] at j1; exact j1
 ·rw [e] at j1
  match hm:mrg p' q',h0 with
  | f :: l,_ => rw [hm,wayS] at j1; rw [← j1]; simp
theorem mp_l {p q:List P2} {b:Bool} (h1:0 < (p.length:Int) + (q.length:Int)) (h:Tr ((decide ((q.length:Int) = 0) || (decide (0 < (p.length:Int)) && b)) = true)):∃ d p',p = d :: p' ∧ (q = [] ∨ b = true):=by
 have h:=h.h
 rw [Bool.or_eq_true,Bool.and_eq_true,decide_eq_true_eq,decide_eq_true_eq] at h
 match p with
 | d :: p' => exact ⟨d,p',rfl,h.imp (fun h => List.length_eq_zero_iff.1 (by omega)) (·.2)⟩
 | [] => rw [List.length_nil] at h h1; omega
theorem mp_r {p q:List P2} {b:Bool} (h:Tr ((decide ((q.length:Int) = 0) || (decide (0 < (p.length:Int)) && b)) = false)):∃ d q',q = d :: q' ∧ (p = [] ∨ b = false):=by
 have h:=h.h
 rw [Bool.or_eq_false_iff,Bool.and_eq_false_iff,decide_eq_false_iff_not,decide_eq_false_iff_not] at h
 match q with
 | d :: q' => exact ⟨d,q',rfl,h.2.imp (fun h => List.length_eq_zero_iff.1 (by omega)) id⟩
 | [] => exact absurd rfl h.1
theorem aW {d:P2} {l:List P2} {f:P2 → CT}:((d :: l).drop 1).take (((d :: l).map f).length - 1) = l:=by simp
theorem zS4 {p q:List P2} (h:p.length + q.length = 0):mrg p q = []:=by
 rw [List.length_eq_zero_iff.1 (show p.length = 0 by omega),List.length_eq_zero_iff.1 (show q.length = 0 by omega)]; simp [mrg]
theorem zS3 {p q:List P2} (h:mrg p q = []):p.length + q.length = 0:=by rw [← zL0,h]; rfl
theorem lP {a b:List P2} (ha:hullF a ≠ []) (hb:hullF b ≠ []):hullF (outS (hullF a) (hullF b)) = sumF a b:=sQ (fun c => ha (uM.2 c)) fun c => hb (uM.2 c)
theorem wsum {a b:List P2} {n m:Nat} (hn:n ≤ 300) (hm:m ≤ 300) (ha:a.length ≤ 100) (hb:b.length ≤ 100) (pa':∀ x ∈ a,plen x (n + 1)) (pb':∀ x ∈ b,plen x (m + 1)):CTy prog 22 [sv (sl 6 (a.map (ptq n))),sv (sl 6 (b.map (ptq m)))] (sv (sl 6 ((sumF a b).map (ptc (n + m + 4))))):=by
 have la:=cH a
 have lb:=cH b
 refine ctc func22 rfl rfl rfl rfl fun X => (zI (zJ rfl (zA1 (oas rfl) (zA0 (t_scope (zI (zJ rfl (zA1 (omv rfl) (zA1 (oca rfl rfl fun _ => oE (by omega) (by omega)) ?_)))))))))
 refine zA1 (omv rfl) (zA1 (oca rfl rfl fun _ => oE (by omega) (by omega)) (zA1 (oas rfl) (zA1 (oas rfl) (zA0 (zI (zI (zJ rfl (zA1 (omv rfl) (zA1 (oln rfl) ?_)))))))))
 refine zA1 (oeq rfl rfl) (zA1 (omv rfl) (t1g rfl rfl (omv rfl) (t1g rfl rfl (oln rfl) (t1g rfl rfl (oeq rfl rfl) (zA1 (opk rfl rfl rfl) (zA0 ?_))))))
 refine t_if rfl (fun c0 => ?_) (fun c0 => ?_)
 refine zI (zJ rfl (zA1 (oas rfl) (zA0 (yF (⟨[_],rst rfl rs0,yN ?_⟩)))))
 rotate_left 1
 rotate_left 1
 ·have h:=c0.h
  rw [Bool.or_eq_true,decide_eq_true_eq,decide_eq_true_eq] at h
  rw [rA.2 (h.imp (fun h => uM.1 (List.length_eq_zero_iff.1 (by omega))) fun h => uM.1 (List.length_eq_zero_iff.1 (by omega)))]
  exact zJ6
 have h:=c0.h
 rw [Bool.or_eq_false_iff,decide_eq_false_iff_not,decide_eq_false_iff_not] at h
 have ha0:hullF a ≠ []:=fun c => h.1 (by rw [c]; rfl)
 have hb0:hullF b ≠ []:=fun c => h.2 (by rw [c]; rfl)
 have hA:0 < (hullF a).length:=List.length_pos_iff.2 ha0
 have hB:0 < (hullF b).length:=List.length_pos_iff.2 hb0
 have ea:(xR (hullF a)).length ≤ 100:=by rw [cI]; split <;> omega
 have eb:(xR (hullF b)).length ≤ 100:=by rw [cI]; split <;> omega
 have hpl:∀ x ∈ hullF a,∀ y ∈ hullF b,plen (addP x y) (n + m + 3):=fun x hx y hy => ((pa' x ((gW a).sub x hx)).add (pb' y ((gW b).sub y hy))).up (by omega)
 have hol:=zK0 (hullF a) (hullF b)
 refine yV (zI (zJ rfl (zA1 (omv rfl) (zA1 (oca rfl rfl fun _ => zT4) (zA1 (oca rfl rfl fun _ => zY5 (zU5 (by omega) (by omega)) (by omega)) (zA1 (omv rfl) (zA1 (oca rfl rfl fun _ => zT4) (zA1 (oca rfl rfl fun _ => zY5 (zU5 (by omega) (by omega)) (by omega)) (zA1 (oas rfl) ?_)))))))))
 refine zA1 (oas rfl) (zA0 (zI ?_))
 apply wW 1 9 8 [(7,7,0),(8,1000008,0)] rfl rfl mixed rfl rfl rfl
 refine cx1 (omv rfl) rfl (cx1 (oix _ rfl rfl rfl (fun _ => rfl) (fun _ => (by omega))) rfl (cx1 (old rfl rfl) rfl (cx1 (omv rfl) rfl (cx1 (oix _ rfl rfl rfl (fun _ => rfl) (fun _ => (by omega))) rfl (cx1 (old rfl rfl) rfl ?_)))))
 refine cx1 (oca rfl rfl fun _ => wB (N:=n + m + 3) (by omega) (by omega) ?_) rfl ?_
 rotate_left 1
 refine cN rfl rfl (cal) (cS rfl rfl rfl (cst rfl rfl rfl) ?_)
 refine cE (fun b7 => ?_)
 refine zA0 (zI (zJ rfl (zA1 (oldo 0 rfl rfl rfl rfl) (tbs rfl rfl rfl rfl rfl rfl fun r36 => (zA1 (oas rfl) (zA0 (zI (t_label (zI ?_)))))))))
 refine yJ ?_
 rotate_left 1
 ·exact hpl _ (kQ hA) _ (kQ hB)
 refine jJ (σ:=(List P2 × List P2) × P2 × List P2 × Value) (fun s => [(8,True,exP s.2.2.2),(5,True,sv (sl 6 (s.1.1.map (ptc (2 * (n + 1) + 3))))),(6,True,sv (sl 6 (s.1.2.map (ptc (2 * (m + 1) + 3)))))]) (fun s => [.row s.2.2.2 35 6 (s.2.2.1.map (ptc (n + m + 3))),.blk b7 35 [ptc (n + m + 3) s.2.1]]) (fun s => MJ (hullF a) (hullF b) s.1.1 s.1.2 s.2.1 s.2.2.1 ∧ s.1.1.length ≤ 100 ∧ s.1.2.length ≤ 100 ∧ s.2.2.1.length ≤ 250) (fun s => s.1.1.length + s.1.2.length) (((xR (hullF a),xR (hullF b)),addP (gp (hullF a) 0) (gp (hullF b) 0),[addP (gp (hullF a) 0) (gp (hullF b) 0)],r36)) (tk 7 rfl tn) ?_ rfl (⟨mj0,by simpa using ea,by simpa using eb,by simp⟩) (fun s hJ Y _ => ?_)
 refine tc rfl (ps_r _) (tc rfl (ps_r _) (tc rfl (ps_r _) (tn)))
 rotate_left 1
 obtain ⟨⟨p,q⟩,at1,out,v1⟩:=s
 dsimp only at hJ ⊢
 obtain ⟨j,j1,j2,j3⟩:=hJ
 refine zI (zI (zJ rfl (zA1 (omv rfl) (zA1 (oln rfl) (zA1 (omv rfl) (zA1 (oln rfl) (zA1 (oad rfl rfl (by omega)) (zA1 (ogt rfl rfl) (zA0 ?_)))))))))
 refine t_if rfl (fun c1 => ?_) (fun c1 => ?_)
 refine yV (yJ (zI (zJ rfl (tal fun b9 => (zA0 (zI (zI (xH 17 mixed rfl rfl (d1 (omv rfl) ?_)))))))))
 refine d1 (oln rfl) (d1 (oeq rfl rfl) (d1 (omv rfl) (d1g rfl rfl (omv rfl) (d1g rfl rfl (oln rfl) (d1g rfl rfl (ogt rfl rfl) (d1g rfl rfl (omv rfl) (d1g rfl rfl (omv rfl) ?_)))))))
 refine d1g rfl rfl (oix _ rfl rfl rfl (fun g => rfl) (fun g => ?_)) ?_
 rotate_left 1
 refine d1g rfl rfl (old rfl rfl) (d1g rfl rfl (omv rfl) ?_)
 refine d1g rfl rfl (oix _ rfl rfl rfl (fun g => rfl) (fun g => ?_)) ?_
 rotate_left 1
 refine d1g rfl rfl (old rfl rfl) (d1g rfl rfl (oca rfl rfl fun g => kahead (by omega) (by omega)) (d1g rfl rfl (opk rfl rfl rfl) (d1 (opk rfl rfl rfl) (d0 (zA0 ?_)))))
 refine t_if rfl (fun c2 => ?_) (fun c2 => ?_)
 apply wV 0 6 0 5 [(5,999,0)] rfl rfl rfl mixed rfl rfl rfl
 refine cx1 (omv rfl) rfl ?_
 refine cx1 (oix _ rfl rfl rfl (fun _ => rfl) (fun _ => ?_)) rfl ?_
 rotate_left 1
 refine cx1 (old rfl rfl) rfl (cx1 (omv rfl) rfl ?_)
 refine cx1 (osl _ _ rfl ⟨_,_,_,_,rfl,fun _ => trivial,inferInstance,fun _ => rfl⟩ (fun _ => rfl) (fun _ => ?_) (fun _ => (by omega))) rfl ?_
 rotate_left 1
 refine cV rfl rfl (cstv rfl rfl rfl rfl) ?_
 refine cE ?_
 refine zA1 (oas rfl) (zA0 (zI (zJ rfl (zA1 (oldo 2 rfl rfl rfl rfl) (zA1 (oldo 0 rfl rfl rfl rfl) ?_)))))
 refine zA1 (oca rfl rfl fun _ => wB (N:=n + m + 3) (by omega) (by omega) ?_) ?_
 rotate_left 1
 refine tst 2 rfl rfl rfl rfl rfl rfl (zA0 (zI (zI (zJ rfl (zA1 (omv rfl) (zA1 (oln rfl) (zA1 (omv rfl) (zA1 (oln rfl) (zA1 (oad rfl rfl (by (simp; omega))) ?_)))))))))
 refine zA1 (oeq rfl rfl) (zA0 ?_)
 refine t_if rfl (fun c3 => ?_) (fun c3 => ?_)
 refine jK (zI (zJ rfl (zA1 (omv rfl) ?_)))
 rotate_left 1
 refine yV (zJ rfl (zA1 (omv rfl) (zA1 (oldo 2 rfl rfl rfl rfl) (zA1 (obs rfl rfl rfl rfl rfl rfl) (tap 1 rfl rfl rfl (by (simp; omega)) rfl fun r82 => (zA1 (oas rfl) (zA0 ?_)))))))
 rotate_left 1
 apply wV 0 6 0 5 [(5,999,0)] rfl rfl rfl mixed rfl rfl rfl
 refine cx1 (omv rfl) rfl ?_
 refine cx1 (oix _ rfl rfl rfl (fun _ => rfl) (fun _ => ?_)) rfl ?_
 rotate_left 1
 refine cx1 (old rfl rfl) rfl (cx1 (omv rfl) rfl ?_)
 refine cx1 (osl _ _ rfl ⟨_,_,_,_,rfl,fun _ => trivial,inferInstance,fun _ => rfl⟩ (fun _ => rfl) (fun _ => ?_) (fun _ => (by omega))) rfl ?_
 rotate_left 1
 refine cV rfl rfl (cstv rfl rfl rfl rfl) ?_
 refine cE ?_
 refine zA1 (oas rfl) (zA0 (zI (zJ rfl (zA1 (oldo 2 rfl rfl rfl rfl) (zA1 (oldo 0 rfl rfl rfl rfl) ?_)))))
 refine zA1 (oca rfl rfl fun _ => wB (N:=n + m + 3) (by omega) (by omega) ?_) ?_
 rotate_left 1
 refine tst 2 rfl rfl rfl rfl rfl rfl (zA0 (zI (zI (zJ rfl (zA1 (omv rfl) (zA1 (oln rfl) (zA1 (omv rfl) (zA1 (oln rfl) (zA1 (oad rfl rfl (by (simp; omega))) ?_)))))))))
 refine zA1 (oeq rfl rfl) (zA0 ?_)
 refine t_if rfl (fun c4 => ?_) (fun c4 => ?_)
 refine jK (zI (zJ rfl (zA1 (omv rfl) ?_)))
 rotate_left 1
 refine yV (zJ rfl (zA1 (omv rfl) (zA1 (oldo 2 rfl rfl rfl rfl) (zA1 (obs rfl rfl rfl rfl rfl rfl) (tap 1 rfl rfl rfl (by (simp; omega)) rfl fun r82 => (zA1 (oas rfl) (zA0 ?_)))))))
 rotate_left 1
 refine jK (zI (zJ rfl (zA1 (omv rfl) ?_)))
 rotate_left 1
 ·exact Int.ofNat_lt.1 (of_decide_eq_true g.2)
 ·have h2:=of_decide_eq_false g.1.2
  exact Nat.pos_of_ne_zero fun c => h2 (by rw [c]; rfl)
 ·obtain ⟨d,p',rfl,h3⟩:=mp_l (dt c1) c2; simp
 ·obtain ⟨d,p',rfl,h3⟩:=mp_l (dt c1) c2; simp
 ·obtain ⟨d,p',rfl,h3⟩:=mp_l (dt c1) c2
  obtain ⟨_,_,s,h4,h5⟩:=fH j (rM j h3)
  obtain ⟨x,hx,y,hy,e⟩:=zO9 ha0 hb0 h4
  show plen (addP at1 d) _
  rw [h5,e]; exact hpl x hx y hy
 ·obtain ⟨d,p',rfl,h3⟩:=mp_l (dt c1) c2
  have h4:=(fH j (rM j h3)).1 (zS4 (by have:=dt c3; rw [aW] at this; omega))
  rw [h4]
  refine uZ (qL 1 rfl (s:=83) rfl) ?_
  refine zA1 (oca rfl rfl fun _ => oE (by omega) (by omega)) (zA1 (oas rfl) (zA0 (yF (⟨[_],rst rfl rs0,yN ?_⟩))))
  rotate_left 1
  rw [lP ha0 hb0]; exact PSub.refl _
 ·obtain ⟨d,p',rfl,h3⟩:=mp_l (dt c1) c2
  have h4:=(fH j (rM j h3)).2.1 fun c => df c3 (by rw [aW]; have:=zS3 c; omega)
  have h5:=congrArg List.length h4.way
  rw [List.length_append] at h5
  refine ⟨((p',q),addP at1 d,out ++ [addP at1 d],r82),tes ?_ ?_ (by (simp; done)),?_,(by (simp; done))⟩
  refine tc rfl (ps_r _) ?_
  refine tc rfl ?_ ?_
  rotate_left 1
  refine tc rfl (ps_r _) (tn)
  refine tc rfl (ps_r _) (tn)
  rotate_left 1
  ·rw [aW]; exact PSub.refl _
  ·simp only [List.length_cons] at j1
   refine ⟨h4,?_,j2,?_⟩ <;> dsimp only <;> omega
 ·obtain ⟨d,q',rfl,h3⟩:=mp_r c2; simp
 ·obtain ⟨d,q',rfl,h3⟩:=mp_r c2; simp
 ·obtain ⟨d,q',rfl,h3⟩:=mp_r c2
  obtain ⟨_,_,s,h4,h5⟩:=fH j (nY j h3)
  obtain ⟨x,hx,y,hy,e⟩:=zO9 ha0 hb0 h4
  show plen (addP at1 d) _
  rw [h5,e]; exact hpl x hx y hy
 ·obtain ⟨d,q',rfl,h3⟩:=mp_r c2
  have h4:=(fH j (nY j h3)).1 (zS4 (by have:=dt c4; rw [aW] at this; omega))
  rw [h4]
  refine uZ (qL 1 rfl (s:=83) rfl) ?_
  refine zA1 (oca rfl rfl fun _ => oE (by omega) (by omega)) (zA1 (oas rfl) (zA0 (yF (⟨[_],rst rfl rs0,yN ?_⟩))))
  rotate_left 1
  rw [lP ha0 hb0]; exact PSub.refl _
 ·obtain ⟨d,q',rfl,h3⟩:=mp_r c2
  have h4:=(fH j (nY j h3)).2.1 fun c => df c4 (by rw [aW]; have:=zS3 c; omega)
  have h5:=congrArg List.length h4.way
  rw [List.length_append] at h5
  refine ⟨((p,q'),addP at1 d,out ++ [addP at1 d],r82),tes ?_ ?_ (by (simp; done)),?_,(by (simp; done))⟩
  refine tc rfl (ps_r _) (tc rfl (ps_r _) ?_)
  refine tc rfl ?_ ?_
  rotate_left 1
  refine tn
  refine tc rfl (ps_r _) (tn)
  rotate_left 1
  ·rw [aW]; exact PSub.refl _
  ·simp only [List.length_cons] at j2
   refine ⟨h4,j1,?_,?_⟩ <;> dsimp only <;> omega
 ·have h4:=j.way
  rw [zS4 (by have:=df c1; omega),wayS,List.append_nil] at h4
  rw [h4]
  refine uZ (qL 0 rfl (s:=83) rfl) ?_
  refine zA1 (oca rfl rfl fun _ => oE (by omega) (by omega)) (zA1 (oas rfl) (zA0 (yF (⟨[_],rst rfl rs0,yN ?_⟩))))
  rotate_left 1
  rw [lP ha0 hb0]; exact PSub.refl _
theorem ksum {Ψ Φ:PV} {a b:List P2} {n m:Nat} [h:VPt Ψ n a] [k:VPt Φ m b] (hn:n ≤ 300) (hm:m ≤ 300) (ha:a.length ≤ 100) (hb:b.length ≤ 100):CTy prog 22 [Ψ,Φ] (sv (sl 6 ((sumF a b).map (ptc (n + m + 4))))):=cty_2pt (bo func22) fun h1 h2 => wsum hn hm ha hb h1 h2
end Go.Proofs.YtflobagimodmgaaGreatDoor
set_option maxHeartbeats 4000000
namespace Go.Proofs.YtflobagimodmgaaGreatDoor
open Go.SL Go.RowKit Go.Proofs Tryz
theorem k5ofn {k:Nat} (h0:0 < k) (hk:k < 1000000):CTy prog 149 [exP (.int .i64 (-((k:Nat):Int)))] (ag (ztc 2 (-((k:Nat):Int)))):=by
 refine ctc func149 rfl rfl rfl rfl fun X => (zI (zJ rfl (tal fun b2 => (zA0 (zI (zI (zJ rfl (zA1 (omv rfl) (zA1 (olt rfl rfl) ?_)))))))))
 refine zA0 ?_
 refine t_if rfl (fun c0 => ?_) (fun c0 => ?_)
 refine zI (zJ rfl (zA1 (omv rfl) (zA1 (oad rfl rfl (by omega)) (zA1 (mI (ong rfl (fun _ => by omega)) (ps_i (show -(-((k:Nat):Int) + 1) = (((k - 1:Nat)):Int) by omega))) (zA1 (ocv64 rfl (by omega)) (zA1 (mI (oadv rfl rfl (by omega)) (ps_i (show (((k - 1 + 1:Nat)):Int) = ((k:Nat):Int) by omega))) (zA1 (oca rfl rfl fun _ => k1of (n:=k) (by omega)) ?_)))))))
 refine zA1 (obd rfl rfl rfl) (tst 0 rfl rfl rfl rfl rfl rfl (zA0 (yF (⟨[_],rsc 0 rfl rfl rfl rfl rs0,yN ?_⟩))))
 rotate_left 1
 refine yV (zI (zJ rfl (zA1 (omv rfl) ?_)))
 rotate_left 1
 ·exact ps_z (decide_eq_true (by omega)).symm (by omega) (limbs2 (by omega))
 ·exact absurd (by omega:(-(k:Int)) < 0) (df c0)
theorem nJ (p:P2):subP (((0:Nat):Rat),((0:Nat):Rat)) p = negP p:=by
 unfold subP negP; rw [Prod.ext_iff]; constructor <;> simp only <;> grind
theorem k8neg {Ψ:PV} {p:P2} {n:Nat} [h:QP Ψ n p] (hn:n ≤ 800):CTy prog 33 [Ψ] (ag (ptc (n + 5) (negP p))):=by
 refine gS (σs:=[ag (ptq n p)]) ?_ (fs1 qp_q fs0)
 refine ctc func33 rfl rfl rfl rfl fun X => (zI (zJ rfl (zA1 (obx rfl) (tal fun b2 => (zA0 (zI (xH 3 mixed rfl rfl (d1 (oca rfl rfl fun _ => k8of (by (simp; done)) (by (simp; done))) (d1 (old rfl rfl) ?_)))))))))
 refine d1 (oca rfl rfl fun _ => rR (by omega) (by omega)) (d0 (tst 0 rfl rfl rfl rfl rfl rfl (zA0 (yF (⟨[_],rsc 0 rfl rfl rfl rfl rs0,yN ?_⟩)))))
 rotate_left 1
 exact zJ5 (p:=subP (((0:Nat):Rat),((0:Nat):Rat)) p) (nJ p) (by omega)
theorem kvneg {Ψ:PV} {p:P2} {n:Nat} [h:QP Ψ n p] (hn:n ≤ 800):CTy prog 82 [Ψ] (ag (ptc (n + 5) (negP p))):=by
 refine gS (σs:=[ag (ptq n p)]) ?_ (fs1 qp_q fs0)
 refine ctc func82 rfl rfl rfl rfl fun X => (zI (zJ rfl (zA1 (obx rfl) (tal fun b2 => (zA0 (zI (xH 3 mixed rfl rfl (d1 (oca rfl rfl fun _ => kvof (by (simp; done)) (by (simp; done))) (d1 (old rfl rfl) ?_)))))))))
 refine d1 (oca rfl rfl fun _ => zL4 (by omega) (by omega)) (d0 (tst 0 rfl rfl rfl rfl rfl rfl (zA0 (yF (⟨[_],rsc 0 rfl rfl rfl rfl rs0,yN ?_⟩)))))
 rotate_left 1
 exact zJ5 (p:=subP (((0:Nat):Rat),((0:Nat):Rat)) p) (nJ p) (by omega)
theorem k8alike {p q:P2} {n m:Nat} (hn:n ≤ 1990) (hm:m ≤ 1990):CTy prog 75 [ag (ptc n p),ag (ptc m q)] (exP (.bool (decide (p = q)))):=by
 refine ctc func75 rfl rfl rfl rfl fun X => (zI (zJ rfl (zA1 (obx rfl) (zA1 (obx rfl) (zA1 (oas rfl) (zA0 (zI (zJ rfl (zA1 (ofa rfl rfl) ?_)))))))))
 refine zA1 (old rfl rfl) (zA1 (ofa rfl rfl) (zA1 (old rfl rfl) (zA1 (oca rfl rfl fun _ => zT6 (by omega) (by omega)) (zA1 (omv rfl) (t1g rfl rfl (ofa rfl rfl) (t1g rfl rfl (old rfl rfl) (t1g rfl rfl (ofa rfl rfl) (t1g rfl rfl (old rfl rfl) (t1g rfl rfl (oca rfl rfl fun g => zT6 (by omega) (by omega)) ?_)))))))))
 refine zA1 (opk rfl rfl rfl) (zA1 (oas rfl) (zA0 (yF (⟨[_],rst rfl rs0,yN ?_⟩))))
 refine psb ?_
 rotate_left 1
 rw [← Bool.decide_and,decide_eq_decide,Prod.ext_iff]
theorem mK {l k:List P2} {n m:Nat} (hn:n ≤ 1990) (hm:m ≤ 1990):CTy prog 14 [sv (sl 6 (l.map (ptc n))),sv (sl 6 (k.map (ptc m)))] (exP (.bool (decide (l = k)))):=by
 refine ctc func14 rfl rfl rfl rfl fun X => (zI (zJ rfl (zA1 (oas rfl) (zA0 (zI (zI (zJ rfl (zA1 (omv rfl) (zA1 (oln rfl) ?_)))))))))
 refine zA1 (omv rfl) (zA1 (oln rfl) (zA1 (oni rfl rfl) (zA0 ?_)))
 refine t_if rfl (fun c0 => ?_) (fun c0 => ?_)
 refine zI (zJ rfl (zA1 (oas rfl) (zA0 (yF (⟨[_],rst rfl rs0,yN ?_⟩)))))
 refine psb ?_
 rotate_left 1
 refine yV (zI (zI (zJ rfl (zA1 (oas rfl) (zA0 (yJ ?_))))))
 rotate_left 1
 ·have:=dt c0
  rw [decide_eq_false fun e => this (by rw [e])]
 ·have hlk:l.length = k.length:=by have:=df c0; omega
  refine t_len 0 rfl fun hL => ?_
  rw [List.length_map] at hL
  refine jJ (σ:=Nat) (fun i => [(5,True,exP (.int .i64 ((i:Nat):Int)))]) (fun i => []) (fun i => i ≤ l.length ∧ l.take i = k.take i) (fun i => l.length - i) (0) (tk 0 rfl (tk 1 rfl tn)) ?_ rfl (⟨by omega,by simp⟩) (fun i hJ Y _ => ?_)
  refine tc rfl (ps_r _) (tn)
  rotate_left 1
  obtain ⟨hi,hs⟩:=hJ
  refine zI (zI (zJ rfl (zA1 (omv rfl) (zA1 (omv rfl) (zA1 (oln rfl) (zA1 (olt rfl rfl) (zA0 ?_)))))))
  refine t_if rfl (fun c1 => ?_) (fun c1 => ?_)
  refine yV (zI (yJ (zI (xH 10 mixed rfl rfl (d1 (omv rfl) (d1 (omv rfl) (d1 (oix _ rfl rfl rfl (fun _ => rfl) (fun _ => (by (have e0:=dt c1; omega)))) (d1 (old rfl rfl) (d1 (omv rfl) ?_)))))))))
  refine d1 (omv rfl) (d1 (oix _ rfl rfl rfl (fun _ => rfl) (fun _ => (by (have e0:=dt c1; omega)))) (d1 (old rfl rfl) (d1 (oca rfl rfl fun _ => k8alike (by omega) (by omega)) (d1 (ont rfl) (d0 (zA0 ?_))))))
  refine t_if rfl (fun c2 => ?_) (fun c2 => ?_)
  refine zI (zJ rfl (zA1 (oas rfl) (zA0 (yF (⟨[_],rst rfl rs0,yN ?_⟩)))))
  refine psb ?_
  rotate_left 1
  refine yV (zJ rfl (zA1 (omv rfl) (zA1 (oad rfl rfl (by (have e0:=dt c1; omega))) (zA1 (oas rfl) (zA0 ?_)))))
  rotate_left 1
  refine jK (zI (zJ rfl (zA1 (oas rfl) (zA0 (yF (⟨[_],rst rfl rs0,yN ?_⟩))))))
  refine psb ?_
  rotate_left 1
  ·rw [decide_eq_false fun e => by have h:=c2.h; rw [e] at h; simp at h]
  ·have h2:l.getD i Df.d = k.getD i Df.d:=by have h:=c2.h; simpa using h
   refine ⟨i + 1,tes ?_ ?_ (List.Sublist.refl _),?_,(by (have e0:=dt c1; omega))⟩
   refine tc rfl (ps_r _) (tn)
   refine tc rfl (ps_r _) (tc rfl (ps_r _) (tn))
   rotate_left 1
   have h3:=dt c1
   exact ⟨by omega,by rw [(xG (Df.d:P2) (l:=l) (by omega)).1,(xG (Df.d:P2) (l:=k) (by omega)).1,hs,h2]⟩
  ·have h3:=df c1
   rw [List.take_of_length_le (by omega),List.take_of_length_le (by omega)] at hs
   exact (decide_eq_true hs).symm
theorem kmflip {l:List P2} {n:Nat} (hn:n ≤ 300) (hl:l.length ≤ 100):CTy prog 24 [sv (sl 6 (l.map (ptq n)))] (sv (sl 6 ((l.map negP).map (ptc (n + 5))))):=by
 refine ctc func24 rfl rfl rfl rfl fun X => (zI (zJ rfl (zA1 (oas rfl) (zA0 (zI (zI (zJ rfl (zA1 (omv rfl) (zA1 (oln rfl) ?_)))))))))
 refine zA1 (omv rfl) (zA0 (yJ ?_))
 rotate_left 1
 refine t_ts (cO 35 6) ?_
 refine jJ (σ:=Nat × Value) (fun s => [(2,True,exP s.2),(7,True,exP (.int .i64 ((s.1:Nat):Int)))]) (fun s => [.row s.2 35 6 (((l.take s.1).map negP).map (ptc (n + 5)))]) (fun s => s.1 ≤ l.length) (fun s => l.length - s.1) ((0,.slice none 0 0)) (tk 5 rfl (tk 6 rfl tn)) ?_ rfl ((by simp)) (fun s hJ Y _ => ?_)
 refine tc rfl (ps_r _) (tc rfl (ps_r _) (tn))
 rotate_left 1
 refine zI (zJ rfl (zA1 (olt rfl rfl) (zA0 (zI ?_))))
 refine t_if rfl (fun c0 => ?_) (fun c0 => ?_)
 refine yV (zI (yJ (zI (zJ rfl (zA1 (oix _ rfl rfl rfl (fun _ => rfl) (fun _ => (by (have e0:=dt c0; omega)))) (zA1 (old rfl rfl) (tal fun b4 => (tst 0 rfl rfl rfl rfl rfl rfl (uZ (uQ (s:=4) 0 rfl rfl) ?_)))))))))
 refine zA0 (zJ rfl (zA1 (omv rfl) (zA1 (old rfl rfl) (zA1 (oca rfl rfl fun _ => kvneg (by omega)) (zA1 (obs rfl rfl rfl rfl rfl rfl) (tap 0 rfl rfl rfl (by (simp; omega)) rfl fun r15 => (zA1 (oas rfl) (zA0 (zJ rfl ?_)))))))))
 refine zA1 (oad rfl rfl (by omega)) (zA1 (omv rfl) (zA0 ?_))
 rotate_left 1
 refine jK (zI (zJ rfl (zA1 (omv rfl) (zA1 (oas rfl) (zA0 (t_ts (qL (s:=2) 0 rfl rfl) (yF (⟨[_],rst rfl rs0,yN ?_⟩))))))))
 rotate_left 1
 ·refine ⟨(s.1 + 1,r15),tes ?_ ?_ ?_,(by (have e0:=dt c0; omega)),(by (have e0:=dt c0; omega))⟩
  refine tc rfl (ps_r _) (tc rfl (ps_r _) (tn))
  refine tc rfl (ps_r _) (tc rfl (ps_r _) (tn))
  rotate_left 1
  rw [(xG (Df.d:P2) (show s.1 < l.length by have:=dt c0; omega)).1,List.map_append,List.map_append]
  rw [Nat.max_self]
  exact List.Sublist.refl _
 ·have h0:=df c0
  rw [List.take_of_length_le (by omega)]
  exact PSub.refl _
end Go.Proofs.YtflobagimodmgaaGreatDoor
set_option maxHeartbeats 4000000
namespace Go.Proofs.YtflobagimodmgaaGreatDoor
open Go.SL Go.RowKit Go.Proofs Tryz
theorem one_nat {M:Nat → Prop} {w:World} {us:List Value} (h:(sl 1 [xc (.int .u32 1)]).p M w us):(ntc 1 1).p M w us:=by
 obtain ⟨u,vs,rfl,h1,⟨x,y,e1,e2,h2⟩,_⟩:=h
 obtain rfl:y = []:=h2
 have h3:x = [.int .u32 1]:=e2.1
 subst h3 e1
 have h4:IsNat M w u [1]:=⟨h1,by simp⟩
 refine ⟨u,rfl,⟨[1],h4,by simp,by simp [val]⟩,?_⟩
 rw [show limbs 1 = [1] by rw [uF (by decide)]; simp [yU]]; exact h4
theorem ps_int {n N:Nat} {q:Rat} {z:Int} (h1:z = q.num) (h2:1 = q.den) (hn:n ≤ N) (hm:1 ≤ N):PSub (ag (st [ztc n z,sl 1 [xc (.int .u32 1)]])) (ag (rtc N q)):=fun M w v ⟨us,e,x,y,e1,k1,u,o,e2,k2,e3⟩ => zR6 h1 h2 hn hm M w v ⟨us,e,x,y,e1,k1,u,o,e2,one_nat k2,e3⟩
theorem zK8 (k:Nat):(-((k:Nat):Int)) = (-((k:Nat):Rat)).num ∧ 1 = (-((k:Nat):Rat)).den:=by
 rw [Rat.neg_num,Rat.neg_den]; exact ⟨rfl,rfl⟩
theorem zY9 {k:Nat} (h0:0 < k) (hk:k < 1000000):CTy prog 94 [exP (.int .i64 (-((k:Nat):Int)))] (ag (rtc 2 (-((k:Nat):Rat)))):=by
 refine ctc func94 rfl rfl rfl rfl fun X => (zI (zJ rfl (tal fun b2 => (zA0 (zI (zJ rfl (zA1 (omv rfl) (zA1 (oca rfl rfl fun _ => k5ofn (by omega) (by omega)) (zA1 (obs rfl rfl rfl rfl rfl rfl) ?_)))))))))
 refine zA1 (obd rfl rfl rfl) (tst 0 rfl rfl rfl rfl rfl rfl (zA0 (yF (⟨[_],rsc 0 rfl rfl rfl rfl rs0,yN ?_⟩))))
 rotate_left 1
 exact ps_int (zK8 k).1 (zK8 k).2 (Nat.le_refl _) (by omega)
theorem kpt {x y:Nat} (hx:x < 1000000) (hy:y < 1000000):CTy prog 32 [exP (.int .i64 ((x:Nat):Int)),exP (.int .i64 ((y:Nat):Int))] (ag (ptc 2 (((x:Nat):Rat),((y:Nat):Rat)))):=by
 refine ctc func32 rfl rfl rfl rfl fun X => (zI (zJ rfl (tal fun b4 => (zA0 (zI (zJ rfl (zA1 (omv rfl) (zA1 (omv rfl) (zA1 (oca rfl rfl fun _ => k8of (by omega) (by omega)) ?_)))))))))
 refine tst 0 rfl rfl rfl rfl rfl rfl (zA0 (yF (⟨[_],rsc 0 rfl rfl rfl rfl rs0,yN (PSub.refl _)⟩)))
theorem k8ofx {x y:Nat} (h0:0 < x) (hx:x < 1000000) (hy:y < 1000000):CTy prog 85 [exP (.int .i64 (-((x:Nat):Int))),exP (.int .i64 ((y:Nat):Int))] (ag (ptc 2 (-((x:Nat):Rat),((y:Nat):Rat)))):=by
 refine ctc func85 rfl rfl rfl rfl fun X => (zI (zJ rfl (tal fun b4 => (zA0 (zI (zJ rfl (zA1 (omv rfl) (zA1 (oca rfl rfl fun _ => zY9 (by omega) (by omega)) (zA1 (omv rfl) ?_)))))))))
 refine zA1 (oca rfl rfl fun _ => k7of (by omega)) ?_
 refine zA1 (obd rfl rfl rfl) (tst 0 rfl rfl rfl rfl rfl rfl (zA0 (yF (⟨[_],rsc 0 rfl rfl rfl rfl rs0,yN (PSub.refl _)⟩))))
theorem k8ofy {x y:Nat} (h0:0 < y) (hx:x < 1000000) (hy:y < 1000000):CTy prog 85 [exP (.int .i64 ((x:Nat):Int)),exP (.int .i64 (-((y:Nat):Int)))] (ag (ptc 2 (((x:Nat):Rat),-((y:Nat):Rat)))):=by
 refine ctc func85 rfl rfl rfl rfl fun X => (zI (zJ rfl (tal fun b4 => (zA0 (zI (zJ rfl (zA1 (omv rfl) (zA1 (oca rfl rfl fun _ => k7of (by omega)) (zA1 (omv rfl) ?_)))))))))
 refine zA1 (oca rfl rfl fun _ => zY9 (by omega) (by omega)) ?_
 refine zA1 (obd rfl rfl rfl) (tst 0 rfl rfl rfl rfl rfl rfl (zA0 (yF (⟨[_],rsc 0 rfl rfl rfl rfl rs0,yN (PSub.refl _)⟩))))
theorem kptx {x y:Nat} (h0:0 < x) (hx:x < 1000000) (hy:y < 1000000):CTy prog 32 [exP (.int .i64 (-((x:Nat):Int))),exP (.int .i64 ((y:Nat):Int))] (ag (ptc 2 (-((x:Nat):Rat),((y:Nat):Rat)))):=by
 refine ctc func32 rfl rfl rfl rfl fun X => (zI (zJ rfl (tal fun b4 => (zA0 (zI (zJ rfl (zA1 (omv rfl) (zA1 (omv rfl) (zA1 (oca rfl rfl fun _ => k8ofx (by omega) (by omega) (by omega)) ?_)))))))))
 refine tst 0 rfl rfl rfl rfl rfl rfl (zA0 (yF (⟨[_],rsc 0 rfl rfl rfl rfl rs0,yN (PSub.refl _)⟩)))
theorem kpty {x y:Nat} (h0:0 < y) (hx:x < 1000000) (hy:y < 1000000):CTy prog 32 [exP (.int .i64 ((x:Nat):Int)),exP (.int .i64 (-((y:Nat):Int)))] (ag (ptc 2 (((x:Nat):Rat),-((y:Nat):Rat)))):=by
 refine ctc func32 rfl rfl rfl rfl fun X => (zI (zJ rfl (tal fun b4 => (zA0 (zI (zJ rfl (zA1 (omv rfl) (zA1 (omv rfl) (zA1 (oca rfl rfl fun _ => k8ofy (by omega) (by omega) (by omega)) ?_)))))))))
 refine tst 0 rfl rfl rfl rfl rfl rfl (zA0 (yF (⟨[_],rsc 0 rfl rfl rfl rfl rs0,yN (PSub.refl _)⟩)))
abbrev wkT:List P2:=[(((0:Nat):Rat),((0:Nat):Rat)),(((2:Nat):Rat),((0:Nat):Rat)),(((1:Nat):Rat),((0:Nat):Rat)),(((0:Nat):Rat),((2:Nat):Rat))]
abbrev wkH:List P2:=[(((0:Nat):Rat),((0:Nat):Rat)),(((2:Nat):Rat),((0:Nat):Rat)),(((0:Nat):Rat),((2:Nat):Rat))]
abbrev wkE:List P2:=[(((0:Nat):Rat),((0:Nat):Rat)),(((1:Nat):Rat),((0:Nat):Rat))]
abbrev wkS:List P2:=[(((0:Nat):Rat),((0:Nat):Rat)),(((3:Nat):Rat),((0:Nat):Rat)),(((1:Nat):Rat),((2:Nat):Rat)),(((0:Nat):Rat),((2:Nat):Rat))]
theorem mL {l m h:List P2} (h1:m.Pairwise fun a b => cmpP a b < 0) (h2:∀ x,x ∈ m ↔ x ∈ l) (h3:qT m = h):hullF l = h:=by
 unfold hullF; rw [← IsSet.eq aO ⟨h1,h2⟩,h3]
theorem wK:hullF wkT = wkH:=mL (m:=[(0,0),(0,2),(1,0),(2,0)]) (by decide) (fun x => by simp; grind) (by decide +kernel)
theorem wk_sum:sumF wkH wkE = wkS:=mL (m:=[(0,0),(0,2),(1,0),(1,2),(2,0),(3,0)]) (by decide) (fun x => by simp [qN,addP]; grind) (by decide +kernel)
abbrev wkF:List P2:=[(((0:Nat):Rat),((0:Nat):Rat)),(-((2:Nat):Rat),((0:Nat):Rat)),(((0:Nat):Rat),-((2:Nat):Rat))]
theorem wk_flip:wkH.map negP = wkF:=by decide
theorem rQ {Ψ:PV} {l:List P2} {n:Nat} [h:VPt Ψ n l] (hn:n ≤ 300) (hl:l.length ≤ 100):CTy prog 24 [Ψ] (sv (sl 6 ((l.map negP).map (ptc (n + 5))))):=gS (kmflip hn hl) (fs1 iF fs0)
theorem zX5:CTy prog 12 [] (exP (.bool true)):=by
 have hs:(hullF wkT).length ≤ 100:=by rw [wK]; decide
 refine ctc func12 rfl rfl rfl rfl fun X => (zI (zJ rfl (zA1 (oas rfl) (zA0 (zI (zJ rfl (zA1 (oca rfl rfl fun _ => kpt (x:=0) (y:=0) (by omega) (by omega)) (zA1 (oca rfl rfl fun _ => kpt (x:=2) (y:=0) (by omega) (by omega)) (zA1 (oca rfl rfl fun _ => kpt (x:=1) (y:=0) (by omega) (by omega)) ?_)))))))))
 refine zA1 (oca rfl rfl fun _ => kpt (x:=0) (y:=2) (by omega) (by omega)) (zA1 (mI (obs rfl rfl rfl rfl rfl rfl) (ps_p (show _ = sv (sl 6 (wkT.map (ptc 2))) from rfl))) (zA1 (oca rfl rfl fun _ => oE (l:=wkT) (by omega) (by (simp; done))) (zA1 (oas rfl) (zA0 (zI (zJ rfl (zA1 (omv rfl) (zA1 (oca rfl rfl fun _ => kpt (x:=0) (y:=0) (by omega) (by omega)) (zA1 (oca rfl rfl fun _ => kpt (x:=1) (y:=0) (by omega) (by omega)) ?_)))))))))
 refine zA1 (mI (obs rfl rfl rfl rfl rfl rfl) (ps_p (show _ = sv (sl 6 (wkE.map (ptc 2))) from rfl))) (zA1 (oca rfl rfl fun _ => ksum (b:=wkE) (by omega) (by omega) (by omega) (by (simp; done))) (zA1 (oas rfl) (zA0 (zI (zJ rfl (zA1 (omv rfl) (zA1 (oca rfl rfl fun _ => kpt (x:=0) (y:=0) (by omega) (by omega)) (zA1 (oca rfl rfl fun _ => kpt (x:=2) (y:=0) (by omega) (by omega)) (zA1 (oca rfl rfl fun _ => kpt (x:=0) (y:=2) (by omega) (by omega)) ?_)))))))))
 refine zA1 (mI (obs rfl rfl rfl rfl rfl rfl) (ps_p (show _ = sv (sl 6 (wkH.map (ptc 2))) from rfl))) (zA1 (oca rfl rfl fun _ => mK (by omega) (by omega)) (zA1 (omv rfl) (t1g rfl rfl (omv rfl) (t1g rfl rfl (oca rfl rfl fun _ => kpt (x:=0) (y:=0) (by omega) (by omega)) (t1g rfl rfl (oca rfl rfl fun _ => kpt (x:=3) (y:=0) (by omega) (by omega)) (t1g rfl rfl (oca rfl rfl fun _ => kpt (x:=1) (y:=2) (by omega) (by omega)) (t1g rfl rfl (oca rfl rfl fun _ => kpt (x:=0) (y:=2) (by omega) (by omega)) (t1g rfl rfl (mI (obs rfl rfl rfl rfl rfl rfl) (ps_p (show _ = sv (sl 6 (wkS.map (ptc 2))) from rfl))) (t1g rfl rfl (oca rfl rfl fun g => mK (by omega) (by omega)) ?_)))))))))
 refine zA1 (opk rfl rfl rfl) (zA1 (omv rfl) (t1g rfl rfl (omv rfl) (t1g rfl rfl (oca rfl rfl fun g => rQ (by omega) (by omega)) (t1g rfl rfl (oca rfl rfl fun _ => kpt (x:=0) (y:=0) (by omega) (by omega)) (t1g rfl rfl (oca rfl rfl fun _ => kptx (x:=2) (y:=0) (by omega) (by omega) (by omega)) (t1g rfl rfl (oca rfl rfl fun _ => kpty (x:=0) (y:=2) (by omega) (by omega) (by omega)) (t1g rfl rfl (mI (obs rfl rfl rfl rfl rfl rfl) (ps_p (show _ = sv (sl 6 (wkF.map (ptc 2))) from rfl))) (t1g rfl rfl (oca rfl rfl fun g => mK (by omega) (by omega)) (zA1 (opk rfl rfl rfl) ?_)))))))))
 refine zA1 (oas rfl) (zA0 (yF (⟨[_],rst rfl rs0,yN ?_⟩)))
 refine psb ?_
 rotate_left 1
 rw [wK,wk_sum,wk_flip]; simp
end Go.Proofs.YtflobagimodmgaaGreatDoor
set_option maxHeartbeats 4000000
namespace Go.Proofs.YtflobagimodmgaaGreatDoor
open Go.SL Go.RowKit Go.Proofs Tryz
theorem zX1 {n:Nat} {l:List PX} (h:∀ a ∈ l,big2 a ≤ n):PSub (sv (pcx l)) (sv (pcs n (l.map px))):=fun M w v k => by
 unfold pcx pcs at *
 rw [List.map_map]
 exact zV3 (f:=ptx) (g:=ptq n ∘ px) (fun a ha _ _ _ => by
  have:=h a ha
  unfold big2 m4 at this
  dsimp only at this
  exact zW8 a (by omega) (by omega) (by omega) (by omega)) (fun _ => rfl) k
theorem rU {l:List PX} (h:Tr (gr18 l = false)):l.length ≤ 8 ∧ ∀ a ∈ l,big2 a ≤ 2:=by
 have h:=h.h
 unfold gr18 at h
 rw [Bool.or_eq_false_iff,decide_eq_false_iff_not,List.any_eq_false] at h
 exact ⟨by omega,fun a ha => by have:=h.2 a ha; simp only [decide_eq_true_eq] at this; omega⟩
end Go.Proofs.YtflobagimodmgaaGreatDoor
set_option maxHeartbeats 4000000
namespace Go.Proofs.YtflobagimodmgaaGreatDoor
open Go.SL Go.RowKit Go.Proofs Tryz
theorem sum_len' (a b:List P2):(sumF a b).length ≤ a.length + b.length:=by
 by_cases ha:a = []
 ·rw [rA.2 (.inl ha)]; simp
 by_cases hb:b = []
 ·rw [rA.2 (.inr hb)]; simp
 exact sumF_len ha hb
end Go.Proofs.YtflobagimodmgaaGreatDoor
set_option maxHeartbeats 4000000
namespace Go.SL
open Go.RowKit
section arr
variable {P : Program} {r : Option Nat} {N : Nat} {all : Array Oper} {K : Pd} {D : List Deferred} {E : Env} {w : World} {rest : List Oper}
theorem ops_idxarr {d len sz bytes b o:Nat} {x ix:Operand} {t e t':TypeId} {pos:String} {af:Array Edge} {z:Value} {k:IntKind} {i:Int} (j:Nat) (hd:Nat.blt d N = true) (ht:P.underlying t = some (.array len e)) (he:Sz P e sz bytes z)
  (hx:ev E x = some (.pointer (some ⟨b,o,none⟩))) (hi:ev E ix = some (.int k i)) (hij:i = (j:Int)) (hj:j < len) (h:Ops P r N all K rest D ((d,.pointer (some ⟨b,o + j * sz,none⟩)) :: E) w) :
  Ops P r N all K (⟨some d,.indexAddr t x ix,t',pos,af,none⟩ :: rest) D E w:=by
 refine yY hd (by intro c hc; cases hc) (fun a ha => ?_) h
 have e1:(Instr.indexAt t (.pointer (some ⟨b,o,none⟩)) (.int k i)).run P w = .ok (.pointer (some ⟨b,o + j * sz,none⟩)) w:=by
  subst hij
  simp [Instr.indexAt,Instr.sureAddr,asIntOf,run_underlying ht,Result.andThen,gO he,hj,jV]
 simp only [execOp,ha.ev hx,ha.ev hi,Sem.run_bind,e1,Result.andThen]; rfl
theorem ops_slicea {d len sz bytes b o:Nat} {x:Operand} {t e t':TypeId} {pos:String} {af:Array Edge} {z:Value} (hd:Nat.blt d N = true) (ht:P.underlying t = some (.array len e)) (he:Sz P e sz bytes z)
  (hx:ev E x = some (.pointer (some ⟨b,o,none⟩))) (h:Ops P r N all K rest D ((d,.slice (some ⟨b,o,none⟩) len len) :: E) w) :
  Ops P r N all K (⟨some d,.slice t x none none none,t',pos,af,none⟩ :: rest) D E w:=by
 refine yY hd (by intro c hc; cases hc) (fun a ha => ?_) h
 have e1:(Instr.sliceAt t (.pointer (some ⟨b,o,none⟩)) none none none).run P w = .ok (.slice (some ⟨b,o,none⟩) len len) w:=by
  have e2:(Instr.sliceBounds false len len none none none).run P w = .ok (0,len,len) w:=rfl
  have e3:(if len = 0 then (⟨b,o,none⟩:Addr) else (⟨b,o,none⟩:Addr).add (0 * sz)) = ⟨b,o,none⟩:=by
   split
   ·rfl
   ·rw [Nat.zero_mul,jV]; rfl
  simp only [Instr.sliceAt,Sem.run_bind,run_underlying ht,Result.andThen,Instr.sureAddr,Sem.run_pure,e2,gO he,e3,Nat.sub_zero]
 simp only [execOp,ha.ev hx,Option.map_none,Sem.run_bind,e1,Result.andThen]; rfl
end arr
class TAr (P:Program) (t:TypeId) (len sz:outParam Nat):Prop where
 h:∃ e z z' bytes bytes',P.underlying t = some (.array len e) ∧ Sz P e sz bytes z ∧ Sz P t (len * sz) bytes' z' ∧ z'.cells.size = len * sz
theorem oia {P:Program} {r:Option Nat} {N:Nat} {Γ:TE} {S:List Ow} {ops:Array Oper} {M:Nat → Prop} {p qx qi:Prop} {Ψi:PV} {d len sz:Nat} {x ix:Operand} {t t':TypeId} {pos:String} {af:Array Edge} {l:List CT} {c:CT} {ki:IntKind} {i:Int} (j:Nat) (hx:tv Γ x = some (qx,pa (st l))) (hi:tv Γ ix = some (qi,Ψi)) [Im p qx] [Im p qi]
  [ht:TAr P t len sz] [hki:VI Ψi ki i] (hij:i = (j:Int)) (hj:Nat.blt j len = true) (ha:lF l (j * sz) = some c):Ob P r N ops M S p ⟨some d,.indexAddr t x ix,t',pos,af,none⟩ Γ (pa c) :=
 ob2 hx hi (by simp [Op.operands]) (by simp [Op.operands]) fun D E w u v hN hg e1 e2 ⟨b,o,us,e,h1,h2,h3⟩ h4 => by
  subst e
  obtain ⟨el,z,z',bytes,bytes',k1,k2,k3,k4⟩:=ht.h
  rw [hki.h h4] at e2
  exact ops_idxarr j hN k1 k2 e1 e2 hij (by simpa [Nat.blt_eq] using hj) (fin ⟨b,o + j * sz,_,rfl,h1,h2.sub (j * sz) c.sz,kY h3 ha⟩)
theorem osa {P:Program} {r:Option Nat} {N:Nat} {Γ:TE} {S:List Ow} {ops:Array Oper} {M:Nat → Prop} {p qx:Prop} {d len sz:Nat} {x:Operand} {t t':TypeId} {pos:String} {af:Array Edge} {l:List CT} (hx:tv Γ x = some (qx,pa (st l))) [Im p qx]
  [ht:TAr P t len sz] (hl:Nat.beq l.length len = true) (hs:(l.all fun c => Nat.beq c.sz sz) = true) (hm:Nat.ble len 1000 = true):Ob P r N ops M S p ⟨some d,.slice t x none none none,t',pos,af,none⟩ Γ (sv (sl sz l)) :=
 ob1 hx (by simp [Op.operands]) fun D E w u hN hg e1 ⟨b,o,us,e,h1,h2,h3⟩ => by
  subst e
  obtain ⟨el,z,z',bytes,bytes',k1,k2,k3,k4⟩:=ht.h
  have hl:=Nat.eq_of_beq_eq_true hl
  have hall:aJ sz l:=fun c hc => Nat.eq_of_beq_eq_true (List.all_eq_true.1 hs c hc)
  have hlen:=kT h3
  rw [iI hall] at hlen
  have hm:=Nat.le_of_ble_eq_true hm
  refine ops_slicea hN k1 k2 e1 (fin ⟨_,us,rfl,⟨hlen,by omega,_,len,by rw [hl],by omega,.inr ⟨b,o,rfl,h1,h2⟩⟩,h3,hall⟩)
end Go.SL
namespace Go.Proofs.YtflobagimodmgaaGreatDoor
open Go.SL Go.RowKit Go.Proofs Tryz
instance:TAr prog 47 3 6:=⟨_,_,_,_,_,underlying47,sz35,sz47,rfl⟩
end Go.Proofs.YtflobagimodmgaaGreatDoor
set_option maxHeartbeats 4000000
namespace Go.Proofs.YtflobagimodmgaaGreatDoor
open Go.SL Go.RowKit Go.Proofs Tryz
theorem cp_q {c:CT} {n:Nat} {q:P2} [h:CP c n q] {M:Nat → Prop} {w:World} {us:List Value} (k:c.p M w us):(ptq n q).p M w us:=by
 obtain ⟨us',e,k'⟩:=qp_q (Ψ:=ag c) (n:=n) (q:=q) M w (.agg us.toArray) ⟨us,rfl,k⟩
 have:us = us':=by simpa using e
 rw [this]; exact k'
theorem tri_q {c1 c2 c3:CT} {m:Nat} {a b c:P2} [h1:CP c1 m a] [h2:CP c2 m b] [h3:CP c3 m c]:PSub (ag (st [c1,c2,c3])) (ag (st [ptq m a,ptq m b,ptq m c])):=fun M w v ⟨us,e,x,y,e1,k1,x2,y2,e2,k2,x3,y3,e3,k3,k4⟩ =>
 ⟨us,e,x,y,e1,cp_q k1,x2,y2,e2,cp_q k2,x3,y3,e3,cp_q k3,k4⟩
theorem k18corn {n:Nat} {a b c:P2}:CTy prog 28 [ag (st [ptq n a,ptq n b,ptq n c])] (sv (sl 6 ([a,b,c].map (ptq n)))):=by
 refine ctc func28 rfl rfl rfl rfl fun X => (zI (zJ rfl (zA1 (obx rfl) (zA1 (oas rfl) (zA0 (zI (zJ rfl (zA1 (oia 0 rfl rfl rfl rfl rfl) (zA1 (old rfl rfl) ?_)))))))))
 refine zA1 (oia 1 rfl rfl rfl rfl rfl) (zA1 (old rfl rfl) (zA1 (oia 2 rfl rfl rfl rfl rfl) (zA1 (old rfl rfl) (zA1 (obs rfl rfl rfl rfl rfl rfl) (zA1 (oas rfl) (zA0 (yF (⟨[_],rst rfl rs0,yN (PSub.refl _)⟩))))))))
theorem zT2 {l:List P2} {a b c:P2} {n m:Nat} (hn:n ≤ 200) (hm:m ≤ 200) (hl:l.length ≤ 90):CTy prog 29 [sv (sl 6 (l.map (ptq n))),ag (st [ptq m a,ptq m b,ptq m c])] (sv (sl 6 ((sumF [a,b,c] (l.map negP)).map (ptc (m + (n + 5) + 4))))):=by
 have h3:([a,b,c]:List P2).length ≤ 100:=by simp
 have h4:(l.map negP).length ≤ 100:=by rw [List.length_map]; omega
 refine ctc func29 rfl rfl rfl rfl fun X => (zI (zJ rfl (zA1 (obx rfl) (zA1 (oas rfl) (zA0 (zI (xH 5 mixed rfl rfl (d1 (mI (osa rfl rfl rfl rfl) (show PSub _ (sv (sl 6 ([a,b,c].map (ptq m)))) from PSub.refl _)) (d1 (omv rfl) ?_)))))))))
 refine d1 (oca rfl rfl fun _ => rQ (by omega) (by omega)) (d1 (oca rfl rfl fun _ => ksum (by omega) (by omega) (by omega) (by omega)) (d1 (oas rfl) (d0 (zA0 (yF (⟨[_],rst rfl rs0,yN (PSub.refl _)⟩))))))
theorem zR4 {d:PX} {n:Nat} (h:big2 d ≤ n) {M:Nat → Prop} {w:World} {us:List Value} (k:(ptx d).p M w us):(ptq n (px d)).p M w us:=by
 unfold big2 m4 at h
 dsimp only at h
 exact zW8 d (by omega) (by omega) (by omega) (by omega) k
theorem trx_c {a b c:PX} {n:Nat} (h1:big2 a ≤ n) (h2:big2 b ≤ n) (h3:big2 c ≤ n):∀ M w us,(st [ptx a,ptx b,ptx c]).p M w us → (st [ptq n (px a),ptq n (px b),ptq n (px c)]).p M w us:=fun M w us ⟨x,y,e1,k1,x2,y2,e2,k2,x3,y3,e3,k3,k4⟩ =>
 ⟨x,y,e1,zR4 h1 k1,x2,y2,e2,zR4 h2 k2,x3,y3,e3,zR4 h3 k3,k4⟩
theorem k18cornc {c1 c2 c3:CT} {m:Nat} {a b c:P2} [h1:CP c1 m a] [h2:CP c2 m b] [h3:CP c3 m c]:CTy prog 28 [ag (st [c1,c2,c3])] (sv (sl 6 ([a,b,c].map (ptq m)))):=gS k18corn (fs1 tri_q fs0)
end Go.Proofs.YtflobagimodmgaaGreatDoor
set_option maxHeartbeats 4000000
namespace Go.Proofs.YtflobagimodmgaaGreatDoor
open Go.SL Go.RowKit Go.Proofs Tryz
abbrev TX3:=PX × PX × PX
def trx (t:TX3):CT:=st [ptx t.1,ptx t.2.1,ptx t.2.2]
def trl (t:TX3):List PX:=[t.1,t.2.1,t.2.2]
instance:Df TX3:=⟨(Df.d,Df.d,Df.d)⟩
theorem k18cornx {a b c:PX}:CTy prog 28 [ag (st [ptx a,ptx b,ptx c])] (sv (pcx [a,b,c])):=by
 refine ctc func28 rfl rfl rfl rfl fun X => (zI (zJ rfl (zA1 (obx rfl) (zA1 (oas rfl) (zA0 (zI (zJ rfl (zA1 (oia 0 rfl rfl rfl rfl rfl) (zA1 (old rfl rfl) ?_)))))))))
 refine zA1 (oia 1 rfl rfl rfl rfl rfl) (zA1 (old rfl rfl) (zA1 (oia 2 rfl rfl rfl rfl rfl) (zA1 (old rfl rfl) (zA1 (obs rfl rfl rfl rfl rfl rfl) (zA1 (oas rfl) (zA0 (yF (⟨[_],rst rfl rs0,yN (PSub.refl _)⟩))))))))
def pG (l:List TX3):Bool:=decide (8 < l.length) || l.any fun t => gr18 (trl t)
theorem gtris_at {l:List TX3} {i:Nat} (h:i < l.length) (k:gr18 (trl (l.getD i Df.d)) = true):pG l = true:=by
 rw [List.getD_eq_getElem?_getD,List.getElem?_eq_getElem h,Option.getD_some] at k
 unfold pG; rw [Bool.or_eq_true]
 exact .inr (List.any_eq_true.2 ⟨_,List.getElem_mem h,k⟩)
theorem kgtris {l:List TX3}:CTy prog 27 [sv (sl 18 (l.map trx))] (exP (.bool (pG l))):=by
 refine ctc func27 rfl rfl rfl rfl fun X => (zI (zJ rfl (zA1 (oas rfl) (zA0 (zI (zI (zJ rfl (zA1 (oas rfl) (zA0 ?_)))))))))
 refine yJ ?_
 rotate_left 1
 refine jJ (σ:=Nat) (fun i => [(3,True,exP (.int .i64 ((i:Nat):Int)))]) (fun i => []) (fun i => i ≤ l.length ∧ i ≤ 9 ∧ ∀ j,j < i → gr18 (trl (l.getD j Df.d)) = false) (fun i => l.length - i) (0) (tk 0 rfl tn) ?_ rfl (⟨by omega,by omega,by omega⟩) (fun i hJ Y _ => ?_)
 refine tc rfl (ps_r _) (tn)
 rotate_left 1
 obtain ⟨hi,h9,hs⟩:=hJ
 refine zI (zI (zJ rfl (zA1 (omv rfl) (zA1 (omv rfl) (zA1 (oln rfl) (zA1 (olt rfl rfl) (zA1 (omv rfl) (t1g rfl rfl (omv rfl) (t1g rfl rfl (ole rfl rfl) ?_)))))))))
 refine zA1 (opk rfl rfl rfl) (zA0 ?_)
 refine t_if rfl (fun c0 => ?_) (fun c0 => ?_)
 refine yV (zI (yJ (zI (zJ rfl (zA1 (omv rfl) (zA1 (omv rfl) (zA1 (oix _ rfl rfl rfl (fun _ => rfl) (fun _ => (by (have e0:=dand c0; omega)))) (zA1 (old rfl rfl) (zA1 (oca rfl rfl fun _ => k18cornx) ?_)))))))))
 refine zA1 (oca rfl rfl fun _ => kg18) (zA0 ?_)
 refine t_if rfl (fun c1 => ?_) (fun c1 => ?_)
 refine zI (zJ rfl (zA1 (oas rfl) (zA0 (yF (⟨[_],rst rfl rs0,yN ?_⟩)))))
 refine psb ?_
 rotate_left 1
 refine yV (zJ rfl (zA1 (omv rfl) (zA1 (oad rfl rfl (by omega)) (zA1 (oas rfl) (zA0 ?_)))))
 rotate_left 1
 refine jK (zI (zJ rfl (zA1 (omv rfl) (zA1 (oln rfl) (zA1 (ogt rfl rfl) (zA1 (oas rfl) (zA0 (yF (⟨[_],rst rfl rs0,yN ?_⟩)))))))))
 refine psb ?_
 rotate_left 1
 ·have:=dand c0
  exact (gtris_at (i:=i) (by omega) c1.h).symm
 ·have:=dand c0
  refine ⟨i + 1,tes ?_ ?_ (List.Sublist.refl _),?_,(by omega)⟩
  refine tc rfl (ps_r _) (tn)
  refine tc rfl (ps_r _) (tn)
  rotate_left 1
  refine ⟨by omega,by omega,fun j hj => ?_⟩
  rcases Nat.lt_or_ge j i with c | c
  ·exact hs j c
  ·rw [show j = i by omega]; exact c1.h
 ·have:=dor c0
  unfold pG
  rw [Bool.eq_iff_iff,Bool.or_eq_true,decide_eq_true_eq,decide_eq_true_eq,List.any_eq_true]
  refine ⟨fun h => .inl (by omega),fun h => ?_⟩
  rcases h with h | ⟨a,ha,h⟩
  ·omega
  ·obtain ⟨k,hk,rfl⟩:=List.mem_iff_getElem.1 ha
   rcases Nat.lt_or_ge k i with c | c
   ·have h2:=hs k c
    rw [List.getD_eq_getElem?_getD,List.getElem?_eq_getElem hk,Option.getD_some,h] at h2
    cases h2
   ·omega
theorem gtris_no {l:List TX3} (h:pG l = false):l.length ≤ 8 ∧ ∀ t ∈ l,gr18 (trl t) = false:=by
 unfold pG at h
 rw [Bool.or_eq_false_iff,decide_eq_false_iff_not,List.any_eq_false] at h
 exact ⟨by omega,fun t ht => by simpa using h.2 t ht⟩
end Go.Proofs.YtflobagimodmgaaGreatDoor
set_option maxHeartbeats 4000000
namespace Go.Proofs.YtflobagimodmgaaGreatDoor
open Go.SL Go.RowKit Go.Proofs Tryz
theorem zY8 {Ψ:PV} {p:Rat} {n:Nat} [h:QR Ψ n p] (hn:n ≤ 900):CTy prog 202 [Ψ] (ag (rtc (n + 5) (absR p))):=by
 refine gS (σs:=[ag (rtq n p)]) ?_ (fs1 qr_q fs0)
 refine ctc func202 rfl rfl rfl rfl fun X => (zI (zJ rfl (zA1 (obx rfl) (tal fun b2 => (zA0 (zI (zI (zJ rfl (zA1 (old rfl rfl) ?_)))))))))
 refine zA1 (oca rfl rfl fun _ => zT7 (by omega)) (zA1 (olt rfl rfl) (zA0 ?_))
 refine t_if rfl (fun c0 => ?_) (fun c0 => ?_)
 refine zI (xH 3 mixed rfl rfl (d1 (oca rfl rfl fun _ => k7of (by (simp; done))) (d1 (old rfl rfl) (d1 (oca rfl rfl fun _ => zL7 (by omega) (by omega)) (d0 (tst 0 rfl rfl rfl rfl rfl rfl (zA0 (yF (⟨[_],rsc 0 rfl rfl rfl rfl rs0,yN ?_⟩)))))))))
 rotate_left 1
 refine yV (zI (zJ rfl (zA1 (old rfl rfl) (zA1 (oca rfl rfl fun _ => eQ (by omega)) (tst 0 rfl rfl rfl rfl rfl rfl (zA0 (yF (⟨[_],rsc 0 rfl rfl rfl rfl rs0,yN ?_⟩))))))))
 rotate_left 1
 ·have h:=eZ.1 (dt c0)
  exact nP (by omega) (by unfold absR; rw [if_pos h]; grind)
 ·have h:¬ p < 0:=fun k => df c0 (eZ.2 k)
  exact nP (by omega) (by unfold absR; rw [if_neg h])
theorem k20turn {Ψ Φ Θ:PV} {a b c:P2} {n m k:Nat} [h1:QP Ψ n a] [h2:QP Φ m b] [h3:QP Θ k c] (hn:n ≤ 90) (hm:m ≤ 90) (hk:k ≤ 90):CTy prog 144 [Ψ,Φ,Θ] (exP (.int .i64 (sgnR (trn a b c)))):=by
 refine gS (σs:=[ag (ptq n a),ag (ptq m b),ag (ptq k c)]) ?_ (fs1 qp_q (fs1 qp_q (fs1 qp_q fs0)))
 refine ctc func144 rfl rfl rfl rfl fun X => (zI (zJ rfl (zA1 (obx rfl) (zA1 (obx rfl) (zA1 (obx rfl) (zA1 (oas rfl) (zA0 (zI (xH 9 mixed rfl rfl ?_)))))))))
 refine d1 (old rfl rfl) (d1 (old rfl rfl) (d1 (oca rfl rfl fun _ => rR (by omega) (by omega)) (d1 (old rfl rfl) (d1 (old rfl rfl) (d1 (oca rfl rfl fun _ => rR (by omega) (by omega)) (d1 (oca rfl rfl fun _ => k8cross (by omega) (by omega)) (d1 (oca rfl rfl fun _ => zT7 (by omega)) (d1 (oas rfl) (d0 ?_)))))))))
 refine zA0 (yF (⟨[_],rst rfl rs0,yN (PSub.refl _)⟩))
theorem zY6 {Ψ Φ:PV} {a b:P2} {n m:Nat} [h1:QP Ψ n a] [h2:QP Φ m b] (hn:n ≤ 90) (hm:m ≤ 90):CTy prog 145 [Ψ,Φ] (ag (rtc (2 * (n + m + 8) + 8) (farP a b))):=by
 refine gS (σs:=[ag (ptq n a),ag (ptq m b)]) ?_ (fs1 qp_q (fs1 qp_q fs0))
 refine ctc func145 rfl rfl rfl rfl fun X => (zI (zJ rfl (zA1 (obx rfl) (zA1 (obx rfl) (tal fun b4 => (zA0 (zI (zJ rfl (zA1 (old rfl rfl) ?_)))))))))
 refine zA1 (old rfl rfl) (zA1 (oca rfl rfl fun _ => rR (by omega) (by omega)) (tal fun b5 => (tst 0 rfl rfl rfl rfl rfl rfl (uZ (uQ (s:=5) 0 rfl rfl) (zA0 (zI (xH 8 mixed rfl rfl (d1 (ofa rfl rfl) (d1 (old rfl rfl) ?_)))))))))
 refine d1 (oca rfl rfl fun _ => zY8 (by omega)) (d1 (ofa rfl rfl) (d1 (old rfl rfl) (d1 (oca rfl rfl fun _ => zY8 (by omega)) (d1 (obs rfl rfl rfl rfl rfl rfl) (d1 (oca rfl rfl fun _ => zL8 (by omega)) (d0 (tst 0 rfl rfl rfl rfl rfl rfl (zA0 (yF ?_)))))))))
 refine ⟨[_],rsc 0 rfl rfl rfl rfl rs0,yN ?_⟩
 rotate_left 1
 exact nP (by omega) rfl
theorem k20next {l:List P2} {a:P2} {n:Nat} (hn:n ≤ 90) (hl:l.length ≤ 1000):CTy prog 88 [sv (sl 6 (l.map (ptc n))),ag (ptc n a)] (ag (ptc n (eI l a))):=by
 refine ctc func88 rfl rfl rfl rfl fun X => (zI (zJ rfl (zA1 (obx rfl) (tal fun b4 => (zA0 (zI (zJ rfl (zA1 (old rfl rfl) (tal fun b5 => ?_)))))))))
 refine tst 0 rfl rfl rfl rfl rfl rfl (zA0 (zI (zI (zJ rfl (zA1 (oas rfl) (zA0 (yJ ?_)))))))
 rotate_left 1
 have step:∀ i,i < l.length → (l.take (i + 1)).foldl (uH a) a = uH a ((l.take i).foldl (uH a) a) (gp l i):=fun i hi => by
  rw [(xG (Df.d:P2) hi).1,List.foldl_append]; rfl
 refine jJ (σ:=Nat) (fun i => [(6,True,exP (.int .i64 ((i:Nat):Int)))]) (fun i => [.blk b5 35 [ptc n ((l.take i).foldl (uH a) a)],.blk b4 35 (zc (.agg #[.bool false,.slice none 0 0,.slice none 0 0,.bool false,.slice none 0 0,.slice none 0 0]))]) (fun i => i ≤ l.length) (fun i => l.length - i) (0) (tk 0 rfl (tk 3 rfl (tk 4 rfl (tk 5 rfl tn)))) ?_ rfl ((by simp)) (fun i hJ Y _ => ?_)
 refine tc rfl (ps_r _) (tn)
 rotate_left 1
 generalize hb:(l.take i).foldl (uH a) a = best
 refine zI (zI (zJ rfl (zA1 (omv rfl) (zA1 (omv rfl) (zA1 (oln rfl) (zA1 (olt rfl rfl) (zA0 ?_)))))))
 refine t_if rfl (fun c0 => ?_) (fun c0 => ?_)
 refine yV (zI (yJ (zI (zI (xH 6 mixed rfl rfl (d1 (omv rfl) (d1 (omv rfl) (d1 (oix _ rfl rfl rfl (fun _ => rfl) (fun _ => (by (have e0:=dt c0; omega)))) (d1 (old rfl rfl) ?_)))))))))
 refine d1 (old rfl rfl) (d1 (oca rfl rfl fun _ => mT (by omega) (by omega)) (d0 (zA0 ?_)))
 refine t_if rfl (fun c1 => ?_) (fun c1 => ?_)
 refine jK (zJ rfl (zA1 (omv rfl) (zA1 (oad rfl rfl (by omega)) (zA1 (oas rfl) (zA0 ?_)))))
 rotate_left 1
 refine yV (zI (zI (zJ rfl (zA1 (oldo 0 rfl rfl rfl rfl) (zA1 (old rfl rfl) (zA1 (oca rfl rfl fun _ => mT (by omega) (by omega)) (zA0 ?_)))))))
 refine t_if rfl (fun c2 => ?_) (fun c2 => ?_)
 refine zI (zJ rfl (zA1 (omv rfl) (zA1 (omv rfl) (zA1 (oix _ rfl rfl rfl (fun _ => rfl) (fun _ => (by (have e0:=dt c0; have e1:=df c1; have e2:=dt c2; omega)))) (zA1 (old rfl rfl) (tst 0 rfl rfl rfl rfl rfl rfl (zA0 (jK (zJ rfl ?_)))))))))
 refine zA1 (omv rfl) (zA1 (oad rfl rfl (by omega)) (zA1 (oas rfl) (zA0 ?_)))
 rotate_left 1
 refine yV (zI (xH 8 mixed rfl rfl (d1 (old rfl rfl) (d1 (oldo 0 rfl rfl rfl rfl) (d1 (omv rfl) (d1 (omv rfl) (d1 (oix _ rfl rfl rfl (fun _ => rfl) (fun _ => (by (have e0:=dt c0; have e1:=df c1; have e2:=df c2; omega)))) (d1 (old rfl rfl) (d1 (oca rfl rfl fun _ => k20turn (by omega) (by omega) (by omega)) ?_)))))))))
 refine d1 (oas rfl) (d0 (zA0 (zI (xH 19 mixed rfl rfl (d1 (omv rfl) (d1 (olt rfl rfl) (d1 (omv rfl) (d1g rfl rfl (omv rfl) (d1g rfl rfl (oeq rfl rfl) ?_)))))))))
 refine d1g rfl rfl (omv rfl) (d1g rfl rfl (old rfl rfl) (d1g rfl rfl (oldo 0 rfl rfl rfl rfl) (d1g rfl rfl (oca rfl rfl fun g => zY6 (by omega) (by omega)) (d1g rfl rfl (old rfl rfl) (d1g rfl rfl (omv rfl) (d1g rfl rfl (omv rfl) (d1g rfl rfl (oix _ rfl rfl rfl (fun g => rfl) (fun g => (by (have e0:=dt c0; have e1:=df c1; have e2:=df c2; omega)))) (d1g rfl rfl (old rfl rfl) (d1g rfl rfl (oca rfl rfl fun g => zY6 (by omega) (by omega)) ?_)))))))))
 refine d1g rfl rfl (oca rfl rfl fun g => k7cmp (by omega) (by omega)) (d1g rfl rfl (olt rfl rfl) (d1g rfl rfl (opk rfl rfl rfl) (d1 (opk rfl rfl rfl) (d0 (zA0 ?_)))))
 refine t_if rfl (fun c3 => ?_) (fun c3 => ?_)
 refine zJ rfl (zA1 (omv rfl) (zA1 (omv rfl) (zA1 (oix _ rfl rfl rfl (fun _ => rfl) (fun _ => (by (have e0:=dt c0; have e1:=df c1; have e2:=df c2; omega)))) (zA1 (old rfl rfl) (tst 0 rfl rfl rfl rfl rfl rfl (zA0 (zJ rfl (zA1 (omv rfl) (zA1 (oad rfl rfl (by omega)) ?_)))))))))
 refine zA1 (oas rfl) (zA0 ?_)
 rotate_left 1
 refine yV (zJ rfl (zA1 (omv rfl) (zA1 (oad rfl rfl (by omega)) (zA1 (oas rfl) (zA0 ?_)))))
 rotate_left 1
 refine jK (zI (zJ rfl (zA1 (oldo 0 rfl rfl rfl rfl) (tst 1 rfl rfl rfl rfl rfl rfl (zA0 (yF (⟨[_],rsc 1 rfl rfl rfl rfl rs0,yN ?_⟩)))))))
 rotate_left 1
 ·have e:(l.take (i + 1)).foldl (uH a) a = best:=by
   rw [step i (by have:=dt c0; omega),hb]; unfold uH; rw [if_pos (show gp l i = a from qC.1 (dt c1))]
  refine ⟨i + 1,tes ?_ ?_ ?_,(by (have e0:=dt c0; have e1:=dt c1; omega)),(by (have e0:=dt c0; have e1:=dt c1; omega))⟩
  refine tc rfl (ps_r _) (tn)
  refine tc rfl (ps_r _) (tc rfl (ps_r _) (tc rfl (ps_r _) (tc rfl (ps_r _) (tn))))
  rotate_left 1
  rw [e]; exact List.Sublist.refl _
 ·have h1:¬ gp l i = a:=fun c => df c1 (qC.2 c)
  have e:(l.take (i + 1)).foldl (uH a) a = gp l i:=by
   rw [step i (by have:=dt c0; omega),hb]; unfold uH; rw [if_neg h1,if_pos (show best = a from qC.1 (dt c2))]
  refine ⟨i + 1,tes ?_ ?_ ?_,(by (have e0:=dt c0; have e1:=df c1; have e2:=dt c2; omega)),(by (have e0:=dt c0; have e1:=df c1; have e2:=dt c2; omega))⟩
  refine tc rfl (ps_r _) (tn)
  refine tc rfl (ps_r _) (tc rfl (ps_r _) (tc rfl (ps_r _) (tc rfl (ps_r _) (tn))))
  rotate_left 1
  rw [e]; exact List.Sublist.refl _
 ·have h1:¬ gp l i = a:=fun c => df c1 (qC.2 c)
  have h2:¬ best = a:=fun c => df c2 (qC.2 c)
  have h3:trn a best (gp l i) < 0 ∨ trn a best (gp l i) = 0 ∧ farP a best < farP a (gp l i):=by
   have h:=c3.h
   rw [Bool.or_eq_true,Bool.and_eq_true,decide_eq_true_eq,decide_eq_true_eq,decide_eq_true_eq,eZ,eY,fR] at h
   exact h
  have e:(l.take (i + 1)).foldl (uH a) a = gp l i:=by
   rw [step i (by have:=dt c0; omega),hb]; unfold uH; rw [if_neg h1,if_neg h2,if_pos h3]
  refine ⟨i + 1,tes ?_ ?_ ?_,(by (have e0:=dt c0; have e1:=df c1; have e2:=df c2; omega)),(by (have e0:=dt c0; have e1:=df c1; have e2:=df c2; omega))⟩
  refine tc rfl (ps_r _) (tn)
  refine tc rfl (ps_r _) (tc rfl (ps_r _) (tc rfl (ps_r _) (tc rfl (ps_r _) (tn))))
  rotate_left 1
  rw [e]; exact List.Sublist.refl _
 ·have h1:¬ gp l i = a:=fun c => df c1 (qC.2 c)
  have h2:¬ best = a:=fun c => df c2 (qC.2 c)
  have h3:¬ (trn a best (gp l i) < 0 ∨ trn a best (gp l i) = 0 ∧ farP a best < farP a (gp l i)):=by
   have h:=c3.h
   rw [Bool.or_eq_false_iff,Bool.and_eq_false_iff,decide_eq_false_iff_not,decide_eq_false_iff_not,decide_eq_false_iff_not,eZ,eY,fR] at h
   exact fun k => k.elim h.1 fun k => h.2.elim (fun h => h k.1) fun h => h k.2
  have e:(l.take (i + 1)).foldl (uH a) a = best:=by
   rw [step i (by have:=dt c0; omega),hb]; unfold uH; rw [if_neg h1,if_neg h2,if_neg h3]
  refine ⟨i + 1,tes ?_ ?_ ?_,(by (have e0:=dt c0; have e1:=df c1; have e2:=df c2; omega)),(by (have e0:=dt c0; have e1:=df c1; have e2:=df c2; omega))⟩
  refine tc rfl (ps_r _) (tn)
  refine tc rfl (ps_r _) (tc rfl (ps_r _) (tc rfl (ps_r _) (tc rfl (ps_r _) (tn))))
  rotate_left 1
  rw [e]; exact List.Sublist.refl _
 ·have:=df c0
  rw [← hb,List.take_of_length_le (by omega)]; exact PSub.refl _
end Go.Proofs.YtflobagimodmgaaGreatDoor
set_option maxHeartbeats 4000000
namespace Go.Proofs.YtflobagimodmgaaGreatDoor
open Go.SL Go.RowKit Go.Proofs Tryz
theorem zI2 {x q:P2} (h:Sup [x] q):q = x:=by
 have e:∀ u v:Rat,u * q.1 + v * q.2 ≤ u * x.1 + v * x.2:=fun u v => by
  obtain ⟨c,hc,h⟩:=h u v
  rw [List.mem_singleton] at hc
  rw [hc] at h; exact h
 have a:=e 1 0
 have b:=e (-1) 0
 have c:=e 0 1
 have d:=e 0 (-1)
 rw [Prod.ext_iff]
 constructor <;> grind
theorem iX (l:List P2):hullF (setOf cmpP l) = hullF l:=hull_congr fun q => qA aO
theorem hull_few {l:List P2} (h:(setOf cmpP l).length < 2):setOf cmpP l = hullF l:=by
 unfold hullF qT
 rw [if_pos (by omega)]
theorem hull_two {l:List P2} (h:2 ≤ (setOf cmpP l).length):2 ≤ (hullF l).length:=by
 have ok:=gW l
 refine Nat.le_of_not_lt fun c => ?_
 match hs:setOf cmpP l,h with
 | x :: y :: r,_ =>
  have hp:=cR l
  rw [hs] at hp
  have hxy:=(List.pairwise_cons.1 hp).1 y (by simp)
  have hx:x ∈ l:=(qA aO).1 (by rw [hs]; simp)
  have hy:y ∈ l:=(qA aO).1 (by rw [hs]; simp)
  match he:hullF l,c with
  | [],_ => rw [uM] at he; rw [he] at hx; cases hx
  | [z],_ =>
   have h1:=ok.sup _ hx
   have h2:=ok.sup _ hy
   rw [he] at h1 h2
   have h1:=zI2 h1
   have h2:=zI2 h2
   exact hxy.ne (h1.trans h2.symm)
  | _ :: _ :: _,c => simp only [List.length_cons] at c; omega
theorem set_fst {l:List P2} (h:l ≠ []):gp (setOf cmpP l) 0 = gp (hullF l) 0:=by
 have ok:=gW l
 have hn:hullF l ≠ []:=fun c => h (uM.1 c)
 have h1:gp (hullF l) 0 ∈ setOf cmpP l:=(qA aO).2 (ok.sub _ (kQ (List.length_pos_iff.2 hn)))
 match hs:setOf cmpP l,h1 with
 | x :: r,h1 =>
  have hp:=cR l
  rw [hs] at hp
  have hx:x ∈ l:=(qA aO).1 (by rw [hs]; simp)
  have h2:=hull_fst _ hx
  show x = _
  rcases List.mem_cons.1 h1 with e | e
  ·exact e.symm
  ·have h3:=(List.pairwise_cons.1 hp).1 _ e
   exfalso
   generalize gp (hullF l) 0 = y at *
   exact (dP h2 h3).ne rfl
end Go.Proofs.YtflobagimodmgaaGreatDoor
set_option maxHeartbeats 4000000
namespace Go.Proofs.YtflobagimodmgaaGreatDoor
open Go.SL Go.RowKit Go.Proofs Tryz
theorem k20hull {l:List P2} {n:Nat} (hn:n ≤ 80) (hl:l.length ≤ 100) (h1:∀ x ∈ l,plen x (n + 1)):CTy prog 36 [sv (sl 6 (l.map (ptq n)))] (sv (sl 6 ((hullF l).map (ptc (n + 1))))):=by
 refine ctc func36 rfl rfl rfl rfl fun X => (zI (zJ rfl (zA1 (oas rfl) (zA0 (zI (zJ rfl (zA1 (oas rfl) (zA0 (zI ?_)))))))))
 refine zI (zJ rfl (zA1 (oas rfl) (zA0 (yJ ?_))))
 rotate_left 1
 refine jJ (σ:=Nat) (fun i => [(4,True,exP (.int .i64 ((i:Nat):Int))),(3,True,sv (sl 6 ((setOf cmpP (l.take i)).map (ptc (n + 1)))))]) (fun i => []) (fun i => i ≤ l.length) (fun i => l.length - i) (0) (tk 0 rfl tn) ?_ rfl ((by omega)) (fun i hJ Y _ => ?_)
 refine tc rfl (ps_r _) ?_
 refine tc rfl ?_ ?_
 rotate_left 1
 refine tn
 rotate_left 1
 ·rw [List.take_zero,show setOf cmpP ([]:List P2) = [] from List.length_eq_zero_iff.1 (Nat.le_zero.1 (fA aO [])),List.map_nil]; exact zJ6
 have hsl:∀ i,(setOf cmpP (l.take i)).length ≤ 100:=fun i => Nat.le_trans (fA aO _) (by rw [List.length_take]; omega)
 have hsl2:(setOf cmpP l).length ≤ 100:=Nat.le_trans (fA aO _) hl
 refine zI (zI (zJ rfl (zA1 (omv rfl) (zA1 (omv rfl) (zA1 (oln rfl) (zA1 (olt rfl rfl) (zA0 ?_)))))))
 refine t_if rfl (fun c0 => ?_) (fun c0 => ?_)
 refine yV (zI (yJ (zJ rfl (zA1 (omv rfl) (zA1 (omv rfl) (zA1 (omv rfl) (zA1 (oix _ rfl rfl rfl (fun _ => rfl) (fun _ => (by (have e0:=dt c0; omega)))) (zA1 (old rfl rfl) ?_))))))))
 refine zA1 (oca rfl rfl fun _ => k10put (by omega) (by omega) ?_ ?_) ?_
 rotate_left 1
 rotate_left 1
 refine zA1 (oas rfl) (zA0 (zJ rfl (zA1 (omv rfl) (zA1 (oad rfl rfl (by omega)) (zA1 (oas rfl) (zA0 ?_))))))
 rotate_left 1
 refine jK (zI (zI (zJ rfl (zA1 (omv rfl) (zA1 (oln rfl) (zA1 (olt rfl rfl) (zA0 ?_)))))))
 refine t_if rfl (fun c1 => ?_) (fun c1 => ?_)
 refine zI (zJ rfl (zA1 (omv rfl) (zA1 (oas rfl) (zA0 (yF (⟨[_],rst rfl rs0,yN ?_⟩))))))
 rotate_left 1
 refine yV (zI (zJ rfl (zA1 (omv rfl) (zA1 (oix _ rfl rfl rfl (fun _ => rfl) (fun _ => (by (have e0:=df c1; simp; omega)))) (zA1 (old rfl rfl) (tbs rfl rfl rfl rfl rfl rfl fun r27 => (zA1 (oas rfl) (zA0 (zI ?_)))))))))
 refine zI (zJ rfl (zA1 (oas rfl) (zA0 (yJ ?_))))
 rotate_left 1
 ·exact Nat.le_trans (hsl i) (by omega)
 ·have h:=h1 _ (kQ (h:=l) (i:=i) (by have:=dt c0; omega))
  exact ⟨h.x,h.y⟩
 ·refine ⟨i + 1,tes ?_ ?_ (List.Sublist.refl _),(by (have e0:=dt c0; omega)),(by (have e0:=dt c0; omega))⟩
  refine tc rfl (ps_r _) ?_
  refine tc rfl ?_ ?_
  rotate_left 1
  refine tn
  refine tc rfl (ps_r _) (tn)
  rw [(xG (Df.d:P2) (show i < l.length by have:=dt c0; omega)).1]; exact PSub.refl _
 ·have h0:=df c0
  have h:=dt c1
  rw [List.take_of_length_le (by omega)] at h ⊢
  rw [hull_few (by omega)]; exact PSub.refl _
 have h0:=df c0
 rw [List.take_of_length_le (show l.length ≤ i by omega)] at *
 have h2:=hull_two (l:=l) (by have:=df c1; omega)
 have hL:l ≠ []:=fun e => by rw [e,uM.2 rfl] at h2; simp at h2
 have ok:=gW l
 have hlen:(hullF l).length ≤ (setOf cmpP l).length:=by have:=cH (setOf cmpP l); rw [iX] at this; exact this
 have hf:(setOf cmpP l).getD 0 Df.d = gp (hullF l) 0:=set_fst hL
 refine jJ (σ:=Nat × Value) (fun s => [(6,True,exP (.int .i64 ((s.1:Nat):Int))),(5,True,exP s.2)]) (fun s => [.row s.2 35 6 (((hullF l).take (s.1 + 1)).map (ptc (n + 1)))]) (fun s => s.1 + 1 ≤ (hullF l).length) (fun s => (setOf cmpP l).length - s.1) ((0,r27)) (tk 3 rfl tn) ?_ ?_ ((by dsimp only; omega)) (fun s hJ Y _ => ?_)
 refine tc rfl (ps_r _) (tc rfl (ps_r _) (tn))
 rotate_left 1
 rotate_left 1
 ·rw [hf]
  match he:hullF l,h2 with
  | x :: r,_ => rfl
 obtain ⟨i',v⟩:=s
 dsimp only at hJ ⊢
 have hll:((hullF l).take (i' + 1)).length = i' + 1:=by rw [List.length_take]; omega
 have hla:((hullF l).take (i' + 1)).getD i' Df.d = gp (hullF l) i':=by
  rw [List.getD_eq_getElem?_getD,List.getElem?_take,if_pos (by omega),← List.getD_eq_getElem?_getD]; rfl
 have hx:eI (setOf cmpP l) (((hullF l).take (i' + 1)).getD i' Df.d) = nx (hullF l) i':=by
  have h:=next_ok (l:=setOf cmpP l) (by rw [iX]; exact h2) (i:=i') (by rw [iX]; omega)
  rw [iX] at h
  rw [hla]; exact h
 refine zI (zI (zJ rfl (zA1 (omv rfl) (zA1 (omv rfl) (zA1 (oln rfl) (zA1 (olt rfl rfl) (zA0 ?_)))))))
 refine t_if rfl (fun c2 => ?_) (fun c2 => ?_)
 refine yV (zI (yJ (zI (zJ rfl (zA1 (omv rfl) (zA1 (omv rfl) (zA1 (omv rfl) (zA1 (olno 0 rfl rfl) (zA1 (osb rfl rfl (by omega)) ?_)))))))))
 refine zA1 (oixo 0 i' rfl rfl rfl (fun _ => (by omega)) (fun _ => (by (simp; omega)))) (zA1 (oldr 0 rfl rfl (fun _ => (by (simp; omega))) rfl) (zA1 (oca rfl rfl fun _ => k20next (by omega) (by omega)) (tal fun b7 => (tst 0 rfl rfl rfl rfl rfl rfl (uZ (uQ (s:=7) 0 rfl rfl) (zA0 (zI (zI (xH 5 mixed rfl rfl ?_)))))))))
 refine d1 (old rfl rfl) (d1 (omv rfl) (d1 (oix _ rfl rfl rfl (fun _ => rfl) (fun _ => (by (simp; omega)))) (d1 (old rfl rfl) (d1 (oca rfl rfl fun _ => mT (by omega) (by omega)) (d0 (zA0 ?_))))))
 refine t_if rfl (fun c3 => ?_) (fun c3 => ?_)
 refine zI (zJ rfl (zA1 (omv rfl) (zA1 (oas rfl) (zA0 (t_ts (qL (s:=2) 0 rfl rfl) (yF (⟨[_],rst rfl rs0,yN ?_⟩)))))))
 rotate_left 1
 refine yV (zJ rfl (zA1 (omv rfl) (zA1 (old rfl rfl) (zA1 (obs rfl rfl rfl rfl rfl rfl) (tap 0 rfl rfl rfl (by (simp; omega)) rfl fun r51 => (zA1 (oas rfl) (zA0 (zJ rfl (zA1 (omv rfl) ?_)))))))))
 refine zA1 (oad rfl rfl (by omega)) (zA1 (oas rfl) (zA0 ?_))
 rotate_left 1
 refine jK (zI (zJ rfl (zA1 (omv rfl) (zA1 (oas rfl) (zA0 (t_ts (qL (s:=2) 0 rfl rfl) (yF (⟨[_],rst rfl rs0,yN ?_⟩))))))))
 rotate_left 1
 ·have h:=qC.1 (dt c3)
  have h3:nx (hullF l) i' = gp (hullF l) 0:=hx.symm.trans (Eq.trans h hf)
  have h4:i' + 1 = (hullF l).length:=by
   refine Nat.le_antisymm hJ (Nat.le_of_not_lt fun c => ?_)
   unfold nx at h3
   rw [Nat.mod_eq_of_lt c] at h3
   exact absurd (dE ok.poly.nd c (by omega) h3) (by omega)
  rw [h4,List.take_length]; exact PSub.refl _
 ·have h:¬ nx (hullF l) i' = gp (hullF l) 0:=fun e => df c3 (qC.2 (Eq.trans hx (e.trans hf.symm)))
  have h4:i' + 1 < (hullF l).length:=by
   refine Nat.lt_of_le_of_ne hJ fun e => h ?_
   unfold nx
   rw [e,Nat.mod_self]
  have h5:nx (hullF l) i' = gp (hullF l) (i' + 1):=by unfold nx; rw [Nat.mod_eq_of_lt h4]
  refine ⟨(i' + 1,r51),tes ?_ ?_ ?_,(by omega),(by omega)⟩
  refine tc rfl (ps_r _) (tc rfl (ps_r _) (tn))
  refine tc rfl (ps_r _) (tn)
  rotate_left 1
  dsimp only
  rw [(xG (Df.d:P2) h4).1,List.map_append,show (hullF l).getD (i' + 1) Df.d = eI (setOf cmpP l) (((hullF l).take (i' + 1)).getD i' Df.d) from (hx.trans h5).symm]
  exact List.Sublist.refl _
 ·have:=df c2
  omega
end Go.Proofs.YtflobagimodmgaaGreatDoor
set_option maxHeartbeats 4000000
namespace Go.Proofs.YtflobagimodmgaaGreatDoor
open Go.SL Go.RowKit Go.Proofs Tryz
theorem tU {Ψ:PV} {l:List P2} {n:Nat} [h:VPt Ψ n l] (hn:n ≤ 80) (hl:l.length ≤ 100):CTy prog 36 [Ψ] (sv (sl 6 ((hullF l).map (ptc (n + 1))))) :=
 ⟨(bo func36),fun M w vs hM hT hv => by
  obtain ⟨v,e,h1⟩:=fa1 hv
  exact (k20hull hn hl (vR h1)).run M w vs hM hT ((fs1 iF fs0) _ _ _ hv)⟩
theorem zL9 {Ψ:PV} {l:List P2} {n:Nat} [h:VPt Ψ n l] (hn:n ≤ 300) (hl:l.length ≤ 100):CTy prog 38 [Ψ] (sv (sl 6 ((l.map negP).map (ptc (n + 5))))):=by
 refine gS (σs:=[sv (sl 6 (l.map (ptq n)))]) ?_ (fs1 iF fs0)
 refine ctc func38 rfl rfl rfl rfl fun X => (zI (zJ rfl (zA1 (oas rfl) (zA0 (zI (zJ rfl (zA1 (oas rfl) (zA0 (zI ?_)))))))))
 refine zI (zJ rfl (zA1 (oas rfl) (zA0 (yJ ?_))))
 rotate_left 1
 refine t_ts (cO 35 6) ?_
 refine jJ (σ:=Nat × Value) (fun s => [(3,True,exP s.2),(4,True,exP (.int .i64 ((s.1:Nat):Int)))]) (fun s => [.row s.2 35 6 (((l.take s.1).map negP).map (ptc (n + 5)))]) (fun s => s.1 ≤ l.length) (fun s => l.length - s.1) ((0,.slice none 0 0)) (tk 0 rfl tn) ?_ rfl ((by simp)) (fun s hJ Y _ => ?_)
 refine tc rfl (ps_r _) (tc rfl (ps_r _) (tn))
 rotate_left 1
 refine zI (zI (zJ rfl (zA1 (omv rfl) (zA1 (omv rfl) (zA1 (oln rfl) (zA1 (olt rfl rfl) (zA0 ?_)))))))
 refine t_if rfl (fun c0 => ?_) (fun c0 => ?_)
 refine yV (zI (yJ (zJ rfl (zA1 (omv rfl) (zA1 (omv rfl) (zA1 (omv rfl) (zA1 (oix _ rfl rfl rfl (fun _ => rfl) (fun _ => (by (have e0:=dt c0; omega)))) (zA1 (old rfl rfl) (zA1 (oca rfl rfl fun _ => k8neg (by omega)) ?_)))))))))
 refine zA1 (obs rfl rfl rfl rfl rfl rfl) (tap 0 rfl rfl rfl (by (simp; omega)) rfl fun r18 => (zA1 (oas rfl) (zA0 (zJ rfl (zA1 (omv rfl) (zA1 (oad rfl rfl (by omega)) (zA1 (oas rfl) (zA0 ?_))))))))
 rotate_left 1
 refine jK (zI (zJ rfl (zA1 (omv rfl) (zA1 (oas rfl) (zA0 (t_ts (qL (s:=2) 0 rfl rfl) (yF (⟨[_],rst rfl rs0,yN ?_⟩))))))))
 rotate_left 1
 ·refine ⟨(s.1 + 1,r18),tes ?_ ?_ ?_,(by (have e0:=dt c0; omega)),(by (have e0:=dt c0; omega))⟩
  refine tc rfl (ps_r _) (tc rfl (ps_r _) (tn))
  refine tc rfl (ps_r _) (tn)
  rotate_left 1
  rw [(xG (Df.d:P2) (show s.1 < l.length by have:=dt c0; omega)).1,List.map_append,List.map_append]
  rw [Nat.max_self]
  exact List.Sublist.refl _
 ·have h0:=df c0
  rw [List.take_of_length_le (by omega)]
  exact PSub.refl _
theorem pairs_len (a b:List P2):(qN a b).length = a.length * b.length:=by
 induction a with
 | nil => simp [qN]
 | cons x a ih =>
  unfold qN at *
  rw [List.flatMap_cons,List.length_append,ih,List.length_map,List.length_cons,Nat.add_mul,Nat.one_mul,Nat.add_comm]
theorem pairs_snoc (a b:List P2) (x:P2):qN (a ++ [x]) b = qN a b ++ b.map fun y => addP x y:=by
 unfold qN; rw [List.flatMap_append]; simp
theorem zT9 {Ψ Φ:PV} {a b:List P2} {n m:Nat} [h:VPt Ψ n a] [k:VPt Φ m b] (hn:n ≤ 30) (hm:m ≤ 30) (ha:a.length ≤ 10) (hb:b.length ≤ 10):CTy prog 37 [Ψ,Φ] (sv (sl 6 ((sumF a b).map (ptc (2 * max n m + 8 + 1))))):=by
 refine gS (σs:=[sv (sl 6 (a.map (ptq n))),sv (sl 6 (b.map (ptq m)))]) ?_ (fs1 iF (fs1 iF fs0))
 refine ctc func37 rfl rfl rfl rfl fun X => (zI (zJ rfl (zA1 (oas rfl) (zA0 (zI (zJ rfl (zA1 (oas rfl) (zA0 (zI ?_)))))))))
 refine zI (zJ rfl (zA1 (oas rfl) (zA0 (yJ ?_))))
 rotate_left 1
 refine t_ts (cO 35 6) ?_
 refine jJ (σ:=Nat × Value) (fun s => [(5,True,exP s.2),(6,True,exP (.int .i64 ((s.1:Nat):Int)))]) (fun s => [.row s.2 35 6 ((qN (a.take s.1) b).map (ptc (2 * max n m + 8)))]) (fun s => s.1 ≤ a.length) (fun s => a.length - s.1) ((0,.slice none 0 0)) (tk 0 rfl (tk 1 rfl tn)) ?_ rfl ((by simp)) (fun s hJ Y _ => ?_)
 refine tc rfl (ps_r _) (tc rfl (ps_r _) (tn))
 rotate_left 1
 obtain ⟨i,v⟩:=s
 dsimp only at hJ ⊢
 have hlp:∀ i,(qN (a.take i) b).length ≤ 100:=fun i => by
  rw [pairs_len]
  exact Nat.le_trans (Nat.mul_le_mul (show (a.take i).length ≤ 10 by rw [List.length_take]; omega) hb) (by decide)
 refine zI (zI (zJ rfl (zA1 (omv rfl) (zA1 (omv rfl) (zA1 (oln rfl) (zA1 (olt rfl rfl) (zA0 ?_)))))))
 refine t_if rfl (fun c0 => ?_) (fun c0 => ?_)
 refine yV (zI (yJ (zI (zJ rfl (zA1 (oas rfl) (zA0 (yJ ?_)))))))
 rotate_left 1
 refine jK (zI (zJ rfl (zA1 (omv rfl) ?_)))
 rotate_left 1
 ·have hi:=dt c0
  refine jJ (σ:=Nat × Value) (fun s => [(5,True,exP s.2),(7,True,exP (.int .i64 ((s.1:Nat):Int)))]) (fun s => [.row s.2 35 6 ((qN (a.take i) b ++ (b.take s.1).map fun y => addP (gp a i) y).map (ptc (2 * max n m + 8)))]) (fun s => s.1 ≤ b.length) (fun s => b.length - s.1) ((0,v)) (tk 0 rfl (tk 1 rfl (tk 6 rfl tn))) ?_ (by (simp; done)) ((by simp)) (fun s hJ Y _ => ?_)
  refine tc rfl (ps_r _) (tc rfl (ps_r _) (tn))
  rotate_left 1
  obtain ⟨k,u⟩:=s
  dsimp only at hJ ⊢
  have hlk:(qN (a.take i) b ++ (b.take k).map fun y => addP (gp a i) y).length ≤ 200:=by
   rw [List.length_append,List.length_map,List.length_take]
   have:=hlp i; omega
  refine zI (zI (zJ rfl (zA1 (omv rfl) (zA1 (omv rfl) (zA1 (oln rfl) (zA1 (olt rfl rfl) (zA0 ?_)))))))
  refine t_if rfl (fun c1 => ?_) (fun c1 => ?_)
  refine yV (zI (yJ (xH 11 mixed rfl rfl (d1 (omv rfl) (d1 (omv rfl) (d1 (omv rfl) (d1 (oix _ rfl rfl rfl (fun _ => rfl) (fun _ => (by omega))) (d1 (old rfl rfl) (d1 (omv rfl) ?_)))))))))
  refine d1 (omv rfl) (d1 (oix _ rfl rfl rfl (fun _ => rfl) (fun _ => (by (have e0:=dt c1; omega)))) (d1 (old rfl rfl) (d1 (oca rfl rfl fun _ => k8addc (by omega) (by omega)) (d1 (obs rfl rfl rfl rfl rfl rfl) (d0 ?_)))))
  refine tap 0 rfl rfl rfl ?_ rfl fun r31 => ?_
  rotate_left 1
  refine zA1 (oas rfl) (zA0 (zJ rfl (zA1 (omv rfl) (zA1 (oad rfl rfl (by omega)) (zA1 (oas rfl) (zA0 ?_))))))
  rotate_left 1
  refine jK (zJ rfl (zA1 (omv rfl) (zA1 (oad rfl rfl (by omega)) (zA1 (oas rfl) (zA0 ?_)))))
  rotate_left 1
  ·rw [List.length_map,List.length_singleton]; omega
  ·have hk:=dt c1
   refine ⟨(k + 1,r31),tes ?_ ?_ ?_,(by omega),(by omega)⟩
   refine tc rfl (ps_r _) (tc rfl (ps_r _) (tn))
   refine tc rfl (ps_r _) (tc rfl (ps_r _) (tc rfl (ps_r _) (tn)))
   rotate_left 1
   have e:(qN (a.take i) b ++ (b.take (k + 1)).map fun y => addP (gp a i) y) = (qN (a.take i) b ++ (b.take k).map fun y => addP (gp a i) y) ++ [addP (gp a i) (gp b k)]:=by
    rw [(xG (Df.d:P2) (show k < b.length by omega)).1,List.map_append,List.append_assoc]; rfl
   dsimp only
   rw [e,List.map_append,Nat.max_self,Nat.max_self]
   exact List.Sublist.refl _
  ·have hk:=df c1
   refine ⟨(i + 1,u),tes ?_ ?_ ?_,(by omega),(by omega)⟩
   refine tc rfl (ps_r _) (tc rfl (ps_r _) (tn))
   refine tc rfl (ps_r _) (tc rfl (ps_r _) (tn))
   rotate_left 1
   rw [(xG (Df.d:P2) (show i < a.length by omega)).1,pairs_snoc,List.take_of_length_le (show b.length ≤ k by omega)]
   exact List.Sublist.refl _
 ·have hi:=df c0
  rw [List.take_of_length_le (show a.length ≤ i by omega)] at *
  refine uZ (qL 0 rfl (s:=32) rfl) ?_
  have hl:=hlp a.length
  rw [List.take_length] at hl
  refine zA1 (oca rfl rfl fun _ => tU (by omega) (by omega)) (zA1 (oas rfl) (zA0 (yF (⟨[_],rst rfl rs0,yN (PSub.refl _)⟩))))
theorem k20piece {l:List P2} {a b c:P2} {n m:Nat} (hn:n ≤ 20) (hm:m ≤ 20) (hl:l.length ≤ 10):CTy prog 86 [sv (sl 6 (l.map (ptq n))),ag (st [ptq m a,ptq m b,ptq m c])] (sv (sl 6 ((sumF [a,b,c] (l.map negP)).map (ptc (2 * max m (n + 5) + 8 + 1))))):=by
 have h3:([a,b,c]:List P2).length ≤ 10:=by simp
 have h4:(l.map negP).length ≤ 10:=by rw [List.length_map]; omega
 refine ctc func86 rfl rfl rfl rfl fun X => (zI (zJ rfl (zA1 (obx rfl) (zA1 (oas rfl) (zA0 (zI (zJ rfl (zA1 (old rfl rfl) (zA1 (oca rfl rfl fun _ => k18cornc) ?_)))))))))
 refine zA1 (omv rfl) (zA1 (oca rfl rfl fun _ => zL9 (by omega) (by omega)) (zA1 (oca rfl rfl fun _ => zT9 (by omega) (by omega) (by omega) (by omega)) (zA1 (oas rfl) (zA0 (yF (⟨[_],rst rfl rs0,yN ?_⟩))))))
 rotate_left 1
 rw [Nat.max_self]; exact PSub.refl _
abbrev T3P:=P2 × P2 × P2
def trq (n:Nat) (t:T3P):CT:=st [ptq n t.1,ptq n t.2.1,ptq n t.2.2]
def t3l (t:T3P):List P2:=[t.1,t.2.1,t.2.2]
instance:Df T3P:=⟨((0,0),(0,0),(0,0))⟩
theorem k20pieces {l:List P2} {ts:List T3P} {n m:Nat} (hn:n ≤ 20) (hm:m ≤ 20) (hl:l.length ≤ 10) (ht:ts.length ≤ 100):CTy prog 35 [sv (sl 6 (l.map (ptq n))),sv (sl 18 (ts.map (trq m)))] (sv (sl 1 ((ts.map fun t => sumF (t3l t) (l.map negP)).map fun x => sl 6 (x.map (ptc (2 * max m (n + 5) + 8 + 1)))))):=by
 refine ctc func35 rfl rfl rfl rfl fun X => (zI (zJ rfl (zA1 (oas rfl) (zA0 (zI (zJ rfl (zA1 (oas rfl) (zA0 (zI ?_)))))))))
 refine zI (zJ rfl (zA1 (oas rfl) (zA0 (yJ ?_))))
 rotate_left 1
 refine t_ts (cO 22 1) ?_
 refine jJ (σ:=Nat × Value) (fun s => [(5,True,exP s.2),(6,True,exP (.int .i64 ((s.1:Nat):Int)))]) (fun s => [.row s.2 22 1 (((ts.take s.1).map fun t => sumF (t3l t) (l.map negP)).map fun x => sl 6 (x.map (ptc (2 * max m (n + 5) + 8 + 1))))]) (fun s => s.1 ≤ ts.length) (fun s => ts.length - s.1) ((0,.slice none 0 0)) (tk 0 rfl (tk 1 rfl tn)) ?_ rfl ((by simp)) (fun s hJ Y _ => ?_)
 refine tc rfl (ps_r _) (tc rfl (ps_r _) (tn))
 rotate_left 1
 refine zI (zI (zJ rfl (zA1 (omv rfl) (zA1 (omv rfl) (zA1 (oln rfl) (zA1 (olt rfl rfl) (zA0 ?_)))))))
 refine t_if rfl (fun c0 => ?_) (fun c0 => ?_)
 refine yV (zI (yJ (zJ rfl (zA1 (omv rfl) (zA1 (omv rfl) (zA1 (omv rfl) (zA1 (omv rfl) (zA1 (oix _ rfl rfl rfl (fun _ => rfl) (fun _ => (by (have e0:=dt c0; omega)))) (zA1 (old rfl rfl) ?_)))))))))
 refine zA1 (oca rfl rfl fun _ => k20piece (by omega) (by omega) (by omega)) (zA1 (obs rfl rfl rfl rfl rfl rfl) (tap 0 rfl rfl rfl (by (simp; omega)) rfl fun r21 => (zA1 (oas rfl) (zA0 (zJ rfl (zA1 (omv rfl) (zA1 (oad rfl rfl (by omega)) (zA1 (oas rfl) (zA0 ?_)))))))))
 rotate_left 1
 refine jK (zI (zJ rfl (zA1 (omv rfl) (zA1 (oas rfl) (zA0 (t_ts (qL (s:=4) 0 rfl rfl) (yF (⟨[_],rst rfl rs0,yN ?_⟩))))))))
 rotate_left 1
 ·refine ⟨(s.1 + 1,r21),tes ?_ ?_ ?_,(by (have e0:=dt c0; omega)),(by (have e0:=dt c0; omega))⟩
  refine tc rfl (ps_r _) (tc rfl (ps_r _) (tn))
  refine tc rfl (ps_r _) (tc rfl (ps_r _) (tn))
  rotate_left 1
  rw [(xG (Df.d:T3P) (show s.1 < ts.length by have:=dt c0; omega)).1,List.map_append,List.map_append]
  exact List.Sublist.refl _
 ·have h0:=df c0
  rw [List.take_of_length_le (by omega)]
  exact PSub.refl _
theorem kmpieces {l:List P2} {ts:List T3P} {n m:Nat} (hn:n ≤ 20) (hm:m ≤ 20) (hl:l.length ≤ 10) (ht:ts.length ≤ 100):CTy prog 34 [sv (sl 6 (l.map (ptq n))),sv (sl 18 (ts.map (trq m)))] (sv (sl 1 ((ts.map fun t => sumF (t3l t) (l.map negP)).map fun x => sl 6 (x.map (ptc (m + (n + 5) + 4)))))):=by
 refine ctc func34 rfl rfl rfl rfl fun X => (zI (zJ rfl (zA1 (oas rfl) (zA0 (zI (zI (zJ rfl (zA1 (omv rfl) (zA1 (oln rfl) ?_)))))))))
 refine zA1 (omv rfl) (zA0 (yJ ?_))
 rotate_left 1
 refine t_ts (cO 22 1) ?_
 refine jJ (σ:=Nat × Value) (fun s => [(4,True,exP s.2),(9,True,exP (.int .i64 ((s.1:Nat):Int)))]) (fun s => [.row s.2 22 1 (((ts.take s.1).map fun t => sumF (t3l t) (l.map negP)).map fun x => sl 6 (x.map (ptc (m + (n + 5) + 4))))]) (fun s => s.1 ≤ ts.length) (fun s => ts.length - s.1) ((0,.slice none 0 0)) (tk 0 rfl (tk 7 rfl (tk 8 rfl tn))) ?_ rfl ((by simp)) (fun s hJ Y _ => ?_)
 refine tc rfl (ps_r _) (tc rfl (ps_r _) (tn))
 rotate_left 1
 refine zI (zJ rfl (zA1 (olt rfl rfl) (zA0 (zI ?_))))
 refine t_if rfl (fun c0 => ?_) (fun c0 => ?_)
 refine yV (zI (yJ (zI (zJ rfl (zA1 (oix _ rfl rfl rfl (fun _ => rfl) (fun _ => (by (have e0:=dt c0; omega)))) (zA1 (old rfl rfl) (tal fun b6 => (tst 0 rfl rfl rfl rfl rfl rfl (uZ (uQ (s:=6) 0 rfl rfl) ?_)))))))))
 refine zA0 (zJ rfl (zA1 (omv rfl) (zA1 (omv rfl) (zA1 (old rfl rfl) (zA1 (oca rfl rfl fun _ => zT2 (by omega) (by omega) (by omega)) (zA1 (obs rfl rfl rfl rfl rfl rfl) (tap 0 rfl rfl rfl (by (simp; omega)) rfl fun r18 => (zA1 (oas rfl) (zA0 ?_)))))))))
 refine zJ rfl (zA1 (oad rfl rfl (by omega)) (zA1 (omv rfl) (zA0 ?_)))
 rotate_left 1
 refine jK (zI (zJ rfl (zA1 (omv rfl) (zA1 (oas rfl) (zA0 (t_ts (qL (s:=4) 0 rfl rfl) (yF (⟨[_],rst rfl rs0,yN ?_⟩))))))))
 rotate_left 1
 ·refine ⟨(s.1 + 1,r18),tes ?_ ?_ ?_,(by (have e0:=dt c0; omega)),(by (have e0:=dt c0; omega))⟩
  refine tc rfl (ps_r _) (tc rfl (ps_r _) (tn))
  refine tc rfl (ps_r _) (tc rfl (ps_r _) (tc rfl (ps_r _) (tn)))
  rotate_left 1
  rw [(xG (Df.d:T3P) (show s.1 < ts.length by have:=dt c0; omega)).1,List.map_append,List.map_append]
  exact List.Sublist.refl _
 ·have h0:=df c0
  rw [List.take_of_length_le (by omega)]
  exact PSub.refl _
end Go.Proofs.YtflobagimodmgaaGreatDoor
set_option maxHeartbeats 4000000
namespace Go.Proofs.YtflobagimodmgaaGreatDoor
open Go.SL Go.RowKit Go.Proofs Tryz
def px3 (t:TX3):T3P:=(px t.1,px t.2.1,px t.2.2)
theorem trx_n {n:Nat} {l:List TX3} (h:∀ t ∈ l,∀ a ∈ trl t,big2 a ≤ n):PSub (sv (sl 18 (l.map trx))) (sv (sl 18 ((l.map px3).map (trq n)))):=fun M w v k => by
 rw [List.map_map]
 exact zV3 (f:=trx) (g:=trq n ∘ px3) (fun t ht M w us k => trx_c (h t ht t.1 (by simp [trl])) (h t ht t.2.1 (by simp [trl])) (h t ht t.2.2 (by simp [trl])) M w us k) (fun _ => rfl) k
theorem law_MinkTells {a b:List PX} {l:List TX3}:CTy prog 8 [sv (pcx a),sv (pcx b),sv (sl 18 (l.map trx))] (exP (.bool true)):=by
 refine ctc func8 rfl rfl rfl rfl fun X => (zI (zJ rfl (zA1 (oas rfl) (zA0 (zI (zI (zJ rfl (zA1 (omv rfl) (zA1 (oca rfl rfl fun _ => kg18) ?_)))))))))
 refine zA1 (omv rfl) (t1g rfl rfl (omv rfl) (t1g rfl rfl (oca rfl rfl fun g => kg18) (zA1 (opk rfl rfl rfl) (zA1 (omv rfl) (t1g rfl rfl (omv rfl) (t1g rfl rfl (oca rfl rfl fun g => kgtris) (zA1 (opk rfl rfl rfl) (zA1 (omv rfl) (t1g rfl rfl (omv rfl) ?_)))))))))
 refine t1g rfl rfl (oln rfl) (t1g rfl rfl (ogt rfl rfl) (zA1 (opk rfl rfl rfl) (zA0 ?_)))
 refine t_if rfl (fun c0 => ?_) (fun c0 => ?_)
 refine zI (zJ rfl (zA1 (oca rfl rfl fun _ => zX5) (zA1 (oas rfl) (zA0 (yF (⟨[_],rst rfl rs0,yN (PSub.refl _)⟩))))))
 rotate_left 1
 have h:=c0.h
 simp only [Bool.or_eq_false_iff,decide_eq_false_iff_not] at h
 obtain ⟨⟨⟨h1,h2⟩,h3⟩,h4⟩:=h
 obtain ⟨la,ha⟩:=rU ⟨h1⟩
 obtain ⟨lb,hb⟩:=rU ⟨h2⟩
 obtain ⟨_,ht⟩:=gtris_no h3
 have la:(a.map px).length ≤ 8:=by rw [List.length_map]; omega
 have lb:(b.map px).length ≤ 8:=by rw [List.length_map]; omega
 have lt:(l.map px3).length ≤ 4:=by rw [List.length_map]; omega
 refine t_ts (zP5 (s:=0) rfl (zX1 ha)) ?_
 refine t_ts (zP5 (s:=1) rfl (zX1 hb)) ?_
 refine t_ts (zP5 (s:=2) rfl (trx_n fun t h => (rU ⟨ht t h⟩).2)) ?_
 generalize a.map px = A at *
 generalize b.map px = B at *
 generalize l.map px3 = L at *
 refine yV (zI (zJ rfl (zA1 (omv rfl) (zA1 (omv rfl) (zA1 (oca rfl rfl fun _ => kmpieces (by omega) (by omega) (by omega) (by omega)) (zA1 (omv rfl) (zA1 (omv rfl) (zA1 (oca rfl rfl fun _ => k20pieces (by omega) (by omega) (by omega) (by omega)) (zA1 (oas rfl) ?_)))))))))
 refine zA1 (oas rfl) (zA0 (zI (zI (zJ rfl (zA1 (omv rfl) (zA1 (oln rfl) (zA1 (omv rfl) (zA1 (oln rfl) (zA1 (oni rfl rfl) ?_)))))))))
 refine zA0 ?_
 refine t_if rfl (fun c1 => ?_) (fun c1 => ?_)
 refine zI (zJ rfl (zA1 (oas rfl) (zA0 (yF (⟨[_],rst rfl rs0,yN (psb (by (have e0:=dt c1; omega)))⟩)))))
 refine yV (zI (zI (zJ rfl (zA1 (oas rfl) (zA0 (yJ ?_))))))
 rotate_left 1
 refine jJ (σ:=Nat) (fun i => [(9,True,exP (.int .i64 ((i:Nat):Int)))]) (fun i => []) (fun i => i ≤ L.length) (fun i => L.length - i) (0) (tk 0 rfl (tk 1 rfl (tk 2 rfl (tk 7 rfl (tk 8 rfl tn))))) ?_ rfl ((by omega)) (fun i hJ Y _ => ?_)
 refine tc rfl (ps_r _) (tn)
 rotate_left 1
 have hs:=fun (t:T3P) => sum_len' (t3l t) (A.map negP)
 refine zI (zI (zJ rfl (zA1 (omv rfl) (zA1 (omv rfl) (zA1 (oln rfl) (zA1 (olt rfl rfl) (zA0 ?_)))))))
 refine t_if rfl (fun c2 => ?_) (fun c2 => ?_)
 refine yV (zI (yJ (zI (xH 24 mixed rfl rfl (d1 (omv rfl) (d1 (omv rfl) (d1 (oix _ rfl rfl rfl (fun _ => rfl) (fun _ => (by (have e0:=dt c2; omega)))) (d1 (old rfl rfl) (d1 (omv rfl) ?_)))))))))
 refine d1 (omv rfl) (d1 (oix _ rfl rfl rfl (fun _ => rfl) (fun _ => (by (have e0:=dt c2; omega)))) (d1 (old rfl rfl) (d1 (oca rfl rfl fun _ => mK (by omega) (by omega)) (d1 (ont rfl) (d1 (omv rfl) (d1g rfl rfl (omv rfl) (d1g rfl rfl (omv rfl) (d1g rfl rfl (omv rfl) ?_))))))))
 refine d1g rfl rfl (oix _ rfl rfl rfl (fun g => rfl) (fun g => ?_)) ?_
 rotate_left 1
 refine d1g rfl rfl (old rfl rfl) (d1g rfl rfl (oca rfl rfl fun g => zT2 (by omega) (by omega) (by omega)) (d1g rfl rfl (omv rfl) (d1g rfl rfl (omv rfl) (d1g rfl rfl (oix _ rfl rfl rfl (fun g => rfl) (fun g => (by (have e0:=dt c2; omega)))) (d1g rfl rfl (old rfl rfl) (d1g rfl rfl (oca rfl rfl fun g => mK (by omega) (by omega)) (d1g rfl rfl (ont rfl) (d1 (opk rfl rfl rfl) (d0 ?_)))))))))
 refine zA0 ?_
 refine t_if rfl (fun c3 => ?_) (fun c3 => ?_)
 refine zI (zJ rfl (zA1 (oas rfl) (zA0 (yF (⟨[_],rst rfl rs0,yN ?_⟩)))))
 refine psb ?_
 rotate_left 1
 refine yV (zJ rfl (zA1 (omv rfl) (zA1 (oad rfl rfl (by omega)) (zA1 (oas rfl) (zA0 ?_)))))
 rotate_left 1
 refine jK (zI (zJ rfl (zA1 (omv rfl) (zA1 (oca rfl rfl fun _ => oE (by omega) (by omega)) (zA1 (omv rfl) (zA1 (oca rfl rfl fun _ => tU (by omega) (by omega)) (zA1 (oca rfl rfl fun _ => mK (by omega) (by omega)) (zA1 (omv rfl) (t1g rfl rfl (omv rfl) ?_)))))))))
 refine t1g rfl rfl (omv rfl) (t1g rfl rfl (oca rfl rfl fun g => ksum (by omega) (by omega) (by omega) (by omega)) (t1g rfl rfl (omv rfl) (t1g rfl rfl (omv rfl) (t1g rfl rfl (oca rfl rfl fun g => zT9 (by omega) (by omega) (by omega) (by omega)) (t1g rfl rfl (oca rfl rfl fun g => mK (by omega) (by omega)) (zA1 (opk rfl rfl rfl) (zA1 (omv rfl) (t1g rfl rfl (omv rfl) (t1g rfl rfl (oca rfl rfl fun g => rQ (by omega) (by omega)) ?_)))))))))
 refine t1g rfl rfl (omv rfl) (t1g rfl rfl (oca rfl rfl fun g => zL9 (by omega) (by omega)) (t1g rfl rfl (oca rfl rfl fun g => mK (by omega) (by omega)) (zA1 (opk rfl rfl rfl) (zA1 (omv rfl) (t1g rfl rfl (oca rfl rfl fun g => zX5) (zA1 (opk rfl rfl rfl) (zA1 (oas rfl) (zA0 (yF ?_)))))))))
 refine ⟨[_],rst rfl rs0,yN (psb (by (simp; done)))⟩
 ·have h:=dt c2
  rw [List.length_map] at h
  omega
 ·have h:=c3.h
  have hi:=dt c2
  rw [List.length_map] at hi
  have e:(L.map fun t => sumF (t3l t) (A.map negP)).getD i Df.d = sumF (t3l (L.getD i Df.d)) (A.map negP):=by
   rw [List.getD_eq_getElem?_getD,List.getElem?_map,List.getD_eq_getElem?_getD,List.getElem?_eq_getElem (show i < L.length by omega)]; rfl
  rw [e,decide_eq_true rfl] at h
  have h5:(!decide (sumF (t3l (L.getD i Df.d)) (A.map negP) = sumF (t3l (L.getD i Df.d)) (A.map negP))) = true:=h
  rw [decide_eq_true rfl] at h5
  exact h5
 ·have h:=dt c2
  rw [List.length_map] at h
  refine ⟨i + 1,tes ?_ ?_ (List.Sublist.refl _),(by omega),(by omega)⟩
  refine tc rfl (ps_r _) (tn)
  refine tc rfl (ps_r _) (tc rfl (ps_r _) (tc rfl (ps_r _) (tc rfl (ps_r _) (tc rfl (ps_r _) (tn)))))
end Go.Proofs.YtflobagimodmgaaGreatDoor
namespace Go.Proofs.YtflobagimodmgaaGreatDoor
open Go Go.SL Go.RowKit Go.Proofs Go.ChangeShapes Go.WideShapes Go.ChangeAt Go.Deep Tryz
section
variable {H : Type} {enc : TypeId × Value → H} {P : Program} {W : World} {B : Nat} {tp tr ti tn tb tw : TypeId}
abbrev BdX (B:Nat) (a:RX):Prop:=(True ∧ a.1.2.length ≤ B) ∧ a.2.length ≤ B
abbrev BpX (B:Nat) (a:PX):Prop:=BdX B a.1 ∧ BdX B a.2
theorem tI (T:NumTypes P tp tr ti tn tb tw):Opn enc P W B tr 3 rtx (BdX B) :=
 rK T.r (rK T.i (opn_bool T.b T.cb) (zK4 T.n T.w T.cw T.cn T.hb)) (zK4 T.n T.w T.cw T.cn T.hb)
theorem opn_ptx (T:NumTypes P tp tr ti tn tb tw):Opn enc P W B tp 6 ptx (BpX B) :=
 rK T.p (tI T) (tI T)
theorem opn_pcx {t:TypeId} (T:NumTypes P tp tr ti tn tb tw) (ht:P.underlying t = some (.slice tp)) (c:P.cellsOf t = 1):Opn enc P W B t 1 pcx (fun l => l.length * P.bytesOf tp ≤ B ∧ ∀ a ∈ l,BpX B a) :=
 opn_slicew ht c (opn_ptx T) (by omega)
end
section
variable {H : Type} {enc : TypeId × Value → H} {P : Program} {W : World} {B : Nat}
theorem trod_arr3 {base:Nat} {spare:Nat → Bool} {held:Bool} {fuel:Nat} {t e:TypeId} {cs:List Value} {x:DataW H × List MemPlace} (ht:P.underlying t = some (.array 3 e)) (h:DataW.trod enc P W base spare held fuel t cs = some x) :
  ∃ (xs:List (DataW H × List MemPlace)) (n:Nat),fuel = n + 1 ∧ x = (.agg (xs.map (·.1)),xs.flatMap (·.2)) ∧ cs.length = P.cellsOf t ∧ xs.length = 3 ∧
   ∀ i,i < 3 → DataW.trod enc P W base spare held n e ((cs.drop (i * P.cellsOf e)).take (P.cellsOf e)) = xs[i]?:=by
 cases fuel with
 | zero => simp [DataW.trod] at h
 | succ n =>
  unfold DataW.trod at h
  rw [ht] at h
  split at h <;> simp_all
  obtain ⟨hl,xs,hp,hd⟩:=h
  exact ⟨xs,hd.symm,by simpa using mapM_some_length hp,fun i hi => by have:=mapM_some_get hp i i (by simp [hi]); simpa using this⟩
theorem opn_tri {α:Type} {t e:TypeId} {k:Nat} {f:α → CT} {Bf:α → Prop} (ht:P.underlying t = some (.array 3 e)) (hc:P.cellsOf t = k + (k + k)) (h0:Opn enc P W B e k f Bf) :
  Opn enc P W B t (k + (k + k)) (fun a:α × α × α => st [f a.1,f a.2.1,f a.2.2]) (fun a => Bf a.1 ∧ Bf a.2.1 ∧ Bf a.2.2):=by
 refine ⟨hc,fun a => by show (f a.1).sz + ((f a.2.1).sz + ((f a.2.2).sz + 0)) = _; rw [h0.s,h0.s,h0.s]; rfl,fun {fuel cs x} hw h => ?_⟩
 obtain ⟨xs,n,_,hxe,hl,hx,hall⟩:=trod_arr3 ht h
 have n0:=h0.c
 have e0:=hall 0 (by omega)
 have e1:=hall 1 (by omega)
 have e2:=hall 2 (by omega)
 rw [n0] at e0 e1 e2
 rw [Nat.zero_mul,List.drop_zero] at e0
 rw [Nat.one_mul] at e1
 have hd:(cs.drop (2 * k)).length = k:=by rw [List.length_drop]; omega
 rw [List.take_of_length_le (by omega)] at e2
 have hwi:∀ (i:Nat) (hi:i < xs.length),∀ m ∈ (xs[i]'hi).1.weights P e,m ≤ B:=fun i hi m hm => hw m (by
  rw [hxe]; simp only [DataW.weights,ht]
  exact dU hm (List.mem_map_of_mem (List.getElem_mem hi)))
 rw [List.getElem?_eq_getElem (show 0 < xs.length by omega)] at e0
 rw [List.getElem?_eq_getElem (show 1 < xs.length by omega)] at e1
 rw [List.getElem?_eq_getElem (show 2 < xs.length by omega)] at e2
 obtain ⟨a,p0,b0⟩:=h0.o (hwi 0 (by omega)) e0
 obtain ⟨b,p1,b1⟩:=h0.o (hwi 1 (by omega)) e1
 obtain ⟨c,p2,b2⟩:=h0.o (hwi 2 (by omega)) e2
 refine ⟨(a,b,c),⟨cs.take k,cs.drop k,(List.take_append_drop _ _).symm,p0,(cs.drop k).take k,(cs.drop k).drop k,(List.take_append_drop _ _).symm,p1,cs.drop (2 * k),[],?_,p2,rfl⟩,b0,b1,b2⟩
 rw [List.drop_drop,List.append_nil]; congr 1; omega
end
end Go.Proofs.YtflobagimodmgaaGreatDoor
