/- Lemmas and walks of functions; no statement. -/
import Derived.Test.YtalkinejknjidaaGreatDoorPe
set_option linter.unusedVariables false
set_option linter.unusedSimpArgs false
set_option maxRecDepth 100000
set_option maxHeartbeats 4000000
namespace Go.Proofs.YtalkinejknjidaaGreatDoor
open Go.SL Go.RowKit Go.Proofs Tryz
theorem lY {a b:P2}{p:P2}{n m:Nat}(hn:n≤400)(hm:m≤400):CTy prog 207 [ag (ptc n a),ag (ptc n b),pa (ptq m p)] (ag (rtc (20*(n+n+m)+100) (zM a b p.1))):=by
 refine fw [.cell 5 29] func207 fun X=>?_;iterate 4 refine u ?_
 refine u fun b5=>?_;repeat refine u ?_
 refine zB rfl rfl (pK (by omega) (by omega) (by omega)) ?_;iterate 3 refine u ?_
 refine u fun b6=>?_;refine u ?_;refine zO (zY (s:=6) 0 rfl rfl) ?_;repeat refine u ?_
 refine zD 0 rfl rfl ?_;repeat refine u ?_
 refine⟨[_],zL 0 rfl rs0,yD ?_⟩;rw[zcl];exact PSub.refl _
theorem yH3 {m:Mdl}{N K n:Nat}{c:CL}{p:P2}{s:Bool}(hN:N≤300)(hn:n≤300)(hk:c.1<4)(ha:c.2.1≤1000000000000)(hr:c.2.2.1≤1000000000000)(hx:m.xs.length≤1000000)(hw:∀ i,(m.wl.getD i Df.d).length≤1000000)(hv:∀ i,(m.lv.getD i Df.d).length≤1000000):CTy prog 125 [ag (mdT N m),ag (celT K c),ag (ptq n p),fn 208 [pa (xc (.int .i64 (dT s)))]] (exP (.bool (hasB s c.1 (clsM m c.1 c.2.1 c.2.2.1) p))):=by
 have hc:=yG5 (K:=K) (c:=c) (N:=N) (m:=m) (by omega) hk ha hr hx hw hv;rcases cls_cases m c.1 c.2.1 c.2.2.1 with e | ⟨x,e⟩ | ⟨x,y,e⟩ | ⟨x,y,z,u,e⟩
 ·rw[e] at hc ⊢;refine fw [.tmp 8] func125 fun X=>?_;repeat refine u ?_
  refine zB rfl rfl hc ?_;repeat refine u ?_
  refine gZ rfl rfl ?_;repeat refine u ?_
  refine gZ rfl rfl ?_;repeat refine u ?_
  refine gZ rfl rfl ?_;repeat refine u ?_
  refine⟨[_],rst rfl rs0,yD (PSub.refl _)⟩
 ·rw[e] at hc ⊢;refine fw [.tmp 8] func125 fun X=>?_;repeat refine u ?_
  refine zB rfl rfl hc ?_;repeat refine u ?_
  refine kD rfl rfl (zK 6 mixed rfl rfl ?_);repeat refine u ?_
  refine zC rfl rfl (lX (by omega) (by omega)) ?_;repeat refine u ?_
  refine⟨[_],rst rfl rs0,yD ?_⟩;refine psb ?_;show decide (cmpP x p=0)=decide (x=p);exact decide_eq_decide.2 (cZ.zero _ _)
 ·rw[e] at hc ⊢;refine fw [.tmp 8] func125 fun X=>?_;repeat refine u ?_
  refine zB rfl rfl hc ?_;repeat refine u ?_
  refine gZ rfl rfl ?_;repeat refine u ?_
  refine kD rfl rfl ?_;repeat refine u ?_
  refine tp (fun c2=>?_) fun c2=>?_;refine u ?_;refine zK 22 mixed rfl rfl ?_;repeat refine u ?_
  refine zC rfl rfl (pH (by omega) (by omega)) ?_;repeat refine u ?_
  refine d1g rfl rfl (oca rfl rfl fun g=>zW6 (by omega) (by omega) (by omega)) ?_;repeat refine u ?_
  refine⟨[_],rst rfl rs0,yD ?_⟩;refine psb ?_;rotate_left;refine u ?_;refine zK 26 mixed rfl rfl ?_;repeat refine u ?_
  refine zC rfl rfl (zW6 (by omega) (by omega) (by omega)) ?_;repeat refine u ?_
  refine d1g rfl rfl (oca rfl rfl fun g=>lY (by omega) (by omega)) ?_;refine d1g rfl rfl (ofa rfl rfl) ?_;repeat refine u ?_
  refine d1g rfl rfl (oca rfl rfl fun g=>pH (by omega) (by omega)) ?_;repeat refine u ?_
  refine⟨[_],rst rfl rs0,yD ?_⟩;refine psb ?_;rotate_left
  ·show _=if c.1=1 then _ else _;rw[if_pos (by omega)];rfl
  ·show _=if c.1=1 then _ else _;rw[if_neg (by omega)];rfl
 ·rw[e] at hc ⊢;refine fw [.tmp 8] func125 fun X=>?_;refine zR ?_;refine zZ rfl ?_;refine zA1 (obx rfl) ?_;refine zA1 (obx rfl) ?_;refine zA1 (obx rfl) ?_;refine zA1 (oas rfl) ?_;refine zA0 ?_;refine zS6 ?_;refine zR ?_;refine zZ rfl ?_;refine zA1 (old rfl rfl) ?_;refine zA1 (old rfl rfl) (zB rfl rfl hc ?_);refine zA1 (oas rfl) ?_;refine zA0 ?_;refine zR ?_;refine zZ rfl ?_;refine zA1 (omf rfl) ?_;refine zA1 (oas rfl) ?_;refine zA0 ?_;refine zR ?_;refine zS7 ?_;refine zR ?_;refine zR ?_;refine zZ rfl ?_;refine zA1 (omv rfl) ?_;refine zA1 (oln rfl) ?_;refine zA0 ?_;refine iG ?_;refine zR ?_;refine zZ rfl ?_;refine zA1 (oeq rfl rfl) ?_;refine zA1 (oas rfl) ?_;refine zA0 (gZ rfl rfl ?_);refine zR ?_;refine zZ rfl ?_;refine zA1 (oeq rfl rfl) ?_;refine zA1 (oas rfl) ?_;refine zA0 (gZ rfl rfl ?_);refine zR ?_;refine zZ rfl ?_;refine zA1 (oeq rfl rfl) ?_;refine zA1 (oas rfl) ?_;refine zA0 (kD rfl rfl (zK 35 mixed rfl rfl ?_));refine d1 (omv rfl) ?_;refine d1 (omv rfl) ?_;refine d1 (oix _ rfl rfl rfl (fun _=>rfl) (fun _=>(by(simp;done)))) ?_;refine d1 (ofa rfl rfl) ?_;refine d1 (old rfl rfl) ?_;refine d1 (ofa rfl rfl) ?_;refine d1 (old rfl rfl) ?_;refine d1 (omv rfl) ?_;refine d1 (oix _ rfl rfl rfl (fun _=>rfl) (fun _=>(by(simp;done)))) ?_;refine d1 (ofa rfl rfl) ?_;refine d1 (old rfl rfl) (zC rfl rfl (zW6 (by omega) (by omega) (by omega)) ?_);refine d1 (omv rfl) ?_;refine d1g rfl rfl (omv rfl) ?_;refine d1g rfl rfl (omv rfl) ?_;refine d1g rfl rfl (omv rfl) ?_;refine d1g rfl rfl (oix _ rfl rfl rfl (fun g=>rfl) (fun g=>(by(simp;done)))) ?_;refine d1g rfl rfl (old rfl rfl) ?_;refine d1g rfl rfl (omv rfl) ?_;refine d1g rfl rfl (oix _ rfl rfl rfl (fun g=>rfl) (fun g=>(by(simp;done)))) ?_;refine d1g rfl rfl (old rfl rfl) (d1g rfl rfl (oca rfl rfl fun g=>lY (by omega) (by omega)) ?_);refine d1g rfl rfl (ofa rfl rfl) ?_;refine d1g rfl rfl (old rfl rfl) ?_;refine d1g rfl rfl (omv rfl) ?_;refine d1g rfl rfl (omv rfl) ?_;refine d1g rfl rfl (oix _ rfl rfl rfl (fun g=>rfl) (fun g=>(by(simp;done)))) ?_;refine d1g rfl rfl (old rfl rfl) ?_;refine d1g rfl rfl (omv rfl) ?_;refine d1g rfl rfl (oix _ rfl rfl rfl (fun g=>rfl) (fun g=>(by(simp;done)))) ?_;refine d1g rfl rfl (old rfl rfl) (d1g rfl rfl (oca rfl rfl fun g=>lY (by omega) (by omega)) ?_);refine d1g rfl rfl (oca rfl rfl fun g=>zW6 (by omega) (by omega) (by omega)) ?_;refine d1 (opk rfl rfl rfl) ?_;refine d1 (oas rfl) ?_;refine d0 ?_;refine zA0 ?_;refine zR ?_;refine zZ rfl ?_;refine zA1 (omv rfl) ?_;refine zA1 (oas rfl) ?_;refine zA0 ?_;refine xJ (⟨[_],rst rfl rs0,yD (PSub.refl _)⟩)
theorem ksownQ {m:Mdl}{N K n:Nat}{c:CL}{p:P2}(hN:N≤300)(hn:n≤300)(hk:c.1<4)(ha:c.2.1≤1000000000000)(hr:c.2.2.1≤1000000000000)(hx:m.xs.length≤1000000)(hw:∀ i,(m.wl.getD i Df.d).length≤1000000)(hv:∀ i,(m.lv.getD i Df.d).length≤1000000):CTy prog 53 [ag (mdT N m),ag (celT K c),ag (ptq n p)] (exP (.bool (hasB true c.1 (clsM m c.1 c.2.1 c.2.2.1) p))):=by
 refine fw [.tmp 6] func53 fun X=>?_;iterate 8 refine u ?_
 refine zK 6 mixed rfl rfl ?_;repeat refine u ?_
 refine zC rfl rfl zK6 ?_;refine zC rfl rfl (yH3 (by omega) (by omega) hk ha hr hx hw hv) ?_;repeat refine u ?_
 exact e
theorem kstouchQ {m:Mdl}{N K n:Nat}{c:CL}{p:P2}(hN:N≤300)(hn:n≤300)(hk:c.1<4)(ha:c.2.1≤1000000000000)(hr:c.2.2.1≤1000000000000)(hx:m.xs.length≤1000000)(hw:∀ i,(m.wl.getD i Df.d).length≤1000000)(hv:∀ i,(m.lv.getD i Df.d).length≤1000000):CTy prog 54 [ag (mdT N m),ag (celT K c),ag (ptq n p)] (exP (.bool (hasB false c.1 (clsM m c.1 c.2.1 c.2.2.1) p))):=by
 refine fw [.tmp 6] func54 fun X=>?_;iterate 8 refine u ?_
 refine zK 6 mixed rfl rfl ?_;repeat refine u ?_
 refine zC rfl rfl zK6 ?_;refine zC rfl rfl (yH3 (by omega) (by omega) hk ha hr hx hw hv) ?_;repeat refine u ?_
 exact e
section
variable {ls : zF} (h : Prt ls)
include h
theorem ksownM {Ψ:PV}{N n a:Nat}{p:P2}[k:QP Ψ n p](hN:N≤300)(hn:n≤300)(ha:a<(modM ls).cs.length):CTy prog 53 [ag (mdT N (modM ls)),ag (celT N ((modM ls).cs.getD a Df.d)),Ψ] (exP (.bool (hasA true (modM ls) a p))):=by
 obtain⟨c,j,h1,-,e⟩:=nP ha;unfold hasA;rw[show (modM ls).cs.getD a Df.d=cellC ls c j from e];exact yI (ksownQ (c:=cellC ls c j) hN hn zX4.1 (lZ h h1).1 (lZ h h1).2 (zP2 h) (zP3 h) (zP4 h)) (fs1 (PSub.refl _) (fs1 (PSub.refl _) (fs1 qp_q fs0)))
theorem kstouchN {Ψ:PV}{N n a:Nat}{p:P2}[k:QP Ψ n p](hN:N≤300)(hn:n≤300)(ha:a<(modM ls).cs.length):CTy prog 54 [ag (mdT N (modM ls)),ag (celT N ((modM ls).cs.getD a Df.d)),Ψ] (exP (.bool (hasA false (modM ls) a p))):=by
 obtain⟨c,j,h1,-,e⟩:=nP ha;unfold hasA;rw[show (modM ls).cs.getD a Df.d=cellC ls c j from e];exact yI (kstouchQ (c:=cellC ls c j) hN hn zX4.1 (lZ h h1).1 (lZ h h1).2 (zP2 h) (zP3 h) (zP4 h)) (fs1 (PSub.refl _) (fs1 (PSub.refl _) (fs1 qp_q fs0)))
noncomputable def clsA (m:Mdl)(a:Nat):List P2:=clsM m (m.cs.getD a Df.d).1 (m.cs.getD a Df.d).2.1 (m.cs.getD a Df.d).2.2.1
theorem ksclosedM {N a:Nat}(hN:N≤300)(ha:a<(modM ls).cs.length):CTy prog 58 [ag (mdT N (modM ls)),ag (celT N ((modM ls).cs.getD a Df.d))] (sv (sl 6 ((clsA (modM ls) a).map (ptc (N+1))))):=by
 obtain⟨c,j,h1,-,e⟩:=nP ha;unfold clsA;rw[show (modM ls).cs.getD a Df.d=cellC ls c j from e];exact yG5 (c:=cellC ls c j) (by omega) zX4.1 (lZ h h1).1 (lZ h h1).2 (zP2 h) (zP3 h) (zP4 h)
end
theorem zR2 (x:Rat)(h:-1≤x∧x≤1):ycM [] 1 x=[-1,1]:=by
 rw[show (1:Nat)=2*0+1 from rfl,tO,wL,fL];unfold hsL jJ;simp only[zaG,zbe,Rat.sub_self,Rat.mul_zero,Rat.add_zero]
theorem wk_own {p:P2}:hasA true (modM []) 4 p=decide (-1<p.1∧p.1<1 ∧ -1<p.2∧p.2<1):=by
 have hc:=wM (c:=1) (j:=1) (by omega) (by omega);have e:=zL6 hc (s:=true) (p:=p);rw[nY.2.1] at e;rw[zcz,decide_eq_true_eq,show hasA true (modM []) 4 p=true↔_ from e];show posY (xsM []) 1 p.1∧posY (ycM [] 1 p.1) 1 p.2↔_;unfold posY;rw[fL,if_neg (by decide),if_neg (by decide)];constructor
 ·rintro⟨h1,h2⟩;rw[zR2 _ ⟨zaZ h1.1,zaZ h1.2⟩] at h2;exact⟨h1.1,h1.2,h2⟩
 ·rintro⟨h1,h2,h3⟩;rw[zR2 _ ⟨zaZ h1,zaZ h2⟩];exact⟨⟨h1,h2⟩,h3⟩
theorem wk_tou {p:P2}:hasA false (modM []) 4 p=decide (-1≤p.1∧p.1≤1 ∧ -1≤p.2∧p.2≤1):=by
 have hc:=wM (c:=1) (j:=1) (by omega) (by omega);have e:=zL6 hc (s:=false) (p:=p);rw[nY.2.1] at e;rw[zcz,decide_eq_true_eq,show hasA false (modM []) 4 p=true↔_ from e];show cloY (xsM []) 1 p.1∧cloY (ycM [] 1 p.1) 1 p.2↔_;unfold cloY;rw[fL,if_neg (by decide),if_neg (by decide)];constructor
 ·rintro⟨h1,h2⟩;rw[zR2 _ h1] at h2;exact⟨h1.1,h1.2,h2⟩
 ·rintro⟨h1,h2,h3⟩;rw[zR2 _ ⟨h1,h2⟩];exact⟨⟨h1,h2⟩,h3⟩
theorem wk_num:numZ (modM []).cs 3 0 0 4:=by
 have h:=num_own (ls:=[]) (wM (c:=1) (j:=1) (by omega) (by omega));rw[nY.2.1] at h;exact h
theorem yM5:(modM []).cs.getD 4 Df.d=cellC [] 1 1:=by
 have:=wF (d:=Df.d) (wM (c:=1) (j:=1) (by omega) (by omega));rw[nY.2.1] at this;exact this
theorem sJ:CTy prog 51 [] (exP (.bool true)):=by
 have kb:CTy prog 52 [exP (.slice none 0 0)] (ag (mdT 65 (modM []))):=yI (zW8 prt0) (fs1 lR fs0);have kn:=knumber (N:=65) (m:=modM []) (k:=3) (a:=0) (r:=0) (by rw[wk_n];omega) wk_num;have h4:4<(modM []).cs.length:=by rw[wk_n];omega
 have ko:=fun {p:P2}=>ksownM prt0 (Ψ:=ag (ptc 2 p)) (N:=65) (by omega) (by omega) h4;have kt:=fun {p:P2}=>kstouchN prt0 (Ψ:=ag (ptc 2 p)) (N:=65) (by omega) (by omega) h4;have kc:=ksclosedM prt0 (N:=65) (by omega) h4;have e2:((modM []).cs.getD 4 Df.d).2.2.2=(0,0):=by rw[yM5,zX4.2.2.2.2];exact wk_rep.2
 have eo:=@wk_own;have et:=@wk_tou;have ec:(clsA (modM []) 4).length=4:=by
  unfold clsA;rw[yM5];exact cls_len (wM (c:=1) (j:=1) (by omega) (by omega))
 have ex:(modM []).xs.length=2:=by show (xsM []).length=2;rw[fL];rfl
 have en:=wk_n;generalize modM []=m at *;refine fw [.tmp 0] func51 fun X=>?_;repeat refine u ?_
 refine zB rfl rfl kb ?_;refine u fun b1=>?_;refine zD 0 rfl rfl (zO (zY (s:=1) 0 rfl rfl) ?_);repeat refine u ?_
 refine zB rfl rfl kn ?_;iterate 3 refine u ?_
 refine zK 62 mixed rfl rfl ?_;repeat refine u ?_
 refine d1g rfl rfl (oca rfl rfl fun g=>k8of (by(simp;done)) (by(simp;done))) ?_;refine d1g rfl rfl (oca rfl rfl fun _=>k8alike (p:=(m.cs.getD 4 Df.d).2.2.2) (q:=(((0:Nat):Rat),((0:Nat):Rat))) (by omega) (by omega)) ?_;repeat refine u ?_
 refine d1g rfl rfl (ofa rfl rfl) ?_;repeat refine u ?_
 refine d1g rfl rfl (oca rfl rfl fun g=>k8of (by(simp;done)) (by(simp;done))) ?_;refine d1g rfl rfl (oca rfl rfl fun _=>ko (p:=(((0:Nat):Rat),((0:Nat):Rat)))) ?_;repeat refine u ?_
 refine d1g rfl rfl (old rfl rfl) ?_;refine d1g rfl rfl (ofa rfl rfl) ?_;repeat refine u ?_
 refine d1g rfl rfl (oca rfl rfl fun g=>k8of (by(simp;done)) (by(simp;done))) ?_;refine d1g rfl rfl (oca rfl rfl fun _=>ko (p:=(((1:Nat):Rat),((1:Nat):Rat)))) ?_;repeat refine u ?_
 refine d1g rfl rfl (old rfl rfl) ?_;refine d1g rfl rfl (ofa rfl rfl) ?_;repeat refine u ?_
 refine d1g rfl rfl (oca rfl rfl fun g=>k8of (by(simp;done)) (by(simp;done))) ?_;refine d1g rfl rfl (oca rfl rfl fun _=>kt (p:=(((1:Nat):Rat),((1:Nat):Rat)))) ?_;repeat refine u ?_
 refine d1g rfl rfl (old rfl rfl) ?_;refine d1g rfl rfl (ofa rfl rfl) ?_;repeat refine u ?_
 refine d1g rfl rfl (oca rfl rfl fun _=>kc) ?_;repeat refine u ?_
 refine e ?_;refine psb ?_;rw[ex,en,e2,eo,eo,et,ec];decide +kernel
theorem kseqR {l:List Rat}{n:Nat}(hn:n≤300)(hl:l.length≤100000000):CTy prog 136 [sv (sl 3 (l.map (rtc n))),sv (sl 3 (l.map (rtc n))),exP (.func (.func 137) #[] #[])] (exP (.bool true)):=by
 refine fw [.tmp 6] func136 fun X=>?_;repeat refine u ?_
 refine tp (fun c0=>(by omega)) fun c0=>?_;repeat refine u ?_
 refine lp (σ:=Nat) [1,2,15,16] (fun k=>[(17,True,zJ k)]) (fun k=>[]) (fun k=>k≤l.length) (fun k=>l.length-k) (0) ((by simp)) fun k hJ Y _=>?_;repeat refine u ?_
 refine tp (fun c1=>?_) fun c1=>?_;iterate 8 refine u ?_
 refine u fun b8=>?_;iterate 2 refine u ?_
 refine zO (zY (s:=8) 0 rfl rfl) ?_;iterate 7 refine u ?_
 refine u fun b9=>?_;refine u ?_;refine zO (zY (s:=9) 0 rfl rfl) ?_;repeat refine u ?_
 refine zB rfl rfl (pH (by omega) (by omega)) ?_;repeat refine u ?_
 refine tp (fun c2=>?_) fun c2=>?_;rotate_left;repeat refine u ?_
 rotate_left;repeat refine u ?_
 exact e
 ·exact absurd rfl c2
 ·refine⟨k+1,tes ?_ ?_ (zaa _),(by omega),(by omega)⟩;refine zA rfl tn;refine zA rfl (zA rfl (zA rfl (zA rfl tn)))
theorem yQ0 {l:List Rat}{n:Nat}(hn:n≤300)(hl:l.length≤100000000):CTy prog 135 [sv (sl 3 (l.map (rtc n))),sv (sl 3 (l.map (rtc n)))] (exP (.bool true)):=by
 refine fw [.tmp 4] func135 fun X=>?_;repeat refine u ?_
 refine zB rfl rfl (kseqR (by omega) (by omega)) ?_;repeat refine u ?_
 exact e
theorem kseqW {ls:List (List Rat)}{n:Nat}(hn:n≤300)(hl:ls.length≤100000000)(hw:∀ l∈ls,l.length≤100000000):CTy prog 141 [sv (sl 1 (ls.map fun l=>sl 3 (l.map (rtc n)))),sv (sl 1 (ls.map fun l=>sl 3 (l.map (rtc n)))),exP (.func (.func 135) #[] #[])] (exP (.bool true)):=by
 refine fw [.tmp 6] func141 fun X=>?_;repeat refine u ?_
 refine tp (fun c0=>(by omega)) fun c0=>?_;repeat refine u ?_
 refine lp (σ:=Nat) [1,2,15,16] (fun k=>[(17,True,zJ k)]) (fun k=>[]) (fun k=>k≤ls.length) (fun k=>ls.length-k) (0) ((by simp)) fun k hJ Y _=>?_;repeat refine u ?_
 refine tp (fun c1=>?_) fun c1=>?_;repeat refine u ?_
 refine zB rfl rfl (yQ0 (by omega) ?_) ?_;rotate_left;repeat refine u ?_
 refine tp (fun c2=>?_) fun c2=>?_;rotate_left;repeat refine u ?_
 rotate_left;repeat refine u ?_
 exact e
 ·exact hw _ (xL (by omega))
 ·exact absurd rfl c2
 ·refine⟨k+1,tes ?_ ?_ (zaa _),(by omega),(by omega)⟩;refine zA rfl tn;refine zA rfl (zA rfl (zA rfl (zA rfl tn)))
theorem kseqV {p:P2}{n:Nat}(hn:n≤300):CTy prog 87 [ag (ptc n p),ag (ptc n p)] (exP (.bool true)):=by
 refine fw [.tmp 4] func87 fun X=>?_;repeat refine u ?_
 refine zB rfl rfl (vQ (by omega) (by omega)) ?_;repeat refine u ?_
 refine t1g rfl rfl (oca rfl rfl fun g=>vQ (by omega) (by omega)) ?_;repeat refine u ?_
 exact e
theorem kseqL {l:List P2}{n:Nat}(hn:n≤300)(hl:l.length≤100000000):CTy prog 88 [sv (pcc n l),sv (pcc n l),exP (.func (.func 87) #[] #[])] (exP (.bool true)):=by
 refine fw [.tmp 6] func88 fun X=>?_;repeat refine u ?_
 refine tp (fun c0=>(by omega)) fun c0=>?_;repeat refine u ?_
 refine lp (σ:=Nat) [1,2,15,16] (fun k=>[(17,True,zJ k)]) (fun k=>[]) (fun k=>k≤l.length) (fun k=>l.length-k) (0) ((by simp)) fun k hJ Y _=>?_;repeat refine u ?_
 refine tp (fun c1=>?_) fun c1=>?_;iterate 8 refine u ?_
 refine u fun b8=>?_;repeat refine u ?_
 refine zD 0 rfl rfl (zO (zY (s:=8) 0 rfl rfl) ?_);iterate 7 refine u ?_
 refine u fun b9=>?_;refine zD 0 rfl rfl (zO (zY (s:=9) 0 rfl rfl) ?_);repeat refine u ?_
 refine zB rfl rfl (kseqV (by omega)) ?_;repeat refine u ?_
 refine tp (fun c2=>?_) fun c2=>?_;rotate_left;repeat refine u ?_
 rotate_left;repeat refine u ?_
 exact e
 ·exact absurd rfl c2
 ·refine⟨k+1,tes ?_ ?_ (zaa _),(by omega),(by omega)⟩;refine zA rfl tn;refine zA rfl (zA rfl (zA rfl (zA rfl tn)))
theorem kseqS {l:List P2}{n:Nat}(hn:n≤300)(hl:l.length≤100000000):CTy prog 24 [sv (pcc n l),sv (pcc n l)] (exP (.bool true)):=by
 refine fw [.tmp 4] func24 fun X=>?_;repeat refine u ?_
 refine zB rfl rfl (kseqL (by omega) (by omega)) ?_;repeat refine u ?_
 exact e
theorem kseqT {ls:zF}{n:Nat}(hn:n≤300)(hl:ls.length≤100000000)(hw:∀ l∈ls,l.length≤100000000):CTy prog 140 [sv (sl 1 (ls.map (pcc n))),sv (sl 1 (ls.map (pcc n))),exP (.func (.func 24) #[] #[])] (exP (.bool true)):=by
 refine fw [.tmp 6] func140 fun X=>?_;repeat refine u ?_
 refine tp (fun c0=>(by omega)) fun c0=>?_;repeat refine u ?_
 refine lp (σ:=Nat) [1,2,15,16] (fun k=>[(17,True,zJ k)]) (fun k=>[]) (fun k=>k≤ls.length) (fun k=>ls.length-k) (0) ((by simp)) fun k hJ Y _=>?_;repeat refine u ?_
 refine tp (fun c1=>?_) fun c1=>?_;repeat refine u ?_
 refine zB rfl rfl (kseqS (by omega) ?_) ?_;rotate_left;repeat refine u ?_
 refine tp (fun c2=>?_) fun c2=>?_;rotate_left;repeat refine u ?_
 rotate_left;repeat refine u ?_
 exact e
 ·exact hw _ (xL (by omega))
 ·exact absurd rfl c2
 ·refine⟨k+1,tes ?_ ?_ (zaa _),(by omega),(by omega)⟩;refine zA rfl tn;refine zA rfl (zA rfl (zA rfl (zA rfl tn)))
theorem kseqC {c:CL}{n:Nat}(hn:n≤300):CTy prog 138 [ag (celT n c),ag (celT n c)] (exP (.bool true)):=by
 refine fw [.tmp 4] func138 fun X=>?_;repeat refine u ?_
 refine t1g rfl rfl (oca rfl rfl fun g=>lX (by omega) (by omega)) ?_;repeat refine u ?_
 refine e ?_;refine psb ?_;rw[decide_eq_true (xG.2 rfl)];simp
theorem kseqD {l:List CL}{n:Nat}(hn:n≤300)(hl:l.length≤100000000):CTy prog 142 [sv (sl 9 (l.map (celT n))),sv (sl 9 (l.map (celT n))),exP (.func (.func 138) #[] #[])] (exP (.bool true)):=by
 refine fw [.tmp 6] func142 fun X=>?_;repeat refine u ?_
 refine tp (fun c0=>(by omega)) fun c0=>?_;repeat refine u ?_
 refine lp (σ:=Nat) [1,2,15,16] (fun k=>[(17,True,zJ k)]) (fun k=>[]) (fun k=>k≤l.length) (fun k=>l.length-k) (0) ((by simp)) fun k hJ Y _=>?_;repeat refine u ?_
 refine tp (fun c1=>?_) fun c1=>?_;iterate 8 refine u ?_
 refine u fun b8=>?_;repeat refine u ?_
 refine zD 0 rfl rfl (zO (zY (s:=8) 0 rfl rfl) ?_);iterate 7 refine u ?_
 refine u fun b9=>?_;refine zD 0 rfl rfl (zO (zY (s:=9) 0 rfl rfl) ?_);repeat refine u ?_
 refine zB rfl rfl (kseqC (by omega)) ?_;repeat refine u ?_
 refine tp (fun c2=>?_) fun c2=>?_;rotate_left;repeat refine u ?_
 rotate_left;repeat refine u ?_
 exact e
 ·exact absurd rfl c2
 ·refine⟨k+1,tes ?_ ?_ (zaa _),(by omega),(by omega)⟩;refine zA rfl tn;refine zA rfl (zA rfl (zA rfl (zA rfl tn)))
theorem kssameM {m:Mdl}(h1:m.xs.length≤1000000)(h2:m.lv.length≤1000000)(h3:m.wl.length≤1000000)(h4:m.cs.length≤100000000)(h5:∀ l∈m.lv,l.length≤1000000)(h6:∀ l∈m.wl,l.length≤1000000):CTy prog 60 [ag (mdT 65 m),ag (mdT 65 m)] (exP (.bool true)):=by
 refine fw [.tmp 4] func60 fun X=>?_;repeat refine u ?_
 refine zB rfl rfl (lX (by omega) (by omega)) ?_;repeat refine u ?_
 refine t1g rfl rfl (oca rfl rfl fun g=>lX (by omega) (by omega)) ?_;repeat refine u ?_
 refine t1g rfl rfl (oca rfl rfl fun g=>yQ0 (by omega) (by omega)) ?_;repeat refine u ?_
 refine t1g rfl rfl (ofa rfl rfl) ?_;repeat refine u ?_
 refine t1g rfl rfl (ofa rfl rfl) ?_;repeat refine u ?_
 refine t1g rfl rfl (oca rfl rfl fun g=>kseqT (by omega) (by omega) (fun l hl=>zac (h5 l hl) (by omega))) ?_;repeat refine u ?_
 refine t1g rfl rfl (ofa rfl rfl) ?_;repeat refine u ?_
 refine t1g rfl rfl (ofa rfl rfl) ?_;repeat refine u ?_
 refine t1g rfl rfl (omv rfl) (t1g rfl rfl (oca rfl rfl fun g=>kseqW (by omega) (by omega) (fun l hl=>zac (h6 l hl) (by omega))) ?_);repeat refine u ?_
 refine t1g rfl rfl (ofa rfl rfl) ?_;repeat refine u ?_
 refine t1g rfl rfl (ofa rfl rfl) ?_;repeat refine u ?_
 refine t1g rfl rfl (omv rfl) (t1g rfl rfl (oca rfl rfl fun g=>kseqD (by omega) (by omega)) ?_);repeat refine u ?_
 refine e ?_;refine psb ?_;rw[decide_eq_true (xG.2 rfl),decide_eq_true (xG.2 rfl)];rfl
def cntW {α:Type}(l:List (List α)):Nat→Nat
 | 0=>0
 | k+1=>cntW l k+(2*(l.getD k []).length-1)
theorem wD {α:Type}{l:List (List α)}{B:Nat}(h:∀ i,i<l.length→(l.getD i []).length≤B):∀ {k},k≤l.length→cntW l k≤k*(2*B)
 | 0,_=>zaD _
 | k+1,hk=>by
  have:=wD h (k:=k) (by omega);have:=h k (by omega);rw[zaQ];show cntW l k+_≤_;omega
theorem tF {xs:List Rat}{lv:zF}{wl:List (List Rat)}(h1:wl.length=xs.length)(h2:lv.length=xs.length-1):∀ k,k≤xs.length→((List.range k).map (cellsI xs lv wl)).flatten.length=cntW wl k+cntW lv (min k (xs.length-1))
 | 0,_=>by rw[Nat.zero_min];rfl
 | k+1,hk=>by
  rw[zbv,zay,zbS,zal,tF h1 h2 k (by omega)];have e:(cellsI xs lv wl k).length=(2*(wl.getD k []).length-1)+if k+1<xs.length then 2*(lv.getD k []).length-1 else 0:=by
   unfold cellsI colL;rw[zal,if_pos (by omega),zar,zcD];congr 1;by_cases h:k+1<xs.length
   ·rw[if_pos ⟨by omega,h⟩,if_pos h,zar,zcD,vS]
   ·rw[if_neg (fun x=>h x.2),if_neg h];rfl
  simp only[zaG,zbe,List.flatten_cons,List.flatten_nil,zas];rw[e];show _=cntW wl k+_+_;by_cases h:k+1<xs.length
  ·rw[if_pos h,zaS (show k+1≤xs.length-1 by omega),zaS (show k≤xs.length-1 by omega)];show _=_+(cntW lv k+_);omega
  ·rw[if_neg h,Nat.min_eq_right (show xs.length-1≤k+1 by omega),Nat.min_eq_right (show xs.length-1≤k by omega)];omega
theorem kscellsF {ls:zF}(h:Prt ls):CTy prog 59 [ag (mdT 65 (modM ls))] (sv (sl 9 ((modM ls).cs.map (celT 300)))) :=
 zW7 (K:=65) (n:=65) (m:=65) (q:=65) (N:=300) (b:=zQ ls) (by omega) (by omega) (by omega) (fun x hx=>zN (iC h.fp h.bx hx) (by omega)) (aT ls) (fun l hl=>by
  obtain⟨i,hi,rfl⟩:=zai.1 hl;have hi:=zbq.1 hi;exact⟨by have:=eK h i;omega,fun y hy=>zN (wl_r h hi (yB7.1 hy)) (by omega)⟩) (fun l hl=>by
  obtain⟨i,hi,rfl⟩:=zai.1 hl;have:=aI h i;omega) (fun i hi hi2 y hy=>zN (hs_r h hi2 (by rw[← cC hi2];exact hy)) (by omega)) (by omega) (by omega) (by omega) (by omega) (by omega) (dB h)
theorem counts_pre {ls:zF}(h:Prt ls):∃ m:Mdl,CTy prog 52 [sv (sl 1 (ls.map (pcc 1)))] (ag (mdT 65 m))∧CTy prog 59 [ag (mdT 65 m)] (sv (sl 9 (m.cs.map (celT 300))))∧CTy prog 60 [ag (mdT 65 m),ag (mdT 65 m)] (exP (.bool true)) ∧
  m.wl.length=m.xs.length∧m.lv.length+1=m.xs.length∧m.xs.length≤10000∧m.cs.length≤3460000 ∧
  (∀ i,i<m.wl.length→2≤(m.wl.getD i Df.d).length∧(m.wl.getD i Df.d).length≤87∧(m.wl.getD i Df.d).getD 0 Df.d=m.b.1.2∧(m.wl.getD i Df.d).getD ((m.wl.getD i Df.d).length-1) Df.d=m.b.2.2) ∧
  (∀ i,i<m.lv.length→2≤(m.lv.getD i Df.d).length∧(m.lv.getD i Df.d).length≤29) ∧
  m.cs.length=cntW m.wl m.wl.length+cntW m.lv m.lv.length:=by
 have hx:=dB h;have hx2:=(xs_ends ls).1;have e1:(modM ls).wl.length=(modM ls).xs.length:=by show (wlsM ls).length=(xsM ls).length;unfold wlsM;rw[List.length_map,List.length_range]
 have e2:(modM ls).lv.length=(modM ls).xs.length-1:=by show (lvsM ls).length=(xsM ls).length-1;unfold lvsM;rw[List.length_map,List.length_range]
 have hx:(modM ls).xs.length≤10000:=hx;have hx2:2≤(modM ls).xs.length:=hx2;have eW:∀ i,i<(modM ls).wl.length→(modM ls).wl.getD i Df.d=wlM ls i:=fun i hi=>nW (by rw[e1] at hi;exact hi);have eL:∀ i,i<(modM ls).lv.length→(modM ls).lv.getD i Df.d=lvM ls i:=fun i hi=>cC (show i+1<(xsM ls).length by have e:(modM ls).xs.length=(xsM ls).length:=rfl;omega);refine⟨modM ls,zW8 h,kscellsF h,kssameM (by omega) (by omega) (by omega) (zac (yA4 h) (by omega)) (fun l hl=>?_) (fun l hl=>?_),e1,by omega,hx,yA4 h,fun i hi=>?_,fun i hi=>?_,?_⟩
 ·obtain⟨i,hi,rfl⟩:=zai.1 hl;have:=aI h i;omega
 ·obtain⟨i,hi,rfl⟩:=zai.1 hl;have:=eK h i;omega
 ·rw[eW i hi];have k:=wl_ends h.hull (i:=i) (by rw[e1] at hi;exact hi);exact⟨k.1,eK h i,k.2.1,k.2.2⟩
 ·rw[eL i hi];exact⟨(yP4 h.hull (j:=i) (show i+1<(xsM ls).length by have e:(modM ls).xs.length=(xsM ls).length:=rfl;omega)).2.1,aI h i⟩
 ·have k:=tF e1 e2 (modM ls).xs.length (zab _);rw[Nat.min_eq_right (Nat.sub_le _ _),← e2] at k;rw[e1];exact k
theorem law_StrataCounts {r:List PX}{ts:List TX3}:CTy prog 12 [sv (pcx r),sv (sl 18 (ts.map trx))] (exP (.bool true)):=by
 refine fw [.tmp 4] func12 fun X=>?_;repeat refine u ?_
 refine zB rfl rfl k24fewL ?_;repeat refine u ?_
 refine tp (fun c0=>?_) fun c0=>?_;repeat refine u ?_
 refine zB rfl rfl sJ ?_;repeat refine u ?_
 exact e;have hf:fewL r ts=true:=Classical.byContradiction fun w=>c0 w;have kp:=k26pieces (zY7 hf);obtain⟨m,kb,kC,kS,h1,h2,h3,hl,hW,hL,hn⟩:=counts_pre (yO3 (zY7 hf));generalize piecesX r ts=ls at *;have bW:=fun {k}=>wD (l:=m.wl) (B:=87) (fun i hi=>(hW i hi).2.1) (k:=k);have bL:=fun {k}=>wD (l:=m.lv) (B:=29) (fun i hi=>(hL i hi).2) (k:=k);repeat refine u ?_
 refine zB rfl rfl kp ?_;refine zB rfl rfl kb ?_;refine u fun b5=>?_;refine zD 0 rfl rfl (zO (zY (s:=5) 0 rfl rfl) ?_);repeat refine u ?_
 refine tp (fun c1=>(by omega)) fun c1=>?_;repeat refine u ?_
 refine yZ (σ:=Nat) (fun i=>[(7,True,zJ i),(6,True,exP (.int .i64 ((cntW m.wl i:Nat):Int)))]) (fun i=>[]) (fun i=>i≤m.wl.length) (fun i=>m.wl.length-i) (0) (tk 5 rfl tn) ?_ rfl ((by omega)) (fun i hJ Y _=>?_);refine zA rfl (zA rfl tn);have hi:=bW hJ;have hA:i<m.wl.length→2≤(m.wl.getD i Df.d).length∧(m.wl.getD i Df.d).length≤87:=fun k=>⟨(hW i k).1,(hW i k).2.1⟩;have eA:cntW m.wl (i+1)=cntW m.wl i+(2*(m.wl.getD i Df.d).length-1):=rfl;repeat refine u ?_
 refine tp (fun c2=>?_) fun c2=>?_;iterate 23 refine u ?_
 refine zK 28 mixed rfl rfl ?_;repeat refine u ?_
 refine d1g rfl rfl (oca rfl rfl fun g=>zK9 (by omega) (by omega)) ?_;repeat refine u ?_
 refine d1g rfl rfl (ofa rfl rfl) ?_;repeat refine u ?_
 refine d1g rfl rfl (oca rfl rfl fun g=>zK9 (by omega) (by omega)) ?_;repeat refine u ?_
 refine tp (fun c3=>?_) fun c3=>?_;rotate_left;repeat refine u ?_
 refine zA1 (omv rfl) ?_;repeat refine u ?_
 rotate_left;repeat refine u ?_
 rotate_left
 ·have k:=hW i (by omega);rcases c3 with(c | c) | c
  ·omega
  ·exact absurd (xC.2 k.2.2.1) c
  ·exact absurd (xC.2 k.2.2.2) c
 ·refine⟨i+1,tes ?_ ?_ (zaa _),(by omega),(by omega)⟩;refine zA rfl (tc rfl (ps_i (by omega)) (tn));refine zA rfl tn
 ·obtain rfl:i=m.wl.length:=by omega
  clear eA hA;refine yZ (σ:=Nat) (fun j=>[(9,True,zJ j),(6,True,exP (.int .i64 ((cntW m.wl m.wl.length+cntW m.lv j:Nat):Int)))]) (fun j=>[]) (fun j=>j≤m.lv.length) (fun j=>m.lv.length-j) (0) (tk 5 rfl tn) ?_ rfl ((by omega)) (fun j hJ Y _=>?_);refine zA rfl (zA rfl tn);have hj:=bL hJ;have hB:j<m.lv.length→2≤(m.lv.getD j Df.d).length∧(m.lv.getD j Df.d).length≤29:=hL j;have eB:cntW m.lv (j+1)=cntW m.lv j+(2*(m.lv.getD j Df.d).length-1):=rfl;repeat refine u ?_
  refine tp (fun c3=>?_) fun c3=>?_;repeat refine u ?_
  rotate_left;repeat refine u ?_
  refine t1g rfl rfl (oca rfl rfl fun g=>kC) ?_;repeat refine u ?_
  refine t1g rfl rfl (oca rfl rfl fun g=>kS) ?_;repeat refine u ?_
  refine t1g rfl rfl (oca rfl rfl fun _=>sJ) ?_;repeat refine u ?_
  refine e ?_;refine psb ?_;rotate_left
  ·exact nxt (j+1) (by omega)
  ·obtain rfl:j=m.lv.length:=by omega
   rw[hn];simp
end Go.Proofs.YtalkinejknjidaaGreatDoor
