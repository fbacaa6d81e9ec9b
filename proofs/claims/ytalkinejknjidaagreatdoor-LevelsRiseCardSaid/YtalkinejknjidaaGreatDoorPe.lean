/- Lemmas and walks of functions; no statement. -/
import Derived.Test.YtalkinejknjidaaGreatDoorPd
set_option linter.unusedVariables false
set_option linter.unusedSimpArgs false
set_option maxRecDepth 100000
set_option maxHeartbeats 4000000
namespace Go.Proofs.YtalkinejknjidaaGreatDoor
open Go.SL Go.RowKit Go.Proofs Tryz
section
variable {xs ys : List Nat} {Ψ Φ : PV}
theorem yA7 [h:VX Ψ xs] (hl:xs.length≤1000000000):CTy prog 165 [Ψ] (tu [exP (.int .u64 ((uC (val xs):Nat):Int)),exP (.bool (decide (val xs < 18446744073709551616)))]):=yG (k1smallx hl) (fs1 vx_q fs0)
theorem yP1 [h:VX Ψ xs] [k:VX Φ ys] (hl:xs.length≤100000) (hm:ys.length≤100000) (h0:val ys ≠ 0):CTy prog 169 [Ψ,Φ] (tu [sv (ntx (limbs (val xs / val ys))),sv (ntx (limbs (val xs % val ys))),exP (.int .i64 0)]):=yG (k3divx hl hm h0) (fs1 vx_q (fs1 vx_q fs0))
end
theorem bC {n m:Nat} {p q:Rat} (h:n≤m) (e:p=q):PSub (ag (rtc n p)) (ag (rtc m q)):=fun _ _ _ ⟨us,e1,s,a,d,e2,g⟩=>⟨us,e1,s,a,d,e2,by subst e; exact g.up h⟩
theorem kgcd {Ψ Φ:PV} {xs ys:List Nat} [h:VX Ψ xs] [k:VX Φ ys] (hx:∀ x ∈ xs,x < 4294967296) (hy:∀ x ∈ ys,x < 4294967296) (h1:xs.length≤2000) (h2:ys.length≤2000):CTy prog 168 [Ψ,Φ] (sv (ntx (limbs (Nat.gcd (val xs) (val ys))))):=yG (kgcd4 hx hy h1 h2) (fs1 vx_q (fs1 vx_q fs0))
theorem aR {x k:Nat} (hk:k ≠ 0) (c:Tr ((decide (val (limbs x) < 18446744073709551616) && decide (k < 18446744073709551616))=true)):uC (val (limbs x))=x∧uC k=k∧0 < Nat.gcd x k∧x < 18446744073709551616∧k < 18446744073709551616:=by
 have h:=dand c
 rw [zJ] at h ⊢
 exact ⟨if_pos h.1,if_pos h.2,Nat.gcd_pos_of_pos_right _ (Nat.pos_of_ne_zero hk),h.1,h.2⟩
theorem yL6 {a:Bool × List Nat} {ds:List Nat} {n m:Nat} (ha:∀ x ∈ a.2,x < 4294967296) (hd:∀ x ∈ ds,x < 4294967296) (hla:a.2.length≤n) (hld:ds.length≤m) (hn:n≤2000) (hm:m≤2000):CTy prog 90 [ag (itx a),sv (ntx ds)] (tu [ag (rtc (max n m + 2) (mkRat (zx a) (val ds))),exP (.int .i64 (if val ds=0 then 30 else 0))]):=by
 have hzl:(limbs (zx a).natAbs).length≤n:=by rw [nL a]; exact Nat.le_trans (xZ ha) hla
 have hkl:(limbs (val ds)).length≤m:=Nat.le_trans (xZ hd) hld
 have ek:=@zM (val ds)
 have sA:uC (val (limbs (zx a).natAbs)) < 18446744073709551616:=by unfold uC; split <;> omega
 have sB:uC (val ds) < 18446744073709551616:=by unfold uC; split <;> omega
 have hgl:val ds ≠ 0→(limbs (Nat.gcd (zx a).natAbs (val ds))).length≤m:=fun h=>Nat.le_trans (yC (Nat.gcd_le_right _ (Nat.pos_of_ne_zero h))) hkl
 have hq1:∀ g,(limbs ((zx a).natAbs / g)).length≤n:=fun g=>Nat.le_trans (yC (Nat.div_le_self _ _)) hzl
 have hq2:∀ g,(limbs (val ds / g)).length≤m:=fun g=>Nat.le_trans (yC (Nat.div_le_self _ _)) hkl
 have hz:Tr (decide (((limbs (val ds)).length:Int)=0)=false)→val ds ≠ 0:=fun c e=>df c (by omega)
 have hfin:∀ N,val ds ≠ 0→PSub (ag (st [ztc N (if decide (zx a < 0)=true then -((val (limbs ((zx a).natAbs / (zx a).natAbs.gcd (val ds))):Nat):Int) else ((val (limbs ((zx a).natAbs / (zx a).natAbs.gcd (val ds))):Nat):Int)),ntx (limbs (val ds / (zx a).natAbs.gcd (val ds)))])) (ag (rtc (max N m) (mkRat (zx a) (val ds)))):=fun N h =>
  zY4 (num_eq h) (bU (z:=zx a) h).2.2.symm (by omega) (Nat.le_trans (hq2 _) (by omega))
 have hup:∀ {N K:Nat} {q:Rat},N≤K→PSub (ag (rtc N q)) (ag (rtc K q)):=fun h=>bC h rfl
 refine fw [.cell 4 29,.tmp 5] func90 fun X=>?_
 iterate 2 refine u ?_
 refine tbx rfl fun b2=>(u fun b4=>?_)
 repeat refine u ?_
 refine zA1 (oca rfl rfl fun _=>gX (by omega)) ?_
 repeat refine u ?_
 refine ti (fun c0=>?_) fun c0=>?_
 repeat refine u ?_
 refine zA1 (oca rfl rfl fun _=>k7of (by (simp; done))) ?_
 repeat refine u ?_
 refine e ⟨?_,?_⟩
 rotate_left 1
 refine ps_i (by (have e0:=dt c0; omega))
 repeat refine u ?_
 refine zA1 (oca rfl rfl fun _=>aB (by omega)) ?_
 repeat refine u ?_
 refine zA1 (oldf 1 1 rfl rfl rfl rfl) ?_
 refine zA1 (oca rfl rfl fun _=>yA7 (by omega)) ?_
 repeat refine u ?_
 refine zA1 (oca rfl rfl fun _=>yA7 (by omega)) ?_
 repeat refine u ?_
 refine ti (fun c1=>?_) fun c1=>?_
 repeat refine u ?_
 refine zA1 (oca rfl rfl fun _=>kplain7 (by omega) (by omega)) ?_
 iterate 3 refine u ?_
 refine zL 13 mixed rfl rfl ?_
 repeat refine u ?_
 refine d1 (oldf 1 0 rfl rfl rfl rfl) ?_
 repeat refine u ?_
 refine d1 (oquw rfl rfl ?_) ?_
 rotate_left 1
 refine d1 (oca rfl rfl fun _=>k1of ?_) ?_
 rotate_left 1
 repeat refine u ?_
 refine d1 (oca rfl rfl fun _=>aB ?_) ?_
 rotate_left 1
 repeat refine u ?_
 refine d1 (oquw rfl rfl ?_) ?_
 rotate_left 1
 refine d1 (oca rfl rfl fun _=>k1of ?_) ?_
 rotate_left 1
 repeat refine u ?_
 refine tst 0 rfl rfl rfl rfl rfl rfl ?_
 repeat refine u ?_
 refine ⟨[_,_],rsc 0 rfl rfl rfl rfl (rst rfl rs0),aV ?_ ?_⟩
 rotate_left 1
 refine ps_i (by (have e0:=df c0; have e1:=dand c1; omega))
 repeat refine u ?_
 refine zA1 (oldf 1 1 rfl rfl rfl rfl) ?_
 repeat refine u ?_
 refine zA1 (oca rfl rfl fun _=>kgcd (yQ _) hd (by omega) (by omega)) ?_
 repeat refine u ?_
 refine zA1 (oldf 1 1 rfl rfl rfl rfl) ?_
 repeat refine u ?_
 refine zA1 (oca rfl rfl fun _=>yP1 (by omega) ?_ ?_) ?_
 rotate_left 1
 rotate_left 1
 repeat refine u ?_
 refine zA1 (omv rfl) ?_
 repeat refine u ?_
 refine zA1 (oca rfl rfl fun _=>yP1 (by omega) ?_ ?_) ?_
 rotate_left 1
 rotate_left 1
 repeat refine u ?_
 refine zA1 (ofo rfl) ?_
 refine zA1 (oldf 1 0 rfl rfl rfl rfl) ?_
 repeat refine u ?_
 refine zA1 (oca rfl rfl fun _=>aB ?_) ?_
 rotate_left 1
 repeat refine u ?_
 refine tst 0 rfl rfl rfl rfl rfl rfl ?_
 repeat refine u ?_
 refine ⟨[_,_],rsc 0 rfl rfl rfl rfl (rst rfl rs0),aV ?_ ?_⟩
 rotate_left 1
 refine ps_i (by (have e0:=df c0; have e1:=dor c1; omega))
 ·have hk0:val ds=0:=by have:=dt c0; omega
  rw [hk0,Rat.mkRat_zero]
  exact bC (by omega) rfl
 ·obtain ⟨e1,e2,h1,h2,h3⟩:=aR (hz c0) c1
  rw [e1,e2]; exact ⟨h1,h2⟩
 ·obtain ⟨e1,e2,h1,h2,h3⟩:=aR (hz c0) c1
  rw [e1,e2]; exact Nat.lt_of_le_of_lt (Nat.div_le_self _ _) h2
 ·obtain ⟨e1,e2,h1,h2,h3⟩:=aR (hz c0) c1
  rw [e1,e2]; have:=hq1 (Nat.gcd (zx a).natAbs (val ds)); omega
 ·obtain ⟨e1,e2,h1,h2,h3⟩:=aR (hz c0) c1
  rw [e1,e2]; exact ⟨h1,h3⟩
 ·obtain ⟨e1,e2,h1,h2,h3⟩:=aR (hz c0) c1
  rw [e1,e2]; exact Nat.lt_of_le_of_lt (Nat.div_le_self _ _) h3
 ·obtain ⟨e1,e2,h1,h2,h3⟩:=aR (hz c0) c1
  rw [e1,e2]
  exact fun M w v k=>hup (by have:=hq1 (Nat.gcd (zx a).natAbs (val ds)); omega) _ _ _ (hfin _ (hz c0) M w v k)
 all_goals rw [zJ (zx a).natAbs]
 ·have:=hgl (hz c0); omega
 ·rw [zJ]; exact Nat.ne_of_gt (Nat.gcd_pos_of_pos_right _ (Nat.pos_of_ne_zero (hz c0)))
 ·have:=hgl (hz c0); omega
 ·rw [zJ]; exact Nat.ne_of_gt (Nat.gcd_pos_of_pos_right _ (Nat.pos_of_ne_zero (hz c0)))
 ·have:=hq1 (val (limbs (Nat.gcd (zx a).natAbs (val ds)))); omega
 ·rw [zJ (Nat.gcd _ _)]
  exact fun M w v k=>hup (by have:=hq1 (Nat.gcd (zx a).natAbs (val ds)); omega) _ _ _ (hfin _ (hz c0) M w v k)
theorem yJ4 {Ψ Φ:PV} {n m k:Nat} {z:Int} [h:VZ Ψ n z] [h':VN Φ m k] (hn:n≤2000) (hm:m≤2000):CTy prog 90 [Ψ,Φ] (tu [ag (rtc (max n m + 2) (mkRat z k)),exP (.int .i64 (if k=0 then 30 else 0))]) :=
 ⟨(bo func90),fun M w vs hM hT hv=>by
  obtain ⟨v,u,rfl,h1,h2⟩:=fa2 hv
  obtain ⟨s,a,rfl,g⟩:=h.h h1
  obtain ⟨b,b0,b1,b2,b3⟩:=rV g
  obtain ⟨ds,d1,d2,d3⟩:=(h'.h h2).ex
  subst b2 d3
  exact (yL6 b0 d1.lt b1 d2 hn hm).run M w _ hM hT ⟨_,_,rfl,b3,_,_,rfl,⟨_,rfl,d1⟩,rfl⟩⟩
theorem w7norm {a:(Bool × List Nat) × List Nat} {n:Nat} (ha:∀ x ∈ a.1.2,x < 4294967296) (hd:∀ x ∈ a.2,x < 4294967296) (h1:a.1.2.length≤n) (h2:a.2.length≤n) (hn:n≤1999):CTy prog 64 [ag (rxx a)] (ag (rtc (n + 2) (mkRat (zx a.1) (val a.2)))):=by
 refine fw [.cell 2 29] func64 fun X=>?_
 iterate 3 refine u ?_
 refine u fun b2=>?_
 repeat refine u ?_
 refine zA1 (oca rfl rfl fun _=>yL6 (n:=n) (m:=n) ha hd h1 h2 (by omega) (by omega)) ?_
 iterate 3 refine u ?_
 refine u fun b3=>?_
 refine u ?_
 refine yD (xR (s:=3) 0 rfl rfl) ?_
 repeat refine u ?_
 refine tst 0 rfl rfl rfl rfl rfl rfl ?_
 repeat refine u ?_
 refine ⟨[_],rsc 0 rfl rfl rfl rfl rs0,xJ ?_⟩
 exact bC (by omega) rfl
theorem bK {Ψ:PV} {n:Nat} {p:Rat} [h:QR Ψ n p] (hn:n≤1999):CTy prog 64 [Ψ] (ag (rtc (n + 1) p)) :=
 ⟨(bo func64),fun M w vs hM hT hv=>by
  obtain ⟨v,rfl,h1⟩:=fa1 hv
  obtain ⟨a,e1,e2,e3,e4,e5,e6⟩:=qr_x h1
  obtain ⟨s,x,d,rfl,g1⟩:=h.h h1
  subst e1
  exact ((w7norm e2 e3 e4 e5 hn).run M w _ hM hT ⟨_,_,rfl,e6,rfl⟩).mono fun r w' ⟨hB,us,k1,t,y,z,k2,g⟩=>⟨hB,us,k1,t,y,z,k2,g.relen g1.rlen⟩⟩
end Go.Proofs.YtalkinejknjidaaGreatDoor
set_option maxHeartbeats 4000000
namespace Go.Proofs.YtalkinejknjidaaGreatDoor
open Go.SL Go.RowKit Go.Proofs Tryz
section
variable {Ψ Φ : PV} {n m k j N : Nat} {y z : Int} {p q : Rat}
theorem yA1 [h:VN Ψ n k] (hn:n≤1000000):CTy prog 67 [Ψ] (ag (ztq n ((k:Nat):Int))):=by
 refine yG (σs:=[sv (ntq n k)]) ?_ (fs1 (fun M w v g=>⟨v,rfl,h.h g⟩) fs0)
 refine fw [.cell 2 27] func67 fun X=>?_
 iterate 2 refine u ?_
 refine u fun b2=>?_
 repeat refine u ?_
 refine tst 0 rfl rfl rfl rfl rfl rfl ?_
 repeat refine u ?_
 refine ⟨[_],rsc 0 rfl rfl rfl rfl rs0,xJ ?_⟩
 exact (vz_q:PSub (ag (st [xc (.bool false),ntq n k])) (ag (ztq n (if false=true then -((k:Nat):Int) else ((k:Nat):Int)))))
theorem zT4 [h:VN Ψ n k] [h':VN Φ m j] (hn:n≤100000000) (hm:m≤100000000):CTy prog 91 [Ψ,Φ] (sv (ntc (n + m) (k * j))):=ctn2 (bo func91) fun xs ys h1 h2 h3 h4 h5 h6=>by
 subst h3 h6
 exact aC (yP3 (by omega) (by omega)) (yM9 (Nat.le_trans (aJ (yM _ h1) (yM _ h4)) (by omega)))
theorem ps_num (h1:z=q.num) (h2:k=q.den) (hn:n≤N) (hm:m≤N):PSub (ag (st [ztc n z,ntc m k])) (ag (rtc N q)):=fun M w v ⟨us,e,x,y,e1,⟨s,a,k1,g1⟩,d,o,e2,⟨b,k2,g2,g3⟩,e3⟩=>by
 subst h1; subst h2; subst k1; subst k2; obtain rfl:o=[]:=e3
 obtain ⟨xs,j1,j2,j3⟩:=g2.ex
 exact ⟨us,e,s,a,b,by rw [e1,e2]; rfl,g1.sgn,g1.num,g3,Nat.le_trans g1.len hn,Nat.le_trans (by rw [← j3]; exact zV _ j1.lt) (Nat.le_trans j2 hm)⟩
theorem pY (e:p=q) (h:rlen q m):PSub (ag (rtc n p)) (ag (rtc m q)):=fun _ _ _ ⟨us,e1,s,a,d,e2,g⟩=>⟨us,e1,s,a,d,e2,by subst e; exact g.relen h⟩
theorem k7neg [h:QR Ψ n p] (hn:n≤1990):CTy prog 92 [Ψ] (ag (rtc (n + 1) (-p))):=by
 refine yG (σs:=[ag (rtq n p)]) ?_ (fs1 qr_q fs0)
 refine fw [.cell 2 29] func92 fun X=>?_
 iterate 2 refine u ?_
 refine tbx rfl fun b1=>(u fun b2=>?_)
 repeat refine u ?_
 refine zA1 (oca rfl rfl fun _=>bK (by omega)) ?_
 iterate 3 refine u ?_
 refine zL 6 mixed rfl rfl ?_
 repeat refine u ?_
 refine d1 (oldf 1 0 rfl rfl rfl rfl) ?_
 refine d1 (oca rfl rfl fun _=>yO9 (by omega)) ?_
 repeat refine u ?_
 refine d1 (oldf 1 2 rfl rfl rfl rfl) ?_
 repeat refine u ?_
 refine tst 0 rfl rfl rfl rfl rfl rfl ?_
 repeat refine u ?_
 refine ⟨[_],rsc 0 rfl rfl rfl rfl rs0,xJ ?_⟩
 exact ps_num (Rat.neg_num p).symm (Rat.neg_den p).symm (Nat.le_refl _) (Nat.le_refl _)
theorem w7two (h1:rlen p n) (h2:rlen q m) (hn:n≤990) (hm:m≤990):CTy prog 89 [ag (rtc n p),ag (rtc m q)] (ag (rtc (n + m + 1) (p + q))):=by
 refine fw [.cell 4 29] func89 fun X=>?_
 iterate 4 refine u ?_
 refine u fun b4=>?_
 iterate 2 refine u ?_
 apply uR 1 28 26 [(25,5,0),(26,1000026,0)] rfl rfl mixed rfl rfl rfl
 repeat refine u ?_
 refine cx1 (oca rfl rfl fun _=>yA1 (by omega)) rfl ?_
 refine cx1 (obs rfl rfl rfl rfl rfl rfl) rfl ?_
 refine cx1 (oca rfl rfl fun _=>vG (by omega) (by (simp; done))) rfl ?_
 repeat refine u ?_
 refine cx1 (oca rfl rfl fun _=>yA1 (by omega)) rfl ?_
 refine cx1 (obs rfl rfl rfl rfl rfl rfl) rfl ?_
 refine cx1 (oca rfl rfl fun _=>vG (by omega) (by (simp; done))) rfl ?_
 refine cx1 (obs rfl rfl rfl rfl rfl rfl) rfl ?_
 refine cx1 (oca rfl rfl fun _=>yP0 (by omega) (by (simp; done))) rfl ?_
 repeat refine u ?_
 refine cx1 (oca rfl rfl fun _=>zT4 (by omega) (by omega)) rfl ?_
 refine cx1 (oca rfl rfl fun _=>yJ4 (by omega) (by omega)) rfl ?_
 repeat refine u ?_
 refine cN rfl rfl (cal) (cS rfl rfl rfl (cst rfl rfl rfl) ?_)
 repeat refine u ?_
 refine cE (fun b5=>?_)
 refine fm ?_
 repeat refine u ?_
 refine e ?_
 exact pY (zU2 p q) (jW h1 h2)
theorem k7newL [h:VZ Ψ n z] [h':VN Φ m k] (hn:n≤2000) (hm:m≤2000) (e:mkRat z k=q) (hr:rlen q N):CTy prog 90 [Ψ,Φ] (tu [ag (rtc N q),exP (.int .i64 (if k=0 then 30 else 0))]):=by
 subst e
 refine aC (yJ4 hn hm) fun M w v ⟨vs,e,hv⟩=>⟨vs,e,fs1 (pY rfl hr) (fs1 (PSub.refl _) fs0) _ _ _ hv⟩
theorem w7add {l:List Rat} (hn:n≤970) (hlen:l.length≤2) (hr:∀ x ∈ l,rlen x (n + 1)):CTy prog 27 [sv (sl 3 (l.map (rtq n)))] (ag (rtc (2 * n + 8) (sumR l))):=by
 refine fw [.cell 2 29] func27 fun X=>?_
 iterate 2 refine u ?_
 refine u fun b2=>?_
 repeat refine u ?_
 refine zA1 (oca rfl rfl fun _=>k7of (k:=0) (by omega)) ?_
 refine u fun b3=>?_
 repeat refine u ?_
 refine lp (σ:=Nat) [0,2,3] (fun s=>[(4,True,exP (.int .i64 ((s:Nat):Int)))]) (fun s=>[.blk b3 29 [rtc (2 + (n + 2) * s) (sumR (l.take s))],.blk b2 29 (zc (.agg #[.bool false,.slice none 0 0,.slice none 0 0]))]) (fun s=>s≤l.length∧rlen (sumR (l.take s)) (2 + (n + 2) * s)) (fun s=>l.length - s) (0) (⟨by omega,by simp [sumR]; exact zR nQ (by omega)⟩) fun s hJ Y _=>?_
 obtain ⟨h1,h2⟩:=hJ
 have hg:s < l.length→rlen (l.getD s Df.d) (n + 1):=fun h=>hr _ (pD h)
 have he:(n + 2) * (s + 1)=(n + 2) * s + (n + 2):=Nat.mul_succ _ _
 have hs2:s≤1→(n + 2) * s≤n + 2:=fun h=>by have:=Nat.mul_le_mul_left (n + 2) h; omega
 repeat refine u ?_
 refine ti (fun c0=>?_) fun c0=>?_
 iterate 3 refine u ?_
 refine zL 7 mixed rfl rfl ?_
 repeat refine u ?_
 refine d1 (oix _ rfl rfl rfl (fun _=>rfl) (fun _=>(by (have e0:=dt c0; omega)))) ?_
 repeat refine u ?_
 refine d1 (oca rfl rfl fun _=>bK (by omega)) ?_
 refine d1 (oca rfl rfl fun _=>w7two h2 (hg (by (have e0:=dt c0; omega))) (by (have e0:=dt c0; omega)) (by omega)) ?_
 repeat refine u ?_
 rotate_left 1
 repeat refine u ?_
 refine e ?_
 rotate_left 1
 ·have hs:s < l.length:=by have:=dt c0; omega
  have:=hs2 (by omega)
  refine ⟨s + 1,tes ?_ ?_ ?_,?_,(by omega)⟩
  refine tc rfl (ps_r _) (tn)
  refine tc rfl (ps_r _) (tc rfl (ps_r _) (tc rfl (ps_r _) (tn)))
  rotate_left 1
  rotate_left 1
  ·rw [tE hs,he,show 2 + ((n + 2) * s + (n + 2))=2 + (n + 2) * s + (n + 1) + 1 by omega]; exact List.Sublist.refl _
  ·exact ⟨hs,by rw [tE hs,he]; exact zR (jW h2 (hg hs)) (by omega)⟩
 ·obtain rfl:s=l.length:=by have:=df c0; omega
  have:(n + 2) * l.length≤(n + 2) * 2:=Nat.mul_le_mul_left _ hlen
  exact bC (by omega) (by rw [List.take_length])
theorem k7addl {l:List Rat} [h:VQ Ψ n l] (hn:n≤970) (hlen:l.length≤2):CTy prog 27 [Ψ] (ag (rtc (2 * n + 8) (sumR l))) :=
 ⟨(bo func27),fun M w vs hM hT hv=>by
  obtain ⟨v,e,h1⟩:=fa1 hv
  have hq:=h.h h1
  exact (w7add hn hlen fun x hx=>by
   obtain ⟨cs,h3,h2⟩:=hq.row
   obtain ⟨i,hi,rfl⟩:=List.mem_iff_getElem.1 hx
   obtain ⟨us,_,_,s,a,d,_,g⟩:=h2 i _ (List.getElem?_eq_getElem hi)
   exact g.rlen).run M w vs hM hT (fs1 vq_q fs0 _ _ _ hv)⟩
theorem sum2 (p q:Rat):sumR [p,q]=p + q:=by simp [sumR,Rat.zero_add]
theorem vF [h:VQ Ψ n [p,q]] (hn:n≤970):CTy prog 27 [Ψ] (ag (rtc (2 * n + 8) (p + q))):=by rw [← sum2]; exact k7addl hn (by simp)
end
section
variable {Ψ Φ : PV} {n m : Nat} {p q : Rat}
theorem rlen2 [h:QR Ψ n p] [k:QR Φ m q] {M:Nat→Prop} {w:World} {vs:List Value} (hv:Fa [Ψ,Φ] M w vs):rlen p (n + 1)∧rlen q (m + 1):=by
 obtain ⟨v,u,_,h1,h2⟩:=fa2 hv
 obtain ⟨_,_,_,_,g1⟩:=h.h h1
 obtain ⟨_,_,_,_,g2⟩:=k.h h2
 exact ⟨g1.rlen,g2.rlen⟩
theorem yM5 [h:QR Ψ n p]:PSub Ψ (ag (rtq (n + 1) p)):=fun _ _ _ x=>by obtain ⟨s,a,d,e,g⟩:=h.h x; exact ⟨_,e,s,a,d,rfl,g.up (Nat.le_succ n)⟩
theorem yP9 [h:QR Ψ n p] [k:QR Φ m q] {P:Program} {f:FuncId} {ρ:PV} (hb:Bod P f) (hr:rlen p (n + 1)→rlen q (m + 1)→CTy P f [ag (rtq (n + 1) p),ag (rtq (m + 1) q)] ρ):CTy P f [Ψ,Φ] ρ :=
 ⟨hb,fun M w vs hM hT hv=>by
  obtain ⟨g1,g2⟩:=rlen2 hv
  exact (hr g1 g2).run M w vs hM hT ((fs1 (yM5 (h:=h)) (fs1 (yM5 (h:=k)) fs0)) _ _ _ hv)⟩
theorem zO5 [h:QR Ψ n p] [k:QR Φ m q] (hn:n≤950) (hm:m≤950):CTy prog 29 [Ψ,Φ] (ag (rtc (n + m + 3) (p - q))):=yP9 (bo func29) fun g1 g2=>by
 refine fw [.cell 4 29] func29 fun X=>?_
 iterate 4 refine u ?_
 refine u fun b4=>?_
 iterate 2 refine u ?_
 refine zL 5 mixed rfl rfl ?_
 repeat refine u ?_
 refine d1 (oca rfl rfl fun _=>k7neg (by omega)) ?_
 repeat refine u ?_
 refine d1 (oca rfl rfl fun _=>vF (by omega)) ?_
 repeat refine u ?_
 refine e ?_
 exact pY (Rat.sub_eq_add_neg p q).symm (by rw [Rat.sub_eq_add_neg]; exact zR (jW g1 (cJ g2)) (by omega))
theorem k7quo [h:QR Ψ n p] [k:QR Φ m q] (hn:n≤950) (hm:m≤950):CTy prog 45 [Ψ,Φ] (tu [ag (rtc (n + m + 3) (p / q)),exP (.int .i64 (if q=0 then 30 else 0))]):=yP9 (bo func45) fun g1 g2=>by
 refine fw [.cell 4 29,.tmp 5] func45 fun X=>?_
 iterate 2 refine u ?_
 refine tbx rfl fun b2=>(tbx rfl fun b3=>(u fun b4=>?_))
 iterate 3 refine u ?_
 refine zL 4 mixed rfl rfl ?_
 repeat refine u ?_
 refine d1 (oca rfl rfl fun _=>bK (by omega)) ?_
 repeat refine u ?_
 refine d1 (oca rfl rfl fun _=>bK (by omega)) ?_
 iterate 6 refine u ?_
 apply t_ts (xR 2 rfl (s:=2) rfl)
 apply t_ts (xR 1 rfl (s:=3) rfl)
 refine zL 19 mixed rfl rfl ?_
 repeat refine u ?_
 refine d1 (oca rfl rfl fun _=>vG (by omega) (by (simp; done))) ?_
 repeat refine u ?_
 refine d1 (oca rfl rfl fun _=>zT4 (by omega) (by omega)) ?_
 refine d1 (oca rfl rfl fun _=>yJ4 (by omega) (by omega)) ?_
 repeat refine u ?_
 refine tst 0 rfl rfl rfl rfl rfl rfl ?_
 repeat refine u ?_
 refine ⟨[_,_],rsc 0 rfl rfl rfl rfl (rst rfl rs0),aV ?_ ?_⟩
 rotate_left 1
 refine ps_i ?_
 rotate_left 1
 ·exact pY (yM3 p q) (zR (lS g1 g2) (by omega))
 ·exact yM4 p q
theorem iN [h:QR Ψ n p] [k:QR Φ m q] (hn:n≤1990) (hm:m≤1990):CTy prog 16 [Ψ,Φ] (exP (.int .i64 (cmpR p q))):=by
 refine yG (σs:=[ag (rtq n p),ag (rtq m q)]) ?_ (fs1 qr_q (fs1 qr_q fs0))
 refine fw [.tmp 4] func16 fun X=>?_
 iterate 2 refine u ?_
 refine tbx rfl fun b2=>(tbx rfl fun b3=>?_)
 iterate 3 refine u ?_
 refine zL 4 mixed rfl rfl ?_
 repeat refine u ?_
 refine d1 (oca rfl rfl fun _=>bK (by omega)) ?_
 repeat refine u ?_
 refine d1 (oca rfl rfl fun _=>bK (by omega)) ?_
 iterate 6 refine u ?_
 refine zL 17 mixed rfl rfl ?_
 repeat refine u ?_
 refine d1 (oldf 1 0 rfl rfl rfl rfl) ?_
 repeat refine u ?_
 refine d1 (oldf 0 2 rfl rfl rfl rfl) ?_
 refine d1 (oca rfl rfl fun _=>yA1 (by omega)) ?_
 repeat refine u ?_
 refine d1 (oca rfl rfl fun _=>vG (by omega) (by (simp; done))) ?_
 repeat refine u ?_
 refine d1 (oldf 0 0 rfl rfl rfl rfl) ?_
 repeat refine u ?_
 refine d1 (oldf 1 2 rfl rfl rfl rfl) ?_
 refine d1 (oca rfl rfl fun _=>yA1 (by omega)) ?_
 repeat refine u ?_
 refine d1 (oca rfl rfl fun _=>vG (by omega) (by (simp; done))) ?_
 refine d1 (oca rfl rfl fun _=>k5sub (by omega) (by omega)) ?_
 refine d1 (oca rfl rfl fun _=>yJ5 (by omega)) ?_
 repeat refine u ?_
 refine e ?_
 refine ps_i ?_
 exact yK9 p q
theorem rU [h:QR Ψ n p] [k:QR Φ m q] (hn:n≤1990) (hm:m≤1990):CTy prog 26 [Ψ,Φ] (exP (.bool (decide (cmpR p q=0)))):=by
 refine yG (σs:=[ag (rtq n p),ag (rtq m q)]) ?_ (fs1 qr_q (fs1 qr_q fs0))
 refine fw [.tmp 4] func26 fun X=>?_
 repeat refine u ?_
 refine zA1 (oca rfl rfl fun _=>iN (by omega) (by omega)) ?_
 repeat refine u ?_
 exact e
end
end Go.Proofs.YtalkinejknjidaaGreatDoor
namespace Go.Proofs.YtalkinejknjidaaGreatDoor
open Go.SL Go.RowKit Go.Proofs Tryz
theorem rise_y2 {a b:P2} (h:Tr (((decide (0 < cmpR a.1 b.1) || decide (0 < cmpR a.2 b.2)) || decide (cmpR a.1 b.1 + cmpR a.2 b.2=0))=true)):¬ qJ a b:=by
 have h:=h.h
 have h1:=nD a.1 b.1; have h2:=nD a.2 b.2
 simp only [Bool.or_eq_true,decide_eq_true_eq] at h
 rcases h with (h | h) | h
 ·exact zM6 h
 ·exact zM5 h
 ·by_cases c:0 < cmpR a.1 b.1
  ·exact zM6 c
  ·by_cases c2:0 < cmpR a.2 b.2
   ·exact zM5 c2
   ·exact rise_no3 (by omega) (by omega)
theorem rise_n2 {a b:P2} (h:Tr (((decide (0 < cmpR a.1 b.1) || decide (0 < cmpR a.2 b.2)) || decide (cmpR a.1 b.1 + cmpR a.2 b.2=0))=false)):qJ a b:=by
 have h:=h.h
 simp only [Bool.or_eq_false_iff,decide_eq_false_iff_not] at h
 exact rise_ok h.1.1 h.1.2 fun c=>h.2 (by rw [c.1,c.2]; rfl)
theorem same_y {a b:P2} (h:Tr ((!decide (cmpR a.1 b.1=0) || !decide (cmpR a.2 b.2=0))=true)):a ≠ b:=fun e=>by
 have h:=h.h
 subst e
 simp [yU] at h
theorem same_n {a b:P2} (h:Tr ((!decide (cmpR a.1 b.1=0) || !decide (cmpR a.2 b.2=0))=false)):a=b:=by
 have h:=h.h
 simp only [Bool.or_eq_false_iff,Bool.not_eq_false',decide_eq_true_eq,yU] at h
 exact Prod.ext h.1 h.2
set_option maxHeartbeats 4000000 in
theorem wlrises {l:List P2} {n:Nat} (hn:n≤90000) (hlen:l.length≤1000000):CTy prog 25 [sv (sl 6 (l.map (ptq n)))] (exP (.bool (decide (bB l)))):=by
 refine ct (rs:=[2]) func25 rfl rfl rfl rfl rfl mG fun X=>(zK (zQ rfl (zA1 (oas rfl) (zA0 (zK (zK (zQ rfl ?_)))))))
 have hll:l.length≤1000000:=hlen
 refine zA1 (omv rfl) (zA1 (oln rfl) (zA1 (osb rfl rfl (by omega)) (zA1 (omx rfl rfl) (zA1 (omv rfl) (zA0 (gG ?_))))))
 refine iQ (σ:=Nat) (fun s=>[(0,True,sv (sl 6 (l.map (ptq n)))),(9,True,exP (.int .i64 (max (((l.length:Nat):Int) - 1) 0))),(10,True,exP (.int .i64 ((s:Nat):Int)))]) (fun s=>[]) (fun s=>s≤l.length∧∀ i,i < s→qJ (l.getD i (0,0)) (l.getD (i + 1) (0,0))) (fun s=>l.length - s) (0) (aD (tc rfl (ps_r _) (tc rfl (ps_r _) (tc rfl (ps_i rfl) tn))) rfl) ⟨by omega,fun i hi=>by omega⟩ (fun s hJ Y _=>?_)
 obtain ⟨h1,h2⟩:=hJ
 refine zK (zQ rfl (zA1 (olt rfl rfl) (zA0 (zK ?_))))
 refine t_if rfl (fun c0=>?_) (fun c0=>?_)
 ·have hc:s + 1 < l.length:=by have:=dt c0; omega
  refine gI (zK (gG (zK (zQ rfl (zA1 (omv rfl) (zA1 (oas rfl) (zA0 ?_)))))))
  refine zK (zL 26 mixed rfl rfl (d1 (omv rfl) (d1 (omv rfl) (d1 (oix s rfl rfl rfl (fun _=>rfl) (fun _=>by omega)) (d1 (ofa rfl rfl) (d1 (old rfl rfl) (d1 (omv rfl) ?_)))))))
  refine d1 (omv rfl) (d1 (oad rfl rfl (by omega)) (d1 (oix (s + 1) rfl rfl rfl (fun _=>by omega) (fun _=>by omega)) (d1 (ofa rfl rfl) (d1 (old rfl rfl) (d1 (oca rfl rfl fun _=>cX hn hn) (d1 (omv rfl) (d1 (omv rfl) ?_)))))))
  refine d1 (oix s rfl rfl rfl (fun _=>rfl) (fun _=>by omega)) (d1 (ofa rfl rfl) (d1 (old rfl rfl) (d1 (omv rfl) (d1 (omv rfl) (d1 (oad rfl rfl (by omega)) (d1 (oix (s + 1) rfl rfl rfl (fun _=>by omega) (fun _=>by omega)) (d1 (ofa rfl rfl) ?_)))))))
  refine d1 (old rfl rfl) (d1 (oca rfl rfl fun _=>cX hn hn) (d1 (oas rfl) (d1 (oas rfl) (d0 (zA0 (zK (zQ rfl ?_)))))))
  refine zA1 (omv rfl) (zA1 (ogt rfl rfl) (zA1 (omv rfl) (t1g rfl rfl (omv rfl) (t1g rfl rfl (ogt rfl rfl) (zA1 (opk rfl rfl rfl) (zA1 (omv rfl) (t1g rfl rfl (omv rfl) ?_)))))))
  refine t1g rfl rfl (omv rfl) (t1g rfl rfl (oad rfl rfl (by have:=nD (l.getD s Df.d).1 (l.getD (s + 1) Df.d).1; have:=nD (l.getD s Df.d).2 (l.getD (s + 1) Df.d).2; omega)) (t1g rfl rfl (oeq rfl rfl) (zA1 (opk rfl rfl rfl) (zA0 ?_))))
  refine t_if rfl (fun c1=>?_) (fun c1=>?_)
  ·refine zK ?_
   refine zQ rfl (zA1 (oas rfl) (zA0 (jV ?_)))
   exact tr1 rfl (psb (Eq.symm (rise_not (s:=s) hc (rise_y2 c1))))
  ·refine gI ?_
   refine zQ rfl (zA1 (oad rfl rfl (by omega)) (zA1 (omv rfl) (zA0 ?_)))
   exact ⟨s + 1,aD (tc rfl (ps_r _) (tc rfl (ps_r _) (tc rfl (ps_i (by omega)) tn))) rfl,⟨by omega,fun i hi=>by
    rcases Nat.lt_or_ge i s with c | c
    ·exact h2 i c
    ·obtain rfl:i=s:=by omega
     exact rise_n2 c1⟩,by omega⟩
 ·have hc:=df c0
  refine bX (zK (zQ rfl (zA1 (oas rfl) (zA0 (jV ?_)))))
  exact tr1 rfl (psb (Eq.symm (decide_eq_true fun i hi=>h2 i (by omega))))
set_option maxHeartbeats 4000000 in
theorem w23same {l m:List P2} {n k:Nat} (hn:n≤1990) (hm:k≤1990):CTy prog 71 [sv (sl 6 (l.map (ptq n))),sv (sl 6 (m.map (ptq k)))] (exP (.bool (decide (l=m)))):=by
 refine ct (rs:=[4]) func71 rfl rfl rfl rfl rfl mG fun X=>(zK (zQ rfl (zA1 (oas rfl) (zA0 (zK (zK (zQ rfl ?_)))))))
 refine zA1 (omv rfl) (zA1 (oln rfl) (zA1 (omv rfl) (zA1 (oln rfl) (zA1 (oni rfl rfl) (zA0 ?_)))))
 refine t_if rfl (fun c0=>?_) (fun c0=>?_)
 ·refine zK ?_
  refine zQ rfl (zA1 (oas rfl) (zA0 (jV ?_)))
  exact tr1 rfl (psb (Eq.symm (decide_eq_false fun e=>(dt c0) (by rw [e]))))
 ·have hlm:l.length=m.length:=by have:=df c0; omega
  refine gI (zK (zK (zQ rfl (zA1 (oas rfl) (zA0 (gG (yF7 0 rfl fun hll=>?_)))))))
  rw [List.length_map] at hll
  refine iQ (σ:=Nat) (fun s=>[(0,True,sv (sl 6 (l.map (ptq n)))),(1,True,sv (sl 6 (m.map (ptq k)))),(5,True,exP (.int .i64 ((s:Nat):Int)))]) (fun s=>[]) (fun s=>s≤l.length∧l.take s=m.take s) (fun s=>l.length - s) (0) (aD (tc rfl (ps_r _) (tc rfl (ps_r _) (tc rfl (ps_i rfl) tn))) rfl) ⟨by omega,by simp⟩ (fun s hJ Y _=>?_)
  obtain ⟨h1,h2⟩:=hJ
  refine zK (zK (zQ rfl (zA1 (omv rfl) (zA1 (omv rfl) (zA1 (oln rfl) (zA1 (olt rfl rfl) (zA0 ?_)))))))
  refine t_if rfl (fun c1=>?_) (fun c1=>?_)
  ·have hc:=dt c1
   refine gI (zK (gG (zK (zL 26 mixed rfl rfl (d1 (omv rfl) (d1 (omv rfl) (d1 (oix s rfl rfl rfl (fun _=>rfl) (fun _=>by omega)) ?_)))))))
   refine d1 (ofa rfl rfl) (d1 (old rfl rfl) (d1 (omv rfl) (d1 (omv rfl) (d1 (oix s rfl rfl rfl (fun _=>rfl) (fun _=>by omega)) (d1 (ofa rfl rfl) (d1 (old rfl rfl) (d1 (oca rfl rfl fun _=>rU hn hm) ?_)))))))
   refine d1 (ont rfl) (d1 (omv rfl) (d1g rfl rfl (omv rfl) (d1g rfl rfl (omv rfl) (d1g rfl rfl (oix s rfl rfl rfl (fun g=>rfl) (fun g=>by omega)) (d1g rfl rfl (ofa rfl rfl) (d1g rfl rfl (old rfl rfl) (d1g rfl rfl (omv rfl) ?_)))))))
   refine d1g rfl rfl (omv rfl) (d1g rfl rfl (oix s rfl rfl rfl (fun g=>rfl) (fun g=>by omega)) (d1g rfl rfl (ofa rfl rfl) (d1g rfl rfl (old rfl rfl) (d1g rfl rfl (oca rfl rfl fun g=>rU hn hm) (d1g rfl rfl (ont rfl) (d1 (opk rfl rfl rfl) (d0 ?_)))))))
   refine zA0 ?_
   refine t_if rfl (fun c2=>?_) (fun c2=>?_)
   ·have hne:l.getD s Df.d ≠ m.getD s Df.d:=same_y c2
    refine zK (zQ rfl (zA1 (oas rfl) (zA0 (jV ?_))))
    exact tr1 rfl (psb (Eq.symm (decide_eq_false (yB3 hne))))
   ·have heq:l.getD s Df.d=m.getD s Df.d:=same_n c2
    refine gI (zQ rfl (zA1 (omv rfl) (zA1 (oad rfl rfl (by omega)) (zA1 (oas rfl) (zA0 ?_)))))
    exact ⟨s + 1,aD (tc rfl (ps_r _) (tc rfl (ps_r _) (tc rfl (ps_i (by omega)) tn))) rfl,⟨by omega,lM (by omega) (by omega) h2 heq⟩,by omega⟩
  ·have hc:=df c1
   refine bX (zK (zQ rfl (zA1 (oas rfl) (zA0 (jV ?_)))))
   exact tr1 rfl (psb (Eq.symm (decide_eq_true (oI hlm (by rw [show s=l.length by omega] at h2; exact h2)))))
end Go.Proofs.YtalkinejknjidaaGreatDoor
set_option maxHeartbeats 4000000
namespace Go.Proofs.YtalkinejknjidaaGreatDoor
open Go.SL Go.RowKit Go.Proofs Tryz
class QRR (Ψ:PV) (n:outParam Nat) (p:outParam Rat) (m:outParam Nat) (q:outParam Rat):Prop where
 h:∀ {M w v},Ψ.p M w v→∃ s a d t b e,v = .agg #[.bool s,a,d,.bool t,b,e]∧QC M w n p s a d∧QC M w m q t b e
instance {c d:CT} {n m:Nat} {p q:Rat} [h1:CQ c n p] [h2:CQ d m q]:QRR (ag (st [c,d])) n p m q:=⟨fun ⟨us,e1,x,y,e,k1,z,o,e2,k2,e3⟩=>by
 obtain ⟨s,a,d,rfl,g1⟩:=h1.h k1
 obtain ⟨t,b,f,rfl,g2⟩:=h2.h k2
 obtain rfl:o=[]:=e3
 exact ⟨s,a,d,t,b,f,by rw [e1,e,e2]; rfl,g1,g2⟩⟩
theorem w7sign {a:(Bool × List Nat) × List Nat} {n:Nat} (ha:∀ x ∈ a.1.2,x < 4294967296) (hd:∀ x ∈ a.2,x < 4294967296) (h1:a.1.2.length≤n) (h2:a.2.length≤n) (hn:n≤500000):CTy prog 15 [ag (rxx a)] (exP (.int .i64 (sgnR (mkRat (zx a.1) (val a.2))))):=by
 have e:=@zM (val a.2)
 refine fw [.tmp 2] func15 fun X=>?_
 repeat refine u ?_
 refine zA1 (oca rfl rfl fun _=>gX (by omega)) ?_
 repeat refine u ?_
 refine ti (fun c0=>?_) fun c0=>?_
 repeat refine u ?_
 refine ⟨[_],rst rfl rs0,xJ ?_⟩
 refine ps_i ?_
 rotate_left 1
 repeat refine u ?_
 refine zA1 (oca rfl rfl fun _=>yJ5 (by omega)) ?_
 repeat refine u ?_
 refine ⟨[_],rst rfl rs0,xJ ?_⟩
 refine ps_i ?_
 rotate_left 1
 ·have h0:val a.2=0:=by have:=dt c0; omega
  rw [h0,Rat.mkRat_zero]; rfl
 ·have h0:val a.2 ≠ 0:=fun c=>df c0 (by omega)
  exact sgn_mk h0
theorem rT {Ψ:PV} {n:Nat} {p:Rat} [h:QR Ψ n p] (hn:n≤500000):CTy prog 15 [Ψ] (exP (.int .i64 (sgnR p))) :=
 ⟨(bo func15),fun M w vs hM hT hv=>by
  obtain ⟨v,rfl,h1⟩:=fa1 hv
  obtain ⟨a,e1,e2,e3,e4,e5,e6⟩:=qr_x h1
  subst e1
  exact (w7sign e2 e3 e4 e5 hn).run M w _ hM hT ⟨_,_,rfl,e6,rfl⟩⟩
theorem jQ {k:Nat} (hk:k < 9223372036854775808):CTy prog 17 [exP (.int .i64 ((k:Nat):Int))] (ag (rtc 2 ((k:Nat):Rat))):=by
 refine fw [.cell 2 29] func17 fun X=>?_
 iterate 2 refine u ?_
 refine u fun b2=>?_
 repeat refine u ?_
 refine zA1 (oca rfl rfl fun _=>k7of (by omega)) ?_
 repeat refine u ?_
 exact e
theorem zT1 {Ψ Φ:PV} {n m:Nat} {p q:P2} [h:QP Ψ n p] [k:QP Φ m q] (hn:n≤20000) (hm:m≤20000):CTy prog 87 [Ψ,Φ] (exP (.bool (decide (p=q)))):=by
 refine yG (σs:=[ag (ptq n p),ag (ptq m q)]) ?_ (fs1 qp_q (fs1 qp_q fs0))
 refine fw [.tmp 4] func87 fun X=>?_
 repeat refine u ?_
 refine zA1 (oca rfl rfl fun _=>yI4 (by omega) (by omega)) ?_
 repeat refine u ?_
 refine t1g rfl rfl (oca rfl rfl fun g=>yI4 (by omega) (by omega)) ?_
 repeat refine u ?_
 refine e ?_
 refine psb ?_
 rw [← Bool.decide_and,decide_eq_decide,Prod.ext_iff]
theorem w7mul {l:List Rat} {n:Nat} (hn:n≤970) (hlen:l.length≤2) (hr:∀ x ∈ l,rlen x (n + 1)):CTy prog 28 [sv (sl 3 (l.map (rtq n)))] (ag (rtc (2 * n + 8) (iL l))):=by
 have r1:rlen (1:Rat) 1:=⟨by rw [show (1:Rat).num.natAbs=1 from rfl,xW]; simp,by rw [show (1:Rat).den=1 from rfl,xW]; simp⟩
 refine fw [.cell 2 29] func28 fun X=>?_
 iterate 2 refine u ?_
 refine u fun b2=>?_
 repeat refine u ?_
 refine zA1 (oca rfl rfl fun _=>k7of (k:=1) (by omega)) ?_
 refine u fun b3=>?_
 repeat refine u ?_
 refine lp (σ:=Nat) [0,2,3] (fun s=>[(4,True,exP (.int .i64 ((s:Nat):Int)))]) (fun s=>[.blk b3 29 [rtc (2 + (n + 2) * s) (iL (l.take s))],.blk b2 29 (zc (.agg #[.bool false,.slice none 0 0,.slice none 0 0]))]) (fun s=>s≤l.length∧rlen (iL (l.take s)) (2 + (n + 2) * s)) (fun s=>l.length - s) (0) (⟨by omega,zR r1 (by omega)⟩) fun s hJ Y _=>?_
 obtain ⟨h1,h2⟩:=hJ
 have hg:s < l.length→rlen (l.getD s Df.d) (n + 1):=fun h=>hr _ (pD h)
 have he:(n + 2) * (s + 1)=(n + 2) * s + (n + 2):=Nat.mul_succ _ _
 have hs2:s≤1→(n + 2) * s≤n + 2:=fun h=>by have:=Nat.mul_le_mul_left (n + 2) h; omega
 repeat refine u ?_
 refine ti (fun c0=>?_) fun c0=>?_
 repeat refine u ?_
 refine zA1 (oix _ rfl rfl rfl (fun _=>rfl) (fun _=>(by (have e0:=dt c0; omega)))) ?_
 repeat refine u ?_
 refine zA1 (oca rfl rfl fun _=>bK (by omega)) ?_
 refine u fun b5=>?_
 refine u ?_
 refine yD (xR (s:=5) 0 rfl rfl) ?_
 refine u ?_
 apply lN 16 0 15 [0,0,0,0,0,0,0,0,0,0,0,0,0,0,1,2] [rtc (2 + (n + 2) * (s + 1)) (iL (l.take (s + 1)))] rfl mixed rfl rfl
 repeat refine u ?_
 refine tdx0 ?_
 refine d1 (oldf 0 0 rfl rfl rfl rfl) ?_
 repeat refine u ?_
 refine tdx0 ?_
 refine d1 (oca rfl rfl fun _=>vG (by (have e0:=dt c0; omega)) (by (simp; done))) ?_
 repeat refine u ?_
 refine tdx0 ?_
 refine d1 (oldf 0 2 rfl rfl rfl rfl) ?_
 repeat refine u ?_
 refine tdx0 ?_
 refine d1 (oca rfl rfl fun _=>zT4 (by (have e0:=dt c0; omega)) (by omega)) ?_
 repeat refine u ?_
 refine tdx0 ?_
 refine d1 (oca rfl rfl fun _=>k7newL (q:=iL (l.take (s + 1))) (N:=2 + (n + 2) * (s + 1)) (by (have e0:=dt c0; omega)) (by (have e0:=dt c0; omega)) ?_ ?_) ?_
 rotate_left 1
 rotate_left 1
 repeat refine u ?_
 refine tdx2 rfl (ckvt rfl rfl rfl rfl rfl rfl) ?_
 repeat refine u ?_
 rotate_left 1
 repeat refine u ?_
 refine e ?_
 rotate_left 1
 ·have hs:s < l.length:=by have:=dt c0; omega
  rw [iT hs,zS8]; rfl
 ·have hs:s < l.length:=by have:=dt c0; omega
  rw [iT hs,he]; exact zR (uS h2 (hg hs)) (by omega)
 ·have hs:s < l.length:=by have:=dt c0; omega
  have:=hs2 (by omega)
  refine ⟨s + 1,tes ?_ ?_ (List.Sublist.refl _),?_,(by omega)⟩
  refine tc rfl (ps_r _) (tn)
  refine tc rfl (ps_r _) (tc rfl (ps_r _) (tc rfl (ps_r _) (tn)))
  exact ⟨hs,by rw [iT hs,he]; exact zR (uS h2 (hg hs)) (by omega)⟩
 ·obtain rfl:s=l.length:=by have:=df c0; omega
  have:(n + 2) * l.length≤(n + 2) * 2:=Nat.mul_le_mul_left _ hlen
  exact bC (by omega) (by rw [List.take_length])
theorem yO8 {Ψ:PV} {n:Nat} {p q:Rat} [h:VQ Ψ n [p,q]] (hn:n≤970):CTy prog 28 [Ψ] (ag (rtc (2 * n + 8) (p * q))) :=
 ⟨(bo func28),fun M w vs hM hT hv=>by
  obtain ⟨v,e,h1⟩:=fa1 hv
  have hq:=h.h h1
  rw [show p * q=iL [p,q] by simp [iL,Rat.one_mul]]
  exact (w7mul hn (by simp) fun x hx=>by
   obtain ⟨cs,h3,h2⟩:=hq.row
   obtain ⟨i,hi,rfl⟩:=List.mem_iff_getElem.1 hx
   obtain ⟨us,_,_,s,a,d,_,g⟩:=h2 i _ (List.getElem?_eq_getElem hi)
   exact g.rlen).run M w vs hM hT (fs1 vq_q fs0 _ _ _ hv)⟩
theorem nV {Ψ:PV} {n:Nat} {p q:Rat} [h:VQ Ψ n [p,q]] (hn:n≤970):CTy prog 28 [Ψ] (ag (rtc (2 * n + 8) (p * q))):=yO8 hn
theorem nR {p q:Rat} {A B:Nat} (h1:rlen p A) (h2:rlen q B):rlen (p - q) (A + B + 1):=by
 rw [Rat.sub_eq_add_neg]; exact jW h1 (cJ h2)
theorem rlen_height {lo hi x:Rat} {l:P2} {a b c e:Nat} (h1:rlen lo a) (h2:rlen hi b) (h3:rlen x c) (h4:rlen l.1 e) (h5:rlen l.2 e) (h:lo < hi):rlen (uZ l (cL lo hi x)) (2 * a + b + c + 3 * e + 5):=by
 unfold uZ cL
 rw [if_pos h]
 exact zR (jW h4 (uS (lS (nR h3 h1) (nR h2 h1)) (nR h5 h4))) (by omega)
theorem PL.rl {M:Nat→Prop} {w:World} {n:Nat} {l:List P2} {v:Value} (h:PL M w n l v):∀ x ∈ l,rlen x.1 (n + 1)∧rlen x.2 (n + 1):=fun x hx=>by
 obtain ⟨cs,h1,h2⟩:=h.row
 obtain ⟨i,hi,rfl⟩:=List.mem_iff_getElem.1 hx
 obtain ⟨us,h3,h4,s,a,d,t,b,e,e0,g⟩:=h2 i _ (List.getElem?_eq_getElem hi)
 exact ⟨g.x.rlen,g.y.rlen⟩
end Go.Proofs.YtalkinejknjidaaGreatDoor
namespace Go.Proofs.YtalkinejknjidaaGreatDoor
open Go.SL Go.RowKit Go.Proofs Tryz
theorem tup_r {ρ σ:PV}:∀ M w vs,Fa [ρ,σ] M w vs→(tu [ρ,σ]).p M w (xN vs):=aV (PSub.refl _) (PSub.refl _)
theorem tr2 {t u:Nat} {q q':Prop} {Ψ Φ ρ σ:PV} {Γ:TE} {S:List Ow} (h:tv Γ (.tmp t)=some (q,Ψ)) (k:tv Γ (.tmp u)=some (q',Φ)) [hq:Tr q] [hq':Tr q'] {X0 X:Cx} [Eqx X0 X] (hs:PSub Ψ ρ) (hs':PSub Φ σ):TR X0 [t,u] [ρ,σ] X Γ S :=
 ⟨q∧q'∧True,[Ψ,Φ],by show tvs Γ [.tmp t,.tmp u]=_; unfold tvs tvs; rw [h,k]; rfl,⟨hq.h,hq'.h,trivial⟩,fun M w vs ⟨v,us,e,h1,u,us2,e2,h2,e3⟩=>⟨v,us,e,hs _ _ _ h1,u,us2,e2,hs' _ _ _ h2,e3⟩⟩
theorem hsL_take {lo hi x:Rat} {l:List P2} {s:Nat} (h:s < l.length):hsL lo hi x (l.take (s + 1))=hsL lo hi x (l.take s) ++ [uZ (l.getD s (0,0)) (cL lo hi x)]:=by
 rw [(zU ((0,0):P2) h).1]; unfold hsL; simp
theorem geF {p q:Rat} (h:Tr (decide (0≤cmpR p q)=false)):p < q:=by have:=of_decide_eq_false h.h; rw [dV] at this; grind
theorem geT {p q:Rat} (h:Tr (decide (0≤cmpR p q)=true)):¬ p < q:=by have:=of_decide_eq_true h.h; rw [dV] at this; grind
theorem fd_lt {p q:Rat} (h:Tr (decide (cmpR p q < 0)=true)):p < q:=(xT).1 (of_decide_eq_true h.h)
theorem fd_nlt {p q:Rat} (h:Tr (decide (cmpR p q < 0)=false)):¬ p < q:=fun c=>of_decide_eq_false h.h ((xT).2 c)
theorem fd_e {p q:Rat} (h:Tr (decide (cmpR p q=0)=true)):p=q:=yU.1 (of_decide_eq_true h.h)
theorem fd_n {p q:Rat} (h:Tr (decide (cmpR p q=0)=false)):p ≠ q:=fun c=>of_decide_eq_false h.h (yU.2 c)
theorem yP8 {ys:List Rat} {y:Rat} {s:Nat} (h:∀ i,i < s→ys.getD i 0 ≠ y) (k:ys.getD s 0 ≠ y):∀ i,i < s + 1→ys.getD i 0 ≠ y:=fun i hi=>by
 rcases Nat.lt_or_ge i s with c | c
 ·exact h i c
 ·obtain rfl:i=s:=by omega
  exact k
set_option maxHeartbeats 4000000 in
theorem yE8 {lo hi x:Rat} {a b c:Nat} (ha:a≤20000) (hb:b≤20000) (hc:c≤20000):CTy prog 93 [ag (rtq a lo),ag (rtq b hi),ag (rtq c x)] (tu [ag (rtc (2 * a + b + c + 9) (cL lo hi x)),exP (.bool (decide (lo < hi)))]):=by
 refine ctc func93 rfl rfl rfl rfl fun X=>(zK (zQ rfl (zA1 (obx rfl) (zA1 (obx rfl) (zA1 (obx rfl) ?_)))))
 refine tal fun b6=>?_
 refine zA1 (oas rfl) (zA0 (zK (zK (zQ rfl (zA1 (old rfl rfl) (zA1 (old rfl rfl) (zA1 (oca rfl rfl fun _=>cX (by omega) (by omega)) ?_)))))))
 refine zA1 (oge rfl rfl) (zA0 ?_)
 refine t_if rfl (fun c0=>?_) (fun c0=>?_)
 ·refine zK ?_
  refine zQ rfl (zA1 (oca rfl rfl fun _=>krof (k:=0) (K:=2) (by omega) (by omega)) (tst 0 rfl rfl rfl rfl rfl rfl (zA1 (oas rfl) (zA0 (jV ?_)))))
  have hq:=geT c0
  exact ⟨[_,_],rsc 0 rfl rfl rfl rfl (rst rfl rs0),aV (bC (by omega) (by unfold cL; rw [if_neg hq]; rfl)) (psb (Eq.symm (decide_eq_false hq)))⟩
 ·refine gI ?_
  refine zK ?_
  apply uR 1 12 11 [(10,8,0),(11,1000011,0)] rfl rfl mixed rfl rfl rfl
  refine cx1 (old rfl rfl) rfl (cx1 (old rfl rfl) rfl (cx1 (oca rfl rfl fun _=>rR (by omega) (by omega)) rfl (cx1 (old rfl rfl) rfl (cx1 (old rfl rfl) rfl (cx1 (oca rfl rfl fun _=>rR (by omega) (by omega)) rfl (cx1 (oca rfl rfl fun _=>yN7 (by omega) (by omega)) rfl (cx1 (omv rfl) rfl ?_)))))))
  refine cx1 (oex rfl rfl) rfl (cx1 (oex rfl rfl) rfl (cN rfl rfl (cal) (cS rfl rfl rfl (cst rfl rfl rfl) ?_)))
  refine cE (fun b8=>?_)
  refine zA1 (oas rfl) (zA0 (zK (zQ rfl (zA1 (oldo 0 rfl rfl rfl rfl) (tst 1 rfl rfl rfl rfl rfl rfl (zA1 (oas rfl) (zA0 ?_)))))))
  refine jV ?_
  have hq:=geF c0
  exact ⟨[_,_],rsc 1 rfl rfl rfl rfl (rst rfl rs0),aV (bC (by omega) (by unfold cL; rw [if_pos hq])) (psb (Eq.symm (decide_eq_true hq)))⟩
set_option maxHeartbeats 4000000 in
theorem wlheight {l:P2} {t:Rat} {n m:Nat} (hn:n≤10000) (hm:m≤10000):CTy prog 94 [ag (ptq n l),ag (rtq m t)] (ag (rtc (8 * n + 4 * m + 30) (uZ l t))):=by
 refine ctc func94 rfl rfl rfl rfl fun X=>(zK (zQ rfl (zA1 (obx rfl) (zA1 (obx rfl) ?_))))
 refine tal fun b4=>?_
 refine zA0 (zK (zL 12 mixed rfl rfl (d1 (ofa rfl rfl) (d1 (old rfl rfl) (d1 (old rfl rfl) (d1 (ofa rfl rfl) (d1 (old rfl rfl) ?_)))))))
 refine d1 (ofa rfl rfl) (d1 (old rfl rfl) (d1 (oca rfl rfl fun _=>rR (by omega) (by omega)) (d1 (obs rfl rfl rfl rfl rfl rfl) (d1 (oca rfl rfl fun _=>yI5 (by omega)) (d1 (obs rfl rfl rfl rfl rfl rfl) (d1 (oca rfl rfl fun _=>zO2 (by omega)) (d0 ?_)))))))
 refine tst 0 rfl rfl rfl rfl rfl rfl (zA0 (jV ?_))
 exact ⟨[_],rsc 0 rfl rfl rfl rfl rs0,xJ (bC (by omega) rfl)⟩
theorem zO4 {Ψ Φ:PV} {l:P2} {t:Rat} {n m:Nat} [QP Ψ n l] [QR Φ m t] (hn:n≤10000) (hm:m≤10000):CTy prog 94 [Ψ,Φ] (ag (rtc (8 * n + 4 * m + 30) (uZ l t))):=yG (wlheight hn hm) (fs1 qp_q (fs1 qr_q fs0))
set_option maxHeartbeats 4000000 in
theorem wlHeight {l:P2} {lo hi x:Rat} {n a b c:Nat} (hn:n≤2000) (ha:a≤2000) (hb:b≤2000) (hc:c≤2000):CTy prog 70 [ag (ptq n l),ag (rtq a lo),ag (rtq b hi),ag (rtq c x)] (tu [ag (rtc (8 * n + 4 * (2 * a + b + c + 9) + 30) (mP l lo hi x)),exP (.int .i64 (if lo < hi then 0 else 2))]):=by
 refine ctc func70 rfl rfl rfl rfl fun X=>(zK (zQ rfl (zA1 (obx rfl) (zA1 (obx rfl) (zA1 (obx rfl) (zA1 (obx rfl) ?_))))))
 refine tal fun b8=>?_
 refine zA1 (oas rfl) (zA0 (zK (zQ rfl (zA1 (old rfl rfl) (zA1 (old rfl rfl) (zA1 (old rfl rfl) (zA1 (oca rfl rfl fun _=>yE8 (by omega) (by omega) (by omega)) ?_)))))))
 refine zA1 (omv rfl) (zA1 (oex rfl rfl) (zA1 (oex rfl rfl) ?_))
 refine tal fun b10=>?_
 refine tst 0 rfl rfl rfl rfl rfl rfl (zA1 (oas rfl) (zA0 (zK (zK (zQ rfl (zA1 (omv rfl) (zA1 (ont rfl) ?_)))))))
 refine zA0 ?_
 refine t_if rfl (fun c0=>?_) (fun c0=>?_)
 ·refine zK ?_
  refine zQ rfl (zA1 (oca rfl rfl fun _=>krof (k:=0) (K:=2) (by omega) (by omega)) (tst 1 rfl rfl rfl rfl rfl rfl (zA1 (oas rfl) (zA0 (jV ?_)))))
  have hq:¬ lo < hi:=bn_t c0
  exact ⟨[_,_],rsc 1 rfl rfl rfl rfl (rst rfl rs0),aV (bC (by omega) (by unfold mP; rw [if_neg hq]; rfl)) (ps_i (by rw [if_neg hq]))⟩
 ·refine gI ?_
  refine zK (zQ rfl (zA1 (old rfl rfl) (zA1 (oldo 0 rfl rfl rfl rfl) (zA1 (oca rfl rfl fun _=>zO4 (by omega) (by omega)) (tst 1 rfl rfl rfl rfl rfl rfl (zA1 (oas rfl) (zA0 ?_)))))))
  refine jV ?_
  have hq:lo < hi:=bn_f c0
  exact ⟨[_,_],rsc 1 rfl rfl rfl rfl (rst rfl rs0),aV (bC (by omega) (by unfold mP; rw [if_pos hq])) (ps_i (by rw [if_pos hq]))⟩
theorem klHeight {Ψ Φ Θ Ξ:PV} {l:P2} {lo hi x:Rat} {n a b c:Nat} [QP Ψ n l] [QR Φ a lo] [QR Θ b hi] [QR Ξ c x] (hn:n≤2000) (ha:a≤2000) (hb:b≤2000) (hc:c≤2000):CTy prog 70 [Ψ,Φ,Θ,Ξ] (tu [ag (rtc (8 * n + 4 * (2 * a + b + c + 9) + 30) (mP l lo hi x)),exP (.int .i64 (if lo < hi then 0 else 2))]):=yG (wlHeight hn ha hb hc) (fs1 qp_q (fs1 qr_q (fs1 qr_q (fs1 qr_q fs0))))
set_option maxHeartbeats 4000000 in
theorem sV {l:List P2} {lo hi x:Rat} {n a b c:Nat} (hn:n≤1000) (ha:a≤1000) (hb:b≤1000) (hc:c≤1000) (hlen:l.length≤1000000) (hq:lo < hi):CTy prog 30 [ag (rtq a lo),ag (rtq b hi),ag (rtq c x),sv (sl 6 (l.map (ptq n)))] (sv (sl 3 ((hsL lo hi x l).map (rtc (8 * n + 4 * (2 * a + b + c + 9) + 30))))):=by
 refine ct (rs:=[8]) func30 rfl rfl rfl rfl rfl mG fun X=>(zK (zQ rfl (zA1 (obx rfl) (zA1 (obx rfl) (zA1 (obx rfl) (zA1 (oas rfl) (zA0 ?_)))))))
 refine zK (zQ rfl (zA1 (old rfl rfl) (zA1 (old rfl rfl) (zA1 (old rfl rfl) (zA1 (oca rfl rfl fun _=>yE8 (by omega) (by omega) (by omega)) (zA1 (omv rfl) (zA1 (oex rfl rfl) ?_)))))))
 refine zA1 (oex rfl rfl) ?_
 refine tal fun b9=>?_
 refine tst 0 rfl rfl rfl rfl rfl rfl (zA1 (oas rfl) (zA0 (zK (zK (zQ rfl (zA1 (omv rfl) (zA1 (ont rfl) ?_)))))))
 refine zA0 ?_
 refine t_if rfl (fun c0=>?_) (fun c0=>?_)
 ·exact (bn_t c0 hq).elim
 ·refine gI ?_
  refine zK (zK (zQ rfl (zA1 (omv rfl) (zA1 (oln rfl) (zA1 (omv rfl) (zA0 (gG ?_)))))))
  refine t_ts (qQ 29 3) ?_
  refine iQ (σ:=Nat × Value) (fun z=>[(8,True,exP z.2),(9,True,exP (.pointer (some ⟨b9,0,none⟩))),(22,True,sv (sl 6 (l.map (ptq n)))),(23,True,exP (.int .i64 ((l.length:Nat):Int))),(24,True,exP (.int .i64 ((z.1:Nat):Int)))]) (fun z=>[.row z.2 29 3 ((hsL lo hi x (l.take z.1)).map (rtc (8 * n + 4 * (2 * a + b + c + 9) + 30))),.blk b9 29 [rtc (2 * a + b + c + 9) (cL lo hi x)]]) (fun z=>z.1≤l.length) (fun z=>l.length - z.1) ((0,.slice none 0 0)) (aD (tc rfl (ps_r _) (tc rfl (ps_r _) (tc rfl (ps_r _) (tc rfl (ps_i (by simp)) (tc rfl (ps_i rfl) tn))))) rfl) (Nat.zero_le _) (fun z hJ Y _=>?_)
  obtain ⟨s,v8⟩:=z
  dsimp only at hJ ⊢
  refine zK (zQ rfl (zA1 (olt rfl rfl) (zA0 (zK ?_))))
  refine t_if rfl (fun c1=>?_) (fun c1=>?_)
  ·have hc1:s < l.length:=by have:=dt c1; omega
   refine gI (zK (gG (zK (zQ rfl (zA1 (oix s rfl rfl rfl (fun _=>rfl) (fun _=>by omega)) (zA1 (old rfl rfl) ?_))))))
   refine tal fun b12=>?_
   refine tst 0 rfl rfl rfl rfl rfl rfl (zA0 (zQ rfl (zA1 (omv rfl) (zA1 (oldo 0 rfl rfl rfl rfl) (zA1 (oldo 2 rfl rfl rfl rfl) (zA1 (oca rfl rfl fun _=>zO4 (by omega) (by omega)) (zA1 (obs rfl rfl rfl rfl rfl rfl) ?_)))))))
   refine tap 1 rfl rfl rfl (by simp [hsL]; omega) rfl fun r33=>?_
   refine zA1 (oas rfl) (zA0 (t_ts (zR6 (List.sublist_cons_self _ _)) (zQ rfl (zA1 (oad rfl rfl (by omega)) (zA1 (omv rfl) (zA0 ?_))))))
   exact ⟨(s + 1,r33),aD (tc rfl (ps_r _) (tc rfl (ps_r _) (tc rfl (ps_r _) (tc rfl (ps_r _) (tc rfl (ps_i (by simp)) tn))))) (by rw [hsL_take hc1]; simp; rfl),(by dsimp only; omega),by dsimp only; omega⟩
  ·have hc1:=df c1
   refine t_ts (xV 0 rfl (s:=8) rfl) ?_
   rw [show l.take s=l from List.take_of_length_le (by omega)]
   refine bX (zK (zQ rfl (zA1 (omv rfl) (zA1 (oas rfl) (zA0 (jV ?_))))))
   exact tr1 rfl (ps_r _)
theorem klheights0 {Ψ Φ Θ Ξ:PV} {l:List P2} {lo hi x:Rat} {n a b c:Nat} [QR Ψ a lo] [QR Φ b hi] [QR Θ c x] [VPt Ξ n l] (hn:n≤1000) (ha:a≤1000) (hb:b≤1000) (hc:c≤1000) (hlen:l.length≤1000000) (hq:lo < hi):CTy prog 30 [Ψ,Φ,Θ,Ξ] (sv (sl 3 ((hsL lo hi x l).map (rtc (8 * n + 4 * (2 * a + b + c + 9) + 30))))):=yG (sV hn ha hb hc hlen hq) (fs1 qr_q (fs1 qr_q (fs1 qr_q (fs1 cH fs0))))
set_option maxHeartbeats 4000000 in
theorem wlfind {l:List P2} {lo hi x y:Rat} {n a b c d:Nat} (hn:n≤300) (ha:a≤300) (hb:b≤300) (hc:c≤300) (hd:d≤19000) (hlen:l.length≤1000000) (hq:lo < hi):CTy prog 69 [ag (rtq a lo),ag (rtq b hi),ag (st [rtq c x,rtq d y]),sv (sl 6 (l.map (ptq n)))] (tu [exP (.int .i64 (yB4 lo hi (x,y) l).1),exP (.bool (yB4 lo hi (x,y) l).2)]):=by
 refine ct (rs:=[8,9]) func69 rfl rfl rfl rfl rfl tup_r fun X=>(zK (zQ rfl (zA1 (obx rfl) (zA1 (obx rfl) (zA1 (obx rfl) (zA1 (oas rfl) (zA1 (oas rfl) ?_)))))))
 refine zA0 (zV7 (zK (zQ rfl (zA1 (oas rfl) (zA0 (zK (zV8 ?_)))))))
 refine zK (zK (zQ rfl (zA1 (old rfl rfl) (zA1 (old rfl rfl) (zA1 (ofa rfl rfl) (zA1 (old rfl rfl) (zA1 (omv rfl) ?_)))))))
 refine zA1 (oca rfl rfl fun _=>klheights0 (by omega) (by omega) (by omega) (by omega) hlen hq) (zA1 (oln rfl) (zA1 (omv rfl) (zA0 (gG ?_))))
 refine iQ (σ:=Nat) (fun s=>[(6,True,pa (st [rtq c x,rtq d y])),(8,True,exP (.int .i64 (kE (hsL lo hi x l) y s - 1))),(9,True,exP (.bool false)),(18,True,sv (sl 3 ((hsL lo hi x l).map (rtc (8 * n + 4 * (2 * a + b + c + 9) + 30))))),(19,True,exP (.int .i64 (((hsL lo hi x l).length:Nat):Int))),(20,True,exP (.int .i64 ((s:Nat):Int)))]) (fun s=>[]) (fun s=>s≤(hsL lo hi x l).length∧∀ i,i < s→(hsL lo hi x l).getD i 0 ≠ y) (fun s=>(hsL lo hi x l).length - s) (0) (aD (tc rfl (ps_r _) (tc rfl (ps_i rfl) (tc rfl (ps_r _) (tc rfl (ps_r _) (tc rfl (ps_i (by simp)) (tc rfl (ps_i rfl) tn)))))) rfl) ⟨Nat.zero_le _,fun i hi=>by omega⟩ (fun s hJ Y _=>?_)
 obtain ⟨h1,h2⟩:=hJ
 have hyl:=zI4 lo hi x l
 have hbb:=sQ (hsL lo hi x l) y s
 refine zK (zQ rfl (zA1 (olt rfl rfl) (zA0 (zK ?_))))
 refine t_if rfl (fun c0=>?_) (fun c0=>?_)
 ·have hc1:s < (hsL lo hi x l).length:=by have:=dt c0; omega
  refine gI (zK (gG (zK (zQ rfl (zA1 (omv rfl) (zA1 (oix s rfl rfl rfl (fun _=>rfl) (fun _=>by omega)) (zA1 (old rfl rfl) ?_)))))))
  refine tal fun b11=>?_
  refine zA1 (oas rfl) (tst 0 rfl rfl rfl rfl rfl rfl (zA0 (zK (zQ rfl (zA1 (oldo 0 rfl rfl rfl rfl) (zA1 (ofa rfl rfl) (zA1 (old rfl rfl) ?_)))))))
  refine zA1 (oca rfl rfl fun _=>cX (by omega) (by omega)) (zA1 (oas rfl) (zA0 (t_ts (zR6 (List.sublist_cons_self _ _)) (gG (zK (zQ rfl (zA1 (omv rfl) ?_)))))))
  refine zA1 (oeq rfl rfl) (zA1 (oas rfl) (zA0 ?_))
  refine t_if rfl (fun c1=>?_) (fun c1=>?_)
  ·refine zK ?_
   refine zQ rfl (zA1 (omv rfl) (zA1 (oas rfl) (zA1 (oas rfl) (zA0 (bX (zK (zQ rfl ?_)))))))
   refine zA1 (omv rfl) (zA1 (omv rfl) (zA1 (oas rfl) (zA1 (oas rfl) (zA0 (jV ?_)))))
   have e:=findY_hit hc1 h2 (fd_e c1)
   exact tr2 rfl rfl (ps_i (congrArg Prod.fst e).symm) (psb (congrArg Prod.snd e).symm)
  ·refine zK ?_
   refine zQ rfl (zA1 (omv rfl) (zA1 (olt rfl rfl) (zA1 (oas rfl) (zA0 ?_))))
   refine t_if rfl (fun c2=>?_) (fun c2=>?_)
   ·refine zQ rfl ?_
    refine zA1 (omv rfl) (zA1 (oad rfl rfl (by omega)) (zA1 (oas rfl) (zA0 (zQ rfl (zA1 (oad rfl rfl (by omega)) (zA1 (omv rfl) (zA0 ?_)))))))
    exact ⟨s + 1,aD (tc rfl (ps_r _) (tc rfl (ps_i (below_yes (fd_lt c2)).symm) (tc rfl (ps_r _) (tc rfl (ps_r _) (tc rfl (ps_r _) (tc rfl (ps_i (by simp)) tn)))))) rfl,⟨by omega,yP8 h2 (fd_n c1)⟩,by omega⟩
   ·refine gI ?_
    refine zQ rfl (zA1 (oad rfl rfl (by omega)) (zA1 (omv rfl) (zA0 ?_)))
    exact ⟨s + 1,aD (tc rfl (ps_r _) (tc rfl (ps_i (below_no (fd_nlt c2)).symm) (tc rfl (ps_r _) (tc rfl (ps_r _) (tc rfl (ps_r _) (tc rfl (ps_i (by simp)) tn)))))) rfl,⟨by omega,yP8 h2 (fd_n c1)⟩,by omega⟩
 ·have hc1:=df c0
  refine bX (zK (zQ rfl (zA1 (omv rfl) (zA1 (omv rfl) (zA1 (oas rfl) (zA1 (oas rfl) (zA0 ?_)))))))
  refine jV ?_
  have e:=findY_miss (y:=y) (ys:=hsL lo hi x l) (fun i hi=>h2 i (by omega))
  exact tr2 rfl rfl (ps_i (by rw [show s=(hsL lo hi x l).length by omega]; exact (congrArg Prod.fst e).symm)) (psb (congrArg Prod.snd e).symm)
noncomputable def lvOf (lo hi yl yh:Rat) (es:List (P2 × P2)):List P2:=Classical.epsilon fun l=>if lo < hi then IsLv lo hi yl yh es l else l=[]
theorem mL {lo hi yl yh:Rat} {es:List (P2 × P2)} {l:List P2} (h:if lo < hi then IsLv lo hi yl yh es l else l=[]):l=lvOf lo hi yl yh es:=by
 have h2:=Classical.epsilon_spec (p:=fun l=>if lo < hi then IsLv lo hi yl yh es l else l=[]) ⟨l,h⟩
 show l=Classical.epsilon _
 split at h
 ·rename_i c; simp only [if_pos c] at h2 ⊢; exact lv_uniq h h2
 ·rename_i c; simp only [if_neg c] at h2 ⊢; exact h.trans h2.symm
theorem lT {a b:P2} {x:Rat} {A B:Nat} (ha:plen a A) (hb:plen b A) (hx:rlen x B):rlen (zO a b x) (6 * A + B + 5):=by
 unfold zO
 split
 ·exact zR rlen_zero' (by omega)
 ·exact zR (ha.at_ hb (lS (lR hx ha.x) (lR hb.x ha.x))).y (by omega)
theorem zL2 {lo hi:Rat} {es:List (P2 × P2)} {x:P2}:∀ {s:Nat},s≤es.length→(x ∈ jK lo hi es s ↔ ∃ e ∈ es.take s,aX lo hi e∧x=uY lo hi e)
 | 0,_=>by simp [jK]
 | s + 1,h=>by
  have hg:es.getD s ((0,0),(0,0))=es[s]:=by simp [List.getD_eq_getElem?_getD,List.getElem?_eq_getElem (show s < es.length by omega)]
  rw [jK,List.mem_append,zL2 (s:=s) (by omega),hg,List.take_succ_eq_append_getElem (show s < es.length by omega)]
  simp only [List.mem_append,List.mem_singleton]
  constructor
  ·rintro (⟨e,h1,h2⟩ | h1)
   ·exact ⟨e,.inl h1,h2⟩
   ·split at h1
    ·rename_i c; exact ⟨_,.inr rfl,c,List.mem_singleton.1 h1⟩
    ·cases h1
  ·rintro ⟨e,h1 | rfl,h2,h3⟩
   ·exact .inl ⟨e,h1,h2,h3⟩
   ·exact .inr (by rw [if_pos h2]; exact List.mem_singleton.2 h3)
theorem zL3 {lo hi:Rat} {es:List (P2 × P2)} {x:P2}:x ∈ jK lo hi es es.length ↔ ∃ e ∈ es,aX lo hi e∧x=uY lo hi e:=by
 rw [zL2 (Nat.le_refl _),List.take_length]
section
variable {Ψ Φ Θ Ξ : PV} {n0 n1 n2 n3 : Nat} {lo hi x : Rat} {l : List P2} [h0 : QR Ψ n0 lo] [h1 : QR Φ n1 hi] [h2 : QR Θ n2 x] [h3 : VPt Ξ n3 l]
theorem hts_k {P:Program} {f:FuncId} {N:Nat} (hq:lo < hi) (h:CTy P f [ag (rtq n0 lo),ag (rtq n1 hi),ag (rtq n2 x),sv (sl 6 (l.map (ptq n3)))] (sv (sl 3 ((hsL lo hi x l).map (rtc N))))) :
  CTy P f [Ψ,Φ,Θ,Ξ] (sv (sl 3 ((hsL lo hi x l).map (rtc (2 * n0 + n1 + n2 + 3 * n3 + 12))))) :=
 ⟨h.bod,fun M w vs hM hT hv=>by
  refine (h.run M w vs hM hT ((fs1 qr_q (fs1 qr_q (fs1 qr_q (fs1 cH fs0)))) _ _ _ hv)).mono fun r w' ⟨hB,y⟩=>⟨hB,?_⟩
  obtain ⟨v0,v1,v2,v3,rfl,k0,k1,k2,k3⟩:=fa4 hv
  obtain ⟨s0,a0,d0,rfl,g0⟩:=h0.h k0
  obtain ⟨s1,a1,d1,rfl,g1⟩:=h1.h k1
  obtain ⟨s2,a2,d2,rfl,g2⟩:=h2.h k2
  have hr:=(h3.h k3).rl
  obtain ⟨cs,f1,f2⟩:=wM (R:=RQc N) (f:=rtc N) (fun _=>rfl) (fun a us h=>h) y
  refine cI (R:=RQc (2 * n0 + n1 + n2 + 3 * n3 + 12)) (fun _=>rfl) (fun a us _ ⟨s,b,c,e,f⟩=>⟨s,b,c,e,f⟩) ⟨cs,f1,fun i a ha=>?_⟩
  obtain ⟨us,f3,f4,s,b,c,f5,f6⟩:=f2 i a ha
  refine ⟨us,f3,f4,s,b,c,f5,f6.relen ?_⟩
  have ham:=List.mem_of_getElem? ha
  unfold hsL at ham
  obtain ⟨p,hp,rfl⟩:=List.mem_map.1 ham
  exact zR (rlen_height g0.rlen g1.rlen g2.rlen (hr p hp).1 (hr p hp).2 hq) (by omega)⟩
theorem klheights (hl0:n0≤300) (hl1:n1≤300) (hl2:n2≤300) (hl3:n3≤300) (hlen:l.length≤1000) (hq:lo < hi):CTy prog 30 [Ψ,Φ,Θ,Ξ] (sv (sl 3 ((hsL lo hi x l).map (rtc (2 * n0 + n1 + n2 + 3 * n3 + 12))))) :=
 hts_k hq (sV (by omega) (by omega) (by omega) (by omega) (by omega) hq)
end
theorem qrr_q {Ψ:PV} {n m:Nat} {p q:Rat} [h:QRR Ψ n p m q]:PSub Ψ (ag (st [rtq n p,rtq m q])):=fun M w v k=>by
 obtain ⟨s,a,d,t,b,e,rfl,g1,g2⟩:=h.h k
 exact ⟨_,rfl,[.bool s,a,d],[.bool t,b,e],rfl,⟨s,a,d,rfl,g1⟩,[.bool t,b,e],[],rfl,⟨t,b,e,rfl,g2⟩,rfl⟩
theorem yO5 {Ψ Φ Θ Ξ:PV} {n0 n1 n2 m2 n3:Nat} {lo hi x y:Rat} {l:List P2} [h0:QR Ψ n0 lo] [h1:QR Φ n1 hi] [h2:QRR Θ n2 x m2 y] [h3:VPt Ξ n3 l] (hl0:n0≤300) (hl1:n1≤300) (hl2:n2≤300) (hm2:m2≤19000) (hl3:n3≤300) (hlen:l.length≤1000) (hq:lo < hi) :
  CTy prog 69 [Ψ,Φ,Θ,Ξ] (tu [exP (.int .i64 (yB4 lo hi (x,y) l).1),exP (.bool (yB4 lo hi (x,y) l).2)]) :=
 yG (wlfind hl3 hl0 hl1 hl2 hm2 (by omega) hq) (fs1 qr_q (fs1 qr_q (fs1 qrr_q (fs1 cH fs0))))
theorem yA4 {Ψ:PV} {n:Nat} {l:List P2} [h:VPt Ψ n l] (hn:n≤90000) (hl:l.length≤1000):CTy prog 25 [Ψ] (exP (.bool (decide (bB l)))):=yG (wlrises hn (by omega)) (fs1 cH fs0)
theorem k23same {Ψ Φ:PV} {n m:Nat} {l k:List P2} [h:VPt Ψ n l] [h':VPt Φ m k] (hn:n≤1990) (hm:m≤1990):CTy prog 71 [Ψ,Φ] (exP (.bool (decide (l=k)))):=yG (w23same hn hm) (fs1 cH (fs1 cH fs0))
def eF:List P2:=[(((-1:Int):Rat),((-1:Int):Rat)),(((0:Nat):Rat),((2:Nat):Rat)),(((3:Nat):Rat),((3:Nat):Rat))]
abbrev sW:List (P2 × P2):=[((((0:Nat):Rat),((0:Nat):Rat)),(((2:Nat):Rat),((2:Nat):Rat)))]
theorem yF0:jK ((0:Nat):Rat) ((2:Nat):Rat) sW 1=[(((0:Nat):Rat),((2:Nat):Rat))]:=by decide +kernel
theorem wake_lv:IsLv ((0:Nat):Rat) ((2:Nat):Rat) ((-1:Int):Rat) ((3:Nat):Rat) sW eF:=⟨by unfold eF; decide +kernel,fun x=>by
 rw [show sW.length=1 from rfl,yF0]
 simp only [eF,List.mem_cons,List.mem_append,List.not_mem_nil,or_false]
 exact ⟨fun h=>by rcases h with h | h | h; exact .inr (.inl h); exact .inl h; exact .inr (.inr h),fun h=>by rcases h with h | h | h; exact .inr (.inl h); exact .inl h; exact .inr (.inr h)⟩⟩
theorem wake_rises:bB eF:=fun i hi=>by
 have h:∀ j:Fin 2,qJ (eF.getD j.1 (0,0)) (eF.getD (j.1 + 1) (0,0)):=by unfold qJ; decide +kernel
 exact h ⟨i,by simp [eF] at hi; omega⟩
set_option maxHeartbeats 4000000 in
theorem keqL {l m:List P2} {n1 n2:Nat} (hn1:n1≤20000) (hn2:n2≤20000):CTy prog 88 [sv (sl 6 (l.map (ptc n1))),sv (sl 6 (m.map (ptc n2))),exP (.func (.func 87) #[] #[])] (exP (.bool (decide (l=m)))):=by
 refine ct (rs:=[6]) func88 rfl rfl rfl rfl rfl mG fun X=>(zK (zQ rfl (zA1 (oas rfl) (zA0 (zK (zK (zQ rfl ?_)))))))
 refine zA1 (omv rfl) (zA1 (oln rfl) (zA1 (omv rfl) (zA1 (oln rfl) (zA1 (oni rfl rfl) (zA0 ?_)))))
 refine t_if rfl (fun c0=>?_) (fun c0=>?_)
 ·refine zK ?_
  refine zQ rfl (zA1 (oas rfl) (zA0 (jV ?_)))
  exact tr1 rfl (psb (Eq.symm (decide_eq_false fun e=>(dt c0) (by rw [e]))))
 ·have hlm:l.length=m.length:=by have:=df c0; omega
  refine gI (zK (zK (zQ rfl (zA1 (omv rfl) (zA1 (oln rfl) (zA1 (omv rfl) (zA0 ?_)))))))
  refine gG (yF7 15 rfl fun hll=>?_)
  rw [List.length_map] at hll
  refine iQ (σ:=Nat) (fun s=>[(1,True,sv (sl 6 (m.map (ptc n2)))),(2,True,exP (.func (.func 87) #[] #[])),(15,True,sv (sl 6 (l.map (ptc n1)))),(16,True,exP (.int .i64 ((l.length:Nat):Int))),(17,True,exP (.int .i64 ((s:Nat):Int)))]) (fun s=>[]) (fun s=>s≤l.length∧l.take s=m.take s) (fun s=>l.length - s) (0) (aD (tc rfl (ps_r _) (tc rfl (ps_r _) (tc rfl (ps_r _) (tc rfl (ps_r _) (tc rfl (ps_i rfl) tn))))) rfl) ⟨by omega,by simp⟩ (fun s hJ Y _=>?_)
  obtain ⟨h1,h2⟩:=hJ
  refine zK (zQ rfl (zA1 (olt rfl rfl) (zA0 (zK ?_))))
  refine t_if rfl (fun c1=>?_) (fun c1=>?_)
  ·have hc:=dt c1
   refine gI (zK (gG (zK (zQ rfl (zA1 (omv rfl) (zA1 (oix s rfl rfl rfl (fun _=>rfl) (fun _=>by omega)) (zA1 (old rfl rfl) ?_)))))))
   refine tal fun b8=>?_
   refine zA1 (oas rfl) (tst 0 rfl rfl rfl rfl rfl rfl (zA0 (zK (zQ rfl (zA1 (omv rfl) (zA1 (omv rfl) (zA1 (oix s rfl rfl rfl (fun _=>rfl) (fun _=>by omega)) ?_)))))))
   refine zA1 (old rfl rfl) ?_
   refine tal fun b9=>?_
   refine tst 0 rfl rfl rfl rfl rfl rfl (zA0 (zK (zQ rfl (zA1 (omv rfl) (zA1 (oldo 1 rfl rfl rfl rfl) (zA1 (oldo 0 rfl rfl rfl rfl) (zA1 (oca rfl rfl fun _=>zT1 (by omega) (by omega)) ?_)))))))
   refine zA1 (ont rfl) (zA0 ?_)
   refine t_if rfl (fun c2=>?_) (fun c2=>?_)
   ·have hne:l.getD s Df.d ≠ m.getD s Df.d:=bn_t c2
    refine zK (zQ rfl (zA1 (oas rfl) (zA0 (jV ?_))))
    exact tr1 rfl (psb (Eq.symm (decide_eq_false (yB3 hne))))
   ·have heq:l.getD s Df.d=m.getD s Df.d:=bn_f c2
    refine gI (zQ rfl (zA1 (oad rfl rfl (by omega)) (zA1 (omv rfl) (zA0 ?_))))
    exact ⟨s + 1,(zR6 (S':=[]) (List.nil_sublist _)).trans (aD (tc rfl (ps_r _) (tc rfl (ps_r _) (tc rfl (ps_r _) (tc rfl (ps_r _) (tc rfl (ps_i (by omega)) tn))))) rfl),⟨by omega,lM (by omega) (by omega) h2 heq⟩,by omega⟩
  ·have hc:=df c1
   refine bX (zK (zQ rfl (zA1 (oas rfl) (zA0 (jV ?_)))))
   exact tr1 rfl (psb (Eq.symm (decide_eq_true (oI hlm (by rw [show s=l.length by omega] at h2; exact h2)))))
set_option maxHeartbeats 4000000 in
theorem klSame {l m:List P2} {n1 n2:Nat} (hn1:n1≤20000) (hn2:n2≤20000):CTy prog 24 [sv (sl 6 (l.map (ptc n1))),sv (sl 6 (m.map (ptc n2)))] (exP (.bool (decide (l=m)))):=by
 refine ct (rs:=[4]) func24 rfl rfl rfl rfl rfl mG fun X=>(zK (zQ rfl (zA1 (oas rfl) (zA0 (zK (zQ rfl (zA1 (omv rfl) ?_)))))))
 refine zA1 (omv rfl) (zA1 (oca rfl rfl fun _=>keqL hn1 hn2) (zA1 (oas rfl) (zA0 (jV ?_))))
 exact tr1 rfl (ps_r _)
end Go.Proofs.YtalkinejknjidaaGreatDoor
namespace Go.Proofs.YtalkinejknjidaaGreatDoor
open Go Go.SL Go.RowKit Go.Proofs Go.ChangeShapes Go.WideShapes Go.ChangeAt Go.Deep Tryz
abbrev F0:Nat→Prop:=fun _=>False
structure Opn {H:Type} (enc:TypeId × Value→H) (P:Program) (W:World) (B:Nat) (t:TypeId) {α:Type} (sz:Nat) (f:α→CT) (Bd:α→Prop):Prop where
 c:P.cellsOf t=sz
 s:∀ a,(f a).sz=sz
 o:∀ {fuel:Nat} {cs:List Value} {x:DataW H × List MemPlace},(∀ m ∈ x.1.weights P t,m≤B)→DataW.trod enc P W 0 (fun _=>true) true fuel t cs=some x→∃ a,(f a).p F0 W cs∧Bd a
def Two (P:Program) (t zA0 zA1:TypeId) (k0 k1:Nat):Prop:=∃ fs f0 f1,P.underlying t=some (.struct fs)∧fs[0]? = some f0∧fs[1]? = some f1∧f0.type=zA0∧f1.type=zA1∧f0.offset=0∧f1.offset=k0∧P.cellsOf t=k0 + k1
section
variable {H : Type} {enc : TypeId × Value → H} {P : Program} {W : World} {B : Nat}
theorem eD {e:TypeId} {m:Nat} {d:DataW H} (hm:m ∈ d.weights P e):∀ {l:List (DataW H)},d ∈ l→m ∈ DataW.weightsAll P e l
 | c :: l,h=>by
  simp only [DataW.weightsAll,List.mem_append]
  rcases List.mem_cons.1 h with rfl | h
  ·exact .inl hm
  ·exact .inr (eD hm h)
theorem wY {α β:Type} {t zA0 zA1:TypeId} {k0 k1:Nat} {f:α→CT} {g:β→CT} {Bf:α→Prop} {Bg:β→Prop} (ht:Two P t zA0 zA1 k0 k1) (h0:Opn enc P W B zA0 k0 f Bf) (h1:Opn enc P W B zA1 k1 g Bg) :
  Opn enc P W B t (k0 + k1) (fun a:α × β=>st [f a.1,g a.2]) (fun a=>Bf a.1∧Bg a.2):=by
 obtain ⟨fs,f0,f1,u1,u2,u3,u4,u5,u6,u7,u8⟩:=ht
 refine ⟨u8,fun a=>by show (f a.1).sz + ((g a.2).sz + 0)=_; rw [h0.s,h1.s]; rfl,fun {fuel cs x} hw h=>?_⟩
 obtain ⟨xs,n,_,hxe,hl,hx,hall⟩:=DataW.trod_struct u1 h
 have l0:=(Array.getElem?_eq_some_iff.1 u2).1
 have l1:=(Array.getElem?_eq_some_iff.1 u3).1
 have e0:=hall 0 f0 u2
 have e1:=hall 1 f1 u3
 have n0:P.cellsOf f0.type=k0:=by rw [u4]; exact h0.c
 have n1:P.cellsOf f1.type=k1:=by rw [u5]; exact h1.c
 rw [u6,n0,List.drop_zero] at e0
 rw [u7,n1] at e1
 have hd:(cs.drop k0).length=k1:=by rw [List.length_drop]; omega
 rw [List.take_of_length_le (by omega)] at e1
 have hwe:∀ m ∈ DataW.weightsEach P (fs.toList.map (·.type)) (xs.map (·.1)),m≤B:=fun m hm=>hw m (by rw [hxe]; simpa [DataW.weights,u1] using hm)
 have hwi:∀ (i:Nat) (f:Field) (hi:i < xs.length),fs[i]? = some f→∀ m ∈ (xs[i]'hi).1.weights P f.type,m≤B:=fun i f hi hf m hm =>
  hwe m (DataW.weights_mem_each (j:=i) (by rw [List.getElem?_map]; simp [hf]) (by rw [List.getElem?_map,List.getElem?_eq_getElem hi]; rfl) m hm)
 have w0:=hwi 0 f0 (by omega) u2
 have w1:=hwi 1 f1 (by omega) u3
 rw [List.getElem?_eq_getElem (show 0 < xs.length by omega)] at e0
 rw [List.getElem?_eq_getElem (show 1 < xs.length by omega)] at e1
 rw [u4] at w0 e0; rw [u5] at w1 e1
 obtain ⟨a,p0,b0⟩:=h0.o w0 e0
 obtain ⟨b,p1,b1⟩:=h1.o w1 e1
 exact ⟨(a,b),⟨cs.take k0,cs.drop k0,(List.take_append_drop _ _).symm,p0,cs.drop k0,[],by simp,p1,rfl⟩,b0,b1⟩
theorem zY8 {t e:TypeId} (ht:P.underlying t=some (.slice e)) (he:P.underlying e=some (.int .u32)) (ce:P.cellsOf e=1) (c:P.cellsOf t=1) (hb:0 < P.bytesOf e):Opn enc P W B t 1 ntx (fun xs=>xs.length≤B):=by
 refine ⟨c,fun _=>rfl,fun {fuel cs x} hw h=>?_⟩
 rcases open_ints ht he ce h with ⟨h1,_⟩ | ⟨a,l,c,zs,h1,_,h3,h4,h5,h6,h7,h8⟩
 ·exact ⟨[],⟨_,h1,iE⟩,Nat.zero_le _⟩
 ·simp only [if_true] at h5
  have hn:=nat_of_cells h3 h4 (by omega) h8 (fun i hi=>h7 i (by omega))
  refine ⟨_,⟨_,h1,hn⟩,?_⟩
  obtain ⟨_,_,ad,cap,e1,_⟩:=hn.slc
  have e2:l=_:=(Value.slice.inj e1).2.1
  rw [← e2]
  have h9:=hw (((lits .u32 (zs.take l)).length + (lits (H:=H) .u32 (zs.drop l)).length) * P.bytesOf e) (by rw [h6]; simp only [DataW.weights,ht]; exact List.mem_cons_self)
  have h10:(lits (H:=H) .u32 (zs.take l)).length=l:=by simp [lits]; omega
  rw [h10] at h9
  exact Nat.le_trans (Nat.le_add_right l _) (Nat.le_trans (Nat.le_mul_of_pos_right _ hb) h9)
theorem opn_bool {t:TypeId} (ht:P.underlying t=some .bool) (hc:P.cellsOf t=1):Opn enc P W B t 1 (fun b=>xc (.bool b)) (fun _=>True):=by
 refine ⟨hc,fun _=>rfl,fun {fuel cs x} hw h=>?_⟩
 cases fuel with
 | zero=>simp [DataW.trod] at h
 | succ n =>
  unfold DataW.trod at h
  rw [ht] at h
  split at h <;> simp_all [xc,Value.oneCell']
theorem addr_add2 (a:Addr) (i j:Nat):(a.add i).add j=a.add (i + j):=by
 unfold Addr.add
 split <;> split <;> simp_all <;> omega
theorem slc_argk {w:World} {a:Addr} {n cap k:Nat} {f:Nat→Value} (hk:0 < k) (hn:n≤cap) (hc:cap≤9223372036854775807) (h:∀ i,i < n * k→w.cell? (a.add i)=some (f i)) :
  Slc (fun _=>False) w k (.slice (some a) n cap) n ((List.range (n * k)).map f):=by
 refine ⟨by simp,by omega,_,_,rfl,hn,?_⟩
 rcases Nat.eq_zero_or_pos n with h0 | h0
 ·exact .inl h0
 right
 have ha:=h 0 (Nat.mul_pos h0 hk)
 obtain ⟨b,off,spot⟩:=a
 have e0:(⟨b,off,spot⟩:Addr).add 0=⟨b,off,spot⟩:=rfl
 rw [e0] at ha
 unfold World.cell? at ha
 split at ha
 case h_2=>cases ha
 case h_1 cur t fz hb =>
  dsimp only at hb
  cases spot with
  | some s=>simp at ha
  | none =>
   refine ⟨b,off,rfl,fun h=>h,cur,t,fz,hb,fun j u hj=>?_⟩
   obtain ⟨hlt,rfl⟩:=List.getElem?_eq_some_iff.1 hj
   have hlt':j < n * k:=by simpa using hlt
   have:=h j hlt'
   rw [jE] at this
   simp only [World.cell?,hb] at this
   simpa using this
theorem opn_slicew {α:Type} {t te:TypeId} {k:Nat} {f:α→CT} {Bf:α→Prop} (ht:P.underlying t=some (.slice te)) (c:P.cellsOf t=1) (he:Opn enc P W B te k f Bf) (hk:0 < k):Opn enc P W B t 1 (fun l:List α=>sl k (l.map f)) (fun l=>l.length * P.bytesOf te≤B∧∀ a ∈ l,Bf a):=by
 refine ⟨c,fun _=>rfl,fun {fuel cs x} hw h=>?_⟩
 rcases open_slice ht h with ⟨h1,_⟩ | ⟨a,len,cap,m,n,D,Pl,h1,hb,hl,hm,hmm,hxe,hx⟩
 ·exact ⟨[],⟨_,[],h1,oU,rfl,by simp [kG]⟩,by simp⟩
 ·simp only [if_true] at hmm
  have hde:x.1 = .slice ((List.range len).map D) ((List.range (m - len)).map fun j=>D (len + j)):=congrArg Prod.fst hxe
  have hwd:∀ i,i < len→∀ q ∈ (D i).weights P te,q≤B:=fun i hi q hq=>hw q (by
   rw [hde]
   simp only [DataW.weights,ht,List.mem_cons,List.mem_append]
   exact .inr (.inl (eD hq (List.mem_map_of_mem (List.mem_range.2 hi)))))
  have hwl:len * P.bytesOf te≤B:=by
   have h9:=hw ((((List.range len).map D).length + ((List.range (m - len)).map fun j=>D (len + j)).length) * P.bytesOf te) (by rw [hde]; simp only [DataW.weights,ht]; exact List.mem_cons_self)
   rw [List.length_map,List.length_range] at h9
   exact Nat.le_trans (Nat.mul_le_mul_right _ (Nat.le_add_right len _)) h9
  have hx':∀ i,i < len→∃ y:α × List Value,(∀ q,q < k→W.cell? (a.add (i * k + q))=some (y.2.getD q default))∧y.2.length=k∧(f y.1).p F0 W y.2∧Bf y.1:=fun i hi=>by
   obtain ⟨cs',e1,e2⟩:=hx i (by omega)
   rw [he.c] at e1
   obtain ⟨b,g1,g2⟩:=he.o (hwd i hi) e2
   have hl:=(f b).len g1
   rw [he.s] at hl
   obtain ⟨_,_,e3⟩:=World.cells?_some e1
   refine ⟨(b,cs'),fun q hq=>?_,hl,g1,g2⟩
   have:=e3 q hq
   rw [addr_add2] at this
   rw [this,List.getD_eq_getElem?_getD,List.getElem?_eq_getElem (show q < cs'.length by omega)]; rfl
  rcases Nat.eq_zero_or_pos len with h0 | h0
  ·subst h0
   exact ⟨[],⟨_,[],h1,slc_zero,rfl,by simp [kG]⟩,by simp⟩
  haveI:Inhabited (α × List Value):=⟨Classical.choose (hx' 0 h0)⟩
  obtain ⟨Y,hY⟩:=choose_lt hx'
  rw [vA] at hm
  refine ⟨(List.range len).map fun i=>(Y i).1,?_,by rw [List.length_map,List.length_range]; exact hwl,fun b hb=>by obtain ⟨i,hi,rfl⟩:=List.mem_map.1 hb; exact (hY i (List.mem_range.1 hi)).2.2.2⟩
  rw [h1]
  refine cI (R:=fun M w (b:α) us=>(f b).p M w us) he.s (fun _ _ _ h=>h) ⟨(List.range (len * k)).map fun j=>(Y (j / k)).2.getD (j % k) default,?_,fun i b hi=>?_⟩
  ·have:=slc_argk (k:=k) (f:=fun j=>(Y (j / k)).2.getD (j % k) default) hk hl hm (fun j hj=>by
    have h2:=(hY (j / k) (Nat.div_lt_of_lt_mul (by rw [Nat.mul_comm]; exact hj))).1 (j % k) (Nat.mod_lt _ hk)
    rw [Nat.mul_comm,Nat.div_add_mod] at h2
    exact h2)
   simpa using this
  ·obtain ⟨hlt,rfl⟩:=List.getElem?_eq_some_iff.1 hi
   have hlt':i < len:=by simpa using hlt
   obtain ⟨y1,y2,y3,_⟩:=hY i hlt'
   refine ⟨(Y i).2,y2,fun q u hq=>?_,by simpa using y3⟩
   have hq3:q < k:=y2 ▸ (List.getElem?_eq_some_iff.1 hq).1
   have hlt2:i * k + q < len * k:=by have:=Nat.mul_le_mul_right k (show i + 1≤len from hlt'); rw [Nat.add_mul,Nat.one_mul] at this; omega
   rw [List.getElem?_map,List.getElem?_range hlt2]
   simp only [Option.map_some]
   rw [show (i * k + q) / k=i by rw [Nat.mul_comm,Nat.mul_add_div hk,Nat.div_eq_of_lt hq3,Nat.add_zero],show (i * k + q) % k=q by rw [Nat.mul_comm,Nat.mul_add_mod,Nat.mod_eq_of_lt hq3],List.getD_eq_getElem?_getD,hq]; rfl
theorem top_struct {α:Type} {t:TypeId} {k:Nat} {f:α→CT} {Bf:α→Prop} {r:Reach} {b0:Nat} {v:Value} {d:DataW H} {ps:List MemPlace} {fs:Array Field} (ho:Opn enc P W B t k f Bf) (ht:P.underlying t=some (.struct fs)) (hval:Value.okWide P W r b0 t v) (hw:∀ m ∈ d.weights P t,m≤B) (h:DataW.Trod enc P W 0 (fun _=>true) true t v d ps) :
  ∃ a,(ag (f a)).p F0 W v∧Bf a:=by
 obtain ⟨cs,rfl,_⟩:=okWide_struct ht hval
 obtain ⟨fuel,hf⟩:=h
 obtain ⟨a,h1,h2⟩:=ho.o (x:=(d,ps)) hw hf
 exact ⟨a,⟨_,by simp [Value.cells],h1⟩,h2⟩
theorem top_slice {α:Type} {t te:TypeId} {f:α→CT} {Bf:α→Prop} {r:Reach} {b0:Nat} {v:Value} {d:DataW H} {ps:List MemPlace} (ho:Opn enc P W B t 1 f Bf) (ht:P.underlying t=some (.slice te)) (hval:Value.okWide P W r b0 t v) (hw:∀ m ∈ d.weights P t,m≤B) (h:DataW.Trod enc P W 0 (fun _=>true) true t v d ps) :
  ∃ a,(sv (f a)).p F0 W v∧Bf a:=by
 obtain ⟨a0,len,cap,rfl⟩:=okWide_slice ht hval
 obtain ⟨fuel,hf⟩:=h
 obtain ⟨a,h1,h2⟩:=ho.o (x:=(d,ps)) hw hf
 exact ⟨a,by have h3:(f a).p F0 W (Value.cells (.slice a0 len cap)).toList:=h1; show (f a).p F0 W [_]; simpa [Value.cells] using h3,h2⟩
structure NumTypes (P:Program) (tp tr ti tn tb tw:TypeId):Prop where
 p:Two P tp tr tr 3 3
 r:Two P tr ti tn 2 1
 i:Two P ti tb tn 1 1
 n:P.underlying tn=some (.slice tw)
 w:P.underlying tw=some (.int .u32)
 b:P.underlying tb=some .bool
 cn:P.cellsOf tn=1
 cw:P.cellsOf tw=1
 cb:P.cellsOf tb=1
 hb:0 < P.bytesOf tw
variable {tp tr ti tn tb tw : TypeId}
theorem reach_le:reachBytes≤200000000000000:=by decide
theorem reach_eq:reachBytes=140737488351232:=by decide
end
end Go.Proofs.YtalkinejknjidaaGreatDoor
namespace Go.Proofs.YtalkinejknjidaaGreatDoor
open Go.SL Go.RowKit Go.Proofs Tryz
theorem yC5 {f:FuncId} {τs:List PV} {n N:Nat} {q:Rat} (h:CTy prog f τs (ag (rtc n q))) (hr:rlen q N):CTy prog f τs (ag (rtc N q)):=⟨h.bod,fun M w vs hM hT hv=>(h.run M w vs hM hT hv).mono fun r w' ⟨hB,k⟩=>⟨hB,pY rfl hr _ _ _ k⟩⟩
set_option maxHeartbeats 4000000 in
theorem zU5 {f:FuncId} {n m N:Nat} {p q r:Rat} (hf:CTy prog f [sv (sl 3 [rtq n p,rtq m q])] (ag (rtc N r))):CTy prog 313 [ag (rtq n p),ag (rtq m q),pa (fc f [])] (ag (rtc N r)):=by
 refine ctc func313 rfl rfl rfl rfl fun X=>(zK (zQ rfl (zA1 (obx rfl) (zA1 (obx rfl) ?_))))
 refine tal fun b5=>?_
 refine zA0 (zK (zQ rfl (zA1 (old rfl rfl) (zA1 (old rfl rfl) (zA1 (old rfl rfl) (zA1 (obs rfl rfl rfl rfl rfl rfl) (zA1 (oca rfl rfl fun _=>hf) ?_)))))))
 refine tst 0 rfl rfl rfl rfl rfl rfl (zA0 (jV ?_))
 exact ⟨[_],rsc 0 rfl rfl rfl rfl rs0,xJ (PSub.refl _)⟩
set_option maxHeartbeats 4000000 in
theorem wtwo {f:FuncId}:CTy prog 271 [fn f []] (fn 313 [pa (fc f [])]):=by
 refine ct (rs:=[2]) func271 rfl rfl rfl rfl rfl mG fun X=>(zK (zQ rfl (zA1 (obx rfl) (zA1 (oas rfl) (zA0 (zK (zQ rfl ?_)))))))
 refine zA1 (omf rfl) (zA1 (oas rfl) (zA0 (jV ?_)))
 exact tr1 rfl (PSub.refl _)
set_option maxHeartbeats 4000000 in
theorem wD {g:FuncId} {l:List PV} {n m N:Nat} {a b c d r s:Rat} (h1:CTy prog g ([ag (rtq n a),ag (rtq m c)] ++ l) (ag (rtc N r))) (h2:CTy prog g ([ag (rtq n b),ag (rtq m d)] ++ l) (ag (rtc N s))):CTy prog 268 [ag (st [rtq n a,rtq n b]),ag (st [rtq m c,rtq m d]),pa (fc g l)] (ag (st [rtc N r,rtc N s])):=by
 refine ctc func268 rfl rfl rfl rfl fun X=>(zK (zQ rfl (zA1 (obx rfl) (zA1 (obx rfl) ?_))))
 refine tal fun b5=>?_
 refine zA0 (zK (zL 13 mixed rfl rfl (d1 (old rfl rfl) (d1 (ofa rfl rfl) (d1 (old rfl rfl) (d1 (ofa rfl rfl) (d1 (old rfl rfl) ?_)))))))
 refine d1 (oca rfl rfl fun _=>h1) (d1 (old rfl rfl) (d1 (ofa rfl rfl) (d1 (old rfl rfl) (d1 (ofa rfl rfl) (d1 (old rfl rfl) (d1 (oca rfl rfl fun _=>h2) (d1 (obd rfl rfl rfl) ?_)))))))
 refine d0 (tst 0 rfl rfl rfl rfl rfl rfl (zA0 (jV ?_)))
 exact ⟨[_],rsc 0 rfl rfl rfl rfl rs0,xJ (PSub.refl _)⟩
set_option maxHeartbeats 4000000 in
theorem wparts {g:FuncId} {l:List PV}:CTy prog 189 [fn g l] (fn 268 [pa (fc g l)]):=by
 refine ct (rs:=[2]) func189 rfl rfl rfl rfl rfl mG fun X=>(zK (zQ rfl (zA1 (obx rfl) (zA1 (oas rfl) (zA0 (zK (zQ rfl ?_)))))))
 refine zA1 (omf rfl) (zA1 (oas rfl) (zA0 (jV ?_)))
 exact tr1 rfl (PSub.refl _)
theorem ktwo {Ψ:PV} {f:FuncId} [h:VF Ψ f []]:CTy prog 271 [Ψ] (fn 313 [pa (fc f [])]):=yG wtwo (fs1 (fun _ _ _ k=>h.h k) fs0)
theorem zT0 {Ψ:PV} {f:FuncId} {l:List PV} [h:VF Ψ f l]:CTy prog 189 [Ψ] (fn 268 [pa (fc f l)]):=yG wparts (fs1 (fun _ _ _ k=>h.h k) fs0)
set_option maxHeartbeats 4000000 in
theorem wvadd {p q:P2} {n m:Nat} (g1:plen p (n + 1)) (g2:plen q (m + 1)) (hn:n≤30000) (hm:m≤30000):CTy prog 200 [ag (ptq n p),ag (ptq m q)] (ag (st [rtc (n + m + 3) (addP p q).1,rtc (n + m + 3) (addP p q).2])):=by
 refine ctc func200 rfl rfl rfl rfl fun X=>(zK (zQ rfl (zA1 (obx rfl) (zA1 (obx rfl) ?_))))
 refine tal fun b4=>?_
 refine zA0 (zK (zL 5 mixed rfl rfl (d1 (oca rfl rfl fun _=>ktwo) (d1 (oca rfl rfl fun _=>zT0) (d1 (old rfl rfl) (d1 (old rfl rfl) (d1 (oca rfl rfl fun _=>wD (N:=n + m + 3) (zU5 (yC5 (zO2 (by omega)) (zR (jW g1.x g2.x) (by omega)))) (zU5 (yC5 (zO2 (by omega)) (zR (jW g1.y g2.y) (by omega))))) ?_)))))))
 refine d0 (tst 0 rfl rfl rfl rfl rfl rfl (zA0 (jV ?_)))
 exact ⟨[_],rsc 0 rfl rfl rfl rfl rs0,xJ (PSub.refl _)⟩
set_option maxHeartbeats 4000000 in
theorem wvsub {p q:P2} {n m:Nat} (g1:plen p (n + 1)) (g2:plen q (m + 1)) (hn:n≤30000) (hm:m≤30000):CTy prog 199 [ag (ptq n p),ag (ptq m q)] (ag (st [rtc (n + m + 3) (subP p q).1,rtc (n + m + 3) (subP p q).2])):=by
 refine ctc func199 rfl rfl rfl rfl fun X=>(zK (zQ rfl (zA1 (obx rfl) (zA1 (obx rfl) ?_))))
 refine tal fun b4=>?_
 refine zA0 (zK (zL 4 mixed rfl rfl (d1 (oca rfl rfl fun _=>zT0) (d1 (old rfl rfl) (d1 (old rfl rfl) (d1 (oca rfl rfl fun _=>wD (rR (by omega) (by omega)) (rR (by omega) (by omega))) (d0 ?_)))))))
 refine tst 0 rfl rfl rfl rfl rfl rfl (zA0 (jV ?_))
 exact ⟨[_],rsc 0 rfl rfl rfl rfl rs0,xJ (PSub.refl _)⟩
set_option maxHeartbeats 4000000 in
theorem wvscale {p:P2} {q:Rat} {n m:Nat} (g1:plen p (n + 1)) (g2:rlen q (m + 1)) (hn:n≤30000) (hm:m≤30000):CTy prog 291 [ag (ptq n p),ag (rtq m q)] (ag (st [rtc (n + m + 3) (uD p q).1,rtc (n + m + 3) (uD p q).2])):=by
 refine ctc func291 rfl rfl rfl rfl fun X=>(zK (zQ rfl (zA1 (obx rfl) (zA1 (obx rfl) ?_))))
 refine tal fun b4=>?_
 refine zA0 (zK (zL 7 mixed rfl rfl (d1 (oca rfl rfl fun _=>ktwo) (d1 (oca rfl rfl fun _=>zT0) (d1 (old rfl rfl) (d1 (old rfl rfl) (d1 (old rfl rfl) ?_)))))))
 refine d1 (obd rfl rfl rfl) (d1 (oca rfl rfl fun _=>wD (N:=n + m + 3) (zU5 (yC5 (yI5 (by omega)) (zR (uS g1.x g2) (by omega)))) (zU5 (yC5 (yI5 (by omega)) (zR (uS g1.y g2) (by omega))))) (d0 (tst 0 rfl rfl rfl rfl rfl rfl (zA0 (jV ?_)))))
 exact ⟨[_],rsc 0 rfl rfl rfl rfl rs0,xJ (PSub.refl _)⟩
set_option maxHeartbeats 4000000 in
theorem wvcmp {p q:P2} {n m:Nat} (hn:n≤80000) (hm:m≤80000):CTy prog 213 [ag (ptq n p),ag (ptq m q)] (exP (.int .i64 (cmpP p q))):=by
 refine ct (rs:=[4]) func213 rfl rfl rfl rfl rfl mG fun X=>(zK (zQ rfl (zA1 (obx rfl) (zA1 (obx rfl) (zA1 (oas rfl) (zA0 (zK ?_)))))))
 refine zK (zQ rfl (zA1 (ofa rfl rfl) (zA1 (old rfl rfl) (zA1 (ofa rfl rfl) (zA1 (old rfl rfl) (zA1 (oca rfl rfl fun _=>cX (by omega) (by omega)) (zA1 (oas rfl) ?_)))))))
 refine zA0 (zK (zQ rfl (zA1 (omv rfl) (zA1 (oni rfl rfl) (zA0 ?_)))))
 refine t_if rfl (fun c0=>?_) (fun c0=>?_)
 ·refine zK ?_
  refine zQ rfl (zA1 (omv rfl) (zA1 (oas rfl) (zA0 (jV ?_))))
  exact tr1 rfl (ps_i (by unfold cmpP; rw [if_pos (dt c0)]))
 ·refine gI ?_
  refine zK (zQ rfl (zA1 (ofa rfl rfl) (zA1 (old rfl rfl) (zA1 (ofa rfl rfl) (zA1 (old rfl rfl) (zA1 (oca rfl rfl fun _=>cX (by omega) (by omega)) (zA1 (oas rfl) ?_)))))))
  refine zA0 (jV ?_)
  exact tr1 rfl (ps_i (by unfold cmpP; rw [if_neg (df c0)]))
section
variable {Ψ Φ : PV} {n m : Nat} {p q : P2}
theorem yK5 [h:QP Ψ n p] [k:QP Φ m q] {P:Program} {f:FuncId} {ρ:PV} (hb:Bod P f) (hr:plen p (n + 1)→plen q (m + 1)→CTy P f [ag (ptq n p),ag (ptq m q)] ρ):CTy P f [Ψ,Φ] ρ :=
 ⟨hb,fun M w vs hM hT hv=>by
  obtain ⟨v,u,_,h1,h2⟩:=fa2 hv
  obtain ⟨_,_,_,_,_,_,_,g1⟩:=h.h h1
  obtain ⟨_,_,_,_,_,_,_,g2⟩:=k.h h2
  exact (hr ⟨g1.x.rlen,g1.y.rlen⟩ ⟨g2.x.rlen,g2.y.rlen⟩).run M w vs hM hT ((fs1 qp_q (fs1 qp_q fs0)) _ _ _ hv)⟩
theorem kvadd [h:QP Ψ n p] [k:QP Φ m q] (hn:n≤30000) (hm:m≤30000):CTy prog 200 [Ψ,Φ] (ag (st [rtc (n + m + 3) (addP p q).1,rtc (n + m + 3) (addP p q).2])):=yK5 (bo func200) fun g1 g2=>wvadd g1 g2 hn hm
theorem kvsub [h:QP Ψ n p] [k:QP Φ m q] (hn:n≤30000) (hm:m≤30000):CTy prog 199 [Ψ,Φ] (ag (st [rtc (n + m + 3) (subP p q).1,rtc (n + m + 3) (subP p q).2])):=yK5 (bo func199) fun g1 g2=>wvsub g1 g2 hn hm
theorem kvscale {r:Rat} [h:QP Ψ n p] [k:QR Φ m r] (hn:n≤30000) (hm:m≤30000):CTy prog 291 [Ψ,Φ] (ag (st [rtc (n + m + 3) (uD p r).1,rtc (n + m + 3) (uD p r).2])) :=
 ⟨(bo func291),fun M w vs hM hT hv=>by
  obtain ⟨v,u,_,h1,h2⟩:=fa2 hv
  obtain ⟨_,_,_,_,_,_,_,g1⟩:=h.h h1
  obtain ⟨_,_,_,_,g2⟩:=k.h h2
  exact (wvscale ⟨g1.x.rlen,g1.y.rlen⟩ g2.rlen hn hm).run M w vs hM hT ((fs1 qp_q (fs1 qr_q fs0)) _ _ _ hv)⟩
theorem kvcmp [h:QP Ψ n p] [k:QP Φ m q] (hn:n≤80000) (hm:m≤80000):CTy prog 213 [Ψ,Φ] (exP (.int .i64 (cmpP p q))):=yG (wvcmp hn hm) (fs1 qp_q (fs1 qp_q fs0))
end
theorem pX {p q:P2} {n m:Nat} (e:p=q) (h:n≤m):PSub (ag (st [rtc n p.1,rtc n p.2])) (ag (st [rtc m q.1,rtc m q.2])):=fun M w v ⟨us,e1,x,y,e2,⟨s,a,d,k1,g1⟩,z,o,e3,⟨t,b,f,k2,g2⟩,e4⟩=>by
 subst e; exact ⟨us,e1,x,y,e2,⟨s,a,d,k1,g1.up h⟩,z,o,e3,⟨t,b,f,k2,g2.up h⟩,e4⟩
set_option maxHeartbeats 4000000 in
theorem wvat {p q:P2} {u:Rat} {n m k:Nat} (hn:n≤9000) (hm:m≤9000) (hk:k≤9000):CTy prog 226 [ag (ptq n p),ag (ptq m q),ag (rtq k u)] (ag (st [rtc (2 * n + m + k + 9) (atP p q u).1,rtc (2 * n + m + k + 9) (atP p q u).2])):=by
 refine ctc func226 rfl rfl rfl rfl fun X=>(zK (zQ rfl (zA1 (obx rfl) (zA1 (obx rfl) (zA1 (obx rfl) ?_)))))
 refine tal fun b6=>?_
 refine zA0 (zK (zL 7 mixed rfl rfl (d1 (old rfl rfl) (d1 (old rfl rfl) (d1 (old rfl rfl) (d1 (oca rfl rfl fun _=>kvsub (by omega) (by omega)) (d1 (old rfl rfl) ?_)))))))
 refine d1 (oca rfl rfl fun _=>kvscale (by omega) (by omega)) (d1 (oca rfl rfl fun _=>kvadd (by omega) (by omega)) (d0 (tst 0 rfl rfl rfl rfl rfl rfl (zA0 (jV ?_)))))
 exact ⟨[_],rsc 0 rfl rfl rfl rfl rs0,xJ (pX rfl (by omega))⟩
theorem kvat {Ψ Φ Θ:PV} {p q:P2} {u:Rat} {n m k:Nat} [h0:QP Ψ n p] [h1:QP Φ m q] [h2:QR Θ k u] (hn:n≤9000) (hm:m≤9000) (hk:k≤9000):CTy prog 226 [Ψ,Φ,Θ] (ag (st [rtc (2 * n + m + k + 9) (atP p q u).1,rtc (2 * n + m + k + 9) (atP p q u).2])):=yG (wvat hn hm hk) (fs1 qp_q (fs1 qp_q (fs1 qr_q fs0)))
end Go.Proofs.YtalkinejknjidaaGreatDoor
set_option maxHeartbeats 4000000
namespace Go.Proofs.YtalkinejknjidaaGreatDoor
open Go.SL Go.RowKit Go.Proofs Tryz
theorem wvnorm {l:List P2} {n:Nat} (hn:n≤20000) (hl:l.length≤1000000):CTy prog 131 [sv (sl 6 (l.map (ptq n)))] (sv (sl 6 (l.map (ptc (n + 1))))):=by
 refine fw [.tmp 2] func131 fun X=>?_
 repeat refine u ?_
 refine t_ts (qQ 39 6) ?_
 refine lp (σ:=Nat × Value) [5,6] (fun s=>[(2,True,exP s.2),(7,True,exP (.int .i64 ((s.1:Nat):Int)))]) (fun s=>[.row s.2 39 6 ((l.take s.1).map (ptc (n + 1)))]) (fun s=>s.1≤l.length) (fun s=>l.length - s.1) ((0,.slice none 0 0)) ((by simp)) fun s hJ Y _=>?_
 repeat refine u ?_
 refine ti (fun c0=>?_) fun c0=>?_
 repeat refine u ?_
 refine zA1 (oix _ rfl rfl rfl (fun _=>rfl) (fun _=>(by (have e0:=dt c0; omega)))) ?_
 refine u ?_
 refine u fun b4=>?_
 refine tst 0 rfl rfl rfl rfl rfl rfl (yD (xR (s:=4) 0 rfl rfl) ?_)
 refine u ?_
 refine zL 9 mixed rfl rfl ?_
 repeat refine u ?_
 refine d1 (oca rfl rfl fun _=>zS9 (by omega)) ?_
 repeat refine u ?_
 refine d1 (oca rfl rfl fun _=>zS9 (by omega)) ?_
 repeat refine u ?_
 refine tap 0 rfl rfl rfl (by (simp; omega)) rfl fun r20=>?_
 repeat refine u ?_
 rotate_left 1
 iterate 7 refine u ?_
 refine t_ts (xV (s:=2) 0 rfl rfl) ?_
 repeat refine u ?_
 refine e ?_
 rotate_left 1
 ·refine ⟨(s.1 + 1,r20),tes ?_ ?_ ?_,(by (have e0:=dt c0; omega)),(by (have e0:=dt c0; omega))⟩
  refine tc rfl (ps_r _) (tc rfl (ps_r _) (tn))
  refine tc rfl (ps_r _) (tc rfl (ps_r _) (tn))
  rw [(zU (Df.d:P2) (show s.1 < l.length by have:=dt c0; omega)).1,List.map_append]
  exact List.Sublist.refl _
 ·have h0:=df c0
  rw [List.take_of_length_le (by omega)]
  exact PSub.refl _
theorem kvnorm {Ψ:PV} {n:Nat} {l:List P2} [h:VPt Ψ n l] (hn:n≤20000) (hl:l.length≤1000000):CTy prog 131 [Ψ] (sv (sl 6 (l.map (ptc (n + 1))))):=yG (wvnorm hn hl) (fs1 cH fs0)
end Go.Proofs.YtalkinejknjidaaGreatDoor
namespace Go.Proofs.YtalkinejknjidaaGreatDoor
open Go.SL Go.RowKit Go.Proofs Tryz
theorem cts1 {Ψ:PV} {c:CT} [h:CtOf Ψ c]:CtsOf Ψ [c]:=⟨fun k=>let ⟨us,e,g⟩:=h.h k; ⟨us,e,us,[],(List.append_nil _).symm,g,rfl⟩⟩
abbrev mtc (n:Nat) (m:Mt):CT:=st [xc (.int .i8 m.1),ptc n m.2.1,ptc n m.2.2]
theorem zY3 {k:Int} {a b N:Nat} {x y:P2} {m:Mt} (e:(k,x,y)=m) (h1:a≤N) (h2:b≤N):PSub (ag (st [xc (.int .i8 k),ptc a x,ptc b y])) (ag (mtc N m)):=fun M w v ⟨us,e1,u1,v1,e2,k1,u2,v2,e3,⟨c1,c2,f1,⟨s,a1,dz1,k3,g1⟩,c3,c4,f2,⟨t,a2,dz2,k4,g2⟩,f3⟩,u3,v3,e4,⟨c5,c6,f4,⟨s3,a3,dz3,k5,g3⟩,c7,c8,f5,⟨t4,a4,dz4,k6,g4⟩,f6⟩,e5⟩=>by
 subst e; exact ⟨us,e1,u1,v1,e2,k1,u2,v2,e3,⟨c1,c2,f1,⟨s,a1,dz1,k3,g1.up h1⟩,c3,c4,f2,⟨t,a2,dz2,k4,g2.up h1⟩,f3⟩,u3,v3,e4,⟨c5,c6,f4,⟨s3,a3,dz3,k5,g3.up h2⟩,c7,c8,f5,⟨t4,a4,dz4,k6,g4.up h2⟩,f6⟩,e5⟩
end Go.Proofs.YtalkinejknjidaaGreatDoor
set_option maxHeartbeats 4000000
namespace Go.Proofs.YtalkinejknjidaaGreatDoor
open Go.SL Go.RowKit Go.Proofs Tryz
abbrev pcs (n:Nat) (l:List P2):CT:=sl 6 (l.map (ptq n))
theorem aG:COrd cmpP:=⟨fun a b=>jU,fun a b=>by rw [aO,kP],fun a b c h k=>iO h k⟩
theorem kvcmp2 {p q:P2} {m:Nat} (hm:m≤80000):CTy prog 213 [ag (ptc m p),ag (ptc m q)] (exP (.int .i64 (cmpP p q))):=by
 have:=kvcmp (Ψ:=ag (ptc m p)) (Φ:=ag (ptc m q)) (show max m m≤80000 by omega) (show max m m≤80000 by omega)
 exact this
noncomputable def allOf (p q:List P2):List P2:=setOf cmpP (rawL (yF p) (yF q))
theorem aT (p q:List P2):allOf p q=setOf cmpP (rawL (yF p) (yF q)):=rfl
theorem vY (p q:List P2):(allOf p q).length≤2 * q.length * p.length:=by
 rw [aT]
 have h1:=gJ aG (rawL (yF p) (yF q))
 have h2:=pV (yF q) (yF p)
 rw [uF,uF] at h2; omega
end Go.Proofs.YtalkinejknjidaaGreatDoor
set_option maxHeartbeats 4000000
namespace Go.Proofs.YtalkinejknjidaaGreatDoor
open Go.SL Go.RowKit Go.Proofs Tryz
instance:Df (List P2):=⟨[]⟩
def aI (ls:List (List P2)) (i:Nat):List (List P2 × List P2):=(List.range i).flatMap fun k=>(ls.take k).map fun p=>(p,ls.getD k [])
def xI (ls:List (List P2)):List (List P2 × List P2):=aI ls ls.length
theorem pairs_next {ls:List (List P2)} {i:Nat}:aI ls (i + 1)=aI ls i ++ (ls.take i).map fun p=>(p,ls.getD i []):=by
 unfold aI; rw [List.range_succ,List.flatMap_append]; simp
end Go.Proofs.YtalkinejknjidaaGreatDoor
set_option maxHeartbeats 4000000
namespace Go.Proofs.YtalkinejknjidaaGreatDoor
open Go.SL Go.RowKit Go.Proofs Tryz
theorem kV:COrd cmpR:=⟨fun a b=>yU,fun a b=>by rw [kD,xT],fun a b c h k=>by rw [xT] at *; grind⟩
def sK (ls:List (List P2)):List Rat:=ls.flatMap fun l=>l.map (·.1)
noncomputable def meetX (l:List (List P2 × List P2)):List Rat:=l.flatMap fun x=>(allOf x.1 x.2).map (·.1)
noncomputable def rawC (ls:List (List P2)) (b:P2 × P2):List Rat:=[b.1.1,b.2.1] ++ sK ls ++ meetX (xI ls)
noncomputable def cutsOf (ls:List (List P2)) (b:P2 × P2):List Rat:=setOf cmpR (rawC ls b)
theorem cornX_len {ls:List (List P2)} (h6:∀ l ∈ ls,l.length≤9):(sK ls).length≤9 * ls.length:=by
 unfold sK
 induction ls with
 | nil=>simp
 | cons a l ih =>
  rw [List.flatMap_cons,List.length_append,List.length_map,List.length_cons]
  have:=h6 a (by simp); have:=ih fun x hx=>h6 x (by simp [hx]); omega
theorem pairs_mem {ls:List (List P2)} {i:Nat} {x:List P2 × List P2} (hi:i≤ls.length) (h:x ∈ aI ls i):x.1 ∈ ls∧x.2 ∈ ls:=by
 unfold aI at h
 obtain ⟨k,hk,h⟩:=List.mem_flatMap.1 h
 obtain ⟨p,hp,rfl⟩:=List.mem_map.1 h
 have hk:=List.mem_range.1 hk
 exact ⟨List.mem_of_mem_take hp,by simp [List.getElem?_eq_getElem (show k < ls.length by omega)]⟩
theorem oL {ls:List (List P2)}:∀ i,(aI ls i).length≤i * ls.length
 | 0=>by simp [aI]
 | i + 1=>by
  rw [pairs_next,List.length_append,List.length_map,List.length_take,Nat.succ_mul]
  have:=oL (ls:=ls) i; omega
theorem meetX_len {l:List (List P2 × List P2)} (h:∀ x ∈ l,x.1.length≤9∧x.2.length≤9):(meetX l).length≤162 * l.length:=by
 unfold meetX
 induction l with
 | nil=>simp
 | cons a l ih =>
  rw [List.flatMap_cons,List.length_append,List.length_map,List.length_cons]
  have h1:=vY a.1 a.2
  obtain ⟨h2,h3⟩:=h a (by simp)
  have h4:2 * a.2.length * a.1.length≤18 * 9:=Nat.mul_le_mul (by omega) h2
  have:=ih fun x hx=>h x (by simp [hx]); omega
theorem zM7 {n:Nat} (a:P2) {M:Nat→Prop} {w:World} {us:List Value} (h:(ptc n a).p M w us):(ptq n a).p M w us:=by
 obtain ⟨s,x,d,t,y,e,rfl,g⟩:=CP.h (c:=ptc n a) h
 exact ⟨[.bool s,x,d],[.bool t,y,e],rfl,⟨s,x,d,rfl,(g.up (m:=n) (by simp)).x⟩,[.bool t,y,e],[],rfl,⟨t,y,e,rfl,(g.up (m:=n) (by simp)).y⟩,rfl⟩
end Go.Proofs.YtalkinejknjidaaGreatDoor
set_option maxHeartbeats 4000000
namespace Go.Proofs.YtalkinejknjidaaGreatDoor
open Go.SL Go.RowKit Go.Proofs Tryz
abbrev RX:=(Bool × List Nat) × List Nat
abbrev PX:=RX × RX
def rtx (a:RX):CT:=st [itx a.1,ntx a.2]
def ptx (a:PX):CT:=st [rtx a.1,rtx a.2]
instance {a:RX}:SzC (rtx a) 3:=⟨rfl⟩
instance {a:PX}:SzC (ptx a) 6:=⟨rfl⟩
def qx (a:RX):Rat:=mkRat (zv a.1.1 a.1.2) (val a.2)
def px (a:PX):P2:=(qx a.1,qx a.2)
def pcx (l:List PX):CT:=sl 6 (l.map ptx)
instance:Df PX:=⟨(((false,[]),[]),((false,[]),[]))⟩
instance:Df (List PX):=⟨[]⟩
instance {a:RX}:FA (rtx a) 0 (itx a.1):=⟨fun h=>uA (l:=[itx a.1,ntx a.2]) (o:=0) h rfl⟩
instance {a:RX}:FA (rtx a) 2 (ntx a.2):=⟨fun h=>uA (l:=[itx a.1,ntx a.2]) (o:=2) h rfl⟩
instance {a:PX}:FA (ptx a) 0 (rtx a.1):=⟨fun h=>uA (l:=[rtx a.1,rtx a.2]) (o:=0) h rfl⟩
instance {a:PX}:FA (ptx a) 3 (rtx a.2):=⟨fun h=>uA (l:=[rtx a.1,rtx a.2]) (o:=3) h rfl⟩
instance {l:List PX}:VS (sv (pcx l)) 6 (l.map ptx):=⟨id⟩
instance {a:RX}:CQ (rtx a) (max a.1.2.length a.2.length) (qx a):=⟨by
 rintro M w us ⟨x,y,rfl,⟨x1,y1,rfl,⟨rfl,_⟩,x2,y2,rfl,⟨v,rfl,h1⟩,h2⟩,y3,y4,rfl,⟨d,rfl,h3⟩,h4⟩
 obtain rfl:y2=[]:=h2
 obtain rfl:y4=[]:=h4
 exact ⟨a.1.1,v,d,rfl,a.1.2,a.2,h1,h3,Nat.le_max_left _ _,Nat.le_max_right _ _,rfl⟩⟩
def aF (a:RX):Bool:=decide (a.1.2.length≤1) && decide (a.2.length≤1) && (decide (a.1.2.length=0) || decide (a.1.2.getD 0 Df.d≤999)) && (decide (a.2.length=0) || decide (a.2.getD 0 Df.d≤12))
theorem yN5 {a:RX}:CTy prog 143 [ag (rtx a)] (exP (.bool (aF a))):=by
 refine fw [.tmp 2] func143 fun X=>?_
 repeat refine u ?_
 refine t1g rfl rfl (oix _ rfl rfl rfl (fun g=>rfl) (fun g=>(by (have e0:=of_decide_eq_false g.2; change (0:Nat) < _; omega)))) ?_
 repeat refine u ?_
 refine t1g rfl rfl (ofa rfl rfl) ?_
 repeat refine u ?_
 refine t1g rfl rfl (oix _ rfl rfl rfl (fun g=>rfl) (fun g=>(by (have e0:=of_decide_eq_false g.2; change (0:Nat) < _; omega)))) ?_
 repeat refine u ?_
 refine e ?_
 refine psb ?_
 unfold aF; rw [Bool.eq_iff_iff]; simp only [Bool.and_eq_true,Bool.or_eq_true,decide_eq_true_eq,show (Df.d:Nat)=0 from rfl]; omega
def gZ (l:List PX):Bool:=l.all fun a=>aF a.1 && aF a.2
theorem smallx_take {l:List PX} {i:Nat} (h:i < l.length):gZ (l.take (i + 1))=(gZ (l.take i) && (aF (l.getD i Df.d).1 && aF (l.getD i Df.d).2)):=by
 rw [(zU (Df.d:PX) h).1]; simp [gZ]
theorem smallx_no {l:List PX} {i:Nat} (h:i < l.length) (k:aF (l.getD i Df.d).1=false ∨ aF (l.getD i Df.d).2=false):gZ l=false:=by
 rw [List.getD_eq_getElem?_getD,List.getElem?_eq_getElem h,Option.getD_some] at k
 simp only [gZ,List.all_eq_false]
 exact ⟨l[i],List.getElem_mem h,by rcases k with k | k <;> simp [k]⟩
theorem yI3 {l:List PX}:CTy prog 61 [sv (pcx l)] (exP (.bool (gZ l))):=by
 refine fw [.tmp 2] func61 fun X=>?_
 repeat refine u ?_
 refine yF7 0 rfl fun hL=>?_
 rw [List.length_map] at hL
 refine lp (σ:=Nat) [0] (fun i=>[(3,True,exP (.int .i64 ((i:Nat):Int)))]) (fun i=>[]) (fun i=>i≤l.length∧gZ (l.take i)=true) (fun i=>l.length - i) (0) (⟨by omega,rfl⟩) fun i hJ Y _=>?_
 obtain ⟨hi,hs⟩:=hJ
 repeat refine u ?_
 refine ti (fun c0=>?_) fun c0=>?_
 repeat refine u ?_
 refine zA1 (oix _ rfl rfl rfl (fun _=>rfl) (fun _=>(by (have e0:=dt c0; omega)))) ?_
 repeat refine u ?_
 refine zA1 (oca rfl rfl fun _=>yN5) ?_
 repeat refine u ?_
 refine t1g rfl rfl (oix _ rfl rfl rfl (fun g=>rfl) (fun g=>(by (have e0:=dt c0; omega)))) ?_
 repeat refine u ?_
 refine t1g rfl rfl (oca rfl rfl fun g=>yN5) ?_
 repeat refine u ?_
 refine ti (fun c1=>?_) fun c1=>?_
 repeat refine u ?_
 refine e ?_
 refine psb ?_
 rotate_left 1
 repeat refine u ?_
 refine zA1 (oad rfl rfl (by (have e0:=dt c0; omega))) ?_
 repeat refine u ?_
 rotate_left 1
 repeat refine u ?_
 refine e ?_
 refine psb ?_
 rotate_left 1
 ·rw [smallx_no (dt c0 |> fun h=>by omega:i < l.length) (by have:=c1.h; revert this; generalize aF (l.getD i Df.d).1=a; generalize aF (l.getD i Df.d).2=b; cases a <;> cases b <;> simp)]
 ·refine ⟨i + 1,tes ?_ ?_ (List.Sublist.refl _),?_,(by (have e0:=dt c0; omega))⟩
  refine tc rfl (ps_r _) (tn)
  refine tc rfl (ps_r _) (tn)
  have hi2:i < l.length:=by have:=dt c0; omega
  exact ⟨by omega,by rw [smallx_take hi2,hs]; have:=c1.h; revert this; generalize aF (l.getD i Df.d).1=a; generalize aF (l.getD i Df.d).2=b; cases a <;> cases b <;> simp⟩
 ·have:i=l.length:=by have:=df c0; omega
  subst this; rw [List.take_length] at hs; exact hs.symm
end Go.Proofs.YtalkinejknjidaaGreatDoor
set_option maxHeartbeats 4000000
namespace Go.Proofs.YtalkinejknjidaaGreatDoor
open Go.SL Go.RowKit Go.Proofs Tryz
theorem zL8 {α:Type} {f g:α→CT}:∀ {xs:List α} {us:List Value} {M:Nat→Prop} {w:World},(∀ a ∈ xs,∀ {M w us},(f a).p M w us→(g a).p M w us)→stp (xs.map f) M w us→stp (xs.map g) M w us
 | [],_,_,_,_,e=>e
 | a :: xs,_,_,_,h,⟨x,y,e,h1,h2⟩=>⟨x,y,e,h a (by simp) h1,zL8 (fun b hb=>h b (by simp [hb])) h2⟩
theorem sJ {α:Type} {f g:α→CT} {k:Nat} {xs:List α} (h:∀ a ∈ xs,∀ {M w us},(f a).p M w us→(g a).p M w us) (hs:∀ a,(g a).sz=k) {M:Nat→Prop} {w:World} {us:List Value}:(sl k (xs.map f)).p M w us→(sl k (xs.map g)).p M w us:=fun ⟨u,vs,e,h1,h2,h3⟩ =>
 ⟨u,vs,e,by rw [List.length_map] at h1 ⊢; exact h1,zL8 h h2,fun c hc=>by obtain ⟨a,_,rfl⟩:=List.mem_map.1 hc; exact hs a⟩
theorem yM6 {n:Nat} (a:PX) (h1:a.1.1.2.length≤n) (h2:a.1.2.length≤n) (h3:a.2.1.2.length≤n) (h4:a.2.2.length≤n) {M:Nat→Prop} {w:World} {us:List Value} (h:(ptx a).p M w us):(ptq n (px a)).p M w us:=by
 obtain ⟨s,x,d,t,y,e,rfl,g⟩:=CP.h (c:=st [rtx a.1,rtx a.2]) h
 exact ⟨[.bool s,x,d],[.bool t,y,e],rfl,⟨s,x,d,rfl,(g.up (m:=n) (by simp; omega)).x⟩,[.bool t,y,e],[],rfl,⟨t,y,e,rfl,(g.up (m:=n) (by simp; omega)).y⟩,rfl⟩
theorem zL0 {a:RX} (h:aF a=true):a.1.2.length≤1∧a.2.length≤1:=by
 unfold aF at h; simp only [Bool.and_eq_true,decide_eq_true_eq] at h; exact ⟨h.1.1.1,h.1.1.2⟩
end Go.Proofs.YtalkinejknjidaaGreatDoor
set_option maxHeartbeats 4000000
namespace Go.Proofs.YtalkinejknjidaaGreatDoor
open Go.SL Go.RowKit Go.Proofs Tryz
theorem allOf_comm (p q:List P2):allOf p q=allOf q p:=by
 have h:=jG aG (rawL (yF p) (yF q))
 have k:=jG aG (rawL (yF q) (yF p))
 rw [aT,aT]
 exact all_comm (p:=p) (q:=q) ⟨h.rise,h.mem⟩ ⟨k.rise,k.mem⟩
theorem rD {ls:List (List P2)} {x:List P2 × List P2}:x ∈ xI ls ↔ ∃ i k,i < k∧k < ls.length∧x=(ls.getD i [],ls.getD k []):=by
 unfold xI aI
 simp only [List.mem_flatMap,List.mem_range,List.mem_map]
 constructor
 ·rintro ⟨k,hk,p,hp,rfl⟩
  obtain ⟨i,hi,rfl⟩:=List.mem_iff_getElem.1 hp
  rw [List.length_take] at hi
  exact ⟨i,k,by omega,hk,by rw [List.getElem_take,List.getD_eq_getElem?_getD (i:=i),List.getElem?_eq_getElem (show i < ls.length by omega)]; rfl⟩
 ·rintro ⟨i,k,h1,h2,rfl⟩
  exact ⟨k,h2,ls.getD i [],List.mem_iff_getElem.2 ⟨i,by rw [List.length_take]; omega,by rw [List.getElem_take,List.getD_eq_getElem?_getD,List.getElem?_eq_getElem (show i < ls.length by omega)]; rfl⟩,rfl⟩
theorem iB {ls:List (List P2)} {x:Rat}:x ∈ meetX (xI ls) ↔ ∃ i k,i < k∧k < ls.length∧x ∈ (allOf (ls.getD i []) (ls.getD k [])).map (·.1):=by
 unfold meetX
 rw [List.mem_flatMap]
 exact ⟨fun ⟨y,hy,h⟩=>by obtain ⟨i,k,h1,h2,rfl⟩:=rD.1 hy; exact ⟨i,k,h1,h2,h⟩,fun ⟨i,k,h1,h2,h⟩=>⟨_,rD.2 ⟨i,k,h1,h2,rfl⟩,h⟩⟩
theorem cuts_len {ls:List (List P2)} {b:P2 × P2} (h0:ls.length≤5) (h:∀ l ∈ ls,l.length≤9):(cutsOf ls b).length≤10000:=by
 have h1:=gJ kV (rawC ls b)
 have h2:=cornX_len h
 have h3:=meetX_len (l:=xI ls) fun z hz=>by
  obtain ⟨a,b⟩:=pairs_mem (ls:=ls) (i:=ls.length) (x:=z) (Nat.le_refl _) hz
  exact ⟨h _ a,h _ b⟩
 have h4:=oL (ls:=ls) ls.length
 have h8:ls.length * ls.length≤5 * 5:=Nat.mul_le_mul h0 h0
 change (xI ls).length≤_ at h4
 have h5:(rawC ls b).length=2 + (sK ls).length + (meetX (xI ls)).length:=by unfold rawC; simp; omega
 unfold cutsOf; omega
end Go.Proofs.YtalkinejknjidaaGreatDoor
namespace Go.Proofs.YtalkinejknjidaaGreatDoor
open Go Go.SL Go.RowKit Go.Proofs Go.ChangeShapes Go.WideShapes Go.ChangeAt Go.Deep Tryz
section
variable {H : Type} {enc : TypeId × Value → H} {P : Program} {W : World} {B : Nat} {tp tr ti tn tb tw : TypeId}
abbrev BdX (B:Nat) (a:RX):Prop:=(True∧a.1.2.length≤B)∧a.2.length≤B
abbrev BpX (B:Nat) (a:PX):Prop:=BdX B a.1∧BdX B a.2
theorem zN4 (T:NumTypes P tp tr ti tn tb tw):Opn enc P W B tr 3 rtx (BdX B) :=
 wY T.r (wY T.i (opn_bool T.b T.cb) (zY8 T.n T.w T.cw T.cn T.hb)) (zY8 T.n T.w T.cw T.cn T.hb)
theorem opn_ptx (T:NumTypes P tp tr ti tn tb tw):Opn enc P W B tp 6 ptx (BpX B) :=
 wY T.p (zN4 T) (zN4 T)
theorem opn_pcx {t:TypeId} (T:NumTypes P tp tr ti tn tb tw) (ht:P.underlying t=some (.slice tp)) (c:P.cellsOf t=1):Opn enc P W B t 1 pcx (fun l=>l.length * P.bytesOf tp≤B∧∀ a ∈ l,BpX B a) :=
 opn_slicew ht c (opn_ptx T) (by omega)
end
section
variable {H : Type} {enc : TypeId × Value → H} {P : Program} {W : World} {B : Nat}
theorem trod_arr3 {base:Nat} {spare:Nat→Bool} {held:Bool} {fuel:Nat} {t e:TypeId} {cs:List Value} {x:DataW H × List MemPlace} (ht:P.underlying t=some (.array 3 e)) (h:DataW.trod enc P W base spare held fuel t cs=some x) :
  ∃ (xs:List (DataW H × List MemPlace)) (n:Nat),fuel=n + 1∧x=(.agg (xs.map (·.1)),xs.flatMap (·.2))∧cs.length=P.cellsOf t∧xs.length=3 ∧
   ∀ i,i < 3→DataW.trod enc P W base spare held n e ((cs.drop (i * P.cellsOf e)).take (P.cellsOf e))=xs[i]?:=by
 cases fuel with
 | zero=>simp [DataW.trod] at h
 | succ n =>
  unfold DataW.trod at h
  rw [ht] at h
  split at h <;> simp_all
  obtain ⟨hl,xs,hp,hd⟩:=h
  exact ⟨xs,hd.symm,by simpa using mapM_some_length hp,fun i hi=>by have:=mapM_some_get hp i i (by simp [hi]); simpa using this⟩
theorem opn_tri {α:Type} {t e:TypeId} {k:Nat} {f:α→CT} {Bf:α→Prop} (ht:P.underlying t=some (.array 3 e)) (hc:P.cellsOf t=k + (k + k)) (h0:Opn enc P W B e k f Bf) :
  Opn enc P W B t (k + (k + k)) (fun a:α × α × α=>st [f a.1,f a.2.1,f a.2.2]) (fun a=>Bf a.1∧Bf a.2.1∧Bf a.2.2):=by
 refine ⟨hc,fun a=>by show (f a.1).sz + ((f a.2.1).sz + ((f a.2.2).sz + 0))=_; rw [h0.s,h0.s,h0.s]; rfl,fun {fuel cs x} hw h=>?_⟩
 obtain ⟨xs,n,_,hxe,hl,hx,hall⟩:=trod_arr3 ht h
 have n0:=h0.c
 have e0:=hall 0 (by omega)
 have e1:=hall 1 (by omega)
 have e2:=hall 2 (by omega)
 rw [n0] at e0 e1 e2
 rw [Nat.zero_mul,List.drop_zero] at e0
 rw [Nat.one_mul] at e1
 have hd:(cs.drop (2 * k)).length=k:=by rw [List.length_drop]; omega
 rw [List.take_of_length_le (by omega)] at e2
 have hwi:∀ (i:Nat) (hi:i < xs.length),∀ m ∈ (xs[i]'hi).1.weights P e,m≤B:=fun i hi m hm=>hw m (by
  rw [hxe]; simp only [DataW.weights,ht]
  exact eD hm (List.mem_map_of_mem (List.getElem_mem hi)))
 rw [List.getElem?_eq_getElem (show 0 < xs.length by omega)] at e0
 rw [List.getElem?_eq_getElem (show 1 < xs.length by omega)] at e1
 rw [List.getElem?_eq_getElem (show 2 < xs.length by omega)] at e2
 obtain ⟨a,p0,b0⟩:=h0.o (hwi 0 (by omega)) e0
 obtain ⟨b,p1,b1⟩:=h0.o (hwi 1 (by omega)) e1
 obtain ⟨c,p2,b2⟩:=h0.o (hwi 2 (by omega)) e2
 refine ⟨(a,b,c),⟨cs.take k,cs.drop k,(List.take_append_drop _ _).symm,p0,(cs.drop k).take k,(cs.drop k).drop k,(List.take_append_drop _ _).symm,p1,cs.drop (2 * k),[],?_,p2,rfl⟩,b0,b1,b2⟩
 rw [List.drop_drop,List.append_nil]; congr 1; omega
end
end Go.Proofs.YtalkinejknjidaaGreatDoor
set_option maxHeartbeats 4000000
namespace Go.Proofs.YtalkinejknjidaaGreatDoor
open Go.SL Go.RowKit Go.Proofs Tryz
instance {a:RX}:C3 (rtx a):=⟨rfl⟩
abbrev big2 (a:PX):Nat:=m4 (a.1.1.2.length,a.1.2.length,a.2.1.2.length,a.2.2.length)
theorem k8add {p q:P2} {n m:Nat} (hn:n≤400) (hm:m≤400):CTy prog 74 [ag (ptq n p),ag (ptq m q)] (ag (ptc (2 * max n m + 8) (addP p q))):=by
 refine fw [.cell 4 39] func74 fun X=>?_
 iterate 4 refine u ?_
 refine u fun b4=>?_
 iterate 2 refine u ?_
 refine zL 13 mixed rfl rfl ?_
 repeat refine u ?_
 refine d1 (oca rfl rfl fun _=>vF (by omega)) ?_
 repeat refine u ?_
 refine d1 (oca rfl rfl fun _=>vF (by omega)) ?_
 repeat refine u ?_
 refine tst 0 rfl rfl rfl rfl rfl rfl ?_
 repeat refine u ?_
 refine ⟨[_],rsc 0 rfl rfl rfl rfl rs0,xJ ?_⟩
 exact pX (p:=addP p q) rfl (by omega)
end Go.Proofs.YtalkinejknjidaaGreatDoor
set_option maxHeartbeats 1000000
namespace Go.Proofs.YtalkinejknjidaaGreatDoor
open Go.SL Go.RowKit Go.Proofs Tryz
theorem yM8 {n m:Nat} {p q:Rat} (e:p=q) (h:n≤m):PSub (ag (rtc n p)) (ag (rtc m q)):=fun _ _ _ ⟨us,e1,s,a,d,e2,g⟩=>⟨us,e1,s,a,d,e2,by subst e; exact g.up h⟩
def oH (a b:P2) (x:Rat):Bool:=decide (a.1 < x) && decide (x < b.1) || decide (x < a.1) && decide (b.1 < x)
theorem k8sub {p q:P2} {n m:Nat} (hn:n≤900) (hm:m≤900):CTy prog 73 [ag (ptq n p),ag (ptq m q)] (ag (ptc (n + m + 3) (subP p q))):=by
 refine fw [.cell 4 39] func73 fun X=>?_
 iterate 4 refine u ?_
 refine u fun b4=>?_
 iterate 2 refine u ?_
 refine zL 11 mixed rfl rfl ?_
 repeat refine u ?_
 refine d1 (oca rfl rfl fun _=>zO5 (by omega) (by omega)) ?_
 repeat refine u ?_
 refine d1 (oca rfl rfl fun _=>zO5 (by omega) (by omega)) ?_
 repeat refine u ?_
 refine tst 0 rfl rfl rfl rfl rfl rfl ?_
 repeat refine u ?_
 refine ⟨[_],rsc 0 rfl rfl rfl rfl rs0,xJ (PSub.refl _)⟩
end Go.Proofs.YtalkinejknjidaaGreatDoor
set_option maxHeartbeats 1000000
namespace Go.Proofs.YtalkinejknjidaaGreatDoor
open Go.SL Go.RowKit Go.Proofs Tryz
abbrev nxP (p:List P2) (i:Nat):P2:=p.getD ((i + 1) % p.length) (0,0)
def stillP (p q:List P2) (x y:Rat):Prop:=∀ i k,i < p.length→k < q.length→oH (p.getD i (0,0)) (nxP p i) x=true→oH (q.getD k (0,0)) (nxP q k) x=true→oH (p.getD i (0,0)) (nxP p i) y=true→oH (q.getD k (0,0)) (nxP q k) y=true→cmpR (zO (p.getD i (0,0)) (nxP p i) x) (zO (q.getD k (0,0)) (nxP q k) x)=cmpR (zO (p.getD i (0,0)) (nxP p i) y) (zO (q.getD k (0,0)) (nxP q k) y)
end Go.Proofs.YtalkinejknjidaaGreatDoor
namespace Go.SL
theorem lV {a b:Rat} (h:a * b=0) (ha:a ≠ 0):b=0:=by grind
theorem xQ {a b:P2} (h:a.1 ≠ b.1):∃ k,(∀ z,zO a b z=a.2 + k * (z - a.1))∧k * (b.1 - a.1)=b.2 - a.2:=by
 refine ⟨(b.2 - a.2) / (b.1 - a.1),fun z=>?_,by grind⟩
 unfold zO; rw [if_neg (by grind)]
 unfold atP addP uD subP; simp only; grind
theorem bS {a b p:P2} (h:a.1 ≠ b.1) (hs:kQ (xL a b) p=0):p.2=zO a b p.1:=by
 obtain ⟨k,h1,h2⟩:=xQ h
 rw [h1]
 have h3:(b.1 - a.1) * (p.2 - (a.2 + k * (p.1 - a.1)))=0:=by
  unfold kQ xL zG subP at hs
  split at hs <;> simp only at hs <;> grind
 have:=lV h3 (by grind)
 grind
theorem dF {a b:P2} {x:Rat} (h:a.1 < x∧x < b.1 ∨ x < a.1∧b.1 < x):a.1 ≠ b.1:=by grind
theorem zP1 {a b:P2} {x:Rat} (h:a.1 < x∧x < b.1 ∨ x < a.1∧b.1 < x):hasP (xL a b) (x,zO a b x):=by
 have hn:=dF h
 have e:atP a b ((x - a.1) / (b.1 - a.1))=(x,zO a b x):=by
  unfold zO; rw [if_neg (by grind)]
  unfold atP addP uD subP; simp only; rw [Prod.mk.injEq]; constructor <;> grind
 rw [← e]
 have h2:(x - a.1) / (b.1 - a.1) * (b.1 - a.1)=x - a.1:=by grind
 refine has_at ?_ ?_
 ·rcases h with h | h
  ·exact jT (D:=b.1 - a.1) (by grind) (by grind)
  ·exact jT (D:=a.1 - b.1) (by grind) (by grind)
 ·suffices h3:0≤1 - (x - a.1) / (b.1 - a.1) by grind
  rcases h with h | h
  ·exact jT (D:=b.1 - a.1) (by grind) (by grind)
  ·exact jT (D:=a.1 - b.1) (by grind) (by grind)
theorem zero_between {x y u v:Rat} (h:u < 0∧0≤v ∨ 0 < u∧v≤0 ∨ u=0∧v ≠ 0):∃ t,0≤t∧t≤1∧u + t * (v - u)=0:=by
 by_cases h0:u=0
 ·exact ⟨0,by grind,by grind,by grind⟩
 have e:u / (u - v) * (u - v)=u:=by grind
 refine ⟨u / (u - v),?_,?_,by grind⟩
 ·rcases h with h | h | h
  ·exact jT (D:=v - u) (by grind) (by grind)
  ·exact jT (D:=u - v) (by grind) (by grind)
  ·grind
 ·suffices h3:0≤1 - u / (u - v) by grind
  rcases h with h | h | h
  ·exact jT (D:=v - u) (by grind) (by grind)
  ·exact jT (D:=u - v) (by grind) (by grind)
  ·grind
theorem zJ6 {t x y lo hi:Rat} (h0:0≤t) (h1:t≤1) (hx:lo < x∧x < hi) (hy:lo < y∧y < hi):lo < x + t * (y - x)∧x + t * (y - x) < hi:=by
 rcases (Rat.le_total:x≤y ∨ y≤x) with h | h
 ·have a:=Rat.mul_nonneg h0 (show 0≤y - x by grind)
  have b:=Rat.mul_nonneg (show 0≤1 - t by grind) (show 0≤y - x by grind)
  grind
 ·have a:=Rat.mul_nonneg h0 (show 0≤x - y by grind)
  have b:=Rat.mul_nonneg (show 0≤1 - t by grind) (show 0≤x - y by grind)
  grind
theorem thru_z {t x y a b:Rat} (h0:0≤t) (h1:t≤1) (k1:a < x∧x < b ∨ x < a∧b < x) (k2:a < y∧y < b ∨ y < a∧b < y):a < x + t * (y - x)∧x + t * (y - x) < b ∨ x + t * (y - x) < a∧b < x + t * (y - x):=by
 rcases k1 with k1 | k1
 ·exact .inl (zJ6 h0 h1 k1 (by rcases k2 with k2 | k2; exact k2; grind))
 ·have:=zJ6 h0 h1 (lo:=b) (hi:=a) ⟨k1.2,k1.1⟩ (by rcases k2 with k2 | k2; grind; exact ⟨k2.2,k2.1⟩)
  exact .inr ⟨this.2,this.1⟩
theorem still_core {a b c d:P2} {x y lo hi:Rat} (h1:a.1 < x∧x < b.1 ∨ x < a.1∧b.1 < x) (h2:c.1 < x∧x < d.1 ∨ x < c.1∧d.1 < x) (h3:a.1 < y∧y < b.1 ∨ y < a.1∧b.1 < y) (h4:c.1 < y∧y < d.1 ∨ y < c.1∧d.1 < y)
  (hx:lo < x∧x < hi) (hy:lo < y∧y < hi) (H:∀ p ∈ qU (yE (xL a b) (xL c d)),p.1≤lo ∨ hi≤p.1):cmpR (zO a b x) (zO c d x)=cmpR (zO a b y) (zO c d y):=by
 obtain ⟨k,f1,f2⟩:=xQ (dF h1)
 obtain ⟨l,g1,g2⟩:=xQ (dF h2)
 refine Classical.byContradiction fun hc=>?_
 obtain ⟨u,hu⟩:∃ u,u=zO a b x - zO c d x:=⟨_,rfl⟩
 obtain ⟨v,hv⟩:∃ v,v=zO a b y - zO c d y:=⟨_,rfl⟩
 have hs:u < 0∧0≤v ∨ 0 < u∧v≤0 ∨ u=0∧v ≠ 0:=by
  subst hu hv; revert hc
  generalize zO a b x=p; generalize zO c d x=q; generalize zO a b y=r; generalize zO c d y=s
  intro hc; unfold cmpR at hc; grind
 obtain ⟨t,zA0,zA1,e⟩:=zero_between (x:=x) (y:=y) hs
 obtain ⟨z,hz⟩:∃ z,z=x + t * (y - x):=⟨_,rfl⟩
 have hzl:=zJ6 zA0 zA1 hx hy
 rw [← hz] at hzl
 have hzt:∀ {p q:P2},(p.1 < x∧x < q.1 ∨ x < p.1∧q.1 < x)→(p.1 < y∧y < q.1 ∨ y < p.1∧q.1 < y)→p.1 < z∧z < q.1 ∨ z < p.1∧q.1 < z:=fun {p q} k1 k2=>by rw [hz]; exact thru_z zA0 zA1 k1 k2
 have e2:zO c d z=zO a b z:=by
  rw [f1,g1] at hu hv
  rw [f1,g1]; subst hz hu hv; grind
 have p1:=zP1 (hzt h1 h3)
 have p2:=zP1 (hzt h2 h4)
 rw [e2] at p2
 obtain ⟨m0,m1,m2,m3,m4,m5,_⟩:=iA p1 p2
 have hb:=zI5 m5
 simp only at hb
 have q1:=H _ (show (yE (xL a b) (xL c d)).2.1 ∈ _ by unfold qU; rw [if_neg m0]; simp)
 have q2:=H _ (show (yE (xL a b) (xL c d)).2.2 ∈ _ by unfold qU; rw [if_neg m0]; simp)
 have s1:=bS (dF h1) m1.2
 have s2:=bS (dF h2) m2.2
 have s3:=bS (dF h1) m3.2
 have s4:=bS (dF h2) m4.2
 generalize (yE (xL a b) (xL c d)).2.1=A at *
 generalize (yE (xL a b) (xL c d)).2.2=B at *
 rw [f1] at s1 s3; rw [g1] at s2 s4
 have hAB:A.1 < B.1:=by grind
 have hk:(k - l) * (B.1 - A.1)=0:=by grind
 have hkl:B.1 - A.1=0 ∨ k - l=0:=by
  by_cases c0:k - l=0
  ·exact .inr c0
  ·exact .inl (lV hk c0)
 have:k=l:=by grind
 subst this
 rw [f1,g1] at hu; rw [f1,g1] at hv
 grind
end Go.SL
set_option maxHeartbeats 4000000
namespace Go.Proofs.YtalkinejknjidaaGreatDoor
open Go.SL Go.RowKit Go.Proofs Tryz
theorem cZ (ls:List (List P2)) (b:P2 × P2):iS (cutsOf ls b):=fun i hi=>by
 have h:=List.pairwise_iff_getElem.1 (jG kV (rawC ls b)).rise i (i + 1) (by unfold cutsOf at hi; omega) hi (by omega)
 rw [List.getD_eq_getElem?_getD,List.getD_eq_getElem?_getD,List.getElem?_eq_getElem (show i < (cutsOf ls b).length by omega),List.getElem?_eq_getElem hi]
 exact xT.1 h
theorem cuts_find {ls:List (List P2)} {b:P2 × P2} {x:Rat} (h:x ∈ cutsOf ls b):∃ i,i < (cutsOf ls b).length∧(cutsOf ls b).getD i 0=x∧yK1 (cutsOf ls b) x=(i,true,true):=by
 obtain ⟨i,hi,e⟩:=List.mem_iff_getElem.1 h
 have e2:(cutsOf ls b).getD i 0=x:=by rw [List.getD_eq_getElem?_getD,List.getElem?_eq_getElem hi]; exact e
 exact ⟨i,hi,e2,by rw [← e2]; exact find_wall (cZ ls b) hi⟩
theorem meet_mem {ls:List (List P2)} {b:P2 × P2} {i k m n:Nat} (hk:k < i) (hi:i < ls.length) (hm:m < (ls.getD i []).length) (hn:n < (ls.getD k []).length) {p:P2} (h:p ∈ qU (yE (qX (ls.getD i []) m) (qX (ls.getD k []) n))):p.1 ∈ cutsOf ls b:=by
 unfold cutsOf; rw [yT kV]; unfold rawC
 refine List.mem_append.2 (.inr (iB.2 ⟨k,i,hk,hi,?_⟩))
 rw [allOf_comm,aT]
 exact List.mem_map.2 ⟨p,(yT aG).2 (eR.2 ⟨_,bN.2 ⟨m,hm,rfl⟩,_,bN.2 ⟨n,hn,rfl⟩,h⟩),rfl⟩
theorem lK {a b:P2} {x:Rat} (h:oH a b x=true):a.1 < x∧x < b.1 ∨ x < a.1∧b.1 < x:=by
 unfold oH at h; simpa only [Bool.or_eq_true,Bool.and_eq_true,decide_eq_true_eq] using h
theorem still_cuts {ls:List (List P2)} {b:P2 × P2} {j i k:Nat} {x y:Rat} (hj:j + 1 < (cutsOf ls b).length) (hk:k < i) (hi:i < ls.length)
  (hx:(cutsOf ls b).getD j 0 < x∧x < (cutsOf ls b).getD (j + 1) 0) (hy:(cutsOf ls b).getD j 0 < y∧y < (cutsOf ls b).getD (j + 1) 0):stillP (ls.getD i []) (ls.getD k []) x y:=fun m n hm hn zA1 zA2 t3 t4=>by
 refine still_core (lK zA1) (lK zA2) (lK t3) (lK t4) hx hy fun p hp=>?_
 obtain ⟨c,hc,e,_⟩:=cuts_find (meet_mem (b:=b) hk hi hm hn hp)
 have hr:=cZ ls b
 rcases Nat.lt_trichotomy c j with h | h | h
 ·exact .inl (by rw [← e]; exact Rat.le_of_lt (cK hr h (by omega)))
 ·exact .inl (by rw [← e,h]; exact Rat.le_refl)
 ·rcases Nat.lt_or_ge (j + 1) c with h2 | h2
  ·exact .inr (by rw [← e]; exact Rat.le_of_lt (cK hr h2 hc))
  ·obtain rfl:c=j + 1:=by omega
   exact .inr (by rw [← e]; exact Rat.le_refl)
end Go.Proofs.YtalkinejknjidaaGreatDoor
set_option maxHeartbeats 1000000
namespace Go.Proofs.YtalkinejknjidaaGreatDoor
open Go.SL Go.RowKit Go.Proofs Tryz
section
variable {Ψ Φ Ξ : PV} {n m l : Nat} {p q x : P2} {t : Rat}
theorem w8cross (hn:n≤400) (hm:m≤400):CTy prog 209 [ag (ptq n p),ag (ptq m q)] (ag (rtc (4 * max n m + 19) (zG p q))):=by
 refine fw [.cell 4 29] func209 fun X=>?_
 iterate 4 refine u ?_
 refine u fun b4=>?_
 iterate 2 refine u ?_
 refine zL 13 mixed rfl rfl ?_
 repeat refine u ?_
 refine d1 (oca rfl rfl fun _=>nV (by omega)) ?_
 repeat refine u ?_
 refine d1 (oca rfl rfl fun _=>nV (by omega)) ?_
 refine d1 (oca rfl rfl fun _=>zO5 (by omega) (by omega)) ?_
 repeat refine u ?_
 refine e ?_
 exact yM8 rfl (by omega)
theorem w8dot (hn:n≤400) (hm:m≤400):CTy prog 282 [ag (ptq n p),ag (ptq m q)] (ag (rtc (4 * max n m + 24) (p.1 * q.1 + p.2 * q.2))):=by
 refine fw [.cell 4 29] func282 fun X=>?_
 iterate 4 refine u ?_
 refine u fun b4=>?_
 iterate 2 refine u ?_
 refine zL 14 mixed rfl rfl ?_
 repeat refine u ?_
 refine d1 (oca rfl rfl fun _=>nV (by omega)) ?_
 repeat refine u ?_
 refine d1 (oca rfl rfl fun _=>nV (by omega)) ?_
 repeat refine u ?_
 refine d1 (oca rfl rfl fun _=>vF (by omega)) ?_
 repeat refine u ?_
 refine e ?_
 exact yM8 rfl (by omega)
theorem w8scale (hn:n≤400) (hm:m≤400):CTy prog 118 [ag (ptq n p),ag (rtq m t)] (ag (ptc (2 * max n m + 8) (uD p t))):=by
 refine fw [.cell 4 39] func118 fun X=>?_
 iterate 4 refine u ?_
 refine u fun b4=>?_
 iterate 2 refine u ?_
 refine zL 11 mixed rfl rfl ?_
 repeat refine u ?_
 refine d1 (oca rfl rfl fun _=>nV (by omega)) ?_
 repeat refine u ?_
 refine d1 (oca rfl rfl fun _=>nV (by omega)) ?_
 repeat refine u ?_
 refine tst 0 rfl rfl rfl rfl rfl rfl ?_
 repeat refine u ?_
 refine ⟨[_],rsc 0 rfl rfl rfl rfl rs0,xJ ?_⟩
 exact pX (p:=uD p t) rfl (by omega)
theorem w8cmp (hn:n≤1990) (hm:m≤1990):CTy prog 78 [ag (ptq n p),ag (ptq m q)] (exP (.int .i64 (cmpP p q))):=by
 refine fw [.tmp 4] func78 fun X=>?_
 repeat refine u ?_
 refine zA1 (oca rfl rfl fun _=>iN (by omega) (by omega)) ?_
 repeat refine u ?_
 refine ti (fun c0=>?_) fun c0=>?_
 repeat refine u ?_
 refine e ?_
 refine ps_i ?_
 rotate_left 1
 repeat refine u ?_
 refine zA1 (oca rfl rfl fun _=>iN (by omega) (by omega)) ?_
 repeat refine u ?_
 refine e ?_
 refine ps_i ?_
 rotate_left 1
 ·unfold cmpP; rw [if_pos (dt c0)]
 ·unfold cmpP; rw [if_neg (df c0)]
theorem pB [h:QP Ψ n p] [k:QP Φ m q] (hn:n≤400) (hm:m≤400):CTy prog 209 [Ψ,Φ] (ag (rtc (4 * max n m + 19) (zG p q))):=yG (w8cross hn hm) (fs1 qp_q (fs1 qp_q fs0))
theorem k8dot [h:QP Ψ n p] [k:QP Φ m q] (hn:n≤400) (hm:m≤400):CTy prog 282 [Ψ,Φ] (ag (rtc (4 * max n m + 24) (p.1 * q.1 + p.2 * q.2))):=yG (w8dot hn hm) (fs1 qp_q (fs1 qp_q fs0))
theorem k8scale [h:QP Ψ n p] [k:QR Φ m t] (hn:n≤400) (hm:m≤400):CTy prog 118 [Ψ,Φ] (ag (ptc (2 * max n m + 8) (uD p t))):=yG (w8scale hn hm) (fs1 qp_q (fs1 qr_q fs0))
theorem yJ3 [h:QP Ψ n p] [k:QP Φ m q] (hn:n≤1990) (hm:m≤1990):CTy prog 78 [Ψ,Φ] (exP (.int .i64 (cmpP p q))):=yG (w8cmp hn hm) (fs1 qp_q (fs1 qp_q fs0))
theorem kL [h:QP Ψ n p] [k:QP Φ m q] (hn:n≤900) (hm:m≤900):CTy prog 73 [Ψ,Φ] (ag (ptc (n + m + 3) (subP p q))):=yG (k8sub hn hm) (fs1 qp_q (fs1 qp_q fs0))
theorem zT3 [h:QP Ψ n p] [k:QP Φ m q] (hn:n≤400) (hm:m≤400):CTy prog 74 [Ψ,Φ] (ag (ptc (2 * max n m + 8) (addP p q))):=yG (k8add hn hm) (fs1 qp_q (fs1 qp_q fs0))
end
theorem k8same {p q:P2} {n m:Nat} (hn:n≤1990) (hm:m≤1990):CTy prog 193 [ag (ptq n p),ag (ptq m q)] (exP (.bool (decide (cmpP p q=0)))):=by
 refine fw [.tmp 4] func193 fun X=>?_
 repeat refine u ?_
 refine zA1 (oca rfl rfl fun _=>yJ3 (by omega) (by omega)) ?_
 repeat refine u ?_
 exact e
theorem w8at {a b:P2} {t:Rat} {n m:Nat} (hn:n≤40) (hm:m≤190):CTy prog 47 [ag (ptq n a),ag (ptq n b),ag (rtq m t)] (ag (ptc (4 * max (2 * n + 3) m + 24) (atP a b t))):=by
 refine fw [.cell 6 39] func47 fun X=>?_
 iterate 5 refine u ?_
 refine u fun b6=>?_
 iterate 2 refine u ?_
 refine zL 7 mixed rfl rfl ?_
 repeat refine u ?_
 refine d1 (oca rfl rfl fun _=>kL (by omega) (by omega)) ?_
 repeat refine u ?_
 refine d1 (oca rfl rfl fun _=>k8scale (by omega) (by omega)) ?_
 refine d1 (oca rfl rfl fun _=>zT3 (by omega) (by omega)) ?_
 repeat refine u ?_
 refine tst 0 rfl rfl rfl rfl rfl rfl ?_
 repeat refine u ?_
 refine ⟨[_],rsc 0 rfl rfl rfl rfl rs0,xJ ?_⟩
 exact pX (p:=atP a b t) rfl (by omega)
theorem k8at {Ξ:PV} {a b:P2} {t:Rat} {n m:Nat} [h:QR Ξ m t] (hn:n≤40) (hm:m≤190):CTy prog 47 [ag (ptq n a),ag (ptq n b),Ξ] (ag (ptc (4 * max (2 * n + 3) m + 24) (atP a b t))):=yG (w8at hn hm) (fs1 (PSub.refl _) (fs1 (PSub.refl _) (fs1 qr_q fs0)))
theorem zT2 {l:List P2} {n:Nat} (hn:n≤1990) (hl:l.length≤1000000):CTy prog 77 [sv (sl 6 (l.map (ptq n)))] (sv (sl 6 (l.map (ptc (n + 1))))):=by
 refine fw [.tmp 2] func77 fun X=>?_
 repeat refine u ?_
 refine t_ts (qQ 39 6) ?_
 refine lp (σ:=Nat × Value) [0,2] (fun s=>[(3,True,exP s.2),(4,True,exP (.int .i64 ((s.1:Nat):Int)))]) (fun s=>[.row s.2 39 6 ((l.take s.1).map (ptc (n + 1)))]) (fun s=>s.1≤l.length) (fun s=>l.length - s.1) ((0,.slice none 0 0)) ((by simp)) fun s hJ Y _=>?_
 repeat refine u ?_
 refine ti (fun c0=>?_) fun c0=>?_
 iterate 3 refine u ?_
 refine zL 15 mixed rfl rfl ?_
 repeat refine u ?_
 refine d1 (oix _ rfl rfl rfl (fun _=>rfl) (fun _=>(by (have e0:=dt c0; omega)))) ?_
 repeat refine u ?_
 refine d1 (oca rfl rfl fun _=>bK (by omega)) ?_
 repeat refine u ?_
 refine d1 (oix _ rfl rfl rfl (fun _=>rfl) (fun _=>(by (have e0:=dt c0; omega)))) ?_
 repeat refine u ?_
 refine d1 (oca rfl rfl fun _=>bK (by omega)) ?_
 iterate 4 refine u ?_
 refine u fun r26=>?_
 repeat refine u ?_
 rotate_left 1
 iterate 7 refine u ?_
 refine t_ts (xV (s:=2) 0 rfl rfl) ?_
 repeat refine u ?_
 refine e ?_
 rotate_left 1
 ·refine ⟨(s.1 + 1,r26),tes ?_ ?_ ?_,(by (have e0:=dt c0; omega)),(by (have e0:=dt c0; omega))⟩
  refine tc rfl (ps_r _) (tc rfl (ps_r _) (tn))
  refine tc rfl (ps_r _) (tc rfl (ps_r _) (tn))
  rw [(zU (Df.d:P2) (show s.1 < l.length by have:=dt c0; omega)).1,List.map_append]
  exact List.Sublist.refl _
 ·rw [List.take_of_length_le (by have:=df c0; omega)]
  exact PSub.refl _
def onB (a b p:P2):Bool:=decide (zG (subP b a) (subP p a)=0) && decide ((subP p a).1 * (subP p b).1 + (subP p a).2 * (subP p b).2≤0)
theorem w10on {a b p:P2} {m:Nat} (hm:m≤350):CTy prog 217 [ag (ptq 1 a),ag (ptq 1 b),ag (ptq m p)] (exP (.bool (onB a b p))):=by
 refine fw [.tmp 6] func217 fun X=>?_
 iterate 9 refine u ?_
 refine zL 9 mixed rfl rfl ?_
 repeat refine u ?_
 refine d1 (oca rfl rfl fun _=>kL (by omega) (by omega)) ?_
 repeat refine u ?_
 refine d1 (oca rfl rfl fun _=>kL (by omega) (by omega)) ?_
 refine d1 (oca rfl rfl fun _=>pB (by omega) (by omega)) ?_
 refine d1 (oca rfl rfl fun _=>rT (by omega)) ?_
 repeat refine u ?_
 refine ti (fun c0=>?_) fun c0=>?_
 repeat refine u ?_
 refine e ?_
 refine psb ?_
 rotate_left 1
 iterate 2 refine u ?_
 refine zL 10 mixed rfl rfl ?_
 repeat refine u ?_
 refine d1 (oca rfl rfl fun _=>kL (by omega) (by omega)) ?_
 repeat refine u ?_
 refine d1 (oca rfl rfl fun _=>kL (by omega) (by omega)) ?_
 refine d1 (oca rfl rfl fun _=>k8dot (by omega) (by omega)) ?_
 refine d1 (oca rfl rfl fun _=>rT (by omega)) ?_
 repeat refine u ?_
 refine e ?_
 refine psb ?_
 rotate_left 1
 ·have h:=dt c0
  unfold onB; rw [decide_eq_false (fun e=>h (fO.2 e)),Bool.false_and]
 ·have h:=df c0
  unfold onB; rw [decide_eq_true (show zG (subP b a) (subP p a)=0 from fO.1 (Classical.not_not.1 h)),Bool.true_and,decide_eq_decide]
  exact zX4
theorem yA9 {Ψ:PV} {a b p:P2} {m:Nat} [h:QP Ψ m p] (hm:m≤350):CTy prog 217 [ag (ptq 1 a),ag (ptq 1 b),Ψ] (exP (.bool (onB a b p))):=yG (w10on hm) (fs1 (PSub.refl _) (fs1 (PSub.refl _) (fs1 qp_q fs0)))
theorem k10lines {a b c d:P2}:CTy prog 216 [ag (ptq 1 a),ag (ptq 1 b),ag (ptq 1 c),ag (ptq 1 d)] (tu [ag (ptc 348 (xP a b c d)),exP (.bool (decide (xB a b c d)))]):=by
 have hz:∀ {x:Rat},decide ((if x=0 then (30:Int) else 0) ≠ 0)=decide (x=0):=fun {x}=>by by_cases h:x=0 <;> simp [h]
 refine fw [.cell 8 39,.tmp 9] func216 fun X=>?_
 iterate 6 refine u ?_
 refine u fun b8=>?_
 iterate 3 refine u ?_
 apply uR 2 9 8 [(6,10,0),(7,11,1),(8,1000008,0)] rfl rfl mixed rfl rfl rfl
 repeat refine u ?_
 refine cx1 (oca rfl rfl fun _=>kL (by omega) (by omega)) rfl ?_
 repeat refine u ?_
 refine cx1 (oca rfl rfl fun _=>kL (by omega) (by omega)) rfl ?_
 refine cN rfl rfl (cal) (cN rfl rfl (cal) (cS rfl rfl rfl (cst rfl rfl rfl) ?_))
 refine cE (fun b10 b11=>?_)
 refine fm ?_
 refine u ?_
 refine yD (xR (s:=10) 1 rfl rfl) ?_
 refine tst 0 rfl rfl rfl rfl rfl rfl (yD (xR (s:=11) 0 rfl rfl) ?_)
 repeat refine u ?_
 refine zA1 (oca rfl rfl fun _=>pB (by omega) (by omega)) ?_
 refine u fun b12=>?_
 refine u ?_
 refine yD (xR (s:=12) 0 rfl rfl) ?_
 iterate 2 refine u ?_
 apply uR 1 13 11 [(10,13,0),(11,1000011,0)] rfl rfl mixed rfl rfl rfl
 repeat refine u ?_
 refine cx1 (oca rfl rfl fun _=>kL (by omega) (by omega)) rfl ?_
 repeat refine u ?_
 refine cx1 (oca rfl rfl fun _=>pB (by omega) (by omega)) rfl ?_
 repeat refine u ?_
 refine cx1 (oca rfl rfl fun _=>k7quo (by omega) (by omega)) rfl ?_
 repeat refine u ?_
 refine cN rfl rfl (cal) (cS rfl rfl rfl (cst rfl rfl rfl) ?_)
 repeat refine u ?_
 refine cE (fun b13=>?_)
 refine fm ?_
 repeat refine u ?_
 refine ti (fun c0=>?_) fun c0=>?_
 repeat refine u ?_
 refine zA1 (oca rfl rfl fun _=>k8of (by (simp; done)) (by (simp; done))) ?_
 refine tst 1 rfl rfl rfl rfl rfl rfl ?_
 repeat refine u ?_
 refine ⟨[_,_],rsc 1 rfl rfl rfl rfl (rst rfl rs0),aV ?_ ?_⟩
 rotate_left 1
 refine psb ?_
 rotate_left 1
 repeat refine u ?_
 refine zA1 (oca rfl rfl fun _=>k8at (by omega) (by omega)) ?_
 refine tst 1 rfl rfl rfl rfl rfl rfl ?_
 repeat refine u ?_
 refine ⟨[_,_],rsc 1 rfl rfl rfl rfl (rst rfl rs0),aV ?_ ?_⟩
 rotate_left 1
 refine psb ?_
 rotate_left 1
 ·have h:=of_decide_eq_true ((hz (x:=zG (subP b a) (subP d c))).symm.trans c0.h)
  exact pX (p:=(((0:Nat):Rat),((0:Nat):Rat))) (by unfold xP; rw [if_neg (show ¬ xB a b c d from fun c=>c h)]; rfl) (by omega)
 ·have h:=of_decide_eq_true ((hz (x:=zG (subP b a) (subP d c))).symm.trans c0.h)
  exact (decide_eq_false (fun c=>c h)).symm
 ·have h:=of_decide_eq_false ((hz (x:=zG (subP b a) (subP d c))).symm.trans c0.h)
  exact pX (p:=atP a b (wZ a b c d)) (by unfold xP; rw [if_pos (show xB a b c d from h)]) (by omega)
 ·have h:=of_decide_eq_false ((hz (x:=zG (subP b a) (subP d c))).symm.trans c0.h)
  exact (decide_eq_true h).symm
end Go.Proofs.YtalkinejknjidaaGreatDoor
set_option maxHeartbeats 4000000
namespace Go.Proofs.YtalkinejknjidaaGreatDoor
open Go.SL Go.RowKit Go.Proofs Tryz
end Go.Proofs.YtalkinejknjidaaGreatDoor
namespace Go.SL
end Go.SL
namespace Go.Proofs.YtalkinejknjidaaGreatDoor
open Go.SL Go.RowKit Go.Proofs
section
variable {α : Type} {cf : α → α → Int}
theorem zI3 (h:COrd cf) {raw:List α} {x:α} {k:Nat} (z:α) (hk:k≤(setOf cf raw).length) (h1:∀ j,j < k→cf ((setOf cf raw).getD j z) x < 0) (h2:k < (setOf cf raw).length→¬ cf ((setOf cf raw).getD k z) x < 0) :
  (k < (setOf cf raw).length→cf ((setOf cf raw).getD k z) x=0→setOf cf raw=setOf cf (raw ++ [x])) ∧
  ((k < (setOf cf raw).length→cf ((setOf cf raw).getD k z) x ≠ 0)→(setOf cf raw).take k ++ x :: (setOf cf raw).drop k=setOf cf (raw ++ [x])):=by
 have hs:=jG h raw
 generalize setOf cf raw=l at *
 have hg:∀ {j},(hj:j < l.length)→l.getD j z=l[j]:=fun {j} hj=>by rw [List.getD_eq_getElem?_getD,List.getElem?_eq_getElem hj]; rfl
 constructor
 ·intro hl h0
  rw [hg hl] at h0
  have e:=(h.zero _ _).1 h0
  refine IsSet.eq (cf:=cf) (l:=raw ++ [x]) h ⟨hs.rise,fun y=>?_⟩
  rw [hs.mem,List.mem_append,List.mem_singleton]
  exact ⟨.inl,fun c=>c.elim id fun c=>by subst c; rw [← e,← hs.mem]; exact List.getElem_mem hl⟩
 ·intro h0
  refine IsSet.eq (cf:=cf) (l:=raw ++ [x]) h ⟨?_,fun y=>?_⟩
  ·have hr:=List.pairwise_iff_getElem.1 hs.rise
   have hb:∀ y ∈ l.drop k,cf x y < 0:=fun y hy=>by
    obtain ⟨j,hj,rfl⟩:=List.mem_iff_getElem.1 hy
    rw [List.length_drop] at hj
    rw [List.getElem_drop]
    have hkl:k < l.length:=by omega
    have h3:=h2 hkl; have h4:=h0 hkl
    rw [hg hkl] at h3 h4
    have h5:cf x l[k] < 0:=(h.anti _ _).1 (by omega)
    rcases Nat.eq_zero_or_pos j with c | c
    ·subst c; exact h5
    ·exact h.trans _ _ _ h5 (hr k (k + j) hkl (by omega) (by omega))
   have ha:∀ y ∈ l.take k,cf y x < 0:=fun y hy=>by
    obtain ⟨j,hj,rfl⟩:=List.mem_iff_getElem.1 hy
    rw [List.length_take] at hj
    rw [List.getElem_take,← hg (by omega)]; exact h1 j (by omega)
   refine List.pairwise_append.2 ⟨hs.rise.sublist (List.take_sublist _ _),List.pairwise_cons.2 ⟨hb,hs.rise.sublist (List.drop_sublist _ _)⟩,fun a ha2 b hb2=>?_⟩
   rcases List.mem_cons.1 hb2 with c | c
   ·subst c; exact ha a ha2
   ·exact h.trans _ _ _ (ha a ha2) (hb b c)
  ·rw [List.mem_append,List.mem_cons,List.mem_append,List.mem_singleton,← hs.mem]
   conv=>rhs; rw [← List.take_append_drop k l,List.mem_append]
   exact ⟨fun c=>by rcases c with c | c | c; exact .inl (.inl c); exact .inr c; exact .inl (.inr c),fun c=>by rcases c with (c | c) | c; exact .inl c; exact .inr (.inr c); exact .inr (.inl c)⟩
end
end Go.Proofs.YtalkinejknjidaaGreatDoor
set_option maxHeartbeats 1000000
namespace Go.Proofs.YtalkinejknjidaaGreatDoor
open Go.SL Go.RowKit Go.Proofs Tryz
theorem pA {Ψ Φ:PV} {n m:Nat} {p q:P2} [h:QP Ψ n p] [k:QP Φ m q] (hn:n≤1990) (hm:m≤1990):CTy prog 193 [Ψ,Φ] (exP (.bool (decide (cmpP p q=0)))):=yG (k8same hn hm) (fs1 qp_q (fs1 qp_q fs0))
theorem zX2 {B:List CT} {c c':CT} {M:Nat→Prop} {w:World} (h:∀ us,c.p M w us→c'.p M w us):∀ {A:List CT} {us:List Value},stp (A ++ c :: B) M w us→stp (A ++ c' :: B) M w us
 | [],_,⟨x,y,e,h1,h2⟩=>⟨x,y,e,h _ h1,h2⟩
 | _ :: _,_,⟨x,y,e,h1,h2⟩=>⟨x,y,e,h1,zX2 h h2⟩
theorem sl_mid {A B:List CT} {c c':CT} {k:Nat} (h:∀ M w us,c.p M w us→c'.p M w us) (hs:c'.sz=k):PSub (sv (sl k (A ++ c :: B))) (sv (sl k (A ++ c' :: B))):=fun M w v ⟨u,vs,e,h1,h2,h3⟩ =>
 ⟨u,vs,e,by simpa using h1,zX2 (h M w) h2,fun x hx=>by
  rcases List.mem_append.1 hx with h | h
  ·exact h3 x (by simp [h])
  ·rcases List.mem_cons.1 h with h | h
   ·rw [h]; exact hs
   ·exact h3 x (by simp [h])⟩
theorem yB0 {α:Type} {f g:α→CT} {k sz:Nat} {l l':List α} {p:α} (hl:l.take k ++ p :: l.drop k=l') (h:∀ M w us,(g p).p M w us→(f p).p M w us) (hs:(f p).sz=sz):PSub (sv (sl sz ((l.take k).map f ++ [p].map g ++ ((l.drop k).take (l.length - k)).map f))) (sv (sl sz (l'.map f))):=by
 subst hl
 rw [List.take_of_length_le (l:=l.drop k) (by rw [List.length_drop]; omega),List.map_cons,List.map_nil,List.append_assoc,List.singleton_append,List.map_append,List.map_cons]
 exact sl_mid h hs
theorem tM {n m:Nat} {p:P2} (h:rlen p.1 n∧rlen p.2 n) (M:Nat→Prop) (w:World) (us:List Value) (k:(ptc m p).p M w us):(ptc n p).p M w us:=by
 obtain ⟨x,y,e,⟨s,a,d,e2,g⟩,z,o,e3,⟨t,b,f,e4,g2⟩,e5⟩:=k
 exact ⟨x,y,e,⟨s,a,d,e2,g.relen h.1⟩,z,o,e3,⟨t,b,f,e4,g2.relen h.2⟩,e5⟩
theorem zT5 {raw:List P2} {p:P2} {n m:Nat} (hm:m≤1900) (hn:n≤1900) (hL:(setOf cmpP raw).length≤100000) (h1:rlen p.1 n∧rlen p.2 n):CTy prog 150 [sv (sl 6 ((setOf cmpP raw).map (ptc n))),ag (ptq m p)] (sv (sl 6 ((setOf cmpP (raw ++ [p])).map (ptc n)))):=by
 refine fw [.tmp 4] func150 fun X=>?_
 repeat refine u ?_
 refine lp (σ:=Nat) [0,3,4] (fun k=>[(5,True,exP (.int .i64 ((k:Nat):Int)))]) (fun k=>[]) (fun k=>k≤(setOf cmpP raw).length∧∀ j,j < k→cmpP ((setOf cmpP raw).getD j (0,0)) p < 0) (fun k=>(setOf cmpP raw).length - k) (0) (⟨by omega,by omega⟩) fun k hJ Y _=>?_
 obtain ⟨hk,hlt⟩:=hJ
 iterate 2 refine u ?_
 refine zL 13 mixed rfl rfl ?_
 repeat refine u ?_
 refine d1g rfl rfl (oca rfl rfl fun g=>yJ3 (by omega) (by omega)) ?_
 repeat refine u ?_
 refine ti (fun c0=>?_) fun c0=>?_
 repeat refine u ?_
 rotate_left 1
 iterate 4 refine u ?_
 refine zL 12 mixed rfl rfl ?_
 repeat refine u ?_
 refine d1g rfl rfl (oca rfl rfl fun g=>pA (by omega) (by omega)) ?_
 repeat refine u ?_
 refine ti (fun c1=>?_) fun c1=>?_
 repeat refine u ?_
 refine e ?_
 rotate_left 1
 iterate 3 refine u ?_
 refine tbs0 fun r35=>?_
 iterate 3 refine u ?_
 refine u fun r39=>?_
 iterate 3 refine u ?_
 refine zW2 0 9 0 [(4,44,0),(8,48,0)] rfl rfl rfl mixed rfl rfl ?_
 repeat refine u ?_
 refine cx1 (obs rfl rfl rfl rfl rfl rfl) rfl (cx1 (oca rfl rfl fun _=>zT2 (l:=[p]) (by omega) (by (simp; done))) rfl ?_)
 refine cB rfl rfl (cap0 rfl rfl (by (simp; omega)) rfl) ?_
 repeat refine u ?_
 refine cA rfl rfl rfl (cap rfl (by (simp; omega)) rfl) ?_
 refine cE (fun r48=>?_)
 refine fm ?_
 iterate 3 refine u ?_
 refine t_ts (xV (s:=4) 0 rfl rfl) ?_
 repeat refine u ?_
 refine e ?_
 rotate_left 1
 ·have hc:=dand c0
  refine ⟨k + 1,tes ?_ ?_ (List.Sublist.refl _),?_,(by omega)⟩
  refine tc rfl (ps_r _) (tn)
  refine tc rfl (ps_r _) (tc rfl (ps_r _) (tc rfl (ps_r _) (tn)))
  refine ⟨by omega,fun j hj=>?_⟩
  rcases Nat.lt_or_ge j k with c | c
  ·exact hlt j c
  ·rw [show j=k by omega]; exact hc.2
 ·have hc:=dand c1
  rw [(zI3 aG (x:=p) (k:=k) (0,0) hk hlt fun h=>(fun c=>dor c0 ⟨by omega,c⟩)).1 (by omega) hc.2]
  exact PSub.refl _
 ·have hi:=(zI3 aG (x:=p) (k:=k) (0,0) hk hlt fun h=>(fun c=>dor c0 ⟨by omega,c⟩)).2 fun h c=>dor c1 ⟨by omega,c⟩
  exact yB0 (f:=ptc n) hi (tM h1) rfl
end Go.Proofs.YtalkinejknjidaaGreatDoor
set_option maxHeartbeats 1000000
namespace Go.Proofs.YtalkinejknjidaaGreatDoor
open Go.SL Go.RowKit Go.Proofs Tryz
theorem r_up {n m:Nat} {p:Rat} (h:rlen p n) (M:Nat→Prop) (w:World) (us:List Value) (k:(rtc m p).p M w us):(rtc n p).p M w us:=by
 obtain ⟨s,a,d,e2,g⟩:=k
 exact ⟨s,a,d,e2,g.relen h⟩
theorem wF {raw:List Rat} {p:Rat} {n m:Nat} (hm:m≤1900) (hn:n≤1900) (hL:(setOf cmpR raw).length≤100000) (h1:rlen p n):CTy prog 75 [sv (sl 3 ((setOf cmpR raw).map (rtc n))),ag (rtq m p)] (sv (sl 3 ((setOf cmpR (raw ++ [p])).map (rtc n)))):=by
 refine fw [.tmp 4] func75 fun X=>?_
 repeat refine u ?_
 refine lp (σ:=Nat) [0,3,4] (fun k=>[(5,True,exP (.int .i64 ((k:Nat):Int)))]) (fun k=>[]) (fun k=>k≤(setOf cmpR raw).length∧∀ j,j < k→cmpR ((setOf cmpR raw).getD j 0) p < 0) (fun k=>(setOf cmpR raw).length - k) (0) (⟨by omega,by omega⟩) fun k hJ Y _=>?_
 obtain ⟨hk,hlt⟩:=hJ
 iterate 2 refine u ?_
 refine zL 13 mixed rfl rfl ?_
 repeat refine u ?_
 refine d1g rfl rfl (oca rfl rfl fun g=>iN (by omega) (by omega)) ?_
 repeat refine u ?_
 refine ti (fun c0=>?_) fun c0=>?_
 repeat refine u ?_
 rotate_left 1
 iterate 4 refine u ?_
 refine zL 13 mixed rfl rfl ?_
 repeat refine u ?_
 refine d1g rfl rfl (oca rfl rfl fun g=>iN (by omega) (by omega)) ?_
 repeat refine u ?_
 refine ti (fun c1=>?_) fun c1=>?_
 repeat refine u ?_
 refine e ?_
 rotate_left 1
 iterate 3 refine u ?_
 refine tbs0 fun r35=>?_
 iterate 3 refine u ?_
 refine u fun r40=>?_
 iterate 3 refine u ?_
 refine zW2 0 9 0 [(4,45,0),(8,49,0)] rfl rfl rfl mixed rfl rfl ?_
 repeat refine u ?_
 refine cx1 (oca rfl rfl fun _=>bK (by omega)) rfl ?_
 refine cx1 (obs rfl rfl rfl rfl rfl rfl) rfl (cB rfl rfl (cap0 rfl rfl (by (simp; omega)) rfl) ?_)
 repeat refine u ?_
 refine cA rfl rfl rfl (cap rfl (by (simp; omega)) rfl) ?_
 refine cE (fun r49=>?_)
 refine fm ?_
 iterate 3 refine u ?_
 refine t_ts (xV (s:=4) 0 rfl rfl) ?_
 repeat refine u ?_
 refine e ?_
 rotate_left 1
 ·have hc:=dand c0
  refine ⟨k + 1,tes ?_ ?_ (List.Sublist.refl _),?_,(by omega)⟩
  refine tc rfl (ps_r _) (tn)
  refine tc rfl (ps_r _) (tc rfl (ps_r _) (tc rfl (ps_r _) (tn)))
  refine ⟨by omega,fun j hj=>?_⟩
  rcases Nat.lt_or_ge j k with c | c
  ·exact hlt j c
  ·rw [show j=k by omega]; exact hc.2
 ·have hc:=dand c1
  rw [(zI3 kV (x:=p) (k:=k) 0 hk hlt fun h=>(fun c=>dor c0 ⟨by omega,c⟩)).1 (by omega) hc.2]
  exact PSub.refl _
 ·have hi:=(zI3 kV (x:=p) (k:=k) 0 hk hlt fun h=>(fun c=>dor c0 ⟨by omega,c⟩)).2 fun h c=>dor c1 ⟨by omega,c⟩
  exact yB0 (f:=rtc n) hi (r_up h1) rfl
end Go.Proofs.YtalkinejknjidaaGreatDoor
namespace Go.Proofs.YtalkinejknjidaaGreatDoor
open Go.SL Go.RowKit Go.Proofs Tryz
theorem zS7 {a b:Rat} (ha:0≤a) (hb:b≤0):a * b≤0:=by have:=Rat.mul_nonneg ha (show 0 ≤ -b by grind); grind
theorem yH5 {x u:Rat} (h:x * (x - u)≤0) (hu:0≤u):0≤x∧x≤u:=by
 constructor
 ·refine Classical.byContradiction fun c=>?_
  have:=Rat.mul_pos (show 0 < -x by grind) (show 0 < u - x by grind); grind
 ·refine Classical.byContradiction fun c=>?_
  have:=Rat.mul_pos (show 0 < x by grind) (show 0 < x - u by grind); grind
theorem wJ {x:Rat} (h:x ≠ 0):0 < x * x:=by
 rcases (Rat.le_total:x≤0 ∨ 0≤x) with c | c
 ·have:=Rat.mul_pos (show 0 < -x by grind) (show 0 < -x by grind); grind
 ·exact Rat.mul_pos (by grind) (by grind)
theorem lQ (x:Rat):0≤x * x:=by
 by_cases h:x=0
 ·subst h; simp
 ·exact Rat.le_of_lt (wJ h)
theorem yN1 {x k:Rat} (h:x * k≤0) (hk:0 < k):x≤0:=Classical.byContradiction fun c=>by
 have:=Rat.mul_pos (show 0 < x by grind) hk; grind
theorem fX {a b p:P2}:onB a b p=true ↔ zG (subP b a) (subP p a)=0∧(p.1 - a.1) * (p.1 - b.1) + (p.2 - a.2) * (p.2 - b.2)≤0:=by
 unfold onB; rw [Bool.and_eq_true,decide_eq_true_eq,decide_eq_true_eq]; rfl
theorem onB_swap {a b p:P2}:onB a b p=true ↔ onB b a p=true:=by
 rw [fX,fX]; unfold zG subP; simp only
 constructor <;> rintro ⟨h1,h2⟩ <;> constructor <;> grind
theorem on_parts {x y u v:Rat} (h1:u * y - v * x=0) (h2:x * (x - u) + y * (y - v)≤0) (h:u ≠ 0 ∨ v ≠ 0):x * (x - u)≤0∧y * (y - v)≤0:=by
 have hk:0 < u * u + v * v:=by
  have:=lQ u; have:=lQ v
  rcases h with h | h <;> have:=wJ h <;> grind
 have e1:x * (x - u) * (u * u + v * v)=(x * (x - u) + y * (y - v)) * (u * u):=by grind
 have e2:y * (y - v) * (u * u + v * v)=(x * (x - u) + y * (y - v)) * (v * v):=by grind
 have k1:=zS7 (lQ u) h2
 have k2:=zS7 (lQ v) h2
 exact ⟨yN1 (k:=u * u + v * v) (by grind) hk,yN1 (k:=u * u + v * v) (by grind) hk⟩
theorem tW {a b p:P2} (hle:leP a b) (h:onB a b p=true):hasP (a,b) p:=by
 obtain ⟨h1,h2⟩:=fX.1 h
 refine ⟨?_,h1⟩
 unfold zG subP at h1; simp only at h1
 unfold kI leP; unfold leP at hle; simp only
 by_cases hz:b.1 - a.1 ≠ 0 ∨ b.2 - a.2 ≠ 0
 ·obtain ⟨k1,k2⟩:=on_parts (x:=p.1 - a.1) (y:=p.2 - a.2) (u:=b.1 - a.1) (v:=b.2 - a.2) (by grind) (by grind) hz
  have b1:=yH5 k1 (by grind)
  by_cases hu:b.1 - a.1=0
  ·have b2:=yH5 k2 (by grind)
   grind
  ·have hu2:0 < b.1 - a.1:=by grind
   rcases (show a.1 < p.1 ∨ p.1=a.1 by grind) with c | c
   ·refine ⟨.inl c,?_⟩
    rcases (show p.1 < b.1 ∨ p.1=b.1 by grind) with d | d
    ·exact .inl d
    ·refine .inr ⟨d,?_⟩
     have:(b.1 - a.1) * (p.2 - b.2)=0:=by rw [d] at h1; grind
     have:=lV this hu; grind
   ·have:(b.1 - a.1) * (p.2 - a.2)=0:=by rw [c] at h1; grind
    have:=lV this hu
    exact ⟨.inr ⟨c.symm,by grind⟩,.inl (by grind)⟩
 ·have e1:b.1=a.1:=by grind
  have e2:b.2=a.2:=by grind
  rw [e1,e2] at h2
  have q1:=lQ (p.1 - a.1); have q2:=lQ (p.2 - a.2)
  have z1:p.1 - a.1=0:=Classical.byContradiction fun c=>by have:=wJ c; grind
  have z2:p.2 - a.2=0:=Classical.byContradiction fun c=>by have:=wJ c; grind
  grind
theorem eX {a b p:P2}:onB a b p=true ↔ hasP (xL a b) p:=by
 constructor
 ·intro h
  unfold xL
  split
  ·rename_i c
   exact tW (by have:=aO.1 c; exact (uL a b).resolve_left this) (onB_swap.1 h)
  ·rename_i c
   exact tW (yC9.1 (by omega)) h
 ·intro h
  have hb:=zI5 h
  obtain ⟨_,hs⟩:=h
  rw [fX]
  have hx:∀ {l h p:Rat},l≤p→p≤h→(p - l) * (p - h)≤0:=fun {l h p} c d=>zS7 (by grind) (by grind)
  unfold kQ xL at *
  split at hb <;> rename_i c
  ·rw [if_pos c] at hs; simp only at hs hb
   refine ⟨by unfold zG subP at *; simp only at *; grind,?_⟩
   have y1:=hx hb.1 hb.2.1
   rcases hb.2.2 with d | d
   ·have:=hx d.1 d.2; grind
   ·have:=hx d.1 d.2; grind
  ·rw [if_neg c] at hs; simp only at hs hb
   refine ⟨hs,?_⟩
   have y1:=hx hb.1 hb.2.1
   rcases hb.2.2 with d | d
   ·have:=hx d.1 d.2; grind
   ·have:=hx d.1 d.2; grind
def yB8 (a b c d:P2):List P2:=[a,b,c,d].filter fun p=>onB a b p && onB c d p
noncomputable def endS (a b c d:P2):List P2:=setOf cmpP (yB8 a b c d)
noncomputable def segR (a b c d:P2):Mt :=
 if 2≤(endS a b c d).length then (2,(endS a b c d).getD 0 (0,0),(endS a b c d).getD ((endS a b c d).length - 1) (0,0))
 else if (endS a b c d).length=1 then (1,(endS a b c d).getD 0 (0,0),(endS a b c d).getD 0 (0,0))
 else if xB a b c d∧onB a b (xP a b c d)=true∧onB c d (xP a b c d)=true then (1,xP a b c d,xP a b c d) else zZ0
theorem ends_mem {a b c d p:P2}:p ∈ endS a b c d ↔ p ∈ [a,b,c,d]∧hasP (xL a b) p∧hasP (xL c d) p:=by
 unfold endS yB8; rw [yT aG,List.mem_filter,Bool.and_eq_true,eX,eX]
theorem pE (a b:P2):(xL a b).1 ∈ [a,b]∧(xL a b).2 ∈ [a,b]:=by unfold xL; split <;> simp
theorem lo_in (a b c d:P2):loP (xL a b) (xL c d) ∈ [a,b,c,d]∧hiP (xL a b) (xL c d) ∈ [a,b,c,d]:=by
 have h1:=pE a b; have h2:=pE c d
 simp only [List.mem_cons,List.not_mem_nil,or_false] at h1 h2 ⊢
 unfold loP hiP
 constructor
 ·split
  ·rcases h2.1 with e | e <;> rw [e] <;> simp
  ·rcases h1.1 with e | e <;> rw [e] <;> simp
 ·split
  ·rcases h2.2 with e | e <;> rw [e] <;> simp
  ·rcases h1.2 with e | e <;> rw [e] <;> simp
theorem oN (s t:P2 × P2):yE s t=zZ0 ∨ ((yE s t).1 ≠ 0∧(yE s t).2=(loP s t,hiP s t)) ∨ xB s.1 s.2 t.1 t.2∧yE s t=(1,xP s.1 s.2 t.1 t.2,xP s.1 s.2 t.1 t.2):=by
 unfold yE
 split
 ·exact .inl rfl
 ·split
  ·refine .inr (.inl ⟨?_,rfl⟩); dsimp only; split <;> decide
  ·split
   ·rename_i h; exact .inr (.inr ⟨h.1,rfl⟩)
   ·exact .inl rfl
theorem segR_eq (a b c d:P2):segR a b c d=zM2 a b c d:=by
 unfold zM2
 obtain ⟨s,hs⟩:∃ s,s=xL a b:=⟨_,rfl⟩
 obtain ⟨t,ht⟩:∃ t,t=xL c d:=⟨_,rfl⟩
 have hmem:∀ p,p ∈ endS a b c d ↔ p ∈ [a,b,c,d]∧hasP s p∧hasP t p:=fun p=>by rw [hs,ht]; exact ends_mem
 have hli:=lo_in a b c d
 have hon:∀ {p},(xB a b c d→hasP s p∧hasP t p→p=xP a b c d):=fun {p} ho hp=>by
  have k:=fA ho
  refine iZ ho ?_ ?_ k.1 k.2
  ·have:=(fX.1 (eX.2 (by rw [← hs]; exact hp.1))).1; exact this
  ·have:=(fX.1 (eX.2 (by rw [← ht]; exact hp.2))).1; exact this
 have hok:xB s.1 s.2 t.1 t.2→xB a b c d:=fun h=>by
  rw [hs,ht] at h; unfold xL at h; unfold xB zG subP at *
  split at h <;> split at h <;> (simp only at h ⊢; grind)
 rw [← hs,← ht] at hli ⊢
 rcases oN s t with h0 | ⟨hk,h2⟩ | ⟨ho,h1⟩
 ·have hno:∀ p,¬ (hasP s p∧hasP t p):=fun p hp=>(iA hp.1 hp.2).1 (by rw [h0]; rfl)
  have hE:endS a b c d=[]:=List.eq_nil_iff_forall_not_mem.2 fun p hp=>hno p ((hmem p).1 hp).2
  unfold segR; rw [hE,h0]
  rw [if_neg (by simp),if_neg (by simp),if_neg fun c=>hno _ ⟨by rw [hs]; exact eX.1 c.2.1,by rw [ht]; exact eX.1 c.2.2⟩]
 ·have hm:=rL hk
  rw [h2] at hm
  have hA:loP s t ∈ endS a b c d:=(hmem _).2 ⟨hli.1,hm.1,hm.2.1⟩
  have hB:hiP s t ∈ endS a b c d:=(hmem _).2 ⟨hli.2,hm.2.2.1,hm.2.2.2⟩
  have hbt:∀ p ∈ endS a b c d,leP (loP s t) p∧leP p (hiP s t):=fun p hp=>by
   have:=(iA ((hmem p).1 hp).2.1 ((hmem p).1 hp).2.2).2.2.2.2.2.1
   rw [h2] at this; exact this.1
  have h12:=iA hm.1 hm.2.1
  have hr:=List.pairwise_iff_getElem.1 (jG aG (yB8 a b c d)).rise
  unfold segR
  change ∀ (i j:Nat) (hi:i < (endS a b c d).length) (hj:j < (endS a b c d).length),i < j→cmpP (endS a b c d)[i] (endS a b c d)[j] < 0 at hr
  generalize endS a b c d=E at *
  have hg:∀ {j} (hj:j < E.length),E.getD j (0,0)=E[j]:=fun {j} hj=>by rw [List.getD_eq_getElem?_getD,List.getElem?_eq_getElem hj]; rfl
  have hpos:0 < E.length:=List.length_pos_of_mem hA
  have e0:E.getD 0 (0,0)=loP s t:=by
   obtain ⟨j,hj,e⟩:=List.mem_iff_getElem.1 hA
   rw [hg hpos]
   have k1:=(hbt _ (List.getElem_mem hpos)).1
   rcases Nat.eq_zero_or_pos j with c | c
   ·subst c; exact e
   ·have:=kP.1 (hr 0 j hpos hj c); rw [e] at this; exact absurd k1 this
  have e1:E.getD (E.length - 1) (0,0)=hiP s t:=by
   obtain ⟨j,hj,e⟩:=List.mem_iff_getElem.1 hB
   rw [hg (by omega)]
   have k1:=(hbt _ (List.getElem_mem (show E.length - 1 < E.length by omega))).2
   rcases Nat.lt_or_ge j (E.length - 1) with c | c
   ·have:=kP.1 (hr j (E.length - 1) hj (by omega) c); rw [e] at this; exact absurd k1 this
   ·have:j=E.length - 1:=by omega
    subst this; exact e
  have hme:∀ k:Int,(yE s t).1=k→yE s t=(k,loP s t,hiP s t):=fun k h=>by rw [← h,← h2]
  have hiff:=h12.2.2.2.2.2.2.2.2
  have hor:=h12.2.2.2.2.2.2.2.1
  rw [h2] at hiff
  dsimp only at hiff
  by_cases he:loP s t=hiP s t
  ·have hl:¬ 2≤E.length:=fun c=>by
    have:=hr 0 (E.length - 1) hpos (by omega) (by omega)
    rw [← hg hpos,← hg (by omega),e0,e1,he] at this
    exact fF _ this
   rw [if_neg hl,if_pos (by omega),hme 1 (hiff.2 he),e0,← he]
  ·have hl:2≤E.length:=by
    rcases Nat.lt_or_ge 1 E.length with c | c
    ·exact c
    ·have:E.length - 1=0:=by omega
     rw [this,e0] at e1; exact absurd e1 he
   rw [if_pos hl,hme 2 (hor.resolve_left fun c=>he (hiff.1 c)),e0,e1]
 ·have hk:(yE s t).1 ≠ 0:=by rw [h1]; exact (by decide:(1:Int) ≠ 0)
  have hm:=rL hk
  rw [h1] at hm
  have ho':=hok ho
  have hL:=hon ho' ⟨hm.1,hm.2.1⟩
  dsimp only at hL
  have hE:∀ p ∈ endS a b c d,p=xP a b c d:=fun p hp=>hon ho' ((hmem p).1 hp).2
  have hr:=List.pairwise_iff_getElem.1 (jG aG (yB8 a b c d)).rise
  unfold segR
  change ∀ (i j:Nat) (hi:i < (endS a b c d).length) (hj:j < (endS a b c d).length),i < j→cmpP (endS a b c d)[i] (endS a b c d)[j] < 0 at hr
  rw [h1,hL]
  generalize endS a b c d=E at *
  have hl:¬ 2≤E.length:=fun c=>by
   have:=hr 0 1 (by omega) (by omega) (by omega)
   rw [hE _ (List.getElem_mem (by omega)),hE _ (List.getElem_mem (by omega))] at this
   exact fF _ this
  rw [if_neg hl]
  by_cases h0:E.length=1
  ·rw [if_pos h0,List.getD_eq_getElem?_getD,List.getElem?_eq_getElem (show 0 < E.length by omega),Option.getD_some,hE _ (List.getElem_mem _)]
  ·rw [if_neg h0,if_pos ⟨ho',eX.2 (by rw [← hs,← hL]; exact hm.1),eX.2 (by rw [← ht,← hL]; exact hm.2.1)⟩]
end Go.Proofs.YtalkinejknjidaaGreatDoor
set_option maxHeartbeats 1000000
namespace Go.Proofs.YtalkinejknjidaaGreatDoor
open Go.SL Go.RowKit Go.Proofs Tryz
theorem yH2 {k:Nat}:PSub (exP (.slice none 0 0)) (sv (sl k [])):=fun M w v h=>by
 obtain rfl:v=_:=h
 exact ⟨_,[],rfl,oU,rfl,fun _ h=>by cases h⟩
theorem tI {α:Type} {cf:α→α→Int} (h:COrd cf):setOf cf ([]:List α)=[]:=List.eq_nil_of_length_eq_zero (by have:=gJ h ([]:List α); simpa using this)
theorem wQ {α:Type} {cf:α→α→Int} (h:COrd cf) {k:Nat} {f:α→CT} {l:List α} (hl:l=[]):PSub (exP (.slice none 0 0)) (sv (sl k ((setOf cf l).map f))):=by
 subst hl; rw [tI h]; exact yH2
theorem mJ {α:Type} [Df α] {l:List α} {i:Nat} (h:i < l.length):l.getD i Df.d ∈ l:=by rw [List.getD_eq_getElem?_getD,List.getElem?_eq_getElem h]; exact List.getElem_mem h
theorem k10ends {a b c d:P2} (hr:∀ p ∈ [a,b,c,d],rlen p.1 2∧rlen p.2 2):CTy prog 215 [ag (ptq 1 a),ag (ptq 1 b),ag (ptq 1 c),ag (ptq 1 d)] (sv (sl 6 ((endS a b c d).map (ptc 2)))):=by
 refine fw [.tmp 8] func215 fun X=>?_
 repeat refine u ?_
 refine t_ts (qT (s:=10) rfl (ps_p (show _=sv (sl 6 ([a,b,c,d].map (ptq 1))) from rfl))) ?_
 refine xS (σ:=Nat) (fun i=>[(9,True,sv (sl 6 ((setOf cmpP (([a,b,c,d].take i).filter fun p=>onB a b p && onB c d p)).map (ptc 2)))),(11,True,exP (.int .i64 ((i:Nat):Int)))]) (fun i=>[]) (fun i=>i≤4) (fun i=>4 - i) (0) (tk 4 rfl (tk 5 rfl (tk 6 rfl (tk 7 rfl (tk 8 rfl (tk 10 rfl tn)))))) ?_ rfl ((by omega)) (fun i hJ Y _=>?_)
 refine tc rfl ?_ ?_
 rotate_left 1
 refine tc rfl (ps_r _) (tn)
 rotate_left 1
 ·exact wQ aG rfl
 repeat refine u ?_
 refine ti (fun c0=>?_) fun c0=>?_
 iterate 4 refine u ?_
 refine zL 16 mixed rfl rfl ?_
 repeat refine u ?_
 refine d1 (oix _ rfl rfl rfl (fun _=>rfl) (fun _=>(by (have e0:=dt c0; simp; omega)))) ?_
 repeat refine u ?_
 refine d1 (oca rfl rfl fun _=>yA9 (by omega)) ?_
 repeat refine u ?_
 refine d1g rfl rfl (oix _ rfl rfl rfl (fun g=>rfl) (fun g=>(by (have e0:=dt c0; simp; omega)))) ?_
 repeat refine u ?_
 refine d1g rfl rfl (oca rfl rfl fun g=>yA9 (by omega)) ?_
 repeat refine u ?_
 refine ti (fun c1=>?_) fun c1=>?_
 repeat refine u ?_
 refine zA1 (oix _ rfl rfl rfl (fun _=>rfl) (fun _=>(by (have e0:=dt c0; simp; omega)))) ?_
 repeat refine u ?_
 refine zA1 (oca rfl rfl fun _=>zT5 (by omega) (by omega) ?_ ?_) ?_
 rotate_left 1
 rotate_left 1
 repeat refine u ?_
 rotate_left 1
 repeat refine u ?_
 rotate_left 1
 repeat refine u ?_
 refine e ?_
 rotate_left 1
 ·exact Nat.le_trans (gJ aG _) (Nat.le_trans (List.length_filter_le _ _) (by rw [List.length_take]; simp; omega))
 ·exact hr _ (mJ (by have:=dt c0; simp; omega))
 ·have hi:=dt c0
  refine ⟨i + 1,tes ?_ ?_ (List.Sublist.refl _),(by omega),(by omega)⟩
  refine tc rfl ?_ ?_
  rotate_left 1
  refine tc rfl (ps_r _) (tn)
  refine tc rfl (ps_r _) (tc rfl (ps_r _) (tc rfl (ps_r _) (tc rfl (ps_r _) (tc rfl (ps_r _) (tc rfl (ps_r _) (tn))))))
  have hc:(onB a b ([a,b,c,d].getD i Df.d) && onB c d ([a,b,c,d].getD i Df.d))=true:=c1.h
  rw [(zU (Df.d:P2) (l:=[a,b,c,d]) (s:=i) (by simp; omega)).1,List.filter_append,show List.filter (fun p=>onB a b p && onB c d p) [[a,b,c,d].getD i Df.d]=[[a,b,c,d].getD i Df.d] from by rw [List.filter_cons,if_pos hc]; rfl]
  exact PSub.refl _
 ·have hi:=dt c0
  refine ⟨i + 1,tes ?_ ?_ (List.Sublist.refl _),(by omega),(by omega)⟩
  refine tc rfl ?_ ?_
  rotate_left 1
  refine tc rfl (ps_r _) (tn)
  refine tc rfl (ps_r _) (tc rfl (ps_r _) (tc rfl (ps_r _) (tc rfl (ps_r _) (tc rfl (ps_r _) (tc rfl (ps_r _) (tn))))))
  have hc:(onB a b ([a,b,c,d].getD i Df.d) && onB c d ([a,b,c,d].getD i Df.d))=false:=c1.h
  rw [(zU (Df.d:P2) (l:=[a,b,c,d]) (s:=i) (by simp; omega)).1,List.filter_append,show List.filter (fun p=>onB a b p && onB c d p) [[a,b,c,d].getD i Df.d]=[] from by rw [List.filter_cons,if_neg (by rw [hc]; exact Bool.false_ne_true)]; rfl,List.append_nil]
  exact PSub.refl _
 ·have hi:=df c0
  rw [show i=4 by omega]
  exact PSub.refl _
abbrev zMt:Value:=.agg #[.int .i8 0,.bool false,.slice none 0 0,.slice none 0 0,.bool false,.slice none 0 0,.slice none 0 0,.bool false,.slice none 0 0,.slice none 0 0,.bool false,.slice none 0 0,.slice none 0 0]
theorem upd6 {u v:List Value} (h1:u.length=6) (h2:v.length=6):updC zMt.cells.toList [(1,u),(7,v)] = .int .i8 0 :: (u ++ v):=by
 match u,v,h1,h2 with
 | [_,_,_,_,_,_],[_,_,_,_,_,_],_,_=>rfl
theorem obzm {P:Program} {r:Option Nat} {N:Nat} {ops:Array Oper} {M:Nat→Prop} {S:List Ow} {p q:Prop} {Γ:TE} {d:Nat} {t t':TypeId} {pos:String} {af:Array Edge} {x y:Operand} {τs:List PV} {c1 c2:CT} (hx:tvs Γ [x,y]=some (q,τs)) [hi:Im p q] [ht:TPl P t [1,6,6]] [hc:CtL τs [c1,c2]] [tz:TZ P t zMt] (h1:c1.sz=6) (h2:c2.sz=6) :
  Ob P r N ops M S p ⟨some d,.build t #[(1,x),(2,y)],t',pos,af,none⟩ Γ (ag (st [xc (.int .i8 0),c1,c2])):=fun D E w d' hd hN hg hp' hT=>by
 obtain rfl:=Option.some.inj hd
 obtain ⟨vs,e1,k1⟩:=uQ hT hx (hi.h hp') fun x hx=>qZ (by simpa [Op.operands] using hx)
 obtain ⟨uss,g1,g2,g3⟩:=hc.h k1
 obtain ⟨sz,bytes,hz⟩:=tz.s
 obtain ⟨u1,u2,rfl⟩:∃ u1 u2,uss=[u1,u2]:=by
  have h3:=congrArg List.length g3
  match uss,h3 with
  | [u1,u2],_=>exact ⟨_,_,rfl⟩
 have l1:u1.length=6:=by simp at g3; omega
 have l2:u2.length=6:=by simp at g3; omega
 refine iW (zs:=zMt.cells.toList) hN ht.h hz (by simpa using e1) g1 (by simp [l1,l2]; exact ⟨by decide,by decide⟩) rfl (fin ⟨_,rfl,?_⟩)
 rw [show ((([(1,x),(2,y)]:List (Nat × Operand)).map (·.1)).map fun i=>(([1,6,6]:List Nat).take i).sum).zip [u1,u2]=[(1,u1),(7,u2)] from rfl,upd6 l1 l2]
 exact ⟨[.int .i8 0],u1 ++ u2,rfl,⟨rfl,rfl⟩,by simpa using g2⟩
theorem ends_len (a b c d:P2):(endS a b c d).length≤4:=Nat.le_trans (gJ aG _) (List.length_filter_le _ _)
theorem k10segs {a b c d:P2} (hr:∀ p ∈ [a,b,c,d],rlen p.1 2∧rlen p.2 2):CTy prog 149 [ag (ptq 1 a),ag (ptq 1 b),ag (ptq 1 c),ag (ptq 1 d)] (ag (mtc 348 (zM2 a b c d))):=by
 have hs:=segR_eq a b c d
 unfold segR at hs
 have hl:(endS a b c d).length≤4:=ends_len a b c d
 refine fw [.cell 8 178] func149 fun X=>?_
 iterate 6 refine u ?_
 refine u fun b8=>?_
 repeat refine u ?_
 refine zA1 (oca rfl rfl fun _=>k10ends (by omega)) ?_
 repeat refine u ?_
 refine ti (fun c0=>?_) fun c0=>?_
 refine u ?_
 refine zL 10 mixed rfl rfl ?_
 repeat refine u ?_
 refine d1 (oix _ rfl rfl rfl (fun _=>rfl) (fun _=>(by (have e0:=dt c0; simp; omega)))) ?_
 repeat refine u ?_
 refine d1 (oix ((endS a b c d).length - 1) rfl rfl rfl (fun _=>(by (have e0:=dt c0; omega))) (fun _=>(by (have e0:=dt c0; omega)))) ?_
 repeat refine u ?_
 refine tst 0 rfl rfl rfl rfl rfl rfl ?_
 repeat refine u ?_
 refine ⟨[_],rsc 0 rfl rfl rfl rfl rs0,xJ ?_⟩
 rotate_left 1
 repeat refine u ?_
 refine ti (fun c1=>?_) fun c1=>?_
 refine u ?_
 refine zL 7 mixed rfl rfl ?_
 repeat refine u ?_
 refine d1 (oix _ rfl rfl rfl (fun _=>rfl) (fun _=>(by (have e0:=dt c1; simp; omega)))) ?_
 repeat refine u ?_
 refine d1 (oix _ rfl rfl rfl (fun _=>rfl) (fun _=>(by (have e0:=dt c1; simp; omega)))) ?_
 repeat refine u ?_
 refine tst 0 rfl rfl rfl rfl rfl rfl ?_
 repeat refine u ?_
 refine ⟨[_],rsc 0 rfl rfl rfl rfl rs0,xJ ?_⟩
 rotate_left 1
 repeat refine u ?_
 refine zA1 (oca rfl rfl fun _=>k10lines) ?_
 iterate 3 refine u ?_
 refine u fun b10=>?_
 refine tst 0 rfl rfl rfl rfl rfl rfl (yD (xR (s:=10) 0 rfl rfl) ?_)
 repeat refine u ?_
 refine t1g rfl rfl (oca rfl rfl fun g=>yA9 (by omega)) ?_
 repeat refine u ?_
 refine t1g rfl rfl (oca rfl rfl fun g=>yA9 (by omega)) ?_
 repeat refine u ?_
 refine ti (fun c2=>?_) fun c2=>?_
 repeat refine u ?_
 refine tst 0 rfl rfl rfl rfl rfl rfl ?_
 repeat refine u ?_
 refine ⟨[_],rsc 0 rfl rfl rfl rfl rs0,xJ ?_⟩
 rotate_left 1
 repeat refine u ?_
 refine zA1 (oca rfl rfl fun _=>k8of (k:=0) (l:=0) (by omega) (by omega)) ?_
 refine zA1 (oca rfl rfl fun _=>k8of (k:=0) (l:=0) (by omega) (by omega)) ?_
 refine zA1 (obzm rfl rfl rfl) ?_
 refine tst 0 rfl rfl rfl rfl rfl rfl ?_
 repeat refine u ?_
 refine ⟨[_],rsc 0 rfl rfl rfl rfl rs0,xJ ?_⟩
 rotate_left 1
 ·exact zY3 (by rw [← hs,if_pos (by have:=dt c0; omega)]; rfl) (by omega) (by omega)
 ·exact zY3 (by rw [← hs,if_neg (by have:=df c0; omega),if_pos (by have:=dt c1; omega)]; rfl) (by omega) (by omega)
 ·have h2:=c2.h
  rw [Bool.and_eq_true,Bool.and_eq_true,decide_eq_true_eq] at h2
  exact zY3 (by rw [← hs,if_neg (by have:=df c0; omega),if_neg (by have:=df c1; omega),if_pos ⟨h2.1.1,h2.1.2,h2.2⟩]) (by omega) (by omega)
 ·have h2:=c2.h
  rw [Bool.and_eq_false_iff,Bool.and_eq_false_iff,decide_eq_false_iff_not] at h2
  have hn:¬ (xB a b c d∧onB a b (xP a b c d)=true∧onB c d (xP a b c d)=true):=fun ⟨k1,k2,k3⟩=>by
   rcases h2 with (h | h) | h
   ·exact h k1
   ·rw [show onB a b (xP a b c d)=false from h] at k2; cases k2
   ·rw [show onB c d (xP a b c d)=false from h] at k3; cases k3
  refine zY3 (a:=2) (b:=2) (x:=(((0:Nat):Rat),((0:Nat):Rat))) (y:=(((0:Nat):Rat),((0:Nat):Rat))) ?_ (by omega) (by omega)
  rw [← hs,if_neg (by have:=df c0; omega),if_neg (by have:=df c1; omega),if_neg hn]
  rfl
end Go.Proofs.YtalkinejknjidaaGreatDoor
set_option maxHeartbeats 4000000
namespace Go.Proofs.YtalkinejknjidaaGreatDoor
open Go.SL Go.RowKit Go.Proofs Tryz
theorem yA8 {raw:List P2} {p:P2} (hL:(setOf cmpP raw).length≤100000):CTy prog 150 [sv (sl 6 ((setOf cmpP raw).map (ptc 349))),ag (ptc 348 p)] (sv (sl 6 ((setOf cmpP (raw ++ [p])).map (ptc 349)))) :=
 ⟨(bo func150),fun M w vs hM hT hv=>by
  have h0:=hv
  obtain ⟨v,us,rfl,k1,u,us2,rfl,k2,k3⟩:=hv
  obtain ⟨s1,a1,d1,zA1,a2,d2,e1,g1⟩:=QP.h (Ψ:=ag (ptc 348 p)) k2
  exact (zT5 (m:=348) (by omega) (by omega) hL ⟨g1.x.rlen,g1.y.rlen⟩).run M w _ hM hT ((fs1 (PSub.refl _) (fs1 qp_q fs0)) _ _ _ h0)⟩
theorem k22putc {raw:List Rat} {p:Rat} (hL:(setOf cmpR raw).length≤100000):CTy prog 75 [sv (sl 3 ((setOf cmpR raw).map (rtc 350))),ag (rtc 349 p)] (sv (sl 3 ((setOf cmpR (raw ++ [p])).map (rtc 350)))) :=
 ⟨(bo func75),fun M w vs hM hT hv=>by
  have h0:=hv
  obtain ⟨v,us,rfl,k1,u,us2,rfl,k2,k3⟩:=hv
  obtain ⟨s1,a1,d1,e1,g1⟩:=QR.h (Ψ:=ag (rtc 349 p)) k2
  exact (wF (m:=349) (by omega) (by omega) hL g1.rlen).run M w _ hM hT ((fs1 (PSub.refl _) (fs1 qr_q fs0)) _ _ _ h0)⟩
theorem k22put0 {p:Rat} {n:Nat} (hn:n≤1900) (h1:rlen p n):CTy prog 75 [exP (.slice none 0 0),ag (rtq 1 p)] (sv (sl 3 ((setOf cmpR [p]).map (rtc n)))) :=
 yG (wF (raw:=[]) (m:=1) (by omega) hn (by rw [tI kV]; simp) h1) (fs1 (wQ kV rfl) (fs1 (PSub.refl _) fs0))
theorem k10all {p q:List P2} (hp:p.length≤9) (hq:q.length≤9) (hr:∀ x ∈ p,rlen x.1 2∧rlen x.2 2) (hs:∀ x ∈ q,rlen x.1 2∧rlen x.2 2):CTy prog 76 [sv (pcs 1 p),sv (pcs 1 q)] (sv (sl 6 ((allOf p q).map (ptc 349)))):=by
 refine fw [.tmp 4] func76 fun X=>?_
 repeat refine u ?_
 refine xS (σ:=Nat) (fun i=>[(5,True,sv (sl 6 ((setOf cmpP (rawL ((yF p).take i) (yF q))).map (ptc 349)))),(6,True,exP (.int .i64 ((i:Nat):Int)))]) (fun i=>[]) (fun i=>i≤p.length) (fun i=>p.length - i) (0) (tk 0 rfl (tk 1 rfl (tk 4 rfl tn))) ?_ rfl ((by omega)) (fun i hJ Y _=>?_)
 refine tc rfl ?_ ?_
 rotate_left 1
 refine tc rfl (ps_r _) (tn)
 rotate_left 1
 ·exact wQ aG (by simp [rawL])
 repeat refine u ?_
 refine ti (fun c0=>?_) fun c0=>?_
 repeat refine u ?_
 rotate_left 1
 repeat refine u ?_
 refine e ?_
 rotate_left 1
 ·refine xS (σ:=Nat) (fun k=>[(5,True,sv (sl 6 ((setOf cmpP (rawL ((yF p).take i) (yF q) ++ ((yF q).take k).flatMap fun t=>qU (yE (qX p i) t))).map (ptc 349)))),(7,True,exP (.int .i64 ((k:Nat):Int)))]) (fun k=>[]) (fun k=>k≤q.length) (fun k=>q.length - k) (0) (tk 0 rfl (tk 1 rfl (tk 4 rfl (tk 6 rfl tn)))) ?_ rfl ((by omega)) (fun k hJ Y _=>?_)
  refine tc rfl ?_ ?_
  rotate_left 1
  refine tc rfl (ps_r _) (tn)
  rotate_left 1
  ·rw [List.take_zero,List.flatMap_nil,List.append_nil]; exact PSub.refl _
  have hlen:∀ r:List P2,r.length≤4→(setOf cmpP (rawL ((yF p).take i) (yF q) ++ (((yF q).take k).flatMap fun t=>qU (yE (qX p i) t)) ++ r)).length≤100000:=fun r hr4=>by
   refine Nat.le_trans (gJ aG _) ?_
   have h1:=pV (yF q) ((yF p).take i)
   have h2:=pS (qX p i) ((yF q).take k)
   rw [List.length_take,uF] at h2
   rw [List.length_take,uF,uF] at h1
   have h3:2 * q.length * min i p.length≤2 * 9 * 9:=Nat.mul_le_mul (by omega) (by omega)
   rw [List.length_append,List.length_append]; omega
  have hpk:∀ {l:List P2} {j:Nat},j < l.length→(∀ x ∈ l,rlen x.1 2∧rlen x.2 2)→rlen (l.getD j Df.d).1 2∧rlen (l.getD j Df.d).2 2:=fun {l j} hj h=>h _ (mJ hj)
  repeat refine u ?_
  refine ti (fun c1=>?_) fun c1=>?_
  iterate 4 refine u ?_
  apply uR 1 27 26 [(25,8,0),(26,1000026,0)] rfl rfl mixed rfl rfl rfl
  repeat refine u ?_
  refine cx1 (oix _ rfl rfl rfl (fun _=>rfl) (fun _=>(by (have e0:=dt c0; have e1:=dt c1; omega)))) rfl ?_
  repeat refine u ?_
  refine cx1 (orm rfl rfl (by (have e0:=dt c0; have e1:=dt c1; omega))) rfl ?_
  refine cx1 (oix _ rfl rfl rfl (fun _=>rfl) (fun _=>?_)) rfl ?_
  rotate_left 1
  repeat refine u ?_
  refine cx1 (oix _ rfl rfl rfl (fun _=>rfl) (fun _=>(by (have e0:=dt c1; omega)))) rfl ?_
  repeat refine u ?_
  refine cx1 (orm rfl rfl (by (have e0:=dt c1; omega))) rfl ?_
  refine cx1 (oix _ rfl rfl rfl (fun _=>rfl) (fun _=>?_)) rfl ?_
  rotate_left 1
  repeat refine u ?_
  refine cx1 (oca rfl rfl fun _=>k10segs ?_) rfl ?_
  rotate_left 1
  refine cN rfl rfl (cal) (cS rfl rfl rfl (cst rfl rfl rfl) ?_)
  refine cE (fun b8=>?_)
  refine fm ?_
  refine u ?_
  refine yD (xR (s:=8) 0 rfl rfl) ?_
  repeat refine u ?_
  refine ti (fun c2=>?_) fun c2=>?_
  refine zL 8 mixed rfl rfl ?_
  repeat refine u ?_
  refine d1 (oca rfl rfl fun _=>yA8 ?_) ?_
  rotate_left 1
  repeat refine u ?_
  refine d1 (oca rfl rfl fun _=>yA8 ?_) ?_
  rotate_left 1
  repeat refine u ?_
  refine zA1 (omv rfl) ?_
  repeat refine u ?_
  rotate_left 1
  repeat refine u ?_
  rotate_left 1
  repeat refine u ?_
  rotate_left 1
  ·rw [Int.natAbs_natCast]; exact Nat.mod_lt _ (by have:=dt c0; omega)
  ·rw [Int.natAbs_natCast]; exact Nat.mod_lt _ (by have:=dt c1; omega)
  ·have h0:=dt c0; have h1:=dt c1
   intro x hx
   simp only [List.mem_cons,List.not_mem_nil,or_false,Int.natAbs_natCast] at hx
   rcases hx with rfl | rfl | rfl | rfl
   ·exact hpk (by omega) hr
   ·exact hpk (Nat.mod_lt _ (by omega)) hr
   ·exact hpk (by omega) hs
   ·exact hpk (Nat.mod_lt _ (by omega)) hs
  ·have:=hlen [] (by simp); rwa [List.append_nil] at this
  ·exact hlen [_] (by simp)
  ·have h0:=dt c0; have h1:=dt c1; have h2:=dt c2
   rw [Int.natAbs_natCast,Int.natAbs_natCast] at h2
   refine ⟨k + 1,tes ?_ ?_ (List.Sublist.refl _),(by omega),(by omega)⟩
   refine tc rfl ?_ ?_
   rotate_left 1
   refine tc rfl (ps_r _) (tn)
   refine tc rfl (ps_r _) (tc rfl (ps_r _) (tc rfl (ps_r _) (tc rfl (ps_r _) (tn))))
   rw [Int.natAbs_natCast,Int.natAbs_natCast,(fE (p:=q) (s:=k) (by omega)).2,List.flatMap_append,← List.append_assoc,show ([qX q k].flatMap fun t=>qU (yE (qX p i) t))=qU (zM2 (p.getD i Df.d) (p.getD ((i + 1) % p.length) Df.d) (q.getD k Df.d) (q.getD ((k + 1) % q.length) Df.d)) from List.append_nil _]
   rw [qU,if_neg h2,List.append_assoc (bs:=[_]) (cs:=[_])]
   exact PSub.refl _
  ·have h0:=dt c0; have h1:=dt c1; have h2:=Classical.not_not.1 (df c2)
   rw [Int.natAbs_natCast,Int.natAbs_natCast] at h2
   refine ⟨k + 1,tes ?_ ?_ (List.Sublist.refl _),(by omega),(by omega)⟩
   refine tc rfl ?_ ?_
   rotate_left 1
   refine tc rfl (ps_r _) (tn)
   refine tc rfl (ps_r _) (tc rfl (ps_r _) (tc rfl (ps_r _) (tc rfl (ps_r _) (tn))))
   rw [(fE (p:=q) (s:=k) (by omega)).2,List.flatMap_append,← List.append_assoc,show ([qX q k].flatMap fun t=>qU (yE (qX p i) t))=qU (zM2 (p.getD i Df.d) (p.getD ((i + 1) % p.length) Df.d) (q.getD k Df.d) (q.getD ((k + 1) % q.length) Df.d)) from List.append_nil _]
   rw [qU,if_pos h2,List.append_nil]
   exact PSub.refl _
  ·have h0:=dt c0; have h1:=df c1
   refine ⟨i + 1,tes ?_ ?_ (List.Sublist.refl _),(by omega),(by omega)⟩
   refine tc rfl ?_ ?_
   rotate_left 1
   refine tc rfl (ps_r _) (tn)
   refine tc rfl (ps_r _) (tc rfl (ps_r _) (tc rfl (ps_r _) (tn)))
   rw [List.take_of_length_le (l:=yF q) (by rw [uF]; omega),(fE (p:=p) (s:=i) (by omega)).2]
   rw [show rawL ((yF p).take i ++ [qX p i]) (yF q)=rawL ((yF p).take i) (yF q) ++ (yF q).flatMap fun t=>qU (yE (qX p i) t) from by unfold rawL; rw [List.flatMap_append]; simp]
   exact PSub.refl _
 ·have h0:=df c0
  rw [List.take_of_length_le (l:=yF p) (by rw [uF]; omega)]
  exact PSub.refl _
end Go.Proofs.YtalkinejknjidaaGreatDoor
set_option maxHeartbeats 4000000
namespace Go.Proofs.YtalkinejknjidaaGreatDoor
open Go.SL Go.RowKit Go.Proofs Tryz
noncomputable def crossX (ls:List (List P2)) (i k:Nat):List Rat:=(allOf (ls.getD k []) (ls.getD i [])).map (·.1)
noncomputable def stepR (ls:List (List P2)) (i:Nat):List Rat:=(ls.getD i []).map (·.1) ++ (List.range i).flatMap (crossX ls i)
noncomputable def rawR (ls:List (List P2)) (b:P2 × P2) (i:Nat):List Rat:=[b.1.1,b.2.1] ++ (List.range i).flatMap (stepR ls)
theorem mS {α β:Type} {f:α→List β} {c:Nat}:∀ {l:List α},(∀ a ∈ l,(f a).length≤c)→(l.flatMap f).length≤c * l.length
 | [],_=>by simp
 | a :: l,h=>by
  rw [List.flatMap_cons,List.length_append,List.length_cons,Nat.mul_add,Nat.mul_one]
  have h1:=h a (by simp); have h2:=mS (l:=l) fun x hx=>h x (by simp [hx])
  omega
theorem rX {ls:List (List P2)} (h6:∀ l ∈ ls,l.length≤9) (i:Nat):(ls.getD i []).length≤9:=by
 rcases Nat.lt_or_ge i ls.length with h | h
 ·rw [List.getD_eq_getElem?_getD,List.getElem?_eq_getElem h]; exact h6 _ (List.getElem_mem h)
 ·rw [List.getD_eq_getElem?_getD,List.getElem?_eq_none h]; simp
theorem oD {ls:List (List P2)} (h6:∀ l ∈ ls,l.length≤9) (i k:Nat):(crossX ls i k).length≤162:=by
 unfold crossX; rw [List.length_map]
 have:=vY (ls.getD k []) (ls.getD i [])
 have h1:=rX h6 i; have h2:=rX h6 k
 have h3:2 * (ls.getD i []).length * (ls.getD k []).length≤2 * 9 * 9:=Nat.mul_le_mul (by omega) h2
 omega
theorem step_len {ls:List (List P2)} (h6:∀ l ∈ ls,l.length≤9) {i:Nat} (hi:i≤5):(stepR ls i).length≤900:=by
 unfold stepR
 have h1:=rX h6 i
 have h2:=mS (l:=List.range i) (f:=crossX ls i) (c:=162) fun k _=>oD h6 i k
 rw [List.length_range] at h2
 rw [List.length_append,List.length_map]; omega
theorem rawR_len {ls:List (List P2)} (h6:∀ l ∈ ls,l.length≤9) {b:P2 × P2} {i:Nat} (hi:i≤5):(rawR ls b i).length≤4502:=by
 unfold rawR
 have h2:=mS (l:=List.range i) (f:=stepR ls) (c:=900) fun k hk=>step_len h6 (by have:=List.mem_range.1 hk; omega)
 rw [List.length_range] at h2
 rw [List.length_append]; simp only [List.length_cons,List.length_nil]; omega
theorem pW {α:Type} (f:Nat→List α) (i:Nat):(List.range (i + 1)).flatMap f=(List.range i).flatMap f ++ f i:=by rw [List.range_succ,List.flatMap_append]; simp
theorem rawR_cuts {ls:List (List P2)} {b:P2 × P2}:setOf cmpR (rawR ls b ls.length)=cutsOf ls b:=setOf_congr kV fun x=>by
 unfold rawR rawC sK
 rw [List.append_assoc,List.mem_append,List.mem_append,List.mem_append,iB]
 refine or_congr Iff.rfl ?_
 simp only [List.mem_flatMap,List.mem_range]
 unfold stepR crossX
 simp only [List.mem_append,List.mem_flatMap,List.mem_range]
 constructor
 ·rintro ⟨i,hi,h | ⟨k,hk,h⟩⟩
  ·exact .inl ⟨ls.getD i [],by rw [List.getD_eq_getElem?_getD,List.getElem?_eq_getElem hi]; exact List.getElem_mem hi,h⟩
  ·exact .inr ⟨k,i,hk,hi,h⟩
 ·rintro (⟨l,hl,h⟩ | ⟨k,i,hk,hi,h⟩)
  ·obtain ⟨i,hi,rfl⟩:=List.mem_iff_getElem.1 hl
   exact ⟨i,hi,.inl (by rw [List.getD_eq_getElem?_getD,List.getElem?_eq_getElem hi]; exact h)⟩
  ·exact ⟨i,hi,.inr ⟨k,hk,h⟩⟩
theorem map_fst_getD {l:List P2} {m:Nat} (h:m < l.length):(l.map (·.1)).getD m 0=(l.getD m Df.d).1:=by
 simp [List.getD_eq_getElem?_getD,List.getElem?_eq_getElem h]
theorem k22all {ls:List (List P2)} {b:P2 × P2} (hl:ls.length≤5) (h6:∀ l ∈ ls,l.length≤9) (hr:∀ l ∈ ls,∀ x ∈ l,rlen x.1 2∧rlen x.2 2) (hb:rlen b.1.1 2∧rlen b.2.1 2):CTy prog 20 [sv (sl 1 (ls.map (pcs 1))),ag (st [ptq 1 b.1,ptq 1 b.2])] (sv (sl 3 ((cutsOf ls b).map (rtc 350)))):=by
 have hlen:∀ {i} (r:List Rat),i≤5→r.length≤2000→(setOf cmpR (rawR ls b i ++ r)).length≤100000:=fun {i} r hi h=>by
  refine Nat.le_trans (gJ kV _) ?_
  have:=rawR_len h6 (b:=b) hi
  rw [List.length_append]; omega
 refine fw [.tmp 4] func20 fun X=>?_
 iterate 6 refine u ?_
 refine zL 9 mixed rfl rfl ?_
 repeat refine u ?_
 refine d1 (oca rfl rfl fun _=>k22put0 (n:=350) (by omega) ?_) ?_
 rotate_left 1
 repeat refine u ?_
 refine d1 (oca rfl rfl fun _=>wF (by omega) (by omega) ?_ ?_) ?_
 rotate_left 1
 rotate_left 1
 repeat refine u ?_
 rotate_left 1
 ·exact zR hb.1 (by omega)
 ·exact Nat.le_trans (gJ kV _) (by simp)
 ·exact zR hb.2 (by omega)
 have hat:∀ {i},i < ls.length→ls.getD i Df.d ∈ ls:=fun {i} hi=>mJ hi
 refine xS (σ:=Nat) (fun i=>[(5,True,sv (sl 3 ((setOf cmpR (rawR ls b i)).map (rtc 350)))),(6,True,exP (.int .i64 ((i:Nat):Int)))]) (fun i=>[]) (fun i=>i≤ls.length) (fun i=>ls.length - i) (0) (tk 0 rfl (tk 4 rfl tn)) ?_ rfl ((by omega)) (fun i hJ Y _=>?_)
 refine tc rfl (ps_r _) (tc rfl (ps_r _) (tn))
 repeat refine u ?_
 refine ti (fun c0=>?_) fun c0=>?_
 repeat refine u ?_
 rotate_left 1
 repeat refine u ?_
 refine e ?_
 rotate_left 1
 ·refine xS (σ:=Nat) (fun k=>[(5,True,sv (sl 3 ((setOf cmpR (rawR ls b i ++ ((ls.getD i Df.d).take k).map (·.1))).map (rtc 350)))),(7,True,exP (.int .i64 ((k:Nat):Int)))]) (fun k=>[]) (fun k=>k≤(ls.getD i Df.d).length) (fun k=>(ls.getD i Df.d).length - k) (0) (tk 0 rfl (tk 4 rfl (tk 6 rfl tn))) ?_ rfl ((by omega)) (fun k hJ Y _=>?_)
  refine tc rfl ?_ ?_
  rotate_left 1
  refine tc rfl (ps_r _) (tn)
  rotate_left 1
  ·rw [List.take_zero,List.map_nil,List.append_nil]; exact PSub.refl _
  have h7:=h6 _ (hat (show i < ls.length by have:=dt c0; omega))
  have hii:=dt c0
  repeat refine u ?_
  refine ti (fun c1=>?_) fun c1=>?_
  repeat refine u ?_
  refine zA1 (oix _ rfl rfl rfl (fun _=>rfl) (fun _=>(by (have e0:=dt c1; omega)))) ?_
  repeat refine u ?_
  refine zA1 (oca rfl rfl fun _=>wF (by omega) (by omega) ?_ ?_) ?_
  rotate_left 1
  rotate_left 1
  repeat refine u ?_
  rotate_left 1
  repeat refine u ?_
  rotate_left 1
  ·exact hlen _ (by omega) (by rw [List.length_map,List.length_take]; omega)
  ·exact zR (hr _ (hat (by omega)) _ (mJ (by have:=dt c1; omega))).1 (by omega)
  ·have hk:=dt c1
   refine ⟨k + 1,tes ?_ ?_ (List.Sublist.refl _),(by omega),(by omega)⟩
   refine tc rfl ?_ ?_
   rotate_left 1
   refine tc rfl (ps_r _) (tn)
   refine tc rfl (ps_r _) (tc rfl (ps_r _) (tc rfl (ps_r _) (tn)))
   rw [(zU (Df.d:P2) (show k < (ls.getD i Df.d).length by omega)).1,List.map_append,← List.append_assoc]
   exact PSub.refl _
  ·have hk:=df c1
   refine xS (σ:=Nat) (fun j=>[(5,True,sv (sl 3 ((setOf cmpR (rawR ls b i ++ ((ls.getD i Df.d).map (·.1) ++ (List.range j).flatMap (crossX ls i)))).map (rtc 350)))),(8,True,exP (.int .i64 ((j:Nat):Int)))]) (fun j=>[]) (fun j=>j≤i) (fun j=>i - j) (0) (tk 0 rfl (tk 4 rfl (tk 6 rfl tn))) ?_ rfl ((by omega)) (fun j hJ Y _=>?_)
   refine tc rfl ?_ ?_
   rotate_left 1
   refine tc rfl (ps_r _) (tn)
   rotate_left 1
   ·rw [List.take_of_length_le (by omega),List.range_zero,List.flatMap_nil,List.append_nil]; exact PSub.refl _
   have hx:=oD h6 i j
   have hxx:(crossX ls i j).length=(allOf (ls.getD j Df.d) (ls.getD i Df.d)).length:=List.length_map ..
   repeat refine u ?_
   refine ti (fun c2=>?_) fun c2=>?_
   iterate 4 refine u ?_
   refine zL 10 mixed rfl rfl ?_
   repeat refine u ?_
   refine d1 (oca rfl rfl fun _=>k10all ?_ (by omega) ?_ ?_) ?_
   rotate_left 1
   rotate_left 1
   rotate_left 1
   repeat refine u ?_
   rotate_left 1
   repeat refine u ?_
   rotate_left 1
   ·exact h6 _ (hat (by have:=dt c2; omega))
   ·exact hr _ (hat (by have:=dt c2; omega))
   ·exact hr _ (hat (by omega))
   ·have hj:=dt c2
    have hro:((List.range j).flatMap (crossX ls i)).length≤162 * 5:=Nat.le_trans (mS (c:=162) fun k _=>oD h6 i k) (by rw [List.length_range]; exact Nat.mul_le_mul_left _ (by omega))
    refine xS (σ:=Nat) (fun m=>[(5,True,sv (sl 3 ((setOf cmpR (rawR ls b i ++ ((ls.getD i Df.d).map (·.1) ++ (List.range j).flatMap (crossX ls i)) ++ (crossX ls i j).take m)).map (rtc 350)))),(10,True,exP (.int .i64 ((m:Nat):Int)))]) (fun m=>[]) (fun m=>m≤(crossX ls i j).length) (fun m=>(crossX ls i j).length - m) (0) (tk 0 rfl (tk 4 rfl (tk 6 rfl (tk 8 rfl (tk 9 rfl tn))))) ?_ rfl ((by omega)) (fun m hJ Y _=>?_)
    refine tc rfl ?_ ?_
    rotate_left 1
    refine tc rfl (ps_r _) (tn)
    rotate_left 1
    ·rw [List.take_zero,List.append_nil]; exact PSub.refl _
    repeat refine u ?_
    refine ti (fun c3=>?_) fun c3=>?_
    repeat refine u ?_
    refine zA1 (oix _ rfl rfl rfl (fun _=>rfl) (fun _=>(by (have e0:=dt c3; omega)))) ?_
    repeat refine u ?_
    refine zA1 (oca rfl rfl fun _=>k22putc ?_) ?_
    rotate_left 1
    repeat refine u ?_
    rotate_left 1
    repeat refine u ?_
    rotate_left 1
    ·rw [List.append_assoc]; exact hlen _ (by omega) (by rw [List.length_append,List.length_append,List.length_map,List.length_take]; omega)
    ·have hm:=dt c3
     refine ⟨m + 1,tes ?_ ?_ (List.Sublist.refl _),(by omega),(by omega)⟩
     refine tc rfl ?_ ?_
     rotate_left 1
     refine tc rfl (ps_r _) (tn)
     refine tc rfl (ps_r _) (tc rfl (ps_r _) (tc rfl (ps_r _) (tc rfl (ps_r _) (tc rfl (ps_r _) (tn)))))
     refine ps_p (congrArg (fun x=>sv (sl 3 ((setOf cmpR x).map (rtc 350)))) ?_)
     rw [(zU (0:Rat) (show m < (crossX ls i j).length by omega)).1,show (crossX ls i j).getD m 0=((allOf (ls.getD j Df.d) (ls.getD i Df.d)).getD m Df.d).1 from map_fst_getD (l:=allOf (ls.getD j Df.d) (ls.getD i Df.d)) (by omega)]
     simp only [List.append_assoc]
    ·have hm:=df c3
     refine ⟨j + 1,tes ?_ ?_ (List.Sublist.refl _),(by omega),(by omega)⟩
     refine tc rfl ?_ ?_
     rotate_left 1
     refine tc rfl (ps_r _) (tn)
     refine tc rfl (ps_r _) (tc rfl (ps_r _) (tc rfl (ps_r _) (tn)))
     refine ps_p (congrArg (fun x=>sv (sl 3 ((setOf cmpR x).map (rtc 350)))) ?_)
     rw [List.take_of_length_le (by omega),pW]
     simp only [List.append_assoc]
   ·have hj:=df c2
    refine ⟨i + 1,tes ?_ ?_ (List.Sublist.refl _),(by omega),(by omega)⟩
    refine tc rfl ?_ ?_
    rotate_left 1
    refine tc rfl (ps_r _) (tn)
    refine tc rfl (ps_r _) (tc rfl (ps_r _) (tn))
    have e:j=i:=by omega
    subst e
    refine ps_p (congrArg (fun x=>sv (sl 3 ((setOf cmpR x).map (rtc 350)))) ?_)
    unfold rawR
    rw [pW]
    unfold stepR
    simp only [List.append_assoc]
    rfl
 ·have:=df c0
  rw [show i=ls.length by omega,rawR_cuts]; exact PSub.refl _
end Go.Proofs.YtalkinejknjidaaGreatDoor
set_option maxHeartbeats 1000000
namespace Go.Proofs.YtalkinejknjidaaGreatDoor
open Go.SL Go.RowKit Go.Proofs Tryz
theorem rtx_q {n:Nat} (a:RX) (h1:a.1.2.length≤n) (h2:a.2.length≤n) {M:Nat→Prop} {w:World} {us:List Value} (k:(rtx a).p M w us):(rtq n (qx a)).p M w us:=by
 obtain ⟨s,b,d,e,g⟩:=CQ.h (c:=rtx a) k
 exact ⟨s,b,d,e,g.up (by omega)⟩
instance:Df RX:=⟨((false,[]),[])⟩
end Go.Proofs.YtalkinejknjidaaGreatDoor
namespace Go.SL
def trn (a b c:P2):Rat:=zG (subP b a) (subP c a)
def lexP (v:P2):Prop:=0 < v.1 ∨ v.1=0∧0 < v.2
def lex0 (v:P2):Prop:=0 < v.1 ∨ v.1=0∧0≤v.2
theorem lexP.le {v:P2} (h:lexP v):lex0 v:=by unfold lexP lex0 at *; grind
theorem cC {b x:Rat} (hb:0 < b) (h:0≤b * x):0≤x:=Classical.byContradiction fun c=>by
 have:=Rat.mul_pos hb (show 0 < -x by grind); grind
theorem fS {b x:Rat} (hb:0 < b) (h:0 < b * x):0 < x:=Classical.byContradiction fun c=>by
 have:=Rat.mul_nonneg (Rat.le_of_lt hb) (show 0 ≤ -x by grind); grind
theorem zU0 (a b c:P2):b.1 * zG a c=a.1 * zG b c + c.1 * zG a b∧b.2 * zG a c=a.2 * zG b c + c.2 * zG a b:=by
 unfold zG; constructor <;> grind
theorem sY {a b c:P2} (ha:lex0 a) (hb:lexP b) (hc:lex0 c) (h1:0≤zG a b) (h2:0≤zG b c):0≤zG a c:=by
 have e:=(zU0 a b c).1
 have a0:0≤a.1:=by unfold lex0 at ha; grind
 have c0:0≤c.1:=by unfold lex0 at hc; grind
 rcases hb with hb | ⟨hb,hb2⟩
 ·exact cC hb (by rw [e]; have:=Rat.mul_nonneg a0 h2; have:=Rat.mul_nonneg c0 h1; grind)
 ·have k:c.1=0:=by
   rcases hc with hc | hc
   ·have:=Rat.mul_pos hb2 hc; unfold zG at h2; rw [hb] at h2; grind
   ·exact hc.1
  have k2:0≤c.2:=by unfold lex0 at hc; grind
  have:=Rat.mul_nonneg a0 k2
  unfold zG; rw [k]; grind
theorem yF4 {a b c:P2} (ha:lex0 a) (hb:lexP b) (hc:lexP c) (h1:0 < zG a b) (h2:0≤zG b c):0 < zG a c:=by
 have e:=(zU0 a b c).1
 have a0:0≤a.1:=by unfold lex0 at ha; grind
 have ap:0 < a.1 ∨ a.1=0∧0≤a.2:=ha
 rcases hb with hb | ⟨hb,hb2⟩
 ·rcases hc with hc | ⟨hc,hc2⟩
  ·exact fS hb (by rw [e]; have:=Rat.mul_nonneg a0 h2; have:=Rat.mul_pos hc h1; grind)
  ·rcases ap with ap | ⟨ap,ap2⟩
   ·have:=Rat.mul_pos ap hc2; unfold zG; rw [hc]; grind
   ·have:=Rat.mul_nonneg ap2 (Rat.le_of_lt hb); unfold zG at h1; rw [ap] at h1; grind
 ·have k:c.1=0:=by
   rcases hc with hc | hc
   ·have:=Rat.mul_pos hb2 hc; unfold zG at h2; rw [hb] at h2; grind
   ·exact hc.1
  have k2:0 < c.2:=by unfold lexP at hc; grind
  have k3:0 < a.1:=by
   refine fS hb2 ?_
   unfold zG at h1; rw [hb] at h1; grind
  have:=Rat.mul_pos k3 k2
  unfold zG; rw [k]; grind
theorem tr_gp {a b c:P2} (ha:lexP a) (hb:lexP b) (hc:lex0 c) (h1:0≤zG a b) (h2:0 < zG b c):0 < zG a c:=by
 have e:=(zU0 a b c).1
 have c0:0≤c.1:=by unfold lex0 at hc; grind
 rcases hb with hb | ⟨hb,hb2⟩
 ·rcases ha with ha | ⟨ha,ha2⟩
  ·exact fS hb (by rw [e]; have:=Rat.mul_pos ha h2; have:=Rat.mul_nonneg c0 h1; grind)
  ·have:=Rat.mul_pos ha2 hb; unfold zG at h1; rw [ha] at h1; grind
 ·have:=Rat.mul_nonneg (Rat.le_of_lt hb2) c0; unfold zG at h2; rw [hb] at h2; grind
theorem lD {a b:P2}:leP a b ↔ lex0 (subP b a):=by unfold leP lex0 subP; simp only; grind
def ltP (a b:P2):Prop:=lexP (subP b a)
theorem yH9 {a b:P2}:ltP a b ↔ cmpP a b < 0:=by rw [kP]; unfold ltP leP lexP subP; simp only; grind
theorem ltP.le {a b:P2} (h:ltP a b):leP a b:=lD.2 (lexP.le h)
theorem ltP.ne {a b:P2} (h:ltP a b):a ≠ b:=fun e=>by subst e; unfold ltP lexP subP at h; simp only at h; grind
theorem zN7 {a b:P2} (h:leP a b) (k:a ≠ b):ltP a b:=by
 unfold ltP leP lexP subP at *; simp only; rw [Ne,Prod.ext_iff] at k; grind
theorem le_or_lt (a b:P2):leP a b ∨ ltP b a:=by unfold ltP leP lexP subP; simp only; grind
def kC (p:P2):List P2→List P2
 | t :: s :: r=>if zG (subP t s) (subP p t)≤0 then kC p (s :: r) else t :: s :: r
 | l=>l
def jS:List P2→List P2→List P2
 | acc,[]=>acc
 | acc,p :: l=>jS (p :: kC p acc) l
def kT (q:P2):List P2→Prop
 | t :: s :: r=>0≤trn s t q∧kT q (s :: r)
 | _=>True
def gW:List P2→Prop
 | u :: t :: s :: r=>0 < trn s t u∧gW (t :: s :: r)
 | _=>True
def edgD (w:P2):List P2→Prop
 | t :: s :: r=>0 < zG (subP t s) w∧edgD w (s :: r)
 | _=>True
structure ChOk (S acc:List P2):Prop where
 sub:∀ x ∈ acc,x ∈ S
 dec:acc.Pairwise fun a b=>ltP b a
 top:∀ q ∈ S,∀ t,acc.head? = some t→leP q t
 bot:∀ q ∈ S,∀ t,acc.getLast? = some t→leP t q
 lef:∀ q ∈ S,kT q acc
 trs:gW acc
 ne:acc ≠ []
theorem oR (s t p:P2):zG (subP t s) (subP p t)=trn s t p:=by unfold trn zG subP; simp only; grind
theorem zJ0 {w:P2} (hw:lexP w):∀ D:List P2,gW D→D.Pairwise (fun a b=>ltP b a)→(∀ t s r,D=t :: s :: r→0 < zG (subP t s) w)→edgD w D
 | [],_,_,_=>trivial
 | [_],_,_,_=>trivial
 | [t,s],_,_,h=>⟨h t s [] rfl,trivial⟩
 | t :: s :: u :: r,ht,hd,h=>by
  have h1:=h t s _ rfl
  have h2:0 < zG (subP s u) (subP t s):=by rw [oR]; exact ht.1
  have a1:ltP s t:=(List.pairwise_cons.1 hd).1 s (by simp)
  have a2:ltP u s:=(List.pairwise_cons.1 (List.pairwise_cons.1 hd).2).1 u (by simp)
  exact ⟨h1,zJ0 hw (s :: u :: r) ht.2 (List.pairwise_cons.1 hd).2 fun t' s' r' e=>by
   injection e with e1 e2; injection e2 with e2 e3; subst e1 e2
   exact yF4 (lexP.le a2) a1 hw h2 (Rat.le_of_lt h1)⟩
theorem zN9 {p x:P2}:∀ D:List P2,edgD (subP p x) D→kT x D→kT p D
 | [],_,_=>trivial
 | [_],_,_=>trivial
 | t :: s :: r,h,k=>⟨by
   have h1:=h.1; have k1:=k.1
   unfold trn zG subP at *; simp only at *; grind,zN9 (s :: r) h.2 k.2⟩
theorem yC3 {S:List P2} {p:P2} (hp:∀ q ∈ S,ltP q p):∀ acc:List P2,acc ≠ []→(∀ x ∈ acc,x ∈ S)→acc.Pairwise (fun a b=>ltP b a)→(∀ q ∈ S,kT q acc)→gW acc →
  (∀ q ∈ S,∀ t,acc.getLast? = some t→leP t q)→(∀ q ∈ S,∀ t,acc.head? = some t→leP q t ∨ 0≤trn t p q) →
  (kC p acc ≠ []∧(∀ x ∈ kC p acc,x ∈ S)∧(kC p acc).Pairwise (fun a b=>ltP b a)∧(∀ q ∈ S,kT q (kC p acc))∧gW (kC p acc) ∧
   (∀ q ∈ S,∀ t,(kC p acc).getLast? = some t→leP t q)∧(∀ q ∈ S,∀ t,(kC p acc).head? = some t→0≤trn t p q)∧∀ t s r,kC p acc=t :: s :: r→0 < zG (subP t s) (subP p t))
 | [],h,_,_,_,_,_,_=>absurd rfl h
 | [t],h,hs,hd,hl,ht,hb,hh=>by
  refine ⟨h,hs,hd,hl,ht,hb,fun q hq t' e=>?_,fun t' s r e=>by cases e⟩
  obtain rfl:t=t':=Option.some.inj e
  rcases hh q hq t rfl with h1 | h1
  ·obtain rfl:=gB h1 (hb q hq t rfl)
   unfold trn zG subP; simp only; grind
  ·exact h1
 | t :: s :: r,h,hs,hd,hl,ht,hb,hh=>by
  have a1:ltP s t:=(List.pairwise_cons.1 hd).1 s (by simp)
  have tS:=hs t (by simp)
  have sS:=hs s (by simp)
  by_cases c:zG (subP t s) (subP p t)≤0
  ·rw [kC,if_pos c]
   refine yC3 hp (s :: r) (by simp) (fun x hx=>hs x (List.mem_cons_of_mem _ hx)) (List.pairwise_cons.1 hd).2 (fun q hq=>(hl q hq).2) ?_ (fun q hq u e=>hb q hq u (by rw [List.getLast?_cons_cons]; exact e)) fun q hq u e=>?_
   ·cases r with
    | nil=>trivial
    | cons u r=>exact ht.2
   ·obtain rfl:s=u:=Option.some.inj e
    rcases le_or_lt q s with h1 | h1
    ·exact .inl h1
    ·refine .inr ?_
     have k1:0≤zG (subP t s) (subP q s):=(hl q hq).1
     have k2:0≤zG (subP p s) (subP t s):=by unfold zG subP at *; simp only at *; grind
     exact sY (lexP.le (hp s sS)) a1 (lexP.le h1) k2 k1
  ·rw [kC,if_neg c]
   have c':0 < zG (subP t s) (subP p t):=by grind
   refine ⟨h,hs,hd,hl,ht,hb,fun q hq u e=>?_,fun t' s' r' e=>by injection e with e1 e2; injection e2 with e2 e3; subst e1 e2; exact c'⟩
   obtain rfl:t=u:=Option.some.inj e
   rcases hh q hq t rfl with h1 | h1
   ·have k1:0≤zG (subP t s) (subP q s):=(hl q hq).1
    have k2:0≤zG (subP t q) (subP t s):=by unfold zG subP at *; simp only at *; grind
    have k3:=sY (lD.1 h1) a1 (lexP.le (hp t tS)) k2 (Rat.le_of_lt c')
    unfold trn zG subP at *; simp only at *; grind
   ·exact h1
theorem eB {a b c:P2} (h:leP a b) (k:ltP b c):ltP a c:=by
 refine zN7 (gV h k.le) fun e=>?_
 subst e; exact k.ne (gB k.le h)
theorem ch_step {S acc:List P2} {p:P2} (h:ChOk S acc) (hp:∀ q ∈ S,ltP q p):ChOk (S ++ [p]) (p :: kC p acc):=by
 obtain ⟨d1,d2,d3,d4,d5,d6,d7,d8⟩:=yC3 hp acc h.ne h.sub h.dec h.lef h.trs h.bot fun q hq t e => .inl (h.top q hq t e)
 generalize kC p acc=D at *
 have hS:∀ {q},q ∈ S ++ [p]→q ∈ S ∨ q=p:=fun hq=>by simpa using hq
 obtain ⟨t,D',rfl⟩:=List.exists_cons_of_ne_nil d1
 have tS:=d2 t (by simp)
 have hw:lexP (subP p t):=hp t tS
 refine ⟨fun x hx=>?_,List.pairwise_cons.2 ⟨fun x hx=>hp x (d2 x hx),d3⟩,fun q hq u e=>?_,fun q hq u e=>?_,fun q hq=>?_,?_,by simp⟩
 ·rcases List.mem_cons.1 hx with rfl | hx
  ·simp
  ·exact List.mem_append_left _ (d2 x hx)
 ·obtain rfl:p=u:=Option.some.inj e
  rcases hS hq with hq | rfl
  ·exact (hp q hq).le
  ·exact gL _
 ·rw [List.getLast?_cons_cons] at e
  rcases hS hq with hq | rfl
  ·exact d6 q hq u e
  ·exact gV (d6 t tS u e) (hp t tS).le
 ·rcases hS hq with hq | rfl
  ·exact ⟨d7 q hq t rfl,d4 q hq⟩
  ·refine ⟨by unfold trn zG; grind,zN9 _ (zJ0 hw _ d5 d3 fun t' s r e=>?_) (d4 t tS)⟩
   have e':=e
   injection e' with e1 e2; subst e1
   exact d8 t s r e
 ·cases D' with
  | nil=>trivial
  | cons s r=>exact ⟨by rw [← oR]; exact d8 t s r rfl,d5⟩
theorem yL0:∀ (l S acc:List P2),ChOk S acc→(S ++ l).Pairwise ltP→ChOk (S ++ l) (jS acc l)
 | [],S,acc,h,_=>by rw [List.append_nil]; exact h
 | p :: l,S,acc,h,hs=>by
  have h1:=ch_step h (p:=p) fun q hq=>(List.pairwise_append.1 hs).2.2 q hq p (by simp)
  have h2:=yL0 l (S ++ [p]) (p :: kC p acc) h1 (by simpa using hs)
  simpa [jS] using h2
theorem yQ2 {l:List P2} (h:l ≠ []) (hs:l.Pairwise ltP):ChOk l (jS [] l):=by
 obtain ⟨p,l,rfl⟩:=List.exists_cons_of_ne_nil h
 have h0:ChOk [p] [p]:=⟨fun _ h=>h,by simp,fun q hq t e=>by obtain rfl:p=t:=Option.some.inj e; rw [List.mem_singleton.1 hq]; exact gL _,fun q hq t e=>by obtain rfl:p=t:=Option.some.inj e; rw [List.mem_singleton.1 hq]; exact gL _,fun _ _=>trivial,trivial,by simp⟩
 exact yL0 l [p] [p] h0 hs
def negP (a:P2):P2:=(-a.1,-a.2)
theorem mI (a:P2):negP (negP a)=a:=by unfold negP; rw [Prod.ext_iff]; constructor <;> simp only <;> grind
theorem dE (a b c:P2):trn (negP a) (negP b) (negP c)=trn a b c:=by unfold trn zG subP negP; simp only; grind
theorem rN {a b:P2}:ltP (negP a) (negP b) ↔ ltP b a:=by unfold ltP lexP subP negP; simp only; grind
theorem rQ {a b:P2}:leP (negP a) (negP b) ↔ leP b a:=by unfold leP negP; simp only; grind
theorem zQ0 (p:P2):∀ l:List P2,kC (negP p) (l.map negP)=(kC p l).map negP
 | []=>rfl
 | [_]=>rfl
 | t :: s :: r=>by
  have e:zG (subP (negP t) (negP s)) (subP (negP p) (negP t))=zG (subP t s) (subP p t):=by rw [oR,dE,← oR]
  simp only [List.map_cons,kC,e]
  split
  ·exact zQ0 p (s :: r)
  ·rfl
theorem vV:∀ (l acc:List P2),jS (acc.map negP) (l.map negP)=(jS acc l).map negP
 | [],_=>rfl
 | p :: l,acc=>by
  rw [List.map_cons,jS,jS,zQ0,← List.map_cons]; exact vV l _
theorem rP {q:P2}:∀ l:List P2,kT (negP q) (l.map negP) ↔ kT q l
 | [] => .rfl
 | [_] => .rfl
 | t :: s :: r=>by simp only [List.map_cons,kT,dE]; exact and_congr .rfl (rP (s :: r))
theorem nP:∀ l:List P2,gW (l.map negP) ↔ gW l
 | [] => .rfl
 | [_] => .rfl
 | [_,_] => .rfl
 | u :: t :: s :: r=>by simp only [List.map_cons,gW,dE]; exact and_congr .rfl (nP (t :: s :: r))
structure ChOk' (S acc:List P2):Prop where
 sub:∀ x ∈ acc,x ∈ S
 dec:acc.Pairwise fun a b=>ltP a b
 top:∀ q ∈ S,∀ t,acc.head? = some t→leP t q
 bot:∀ q ∈ S,∀ t,acc.getLast? = some t→leP q t
 lef:∀ q ∈ S,kT q acc
 trs:gW acc
 ne:acc ≠ []
theorem ch_ok' {l:List P2} (h:l ≠ []) (hs:l.Pairwise ltP):ChOk' l (jS [] l.reverse):=by
 have h1:ChOk (l.reverse.map negP) (jS [] (l.reverse.map negP)):=yQ2 (by simpa using h) (by
  rw [List.pairwise_map,List.pairwise_reverse]
  exact hs.imp fun h=>rN.2 h)
 rw [show jS [] (l.reverse.map negP)=(jS [] l.reverse).map negP from vV l.reverse []] at h1
 generalize jS [] l.reverse=acc at *
 have hm:∀ {q},q ∈ l→negP q ∈ l.reverse.map negP:=fun hq=>List.mem_map.2 ⟨_,List.mem_reverse.2 hq,rfl⟩
 refine ⟨fun x hx=>?_,?_,fun q hq t e=>?_,fun q hq t e=>?_,fun q hq=>(rP acc).1 (h1.lef _ (hm hq)),(nP acc).1 h1.trs,fun c=>h1.ne (by rw [c]; rfl)⟩
 ·obtain ⟨y,hy,e⟩:=List.mem_map.1 (h1.sub (negP x) (List.mem_map.2 ⟨x,hx,rfl⟩))
  have:=congrArg negP e
  rw [mI,mI] at this
  rw [← this]; exact List.mem_reverse.1 hy
 ·have:=h1.dec
  rw [List.pairwise_map] at this
  exact this.imp fun h=>rN.1 h
 ·exact rQ.1 (h1.top _ (hm hq) _ (by rw [List.head?_map,e]; rfl))
 ·exact rQ.1 (h1.bot _ (hm hq) _ (by rw [List.getLast?_map,e]; rfl))
abbrev gp (h:List P2) (i:Nat):P2:=h.getD i (0,0)
abbrev nx (h:List P2) (i:Nat):P2:=gp h ((i + 1) % h.length)
theorem gD {h:List P2} {i:Nat} (hi:i < h.length):gp h i ∈ h:=by
 unfold gp; rw [List.getD_eq_getElem?_getD,List.getElem?_eq_getElem hi]; exact List.getElem_mem hi
theorem iY {h:List P2} {c:P2} (hc:c ∈ h):∃ i,i < h.length∧gp h i=c:=by
 obtain ⟨i,hi,rfl⟩:=List.mem_iff_getElem.1 hc
 exact ⟨i,hi,by unfold gp; rw [List.getD_eq_getElem?_getD,List.getElem?_eq_getElem hi]; rfl⟩
theorem nodup_inj {α:Type} {l:List α} (nd:l.Nodup) {i k:Nat} (hi:i < l.length) (hk:k < l.length) (e:l[i]=l[k]):i=k:=by
 rcases Nat.lt_trichotomy i k with c | c | c
 ·exact absurd e (List.pairwise_iff_getElem.1 nd i k hi hk c)
 ·exact c
 ·exact absurd e.symm (List.pairwise_iff_getElem.1 nd k i hk hi c)
theorem yG7 (a b:Rat):a < b ∨ b≤a:=by grind
theorem dR {h:List P2} (nd:h.Nodup) {i k:Nat} (hi:i < h.length) (hk:k < h.length) (e:gp h i=gp h k):i=k:=by
 unfold gp at e
 rw [List.getD_eq_getElem?_getD,List.getD_eq_getElem?_getD,List.getElem?_eq_getElem hi,List.getElem?_eq_getElem hk] at e
 exact nodup_inj nd hi hk e
theorem fQ {n i:Nat} (h:i < n):∃ p,p < n∧(p + 1) % n=i:=by
 rcases Nat.eq_zero_or_pos i with rfl | c
 ·exact ⟨n - 1,by omega,by rw [show n - 1 + 1=n by omega]; exact Nat.mod_self n⟩
 ·exact ⟨i - 1,by omega,by rw [show i - 1 + 1=i by omega]; exact Nat.mod_eq_of_lt h⟩
theorem qD {n i:Nat} (h:i < n):(i + 1) % n < n:=Nat.mod_lt _ (by omega)
theorem dZ {n i:Nat} (h:i < n) (h2:2≤n):(i + 1) % n ≠ i:=by
 rcases Nat.lt_or_ge (i + 1) n with c | c
 ·rw [Nat.mod_eq_of_lt c]; omega
 ·rw [show i + 1=n by omega,Nat.mod_self]; omega
theorem fB {c n x:P2} (h:trn c n x=0) (k:c ≠ n):∃ t:Rat,x.1=c.1 + t * (n.1 - c.1)∧x.2=c.2 + t * (n.2 - c.2):=by
 unfold trn zG subP at h; simp only at h
 by_cases e:n.1 - c.1=0
 ·have e2:n.2 - c.2 ≠ 0:=fun e2=>k (Prod.ext_iff.2 ⟨by grind,by grind⟩)
  refine ⟨(x.2 - c.2) / (n.2 - c.2),?_,?_⟩
  ·have:(n.2 - c.2) * (x.1 - c.1)=0:=by rw [e] at h; grind
   rcases Rat.mul_eq_zero.1 this with h1 | h1
   ·exact absurd h1 e2
   ·rw [e]; grind
  ·rw [Rat.div_mul_cancel e2]; grind
 ·refine ⟨(x.1 - c.1) / (n.1 - c.1),?_,?_⟩
  ·rw [Rat.div_mul_cancel e]; grind
  ·have:(n.1 - c.1) * (x.2 - c.2)=(n.1 - c.1) * ((x.1 - c.1) / (n.1 - c.1) * (n.2 - c.2)):=by
    have e3:=Rat.div_mul_cancel (a:=x.1 - c.1) e
    have e4:(n.1 - c.1) * ((x.1 - c.1) / (n.1 - c.1) * (n.2 - c.2))=((x.1 - c.1) / (n.1 - c.1) * (n.1 - c.1)) * (n.2 - c.2):=by grind
    rw [e4,e3]; grind
   have h2:(n.1 - c.1) * ((x.2 - c.2) - (x.1 - c.1) / (n.1 - c.1) * (n.2 - c.2))=0:=by grind
   rcases Rat.mul_eq_zero.1 h2 with h1 | h1
   ·exact absurd h1 e
   ·grind
structure Poly (h:List P2):Prop where
 fst:∀ c ∈ h,leP (gp h 0) c
 nd:h.Nodup
 conv:3≤h.length→∀ i k,i < h.length→k < h.length→k ≠ i→k ≠ (i + 1) % h.length→0 < trn (gp h i) (nx h i) (gp h k)
def Sup (h:List P2) (q:P2):Prop:=∀ u v:Rat,∃ c ∈ h,u * q.1 + v * q.2≤u * c.1 + v * c.2
theorem eO {h:List P2} {c:P2} (hc:c ∈ h):Sup h c:=fun u v=>⟨c,hc,Rat.le_refl⟩
theorem tD {h h':List P2} {q:P2} (k:∀ c ∈ h,Sup h' c) (hq:Sup h q):Sup h' q:=fun u v=>by
 obtain ⟨c,hc,h1⟩:=hq u v
 obtain ⟨d,hd,h2⟩:=k c hc u v
 exact ⟨d,hd,Rat.le_trans h1 h2⟩
theorem gS {h:List P2} {s t q:P2} (hl:∀ c ∈ h,0≤trn s t c) (hq:Sup h q):0≤trn s t q:=by
 obtain ⟨c,hc,h1⟩:=hq (t.2 - s.2) (-(t.1 - s.1))
 have h2:=hl c hc
 unfold trn zG subP at *; simp only at *; grind
theorem yH7 (u v:Rat):∀ {h:List P2},h ≠ []→∃ c ∈ h,∀ x ∈ h,u * x.1 + v * x.2≤u * c.1 + v * c.2
 | [c],_=>⟨c,by simp,fun x hx=>by rw [List.mem_singleton.1 hx]; exact Rat.le_refl⟩
 | c :: d :: r,_=>by
  obtain ⟨m,hm,k⟩:=yH7 u v (h:=d :: r) (by simp)
  by_cases e:u * c.1 + v * c.2≤u * m.1 + v * m.2
  ·exact ⟨m,List.mem_cons_of_mem _ hm,fun x hx=>by
    rcases List.mem_cons.1 hx with rfl | hx
    ·exact e
    ·exact k x hx⟩
  ·exact ⟨c,by simp,fun x hx=>by
    rcases List.mem_cons.1 hx with rfl | hx
    ·exact Rat.le_refl
    ·have:=k x hx; grind⟩
theorem Poly.weak {h:List P2} (p:Poly h) {i:Nat} (hi:i < h.length) (h3:3≤h.length):∀ c ∈ h,0≤trn (gp h i) (nx h i) c:=fun c hc=>by
 obtain ⟨k,hk,rfl⟩:=iY hc
 by_cases e1:k=i
 ·subst e1; unfold trn zG subP; simp only; grind
 by_cases e2:k=(i + 1) % h.length
 ·rw [e2]; unfold trn zG subP; simp only; grind
 exact Rat.le_of_lt (p.conv h3 i k hi hk e1 e2)
theorem sup_of_left {h:List P2} {q:P2} (p:Poly h) (h3:3≤h.length) (hq:∀ i,i < h.length→0≤trn (gp h i) (nx h i) q):Sup h q:=fun u v=>by
 obtain ⟨c,hc,hm⟩:=yH7 u v (h:=h) (by intro e; rw [e] at h3; simp at h3)
 refine ⟨c,hc,?_⟩
 obtain ⟨i,hi,rfl⟩:=iY hc
 obtain ⟨j,hj,e⟩:=fQ hi
 have k1:=hq i hi
 have k2:=hq j hj
 have hne:j ≠ (i + 1) % h.length:=fun e2=>by
  have h5:=dZ hi (by omega); have h6:(j + 1) % h.length=i:=e
  rw [e2] at h6
  rcases Nat.lt_or_ge (i + 1) h.length with c | c
  ·rw [Nat.mod_eq_of_lt c] at h6
   rcases Nat.lt_or_ge (i + 1 + 1) h.length with d | d
   ·rw [Nat.mod_eq_of_lt d] at h6; omega
   ·rw [show i + 1 + 1=h.length by omega,Nat.mod_self] at h6; omega
  ·rw [show i + 1=h.length by omega,Nat.mod_self,Nat.mod_eq_of_lt (by omega)] at h6; omega
 have k3:=p.conv h3 i j hi hj (fun e2=>dZ hj (by omega) (e.trans e2.symm)) hne
 have m1:=hm _ (gD hj)
 have m2:=hm _ (gD (qD hi))
 unfold nx at k1 k2 k3
 rw [e] at k2
 generalize gp h i=c at *
 generalize gp h ((i + 1) % h.length)=n at *
 generalize gp h j=r at *
 have e1:trn c n r * (u * (q.1 - c.1) + v * (q.2 - c.2))=(u * (n.1 - c.1) + v * (n.2 - c.2)) * trn r c q + (u * (r.1 - c.1) + v * (r.2 - c.2)) * trn c n q:=by unfold trn zG subP; simp only; grind
 have a1:0 ≤ -(u * (n.1 - c.1) + v * (n.2 - c.2)):=by grind
 have a2:0 ≤ -(u * (r.1 - c.1) + v * (r.2 - c.2)):=by grind
 have b1:=Rat.mul_nonneg a1 k2
 have b2:=Rat.mul_nonneg a2 k1
 have:0≤trn c n r * -(u * (q.1 - c.1) + v * (q.2 - c.2)):=by grind
 have:=cC k3 this
 grind
theorem conv_of {h:List P2} (nd:h.Nodup) (h3:3≤h.length) (hl:∀ i k,i < h.length→k < h.length→0≤trn (gp h i) (nx h i) (gp h k)) (ht:∀ i,i < h.length→0 < trn (gp h i) (nx h i) (nx h ((i + 1) % h.length))) :
  ∀ i k,i < h.length→k < h.length→k ≠ i→k ≠ (i + 1) % h.length→0 < trn (gp h i) (nx h i) (gp h k):=fun i k hi hk n1 n2=>by
 have h0:=hl i k hi hk
 refine Classical.byContradiction fun hz=>?_
 have hz:trn (gp h i) (nx h i) (gp h k)=0:=by grind
 have cn:gp h i ≠ nx h i:=fun e=>dZ hi (by omega) (dR nd hi (qD hi) e).symm
 obtain ⟨t,e1,e2⟩:=fB hz cn
 have xc:gp h k ≠ gp h i:=fun e=>n1 (dR nd hk hi e)
 have xn:gp h k ≠ nx h i:=fun e=>n2 (dR nd hk (qD hi) e)
 obtain ⟨j,hj,ej⟩:=fQ hi
 obtain ⟨l,hl',el⟩:=fQ hk
 have w1:=hl ((i + 1) % h.length) k (qD hi) hk
 have s1:=ht i hi
 have w2:=hl j k hj hk
 have s2:=ht j hj
 have w3:=hl k i hk hi
 have w4:=hl k _ hk (qD hi)
 have w5:=hl l i hl' hi
 have w6:=hl l _ hl' (qD hi)
 have s3:=ht l hl'
 unfold nx at *
 rw [ej] at w2 s2
 rw [el] at w5 w6 s3
 generalize gp h i=c at *
 generalize gp h ((i + 1) % h.length)=n at *
 generalize gp h k=x at *
 generalize gp h j=r at *
 generalize gp h l=z at *
 generalize gp h ((((i + 1) % h.length) + 1) % h.length)=m at *
 generalize gp h ((k + 1) % h.length)=y at *
 rcases yG7 1 t with ht1 | ht1
 ·have e:trn n m x = -((t - 1) * trn c n m):=by unfold trn zG subP; simp only; rw [e1,e2]; grind
  have:=Rat.mul_pos (show 0 < t - 1 by grind) s1
  grind
 rcases yG7 t 0 with ht0 | ht0
 ·have e:trn r c x=t * trn r c n:=by unfold trn zG subP; simp only; rw [e1,e2]; grind
  have:=Rat.mul_pos (show 0 < -t by grind) s2
  grind
 have zA0:0 < t:=by
  refine Classical.byContradiction fun c0=>xc ?_
  have:t=0:=by grind
  rw [Prod.ext_iff,e1,e2,this]; constructor <;> grind
 have zA1:0 < 1 - t:=by
  refine Classical.byContradiction fun c0=>xn ?_
  have:t=1:=by grind
  rw [Prod.ext_iff,e1,e2,this]; constructor <;> grind
 have g1:trn x y c=t * -zG (subP y x) (subP n c):=by unfold trn zG subP; simp only; rw [e1,e2]; grind
 have g2:trn x y n=(1 - t) * zG (subP y x) (subP n c):=by unfold trn zG subP; simp only; rw [e1,e2]; grind
 have g3:trn z x c=t * -zG (subP x z) (subP n c):=by unfold trn zG subP; simp only; rw [e1,e2]; grind
 have g4:trn z x n=(1 - t) * zG (subP x z) (subP n c):=by unfold trn zG subP; simp only; rw [e1,e2]; grind
 have f1:=cC zA0 (g1 ▸ w3)
 have f2:=cC zA1 (g2 ▸ w4)
 have f3:=cC zA0 (g3 ▸ w5)
 have f4:=cC zA1 (g4 ▸ w6)
 have z1:zG (subP y x) (subP n c)=0:=by grind
 have z2:zG (subP x z) (subP n c)=0:=by grind
 have z3:∀ k:Rat,(n.1 - c.1=0→n.2 - c.2=0→False)→k * (n.1 - c.1)=0→k * (n.2 - c.2)=0→k=0:=fun k hh a b=>by
  rcases Rat.mul_eq_zero.1 a with a | a
  ·exact a
  ·rcases Rat.mul_eq_zero.1 b with b | b
   ·exact b
   ·exact (hh a b).elim
 have:trn z x y=0:=z3 _ (fun a b=>cn (Prod.ext_iff.2 ⟨by grind,by grind⟩)) (by unfold trn zG subP at *; simp only at *; grind) (by unfold trn zG subP at *; simp only at *; grind)
 grind
theorem zW3 {h:List P2} {q:P2} (h2:h.length=2) (hq:Sup h q):trn (gp h 0) (gp h 1) q=0:=by
 match h,h2 with
 | [a,b],_ =>
  have k1:=gS (s:=a) (t:=b) (fun c hc=>by
   rcases List.mem_cons.1 hc with rfl | hc
   ·unfold trn zG subP; simp only; grind
   ·rw [List.mem_singleton.1 hc]; unfold trn zG subP; simp only; grind) hq
  have k2:=gS (s:=b) (t:=a) (fun c hc=>by
   rcases List.mem_cons.1 hc with rfl | hc
   ·unfold trn zG subP; simp only; grind
   ·rw [List.mem_singleton.1 hc]; unfold trn zG subP; simp only; grind) hq
  show trn a b q=0
  unfold trn zG subP at *; simp only at *; grind
theorem zM8 {h h':List P2} (p:Poly h) (hs:∀ c ∈ h,Sup h' c) (hs':∀ c ∈ h',Sup h c) {c:P2} (hc:c ∈ h):c ∈ h':=by
 -- a way in which c alone is the furthest
 rcases Nat.lt_or_ge 2 h.length with h3 | h3
 ·obtain ⟨i,hi,rfl⟩:=iY hc
  obtain ⟨j,hj,e⟩:=fQ hi
  have w1:=p.weak hi h3
  have w2:=p.weak hj h3
  have k3:=p.conv h3 j ((i + 1) % h.length) hj (qD hi) (fun e2=>by
   have h6:(j + 1) % h.length=i:=e
   rw [← e2] at h6
   rcases Nat.lt_or_ge (i + 1) h.length with c | c
   ·rw [Nat.mod_eq_of_lt c] at h6
    rcases Nat.lt_or_ge (i + 1 + 1) h.length with d | d
    ·rw [Nat.mod_eq_of_lt d] at h6; omega
    ·rw [show i + 1 + 1=h.length by omega,Nat.mod_self] at h6; omega
   ·rw [show i + 1=h.length by omega,Nat.mod_self,Nat.mod_eq_of_lt (by omega)] at h6; omega) (by rw [e]; exact dZ hi (by omega))
  unfold nx at *
  rw [e] at w2 k3
  have hs0:=hs _ hc
  generalize gp h i=c at *
  generalize gp h ((i + 1) % h.length)=n at *
  generalize gp h j=r at *
  obtain ⟨q,hq,h1⟩:=hs0 ((n.2 - c.2) + (c.2 - r.2)) (-((n.1 - c.1) + (c.1 - r.1)))
  have b1:=gS w1 (hs' q hq)
  have b2:=gS w2 (hs' q hq)
  have z1:trn c n q=0:=by unfold trn zG subP at *; simp only at *; grind
  have z2:trn r c q=0:=by unfold trn zG subP at *; simp only at *; grind
  have e1:trn r c n * (q.1 - c.1)=0:=by unfold trn zG subP at *; simp only at *; grind
  have e2:trn r c n * (q.2 - c.2)=0:=by unfold trn zG subP at *; simp only at *; grind
  have:q=c:=by
   rcases Rat.mul_eq_zero.1 e1 with f | f
   ·grind
   rcases Rat.mul_eq_zero.1 e2 with g | g
   ·grind
   exact Prod.ext_iff.2 ⟨by grind,by grind⟩
  exact this ▸ hq
 ·match h,p,hc,hs,hs',h3 with
  | [a],p,hc,hs,hs',_ =>
   obtain rfl:=List.mem_singleton.1 hc
   obtain ⟨q,hq,_⟩:=hs c (by simp) 0 0
   have hS:=hs' q hq
   have g:∀ u v:Rat,u * q.1 + v * q.2≤u * c.1 + v * c.2:=fun u v=>by
    obtain ⟨x,hx,h1⟩:=hS u v
    rw [List.mem_singleton.1 hx] at h1; exact h1
   have g1:=g 1 0; have g2:=g (-1) 0; have g3:=g 0 1; have g4:=g 0 (-1)
   have:q=c:=Prod.ext_iff.2 ⟨by grind,by grind⟩
   exact this ▸ hq
  | [a,b],p,hc,hs,hs',_ =>
   have hab:a ≠ b:=by have:=p.nd; simp at this; exact this
   have hz:=fun q hq=>zW3 rfl (hs' q hq)
   simp only [gp,List.getD_cons_zero,List.getD_cons_succ] at hz
   have key:∀ c d:P2,c ≠ d→(∀ x ∈ [a,b],x=c ∨ x=d)→c ∈ [a,b]→(∀ q ∈ h',trn c d q=0)→c ∈ h':=fun c d hcd hx hc hz=>by
    have hd:0 < (c.1 - d.1) * (c.1 - d.1) + (c.2 - d.2) * (c.2 - d.2):=by
     have s1:∀ x:Rat,0≤x * x:=fun x=>by
      rcases (Rat.le_total:0≤x ∨ x≤0) with hx | hx
      ·exact Rat.mul_nonneg hx hx
      ·have:=Rat.mul_nonneg (show 0 ≤ -x by grind) (show 0 ≤ -x by grind); grind
     have s2:=s1 (c.1 - d.1); have s3:=s1 (c.2 - d.2)
     refine Classical.byContradiction fun c0=>hcd ?_
     have z1:(c.1 - d.1) * (c.1 - d.1)=0:=by grind
     have z2:(c.2 - d.2) * (c.2 - d.2)=0:=by grind
     exact Prod.ext_iff.2 ⟨by rcases Rat.mul_eq_zero.1 z1 with h | h <;> grind,by rcases Rat.mul_eq_zero.1 z2 with h | h <;> grind⟩
    obtain ⟨q,hq,h1⟩:=hs c hc (c.1 - d.1) (c.2 - d.2)
    obtain ⟨x,hx',h2⟩:=hs' q hq (c.1 - d.1) (c.2 - d.2)
    have h3:(c.1 - d.1) * q.1 + (c.2 - d.2) * q.2≤(c.1 - d.1) * c.1 + (c.2 - d.2) * c.2:=by
     rcases hx x hx' with rfl | rfl <;> grind
    obtain ⟨t,e1,e2⟩:=fB (hz q hq) hcd
    rw [e1,e2] at h1 h3
    have z:t * ((c.1 - d.1) * (c.1 - d.1) + (c.2 - d.2) * (c.2 - d.2))=0:=by grind
    have:q=c:=by
     rcases Rat.mul_eq_zero.1 z with z | z
     ·exact Prod.ext_iff.2 ⟨by rw [e1,z]; grind,by rw [e2,z]; grind⟩
     ·grind
    exact this ▸ hq
   rcases List.mem_cons.1 hc with rfl | hc
   ·exact key c b hab (fun x hx=>by simpa using hx) (by simp) hz
   ·obtain rfl:=List.mem_singleton.1 hc
    exact key c a (Ne.symm hab) (fun x hx=>by simp at hx; exact hx.symm) (by simp) fun q hq=>by
     have:=hz q hq; unfold trn zG subP at *; simp only at *; grind
theorem len_eq {h h':List P2} (nd:h.Nodup) (nd':h'.Nodup) (e:∀ c,c ∈ h ↔ c ∈ h'):h.length=h'.length :=
 Nat.le_antisymm (cV nd fun x hx=>(e x).1 hx) (cV nd' fun x hx=>(e x).2 hx)
theorem poly_uniq {h h':List P2} (p:Poly h) (p':Poly h') (hs:∀ c ∈ h,Sup h' c) (hs':∀ c ∈ h',Sup h c):h=h':=by
 have e:∀ c,c ∈ h ↔ c ∈ h':=fun c=>⟨zM8 p hs hs',zM8 p' hs' hs⟩
 have hl:=len_eq p.nd p'.nd e
 have h0:0 < h.length→gp h 0=gp h' 0:=fun k=>gB (p.fst _ ((e _).2 (gD (by omega)))) (p'.fst _ ((e _).1 (gD k)))
 have hi:∀ i,i < h.length→gp h i=gp h' i:=fun i=>by
  induction i with
  | zero=>exact h0
  | succ i ih =>
   intro hi
   have ei:=ih (by omega)
   rcases Nat.lt_or_ge 2 h.length with h3 | h3
   ·obtain ⟨k,hk,ek⟩:=iY ((e _).1 (gD hi))
    have w:=p.weak (i:=i) (by omega) h3 _ ((e _).2 (gD (h:=h') (i:=i + 1) (by omega)))
    have m1:(i + 1) % h.length=i + 1:=Nat.mod_eq_of_lt hi
    have m2:(i + 1) % h'.length=i + 1:=Nat.mod_eq_of_lt (by omega)
    by_cases c1:k=i + 1
    ·rw [← ek,c1]
    ·have c2:k ≠ i:=fun c=>by
      have:=dR p.nd hi (show i < h.length by omega) (by rw [ei,← ek,c])
      omega
     have s:=p'.conv (by omega) i k (by omega) hk c2 (by rw [m2]; exact c1)
     unfold nx at w s
     rw [m1] at w; rw [m2,ek,← ei] at s
     unfold trn zG subP at *; simp only at *; grind
   ·obtain ⟨k,hk,ek⟩:=iY ((e _).1 (gD hi))
    have c2:k ≠ i:=fun c=>by
     have:=dR p.nd hi (show i < h.length by omega) (by rw [ei,← ek,c])
     omega
    rw [← ek,show k=i + 1 by omega]
 refine List.ext_getElem hl fun i h1 h2=>?_
 have:=hi i h1
 unfold gp at this
 rw [List.getD_eq_getElem?_getD,List.getD_eq_getElem?_getD,List.getElem?_eq_getElem h1,List.getElem?_eq_getElem h2] at this
 exact this
structure IsHull (l h:List P2):Prop where
 poly:Poly h
 sub:∀ c ∈ h,c ∈ l
 sup:∀ q ∈ l,Sup h q
theorem hull_uniq {l l' h h':List P2} (a:IsHull l h) (b:IsHull l' h') (e1:∀ q ∈ l,Sup l' q) (e2:∀ q ∈ l',Sup l q):h=h' :=
 poly_uniq a.poly b.poly (fun c hc=>tD b.sup (e1 c (a.sub c hc))) fun c hc=>tD a.sup (e2 c (b.sub c hc))
theorem nodup_rev {α:Type} {l:List α}:l.reverse.Nodup ↔ l.Nodup:=by
 unfold List.Nodup; rw [List.pairwise_reverse]
 exact ⟨fun h=>h.imp Ne.symm,fun h=>h.imp Ne.symm⟩
theorem zO0 {q:P2}:∀ (X:List P2) (m:P2) (Y:List P2),kT q (X ++ [m])→kT q (m :: Y)→kT q (X ++ m :: Y)
 | [],_,_,_,h=>h
 | [_],_,_,h,k=>⟨h.1,k⟩
 | _ :: y :: X,m,Y,h,k=>⟨h.1,zO0 (y :: X) m Y h.2 k⟩
theorem bJ {q:P2}:∀ (X Y:List P2),kT q (X ++ Y)→kT q Y
 | [],_,h=>h
 | [x],[],_=>trivial
 | [x],y :: Y,h=>h.2
 | x :: y :: X,Y,h=>bJ (y :: X) Y h.2
theorem nO:∀ (X Y:List P2),gW (X ++ Y)→gW Y
 | [],_,h=>h
 | [x],[],_=>trivial
 | [x],[_],_=>trivial
 | [x],_ :: _ :: _,h=>h.2
 | [x,y],[],_=>trivial
 | [x,y],_ :: Y,h=>nO [y] _ h.2
 | x :: y :: z :: X,Y,h=>nO (y :: z :: X) Y h.2
theorem sX:∀ (X:List P2) (b m a:P2) (Y:List P2),gW (X ++ [b,m])→gW (m :: a :: Y)→0 < trn a m b→gW (X ++ b :: m :: a :: Y)
 | [],_,_,_,_,_,h,k=>⟨k,h⟩
 | [x],b,m,a,Y,g,h,k=>⟨g.1,k,h⟩
 | [x,y],b,m,a,Y,g,h,k=>⟨g.1,g.2.1,k,h⟩
 | x :: y :: z :: X,b,m,a,Y,g,h,k=>⟨g.1,sX (y :: z :: X) b m a Y g.2 h k⟩
theorem zZ9 {q:P2}:∀ (C:List P2) (j:Nat),kT q C→j + 1 < C.length→0≤trn (gp C (j + 1)) (gp C j) q
 | [],_,_,h=>by simp at h
 | [_],_,_,h=>by simp at h
 | _ :: _ :: _,0,h,_=>h.1
 | t :: s :: r,j + 1,h,hj=>zZ9 (s :: r) j h.2 (by simp only [List.length_cons] at hj ⊢; omega)
theorem zV5:∀ (C:List P2) (j:Nat),gW C→j + 2 < C.length→0 < trn (gp C (j + 2)) (gp C (j + 1)) (gp C j)
 | [],_,_,h=>by simp at h
 | [_],_,_,h=>by simp at h
 | [_,_],_,_,h=>by simp only [List.length_cons,List.length_nil] at h; omega
 | _ :: _ :: _ :: _,0,h,_=>h.1
 | u :: t :: s :: r,j + 1,h,hj=>zV5 (t :: s :: r) j h.2 (by simp only [List.length_cons] at hj ⊢; omega)
theorem deg {l:List P2} {a m b:P2} (hm:∀ q ∈ l,leP q m) (ha:ltP a m) (hb:ltP b m) (h0:trn a m b=0) (h1:∀ q ∈ l,0≤trn a m q) (h2:∀ q ∈ l,0≤trn m b q) :
  ∀ x ∈ l,∀ y ∈ l,∀ z ∈ l,trn x y z=0:=by
 have k0:0≤zG (subP m a) (subP m b):=by unfold trn zG subP at *; simp only at *; grind
 have kz:∀ q ∈ l,zG (subP m a) (subP m q)=0:=fun q hq=>by
  have a1:=h1 q hq; have a2:=h2 q hq
  have:=sY (lexP.le ha) hb (lD.1 (hm q hq)) k0 (by unfold trn zG subP at *; simp only at *; grind)
  unfold trn zG subP at *; simp only at *; grind
 have kk:∀ x ∈ l,∀ y ∈ l,0≤zG (subP m x) (subP m y):=fun x hx y hy=>sY (lD.1 (hm x hx)) ha (lD.1 (hm y hy)) (by have:=kz x hx; unfold zG subP at *; simp only at *; grind) (by rw [kz y hy]; exact Rat.le_refl)
 intro x hx y hy z hz
 have b1:=kk x hx y hy; have b2:=kk y hy x hx; have b3:=kk y hy z hz; have b4:=kk z hz y hy; have b5:=kk x hx z hz; have b6:=kk z hz x hx
 unfold trn zG subP at *; simp only at *; grind
theorem apart3 {l:List P2} {a b c a' b':P2} (hb':b' ∈ l) (hb:b ∈ l) (h1:ltP a c) (h2:ltP c b) (h3:0 < trn a c b) (h4:∀ q ∈ l,0≤trn a c q) (g1:ltP b' c) (g2:∀ q ∈ l,0≤trn c b' q):False:=by
 have k1:=h4 b' hb'
 have k2:=g2 b hb
 have:=tr_gp (a:=subP c b') (b:=subP c a) (c:=subP b c) g1 h1 (lexP.le h2) (by unfold trn zG subP at *; simp only at *; grind) (by unfold trn zG subP at *; simp only at *; grind)
 unfold trn zG subP at *; simp only at *; grind
theorem iC {α:Type} {l:List α} (h:l ≠ []):∃ r x,l=r ++ [x]:=⟨_,_,(List.dropLast_concat_getLast h).symm⟩
def uN (l:List P2):List P2:=if l.length < 3 then l else (jS [] l).reverse.dropLast ++ (jS [] l.reverse).reverse.dropLast
theorem two_sup {a b q:P2} (hab:ltP a b) (h0:trn a b q=0) (h1:leP a q) (h2:leP q b):Sup [a,b] q:=fun u v=>by
 obtain ⟨t,e1,e2⟩:=fB h0 hab.ne
 have ht0:0≤t:=by
  refine Classical.byContradiction fun c=>?_
  have c:0 < -t:=by grind
  unfold ltP lexP subP leP at *; simp only at *
  rcases hab with hab | ⟨hab,hb2⟩
  ·have:=Rat.mul_pos c hab; grind
  ·have:=Rat.mul_pos c hb2; grind
 have ht1:0≤1 - t:=by
  refine Classical.byContradiction fun c=>?_
  have c:0 < t - 1:=by grind
  unfold ltP lexP subP leP at *; simp only at *
  rcases hab with hab | ⟨hab,hb2⟩
  ·have:=Rat.mul_pos c hab; grind
  ·have:=Rat.mul_pos c hb2; grind
 by_cases c:u * a.1 + v * a.2≤u * b.1 + v * b.2
 ·refine ⟨b,by simp,?_⟩
  rw [e1,e2]
  have:=Rat.mul_nonneg ht1 (show 0≤(u * b.1 + v * b.2) - (u * a.1 + v * a.2) by grind)
  grind
 ·refine ⟨a,by simp,?_⟩
  rw [e1,e2]
  have:=Rat.mul_nonneg ht0 (show 0≤(u * a.1 + v * a.2) - (u * b.1 + v * b.2) by grind)
  grind
theorem nX {l:List P2} (h2:2≤l.length) (hs:l.Pairwise ltP):∃ mn mx A B,ChOk l (mx :: (A ++ [mn]))∧ChOk' l (mn :: (B ++ [mx]))∧uN l=mn :: (A.reverse ++ mx :: B.reverse)∧mn ∈ l∧mx ∈ l∧ltP mn mx∧(∀ q ∈ l,leP q mx)∧(∀ q ∈ l,leP mn q)∧jS [] l=mx :: (A ++ [mn])∧jS [] l.reverse=mn :: (B ++ [mx]):=by
 have hne:l ≠ []:=fun e=>by rw [e] at h2; simp at h2
 have hS:uN l=(jS [] l).reverse.dropLast ++ (jS [] l.reverse).reverse.dropLast:=by
  unfold uN; split
  ·match l,h2 with
   | [p,q],_=>simp [jS,kC]
   | _ :: _ :: _ :: _,_=>rename_i h; simp at h; omega
  ·rfl
 have cl:=yQ2 hne hs
 have ch:=ch_ok' hne hs
 generalize eL:jS [] l=L at *
 generalize eH:jS [] l.reverse=H at *
 obtain ⟨mx,L1,rfl⟩:=List.exists_cons_of_ne_nil cl.ne
 obtain ⟨mn,H1,rfl⟩:=List.exists_cons_of_ne_nil ch.ne
 have hmx:∀ q ∈ l,leP q mx:=fun q hq=>cl.top q hq mx rfl
 have hmn:∀ q ∈ l,leP mn q:=fun q hq=>ch.top q hq mn rfl
 have mxl:=cl.sub mx (by simp)
 have mnl:=ch.sub mn (by simp)
 have hlt:ltP mn mx:=by
  refine zN7 (hmx mn mnl) fun e=>?_
  match l,hs,h2,hmx,hmn with
  | p :: p2 :: r,hs,h3,hmx,hmn =>
   have h1:=(List.pairwise_cons.1 hs).1 p2 (by simp)
   have h4:=gB (gV (hmx p2 (by simp)) (e ▸ hmn p (by simp))) h1.le
   exact h1.ne h4.symm
  | [p],_,h3,_,_=>simp at h3
 have l1:L1 ≠ []:=fun e=>by
  subst e
  exact hlt.ne (gB hlt.le (cl.bot mn mnl mx rfl))
 have h1:H1 ≠ []:=fun e=>by
  subst e
  exact hlt.ne (gB hlt.le (ch.bot mx mxl mn rfl))
 obtain ⟨A,z,rfl⟩:=iC l1
 obtain ⟨B,y,rfl⟩:=iC h1
 have ez:z=mn:=gB (cl.bot mn mnl z (by rw [← List.cons_append,List.getLast?_concat])) (hmn z (cl.sub z (by simp)))
 have ey:y=mx:=gB (hmx y (ch.sub y (by simp))) (ch.bot mx mxl y (by rw [← List.cons_append,List.getLast?_concat]))
 subst ez ey
 exact ⟨_,_,A,B,cl,ch,by rw [hS,show (y :: (A ++ [z])).reverse=(z :: A.reverse) ++ [y] by simp,show (z :: (B ++ [y])).reverse=(y :: B.reverse) ++ [z] by simp,List.dropLast_concat,List.dropLast_concat]; rfl,mnl,mxl,hlt,hmx,hmn,rfl,rfl⟩
theorem hullS_ok {l:List P2} (hs:l.Pairwise ltP):IsHull l (uN l):=by
 have hnd:l.Nodup:=hs.imp fun h=>ltP.ne h
 by_cases h3:l.length < 2
 ·have e:uN l=l:=by unfold uN; rw [if_pos (by omega)]
  rw [e]
  refine ⟨⟨fun c hc=>?_,hnd,fun h=>by omega⟩,fun _ h=>h,fun q hq=>eO hq⟩
  match l,hs,hc with
  | p :: r,hs,hc =>
   rcases List.mem_cons.1 hc with rfl | hc
   ·exact gL _
   ·exact ((List.pairwise_cons.1 hs).1 c hc).le
 obtain ⟨mn,mx,A,B,cl,ch,eS,mnl,mxl,hlt,hmx,hmn,_⟩:=nX (by omega) hs
 rw [eS]
 have sub:∀ c ∈ mn :: (A.reverse ++ mx :: B.reverse),c ∈ l:=fun c hc=>by
  simp only [List.mem_cons,List.mem_append,List.mem_reverse] at hc
  rcases hc with rfl | hc | rfl | hc
  ·exact mnl
  ·exact cl.sub c (by simp [hc])
  ·exact mxl
  ·exact ch.sub c (by simp [hc])
 have dL:=cl.dec
 have dH:=ch.dec
 have nd:(mn :: (A.reverse ++ mx :: B.reverse)).Nodup:=by
  have n1:(mx :: (A ++ [mn])).Nodup:=dL.imp fun h=>(ltP.ne h).symm
  have n2:(mn :: (B ++ [mx])).Nodup:=dH.imp fun h=>ltP.ne h
  have n3:∀ c,c ∈ A→c ∈ B→False:=fun c hA hB=>by
   obtain ⟨A1,A2,rfl⟩:=List.append_of_mem hA
   obtain ⟨B1,B2,rfl⟩:=List.append_of_mem hB
   obtain ⟨r1,b,e1⟩:=iC (l:=mx :: A1) (by simp)
   obtain ⟨r2,b',e2⟩:=iC (l:=mn :: B1) (by simp)
   obtain ⟨a,s1,e3⟩:=List.exists_cons_of_ne_nil (l:=A2 ++ [mn]) (by simp)
   obtain ⟨a',s2,e4⟩:=List.exists_cons_of_ne_nil (l:=B2 ++ [mx]) (by simp)
   have E1:mx :: ((A1 ++ c :: A2) ++ [mn])=r1 ++ b :: c :: a :: s1:=by
    rw [show mx :: ((A1 ++ c :: A2) ++ [mn])=(mx :: A1) ++ c :: (A2 ++ [mn]) by simp,e1,e3]; simp
   have E2:mn :: ((B1 ++ c :: B2) ++ [mx])=r2 ++ b' :: c :: a' :: s2:=by
    rw [show mn :: ((B1 ++ c :: B2) ++ [mx])=(mn :: B1) ++ c :: (B2 ++ [mx]) by simp,e2,e4]; simp
   rw [E1] at cl dL
   rw [E2] at ch dH
   have p1:=List.pairwise_cons.1 (List.pairwise_append.1 dL).2.1
   have p2:=List.pairwise_cons.1 (List.pairwise_append.1 dH).2.1
   exact apart3 (l:=l) (a:=a) (b:=b) (c:=c) (a':=a') (b':=b') (ch.sub b' (by simp)) (cl.sub b (by simp)) ((List.pairwise_cons.1 p1.2).1 a (by simp)) (p1.1 c (by simp)) (nO r1 _ cl.trs).1 (fun q hq=>(bJ r1 _ (cl.lef q hq)).2.1) (p2.1 c (by simp)) fun q hq=>(bJ r2 _ (ch.lef q hq)).1
  simp only [List.nodup_cons,List.mem_append,List.mem_cons,List.mem_reverse,List.nodup_append,nodup_rev,List.mem_singleton,List.not_mem_nil,not_false_eq_true,List.nodup_nil,true_and,and_true] at n1 n2 ⊢
  grind
 have fst:∀ c ∈ mn :: (A.reverse ++ mx :: B.reverse),leP (gp (mn :: (A.reverse ++ mx :: B.reverse)) 0) c:=fun c hc=>hmn c (sub c hc)
 by_cases hAB:A=[]∧B=[]
 ·obtain ⟨rfl,rfl⟩:=hAB
  refine ⟨⟨fst,nd,fun h=>absurd h (by simp)⟩,sub,fun q hq=>two_sup hlt ?_ (hmn q hq) (hmx q hq)⟩
  have a1:0≤trn mn mx q:=(cl.lef q hq).1
  have a2:0≤trn mx mn q:=(ch.lef q hq).1
  unfold trn zG subP at *; simp only at *; grind
 have hn3:3≤(mn :: (A.reverse ++ mx :: B.reverse)).length:=by
  simp only [List.length_cons,List.length_append,List.length_reverse]
  rcases A with _ | ⟨a,A⟩
  ·rcases B with _ | ⟨b,B⟩
   ·exact absurd ⟨rfl,rfl⟩ hAB
   ·simp only [List.length_cons,List.length_nil]; omega
  ·simp only [List.length_cons]; omega
 obtain ⟨r1,b1,e1⟩:=iC (l:=mx :: A) (by simp)
 obtain ⟨r2,b2,e2⟩:=iC (l:=mn :: B) (by simp)
 obtain ⟨a1,s1,e3⟩:=List.exists_cons_of_ne_nil (l:=A ++ [mn]) (by simp)
 obtain ⟨a2,s2,e4⟩:=List.exists_cons_of_ne_nil (l:=B ++ [mx]) (by simp)
 have EL1:mx :: (A ++ [mn])=r1 ++ [b1,mn]:=by rw [← List.cons_append,e1]; simp
 have EL2:mx :: (A ++ [mn])=mx :: a1 :: s1:=by rw [e3]
 have EH1:mn :: (B ++ [mx])=r2 ++ [b2,mx]:=by rw [← List.cons_append,e2]; simp
 have EH2:mn :: (B ++ [mx])=mn :: a2 :: s2:=by rw [e4]
 have ndeg:¬ ∀ x ∈ l,∀ y ∈ l,∀ z ∈ l,trn x y z=0:=fun hd=>by
  rcases A with _ | ⟨a,A⟩
  ·rcases B with _ | ⟨b,B⟩
   ·exact hAB ⟨rfl,rfl⟩
   ·obtain ⟨c,s,e⟩:=List.exists_cons_of_ne_nil (l:=B ++ [mx]) (by simp)
    have t:=ch.trs
    have s':=ch.sub
    rw [List.cons_append,e] at t s'
    have:=hd c (s' c (by simp)) b (s' b (by simp)) mn (s' mn (by simp))
    have:=t.1; grind
  ·obtain ⟨c,s,e⟩:=List.exists_cons_of_ne_nil (l:=A ++ [mn]) (by simp)
   have t:=cl.trs
   have s':=cl.sub
   rw [List.cons_append,e] at t s'
   have:=hd c (s' c (by simp)) a (s' a (by simp)) mx (s' mx (by simp))
   have:=t.1; grind
 have sb1:=cl.sub b1 (by rw [EL1]; simp)
 have sb2:=ch.sub b2 (by rw [EH1]; simp)
 have sa1:=cl.sub a1 (by rw [EL2]; simp)
 have sa2:=ch.sub a2 (by rw [EH2]; simp)
 have la1:ltP a1 mx:=by rw [EL2] at dL; exact (List.pairwise_cons.1 dL).1 a1 (by simp)
 have lb1:ltP mn b1:=by rw [EL1] at dL; exact (List.pairwise_cons.1 (List.pairwise_append.1 dL).2.1).1 mn (by simp)
 have la2:ltP mn a2:=by rw [EH2] at dH; exact (List.pairwise_cons.1 dH).1 a2 (by simp)
 have lb2:ltP b2 mx:=by rw [EH1] at dH; exact (List.pairwise_cons.1 (List.pairwise_append.1 dH).2.1).1 mx (by simp)
 have fa1:∀ q ∈ l,0≤trn a1 mx q:=fun q hq=>by have:=cl.lef q hq; rw [EL2] at this; exact this.1
 have fb1:∀ q ∈ l,0≤trn mn b1 q:=fun q hq=>by have:=cl.lef q hq; rw [EL1] at this; exact (bJ r1 _ this).1
 have fa2:∀ q ∈ l,0≤trn a2 mn q:=fun q hq=>by have:=ch.lef q hq; rw [EH2] at this; exact this.1
 have fb2:∀ q ∈ l,0≤trn mx b2 q:=fun q hq=>by have:=ch.lef q hq; rw [EH1] at this; exact (bJ r2 _ this).1
 have jmx:0 < trn a1 mx b2:=by
  have:=fa1 b2 sb2
  refine Classical.byContradiction fun c=>ndeg (deg hmx la1 lb2 (by grind) fa1 fb2)
 have jmn:0 < trn a2 mn b1:=by
  have:=fa2 b1 sb1
  refine Classical.byContradiction fun c=>ndeg ?_
  have hd:=deg (l:=l.map negP) (a:=negP a2) (m:=negP mn) (b:=negP b1) (fun q hq=>by obtain ⟨x,hx,rfl⟩:=List.mem_map.1 hq; exact rQ.2 (hmn x hx)) (rN.2 la2) (rN.2 lb1) (by rw [dE]; grind)
   (fun q hq=>by obtain ⟨x,hx,rfl⟩:=List.mem_map.1 hq; rw [dE]; exact fa2 x hx) (fun q hq=>by obtain ⟨x,hx,rfl⟩:=List.mem_map.1 hq; rw [dE]; exact fb1 x hx)
  intro x hx y hy z hz
  rw [← dE]
  exact hd _ (List.mem_map.2 ⟨x,hx,rfl⟩) _ (List.mem_map.2 ⟨y,hy,rfl⟩) _ (List.mem_map.2 ⟨z,hz,rfl⟩)
 -- the way round,backwards
 have lC:∀ q ∈ l,kT q (mn :: B ++ mx :: (A ++ [mn])):=fun q hq=>zO0 (mn :: B) mx _ (by have:=ch.lef q hq; simpa using this) (cl.lef q hq)
 have tC:gW (mn :: B ++ mx :: (A ++ [mn])):=by
  have zA1:=ch.trs; have zA2:=cl.trs
  rw [EH1] at zA1; rw [EL2] at zA2
  rw [e2,e3,List.append_assoc]
  exact sX r2 b2 mx a1 s1 zA1 zA2 jmx
 have hC:(mn :: B ++ mx :: (A ++ [mn])).length=(mn :: (A.reverse ++ mx :: B.reverse)).length + 1:=by simp; omega
 have eC:mn :: (A.reverse ++ mx :: B.reverse)=(mn :: B ++ mx :: (A ++ [mn])).tail.reverse:=by simp
 have c1:gp (mn :: B ++ mx :: (A ++ [mn])) 1=a2:=by
  rw [show mn :: B ++ mx :: (A ++ [mn])=(mn :: (B ++ [mx])) ++ (A ++ [mn]) by simp,EH2]; rfl
 have c2:gp (mn :: B ++ mx :: (A ++ [mn])) 0=mn:=rfl
 have c3:gp (mn :: B ++ mx :: (A ++ [mn])) ((mn :: (A.reverse ++ mx :: B.reverse)).length - 1)=b1:=by
  rw [show mn :: B ++ mx :: (A ++ [mn])=(mn :: B) ++ (mx :: (A ++ [mn])) by simp,EL1,← List.append_assoc,gp,List.getD_eq_getElem?_getD,List.getElem?_append_right (by have:=congrArg List.length EL1; simp at this ⊢; omega)]
  have:(mn :: (A.reverse ++ mx :: B.reverse)).length - 1 - (mn :: B ++ r1).length=0:=by have:=congrArg List.length EL1; simp at this ⊢; omega
  rw [this]; rfl
 generalize mn :: B ++ mx :: (A ++ [mn])=C at *
 generalize hh:mn :: (A.reverse ++ mx :: B.reverse)=h at *
 have c4:gp h 0=mn:=by rw [← hh]; rfl
 have g1:∀ i,i < h.length→gp h i=gp C (h.length - i):=fun i hi=>by
  have ht:C.tail.length=h.length:=by rw [List.length_tail]; omega
  have:gp h i=gp C.tail (C.tail.length - 1 - i):=by
   conv=>lhs; rw [eC]
   unfold gp
   rw [List.getD_eq_getElem?_getD,List.getD_eq_getElem?_getD,List.getElem?_reverse (by omega)]
  rw [this,ht]
  unfold gp
  rw [List.getD_eq_getElem?_getD,List.getD_eq_getElem?_getD,List.getElem?_tail,show h.length - 1 - i + 1=h.length - i by omega]
 have g2:∀ i,i < h.length→nx h i=gp C (h.length - 1 - i):=fun i hi=>by
  unfold nx
  rcases Nat.lt_or_ge (i + 1) h.length with c | c
  ·rw [Nat.mod_eq_of_lt c,g1 _ c,show h.length - (i + 1)=h.length - 1 - i by omega]
  ·rw [show i + 1=h.length by omega,Nat.mod_self,c4,show h.length - 1 - i=0 by omega,c2]
 have weak:∀ i,i < h.length→∀ q ∈ l,0≤trn (gp h i) (nx h i) q:=fun i hi q hq=>by
  have:=zZ9 C (h.length - 1 - i) (lC q hq) (by omega)
  rw [show h.length - 1 - i + 1=h.length - i by omega] at this
  rw [g1 i hi,g2 i hi]; exact this
 have turn:∀ i,i < h.length→0 < trn (gp h i) (nx h i) (nx h ((i + 1) % h.length)):=fun i hi=>by
  rcases Nat.lt_or_ge (i + 1) h.length with c | c
  ·have:=zV5 C (h.length - 2 - i) tC (by omega)
   rw [Nat.mod_eq_of_lt c,g1 i hi,g2 i hi,g2 _ c,show h.length - 1 - (i + 1)=h.length - 2 - i by omega,show h.length - 1 - i=h.length - 2 - i + 1 by omega,show h.length - i=h.length - 2 - i + 2 by omega]
   exact this
  ·have e:i=h.length - 1:=by omega
   rw [show i + 1=h.length by omega,Nat.mod_self,g1 i hi,g2 i hi,g2 0 (by omega),e,show h.length - (h.length - 1)=1 by omega,show h.length - 1 - (h.length - 1)=0 by omega,Nat.sub_zero,c1,c2,c3]
   exact jmn
 have po:Poly h:=⟨fst,nd,fun h3=>conv_of nd h3 (fun i k hi hk=>weak i hi _ (sub _ (gD hk))) turn⟩
 exact ⟨po,sub,fun q hq=>sup_of_left po hn3 fun i hi=>weak i hi q hq⟩
def yW (d:P2):Int:=if 0 < d.1 then 0 else if d.1=0∧0 < d.2 then 1 else if d.1 < 0 then 2 else 3
def uG (a b:P2):Bool:=if yW a ≠ yW b then decide (yW a < yW b) else decide (0 < zG a b)
def lexN (v:P2):Prop:=v.1 < 0 ∨ v.1=0∧v.2 < 0
theorem qt0 {d:P2} (h:0 < d.1):yW d=0:=if_pos h
theorem qt1 {d:P2} (h:d.1=0) (k:0 < d.2):yW d=1:=by unfold yW; rw [if_neg (by grind),if_pos ⟨h,k⟩]
theorem qt2 {d:P2} (h:d.1 < 0):yW d=2:=by unfold yW; rw [if_neg (by grind),if_neg (by grind),if_pos h]
theorem qt3 {d:P2} (h:d.1=0) (k:d.2 < 0):yW d=3:=by unfold yW; rw [if_neg (by grind),if_neg (by grind),if_neg (by grind)]
theorem dW {a b:P2} (h:yW a=yW b):uG a b=true ↔ 0 < zG a b:=by
 unfold uG; rw [if_neg (by simp [h]),decide_eq_true_eq]
theorem kN {a b:P2} (h:yW a ≠ yW b):uG a b=true ↔ yW a < yW b:=by
 unfold uG; rw [if_pos h,decide_eq_true_eq]
theorem ahead_pp {a b:P2} (ha:lexP a) (hb:lexP b):uG a b=true ↔ 0 < zG a b:=by
 rcases ha with ha | ⟨ha,ha2⟩ <;> rcases hb with hb | ⟨hb,hb2⟩
 ·exact dW ((qt0 ha).trans (qt0 hb).symm)
 ·have h:=Rat.mul_pos ha hb2
  rw [kN (by rw [qt0 ha,qt1 hb hb2]; decide),qt0 ha,qt1 hb hb2]
  unfold zG; rw [hb]; exact iff_of_true (by decide) (by grind)
 ·have h:=Rat.mul_pos ha2 hb
  rw [kN (by rw [qt1 ha ha2,qt0 hb]; decide),qt1 ha ha2,qt0 hb]
  unfold zG; rw [ha]; exact iff_of_false (by decide) (by grind)
 ·exact dW ((qt1 ha ha2).trans (qt1 hb hb2).symm)
theorem zQ8 {a b:P2} (ha:lexP a) (hb:lexN b):uG a b=true∧uG b a=false:=by
 have h1:yW a=0 ∨ yW a=1:=by rcases ha with ha | ⟨ha,ha2⟩; exact .inl (qt0 ha); exact .inr (qt1 ha ha2)
 have h2:yW b=2 ∨ yW b=3:=by rcases hb with hb | ⟨hb,hb2⟩; exact .inl (qt2 hb); exact .inr (qt3 hb hb2)
 have h3:yW b ≠ yW a:=by omega
 refine ⟨(kN h3.symm).2 (by omega),?_⟩
 rw [Bool.eq_false_iff]; exact fun c=>by have:=(kN h3).1 c; omega
theorem ahead_nn {a b:P2} (ha:lexN a) (hb:lexN b):uG a b=true ↔ 0 < zG a b:=by
 have k:∀ x y:Rat,x < 0→y < 0→0 < x * y:=fun x y hx hy=>by
  have h:=Rat.mul_pos (show 0 < -x by grind) (show 0 < -y by grind)
  rw [Rat.neg_mul,Rat.mul_neg,Rat.neg_neg] at h; exact h
 rcases ha with ha | ⟨ha,ha2⟩ <;> rcases hb with hb | ⟨hb,hb2⟩
 ·exact dW ((qt2 ha).trans (qt2 hb).symm)
 ·have h:=k _ _ ha hb2
  clear k
  rw [kN (by rw [qt2 ha,qt3 hb hb2]; decide),qt2 ha,qt3 hb hb2]
  unfold zG; rw [hb]; exact iff_of_true (by decide) (by grind)
 ·have h:=k _ _ ha2 hb
  clear k
  rw [kN (by rw [qt3 ha ha2,qt2 hb]; decide),qt3 ha ha2,qt2 hb]
  unfold zG; rw [ha]; exact iff_of_false (by decide) (by grind)
 ·exact dW ((qt3 ha ha2).trans (qt3 hb hb2).symm)
def mrg:List P2→List P2→List P2
 | [],q=>q
 | a :: p,[]=>a :: p
 | a :: p,b :: q=>if uG a b then a :: mrg p (b :: q) else b :: mrg (a :: p) q
termination_by p q=>p.length + q.length
theorem mrg_nil (p:List P2):mrg p []=p:=by cases p <;> simp [mrg]
theorem mrg_len (p q:List P2):(mrg p q).length=p.length + q.length:=by
 fun_induction mrg p q <;> simp_all <;> omega
theorem mrg_cut {p1 p2 q1 q2:List P2} (h1:∀ x ∈ p1,∀ y ∈ q2,uG x y=true) (h2:∀ y ∈ q1,∀ x ∈ p2,uG x y=false):mrg (p1 ++ p2) (q1 ++ q2)=mrg p1 q1 ++ mrg p2 q2:=by
 fun_induction mrg p1 q1 with
 | case1 q =>
  induction q with
  | nil=>rfl
  | cons b q ih =>
   cases p2 with
   | nil=>simp [mrg]
   | cons a p =>
    have:=h2 b (by simp) a (by simp)
    have ih':=ih fun y hy=>h2 y (by simp [hy])
    simp only [List.nil_append,List.cons_append] at ih' ⊢
    rw [mrg,this,if_neg (by simp),ih']
 | case2 a p =>
  clear h2
  generalize ha:a :: p=p' at *
  clear ha
  induction p' with
  | nil=>simp [mrg]
  | cons a p ih =>
   have ih':=ih fun x hx y hy=>h1 x (by simp [hx]) y hy
   cases q2 with
   | nil=>simp [mrg_nil]
   | cons b q =>
    have:=h1 a (by simp) b (by simp)
    simp only [List.nil_append,List.cons_append] at ih' ⊢
    rw [mrg,this,if_pos rfl,ih']
 | case3 a p b q h ih =>
  simp only [List.cons_append] at ih ⊢
  rw [mrg,if_pos h,ih (fun x hx y hy=>h1 x (by simp [hx]) y hy) h2]
 | case4 a p b q h ih =>
  simp only [List.cons_append] at ih ⊢
  rw [mrg,if_neg h,ih h1 fun y hy x hx=>h2 y (by simp [hy]) x hx]
def sumP:List P2→P2
 | []=>(0,0)
 | e :: l=>addP e (sumP l)
theorem zL7 (l m:List P2):sumP (l ++ m)=addP (sumP l) (sumP m):=by
 induction l with
 | nil=>unfold addP sumP; rw [Prod.ext_iff]; constructor <;> simp [Rat.zero_add]
 | cons a l ih=>rw [List.cons_append,sumP,ih,sumP]; unfold addP; rw [Prod.ext_iff]; constructor <;> simp only <;> grind
theorem zL6 (p q:List P2):sumP (mrg p q)=addP (sumP p) (sumP q):=by
 fun_induction mrg p q with
 | case1 q=>unfold addP; rw [Prod.ext_iff]; constructor <;> simp [sumP,Rat.zero_add]
 | case2 a p=>unfold addP; rw [Prod.ext_iff]; constructor <;> simp [sumP,addP,Rat.add_zero]
 | case3 a p b q h ih=>rw [sumP,ih]; unfold addP; rw [Prod.ext_iff]; constructor <;> simp only [sumP,addP] <;> grind
 | case4 a p b q h ih=>rw [sumP,ih]; unfold addP; rw [Prod.ext_iff]; constructor <;> simp only [sumP,addP] <;> grind
def wayS (at':P2):List P2→List P2
 | []=>[]
 | [_]=>[]
 | e :: f :: l=>addP at' e :: wayS (addP at' e) (f :: l)
def xG:List P2→List P2
 | a :: b :: r=>subP b a :: xG (b :: r)
 | _=>[]
theorem iG:∀ (X:List P2) (m:P2) (Y:List P2),xG (X ++ m :: Y)=xG (X ++ [m]) ++ xG (m :: Y)
 | [],m,Y=>by simp [xG]
 | [x],m,Y=>by simp [xG]
 | x :: y :: X,m,Y=>by
  have:=iG (y :: X) m Y
  simp only [List.cons_append,xG] at this ⊢
  rw [this]
theorem iF:∀ (a:P2) (X:List P2) (b:P2),sumP (xG (a :: (X ++ [b])))=subP b a
 | a,[],b=>by simp only [List.nil_append,xG,sumP]; unfold addP subP; rw [Prod.ext_iff]; constructor <;> simp only <;> grind
 | a,x :: X,b=>by
  rw [List.cons_append,xG,sumP,iF x X b]
  unfold addP subP; rw [Prod.ext_iff]; constructor <;> simp only <;> grind
def edgN (w:P2):List P2→Prop
 | t :: s :: r=>zG (subP t s) w≤0∧edgN w (s :: r)
 | _=>True
theorem dU (X:List P2) (a b:P2):xG (X ++ [a,b])=xG (X ++ [a]) ++ [subP b a]:=by
 rw [show X ++ [a,b]=X ++ a :: [b] by rfl,iG]; rfl
theorem zJ3 {g:P2}:∀ acc:List P2,edgD g acc→∀ e ∈ xG acc.reverse,0 < zG e g
 | [],_,e,he=>by simp [xG] at he
 | [_],_,e,he=>by simp [xG] at he
 | t :: s :: r,h,e,he=>by
  rw [show (t :: s :: r).reverse=r.reverse ++ [s,t] by simp,dU,List.mem_append,List.mem_singleton] at he
  rcases he with he | rfl
  ·exact zJ3 (s :: r) h.2 e (by simpa using he)
  ·exact h.1
theorem zJ2 {g:P2}:∀ acc:List P2,edgN g acc→∀ e ∈ xG acc.reverse,zG e g≤0
 | [],_,e,he=>by simp [xG] at he
 | [_],_,e,he=>by simp [xG] at he
 | t :: s :: r,h,e,he=>by
  rw [show (t :: s :: r).reverse=r.reverse ++ [s,t] by simp,dU,List.mem_append,List.mem_singleton] at he
  rcases he with he | rfl
  ·exact zJ2 (s :: r) h.2 e (by simpa using he)
  ·exact h.1
theorem vQ:∀ acc:List P2,acc.Pairwise (fun a b=>ltP b a)→∀ e ∈ xG acc.reverse,lexP e
 | [],_,e,he=>by simp [xG] at he
 | [_],_,e,he=>by simp [xG] at he
 | t :: s :: r,h,e,he=>by
  rw [show (t :: s :: r).reverse=r.reverse ++ [s,t] by simp,dU,List.mem_append,List.mem_singleton] at he
  rcases he with he | rfl
  ·exact vQ (s :: r) (List.pairwise_cons.1 h).2 e (by simpa using he)
  ·exact (List.pairwise_cons.1 h).1 s (by simp)
theorem zL9 {g:P2} (hg:lexP g):∀ acc:List P2,acc ≠ []→gW acc→acc.Pairwise (fun a b=>ltP b a)→∃ Y w X,acc=Y ++ w :: X∧edgN g (Y ++ [w])∧edgD g (w :: X)
 | [],h,_,_=>absurd rfl h
 | [t],_,_,_=>⟨[],t,[],rfl,trivial,trivial⟩
 | t :: s :: r,_,ht,hd=>by
  by_cases c:0 < zG (subP t s) g
  ·exact ⟨[],t,s :: r,rfl,trivial,zJ0 hg _ ht hd fun t' s' r' e=>by injection e with e1 e2; injection e2 with e2 e3; subst e1 e2; exact c⟩
  ·have ht':gW (s :: r):=by
    cases r with
    | nil=>trivial
    | cons u r=>exact ht.2
   obtain ⟨Y,w,X,e,h1,h2⟩:=zL9 hg (s :: r) (by simp) ht' (List.pairwise_cons.1 hd).2
   refine ⟨t :: Y,w,X,by rw [e]; rfl,?_,h2⟩
   cases Y with
   | nil=>injection e with e1 e2; subst e1; exact ⟨by grind,trivial⟩
   | cons y Y=>injection e with e1 e2; subst e1; exact ⟨by grind,h1⟩
theorem zZ7 {S acc:List P2} {g:P2} (hc:ChOk S acc) (hg:lexP g):∃ Y w X,acc=Y ++ w :: X∧edgN g (Y ++ [w])∧edgD g (w :: X)∧∀ q ∈ S,zG (subP q w) g≤0:=by
 obtain ⟨Y,w,X,rfl,h1,h2⟩:=zL9 hg acc hc.ne hc.trs hc.dec
 refine ⟨Y,w,X,rfl,h1,h2,fun q hq=>?_⟩
 have hl:=hc.lef q hq
 have hd:=hc.dec
 rcases uL w q with k | k
 ·rcases List.eq_nil_or_concat Y with rfl | ⟨Y',n,rfl⟩
  ·have:=gB (hc.top q hq w rfl) k
   subst this; unfold zG subP; simp only; grind
  ·rw [List.concat_eq_append] at hl hd h1
   rw [List.append_assoc] at hl hd
   have k1:=(bJ Y' _ hl).1
   have k2:zG (subP n w) g≤0:=by
    have:∀ Z:List P2,edgN g (Z ++ [n,w])→zG (subP n w) g≤0:=fun Z=>by
     induction Z with
     | nil=>exact fun h=>h.1
     | cons z Z ih=>intro h; cases Z with
      | nil=>exact h.2.1
      | cons z' Z=>exact ih h.2
    exact this Y' (by simpa using h1)
   have k3:ltP w n:=(List.pairwise_cons.1 (List.pairwise_append.1 hd).2.1).1 w (by simp)
   have:=sY (a:=g) (b:=subP n w) (c:=subP q w) (lexP.le hg) k3 (lD.1 k) (by unfold zG at *; grind) k1
   unfold zG at *; grind
 ·rcases X with _ | ⟨p,X⟩
  ·have:=gB (hc.bot q hq w (by simp)) k
   subst this; unfold zG subP; simp only; grind
  ·have k1:=(bJ Y _ hl).1
   have k2:=h2.1
   have k3:ltP p w:=(List.pairwise_cons.1 (List.pairwise_append.1 hd).2.1).1 p (by simp)
   have:=sY (a:=subP w q) (b:=subP w p) (c:=g) (lD.1 k) k3 (lexP.le hg) (by unfold trn zG subP at *; simp only at *; grind) (Rat.le_of_lt k2)
   unfold trn zG subP at *; simp only at *; grind
theorem ahead_asym {a b:P2} (h:uG a b=true):uG b a=false:=by
 unfold uG at *
 by_cases c:yW a=yW b
 ·rw [if_neg (by simp [c])] at h
  rw [if_neg (by simp [c]),decide_eq_false]
  have:=of_decide_eq_true h
  unfold zG at *; grind
 ·rw [if_pos c] at h
  rw [if_pos (Ne.symm c),decide_eq_false]
  have:=of_decide_eq_true h; omega
theorem mM {a:P2}:lexP (negP a) ↔ lexN a:=by unfold lexP lexN negP; simp only; grind
structure Cut (g:P2) (e1 e2:List P2):Prop where
 pos:lexP g→(∀ e ∈ e1,lexP e∧0 < zG e g)∧∀ e ∈ e2,lexN e ∨ lexP e∧zG e g≤0
 neg:lexN g→(∀ e ∈ e1,lexP e ∨ lexN e∧0 < zG e g)∧∀ e ∈ e2,lexN e∧zG e g≤0
theorem vS {g:P2} {e1 e2 f1 f2:List P2} (hg:lexP g ∨ lexN g) (a:Cut g e1 e2) (b:Cut g f1 f2):∀ x ∈ e1,∀ y ∈ f2,uG x y=true:=fun x hx y hy=>by
 rcases hg with hg | hg
 ·obtain ⟨h1,h2⟩:=(a.pos hg).1 x hx
  rcases (b.pos hg).2 y hy with h3 | ⟨h3,h4⟩
  ·exact (zQ8 h1 h3).1
  ·exact (ahead_pp h1 h3).2 (yF4 (lexP.le h1) hg h3 h2 (by unfold zG at *; grind))
 ·obtain ⟨h3,h4⟩:=(b.neg hg).2 y hy
  rcases (a.neg hg).1 x hx with h1 | ⟨h1,h2⟩
  ·exact (zQ8 h1 h3).1
  ·have:=yF4 (lexP.le (mM.2 h1)) (mM.2 hg) (mM.2 h3) (by unfold zG negP at *; simp only; grind) (by unfold zG negP at *; simp only; grind)
   exact (ahead_nn h1 h3).2 (by unfold zG negP at *; simp only at this; grind)
theorem ChOk'.flip {S acc:List P2} (h:ChOk' S acc):ChOk (S.map negP) (acc.map negP):=by
 refine ⟨fun x hx=>?_,?_,fun q hq t e=>?_,fun q hq t e=>?_,fun q hq=>?_,(nP acc).2 h.trs,fun c=>h.ne (List.map_eq_nil_iff.1 c)⟩
 ·obtain ⟨y,hy,rfl⟩:=List.mem_map.1 hx
  exact List.mem_map.2 ⟨y,h.sub y hy,rfl⟩
 ·rw [List.pairwise_map]; exact h.dec.imp fun h=>rN.2 h
 ·obtain ⟨y,hy,rfl⟩:=List.mem_map.1 hq
  rw [List.head?_map] at e
  obtain ⟨u,hu,rfl⟩:=Option.map_eq_some_iff.1 e
  exact rQ.2 (h.top y hy u hu)
 ·obtain ⟨y,hy,rfl⟩:=List.mem_map.1 hq
  rw [List.getLast?_map] at e
  obtain ⟨u,hu,rfl⟩:=Option.map_eq_some_iff.1 e
  exact rQ.2 (h.bot y hy u hu)
 ·obtain ⟨y,hy,rfl⟩:=List.mem_map.1 hq
  exact (rP acc).2 (h.lef y hy)
theorem zP8 {g:P2}:∀ l:List P2,edgD (negP g) (l.map negP) ↔ edgD g l
 | [] => .rfl
 | [_] => .rfl
 | t :: s :: r=>by
  have e:zG (subP (negP t) (negP s)) (negP g)=zG (subP t s) g:=by unfold zG subP negP; simp only; grind
  simp only [List.map_cons,edgD,e]; exact and_congr .rfl (zP8 (s :: r))
theorem zP7 {g:P2}:∀ l:List P2,edgN (negP g) (l.map negP) ↔ edgN g l
 | [] => .rfl
 | [_] => .rfl
 | t :: s :: r=>by
  have e:zG (subP (negP t) (negP s)) (negP g)=zG (subP t s) g:=by unfold zG subP negP; simp only; grind
  simp only [List.map_cons,edgN,e]; exact and_congr .rfl (zP7 (s :: r))
theorem high_cut {S acc:List P2} {g:P2} (hc:ChOk' S acc) (hg:lexN g):∃ Y w X,acc=Y ++ w :: X∧edgN g (Y ++ [w])∧edgD g (w :: X)∧∀ q ∈ S,zG (subP q w) g≤0:=by
 obtain ⟨Y,w,X,e,h1,h2,h3⟩:=zZ7 hc.flip (mM.2 hg)
 have hn:∀ l:List P2,(l.map negP).map negP=l:=fun l=>by
  rw [List.map_map]; conv=>rhs; rw [← List.map_id l]
  exact List.map_congr_left fun x _=>mI x
 have e':acc=Y.map negP ++ negP w :: X.map negP:=by
  have:=congrArg (List.map negP) e
  rw [hn] at this; simpa using this
 refine ⟨Y.map negP,negP w,X.map negP,e',?_,?_,fun q hq=>?_⟩
 ·refine (zP7 _).1 ?_
  rw [List.map_append,hn,List.map_cons,mI]; exact h1
 ·refine (zP8 _).1 ?_
  rw [List.map_cons,mI,hn]; exact h2
 ·have:=h3 (negP q) (List.mem_map.2 ⟨q,hq,rfl⟩)
  unfold zG subP negP at *; simp only at *; grind
theorem sH:∀ acc:List P2,acc.Pairwise (fun a b=>ltP a b)→∀ e ∈ xG acc.reverse,lexN e
 | [],_,e,he=>by simp [xG] at he
 | [_],_,e,he=>by simp [xG] at he
 | t :: s :: r,h,e,he=>by
  rw [show (t :: s :: r).reverse=r.reverse ++ [s,t] by simp,dU,List.mem_append,List.mem_singleton] at he
  rcases he with he | rfl
  ·exact sH (s :: r) (List.pairwise_cons.1 h).2 e (by simpa using he)
  ·have:=(List.pairwise_cons.1 h).1 s (by simp)
   unfold ltP lexP subP at this; unfold lexN subP; simp only at *; grind
def qE (h:List P2):List P2:=if 1 < h.length then xG (h ++ [gp h 0]) else []
theorem pI (a b:P2):addP a (subP b a)=b:=by unfold addP subP; rw [Prod.ext_iff]; constructor <;> simp only <;> grind
theorem xM (a:P2):addP a (0,0)=a:=by unfold addP; rw [Prod.ext_iff]; constructor <;> simp only <;> grind
theorem uH (a b c:P2):addP (addP a b) c=addP a (addP b c):=by unfold addP; rw [Prod.ext_iff]; constructor <;> simp only <;> grind
theorem vZ (a b:P2):addP a b=addP b a:=by unfold addP; rw [Prod.ext_iff]; constructor <;> simp only <;> grind
theorem yG2 {m w:P2} {X':List P2} (Y X:List P2) (e:Y ++ w :: X=X' ++ [m]):addP m (sumP (xG (w :: X).reverse))=w:=by
 rcases List.eq_nil_or_concat X with rfl | ⟨X,x,hX⟩
 ·have:w=m:=by
   have:=congrArg List.getLast? e; simpa using this
  subst this; exact xM _
 ·rw [List.concat_eq_append] at hX
  subst hX
  have:x=m:=by
   have:=congrArg List.getLast? e
   rw [show Y ++ w :: (X ++ [x])=(Y ++ w :: X) ++ [x] by simp,List.getLast?_concat,List.getLast?_concat] at this
   exact Option.some.inj this
  subst this
  rw [show (w :: (X ++ [x])).reverse=x :: (X.reverse ++ [w]) by simp,iF,pI]
theorem zO9 {l:List P2} {g:P2} (hs:l.Pairwise ltP) (hne:l ≠ []) (hg:lexP g ∨ lexN g) :
  ∃ e1 e2,qE (uN l)=e1 ++ e2∧Cut g e1 e2∧∀ q ∈ l,zG (subP q (addP (gp (uN l) 0) (sumP e1))) g≤0:=by
 by_cases h2:l.length < 2
 ·match l,hne,h2 with
  | [p],_,_ =>
   refine ⟨[],[],rfl,⟨fun _=>by simp,fun _=>by simp⟩,fun q hq=>?_⟩
   rw [List.mem_singleton.1 hq,show addP (gp (uN [p]) 0) (sumP [])=p from xM p]
   unfold zG subP; simp only; grind
 obtain ⟨mn,mx,A,B,cl,ch,eS,mnl,mxl,hlt,hmx,hmn,_⟩:=nX (by omega) hs
 have eE:qE (uN l)=xG (mx :: (A ++ [mn])).reverse ++ xG (mn :: (B ++ [mx])).reverse:=by
  unfold qE
  rw [eS,if_pos (by simp only [List.length_cons,List.length_append]; omega),show mn :: (A.reverse ++ mx :: B.reverse) ++ [gp (mn :: (A.reverse ++ mx :: B.reverse)) 0]=(mn :: A.reverse) ++ mx :: (B.reverse ++ [mn]) by simp,iG]
  congr 1 <;> congr 1 <;> simp
 have e0:gp (uN l) 0=mn:=by rw [eS]; rfl
 rw [e0,eE]
 have low:∀ e ∈ xG (mx :: (A ++ [mn])).reverse,lexP e:=vQ _ cl.dec
 have high:∀ e ∈ xG (mn :: (B ++ [mx])).reverse,lexN e:=sH _ ch.dec
 have np:∀ g:P2,lexP g→lexN g→False:=fun g a b=>by unfold lexP lexN at *; grind
 have cut:∀ (Y:List P2) (w:P2) (X:List P2),xG (Y ++ w :: X).reverse=xG (w :: X).reverse ++ xG (Y ++ [w]).reverse:=fun Y w X=>by
  rw [show (Y ++ w :: X).reverse=X.reverse ++ w :: Y.reverse by simp,iG]; simp
 rcases hg with hg | hg
 ·obtain ⟨Y,w,X,e,h1,h3,h4⟩:=zZ7 cl hg
  refine ⟨xG (w :: X).reverse,xG (Y ++ [w]).reverse ++ xG (mn :: (B ++ [mx])).reverse,?_,⟨fun _=>⟨fun x hx=>⟨low x ?_,zJ3 _ h3 x hx⟩,fun x hx=>?_⟩,fun h=>(np g hg h).elim⟩,?_⟩
  ·rw [e,cut,List.append_assoc]
  ·rw [e,cut]; exact List.mem_append_left _ hx
  ·rcases List.mem_append.1 hx with hx | hx
   ·exact .inr ⟨low x (by rw [e,cut]; exact List.mem_append_right _ hx),zJ2 _ h1 x hx⟩
   ·exact .inl (high x hx)
  ·rw [yG2 Y X (X':=mx :: A) (m:=mn) (by rw [← e]; simp)]; exact h4
 ·obtain ⟨Y,w,X,e,h1,h3,h4⟩:=high_cut ch hg
  refine ⟨xG (mx :: (A ++ [mn])).reverse ++ xG (w :: X).reverse,xG (Y ++ [w]).reverse,?_,⟨fun h=>(np g h hg).elim,fun _=>⟨fun x hx=>?_,fun x hx=>⟨high x ?_,zJ2 _ h1 x hx⟩⟩⟩,?_⟩
  ·rw [e,cut,List.append_assoc]
  ·rcases List.mem_append.1 hx with hx | hx
   ·exact .inl (low x hx)
   ·exact .inr ⟨high x (by rw [e,cut]; exact List.mem_append_left _ hx),zJ3 _ h3 x hx⟩
  ·rw [e,cut]; exact List.mem_append_right _ hx
  ·rw [zL7,← uH,show (mx :: (A ++ [mn])).reverse=mn :: (A.reverse ++ [mx]) by simp,iF,pI,yG2 Y X (X':=mn :: B) (m:=mx) (by rw [← e]; simp)]; exact h4
def outS (h k:List P2):List P2:=addP (gp h 0) (gp k 0) :: wayS (addP (gp h 0) (gp k 0)) (mrg (qE h) (qE k))
theorem sG {h:List P2}:sumP (qE h)=(0,0):=by
 unfold qE; split
 ·match h with
  | a :: r =>
   rw [show a :: r ++ [gp (a :: r) 0]=a :: (r ++ [a]) from rfl,iF]
   unfold subP; rw [Prod.ext_iff]; constructor <;> simp only <;> grind
 ·rfl
theorem zU7:∀ (e1 e2:List P2) (at':P2),e1 ≠ []→e2 ≠ []→addP at' (sumP e1) ∈ wayS at' (e1 ++ e2)
 | [],_,_,h,_=>absurd rfl h
 | [e],f :: e2,a,_,_=>by simp only [List.cons_append,List.nil_append,wayS,sumP]; rw [xM]; simp
 | e :: f :: e1,e2,a,_,h=>by
  have:=zU7 (f :: e1) e2 (addP a e) (by simp) h
  rw [List.cons_append,List.cons_append,wayS,sumP,← uH]
  exact List.mem_cons_of_mem _ this
 | [_],[],_,_,h=>absurd rfl h
theorem out_mem {h k e1 e2:List P2} (e:mrg (qE h) (qE k)=e1 ++ e2):addP (addP (gp h 0) (gp k 0)) (sumP e1) ∈ outS h k:=by
 unfold outS
 have z:addP (sumP e1) (sumP e2)=(0,0):=by rw [← zL7,← e,zL6,sG,sG]; exact xM _
 by_cases c1:e1=[]
 ·subst c1; rw [show sumP []=(0,0) from rfl,xM]; simp
 by_cases c2:e2=[]
 ·subst c2; rw [show sumP []=(0,0) from rfl,xM] at z; rw [z,xM]; simp
 ·rw [e]; exact List.mem_cons_of_mem _ (zU7 e1 e2 _ c1 c2)
theorem out_sup {l m:List P2} (hl:l.Pairwise ltP) (hm:m.Pairwise ltP) (nl:l ≠ []) (nm:m ≠ []) {a b:P2} (ha:a ∈ l) (hb:b ∈ m):Sup (outS (uN l) (uN m)) (addP a b):=fun u v=>by
 by_cases hz:lexP (-v,u) ∨ lexN (-v,u)
 ·obtain ⟨e1,e2,ee,ec,eb⟩:=zO9 hl nl hz
  obtain ⟨f1,f2,fe,fc,fb⟩:=zO9 hm nm hz
  have h1:=vS hz ec fc
  have h2:=vS hz fc ec
  have em:mrg (qE (uN l)) (qE (uN m))=mrg e1 f1 ++ mrg e2 f2:=by
   rw [ee,fe]; exact mrg_cut h1 fun y hy x hx=>ahead_asym (h2 y hy x hx)
  refine ⟨_,out_mem em,?_⟩
  rw [zL6]
  have k1:=eb a ha
  have k2:=fb b hb
  generalize gp (uN l) 0=p at *
  generalize gp (uN m) 0=q at *
  generalize sumP e1=s at *
  generalize sumP f1=t at *
  unfold zG subP addP at *; simp only at *; grind
 ·have hu:u=0:=by unfold lexP lexN at hz; simp only at hz; grind
  have hv:v=0:=by unfold lexP lexN at hz; simp only at hz; grind
  refine ⟨_,List.mem_cons_self,?_⟩
  rw [hu,hv]; grind
theorem vK {h:List P2} (hne:h ≠ []) {e1 e2:List P2} (e:qE h=e1 ++ e2):addP (gp h 0) (sumP e1) ∈ h:=by
 unfold qE at e
 split at e
 ·match h,hne with
  | a :: r,_ =>
   have e':xG (a :: (r ++ [a]))=e1 ++ e2:=e
   have key:∀ (r:List P2) (b z:P2) (e1:List P2),xG (b :: (r ++ [z]))=e1 ++ e2→addP b (sumP e1) ∈ b :: (r ++ [z]):=fun r=>by
    induction r with
    | nil =>
     intro b z e1 e
     match e1,e with
     | [],_=>rw [show sumP []=(0,0) from rfl,xM]; simp
     | [x],e=>
      simp only [List.nil_append,xG,List.cons_append,List.cons.injEq] at e
      rw [← e.1,sumP,show sumP []=(0,0) from rfl,xM,pI]; simp
     | x :: y :: s,e=>simp [xG] at e
    | cons c r ih =>
     intro b z e1 e
     match e1,e with
     | [],_=>rw [show sumP []=(0,0) from rfl,xM]; simp
     | x :: s,e =>
      rw [List.cons_append,xG,List.cons_append,List.cons.injEq] at e
      have:=ih c z s e.2
      rw [← e.1,sumP,← uH,pI]
      exact List.mem_cons_of_mem _ this
   have:=key r a a e1 e'
   show addP a (sumP e1) ∈ a :: r
   simp only [List.mem_cons,List.mem_append,List.mem_singleton,List.not_mem_nil,or_false] at this ⊢
   grind
 ·match h,hne with
  | a :: r,_ =>
   obtain ⟨rfl,rfl⟩:=List.append_eq_nil_iff.1 e.symm
   rw [show sumP []=(0,0) from rfl,xM]; simp
theorem mrg_pre (p q:List P2):∀ {s t:List P2},mrg p q=s ++ t→∃ p1 p2 q1 q2,p=p1 ++ p2∧q=q1 ++ q2∧sumP s=addP (sumP p1) (sumP q1):=by
 fun_induction mrg p q with
 | case1 q=>exact fun {s t} e=>⟨[],[],s,t,rfl,e,by rw [show sumP []=(0,0) from rfl,vZ,xM]⟩
 | case2 a p=>exact fun {s t} e=>⟨s,t,[],[],e,rfl,by rw [show sumP []=(0,0) from rfl,xM]⟩
 | case3 a p b q h ih =>
  intro s t e
  match s,e with
  | [],e=>exact ⟨[],_,[],_,rfl,rfl,by rw [show sumP []=(0,0) from rfl,xM]⟩
  | x :: s,e =>
   rw [List.cons_append,List.cons.injEq] at e
   obtain ⟨p1,p2,q1,q2,h1,h2,h3⟩:=ih e.2
   exact ⟨a :: p1,p2,q1,q2,by rw [h1]; rfl,h2,by rw [sumP,sumP,h3,← e.1,uH]⟩
 | case4 a p b q h ih =>
  intro s t e
  match s,e with
  | [],e=>exact ⟨[],_,[],_,rfl,rfl,by rw [show sumP []=(0,0) from rfl,xM]⟩
  | x :: s,e =>
   rw [List.cons_append,List.cons.injEq] at e
   obtain ⟨p1,p2,q1,q2,h1,h2,h3⟩:=ih e.2
   exact ⟨p1,p2,b :: q1,q2,h1,by rw [h2]; rfl,by rw [sumP,sumP,h3,← e.1,← uH,vZ b,uH]⟩
theorem yE9:∀ (es:List P2) (at' c:P2),c ∈ wayS at' es→∃ s t,es=s ++ t∧c=addP at' (sumP s)
 | [],_,_,h=>by simp [wayS] at h
 | [_],_,_,h=>by simp [wayS] at h
 | e :: f :: l,a,c,h=>by
  rw [wayS] at h
  rcases List.mem_cons.1 h with rfl | h
  ·exact ⟨[e],f :: l,rfl,by rw [sumP,show sumP []=(0,0) from rfl,xM]⟩
  ·obtain ⟨s,t,h1,h2⟩:=yE9 (f :: l) _ c h
   exact ⟨e :: s,t,by rw [h1]; rfl,by rw [h2,sumP,uH]⟩
theorem out_of {h k:List P2} (hh:h ≠ []) (hk:k ≠ []) {c:P2} (hc:c ∈ outS h k):∃ a ∈ h,∃ b ∈ k,c=addP a b:=by
 have key:∀ s t,mrg (qE h) (qE k)=s ++ t→c=addP (addP (gp h 0) (gp k 0)) (sumP s)→∃ a ∈ h,∃ b ∈ k,c=addP a b:=fun s t e ec=>by
  obtain ⟨p1,p2,q1,q2,h1,h2,h3⟩:=mrg_pre _ _ e
  refine ⟨_,vK hh h1,_,vK hk h2,?_⟩
  rw [ec,h3]; unfold addP; rw [Prod.ext_iff]; constructor <;> simp only <;> grind
 unfold outS at hc
 rcases List.mem_cons.1 hc with rfl | hc
 ·exact key [] _ rfl (by rw [show sumP []=(0,0) from rfl,xM])
 ·obtain ⟨s,t,h1,h2⟩:=yE9 _ _ _ hc
  exact key s t h1 h2
theorem bO:COrd cmpP:=⟨fun a b=>jU,fun a b=>by rw [aO,kP],fun a b c h k=>by rw [← yH9] at *; exact eB h.le k⟩
noncomputable def hullF (l:List P2):List P2:=uN (setOf cmpP l)
theorem fP (l:List P2):(setOf cmpP l).Pairwise ltP:=(jG bO l).rise.imp fun h=>yH9.2 h
theorem gC (l:List P2):IsHull l (hullF l):=by
 have h:=hullS_ok (fP l)
 exact ⟨h.poly,fun c hc=>(yT bO).1 (h.sub c hc),fun q hq=>h.sup q ((yT bO).2 hq)⟩
theorem yB1 {l m:List P2} (h1:∀ q ∈ l,Sup m q) (h2:∀ q ∈ m,Sup l q):hullF l=hullF m:=hull_uniq (gC l) (gC m) h1 h2
theorem hull_congr {l m:List P2} (e:∀ q,q ∈ l ↔ q ∈ m):hullF l=hullF m:=yB1 (fun q hq=>eO ((e q).1 hq)) fun q hq=>eO ((e q).2 hq)
theorem cY {l:List P2}:hullF l=[] ↔ l=[]:=by
 constructor
 ·intro h
  match l,h with
  | [],_=>rfl
  | p :: r,h=>obtain ⟨c,hc,_⟩:=(gC (p :: r)).sup p (by simp) 0 0; rw [h] at hc; cases hc
 ·intro h; subst h
  match e:hullF [],(gC []).sub with
  | [],_=>rfl
  | p :: r,k=>exact absurd (k p (by simp)) (by simp)
theorem mO (l:List P2):(hullF l).length≤l.length:=cV (gC l).poly.nd (gC l).sub
theorem hullS_fst {l:List P2} (hs:l.Pairwise ltP):∀ q ∈ l,leP (gp (uN l) 0) q:=fun q hq=>by
 by_cases h2:l.length < 2
 ·match l,hq,h2 with
  | [p],hq,_=>rw [List.mem_singleton.1 hq]; exact gL _
 obtain ⟨mn,mx,A,B,cl,ch,eS,mnl,mxl,hlt,hmx,hmn,_⟩:=nX (by omega) hs
 rw [eS]; exact hmn q hq
theorem hull_fst {l:List P2}:∀ q ∈ l,leP (gp (hullF l) 0) q:=fun q hq=>hullS_fst (fP l) q ((yT bO).2 hq)
theorem eJ (a b c:P2):trn a a c=0∧trn a b a=0∧trn a b b=0:=by unfold trn zG subP; simp only; grind
theorem hull_left {l:List P2} {q:P2} (hq:Sup (hullF l) q) {i:Nat} (hi:i < (hullF l).length):0≤trn (gp (hullF l) i) (nx (hullF l) i) q:=by
 have p:=(gC l).poly
 generalize hullF l=h at *
 rcases Nat.lt_or_ge 2 h.length with h3 | h3
 ·exact gS (p.weak hi h3) hq
 ·match h,h3,hi with
  | [a],_,hi =>
   obtain rfl:i=0:=by simpa using hi
   rw [show nx [a] 0=a by simp [nx,gp],show gp [a] 0=a from rfl,(eJ a a q).1]; exact Rat.le_refl
  | [a,b],_,hi =>
   have:=zW3 rfl hq
   rcases Nat.lt_or_ge i 1 with c | c
   ·obtain rfl:i=0:=by omega
    have:trn a b q=0:=this
    rw [show nx [a,b] 0=b by simp [nx,gp],show gp [a,b] 0=a from rfl,this]; exact Rat.le_refl
   ·obtain rfl:i=1:=by simp only [List.length_cons,List.length_nil] at hi; omega
    rw [show nx [a,b] 1=a by simp [nx,gp],show gp [a,b] 1=b from rfl]
    have:trn a b q=0:=this
    unfold trn zG subP at *; simp only at *; grind
def qB (a b:List P2):List P2:=a.flatMap fun x=>b.map fun y=>addP x y
theorem nU {a b:List P2} {q:P2}:q ∈ qB a b ↔ ∃ x ∈ a,∃ y ∈ b,q=addP x y:=by
 unfold qB; simp only [List.mem_flatMap,List.mem_map]
 exact ⟨fun ⟨x,hx,y,hy,e⟩=>⟨x,hx,y,hy,e.symm⟩,fun ⟨x,hx,y,hy,e⟩=>⟨x,hx,y,hy,e.symm⟩⟩
noncomputable def sumF (a b:List P2):List P2:=hullF (qB a b)
theorem sum_made {a b:List P2} (ha:a ≠ []) (hb:b ≠ []):hullF (outS (hullF a) (hullF b))=sumF a b:=by
 refine yB1 (fun q hq=>?_) fun q hq=>?_
 ·obtain ⟨x,hx,y,hy,rfl⟩:=out_of (fun e=>ha (cY.1 e)) (fun e=>hb (cY.1 e)) hq
  exact eO (nU.2 ⟨x,(gC a).sub x hx,y,(gC b).sub y hy,rfl⟩)
 ·obtain ⟨x,hx,y,hy,rfl⟩:=nU.1 hq
  have h:∀ {l:List P2} {x:P2},x ∈ l→setOf cmpP l ≠ []:=fun {l x} hx e=>by have:=(yT bO (l:=l)).2 hx; rw [e] at this; cases this
  exact out_sup (fP a) (fP b) (h hx) (h hy) ((yT bO).2 hx) ((yT bO).2 hy)
theorem zW5 {a b:List P2}:sumF a b=[] ↔ a=[] ∨ b=[]:=by
 unfold sumF; rw [cY]
 constructor
 ·intro h
  match a,b,h with
  | [],_,_=>exact .inl rfl
  | _ :: _,[],_=>exact .inr rfl
  | _ :: _,_ :: _,h=>simp [qB] at h
 ·rintro (rfl | rfl)
  ·rfl
  ·simp [qB]
theorem zU8:∀ (es:List P2) (a:P2),(wayS a es).length=es.length - 1
 | [],_=>rfl
 | [_],_=>rfl
 | e :: f :: l,a=>by rw [wayS,List.length_cons,zU8 (f :: l)]; simp
theorem vR:∀ C:List P2,(xG C).length=C.length - 1
 | []=>rfl
 | [_]=>rfl
 | a :: b :: r=>by rw [xG,List.length_cons,vR (b :: r)]; simp
theorem vL (h:List P2):(qE h).length=if 1 < h.length then h.length else 0:=by
 unfold qE; split
 ·rw [vR]; simp
 ·rfl
theorem out_len (h k:List P2):(outS h k).length≤max 1 (h.length + k.length):=by
 unfold outS; rw [List.length_cons,zU8,mrg_len,vL,vL]; split <;> split <;> omega
theorem sumF_len {a b:List P2} (ha:a ≠ []) (hb:b ≠ []):(sumF a b).length≤a.length + b.length:=by
 rw [← sum_made ha hb]
 have h1:=mO (outS (hullF a) (hullF b))
 have h2:=out_len (hullF a) (hullF b)
 have h3:=mO a; have h4:=mO b
 have:=List.length_pos_iff.2 ha
 omega
theorem lQ (x:Rat):0≤x * x:=by
 rcases (Rat.le_total:0≤x ∨ x≤0) with hx | hx
 ·exact Rat.mul_nonneg hx hx
 ·have:=Rat.mul_nonneg (show 0 ≤ -x by grind) (show 0 ≤ -x by grind); grind
theorem yC4 {c n:P2} (h:c ≠ n):0 < (n.1 - c.1) * (n.1 - c.1) + (n.2 - c.2) * (n.2 - c.2):=by
 have s1:=lQ (n.1 - c.1); have s2:=lQ (n.2 - c.2)
 refine Classical.byContradiction fun k=>h ?_
 have z1:(n.1 - c.1) * (n.1 - c.1)=0:=by grind
 have z2:(n.2 - c.2) * (n.2 - c.2)=0:=by grind
 exact Prod.ext_iff.2 ⟨by rcases Rat.mul_eq_zero.1 z1 with h | h <;> grind,by rcases Rat.mul_eq_zero.1 z2 with h | h <;> grind⟩
theorem seg_two {c n q:P2} (hcn:c ≠ n) (h:∀ u v:Rat,u * q.1 + v * q.2≤u * c.1 + v * c.2 ∨ u * q.1 + v * q.2≤u * n.1 + v * n.2):∃ t:Rat,0≤t∧t≤1∧q.1=c.1 + t * (n.1 - c.1)∧q.2=c.2 + t * (n.2 - c.2):=by
 have h1:=h (n.2 - c.2) (-(n.1 - c.1))
 have h2:=h (-(n.2 - c.2)) (n.1 - c.1)
 have hz:trn c n q=0:=by unfold trn zG subP; simp only; grind
 obtain ⟨t,e1,e2⟩:=fB hz hcn
 have hd:=yC4 hcn
 have h3:=h (n.1 - c.1) (n.2 - c.2)
 have h4:=h (-(n.1 - c.1)) (-(n.2 - c.2))
 rw [e1,e2] at h3 h4
 refine ⟨t,cC hd ?_,?_,e1,e2⟩
 ·grind
 ·have:=cC (x:=1 - t) hd (by grind)
  grind
theorem Poly.seg {h:List P2} (p:Poly h) (h2:2≤h.length) {i:Nat} (hi:i < h.length) {q:P2} (hq:Sup h q) :
  0 < trn (gp h i) (nx h i) q ∨ ∃ t:Rat,0≤t∧t≤1∧q.1=(gp h i).1 + t * ((nx h i).1 - (gp h i).1)∧q.2=(gp h i).2 + t * ((nx h i).2 - (gp h i).2):=by
 have hcn:gp h i ≠ nx h i:=fun e=>dZ hi h2 (dR p.nd hi (qD hi) e).symm
 rcases Nat.lt_or_ge 2 h.length with h3 | h3
 ·by_cases k:0 < trn (gp h i) (nx h i) q
  ·exact .inl k
  have w:=gS (p.weak hi h3) hq
  obtain ⟨t,e1,e2⟩:=fB (show trn (gp h i) (nx h i) q=0 by grind) hcn
  refine .inr ⟨t,?_,?_,e1,e2⟩
  ·obtain ⟨j,hj,ej⟩:=fQ hi
   have w2:=gS (p.weak hj h3) hq
   have hne:(i + 1) % h.length ≠ j:=fun e2=>by
    have h6:(j + 1) % h.length=i:=ej
    rw [← e2] at h6
    rcases Nat.lt_or_ge (i + 1) h.length with c | c
    ·rw [Nat.mod_eq_of_lt c] at h6
     rcases Nat.lt_or_ge (i + 1 + 1) h.length with d | d
     ·rw [Nat.mod_eq_of_lt d] at h6; omega
     ·rw [show i + 1 + 1=h.length by omega,Nat.mod_self] at h6; omega
    ·rw [show i + 1=h.length by omega,Nat.mod_self,Nat.mod_eq_of_lt (by omega)] at h6; omega
   have k3:=p.conv h3 j ((i + 1) % h.length) hj (qD hi) hne (by rw [ej]; exact dZ hi (by omega))
   unfold nx at *
   rw [ej] at w2 k3
   have e:trn (gp h j) (gp h i) q=trn (gp h j) (gp h i) (gp h ((i + 1) % h.length)) * t:=by unfold trn zG subP; simp only; rw [e1,e2]; grind
   rw [e] at w2
   exact cC k3 w2
  ·have w2:=gS (p.weak (qD hi) h3) hq
   have hne:((i + 1) % h.length + 1) % h.length ≠ i:=fun h6=>by
    rcases Nat.lt_or_ge (i + 1) h.length with c | c
    ·rw [Nat.mod_eq_of_lt c] at h6
     rcases Nat.lt_or_ge (i + 1 + 1) h.length with d | d
     ·rw [Nat.mod_eq_of_lt d] at h6; omega
     ·rw [show i + 1 + 1=h.length by omega,Nat.mod_self] at h6; omega
    ·rw [show i + 1=h.length by omega,Nat.mod_self,Nat.mod_eq_of_lt (by omega)] at h6; omega
   have k3:=p.conv h3 i _ hi (qD (qD hi)) hne (dZ (qD hi) h2)
   unfold nx at *
   have e:trn (gp h ((i + 1) % h.length)) (gp h (((i + 1) % h.length + 1) % h.length)) q=trn (gp h i) (gp h ((i + 1) % h.length)) (gp h (((i + 1) % h.length + 1) % h.length)) * (1 - t):=by unfold trn zG subP; simp only; rw [e1,e2]; grind
   rw [e] at w2
   have:=cC k3 w2
   grind
 ·refine .inr (seg_two hcn fun u v=>?_)
  obtain ⟨x,hx,k⟩:=hq u v
  obtain ⟨m,hm,rfl⟩:=iY hx
  by_cases c:m=i
  ·subst c; exact .inl k
  ·have:(i + 1) % h.length=m:=by
    have h5:=qD hi; have h6:=dZ hi h2; omega
   unfold nx; rw [this]; exact .inr k
theorem Poly.far {h:List P2} (p:Poly h) (h2:2≤h.length) {i:Nat} (hi:i < h.length):∃ u v:Rat,∀ q,Sup h q→q ≠ gp h i→u * (gp h i).1 + v * (gp h i).2 < u * q.1 + v * q.2:=by
 have hcn:gp h i ≠ nx h i:=fun e=>dZ hi h2 (dR p.nd hi (qD hi) e).symm
 rcases Nat.lt_or_ge 2 h.length with h3 | h3
 ·obtain ⟨j,hj,ej⟩:=fQ hi
  have hne:(i + 1) % h.length ≠ j:=fun e2=>by
   have h6:(j + 1) % h.length=i:=ej
   rw [← e2] at h6
   rcases Nat.lt_or_ge (i + 1) h.length with c | c
   ·rw [Nat.mod_eq_of_lt c] at h6
    rcases Nat.lt_or_ge (i + 1 + 1) h.length with d | d
    ·rw [Nat.mod_eq_of_lt d] at h6; omega
    ·rw [show i + 1 + 1=h.length by omega,Nat.mod_self] at h6; omega
   ·rw [show i + 1=h.length by omega,Nat.mod_self,Nat.mod_eq_of_lt (by omega)] at h6; omega
  have k3:=p.conv h3 j ((i + 1) % h.length) hj (qD hi) hne (by rw [ej]; exact dZ hi (by omega))
  have w1:=fun q hq=>gS (q:=q) (p.weak hi h3) hq
  have w2:=fun q hq=>gS (q:=q) (p.weak hj h3) hq
  unfold nx at *
  rw [ej] at w2 k3
  generalize gp h i=c at *
  generalize gp h ((i + 1) % h.length)=n at *
  generalize gp h j=r at *
  refine ⟨-((n.2 - c.2) + (c.2 - r.2)),(n.1 - c.1) + (c.1 - r.1),fun q hq hqc=>?_⟩
  have a1:=w1 q hq
  have a2:=w2 q hq
  refine Classical.byContradiction fun hn=>hqc ?_
  have z1:trn c n q=0:=by unfold trn zG subP at *; simp only at *; grind
  have z2:trn r c q=0:=by unfold trn zG subP at *; simp only at *; grind
  have e1:trn r c n * (q.1 - c.1)=0:=by unfold trn zG subP at *; simp only at *; grind
  have e2:trn r c n * (q.2 - c.2)=0:=by unfold trn zG subP at *; simp only at *; grind
  rcases Rat.mul_eq_zero.1 e1 with f | f
  ·grind
  rcases Rat.mul_eq_zero.1 e2 with g | g
  ·grind
  exact Prod.ext_iff.2 ⟨by grind,by grind⟩
 ·have hd:=yC4 hcn
  refine ⟨(nx h i).1 - (gp h i).1,(nx h i).2 - (gp h i).2,fun q hq hqc=>?_⟩
  rcases p.seg h2 hi hq with k | ⟨t,zA0,zA1,e1,e2⟩
  ·have hz:trn (gp h i) (nx h i) q=0:=by
    have hm:∀ x ∈ h,trn (gp h i) (nx h i) x=0:=fun x hx=>by
     obtain ⟨m,hm,rfl⟩:=iY hx
     by_cases c:m=i
     ·subst c; exact (eJ _ _ (gp h m)).2.1
     ·have:(i + 1) % h.length=m:=by
       have h5:=qD hi; have h6:=dZ hi h2; omega
      unfold nx; rw [this]; exact (eJ _ _ (gp h m)).2.2
    have a1:=gS (s:=gp h i) (t:=nx h i) (fun x hx=>by rw [hm x hx]; exact Rat.le_refl) hq
    have a2:=gS (s:=nx h i) (t:=gp h i) (fun x hx=>by have:=hm x hx; unfold trn zG subP at *; simp only at *; grind) hq
    unfold trn zG subP at *; simp only at *; grind
   rw [hz] at k; exact absurd k (by grind)
  ·have tp:0 < t:=Classical.byContradiction fun c=>hqc (by
    have:t=0:=by grind
    rw [Prod.ext_iff,e1,e2,this]; constructor <;> grind)
   have:=Rat.mul_pos tp hd
   rw [e1,e2]; grind
def qO (a best x:P2):P2:=if x=a then best else if best=a then x else if trn a best x < 0 ∨ trn a best x=0∧farP a best < farP a x then x else best
def eY (l:List P2) (a:P2):P2:=l.foldl (qO a) a
theorem far_seg {c n q:P2} {t:Rat} (ht:0≤t) (e1:q.1=c.1 + t * (n.1 - c.1)) (e2:q.2=c.2 + t * (n.2 - c.2)):farP c q=t * farP c n:=by
 have h:∀ x:Rat,absR (t * x)=t * absR x:=fun x=>by
  unfold absR
  by_cases c1:x < 0
  ·rw [if_pos c1]
   by_cases c2:t * x < 0
   ·rw [if_pos c2]; grind
   ·rw [if_neg c2]; have:=Rat.mul_nonneg ht (show 0 ≤ -x by grind); grind
  ·rw [if_neg c1,if_neg]; have:=Rat.mul_nonneg ht (show 0≤x by grind); grind
 unfold farP
 rw [e1,e2,show c.1 - (c.1 + t * (n.1 - c.1))=t * (c.1 - n.1) by grind,show c.2 - (c.2 + t * (n.2 - c.2))=t * (c.2 - n.2) by grind,h,h]; grind
theorem far_pos {c n:P2} (h:c ≠ n):0 < farP c n:=by
 have k:∀ x:Rat,0≤absR x∧(absR x=0→x=0):=fun x=>by unfold absR; split <;> grind
 unfold farP
 have a:=k (c.1 - n.1); have b:=k (c.2 - n.2)
 refine Classical.byContradiction fun z=>h (Prod.ext_iff.2 ⟨?_,?_⟩)
 ·have:=a.2 (by grind); grind
 ·have:=b.2 (by grind); grind
theorem yP6 {c:P2} {u v:Rat}:∀ (l pre:List P2) (best:P2),(∀ q ∈ pre ++ l,q ≠ c→u * c.1 + v * c.2 < u * q.1 + v * q.2) →
  ((best=c∧∀ q ∈ pre,q=c) ∨ best ∈ pre∧best ≠ c∧∀ q ∈ pre,q ≠ c→0 < trn c best q ∨ trn c best q=0∧farP c q≤farP c best) →
  (l.foldl (qO c) best=c∧∀ q ∈ pre ++ l,q=c) ∨ l.foldl (qO c) best ∈ pre ++ l∧l.foldl (qO c) best ≠ c∧∀ q ∈ pre ++ l,q ≠ c→0 < trn c (l.foldl (qO c) best) q ∨ trn c (l.foldl (qO c) best) q=0∧farP c q≤farP c (l.foldl (qO c) best)
 | [],pre,best,_,h=>by simpa using h
 | x :: l,pre,best,hf,h=>by
  have key:=yP6 l (pre ++ [x]) (qO c best x) (by simpa using hf) ?_
  ·simpa using key
  unfold qO
  by_cases hx:x=c
  ·rw [if_pos hx]
   rcases h with ⟨h1,h2⟩ | ⟨h1,h2,h3⟩
   ·refine .inl ⟨h1,fun q hq=>?_⟩
    rcases List.mem_append.1 hq with hq | hq
    ·exact h2 q hq
    ·rw [List.mem_singleton.1 hq,hx]
   ·refine .inr ⟨List.mem_append_left _ h1,h2,fun q hq hqc=>?_⟩
    rcases List.mem_append.1 hq with hq | hq
    ·exact h3 q hq hqc
    ·exact absurd ((List.mem_singleton.1 hq).trans hx) hqc
  rw [if_neg hx]
  rcases h with ⟨h1,h2⟩ | ⟨h1,h2,h3⟩
  ·rw [if_pos h1]
   refine .inr ⟨by simp,hx,fun q hq hqc=>?_⟩
   rcases List.mem_append.1 hq with hq | hq
   ·exact absurd (h2 q hq) hqc
   ·rw [List.mem_singleton.1 hq]; exact .inr ⟨(eJ c x x).2.2,Rat.le_refl⟩
  rw [if_neg h2]
  have fx:=hf x (by simp) hx
  have fb:=hf best (by simp [h1]) h2
  by_cases hb:trn c best x < 0 ∨ trn c best x=0∧farP c best < farP c x
  ·rw [if_pos hb]
   refine .inr ⟨by simp,hx,fun q hq hqc=>?_⟩
   rcases List.mem_append.1 hq with hq | hq
   ·have fq:=hf q (by simp [hq]) hqc
    have e:((u * best.1 + v * best.2) - (u * c.1 + v * c.2)) * trn c x q=((u * x.1 + v * x.2) - (u * c.1 + v * c.2)) * trn c best q + ((u * q.1 + v * q.2) - (u * c.1 + v * c.2)) * -trn c best x:=by unfold trn zG subP; simp only; grind
    have pb:0 < (u * best.1 + v * best.2) - (u * c.1 + v * c.2):=by grind
    have px:0 < (u * x.1 + v * x.2) - (u * c.1 + v * c.2):=by grind
    have pq:0 < (u * q.1 + v * q.2) - (u * c.1 + v * c.2):=by grind
    generalize (u * best.1 + v * best.2) - (u * c.1 + v * c.2)=B at *
    generalize (u * x.1 + v * x.2) - (u * c.1 + v * c.2)=Xx at *
    generalize (u * q.1 + v * q.2) - (u * c.1 + v * c.2)=Q at *
    rcases h3 q hq hqc with g | ⟨g,g2⟩
    ·refine .inl (fS pb ?_)
     have m1:=Rat.mul_pos px g
     have m2:=Rat.mul_nonneg (Rat.le_of_lt pq) (show 0 ≤ -trn c best x by grind)
     grind
    ·rcases hb with hb | ⟨hb,hb2⟩
     ·refine .inl (fS pb ?_)
      have m2:=Rat.mul_pos pq (show 0 < -trn c best x by grind)
      rw [e,g]; grind
     ·refine .inr ⟨?_,Rat.le_trans g2 (Rat.le_of_lt hb2)⟩
      have:B * trn c x q=0:=by rw [e,g,hb]; grind
      rcases Rat.mul_eq_zero.1 this with z | z
      ·rw [z] at pb; exact absurd pb (by grind)
      ·exact z
   ·rw [List.mem_singleton.1 hq]; exact .inr ⟨(eJ c x x).2.2,Rat.le_refl⟩
  ·rw [if_neg hb]
   refine .inr ⟨List.mem_append_left _ h1,h2,fun q hq hqc=>?_⟩
   rcases List.mem_append.1 hq with hq | hq
   ·exact h3 q hq hqc
   ·rw [List.mem_singleton.1 hq]
    by_cases z:trn c best x=0
    ·exact .inr ⟨z,by grind⟩
    ·exact .inl (by grind)
theorem next_ok {l:List P2} (h2:2≤(hullF l).length) {i:Nat} (hi:i < (hullF l).length):eY l (gp (hullF l) i)=nx (hullF l) i:=by
 have k:=gC l
 obtain ⟨u,v,hf⟩:=k.poly.far h2 hi
 have hcn:gp (hullF l) i ≠ nx (hullF l) i:=fun e=>dZ hi h2 (dR k.poly.nd hi (qD hi) e).symm
 have hn:=k.sub _ (gD (qD hi))
 have key:=yP6 (c:=gp (hullF l) i) (u:=u) (v:=v) l [] (gp (hullF l) i) (fun q hq hqc=>hf q (k.sup q (by simpa using hq)) hqc) (.inl ⟨rfl,by simp⟩)
 rw [List.nil_append] at key
 change ((eY l (gp (hullF l) i))=_∧_) ∨ (eY l (gp (hullF l) i)) ∈ l∧(eY l (gp (hullF l) i)) ≠ _∧∀ q ∈ l,q ≠ _→0 < trn _ (eY l (gp (hullF l) i)) q ∨ trn _ (eY l (gp (hullF l) i)) q=0∧_≤farP _ (eY l (gp (hullF l) i)) at key
 generalize eY l (gp (hullF l) i)=best at *
 rcases key with ⟨_,h⟩ | ⟨h3,h4,h5⟩
 ·exact absurd (h _ hn).symm hcn
 have g:=h5 _ hn (Ne.symm hcn)
 have hs:=k.poly.seg h2 hi (k.sup best h3)
 unfold nx at *
 generalize gp (hullF l) i=c at *
 generalize gp (hullF l) ((i + 1) % (hullF l).length)=n at *
 have e0:trn c best n = -trn c n best:=by unfold trn zG subP; simp only; grind
 rcases hs with hs | ⟨t,zA0,zA1,e1,e2⟩
 ·rw [e0] at g; grind
 ·have ez:trn c n best=0:=by unfold trn zG subP; simp only; rw [e1,e2]; grind
  rcases g with g | ⟨_,g⟩
  ·rw [e0,ez] at g; exact absurd g (by grind)
  ·rw [far_seg zA0 e1 e2] at g
   have fp:=far_pos hcn
   have:t=1:=by
    refine Classical.byContradiction fun c0=>?_
    have:=Rat.mul_pos (show 0 < 1 - t by grind) fp
    grind
   rw [Prod.ext_iff,e1,e2,this]; constructor <;> grind
end Go.SL
set_option maxHeartbeats 4000000
namespace Go.Proofs.YtalkinejknjidaaGreatDoor
open Go.SL Go.RowKit Go.Proofs Tryz
section
variable {Ψ Φ : PV} {n m N : Nat} {p q : P2} {a b : List P2}
theorem vpt_pl [h:VPt Ψ n a] {M:Nat→Prop} {w:World} {v:Value} (h1:Ψ.p M w v):∀ x ∈ a,plen x (n + 1):=fun x hx=>by
 obtain ⟨cs,h3,h2⟩:=(h.h h1).row
 obtain ⟨i,hi,rfl⟩:=List.mem_iff_getElem.1 hx
 obtain ⟨us,_,_,s,x,d,t,b,e,_,g⟩:=h2 i _ (List.getElem?_eq_getElem hi)
 exact ⟨g.x.rlen,g.y.rlen⟩
end
theorem wR {k:Nat}:PSub (exP (.slice none 0 0)) (sv (sl k [])):=fun M w v h=>by
 obtain rfl:v = .slice none 0 0:=h
 exact ⟨_,[],rfl,⟨by simp,by simp,none,0,rfl,Nat.le_refl _,.inl rfl⟩,rfl,by simp [kG]⟩
end Go.Proofs.YtalkinejknjidaaGreatDoor
set_option maxHeartbeats 4000000
namespace Go.Proofs.YtalkinejknjidaaGreatDoor
open Go.SL Go.RowKit Go.Proofs Tryz
theorem k5ofn {k:Nat} (h0:0 < k) (hk:k < 1000000):CTy prog 117 [exP (.int .i64 (-((k:Nat):Int)))] (ag (ztc 2 (-((k:Nat):Int)))):=by
 refine fw [.cell 2 27] func117 fun X=>?_
 iterate 2 refine u ?_
 refine u fun b2=>?_
 repeat refine u ?_
 refine ti (fun c0=>?_) fun c0=>?_
 repeat refine u ?_
 refine zA1 (bH (ong rfl (fun _=>by omega)) (ps_i (show -(-((k:Nat):Int) + 1)=(((k - 1:Nat)):Int) by omega))) ?_
 refine u ?_
 refine zA1 (bH (oadv rfl rfl (by omega)) (ps_i (show (((k - 1 + 1:Nat)):Int)=((k:Nat):Int) by omega))) (zA1 (oca rfl rfl fun _=>k1of (n:=k) (by omega)) ?_)
 repeat refine u ?_
 refine tst 0 rfl rfl rfl rfl rfl rfl ?_
 repeat refine u ?_
 refine ⟨[_],rsc 0 rfl rfl rfl rfl rs0,xJ ?_⟩
 rotate_left 1
 repeat refine u ?_
 rotate_left 1
 ·exact ps_z (decide_eq_true (by omega)).symm (by omega) (limbs2 (by omega))
 ·exact absurd (by omega:(-(k:Int)) < 0) (df c0)
theorem sub_nought (p:P2):subP (((0:Nat):Rat),((0:Nat):Rat)) p=negP p:=by
 unfold subP negP; rw [Prod.ext_iff]; constructor <;> simp only <;> grind
theorem k8neg {Ψ:PV} {p:P2} {n:Nat} [h:QP Ψ n p] (hn:n≤800):CTy prog 256 [Ψ] (ag (ptc (n + 5) (negP p))):=by
 refine yG (σs:=[ag (ptq n p)]) ?_ (fs1 qp_q fs0)
 refine fw [.cell 2 39] func256 fun X=>?_
 iterate 3 refine u ?_
 refine u fun b2=>?_
 iterate 2 refine u ?_
 refine zL 3 mixed rfl rfl ?_
 repeat refine u ?_
 refine d1 (oca rfl rfl fun _=>k8of (by (simp; done)) (by (simp; done))) ?_
 repeat refine u ?_
 refine d1 (oca rfl rfl fun _=>kL (by omega) (by omega)) ?_
 repeat refine u ?_
 refine tst 0 rfl rfl rfl rfl rfl rfl ?_
 repeat refine u ?_
 refine ⟨[_],rsc 0 rfl rfl rfl rfl rs0,xJ ?_⟩
 exact pX (p:=subP (((0:Nat):Rat),((0:Nat):Rat)) p) (sub_nought p) (by omega)
end Go.Proofs.YtalkinejknjidaaGreatDoor
set_option maxHeartbeats 4000000
namespace Go.Proofs.YtalkinejknjidaaGreatDoor
open Go.SL Go.RowKit Go.Proofs Tryz
theorem pcx_n {n:Nat} {l:List PX} (h:∀ a ∈ l,big2 a≤n):PSub (sv (pcx l)) (sv (pcs n (l.map px))):=fun M w v k=>by
 unfold pcx pcs at *
 rw [List.map_map]
 exact sJ (f:=ptx) (g:=ptq n ∘ px) (fun a ha _ _ _=>by
  have:=h a ha
  unfold big2 m4 at this
  dsimp only at this
  exact yM6 a (by omega) (by omega) (by omega) (by omega)) (fun _=>rfl) k
end Go.Proofs.YtalkinejknjidaaGreatDoor
set_option maxHeartbeats 4000000
namespace Go.Proofs.YtalkinejknjidaaGreatDoor
open Go.SL Go.RowKit Go.Proofs Tryz
theorem sum_len' (a b:List P2):(sumF a b).length≤a.length + b.length:=by
 by_cases ha:a=[]
 ·rw [zW5.2 (.inl ha)]; simp
 by_cases hb:b=[]
 ·rw [zW5.2 (.inr hb)]; simp
 exact sumF_len ha hb
end Go.Proofs.YtalkinejknjidaaGreatDoor
set_option maxHeartbeats 4000000
namespace Go.Proofs.YtalkinejknjidaaGreatDoor
open Go.SL Go.RowKit Go.Proofs Tryz
instance:TAr prog 100 3 6:=⟨_,_,_,_,_,underlying100,sz39,yG1,rfl⟩
end Go.Proofs.YtalkinejknjidaaGreatDoor
set_option maxHeartbeats 4000000
namespace Go.Proofs.YtalkinejknjidaaGreatDoor
open Go.SL Go.RowKit Go.Proofs Tryz
theorem cp_q {c:CT} {n:Nat} {q:P2} [h:CP c n q] {M:Nat→Prop} {w:World} {us:List Value} (k:c.p M w us):(ptq n q).p M w us:=by
 obtain ⟨us',e,k'⟩:=qp_q (Ψ:=ag c) (n:=n) (q:=q) M w (.agg us.toArray) ⟨us,rfl,k⟩
 have:us=us':=by simpa using e
 rw [this]; exact k'
theorem tri_q {c1 c2 c3:CT} {m:Nat} {a b c:P2} [h1:CP c1 m a] [h2:CP c2 m b] [h3:CP c3 m c]:PSub (ag (st [c1,c2,c3])) (ag (st [ptq m a,ptq m b,ptq m c])):=fun M w v ⟨us,e,x,y,e1,k1,x2,y2,e2,k2,x3,y3,e3,k3,k4⟩ =>
 ⟨us,e,x,y,e1,cp_q k1,x2,y2,e2,cp_q k2,x3,y3,e3,cp_q k3,k4⟩
theorem k18corn {n:Nat} {a b c:P2}:CTy prog 97 [ag (st [ptq n a,ptq n b,ptq n c])] (sv (sl 6 ([a,b,c].map (ptq n)))):=by
 refine fw [.tmp 2] func97 fun X=>?_
 repeat refine u ?_
 refine zA1 (oia 0 rfl rfl rfl rfl rfl) ?_
 repeat refine u ?_
 refine zA1 (oia 1 rfl rfl rfl rfl rfl) ?_
 repeat refine u ?_
 refine zA1 (oia 2 rfl rfl rfl rfl rfl) ?_
 repeat refine u ?_
 exact e
theorem yH0 {d:PX} {n:Nat} (h:big2 d≤n) {M:Nat→Prop} {w:World} {us:List Value} (k:(ptx d).p M w us):(ptq n (px d)).p M w us:=by
 unfold big2 m4 at h
 dsimp only at h
 exact yM6 d (by omega) (by omega) (by omega) (by omega) k
theorem trx_c {a b c:PX} {n:Nat} (h1:big2 a≤n) (h2:big2 b≤n) (h3:big2 c≤n):∀ M w us,(st [ptx a,ptx b,ptx c]).p M w us→(st [ptq n (px a),ptq n (px b),ptq n (px c)]).p M w us:=fun M w us ⟨x,y,e1,k1,x2,y2,e2,k2,x3,y3,e3,k3,k4⟩ =>
 ⟨x,y,e1,yH0 h1 k1,x2,y2,e2,yH0 h2 k2,x3,y3,e3,yH0 h3 k3,k4⟩
theorem k18cornc {c1 c2 c3:CT} {m:Nat} {a b c:P2} [h1:CP c1 m a] [h2:CP c2 m b] [h3:CP c3 m c]:CTy prog 97 [ag (st [c1,c2,c3])] (sv (sl 6 ([a,b,c].map (ptq m)))):=yG k18corn (fs1 tri_q fs0)
end Go.Proofs.YtalkinejknjidaaGreatDoor
set_option maxHeartbeats 4000000
namespace Go.Proofs.YtalkinejknjidaaGreatDoor
open Go.SL Go.RowKit Go.Proofs Tryz
abbrev TX3:=PX × PX × PX
def trx (t:TX3):CT:=st [ptx t.1,ptx t.2.1,ptx t.2.2]
def trl (t:TX3):List PX:=[t.1,t.2.1,t.2.2]
instance:Df TX3:=⟨(Df.d,Df.d,Df.d)⟩
end Go.Proofs.YtalkinejknjidaaGreatDoor
set_option maxHeartbeats 4000000
namespace Go.Proofs.YtalkinejknjidaaGreatDoor
open Go.SL Go.RowKit Go.Proofs Tryz
theorem yO7 {Ψ:PV} {p:Rat} {n:Nat} [h:QR Ψ n p] (hn:n≤900):CTy prog 191 [Ψ] (ag (rtc (n + 5) (absR p))):=by
 refine yG (σs:=[ag (rtq n p)]) ?_ (fs1 qr_q fs0)
 refine fw [.cell 2 29] func191 fun X=>?_
 iterate 3 refine u ?_
 refine u fun b2=>?_
 repeat refine u ?_
 refine zA1 (oca rfl rfl fun _=>rT (by omega)) ?_
 repeat refine u ?_
 refine ti (fun c0=>?_) fun c0=>?_
 refine u ?_
 refine zL 3 mixed rfl rfl ?_
 repeat refine u ?_
 refine d1 (oca rfl rfl fun _=>k7of (by (simp; done))) ?_
 repeat refine u ?_
 refine d1 (oca rfl rfl fun _=>zO5 (by omega) (by omega)) ?_
 repeat refine u ?_
 refine e ?_
 rotate_left 1
 repeat refine u ?_
 refine zA1 (oca rfl rfl fun _=>bK (by omega)) ?_
 repeat refine u ?_
 refine e ?_
 rotate_left 1
 ·have h:=oV.1 (dt c0)
  exact bC (by omega) (by unfold absR; rw [if_pos h]; grind)
 ·have h:¬ p < 0:=fun k=>df c0 (oV.2 k)
  exact bC (by omega) (by unfold absR; rw [if_neg h])
theorem k20turn {Ψ Φ Θ:PV} {a b c:P2} {n m k:Nat} [h1:QP Ψ n a] [h2:QP Φ m b] [h3:QP Θ k c] (hn:n≤90) (hm:m≤90) (hk:k≤90):CTy prog 344 [Ψ,Φ,Θ] (exP (.int .i64 (sgnR (trn a b c)))):=by
 refine yG (σs:=[ag (ptq n a),ag (ptq m b),ag (ptq k c)]) ?_ (fs1 qp_q (fs1 qp_q (fs1 qp_q fs0)))
 refine fw [.tmp 6] func344 fun X=>?_
 iterate 8 refine u ?_
 refine zL 9 mixed rfl rfl ?_
 repeat refine u ?_
 refine d1 (oca rfl rfl fun _=>kL (by omega) (by omega)) ?_
 repeat refine u ?_
 refine d1 (oca rfl rfl fun _=>kL (by omega) (by omega)) ?_
 refine d1 (oca rfl rfl fun _=>pB (by omega) (by omega)) ?_
 refine d1 (oca rfl rfl fun _=>rT (by omega)) ?_
 repeat refine u ?_
 exact e
theorem yO6 {Ψ Φ:PV} {a b:P2} {n m:Nat} [h1:QP Ψ n a] [h2:QP Φ m b] (hn:n≤90) (hm:m≤90):CTy prog 116 [Ψ,Φ] (ag (rtc (2 * (n + m + 8) + 8) (farP a b))):=by
 refine yG (σs:=[ag (ptq n a),ag (ptq m b)]) ?_ (fs1 qp_q (fs1 qp_q fs0))
 refine fw [.cell 4 29] func116 fun X=>?_
 iterate 4 refine u ?_
 refine u fun b4=>?_
 repeat refine u ?_
 refine zA1 (oca rfl rfl fun _=>kL (by omega) (by omega)) ?_
 refine u fun b5=>?_
 refine tst 0 rfl rfl rfl rfl rfl rfl (yD (xR (s:=5) 0 rfl rfl) ?_)
 iterate 2 refine u ?_
 refine zL 8 mixed rfl rfl ?_
 repeat refine u ?_
 refine d1 (oca rfl rfl fun _=>yO7 (by omega)) ?_
 repeat refine u ?_
 refine d1 (oca rfl rfl fun _=>yO7 (by omega)) ?_
 repeat refine u ?_
 refine d1 (oca rfl rfl fun _=>vF (by omega)) ?_
 repeat refine u ?_
 refine tst 0 rfl rfl rfl rfl rfl rfl ?_
 repeat refine u ?_
 refine ⟨[_],rsc 0 rfl rfl rfl rfl rs0,xJ ?_⟩
 exact bC (by omega) rfl
theorem k20next {l:List P2} {a:P2} {n:Nat} (hn:n≤90) (hl:l.length≤1000):CTy prog 309 [sv (sl 6 (l.map (ptc n))),ag (ptc n a)] (ag (ptc n (eY l a))):=by
 refine fw [.cell 4 39] func309 fun X=>?_
 iterate 3 refine u ?_
 refine u fun b4=>?_
 iterate 4 refine u ?_
 refine u fun b5=>?_
 refine tst 0 rfl rfl rfl rfl rfl rfl ?_
 repeat refine u ?_
 have step:∀ i,i < l.length→(l.take (i + 1)).foldl (qO a) a=qO a ((l.take i).foldl (qO a) a) (gp l i):=fun i hi=>by
  rw [(zU (Df.d:P2) hi).1,List.foldl_append]; rfl
 refine lp (σ:=Nat) [0,3,4,5] (fun i=>[(6,True,exP (.int .i64 ((i:Nat):Int)))]) (fun i=>[.blk b5 39 [ptc n ((l.take i).foldl (qO a) a)],.blk b4 39 (zc (.agg #[.bool false,.slice none 0 0,.slice none 0 0,.bool false,.slice none 0 0,.slice none 0 0]))]) (fun i=>i≤l.length) (fun i=>l.length - i) (0) ((by simp)) fun i hJ Y _=>?_
 generalize hb:(l.take i).foldl (qO a) a=best
 repeat refine u ?_
 refine ti (fun c0=>?_) fun c0=>?_
 iterate 5 refine u ?_
 refine zL 6 mixed rfl rfl ?_
 repeat refine u ?_
 refine d1 (oix _ rfl rfl rfl (fun _=>rfl) (fun _=>(by (have e0:=dt c0; omega)))) ?_
 repeat refine u ?_
 refine d1 (oca rfl rfl fun _=>pA (by omega) (by omega)) ?_
 repeat refine u ?_
 refine ti (fun c1=>?_) fun c1=>?_
 repeat refine u ?_
 rotate_left 1
 repeat refine u ?_
 refine zA1 (oca rfl rfl fun _=>pA (by omega) (by omega)) ?_
 repeat refine u ?_
 refine ti (fun c2=>?_) fun c2=>?_
 repeat refine u ?_
 refine zA1 (oix _ rfl rfl rfl (fun _=>rfl) (fun _=>(by (have e0:=dt c0; have e1:=df c1; have e2:=dt c2; omega)))) ?_
 repeat refine u ?_
 refine tst 0 rfl rfl rfl rfl rfl rfl ?_
 repeat refine u ?_
 rotate_left 1
 iterate 2 refine u ?_
 refine zL 8 mixed rfl rfl ?_
 repeat refine u ?_
 refine d1 (oix _ rfl rfl rfl (fun _=>rfl) (fun _=>(by (have e0:=dt c0; have e1:=df c1; have e2:=df c2; omega)))) ?_
 repeat refine u ?_
 refine d1 (oca rfl rfl fun _=>k20turn (by omega) (by omega) (by omega)) ?_
 iterate 5 refine u ?_
 refine zL 19 mixed rfl rfl ?_
 repeat refine u ?_
 refine d1g rfl rfl (oca rfl rfl fun g=>yO6 (by omega) (by omega)) ?_
 repeat refine u ?_
 refine d1g rfl rfl (oix _ rfl rfl rfl (fun g=>rfl) (fun g=>(by (have e0:=dt c0; have e1:=df c1; have e2:=df c2; omega)))) ?_
 repeat refine u ?_
 refine d1g rfl rfl (oca rfl rfl fun g=>yO6 (by omega) (by omega)) ?_
 refine d1g rfl rfl (oca rfl rfl fun g=>iN (by omega) (by omega)) ?_
 repeat refine u ?_
 refine ti (fun c3=>?_) fun c3=>?_
 repeat refine u ?_
 refine zA1 (omv rfl) ?_
 refine zA1 (omv rfl) ?_
 refine zA1 (oix _ rfl rfl rfl (fun _=>rfl) (fun _=>(by (have e0:=dt c0; have e1:=df c1; have e2:=df c2; omega)))) ?_
 repeat refine u ?_
 refine tst 0 rfl rfl rfl rfl rfl rfl ?_
 repeat refine u ?_
 refine zA1 (omv rfl) ?_
 repeat refine u ?_
 rotate_left 1
 repeat refine u ?_
 rotate_left 1
 repeat refine u ?_
 refine tst 1 rfl rfl rfl rfl rfl rfl ?_
 repeat refine u ?_
 refine ⟨[_],rsc 1 rfl rfl rfl rfl rs0,xJ ?_⟩
 rotate_left 1
 ·have e:(l.take (i + 1)).foldl (qO a) a=best:=by
   rw [step i (by have:=dt c0; omega),hb]; unfold qO; rw [if_pos (show gp l i=a from jU.1 (dt c1))]
  refine ⟨i + 1,tes ?_ ?_ ?_,(by (have e0:=dt c0; have e1:=dt c1; omega)),(by (have e0:=dt c0; have e1:=dt c1; omega))⟩
  refine tc rfl (ps_r _) (tn)
  refine tc rfl (ps_r _) (tc rfl (ps_r _) (tc rfl (ps_r _) (tc rfl (ps_r _) (tn))))
  rw [e]; exact List.Sublist.refl _
 ·have h1:¬ gp l i=a:=fun c=>df c1 (jU.2 c)
  have e:(l.take (i + 1)).foldl (qO a) a=gp l i:=by
   rw [step i (by have:=dt c0; omega),hb]; unfold qO; rw [if_neg h1,if_pos (show best=a from jU.1 (dt c2))]
  refine ⟨i + 1,tes ?_ ?_ ?_,(by (have e0:=dt c0; have e1:=df c1; have e2:=dt c2; omega)),(by (have e0:=dt c0; have e1:=df c1; have e2:=dt c2; omega))⟩
  refine tc rfl (ps_r _) (tn)
  refine tc rfl (ps_r _) (tc rfl (ps_r _) (tc rfl (ps_r _) (tc rfl (ps_r _) (tn))))
  rw [e]; exact List.Sublist.refl _
 ·have h1:¬ gp l i=a:=fun c=>df c1 (jU.2 c)
  have h2:¬ best=a:=fun c=>df c2 (jU.2 c)
  have h3:trn a best (gp l i) < 0 ∨ trn a best (gp l i)=0∧farP a best < farP a (gp l i):=by
   have h:=c3.h
   rw [Bool.or_eq_true,Bool.and_eq_true,decide_eq_true_eq,decide_eq_true_eq,decide_eq_true_eq,oV,fO,xT] at h
   exact h
  have e:(l.take (i + 1)).foldl (qO a) a=gp l i:=by
   rw [step i (by have:=dt c0; omega),hb]; unfold qO; rw [if_neg h1,if_neg h2,if_pos h3]
  refine ⟨i + 1,tes ?_ ?_ ?_,(by (have e0:=dt c0; have e1:=df c1; have e2:=df c2; omega)),(by (have e0:=dt c0; have e1:=df c1; have e2:=df c2; omega))⟩
  refine tc rfl (ps_r _) (tn)
  refine tc rfl (ps_r _) (tc rfl (ps_r _) (tc rfl (ps_r _) (tc rfl (ps_r _) (tn))))
  rw [e]; exact List.Sublist.refl _
 ·have h1:¬ gp l i=a:=fun c=>df c1 (jU.2 c)
  have h2:¬ best=a:=fun c=>df c2 (jU.2 c)
  have h3:¬ (trn a best (gp l i) < 0 ∨ trn a best (gp l i)=0∧farP a best < farP a (gp l i)):=by
   have h:=c3.h
   rw [Bool.or_eq_false_iff,Bool.and_eq_false_iff,decide_eq_false_iff_not,decide_eq_false_iff_not,decide_eq_false_iff_not,oV,fO,xT] at h
   exact fun k=>k.elim h.1 fun k=>h.2.elim (fun h=>h k.1) fun h=>h k.2
  have e:(l.take (i + 1)).foldl (qO a) a=best:=by
   rw [step i (by have:=dt c0; omega),hb]; unfold qO; rw [if_neg h1,if_neg h2,if_neg h3]
  refine ⟨i + 1,tes ?_ ?_ ?_,(by (have e0:=dt c0; have e1:=df c1; have e2:=df c2; omega)),(by (have e0:=dt c0; have e1:=df c1; have e2:=df c2; omega))⟩
  refine tc rfl (ps_r _) (tn)
  refine tc rfl (ps_r _) (tc rfl (ps_r _) (tc rfl (ps_r _) (tc rfl (ps_r _) (tn))))
  rw [e]; exact List.Sublist.refl _
 ·have:=df c0
  rw [← hb,List.take_of_length_le (by omega)]; exact PSub.refl _
end Go.Proofs.YtalkinejknjidaaGreatDoor
set_option maxHeartbeats 4000000
namespace Go.Proofs.YtalkinejknjidaaGreatDoor
open Go.SL Go.RowKit Go.Proofs Tryz
theorem zW4 {x q:P2} (h:Sup [x] q):q=x:=by
 have e:∀ u v:Rat,u * q.1 + v * q.2≤u * x.1 + v * x.2:=fun u v=>by
  obtain ⟨c,hc,h⟩:=h u v
  rw [List.mem_singleton] at hc
  rw [hc] at h; exact h
 have a:=e 1 0
 have b:=e (-1) 0
 have c:=e 0 1
 have d:=e 0 (-1)
 rw [Prod.ext_iff]
 constructor <;> grind
theorem mN (l:List P2):hullF (setOf cmpP l)=hullF l:=hull_congr fun q=>yT bO
theorem hull_few {l:List P2} (h:(setOf cmpP l).length < 2):setOf cmpP l=hullF l:=by
 unfold hullF uN
 rw [if_pos (by omega)]
theorem hull_two {l:List P2} (h:2≤(setOf cmpP l).length):2≤(hullF l).length:=by
 have ok:=gC l
 refine Nat.le_of_not_lt fun c=>?_
 match hs:setOf cmpP l,h with
 | x :: y :: r,_ =>
  have hp:=fP l
  rw [hs] at hp
  have hxy:=(List.pairwise_cons.1 hp).1 y (by simp)
  have hx:x ∈ l:=(yT bO).1 (by rw [hs]; simp)
  have hy:y ∈ l:=(yT bO).1 (by rw [hs]; simp)
  match he:hullF l,c with
  | [],_=>rw [cY] at he; rw [he] at hx; cases hx
  | [z],_ =>
   have h1:=ok.sup _ hx
   have h2:=ok.sup _ hy
   rw [he] at h1 h2
   have h1:=zW4 h1
   have h2:=zW4 h2
   exact hxy.ne (h1.trans h2.symm)
  | _ :: _ :: _,c=>simp only [List.length_cons] at c; omega
theorem set_fst {l:List P2} (h:l ≠ []):gp (setOf cmpP l) 0=gp (hullF l) 0:=by
 have ok:=gC l
 have hn:hullF l ≠ []:=fun c=>h (cY.1 c)
 have h1:gp (hullF l) 0 ∈ setOf cmpP l:=(yT bO).2 (ok.sub _ (gD (List.length_pos_iff.2 hn)))
 match hs:setOf cmpP l,h1 with
 | x :: r,h1 =>
  have hp:=fP l
  rw [hs] at hp
  have hx:x ∈ l:=(yT bO).1 (by rw [hs]; simp)
  have h2:=hull_fst _ hx
  show x=_
  rcases List.mem_cons.1 h1 with e | e
  ·exact e.symm
  ·have h3:=(List.pairwise_cons.1 hp).1 _ e
   exfalso
   generalize gp (hullF l) 0=y at *
   exact (eB h2 h3).ne rfl
end Go.Proofs.YtalkinejknjidaaGreatDoor
set_option maxHeartbeats 4000000
namespace Go.Proofs.YtalkinejknjidaaGreatDoor
open Go.SL Go.RowKit Go.Proofs Tryz
theorem k20hull {l:List P2} {n:Nat} (hn:n≤80) (hl:l.length≤100) (h1:∀ x ∈ l,plen x (n + 1)):CTy prog 255 [sv (sl 6 (l.map (ptq n)))] (sv (sl 6 ((hullF l).map (ptc (n + 1))))):=by
 refine fw [.tmp 2] func255 fun X=>?_
 repeat refine u ?_
 refine xS (σ:=Nat) (fun i=>[(4,True,exP (.int .i64 ((i:Nat):Int))),(3,True,sv (sl 6 ((setOf cmpP (l.take i)).map (ptc (n + 1)))))]) (fun i=>[]) (fun i=>i≤l.length) (fun i=>l.length - i) (0) (tk 0 rfl (tk 2 rfl tn)) ?_ rfl ((by omega)) (fun i hJ Y _=>?_)
 refine tc rfl (ps_r _) ?_
 refine tc rfl ?_ ?_
 rotate_left 1
 refine tn
 rotate_left 1
 ·rw [List.take_zero,show setOf cmpP ([]:List P2)=[] from List.length_eq_zero_iff.1 (Nat.le_zero.1 (gJ bO [])),List.map_nil]; exact wR
 have hsl:∀ i,(setOf cmpP (l.take i)).length≤100:=fun i=>Nat.le_trans (gJ bO _) (by rw [List.length_take]; omega)
 have hsl2:(setOf cmpP l).length≤100:=Nat.le_trans (gJ bO _) hl
 repeat refine u ?_
 refine ti (fun c0=>?_) fun c0=>?_
 repeat refine u ?_
 refine zA1 (oix _ rfl rfl rfl (fun _=>rfl) (fun _=>(by (have e0:=dt c0; omega)))) ?_
 repeat refine u ?_
 refine zA1 (oca rfl rfl fun _=>zT5 (by omega) (by omega) ?_ ?_) ?_
 rotate_left 1
 rotate_left 1
 repeat refine u ?_
 rotate_left 1
 repeat refine u ?_
 refine ti (fun c1=>?_) fun c1=>?_
 repeat refine u ?_
 refine e ?_
 rotate_left 1
 repeat refine u ?_
 refine zA1 (oix _ rfl rfl rfl (fun _=>rfl) (fun _=>(by (have e0:=df c1; simp; omega)))) ?_
 refine u ?_
 refine tbs rfl rfl rfl rfl rfl rfl fun r27=>?_
 repeat refine u ?_
 rotate_left 1
 ·exact Nat.le_trans (hsl i) (by omega)
 ·have h:=h1 _ (gD (h:=l) (i:=i) (by have:=dt c0; omega))
  exact ⟨h.x,h.y⟩
 ·refine ⟨i + 1,tes ?_ ?_ (List.Sublist.refl _),(by (have e0:=dt c0; omega)),(by (have e0:=dt c0; omega))⟩
  refine tc rfl (ps_r _) ?_
  refine tc rfl ?_ ?_
  rotate_left 1
  refine tn
  refine tc rfl (ps_r _) (tc rfl (ps_r _) (tn))
  rw [(zU (Df.d:P2) (show i < l.length by have:=dt c0; omega)).1]; exact PSub.refl _
 ·have h0:=df c0
  have h:=dt c1
  rw [List.take_of_length_le (by omega)] at h ⊢
  rw [hull_few (by omega)]; exact PSub.refl _
 have h0:=df c0
 rw [List.take_of_length_le (show l.length≤i by omega)] at *
 have h2:=hull_two (l:=l) (by have:=df c1; omega)
 have hL:l ≠ []:=fun e=>by rw [e,cY.2 rfl] at h2; simp at h2
 have ok:=gC l
 have hlen:(hullF l).length≤(setOf cmpP l).length:=by have:=mO (setOf cmpP l); rw [mN] at this; exact this
 have hf:(setOf cmpP l).getD 0 Df.d=gp (hullF l) 0:=set_fst hL
 refine xS (σ:=Nat × Value) (fun s=>[(6,True,exP (.int .i64 ((s.1:Nat):Int))),(5,True,exP s.2)]) (fun s=>[.row s.2 39 6 (((hullF l).take (s.1 + 1)).map (ptc (n + 1)))]) (fun s=>s.1 + 1≤(hullF l).length) (fun s=>(setOf cmpP l).length - s.1) ((0,r27)) (tk 3 rfl tn) ?_ ?_ ((by dsimp only; omega)) (fun s hJ Y _=>?_)
 refine tc rfl (ps_r _) (tc rfl (ps_r _) (tn))
 rotate_left 1
 rotate_left 1
 ·rw [hf]
  match he:hullF l,h2 with
  | x :: r,_=>rfl
 obtain ⟨i',v⟩:=s
 dsimp only at hJ ⊢
 have hll:((hullF l).take (i' + 1)).length=i' + 1:=by rw [List.length_take]; omega
 have hla:((hullF l).take (i' + 1)).getD i' Df.d=gp (hullF l) i':=by
  rw [List.getD_eq_getElem?_getD,List.getElem?_take,if_pos (by omega),← List.getD_eq_getElem?_getD]; rfl
 have hx:eY (setOf cmpP l) (((hullF l).take (i' + 1)).getD i' Df.d)=nx (hullF l) i':=by
  have h:=next_ok (l:=setOf cmpP l) (by rw [mN]; exact h2) (i:=i') (by rw [mN]; omega)
  rw [mN] at h
  rw [hla]; exact h
 repeat refine u ?_
 refine ti (fun c2=>?_) fun c2=>?_
 iterate 10 refine u ?_
 refine zA1 (oixo 0 i' rfl rfl rfl (fun _=>(by omega)) (fun _=>(by (simp; omega)))) ?_
 repeat refine u ?_
 refine zA1 (oca rfl rfl fun _=>k20next (by omega) (by omega)) ?_
 refine u fun b7=>?_
 refine tst 0 rfl rfl rfl rfl rfl rfl (yD (xR (s:=7) 0 rfl rfl) ?_)
 iterate 3 refine u ?_
 refine zL 5 mixed rfl rfl ?_
 repeat refine u ?_
 refine d1 (oca rfl rfl fun _=>pA (by omega) (by omega)) ?_
 repeat refine u ?_
 refine ti (fun c3=>?_) fun c3=>?_
 iterate 5 refine u ?_
 refine t_ts (xV (s:=2) 0 rfl rfl) ?_
 repeat refine u ?_
 refine e ?_
 rotate_left 1
 repeat refine u ?_
 refine tap 0 rfl rfl rfl (by (simp; omega)) rfl fun r51=>?_
 repeat refine u ?_
 rotate_left 1
 iterate 7 refine u ?_
 refine t_ts (xV (s:=2) 0 rfl rfl) ?_
 repeat refine u ?_
 refine e ?_
 rotate_left 1
 ·have h:=jU.1 (dt c3)
  have h3:nx (hullF l) i'=gp (hullF l) 0:=hx.symm.trans (Eq.trans h hf)
  have h4:i' + 1=(hullF l).length:=by
   refine Nat.le_antisymm hJ (Nat.le_of_not_lt fun c=>?_)
   unfold nx at h3
   rw [Nat.mod_eq_of_lt c] at h3
   exact absurd (dR ok.poly.nd c (by omega) h3) (by omega)
  rw [h4,List.take_length]; exact PSub.refl _
 ·have h:¬ nx (hullF l) i'=gp (hullF l) 0:=fun e=>df c3 (jU.2 (Eq.trans hx (e.trans hf.symm)))
  have h4:i' + 1 < (hullF l).length:=by
   refine Nat.lt_of_le_of_ne hJ fun e=>h ?_
   unfold nx
   rw [e,Nat.mod_self]
  have h5:nx (hullF l) i'=gp (hullF l) (i' + 1):=by unfold nx; rw [Nat.mod_eq_of_lt h4]
  refine nxt ((i' + 1,r51)) (by omega) (hS:=?_)
  dsimp only
  rw [(zU (Df.d:P2) h4).1,List.map_append,show (hullF l).getD (i' + 1) Df.d=eY (setOf cmpP l) (((hullF l).take (i' + 1)).getD i' Df.d) from (hx.trans h5).symm]
  exact List.Sublist.refl _
 ·have:=df c2
  omega
end Go.Proofs.YtalkinejknjidaaGreatDoor
