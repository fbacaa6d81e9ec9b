/- Lemmas and walks of functions; no statement. -/
import Derived.Test.YtflobagimodmgaaGreatDoorPb
set_option linter.unusedVariables false
set_option linter.unusedSimpArgs false
set_option maxRecDepth 100000
namespace Go.Proofs.YtflobagimodmgaaGreatDoor
open Go.SL Go.RowKit Go.Proofs Tryz
section
variable {M : Nat → Prop} {w : World}
theorem qlimbs1_c {M0 M:Nat→Prop} {w0:World} {b1 bd br cap m L:Nat} {vb:Value} {rs ys:List Nat} {ex:List Value} (B1:Blk w0 b1 280 [.pointer (some ⟨bd,0,none⟩)]) (hL:rs.length=L) (Bd:Blk w0 bd 282 [.slice (some ⟨br,0,none⟩) L cap,vb]) (BR:Blk w0 br 139 (rs.map lw ++ ex)) (hb:IsNat M0 w0 vb ys) (hr:∀ x ∈ rs,x < 4294967296)
    (hy0:0 < ys.length) (ht:0 < ys.getD (ys.length - 1) 0) (hrm:rs.length=m + ys.length) (hQ:val rs < 4294967296 ^ m * val ys) (hrl:rs.length≤1099511627776) (hcap:cap=rs.length + ex.length)
    (n1:¬ M0 b1) (nd:¬ M0 bd) (hmr:M br) (hall:∀ k,M k→k=br) (hMs:∀ k,M k→M0 k) :
    IterC prog 310 [.pointer (some ⟨b1,0,none⟩)] M0 M w0 ((List.range m).map (fun j=>(m - j - 1,val rs / (4294967296 ^ (m - j - 1) * val ys) % 4294967296))) encB (fun w=>∃ zs:List Nat,Blk w br 139 (zs.map lw ++ ex)∧zs.length=rs.length∧(∀ z ∈ zs,z < 4294967296)∧val zs=val rs % val ys):=by
 intro n l w J X hn0 hn hdr hJ hkeep hJd hXd hy
 have B1':=B1
 have Bd':=Bd
 have hb':=hb
 have hk0:=hkeep _ _ hJ
 have nM1:¬ M b1:=fun c=>n1 (hMs _ c)
 have nMd:¬ M bd:=fun c=>nd (hMs _ c)
 replace BR:=BR.drift hdr (fun c=>c)
 replace B1:=hk0.blk B1 n1
 replace Bd:=hk0.blk Bd nd
 replace hb:=(hk0.nat hb).less hMs
 have hM:OkM M w:=fun k hk=>by rw [hall k hk]; exact BR.lt
 have hyl:=hb.len
 have hV:0 < val ys:=aM ys (by intro e; subst e; simp at hy0) (by omega)
 obtain ⟨Fz,hFz⟩:∃ Fz:Nat→Prop,Fz=fun _=>False:=⟨_,rfl⟩
 have hFa:∀ w,FOk Fz w:=by subst hFz; exact fun _ _ h=>h.elim
 have hF:=hFa w
 have nFr:¬ Fz br:=by subst hFz; exact fun c=>c
 have LL:=Le.refl Fz M w
 refine jL func310 rfl ntmps310 rfl ?_
 refine zF ?_
 refine wd mixed 10 [0,1,10,15] (by decide +kernel) ?_
 apply zQ
 ·intro wq hR hst
  refine zV rfl rfl (zG ?_)
  replace B1:=B1.below hR
  replace Bd:=Bd.below hR
  replace BR:=BR.below hR
  refine zN rfl iR rfl B1 rfl ?_
  exact on0 rfl
 apply zQ
 ·intro wq hR hst
  refine zM rfl (zG ?_)
  replace Bd:=Bd.below hR
  replace BR:=BR.below hR
  refine zW rfl rfl ?_
  exact on0 rfl
 apply zQ
 ·intro wq hR hst
  refine zM rfl (zG ?_)
  replace Bd:=Bd.below hR
  replace BR:=BR.below hR
  refine zL 0 rfl yu282 rfl rfl sz29 rfl rfl ?_
  exact on0 rfl
 apply zQ
 ·intro wq hR hst
  refine zM rfl (zG ?_)
  replace Bd:=Bd.below hR
  replace BR:=BR.below hR
  refine zN rfl yS rfl Bd rfl ?_
  exact on0 rfl
 apply zQ
 ·intro wq hR hst
  refine zM rfl (zG ?_)
  obtain ⟨LL,hM,hF,hb,B1,Bd,BR⟩:=ub7 hR LL hM hF hb B1 Bd BR
  refine yT rfl yu29 rfl ?_
  exact on0 rfl
 apply zQ
 ·intro wq hR hst
  refine zV rfl rfl (zG ?_)
  replace B1:=B1.below hR
  replace Bd:=Bd.below hR
  replace BR:=BR.below hR
  refine zN rfl iR rfl B1 rfl ?_
  exact on0 rfl
 apply zQ
 ·intro wq hR hst
  refine zM rfl (zG ?_)
  replace Bd:=Bd.below hR
  replace BR:=BR.below hR
  refine zW rfl rfl ?_
  exact on0 rfl
 apply zQ
 ·intro wq hR hst
  refine zM rfl (zG ?_)
  replace Bd:=Bd.below hR
  replace BR:=BR.below hR
  refine zL 1 rfl yu282 rfl rfl sz29 rfl rfl ?_
  exact on0 rfl
 apply zQ
 ·intro wq hR hst
  refine zM rfl (zG ?_)
  replace Bd:=Bd.below hR
  replace BR:=BR.below hR
  refine zN rfl yS rfl Bd rfl ?_
  exact on0 rfl
 apply zQ
 ·intro wq hR hst
  refine zM rfl (zG ?_)
  obtain ⟨LL,hM,hF,hb,B1,Bd,BR⟩:=ub7 hR LL hM hF hb B1 Bd BR
  refine yT rfl yu29 rfl ?_
  exact on0 rfl
 refine gB (fun wq0 hR0 hpost0=>?_)
 refine zV rfl rfl (zV rfl rfl (zM rfl (zM rfl (zG ?_))))
 simp only [qZ,qY,qX,qW]
 obtain ⟨LL,hM,hF,hb,B1,Bd,BR⟩:=ub7 hR0 LL hM hF hb B1 Bd BR
 refine jC rfl rfl rfl (by omega) (jC rfl rfl rfl (by omega) (zC rfl rfl (zD (zX ?_))))
 refine xT (σ:=Nat) [(0,_),(1,_)] (fun s=>[(3,.int .i64 (((m - s:Nat):Int) - 1))]) (fun s w1=>J ((List.range s).map (fun j=>(m - j - 1,val rs / (4294967296 ^ (m - j - 1) * val ys) % 4294967296))) w1∧n≤w1.heap.size∧s≤m∧∃ zs:List Nat,Blk w1 br 139 (zs.map lw ++ ex)∧zs.length=rs.length∧(∀ z ∈ zs,z < 4294967296)∧val zs=val rs % (4294967296 ^ (m - s) * val ys)) (fun s=>m - s) (0) (zR rfl (by show Value.int .i64 _=Value.int .i64 _; congr 1; omega) (zI rfl (zI rfl yB))) ?_ (fun s w1 hJ=>?_)
 · have hJ2:=hJd _ _ _ hJ (LL.drift_to hn)
   exact ⟨hJ2,Nat.le_trans hn LL.size,by omega,rs,BR,rfl,hr,by rw [Nat.sub_zero,Nat.mod_eq_of_lt hQ]⟩
 ·clear BR
  obtain ⟨hJ1,hn1,hs,zs,BR,hzl,hzlt,hzv⟩:=hJ
  have hk:=hkeep _ _ hJ1
  replace B1:=hk.blk B1' n1
  replace Bd:=hk.blk Bd' nd
  replace hb:=(hk.nat hb').less hMs
  replace hM:OkM M w1:=fun k hk=>by rw [hall k hk]; exact BR.lt
  have hF:=hFa w1
  have LL:=Le.refl Fz M w1
  refine zF (zF (zB (zA rfl rfl (kT rfl rfl rfl (zD ?_)))))
  refine zU rfl (fun hc0=>?_) (fun hc0=>?_)
  ·obtain ⟨p,hpe⟩:∃ p,p=m - s - 1:=⟨_,rfl⟩
   have hs2:s < m:=by omega
   have hat:((m - s:Nat):Int) - 1=(p:Int):=by omega
   rw [hat]
   have hzv':val zs=val rs % (4294967296 ^ p * val ys * 4294967296):=by rw [hzv,show m - s=p + 1 by omega,Nat.pow_succ,Nat.mul_right_comm]
   have hS:val zs < 4294967296 ^ (p + 1) * val ys:=by rw [hzv,show m - s=p + 1 by omega]; exact Nat.mod_lt _ (Nat.mul_pos (Nat.pow_pos (by omega)) hV)
   have hhi:∀ j,p + ys.length < j→zs.getD j 0=0:=fun j hj=>high_zero (n:=p + 1 + ys.length) (Nat.lt_of_lt_of_le hS (by
     rw [Nat.pow_add _ (p + 1)]; exact Nat.mul_le_mul_left _ (Nat.le_of_lt (jF ys hb.lt)))) j (by omega)
   have hgu:=guess_ok hzlt hhi hS hy0 ht
   refine yE (zF (zX (dS (zF (zB (zN rfl iR rfl B1 rfl (zA rfl rfl (zK rfl (bo func311) rfl rfl ?_))))))))
   refine (qguess_c (p:=p) (hzl.trans hL) Bd BR hb hzlt hy0 ht (by omega) (by omega) hM).mono ?_
   rintro v24 w2 ⟨hB24,rfl⟩
   obtain ⟨LL,hM,hF,hb,B1,Bd,BR⟩:=ub7 hB24 LL hM hF hb B1 Bd BR
   obtain ⟨g,hge⟩:∃ g,min ((zs.getD (p + ys.length) 0 * 4294967296 + zs.getD (p + ys.length - 1) 0) / ys.getD (ys.length - 1) 0) 4294967295=g:=⟨_,rfl⟩
   rw [hge]; rw [hge] at hgu
   have hgb:g < 4294967296:=by rw [← hge]; exact Nat.lt_of_le_of_lt (Nat.min_le_right _ _) (by decide)
   clear hge
   refine zC rfl rfl (zD (zF (dU (zF (zF (zB (zN rfl iR rfl B1 rfl (zA rfl rfl (zA rfl rfl (zK rfl (bo func312) rfl rfl ?_))))))))))
   refine (qless_c (Fz:=Fz) (M:=M) (p:=p) (m:=g) (hzl.trans hL) Bd BR hb hzlt hgb (by omega) (by omega) (by omega) hmr nFr hF hM).mono ?_
   rintro v28 w3 ⟨Lw3,Bd2,u,z1,BR2,hl1,hz1,hu1,hh1,hv1,rfl⟩
   obtain ⟨LL,hM,hF,hb⟩:=up4 Lw3 LL hM hF hb
   replace B1:=B1.le Lw3 nM1
   replace Bd:=Bd2
   replace BR:=BR2
   refine zC rfl rfl (zD (zX ?_))
   refine xT (σ:=Nat) [(0,_),(1,_),(3,_),(5,_)] (fun q=>[(4,.int .u64 ((q:Nat):Int))]) (fun q w4=>Le Fz M w3 M w4∧Blk w4 bd 282 [.slice (some ⟨br,0,none⟩) L cap,vb]∧Blk w4 b1 280 [.pointer (some ⟨bd,0,none⟩)]∧∃ zq:List Nat,Blk w4 br 139 (zq.map lw ++ ex)∧zq.length=rs.length∧(∀ z ∈ zq,z < 4294967296)∧(∀ j,p + ys.length < j→zq.getD j 0=0)∧q < 4294967296∧val zq + (4294967296 ^ p * val ys) * q=val zs + 4294967296 ^ (p + (ys.length + 1)) * u∧val zs < (4294967296 ^ p * val ys) * (q + 1)) (fun q=>q) (g) (zI rfl (zI rfl (zI rfl (zI rfl (zI rfl yB))))) ?_ (fun q w4 hJ=>?_)
   · exact ⟨Le.refl _ _ _,Bd,B1,z1,BR,by omega,hz1,fun j hj=>by rw [hh1 j hj]; exact hhi j hj,hgb,by rw [← Nat.mul_assoc,Nat.mul_right_comm] at hv1; exact hv1,hgu⟩
   ·clear Bd B1 BR
    obtain ⟨LR,Bd,B1,zq,BR,hzql,hql,hqh,hqb0,hqv,hqu⟩:=hJ
    obtain ⟨LL,hM,hF,hb⟩:=up4 LR LL hM hF hb
    refine zF (zF (zB (zA rfl rfl (aQ rfl rfl (zD ?_)))))
    refine uP rfl (fun hc1=>?_) (fun hc1=>?_)
    ·have hu1:u=1:=by
       have:¬ u=0:=by simpa using hc1
       omega
     have hlt:=val_high (n:=p + (ys.length + 1)) hql (fun j hj=>hqh j (by omega))
     have hqlt:val zs < (4294967296 ^ p * val ys) * (q - 1 + 1):=by
       rw [hu1,Nat.mul_one] at hqv
       rcases Nat.eq_zero_or_pos q with h | h
       · subst h; omega
       · rw [Nat.sub_add_cancel h]; omega
     have hq1:1≤q:=by
       rcases Nat.eq_zero_or_pos q with h | h
       · subst h; rw [hu1] at hqv; omega
       · exact h
     have hqn:(4294967296 ^ p * val ys) * q=(4294967296 ^ p * val ys) * (q - 1) + (4294967296 ^ p * val ys):=by
       have:q=(q - 1) + 1:=by omega
       conv=>lhs; rw [this,Nat.mul_add,Nat.mul_one]
     refine yE (zX (zF (zB (zA rfl rfl ?_))))
     first | refine aB (b:=1) rfl rfl rfl (by omega) (by omega) ?_ | refine uN (b:=1) rfl rfl rfl (by omega) ?_
     refine zC rfl rfl (zD (zF (zB (zN rfl iR rfl B1 rfl (zA rfl rfl (zK rfl (bo func313) rfl rfl ?_))))))
     refine (qmore_c (Fz:=Fz) (M:=M) (p:=p) (hzql.trans hL) Bd BR hb hql (by omega) (by omega) (by omega) hmr nFr hF hM).mono ?_
     rintro v35 w5 ⟨Lw5,Bd2,u2,z2,BR2,hl2,hz2,hu2,hh2,hv2,rfl⟩
     obtain ⟨LL,LR⟩:=up2 Lw5 LL LR
     replace B1:=B1.le Lw5 nM1
     replace Bd:=Bd2
     replace BR:=BR2
     refine zD ?_
     refine zU rfl (fun hc2=>?_) (fun hc2=>?_)
     ·obtain rfl:u2=1:=by omega
      rw [hu1,hqn] at hqv
      have hqe:val z2 + (4294967296 ^ p * val ys) * (q - 1)=val zs:=by omega
      obtain ⟨hq,hz⟩:=pT hqe hqlt
      obtain ⟨zq,rfl⟩:∃ zq,zq=z2:=⟨_,rfl⟩
      have hzql:=hl2.trans hzql
      have hql:=hz2
      have hqb:(q - 1) % 4294967296=val rs / (4294967296 ^ (m - s - 1) * val ys) % 4294967296:=by rw [hq,← hpe,hzv',Nat.mod_mul_right_div_self,Nat.mod_mod]
      have hev:encB (m - s - 1,val rs / (4294967296 ^ (m - s - 1) * val ys) % 4294967296)=[.int .i64 (p:Int),.int .u32 (((q - 1) % 4294967296:Nat):Int)]:=by rw [← hqb,← hpe]; rfl
      have hzn:val zq=val rs % (4294967296 ^ (m - (s + 1)) * val ys):=by rw [hz,hzv',Nat.mod_mul_right_mod,hpe,show m - s - 1=m - (s + 1) by omega]
      refine xI (dW rfl (xK (zF (zB (zA rfl rfl (zA rfl rfl (zA rfl rfl (jA rfl yu168 yu139 rfl (kR rfl rfl rfl ?_)))))))))
      rw [← hev]
      refine (hy _ _ _ _ ((wE _ hs2).choose_spec) (hJd _ _ _ hJ1 (LL.drift_to hn1)) (Nat.le_trans hn1 LL.size)).mono ?_
      rintro v40 w6 ⟨hn2,hTk,hyn⟩
      replace BR:Blk w6 br 139 (zq.map lw ++ ex):=(hTk br hmr).trans BR
      refine aQ rfl rfl (zD ?_)
      refine uP rfl (fun hc3=>?_) (fun hc3=>?_)
      ·refine zY ?_
       refine xF ⟨[],trivial,?_⟩
       dsimp only [xG]
       right
       rcases hyn with ⟨e,_⟩ | ⟨_,h⟩
       · subst e; simp at hc3
       · exact h
      ·refine yE (zB (zA rfl rfl (jC rfl rfl rfl (by omega) (zC rfl rfl (zD ?_)))))
       refine ⟨rfl,s + 1,(zR rfl (by show Value.int .i64 _=Value.int .i64 _; congr 1; omega) (zI rfl (zI rfl yB))),?_,?_⟩
       exact ⟨by
         rw [nJ]
         rcases hyn with ⟨_,h⟩ | ⟨e,_⟩
         · exact h
         · subst e; simp at hc3,hn2,by omega,zq,BR,by omega,hql,hzn⟩
       omega
     ·refine yE ?_
      refine ⟨rfl,q - 1,(zR rfl (rfl) (zI rfl (zI rfl (zI rfl (zI rfl yB))))),?_,?_⟩
      exact ⟨LR,Bd,B1,z2,BR,by omega,hz2,fun j hj=>by rw [hh2 j hj]; exact hqh j hj,by omega,by
        obtain rfl:u2=0:=by omega
        rw [hu1]; rw [hqn] at hqv; rw [hu1] at hqv; omega,hqlt⟩
      omega
    ·have hu0:u=0:=by simpa using hc1
     rw [hu0,Nat.mul_zero,Nat.add_zero] at hqv
     obtain ⟨hq,hz⟩:=pT hqv hqu
     have hqb:q % 4294967296=val rs / (4294967296 ^ (m - s - 1) * val ys) % 4294967296:=by rw [hq,← hpe,hzv',Nat.mod_mul_right_div_self,Nat.mod_mod]
     have hev:encB (m - s - 1,val rs / (4294967296 ^ (m - s - 1) * val ys) % 4294967296)=[.int .i64 (p:Int),.int .u32 ((q % 4294967296:Nat):Int)]:=by rw [← hqb,← hpe]; rfl
     have hzn:val zq=val rs % (4294967296 ^ (m - (s + 1)) * val ys):=by rw [hz,hzv',Nat.mod_mul_right_mod,hpe,show m - s - 1=m - (s + 1) by omega]
     refine xI (xK (zF (zB (zA rfl rfl (zA rfl rfl (zA rfl rfl (jA rfl yu168 yu139 rfl (kR rfl rfl rfl ?_))))))))
     rw [← hev]
     refine (hy _ _ _ _ ((wE _ hs2).choose_spec) (hJd _ _ _ hJ1 (LL.drift_to hn1)) (Nat.le_trans hn1 LL.size)).mono ?_
     rintro v40 w7 ⟨hn2,hTk,hyn⟩
     replace BR:Blk w7 br 139 (zq.map lw ++ ex):=(hTk br hmr).trans BR
     refine aQ rfl rfl (zD ?_)
     refine uP rfl (fun hc4=>?_) (fun hc4=>?_)
     ·refine zY ?_
      refine xF ⟨[],trivial,?_⟩
      dsimp only [xG]
      right
      rcases hyn with ⟨e,_⟩ | ⟨_,h⟩
      · subst e; simp at hc4
      · exact h
     ·refine yE (zB (zA rfl rfl (jC rfl rfl rfl (by omega) (zC rfl rfl (zD ?_)))))
      refine ⟨rfl,s + 1,(zR rfl (by show Value.int .i64 _=Value.int .i64 _; congr 1; omega) (zI rfl (zI rfl yB))),?_,?_⟩
      exact ⟨by
        rw [nJ]
        rcases hyn with ⟨_,h⟩ | ⟨e,_⟩
        · exact h
        · subst e; simp at hc4,hn2,by omega,zq,BR,by omega,hql,hzn⟩
      omega
  ·refine xI (xK ?_)
   refine xF ⟨[],trivial,?_⟩
   dsimp only [xG]
   left
   obtain rfl:s=m:=by omega
   exact ⟨hJ1,zs,BR,hzl,hzlt,by rw [hzv,Nat.sub_self,Nat.pow_zero,Nat.one_mul]⟩
theorem qlimbs_c {M T:Nat→Prop} {w:World} {bd br cap m L:Nat} {vb:Value} {rs ys:List Nat} {ex:List Value} (hL:rs.length=L) (Bd:Blk w bd 282 [.slice (some ⟨br,0,none⟩) L cap,vb]) (BR:Blk w br 139 (rs.map lw ++ ex)) (hb:IsNat M w vb ys) (hr:∀ x ∈ rs,x < 4294967296)
    (hy0:0 < ys.length) (ht:0 < ys.getD (ys.length - 1) 0) (hrm:rs.length=m + ys.length) (hQ:val rs < 4294967296 ^ m * val ys) (hrl:rs.length≤1099511627776) (hcap:cap=rs.length + ex.length)
    (nd:¬ M bd) (hmr:T br) (hall:∀ k,T k→k=br) (hMs:∀ k,T k→M k) (hM:OkM M w) :
    CallsV prog 301 [.pointer (some ⟨bd,0,none⟩)] w fun r w'=>Bel w.heap.size w w'∧∃ cp,r = .func (.func 310) #[] cp∧IterC prog 310 cp.toList M T w' ((List.range m).map (fun j=>(m - j - 1,val rs / (4294967296 ^ (m - j - 1) * val ys) % 4294967296))) encB (fun w=>∃ zs:List Nat,Blk w br 139 (zs.map lw ++ ex)∧zs.length=rs.length∧(∀ z ∈ zs,z < 4294967296)∧val zs=val rs % val ys):=by
 refine ci M func301 ntmps301 fun Fz hFz hF LL=>?_
 refine zF (zB (gJ rfl rfl (fun w1 b1 N1=>?_)))
 obtain ⟨hBw1,nF1,nM1,Lw1,B1⟩:=nz hF hM N1
 have ltd_1:=Bd.lt
 replace Bd:=Bd.below hBw1
 have ne1_d:b1 ≠ bd:=by have:=N1.at_; omega
 have ltr_1:=BR.lt
 replace BR:=BR.below hBw1
 have ne1_r:b1 ≠ br:=by have:=N1.at_; omega
 obtain ⟨LL,hb⟩:=up2 Lw1 LL hb
 refine zC rfl rfl (zD (zF (zB (gZ rfl rfl (zC rfl rfl (zD (zY ?_)))))))
 refine lv1 ⟨rfl,trivial⟩ ?_
 subst hFz
 exact ⟨LL.b,_,rfl,qlimbs1_c B1 hL Bd BR (hb.less fun k c=>yF c) hr hy0 ht hrm hQ hrl hcap (fun c=>nM1 c) nd hmr hall hMs⟩
theorem lead_c {n:Nat} (h:n < 4294967296) (hM:OkM M w) :
    CallsV prog 300 [.int .u32 (n:Int)] w fun r w'=>Bel w.heap.size w w'∧r = .int .i64 (32 - (gE n:Int)):=by
 have hbw:=fV h
 refine ci M func300 ntmps300 fun Fz hFz hF LL=>?_
 refine zF (zB (zC rfl rfl (zD (zF (zB (zA rfl rfl (zK rfl (bo func195) rfl rfl ?_)))))))
 refine (len32_c (by omega) hM).mono ?_
 rintro v4 w1 ⟨hB4,rfl⟩
 replace LL:=ub1 hB4 LL
 refine jC rfl rfl rfl (by omega) (zC rfl rfl (zD (zY ?_)))
 refine lv1 ⟨rfl,trivial⟩ ?_
 subst hFz
 exact ⟨LL.b,rfl⟩
end
end Go.Proofs.YtflobagimodmgaaGreatDoor
namespace Go.SL
open Go.RowKit
def tz (x:Nat):Nat:=if h:x % 2=1 ∨ x=0 then 0 else tz (x / 2) + 1
termination_by x
decreasing_by omega
theorem eT:∀ (x:Nat),x ≠ 0→x=2 ^ tz x * (x / 2 ^ tz x)∧(x / 2 ^ tz x) % 2=1:=by
 intro x
 induction x using Nat.strongRecOn with
 | _ x ih =>
  intro hx
  rw [tz]
  split
  ·rename_i h
   have:x % 2=1:=by omega
   simp [this]
  ·rename_i h
   obtain ⟨h1,h2⟩:=ih (x / 2) (by omega) (by omega)
   have e:x / 2 ^ (tz (x / 2) + 1)=x / 2 / 2 ^ tz (x / 2):=by rw [Nat.pow_succ,Nat.mul_comm,Nat.div_div_eq_div_mul]
   rw [e]
   refine ⟨?_,h2⟩
   rw [Nat.pow_succ,Nat.mul_right_comm,← h1]; omega
theorem lU {x n:Nat} (hx:x ≠ 0) (h:x < 2 ^ n):tz x < n:=by
 obtain ⟨h1,h2⟩:=eT x hx
 have h3:2 ^ tz x≤x:=by
  conv=>rhs; rw [h1]
  exact Nat.le_mul_of_pos_right _ (Nat.pos_of_ne_zero fun c=>by rw [c] at h2; cases h2)
 exact (Nat.pow_lt_pow_iff_right (by omega)).1 (Nat.lt_of_le_of_lt h3 h)
theorem and_neg {k m n:Nat} (hn:k < n) (hx:2 ^ k * (2 * m + 1) < 2 ^ n):2 ^ k * (2 * m + 1) &&& (2 ^ n - 2 ^ k * (2 * m + 1))=2 ^ k:=by
 obtain ⟨q,rfl⟩:∃ q,n=k + (q + 1):=⟨n - k - 1,by omega⟩
 have hm:m < 2 ^ q:=by
  rw [Nat.pow_add,Nat.pow_succ] at hx
  have:=Nat.lt_of_mul_lt_mul_left hx
  omega
 have e1:2 ^ (k + (q + 1)) - 2 ^ k * (2 * m + 1)=2 ^ k * (2 * (2 ^ q - (m + 1)) + 1):=by
  rw [Nat.pow_add,← Nat.mul_sub,Nat.pow_succ]; congr 1; omega
 rw [e1]
 apply Nat.eq_of_testBit_eq
 intro i
 rw [Nat.testBit_and,Nat.testBit_two_pow_mul,Nat.testBit_two_pow_mul,Nat.testBit_two_pow]
 rcases Nat.lt_or_ge i k with hik | hik
 ·simp [Nat.not_le.2 hik]; omega
 ·obtain ⟨j,rfl⟩:∃ j,i=k + j:=⟨i - k,by omega⟩
  simp only [ge_iff_le,Nat.le_add_right,decide_true,Bool.true_and,Nat.add_sub_cancel_left]
  cases j with
  | zero=>simp [Nat.testBit_zero]
  | succ j =>
   have e2:∀ a,(2 * a + 1).testBit (j + 1)=a.testBit j:=fun a=>by rw [Nat.testBit_succ]; congr 1; omega
   rw [e2,e2,Nat.testBit_two_pow_sub_succ hm]
   have:¬ (k=k + (j + 1)):=by omega
   simp only [this,decide_false]
   cases m.testBit j <;> simp
theorem and_low_bit {x:Nat} (hx0:x ≠ 0) (hx:x < 2 ^ 64):x &&& (2 ^ 64 - x)=2 ^ tz x:=by
 obtain ⟨h1,h2⟩:=eT x hx0
 have hk:=lU hx0 hx
 obtain ⟨m,hm⟩:∃ m,x / 2 ^ tz x=2 * m + 1:=⟨x / 2 ^ tz x / 2,by omega⟩
 rw [hm] at h1
 have h3:=and_neg (k:=tz x) (m:=m) (n:=64) hk (by rw [← h1]; exact hx)
 rw [← h1] at h3; exact h3
def tabL:List Nat:=[0,1,56,2,57,49,28,3,61,58,42,50,38,29,17,4,62,47,59,36,45,43,51,22,53,39,33,30,24,18,12,5,63,55,48,27,60,41,37,16,46,35,44,21,52,32,23,11,54,26,40,15,34,20,31,10,25,14,19,9,13,8,7,6]
def tabV:List Value:=tabL.map fun (x:Nat) => .int .u8 (x:Int)
theorem tab_all:∀ k,k < 64→tabL.getD (2 ^ k * 285870213051353865 % 18446744073709551616 / 288230376151711744) 0=k:=by decide +kernel
theorem zQ9 {k:Nat}:2 ^ k * 285870213051353865 % 18446744073709551616 / 288230376151711744 < 64:=by omega
def Tab (M:Nat→Prop) (w:World):Prop:=¬ M 0∧Seg w 0 0 tabV
theorem Tab.mono {Fz M M':Nat→Prop} {w w':World} (h:Tab M w) (l:Le Fz M w M' w'):Tab M' w':=by
 obtain ⟨h1,cur,t,fz,h2,h3⟩:=h
 have hb:=(Array.getElem?_eq_some_iff.1 h2).1
 have hk:=l.kept hb h1
 exact ⟨hk.1,cur,t,fz,hk.2.trans h2,h3⟩
theorem Tab.cell {M:Nat→Prop} {w:World} (h:Tab M w) {j:Nat} (hj:j < 64):w.cell? ⟨0,j,none⟩=some (.int .u8 ((tabL.getD j 0:Nat):Int)):=by
 have:=h.2.cell (j:=j) (u:=.int .u8 ((tabL.getD j 0:Nat):Int)) (by
  unfold tabV
  rw [List.getElem?_map,List.getElem?_eq_getElem (show j < tabL.length from hj)]
  simp [List.getD_eq_getElem?_getD,List.getElem?_eq_getElem (show j < tabL.length from hj)])
 simpa using this
structure KBlk (M:Nat→Prop) (w:World) (b:Nat) (t:TypeId) (cs:List Value):Prop where
 blk:Blk w b t cs
 not:¬ M b
theorem KBlk.mono {Fz M M':Nat→Prop} {w w':World} {b:Nat} {t:TypeId} {cs:List Value} (h:KBlk M w b t cs) (l:Le Fz M w M' w'):KBlk M' w' b t cs :=
 ⟨h.blk.le l h.not,(l.kept h.blk.lt h.not).1⟩
theorem KBlk.drift {M T:Nat→Prop} {n:Nat} {w w':World} {b:Nat} {t:TypeId} {cs:List Value} (h:KBlk M w b t cs) (d:Drift T n w w') (ht:∀ k,T k→M k):KBlk M w' b t cs :=
 ⟨h.blk.drift d (fun c=>h.not (ht b c)),h.not⟩
section ops
variable {P : Program} {r : Option Nat} {N : Nat} {all : Array Oper} {K : Pd} {D : List Deferred} {E : Env} {w : World} {rest : List Oper}
theorem ops_negu {d:Nat} {x:Operand} {t t':TypeId} {pos:String} {af:Array Edge} {a:Nat} (hd:Nat.blt d N=true) (hx:ev E x=some (.int .u64 (a:Int))) (ha:a < 18446744073709551616)
  (h:Ops P r N all K rest D ((d,.int .u64 (((18446744073709551616 - a) % 18446744073709551616:Nat):Int)) :: E) w):Ops P r N all K (⟨some d,.unOp .neg t x,t',pos,af,none⟩ :: rest) D E w :=
 xD hd (by intro c hc; cases hc) (fun ac ha'=>by
  have:=cY 0 a (by omega)
  simp only [Nat.zero_add,Int.natCast_zero,Int.cast_ofNat_Int] at this
  simp only [execOp,ha'.ev hx,Op.unary,Op.intArith,this]; rfl) h
theorem aD {d:Nat} {x y:Operand} {tx ty t:TypeId} {pos:String} {af:Array Edge} {a b:Nat} (hd:Nat.blt d N=true)
  (hx:ev E x=some (.int .u64 (a:Int))) (hy:ev E y=some (.int .u64 (b:Int)))
  (h:Ops P r N all K rest D ((d,.int .u64 ((a * b % 18446744073709551616:Nat):Int)) :: E) w):Ops P r N all K (⟨some d,.binOp .mul tx x y ty,t,pos,af,none⟩ :: rest) D E w :=
 uG hd (.inr (.inr rfl)) hx hy (by have:=bC (a * b); simpa using this) h
theorem nW {d:Nat} {x ix:Operand} {t e t':TypeId} {pos:String} {af:Array Edge} {n b o bytes:Nat} {z:Value} {k:IntKind} {i:Int} (j:Nat) (hd:Nat.blt d N=true)
  (ht:P.underlying t=some (.array n e)) (he:Sz P e 1 bytes z) (hn:Nat.ble n 1=false) (hx:ev E x=some (.pointer (some ⟨b,o,none⟩))) (hi:ev E ix=some (.int k i)) (hij:i=(j:Int)) (hj:j < n)
  (h:Ops P r N all K rest D ((d,.pointer (some ⟨b,o + j,none⟩)) :: E) w) :
  Ops P r N all K (⟨some d,.indexAddr t x ix,t',pos,af,none⟩ :: rest) D E w:=by
 refine xD hd (by intro c hc; cases hc) (fun a ha=>?_) h
 have hn':¬ n≤1:=fun c=>by rw [Nat.ble_eq_true_of_le c] at hn; cases hn
 have e1:(Instr.indexAt t (.pointer (some ⟨b,o,none⟩)) (.int k i)).run P w = .ok (.pointer (some ⟨b,o + j,none⟩)) w:=by
  subst hij
  simp [Instr.indexAt,asIntOf,run_underlying ht,Result.andThen,qF he,hj,gN,Instr.sureAddr,hn']
 simp only [execOp,ha.ev hx,ha.ev hi,Sem.run_bind,e1,Result.andThen]; rfl
end ops
theorem nS (a b:Nat):(a ||| b) % 2=1 ↔ a % 2=1 ∨ b % 2=1:=by
 have h:=Nat.testBit_or a b 0
 simp only [Nat.testBit_zero] at h
 rcases Nat.mod_two_eq_zero_or_one a with h1 | h1 <;> rcases Nat.mod_two_eq_zero_or_one b with h2 | h2 <;> simp [h1,h2] at h ⊢ <;> omega
theorem tI:∀ (k a b c:Nat),a ||| b=2 ^ k * c→∃ a1 b1,a=2 ^ k * a1∧b=2 ^ k * b1∧a1 ||| b1=c
 | 0,a,b,c,h=>⟨a,b,by simp,by simp,by simpa using h⟩
 | k + 1,a,b,c,h=>by
  have e:2 ^ (k + 1) * c=2 * (2 ^ k * c):=by rw [Nat.pow_succ]; rw [Nat.mul_comm (2 ^ k) 2,Nat.mul_assoc]
  rw [e] at h
  have hm:=nS a b
  rw [h] at hm
  have ha:a % 2=0:=by rcases Nat.mod_two_eq_zero_or_one a with h1 | h1; exact h1; have:=hm.2 (.inl h1); omega
  have hb:b % 2=0:=by rcases Nat.mod_two_eq_zero_or_one b with h1 | h1; exact h1; have:=hm.2 (.inr h1); omega
  have hh:a / 2 ||| b / 2=2 ^ k * c:=by
   have:=Nat.or_div_two (a:=a) (b:=b)
   rw [h] at this; omega
  obtain ⟨a1,b1,h1,h2,h3⟩:=tI k (a / 2) (b / 2) c hh
  refine ⟨a1,b1,?_,?_,h3⟩
  ·rw [Nat.pow_succ,Nat.mul_right_comm,← h1]; omega
  ·rw [Nat.pow_succ,Nat.mul_right_comm,← h2]; omega
theorem uJ {a b k:Nat} (ha:a % 2=1):Nat.gcd a (2 ^ k * b)=Nat.gcd a b:=by
 have h:Nat.Coprime (2 ^ k) a:=Nat.Coprime.pow_left k (by
  show Nat.gcd 2 a=1
  rw [Nat.gcd_rec,ha]; rfl)
 exact Nat.Coprime.gcd_mul_left_cancel_right b h
theorem gcd_word {a b k A:Nat} (ha:a ≠ 0) (hk:k=tz (a ||| b)) (hA:A=a / 2 ^ tz a):Nat.gcd a b=2 ^ k * Nat.gcd A b∧A % 2=1:=by
  have hab:a ||| b ≠ 0:=fun c=>ha (by
    have h0:a≤a ||| b:=Nat.left_le_or; omega)
  obtain ⟨h1,h2⟩:=eT _ hab
  rw [← hk] at h1 h2
  obtain ⟨a1,b1,e1,e2,e3⟩:=tI k a b _ h1
  obtain ⟨h3,h4⟩:=eT a ha
  rw [← hA] at h3 h4
  refine ⟨?_,h4⟩
  rw [← e3] at h2
  have h5:=(nS a1 b1).1 h2
  have h6:Nat.gcd A b=Nat.gcd A b1:=by rw [e2,uJ h4]
  rw [h6]
  have h7:Nat.gcd a b=2 ^ k * Nat.gcd a1 b1:=by rw [e1,e2,Nat.gcd_mul_left]
  rw [h7]
  congr 1
  -- a1 is A,times a power of two
  have hkt:2 ^ k * a1=2 ^ tz a * A:=by rw [← e1]; exact h3
  have hle:k≤tz a:=by
    rcases Nat.lt_or_ge (tz a) k with h | h
    · exfalso
      obtain ⟨q,rfl⟩:∃ q,k=tz a + (q + 1):=⟨k - tz a - 1,by omega⟩
      rw [Nat.pow_add,Nat.mul_assoc] at hkt
      have:=Nat.eq_of_mul_eq_mul_left (xX _) hkt
      rw [Nat.pow_succ] at this
      have e:2 ^ q * 2 * a1=2 * (2 ^ q * a1):=by rw [Nat.mul_right_comm,Nat.mul_comm]
      omega
    · exact h
  obtain ⟨i,hi⟩:∃ i,tz a=k + i:=⟨tz a - k,by omega⟩
  rw [hi,Nat.pow_add,Nat.mul_assoc] at hkt
  have ha1:=Nat.eq_of_mul_eq_mul_left (xX _) hkt
  rcases h5 with h5 | h5
  · cases i with
    | zero=>rw [ha1]; simp
    | succ i => rw [ha1, Nat.pow_succ] at h5
                have e:2 ^ i * 2 * A=2 * (2 ^ i * A):=by rw [Nat.mul_right_comm,Nat.mul_comm]
                omega
  · rw [ha1,Nat.gcd_comm,uJ h5,Nat.gcd_comm]
end Go.SL
namespace Go.SL
open Go.RowKit
section strct2
variable {P : Program} {r : Option Nat} {N : Nat} {all : Array Oper} {K : Pd} {D : List Deferred} {E : Env} {w : World} {rest : List Oper}
theorem oY {t:TypeId} {sz bytes:Nat} {z:Value} {b o:Nat} {us:List Value} (hf:Fold P t) (hz:Sz P t sz bytes z) (hu:∀ (j:Nat) (u:Value),us[j]? = some u→w.cell? ⟨b,o + j,none⟩=some u) (hl:us.length=sz) :
  (loadVar t ⟨b,o,none⟩).run P w = .ok (.agg us.toArray) w:=by
 have h1:=run_loadCells_list (P:=P) (w:=w) ⟨b,o,none⟩ us (fun j v hj=>by rw [gN]; exact hu j v hj)
 rw [hl] at h1
 simp [loadVar,hf w,qF hz,h1,Result.andThen]
theorem kS {d:Nat} {x:Operand} {t t':TypeId} {pos:String} {af:Array Edge} {sz bytes:Nat} {z:Value} {b o:Nat} {us:List Value} (hd:Nat.blt d N=true)
  (hf:Fold P t) (hz:Sz P t sz bytes z) (hx:ev E x=some (.pointer (some ⟨b,o,none⟩))) (hu:∀ (j:Nat) (u:Value),us[j]? = some u→w.cell? ⟨b,o + j,none⟩=some u) (hl:us.length=sz)
  (h:Ops P r N all K rest D ((d,.agg us.toArray) :: E) w):Ops P r N all K (⟨some d,.load t x,t',pos,af,none⟩ :: rest) D E w :=
 xD hd (by intro c hc; cases hc) (fun a ha=>by
  have e1:(Instr.loadAt t (.pointer (some ⟨b,o,none⟩))).run P w = .ok (.agg us.toArray) w:=by
   simp [Instr.loadAt,Instr.sureAddr,oY hf hz hu hl]
  simp only [execOp,ha.ev hx,Sem.run_bind,e1,Result.andThen]; rfl) h
theorem jN {d:Nat} {x:Operand} {t te t':TypeId} {pos:String} {af:Array Edge} {sz bytes:Nat} {z:Value} {b o:Nat} {cs us:List Value} (hd:Nat.blt d N=true)
  (hf:Fold P t) (hz:Sz P t sz bytes z) (hx:ev E x=some (.pointer (some ⟨b,o,none⟩))) (hb:Blk w b te cs) (hu:(cs.drop o).take sz=us) (hl:us.length=sz)
  (h:Ops P r N all K rest D ((d,.agg us.toArray) :: E) w):Ops P r N all K (⟨some d,.load t x,t',pos,af,none⟩ :: rest) D E w :=
 kS hd hf hz hx (fun j u hj=>by
  rw [hb.cell]; rw [← hu,List.getElem?_take] at hj
  split at hj
  ·simpa using hj
  ·cases hj) hl h
theorem jY {t te:TypeId} {sz bytes:Nat} {z:Value} {b o:Nat} {cs us:List Value} (hf:Fold P t) (hz:Sz P t sz bytes z) (hb:Blk w b te cs) (hu:(cs.drop o).take sz=us) (hl:us.length=sz):(loadVar t ⟨b,o,none⟩).run P w = .ok (.agg us.toArray) w :=
 oY hf hz (fun j u hj=>by
  rw [hb.cell]; rw [← hu,List.getElem?_take] at hj
  split at hj
  ·simpa using hj
  ·cases hj) hl
theorem xH {x y:Operand} {t te t':TypeId} {pos:String} {af:Array Edge} {b o:Nat} {cs us cs':List Value} {sz bytes:Nat} {z:Value} (hx:ev E x=some (.pointer (some ⟨b,o,none⟩))) (hy:ev E y=some (.agg us.toArray))
  (ht:Sz P t sz bytes z) (hb:Blk w b te cs) (hv:us.length=sz) (ho:Nat.ble (o + sz) cs.length=true) (h1:∀ u ∈ us,u.oneCell'=true) (hcs:cs.take o ++ us ++ cs.drop (o + sz)=cs')
  (h:∀ w',Chg w w' b→Blk w' b te cs'→Ops P r N all K rest D E w') :
  Ops P r N all K (⟨none,.store t x y,t',pos,af,none⟩ :: rest) D E w :=
 gO hx hy ht hb (by simpa [Value.cells] using hv) (by simpa [Nat.ble_eq] using ho) (by simpa [Value.cells] using h1) fun w' h2 h3=>h w' h2 (by subst hcs; simpa [Value.cells] using h3)
def updC:List Value→List (Nat × List Value)→List Value
 | arr,[]=>arr
 | arr,(o,c) :: r=>updC (arr.take o ++ c ++ arr.drop (o + c.length)) r
theorem vE {places:List (Nat × Nat)}:∀ (parts:List (Nat × Value)) (us:List (Nat × List Value)) (arr:List Value),parts.length=us.length →
  (∀ (i:Nat) (p:Nat × Value) (u:Nat × List Value),parts[i]? = some p→us[i]? = some u→p.2.cells=u.2.toArray∧places[p.1]? = some (u.1,u.2.length)∧u.1 + u.2.length≤arr.length) →
  Instr.fill (places.toArray[·]?) arr.toArray parts=some (updC arr us).toArray
 | [],[],arr,_,_=>by simp [Instr.fill,updC]
 | [],_ :: _,_,h,_=>by simp at h
 | _ :: _,[],_,h,_=>by simp at h
 | (i,v) :: parts,(o,c) :: us,arr,hl,hp=>by
  obtain ⟨h1,h2,h3⟩:=hp 0 (i,v) (o,c) rfl rfl
  simp only at h1 h2 h3
  have ih:=vE (places:=places) parts us (arr.take o ++ c ++ arr.drop (o + c.length)) (by simpa using hl) (fun j p u hj hu=>by
   obtain ⟨k1,k2,k3⟩:=hp (j + 1) p u (by simpa using hj) (by simpa using hu)
   exact ⟨k1,k2,by simp; omega⟩)
  simp only [Instr.fill]
  have e0:places.toArray[i]? = some (o,c.length):=by simpa using h2
  simp only [e0]
  rw [if_neg (by rw [h1]; simp; omega)]
  have e:(v.cells.zipIdx.foldl (fun (cs:Array Value) (x:Value × Nat)=>cs.setIfInBounds (o + x.2) x.1) arr.toArray)=(arr.take o ++ c ++ arr.drop (o + c.length)).toArray:=by
   rw [h1]
   have:=iP c arr o 0 (by omega)
   have e4:c.toArray.zipIdx=(c.zipIdx 0).toArray:=by simp
   rw [e4,List.foldl_toArray,this]
   simp
  rw [e,ih,updC]
theorem qU {d:Nat} {t t':TypeId} {pos:String} {af:Array Edge} {szs:List Nat} {parts:Array (Nat × Operand)} {vs:List Value} {cs:List (List Value)} {zs:List Value} {sz bytes:Nat} (hd:Nat.blt d N=true)
  (ht:Plc P t szs) (hz:Sz P t sz bytes (.agg zs.toArray)) (hx:evs E (parts.toList.map (·.2))=some vs) (hc:Cls vs cs)
  (hok:(((parts.toList.map (·.1)).zip (cs.map List.length)).all (fun p=>decide (p.1 < szs.length) && Nat.beq (szs.getD p.1 0) p.2 && Nat.ble ((szs.take p.1).sum + p.2) zs.length))=true) (hlen:parts.size=cs.length)
  (h:Ops P r N all K rest D ((d,.agg (updC zs (((parts.toList.map (·.1)).map fun i=>(szs.take i).sum).zip cs)).toArray) :: E) w):Ops P r N all K (⟨some d,.build t parts,t',pos,af,none⟩ :: rest) D E w:=by
 refine xD hd (by intro c hc; cases hc) (fun a ha=>?_) h
 obtain ⟨fields,it,z,places,p1,p2,p3,p4,p5,p6⟩:=ht
 obtain ⟨it',q1,q2,q3,q4⟩:=hz
 have hit:it=it':=by rw [q1] at p2; exact (Option.some.inj p2).symm
 subst hit
 have hzz:z = .agg zs.toArray:=by rw [q4] at p3; exact (Option.some.inj p3).symm
 subst hzz
 have hcl:∀ (vs:List Value) (cs:List (List Value)),Cls vs cs→∀ (i:Nat) (v:Value) (c:List Value),vs[i]? = some v→cs[i]? = some c→v.cells=c.toArray:=by
  intro vs
  induction vs with
  | nil=>intro cs h i v c hv; simp at hv
  | cons v vs ih =>
   intro cs h i v' c hv hc
   cases cs with
   | nil=>exact h.elim
   | cons c0 cs =>
    cases i with
    | zero=>simp at hv hc; subst hv; subst hc; exact h.1
    | succ i=>exact ih cs h.2 i v' c (by simpa using hv) (by simpa using hc)
 have hf:=vE (places:=places) (parts.toList.map fun x=>(x.1,a.eval x.2)) (((parts.toList.map (·.1)).map fun i=>(szs.take i).sum).zip cs) zs (by simp; have:=hlen; omega) (fun i p u hp hu=>by
  have h3:=ha.evs hx
  rw [List.getElem?_map] at hp
  cases hpi:parts.toList[i]? with
  | none=>rw [hpi] at hp; cases hp
  | some q =>
   rw [hpi] at hp; simp at hp; subst hp
   rw [List.getElem?_zip_eq_some] at hu
   obtain ⟨hu1,hu2⟩:=hu
   simp [hpi] at hu1
   have hv:vs[i]? = some (a.eval q.2):=by rw [← h3]; simp [hpi]
   have hcell:=hcl vs cs hc i _ _ hv hu2
   rw [List.all_eq_true] at hok
   have hk:=hok (q.1,u.2.length) (by
    rw [List.mem_iff_getElem?]
    refine ⟨i,?_⟩
    rw [List.getElem?_zip_eq_some]; simp [hpi,hu2])
   simp only [Bool.and_eq_true,decide_eq_true_eq,Nat.ble_eq] at hk
   obtain ⟨⟨hk1,hk2⟩,hk3⟩:=hk
   have hk2:=Nat.eq_of_beq_eq_true hk2
   refine ⟨hcell,?_,by rw [← hu1]; exact hk3⟩
   rw [p6 q.1 hk1,← hu1,hk2])
 have e1:(Instr.build t (parts.map fun (i,x)=>(i,a.eval x))).run P w = .ok (.agg (updC zs (((parts.toList.map (·.1)).map fun i=>(szs.take i).sum).zip cs)).toArray) w:=by
  refine run_build (P:=P) w t _ _ ?_
  unfold Program.built
  rw [p2,p1]
  simp only [p3,p5]
  rw [Array.toList_map]
  exact hf
 simp only [execOp,Sem.run_bind,e1,Result.andThen]; rfl
end strct2
theorem allc {u:Value} {us:List Value} (h:u.oneCell'=true) (k:∀ v ∈ us,v.oneCell'=true):∀ v ∈ u :: us,v.oneCell'=true:=fun v hv=>by
 rcases List.mem_cons.1 hv with rfl | hv
 ·exact h
 ·exact k v hv
theorem alln:∀ v ∈ ([]:List Value),v.oneCell'=true:=fun v hv=>by cases hv
def NB (w:World) (b:Nat):Nat→Prop:=fun k=>k < w.heap.size∧k ≠ b
theorem mA {w:World} {b:Nat}:FOk (NB w b) w:=fun k h=>h.1
theorem eJ {w:World} {b:Nat}:¬ NB w b b:=fun h=>h.2 rfl
theorem Le.refz {Fz M M':Nat→Prop} {w w':World} {b:Nat} (l:Le (NB w b) M w M' w') (hn:¬ Fz b):Le Fz M w M' w' :=
 ⟨l.os,l.tape,l.output,l.size,fun k hk hf=>l.frz k hk ⟨hk,fun e=>hn (e ▸ hf)⟩,l.imm,l.chg,l.ok⟩
theorem Blk.nb {M M':Nat→Prop} {w w':World} {b c:Nat} {t:TypeId} {cs:List Value} (h:Blk w c t cs) (l:Le (NB w b) M w M' w') (hne:c ≠ b):Blk w' c t cs:=(l.frz c h.lt ⟨h.lt,hne⟩).trans h
theorem ops_builtc {P:Program} {r:Option Nat} {N:Nat} {all:Array Oper} {K:Pd} {D:List Deferred} {E:Env} {w:World} {rest:List Oper} {d:Nat} {t t':TypeId} {pos:String} {af:Array Edge} {parts:Array (Nat × Operand)} {ps:List (Nat × Value)} {us:List Value} (hd:Nat.blt d N=true)
  (hb:P.built t ps=some us.toArray) (hx:evs E (parts.toList.map (·.2))=some (ps.map (·.2))) (hi:parts.toList.map (·.1)=ps.map (·.1))
  (h:Ops P r N all K rest D ((d,.agg us.toArray) :: E) w):Ops P r N all K (⟨some d,.build t parts,t',pos,af,none⟩ :: rest) D E w:=by
 refine xD hd (by intro c hc; cases hc) (fun a ha=>?_) h
 have h3:=ha.evs hx
 have e0:parts.toList.map (fun x=>(x.1,a.eval x.2))=ps:=by
  apply List.ext_getElem
  ·have:=congrArg List.length hi; simpa using this
  ·intro n hn1 hn2
   simp at hn1 hn2
   have e1:(parts.toList.map (·.1))[n]'(by simpa using hn1)=(ps.map (·.1))[n]'(by simpa using hn2):=by simp [hi]
   have e2:((parts.toList.map (·.2)).map a.eval)[n]'(by simpa using hn1)=(ps.map (·.2))[n]'(by simpa using hn2):=by simp [h3]
   simp at e1 e2
   simp [e1,e2]
 have e1:(Instr.build t (parts.map fun (i,x)=>(i,a.eval x))).run P w = .ok (.agg us.toArray) w:=by
  refine run_build (P:=P) w t _ _ ?_
  rw [Array.toList_map,show (List.map (fun (x:Nat × Operand)=>match x with | (i,x)=>(i,a.eval x)) parts.toList)=ps from e0]
  exact hb
 simp only [execOp,Sem.run_bind,e1,Result.andThen]; rfl
theorem agg_cells (us:List Value):(Value.agg us.toArray).cells.toList=us:=rfl
theorem IsNat.rs {M S:Nat→Prop} {w w':World} {v:Value} {xs:List Nat} (h:IsNat M w v xs) (r:Rs S w w') (hS:∀ k,S k→M k):IsNat M w' v xs:=h.mono (Fz:=fun _=>False) (Le.of_rs r hS (fun _ _ h=>h))
abbrev RelV (α:Type):=(Nat→Prop)→World→α→List Value→Prop
def RowOf {α:Type} (R:RelV α) (sz:Nat) (M:Nat→Prop) (w:World) (v:Value) (l:List α):Prop :=
 ∃ cs,Slc M w sz v l.length cs∧∀ (i:Nat) (a:α),l[i]? = some a→∃ us:List Value,us.length=sz∧(∀ (q:Nat) (u:Value),us[q]? = some u→cs[i * sz + q]? = some u)∧R M w a us
theorem RowOf.mono {α:Type} {R:RelV α} {sz:Nat} {Fz M M':Nat→Prop} {w w':World} {v:Value} {l:List α} (h:RowOf R sz M w v l) (k:Le Fz M w M' w') (hR:∀ a us,R M w a us→R M' w' a us):RowOf R sz M' w' v l:=by
 obtain ⟨cs,h1,h2⟩:=h
 exact ⟨cs,h1.mono k,fun i a ha=>let ⟨us,h3,h4,h5⟩:=h2 i a ha; ⟨us,h3,h4,hR a us h5⟩⟩
theorem RowOf.drift {α:Type} {R:RelV α} {sz n:Nat} {M T:Nat→Prop} {w w':World} {v:Value} {l:List α} (h:RowOf R sz M w v l) (d:Drift T n w w') (ht:∀ k,T k→M k) (hR:∀ a us,R M w a us→R M w' a us):RowOf R sz M w' v l:=by
 obtain ⟨cs,h1,h2⟩:=h
 exact ⟨cs,h1.drift d ht,fun i a ha=>let ⟨us,h3,h4,h5⟩:=h2 i a ha; ⟨us,h3,h4,hR a us h5⟩⟩
theorem Keep.slc {M:Nat→Prop} {w0 w:World} {sz n:Nat} {v:Value} {cs:List Value} (h:Keep M w0 w) (hs:Slc M w0 sz v n cs):Slc M w sz v n cs:=by
 obtain ⟨h1,h2,ad,cap,h3,h4,h5⟩:=hs
 refine ⟨h1,h2,ad,cap,h3,h4,?_⟩
 rcases h5 with h5 | ⟨b,off,h5,h6,cur,t,fz,h7,h8⟩
 ·exact .inl h5
 ·exact .inr ⟨b,off,h5,h6,cur,t,fz,(h.2 b (Array.getElem?_eq_some_iff.1 h7).1 h6).trans h7,h8⟩
theorem RowOf.keep {α:Type} {R:RelV α} {sz:Nat} {M:Nat→Prop} {w0 w:World} {v:Value} {l:List α} (h:RowOf R sz M w0 v l) (k:Keep M w0 w) (hR:∀ a us,R M w0 a us→R M w a us):RowOf R sz M w v l:=by
 obtain ⟨cs,h1,h2⟩:=h
 exact ⟨cs,k.slc h1,fun i a ha=>let ⟨us,h3,h4,h5⟩:=h2 i a ha; ⟨us,h3,h4,hR a us h5⟩⟩
def RI:RelV (Bool × List Nat):=fun M w p us=>∃ u,us=[.bool p.1,u]∧IsNat M w u p.2
structure IsInts (M:Nat→Prop) (w:World) (v:Value) (l:List (Bool × List Nat)):Prop where
 row:RowOf RI 2 M w v l
theorem IsInts.mono {Fz M M':Nat→Prop} {w w':World} {v:Value} {l:List (Bool × List Nat)} (h:IsInts M w v l) (k:Le Fz M w M' w'):IsInts M' w' v l:=⟨h.row.mono k fun _ _ ⟨u,h1,h2⟩=>⟨u,h1,h2.mono k⟩⟩
theorem IsInts.drift {n:Nat} {M T:Nat→Prop} {w w':World} {v:Value} {l:List (Bool × List Nat)} (h:IsInts M w v l) (d:Drift T n w w') (ht:∀ k,T k→M k):IsInts M w' v l:=⟨h.row.drift d ht fun _ _ ⟨u,h1,h2⟩=>⟨u,h1,h2.drift d ht⟩⟩
theorem IsInts.less {M M':Nat→Prop} {w:World} {v:Value} {l:List (Bool × List Nat)} (h:IsInts M w v l) (hm:∀ k,M' k→M k):IsInts M' w v l:=h.mono (Fz:=fun _=>False) (Le.less hm)
theorem Keep.ints {M:Nat→Prop} {w0 w:World} {v:Value} {l:List (Bool × List Nat)} (k:Keep M w0 w) (h:IsInts M w0 v l):IsInts M w v l:=⟨h.row.keep k fun _ _ ⟨u,h1,h2⟩=>⟨u,h1,k.nat h2⟩⟩
theorem IsInts.len {M:Nat→Prop} {w:World} {v:Value} {l:List (Bool × List Nat)} (h:IsInts M w v l):l.length≤9223372036854775807:=by obtain ⟨cs,h1,_⟩:=h.row; exact h1.len
theorem KBlk.less {M M':Nat→Prop} {w:World} {b:Nat} {t:TypeId} {cs:List Value} (h:KBlk M w b t cs) (hm:∀ k,M' k→M k):KBlk M' w b t cs:=⟨h.blk,fun c=>h.not (hm b c)⟩
theorem Le.drift_all {Fz M M':Nat→Prop} {n:Nat} {w w':World} (l:Le Fz M w M' w') (hF:Fz=(· < w.heap.size)) (hn:n≤w.heap.size):Drift NoT n w w':=by
 subst hF
 exact ⟨l.os,l.tape,l.output,l.size,fun k hk _=>l.frz k (by omega) (by show k < w.heap.size; omega),fun k cs t fz _ hc=>by
  have:=(Array.getElem?_eq_some_iff.1 hc).1
  exact (l.frz k this this).trans hc⟩
theorem yZ {α:Type} {l:List α} {s:Nat} (d:α) (h:s < l.length):l.take (s + 1)=l.take s ++ [l.getD s d]∧l=l.take s ++ l.getD s d :: l.drop (s + 1):=by
 have e:l.getD s d=l[s]:=by simp [h]
 rw [e]
 exact ⟨by rw [List.take_add_one,List.getElem?_eq_getElem h]; rfl,by rw [List.getElem_cons_drop,List.take_append_drop]⟩
section rows
variable {P : Program} {r : Option Nat} {N : Nat} {all : Array Oper} {K : Pd} {D : List Deferred} {E : Env} {w : World} {rest : List Oper} {M : Nat → Prop}
theorem tL {α:Type} {R:RelV α} {dflt:α} {d:Nat} {x ix:Operand} {t e t':TypeId} {pos:String} {af:Array Edge} {sz bytes:Nat} {z:Value} {v:Value} {l:List α} {k:IntKind} {i:Int} (j:Nat) (hd:Nat.blt d N=true)
  (ht:P.underlying t=some (.slice e)) (he:Sz P e sz bytes z) (hx:ev E x=some v) (hi:ev E ix=some (.int k i)) (hv:RowOf R sz M w v l) (hij:i=(j:Int)) (hj:j < l.length)
  (h:∀ b off us,us.length=sz→R M w (l.getD j dflt) us→(∀ (q:Nat) (u:Value),us[q]? = some u→w.cell? ⟨b,off + q,none⟩=some u)→Ops P r N all K rest D ((d,.pointer (some ⟨b,off,none⟩)) :: E) w) :
  Ops P r N all K (⟨some d,.indexAddr t x ix,t',pos,af,none⟩ :: rest) D E w:=by
 obtain ⟨cs,h1,h2⟩:=hv
 obtain ⟨us,h3,h4,h5⟩:=h2 j (l.getD j dflt) (by simp [List.getElem?_eq_getElem hj])
 exact rQ j hd ht he hx hi h1 hij hj fun b off _ hc=>h b off us h3 h5 fun q u hq=>hc q u (h4 q u hq)
theorem tJ {α:Type} {R:RelV α} {d:Nat} {x:Operand} {t e t':TypeId} {pos:String} {af:Array Edge} {sz:Nat} {v:Value} {l:List α} (hd:Nat.blt d N=true)
  (ht:P.underlying t=some (.slice e)) (hx:ev E x=some v) (hv:RowOf R sz M w v l)
  (h:Ops P r N all K rest D ((d,.int .i64 (l.length:Int)) :: E) w):Ops P r N all K (⟨some d,.call ⟨.builtin .len,#[x],#[t]⟩,t',pos,af,none⟩ :: rest) D E w:=by
 obtain ⟨cs,h1,_⟩:=hv
 exact eH hd ht hx h1 h
end rows
theorem nat_ins {M:Nat→Prop} {w:World} {b:Nat} {t:TypeId} {cs:List Value} {v:Value} {xs:List Nat} (h:IsNat M w v xs) (B:Blk w b t cs) (hc:∀ c ∈ cs,∀ x,c ≠ lw x):IsNat (Ins b M) w v xs:=by
 refine ⟨?_,h.lt⟩
 obtain ⟨h1,h2,ad,cap,h3,h4,h5⟩:=h.slc
 refine ⟨h1,h2,ad,cap,h3,h4,?_⟩
 rcases h5 with h5 | ⟨b',off,h5,h6,cur,t',fz,h7,h8⟩
 ·exact .inl h5
 ·rcases Nat.eq_zero_or_pos xs.length with h0 | h0
  ·exact .inl h0
  ·refine .inr ⟨b',off,h5,fun hm=>?_,cur,t',fz,h7,h8⟩
   rcases hm with rfl | hm
   ·have h9:=h8 0 (lw (xs.getD 0 0)) (gA h0)
    rw [show w.heap[b']? = _ from B] at h7
    injection h7 with h7; injection h7 with h7
    subst h7
    have hmem:lw (xs.getD 0 0) ∈ cs:=by
     have:=List.mem_of_getElem? (l:=cs) (i:=off + 0) (a:=lw (xs.getD 0 0)) (by simpa using h9)
     exact this
    exact hc _ hmem _ rfl
   ·exact h6 hm
theorem zL3 {M M':Nat→Prop} {w:World} {b:Nat} {t:TypeId} {s:Bool} {q v:Value} {xs ys:List Nat} (h:IsNat M w v xs) (hq:IsNat M' w q ys) (B:Blk w b t [.bool s,q]):IsNat (Ins b M) w v xs :=
 nat_ins h B fun c hc x=>by
  obtain ⟨_,_,ad,cap,rfl,_⟩:=hq.slc
  rcases List.mem_cons.1 hc with rfl | hc
  ·simp [lw]
  ·rcases List.mem_cons.1 hc with rfl | hc
   ·simp [lw]
   ·cases hc
theorem vF {pl:Nat→Option (Nat × Nat)} {sz:Nat} (hpl:∀ i,pl i=some (i * sz,sz)):∀ (vs:List Value) (cs:List (List Value)) (pre old:List Value) (k:Nat),Cls vs cs→(∀ c ∈ cs,c.length=sz)→pre.length=k * sz→old.length=cs.length * sz →
  Instr.fill pl (pre ++ old).toArray ((vs.zipIdx k).map fun x=>(x.2,x.1))=some (pre ++ cs.flatten).toArray
 | [],[],pre,old,k,_,_,_,ho=>by
  have:old=[]:=by simpa using ho
  subst this; simp [Instr.fill]
 | [],_ :: _,_,_,_,h,_,_,_=>h.elim
 | _ :: _,[],_,_,_,h,_,_,_=>h.elim
 | v :: vs,c :: cs,pre,old,k,⟨h1,h2⟩,hs,hp,ho=>by
  have hcl:=hs c (by simp)
  simp only [List.length_cons,Nat.add_mul,Nat.one_mul] at ho
  have ih:=vF hpl vs cs (pre ++ c) (old.drop c.length) (k + 1) h2 (fun c hc=>hs c (by simp [hc])) (by rw [List.length_append,hp,hcl,Nat.add_mul,Nat.one_mul]) (by simp; omega)
  simp only [List.zipIdx_cons,List.map_cons,Instr.fill,hpl k]
  rw [if_neg (by rw [h1]; simp; omega)]
  have e:(v.cells.zipIdx.foldl (fun (cs:Array Value) (x:Value × Nat)=>cs.setIfInBounds (k * sz + x.2) x.1) (pre ++ old).toArray)=(pre ++ c ++ old.drop c.length).toArray:=by
   rw [h1]
   have:=iP c (pre ++ old) pre.length 0 (by simp; omega)
   have e4:c.toArray.zipIdx=(c.zipIdx 0).toArray:=by simp
   rw [e4,List.foldl_toArray,← hp,this]
   simp [List.drop_append]
  rw [e,ih]; simp
theorem uR {P:Program} {r:Option Nat} {N:Nat} {all:Array Oper} {K:Pd} {D:List Deferred} {E:Env} {w:World} {rest:List Oper} {d:Nat} {t e t':TypeId} {pos:String} {af:Array Edge} {sz bytes:Nat} {z:Value} {len:Nat} {parts:Array (Nat × Operand)} {vs:List Value} {cs:List (List Value)} (hd:Nat.blt d N=true)
  (ht:P.underlying t=some (.slice e)) (he:Sz P e sz bytes z) (hz:z.cells.size=sz) (hs0:Nat.beq sz 0=false) (hi:parts.toList.map (·.1)=List.range len) (hx:evs E (parts.toList.map (·.2))=some vs) (hc:Cls vs cs) (hcs:(cs.all fun c=>Nat.beq c.length sz)=true) (hl:Nat.ble (len * sz) 1000=true) (h0:Nat.beq len 0=false)
  (h:∀ w' b,New w w' b (.cells cs.flatten.toArray e)→Ops P r N all K rest D ((d,.slice (some ⟨b,0,none⟩) len len) :: E) w') :
  Ops P r N all K (⟨some d,.buildSlice t len parts,t',pos,af,none⟩ :: rest) D E w:=by
 refine xD hd (by intro c hc; cases hc) (fun a ha=>?_) (h _ _ (New.of_alloc w (.cells cs.flatten.toArray e)))
 have hsz0:sz ≠ 0:=Nat.ne_of_beq_eq_false hs0
 have hl0:len ≠ 0:=Nat.ne_of_beq_eq_false h0
 have hlen:∀ (vs:List Value) (cs:List (List Value)),Cls vs cs→vs.length=cs.length:=by
  intro vs
  induction vs with
  | nil=>intro cs h; cases cs with
   | nil=>rfl
   | cons=>exact h.elim
  | cons v vs ih=>intro cs h; cases cs with
   | nil=>exact h.elim
   | cons c cs=>simp [ih cs h.2]
 have hvl:vs.length=len:=by
  have:=congrArg List.length (ha.evs hx)
  have h2:=congrArg List.length hi
  simp at this h2; omega
 have hll:len * sz≤1000:=by simpa [Nat.ble_eq] using hl
 have hparts:parts.toList.map (fun x=>(x.1,a.eval x.2))=vs.zipIdx.map fun x=>(x.2,x.1):=by
  have h3:=ha.evs hx
  apply List.ext_getElem
  ·have h2:=congrArg List.length hi; simp at h2; simp; omega
  ·intro n hn1 hn2
   simp at hn1 hn2
   have e1:(parts.toList.map (·.1))[n]'(by simpa using hn1)=n:=by simp [hi]
   have e2:((parts.toList.map (·.2)).map a.eval)[n]'(by simpa using hn1)=vs[n]'(by omega):=by simp [h3]
   simp at e1 e2
   simp [e1,e2]
 obtain ⟨q,q1,q2,q3,q4⟩:=he
 have hf:=vF (pl:=fun i=>some (i * sz,sz)) (sz:=sz) (fun _=>rfl) vs cs [] (((Array.range (len * sz)).map fun x=>z.cells[x % z.cells.size]!).toList) 0 hc (fun c hc=>by
  rw [List.all_eq_true] at hcs
  exact Nat.eq_of_beq_eq_true (hcs c hc)) (by simp) (by have:=hlen _ _ hc; simp; rw [← this,hvl])
 simp only [List.nil_append,Array.toArray_toList] at hf
 have e1:(Instr.buildSlice t len (parts.map fun (i,x)=>(i,a.eval x))).run P w = .ok (.slice (some ⟨w.heap.size,0,none⟩) len len) (w.alloc (.cells cs.flatten.toArray e)):=by
  unfold Instr.buildSlice
  have hlt:¬ (16777216 < len * sz):=by omega
  have hne:¬ (len * sz=0):=Nat.mul_ne_zero hl0 hsz0
  have hne2:¬ (len=0 ∨ sz=0):=by omega
  simp [run_underlying ht,sizeOf,typeInfo,q1,q2,newRow,hparts,hne,hne2,hlt,zeroValue,q4]
  rw [hf]
  simp
 simp only [execOp,Sem.run_bind,e1,Result.andThen]; rfl
end Go.SL
namespace Go.SL
open Go.RowKit
theorem grow_of {W w':World} (h:Bel W.heap.size W w'):∃ q os',w'=Sort.grow (W.drewN q) os':=by
 refine ⟨w'.drawn - W.drawn,w'.heap.extract W.heap.size w'.heap.size,?_⟩
 obtain ⟨h1,⟨h2,h3⟩,h4,h5,h6⟩:=h
 obtain ⟨hp,tp,dr,os,out⟩:=w'
 obtain ⟨hp0,tp0,dr0,os0,out0⟩:=W
 simp only [Sort.grow,World.drewN] at *
 subst h1; subst h2; subst h4
 congr 1
 ·apply Array.ext
  ·simp; omega
  ·intro i hi1 hi2
   rcases Nat.lt_or_ge i hp0.size with c | c
   ·have h7:=h6 i c
    rw [Array.getElem?_eq_getElem hi1,Array.getElem?_eq_getElem c] at h7
    rw [Array.getElem_append_left c]
    exact Option.some.inj h7
   ·rw [Array.getElem_append_right c]
    simp [show hp0.size + (i - hp0.size)=i by omega]
 ·omega
end Go.SL
namespace Go.SL
open Go.RowKit Go.Shelf Go.Proofs Go.Sort
section
variable {α : Type} [Inhabited α] {enc : α → List Value} {k : Nat} {w : World} {blk off m : Nat} {dk : Array α} {os : Array Obj}
theorem lW {i:Nat} (hi:i < w.heap.size) (hne:i ≠ blk):(sortWorldK enc k w blk off m dk os).heap[i]? = w.heap[i]?:=by
 show ((w.heap.modify blk _) ++ os)[i]? = _
 rw [Array.getElem?_append_left (by simpa using hi),Array.getElem?_modify,if_neg (fun e=>hne e.symm)]
theorem nG:w.heap.size≤(sortWorldK enc k w blk off m dk os).heap.size:=by
 show _≤((w.heap.modify blk _) ++ os).size
 simp
theorem zL7 {Fz M:Nat→Prop} (hm:M blk) (hf:¬ Fz blk):Le Fz M w M (sortWorldK enc k w blk off m dk os) :=
 ⟨rfl,⟨rfl,Nat.le_add_right _ _⟩,rfl,nG,fun i hi hF=>lW hi (fun e=>hf (e ▸ hF)),fun i hi hM=>lW hi (fun e=>hM (e ▸ hm)),fun _ h => .inl h,fun ho i hi=>Nat.lt_of_lt_of_le (ho i hi) nG⟩
theorem cmp_lays {P:Program} {g:Nat} {cf:α→α→Int} {size:Nat}
  (hc:∀ (m:Nat) (os:Array Obj) (dk:Array α) (x y:α),CallsV P g [.agg (enc x).toArray,.agg (enc y).toArray] (sortWorldK enc k w blk off m dk os) fun r w'=>Bel (sortWorldK enc k w blk off m dk os).heap.size (sortWorldK enc k w blk off m dk os) w'∧r = .int .i64 (cf x y)) :
  CmpLays P g #[] enc k cf blk off size w:=fun m os dk _ x y =>
 Calls.mono (hc m os dk x y) fun e w' ⟨v,he,hB,hv⟩=>⟨by rw [he,hv],grow_of hB⟩
end
end Go.SL
namespace Go.Proofs
open Go.Shelf
def Tryz.sortPt_ren:Go.Shelf.Ren:=⟨fun | 6=>68 | 15=>131 | 14=>130 | 28=>195 | 29=>196 | 20=>187 | 21=>188 | 22=>189 | 23=>190 | 24=>191 | 25=>192 | 26=>193 | 27=>194 | 46=>257 | 47=>258 | 48=>259 | 49=>260 | 50=>261 | 57=>288 | n=>n,fun | 22=>22 | 24=>35 | 25=>39 | 3=>3 | 39=>137 | 0=>0 | 53=>139 | 55=>168 | 4=>4 | 46=>195 | 45=>194 | 50=>105 | 5=>5 | 9=>9 | 66=>245 | 70=>249 | 76=>264 | 77=>265 | n=>n,fun | n=>n⟩
theorem Tryz.sortPt:Go.Proofs.SlLaysF0.n6 Tryz.prog Tryz.sortPt_ren:={
 mixed:=by kernel_rfl
 f6:=⟨Tryz.f68.name,by decide,Tryz.func68.trans (congrArg some (by kernel_rfl))⟩
 f14:=⟨Tryz.f130.name,by decide,Tryz.func130.trans (congrArg some (by kernel_rfl))⟩
 f15:=Tryz.func131.trans (congrArg some (by kernel_rfl))
 f20:=⟨Tryz.f187.name,by decide,Tryz.func187.trans (congrArg some (by kernel_rfl))⟩
 f21:=⟨Tryz.f188.name,by decide,Tryz.func188.trans (congrArg some (by kernel_rfl))⟩
 f22:=⟨Tryz.f189.name,by decide,Tryz.func189.trans (congrArg some (by kernel_rfl))⟩
 f23:=⟨Tryz.f190.name,by decide,Tryz.func190.trans (congrArg some (by kernel_rfl))⟩
 f24:=⟨Tryz.f191.name,by decide,Tryz.func191.trans (congrArg some (by kernel_rfl))⟩
 f25:=⟨Tryz.f192.name,by decide,Tryz.func192.trans (congrArg some (by kernel_rfl))⟩
 f26:=⟨Tryz.f193.name,by decide,Tryz.func193.trans (congrArg some (by kernel_rfl))⟩
 f27:=⟨Tryz.f194.name,by decide,Tryz.func194.trans (congrArg some (by kernel_rfl))⟩
 f28:=Tryz.func195.trans (congrArg some (by kernel_rfl))
 f29:=Tryz.func196.trans (congrArg some (by kernel_rfl))
 f46:=⟨Tryz.f257.name,by decide,Tryz.func257.trans (congrArg some (by kernel_rfl))⟩
 f47:=Tryz.func258.trans (congrArg some (by kernel_rfl))
 f48:=Tryz.func259.trans (congrArg some (by kernel_rfl))
 f49:=⟨Tryz.f260.name,by decide,Tryz.func260.trans (congrArg some (by kernel_rfl))⟩
 f50:=⟨Tryz.f261.name,by decide,Tryz.func261.trans (congrArg some (by kernel_rfl))⟩
 f57:=⟨Tryz.f288.name,by decide,Tryz.func288.trans (congrArg some (by kernel_rfl))⟩
 t0:=Tryz.underlying0
 a0:=Tryz.isAgg0
 z0:=Tryz.sizeOf0
 v0:=Tryz.zeroValue0
 t3:=Tryz.underlying3
 a3:=Tryz.isAgg3
 z3:=Tryz.sizeOf3
 v3:=Tryz.zeroValue3
 t4:=Tryz.underlying4
 a4:=Tryz.isAgg4
 z4:=Tryz.sizeOf4
 v4:=Tryz.zeroValue4
 t5:=Tryz.underlying5
 a5:=Tryz.isAgg5
 z5:=Tryz.sizeOf5
 v5:=Tryz.zeroValue5
 t9:=Tryz.underlying9
 a9:=Tryz.isAgg9
 z9:=Tryz.sizeOf9
 v9:=Tryz.zeroValue9
 t22:=Tryz.underlying22
 a22:=Tryz.isAgg22
 z22:=Tryz.sizeOf22
 v22:=Tryz.zeroValue22
 t25:=Tryz.underlying39
 a25:=Tryz.isAgg39
 z25:=Tryz.sizeOf39
 v25:=Tryz.zeroValue39
 t39:=Tryz.underlying137
 a39:=Tryz.isAgg137
 z39:=Tryz.sizeOf137
 v39:=Tryz.zeroValue137
 t45:=Tryz.underlying194
 a45:=Tryz.isAgg194
 z45:=Tryz.sizeOf194
 v45:=Tryz.zeroValue194
 t46:=Tryz.underlying195
 a46:=Tryz.isAgg195
 z46:=Tryz.sizeOf195
 v46:=Tryz.zeroValue195
 t50:=Tryz.underlying105
 a50:=Tryz.isAgg105
 z50:=Tryz.sizeOf105
 v50:=Tryz.zeroValue105
 t53:=Tryz.underlying139
 a53:=Tryz.isAgg139
 z53:=Tryz.sizeOf139
 v53:=Tryz.zeroValue139
 t55:=Tryz.underlying168
 a55:=Tryz.isAgg168
 z55:=Tryz.sizeOf168
 v55:=Tryz.zeroValue168
 t66:=Tryz.underlying245
 a66:=Tryz.isAgg245
 z66:=Tryz.sizeOf245
 v66:=Tryz.zeroValue245
 t70:=Tryz.underlying249
 a70:=Tryz.isAgg249
 z70:=Tryz.sizeOf249
 v70:=Tryz.zeroValue249
 t76:=Tryz.underlying264
 a76:=Tryz.isAgg264
 z76:=Tryz.sizeOf264
 v76:=Tryz.zeroValue264
 t77:=Tryz.underlying265
 a77:=Tryz.isAgg265
 z77:=Tryz.sizeOf265
 v77:=Tryz.zeroValue265 }
def Tryz.sortRat_ren:Go.Shelf.Ren:=⟨fun | 6=>124 | 15=>131 | 14=>177 | 28=>195 | 29=>196 | 20=>238 | 21=>239 | 22=>240 | 23=>241 | 24=>242 | 25=>243 | 26=>244 | 27=>245 | 46=>282 | 47=>258 | 48=>259 | 49=>283 | 50=>284 | 57=>297 | n=>n,fun | 22=>66 | 24=>33 | 25=>61 | 3=>3 | 39=>137 | 0=>0 | 53=>139 | 55=>168 | 4=>4 | 46=>195 | 45=>194 | 50=>105 | 5=>5 | 9=>9 | 66=>245 | 70=>249 | 76=>264 | 77=>265 | n=>n,fun | n=>n⟩
theorem Tryz.sortRat:Go.Proofs.SlLaysF0.n6 Tryz.prog Tryz.sortRat_ren:={
 mixed:=by kernel_rfl
 f6:=⟨Tryz.f124.name,by decide,Tryz.func124.trans (congrArg some (by kernel_rfl))⟩
 f14:=⟨Tryz.f177.name,by decide,Tryz.func177.trans (congrArg some (by kernel_rfl))⟩
 f15:=Tryz.func131.trans (congrArg some (by kernel_rfl))
 f20:=⟨Tryz.f238.name,by decide,Tryz.func238.trans (congrArg some (by kernel_rfl))⟩
 f21:=⟨Tryz.f239.name,by decide,Tryz.func239.trans (congrArg some (by kernel_rfl))⟩
 f22:=⟨Tryz.f240.name,by decide,Tryz.func240.trans (congrArg some (by kernel_rfl))⟩
 f23:=⟨Tryz.f241.name,by decide,Tryz.func241.trans (congrArg some (by kernel_rfl))⟩
 f24:=⟨Tryz.f242.name,by decide,Tryz.func242.trans (congrArg some (by kernel_rfl))⟩
 f25:=⟨Tryz.f243.name,by decide,Tryz.func243.trans (congrArg some (by kernel_rfl))⟩
 f26:=⟨Tryz.f244.name,by decide,Tryz.func244.trans (congrArg some (by kernel_rfl))⟩
 f27:=⟨Tryz.f245.name,by decide,Tryz.func245.trans (congrArg some (by kernel_rfl))⟩
 f28:=Tryz.func195.trans (congrArg some (by kernel_rfl))
 f29:=Tryz.func196.trans (congrArg some (by kernel_rfl))
 f46:=⟨Tryz.f282.name,by decide,Tryz.func282.trans (congrArg some (by kernel_rfl))⟩
 f47:=Tryz.func258.trans (congrArg some (by kernel_rfl))
 f48:=Tryz.func259.trans (congrArg some (by kernel_rfl))
 f49:=⟨Tryz.f283.name,by decide,Tryz.func283.trans (congrArg some (by kernel_rfl))⟩
 f50:=⟨Tryz.f284.name,by decide,Tryz.func284.trans (congrArg some (by kernel_rfl))⟩
 f57:=⟨Tryz.f297.name,by decide,Tryz.func297.trans (congrArg some (by kernel_rfl))⟩
 t0:=Tryz.underlying0
 a0:=Tryz.isAgg0
 z0:=Tryz.sizeOf0
 v0:=Tryz.zeroValue0
 t3:=Tryz.underlying3
 a3:=Tryz.isAgg3
 z3:=Tryz.sizeOf3
 v3:=Tryz.zeroValue3
 t4:=Tryz.underlying4
 a4:=Tryz.isAgg4
 z4:=Tryz.sizeOf4
 v4:=Tryz.zeroValue4
 t5:=Tryz.underlying5
 a5:=Tryz.isAgg5
 z5:=Tryz.sizeOf5
 v5:=Tryz.zeroValue5
 t9:=Tryz.underlying9
 a9:=Tryz.isAgg9
 z9:=Tryz.sizeOf9
 v9:=Tryz.zeroValue9
 t22:=Tryz.underlying66
 a22:=Tryz.isAgg66
 z22:=Tryz.sizeOf66
 v22:=Tryz.zeroValue66
 t25:=Tryz.underlying61
 a25:=Tryz.isAgg61
 z25:=Tryz.sizeOf61
 v25:=Tryz.zeroValue61
 t39:=Tryz.underlying137
 a39:=Tryz.isAgg137
 z39:=Tryz.sizeOf137
 v39:=Tryz.zeroValue137
 t45:=Tryz.underlying194
 a45:=Tryz.isAgg194
 z45:=Tryz.sizeOf194
 v45:=Tryz.zeroValue194
 t46:=Tryz.underlying195
 a46:=Tryz.isAgg195
 z46:=Tryz.sizeOf195
 v46:=Tryz.zeroValue195
 t50:=Tryz.underlying105
 a50:=Tryz.isAgg105
 z50:=Tryz.sizeOf105
 v50:=Tryz.zeroValue105
 t53:=Tryz.underlying139
 a53:=Tryz.isAgg139
 z53:=Tryz.sizeOf139
 v53:=Tryz.zeroValue139
 t55:=Tryz.underlying168
 a55:=Tryz.isAgg168
 z55:=Tryz.sizeOf168
 v55:=Tryz.zeroValue168
 t66:=Tryz.underlying245
 a66:=Tryz.isAgg245
 z66:=Tryz.sizeOf245
 v66:=Tryz.zeroValue245
 t70:=Tryz.underlying249
 a70:=Tryz.isAgg249
 z70:=Tryz.sizeOf249
 v70:=Tryz.zeroValue249
 t76:=Tryz.underlying264
 a76:=Tryz.isAgg264
 z76:=Tryz.sizeOf264
 v76:=Tryz.zeroValue264
 t77:=Tryz.underlying265
 a77:=Tryz.isAgg265
 z77:=Tryz.sizeOf265
 v77:=Tryz.zeroValue265 }
end Go.Proofs
namespace Go.SL
open Go.RowKit Go.Shelf Go.Proofs Go.Sort
section
variable {α : Type} [Inhabited α] {enc : α → List Value} {k : Nat} {P : Program} {ρ : Ren}
theorem sort_calls (L:SlLaysF0.n6 P ρ) (aE:∀ w,(isAgg (ρ.t 24)).run P w = .ok true w) (zE:∀ w,(Go.sizeOf (ρ.t 24)).run P w = .ok k w) (hk:∀ x,(enc x).length=k) (h1:∀ x,∀ v ∈ enc x,v.oneCell'=true)
  (cf:α→α→Int) (hO:SWO (ltOf cf)) (g blk off cap:Nat) (d:Array α) (w:World) (eg:∀ args w,(callFunc g args).run P w = .ok (.enter g args) w)
  (hc:∀ (m:Nat) (os:Array Obj) (dk:Array α) (x y:α),CallsV P g [.agg (enc x).toArray,.agg (enc y).toArray] (sortWorldK enc k w blk off m dk os) fun r w'=>Bel (sortWorldK enc k w blk off m dk os).heap.size (sortWorldK enc k w blk off m dk os) w'∧r = .int .i64 (cf x y))
  (hH:HoldsK enc k w blk off d) (hblk:blk < w.heap.size) (hsz:d.size < 4611686018427387904) :
  Calls P (ρ.f 6) #[.slice (some ⟨blk,off,none⟩) d.size cap,.func (.func g) #[] #[]] w fun e w' =>
   e = .returned (.tuple #[])∧∃ d' n os,PermIn 0 d.size d d'∧SortedIn (ltOf cf) 0 d.size d'∧HoldsK enc k w' blk off d'∧w'=sortWorldK enc k w blk off n d' os :=
 (AnyQ.slices_SortFunc L k aE zE enc hk h1 cf hO g #[] blk off cap d w eg (cmp_lays hc) hH hblk hsz).mono fun e w' ⟨he,d',n,os,hp,hs,hw⟩ =>
  ⟨he,d',n,os,hp,hs,hw ▸ holdsK_sortWorldK_c enc k w blk off d d' n os hH hblk hp.1,hw⟩
end
structure EB {α:Type} (R:RelV α) (k:Nat) (M:Nat→Prop) (w:World) (cur:List Value) (l:List α):Prop where
 len:l.length * k≤cur.length
 at_:∀ (i:Nat) (a:α),l[i]? = some a→∃ us:List Value,us.length=k∧(∀ (q:Nat) (u:Value),us[q]? = some u→cur[i * k + q]? = some u)∧R M w a us
theorem mul_in {i n k:Nat} (h:i < n):i * k + k≤n * k:=by
 have:=Nat.mul_le_mul_right k (show i + 1≤n from h)
 rwa [Nat.add_mul,Nat.one_mul] at this
section
variable {β : Type} [Inhabited β] {P : Program} {ρ : Ren} {R : RelV β} {cf : β → β → Int} {k g b cap : Nat} {te : TypeId} {Fz M : Nat → Prop} {w : World} {cur : List Value} {l : List β}
theorem sort_row (L:SlLaysF0.n6 P ρ) (aE:∀ w,(isAgg (ρ.t 24)).run P w = .ok true w) (zE:∀ w,(Go.sizeOf (ρ.t 24)).run P w = .ok k w) (eg:∀ args w,(callFunc g args).run P w = .ok (.enter g args) w)
    (hO:SWO (ltOf cf)) (h1:∀ a us,R M w a us→∀ v ∈ us,v.oneCell'=true) (hm:M b) (hf:¬ Fz b)
    (hR:∀ W,Le Fz M w M W→∀ a us,R M w a us→R M W a us)
    (hc:∀ W,Le Fz M w M W→∀ x y us vs,R M W x us→R M W y vs→CallsV P g [.agg us.toArray,.agg vs.toArray] W fun r w'=>Bel W.heap.size W w'∧r = .int .i64 (cf x y))
    (hb:Blk w b te cur) (hE:EB R k M w cur l) (hne:0 < l.length) (hsz:l.length < 4611686018427387904) :
    Calls P (ρ.f 6) #[.slice (some ⟨b,0,none⟩) l.length cap,.func (.func g) #[] #[]] w fun e w' =>
      e = .returned (.tuple #[])∧∃ (cur':List Value) (l':List β),l'.Perm l∧(∀ i j,i < j→j < l'.length→¬ cf l'[j]! l'[i]! < 0)∧cur'.length=cur.length∧Blk w' b te cur'∧EB R k M w' cur' l'∧Le Fz M w M w':=by
  have h0:∀ i,∃ us:List Value,∀ a,l[i]? = some a→us.length=k∧(∀ (q:Nat) (u:Value),us[q]? = some u→cur[i * k + q]? = some u)∧R M w a us:=fun i=>by
    cases hi:l[i]? with
    | none=>exact ⟨[],fun a h=>by cases h⟩
    | some a=>obtain ⟨us,h⟩:=hE.at_ i a hi; exact ⟨us,fun a' e=>by cases e; exact h⟩
  obtain ⟨U,hU⟩:=Classical.axiomOfChoice h0
  have hg:∀ i:_root_.Fin l.length,l[i.val]? = some l[i]:=fun i=>List.getElem?_eq_getElem i.isLt
  let S:={ x:List Value × β // x.1.length=k∧(∀ v ∈ x.1,v.oneCell'=true)∧R M w x.2 x.1 }
  let d:Array S:=Array.ofFn fun i:_root_.Fin l.length=>⟨(U i,l[i]),(hU i _ (hg i)).1,h1 _ _ (hU i _ (hg i)).2.2,(hU i _ (hg i)).2.2⟩
  let enc:S→List Value:=fun x=>x.1.1
  have hds:d.size=l.length:=Array.size_ofFn
  haveI:Inhabited S:=⟨d[0]'(by omega)⟩
  have hd:∀ i (hi:i < l.length),d[i]! = ⟨(U i,l[i]),(hU i _ (hg ⟨i,hi⟩)).1,h1 _ _ (hU i _ (hg ⟨i,hi⟩)).2.2,(hU i _ (hg ⟨i,hi⟩)).2.2⟩:=fun i hi=>by
    rw [getElem!_pos d i (by omega)]; simp [d]
  have hH:HoldsK enc k w b 0 d:=fun j hj=>by
    rw [size_flatK,hds] at hj
    have k0:0 < k:=by
      rcases Nat.eq_zero_or_pos k with h | h
      · subst h; simp at hj
      · exact h
    have hi:j / k < l.length:=Nat.div_lt_of_lt_mul (by rw [Nat.mul_comm]; exact hj)
    obtain ⟨g1,g2,_⟩:=hU (j / k) _ (hg ⟨j / k,hi⟩)
    rw [get_flatK _ _ _ _ (by rw [hds]; exact hj),hd _ hi,Nat.zero_add]
    have hr:j % k < (U (j / k)).length:=by rw [g1]; exact Nat.mod_lt _ k0
    have g3:=g2 (j % k) _ (List.getElem?_eq_getElem hr)
    rw [show j / k * k + j % k=j by rw [Nat.mul_comm]; exact Nat.div_add_mod j k] at g3
    refine ⟨?_,by simp [World.frozen?,show w.heap[b]? = _ from hb]⟩
    rw [hb.cell,g3]
    simp [enc,getElem!_pos (U (j / k)) (j % k) hr]
  have hO':SWO (ltOf fun x y:S=>cf x.1.2 y.1.2):=⟨fun x=>hO.irrefl x.1.2,fun x y z=>hO.trans x.1.2 y.1.2 z.1.2,fun x y z=>hO.ntrans x.1.2 y.1.2 z.1.2⟩
  have hs:=sort_calls L aE zE (enc:=enc) (fun x=>x.2.1) (fun x=>x.2.2.1) (fun x y=>cf x.1.2 y.1.2) hO' g b 0 cap d w eg
    (fun m os dk x y=>by
      have hle:=zL7 (enc:=enc) (k:=k) (w:=w) (off:=0) (m:=m) (dk:=dk) (os:=os) (Fz:=Fz) hm hf
      exact hc _ hle _ _ _ _ (hR _ hle _ _ x.2.2.2) (hR _ hle _ _ y.2.2.2)) hH hb.lt (by omega)
  rw [hds] at hs
  refine hs.mono fun e w' ⟨he,d',n,os,hp,hso,hH',hw⟩=>⟨he,?_⟩
  have hle:Le Fz M w M w':=hw ▸ zL7 (Fz:=Fz) (M:=M) hm hf
  have hds':d'.size=l.length:=by have:=hp.1; omega
  have hbk:w'.heap[b]? = some (.cells (putCells id 0 (flatK enc k d') cur.toArray) te (0,0)):=by
    rw [hw]
    show ((w.heap.modify b _) ++ os)[b]? = _
    rw [Array.getElem?_append_left (by simpa using hb.lt),Array.getElem?_modify,if_pos rfl,show w.heap[b]? = _ from hb]; rfl
  have hgd:∀ i (hi:i < l.length),(d'.toList.map fun x=>x.1.2)[i]? = some d'[i]!.1.2:=fun i hi=>by
    rw [List.getElem?_map,Array.getElem?_toList,Array.getElem?_eq_getElem (by omega),getElem!_pos d' i (by omega)]; rfl
  refine ⟨(putCells id 0 (flatK enc k d') cur.toArray).toList,d'.toList.map fun x=>x.1.2,?_,?_,?_,?_,⟨?_,?_⟩,hle⟩
  · have h3:=(hp.2.2.map fun x=>x.1.2)
    rw [show d'.extract 0 l.length=d' by rw [← hds']; exact Array.extract_size,show d.extract 0 l.length=d by rw [← hds]; exact Array.extract_size] at h3
    refine h3.trans (List.Perm.of_eq ?_)
    apply List.ext_getElem?
    intro i
    rw [List.getElem?_map,Array.getElem?_toList]
    rcases Nat.lt_or_ge i l.length with c | c
    · rw [Array.getElem?_eq_getElem (by omega),List.getElem?_eq_getElem c]; simp [d]
    · rw [Array.getElem?_eq_none (by omega),List.getElem?_eq_none c]; rfl
  · intro i j hij hj
    rw [List.length_map,Array.length_toList,hds'] at hj
    have h4:=hso i j (Nat.zero_le _) hij hj
    rw [List.getElem!_eq_getElem?_getD,List.getElem!_eq_getElem?_getD,hgd i (by omega),hgd j hj]
    simpa [ltOf] using h4
  · simp [putCells]
  · show w'.heap[b]? = _
    rw [hbk]
  · simp [putCells,hds']; exact hE.len
  · intro i a ha
    have hi:i < l.length:=by
      have:=(List.getElem?_eq_some_iff.1 ha).1
      rwa [List.length_map,Array.length_toList,hds'] at this
    rw [hgd i hi] at ha
    obtain rfl:=Option.some.inj ha
    refine ⟨d'[i]!.1.1,d'[i]!.2.1,fun q u hq=>?_,hR _ hle _ _ d'[i]!.2.2.2⟩
    have hq':q < k:=by have:=(List.getElem?_eq_some_iff.1 hq).1; rw [d'[i]!.2.1] at this; exact this
    have h5:=(hH'.cell (i:=i) (c:=q) (by omega) hq').1
    rw [Nat.zero_add,World.cell?,hbk] at h5
    have h6:(putCells id 0 (flatK enc k d') cur.toArray)[i * k + q]? = some (enc d'[i]!)[q]!:=by simpa using h5
    rw [Array.getElem?_toList,h6,List.getElem!_eq_getElem?_getD,show (enc d'[i]!)[q]? = some u from hq]; rfl
end
end Go.SL
namespace Go.SL
open Go.RowKit
section
variable {P : Program} {r : Option Nat} {N : Nat} {all : Array Oper} {K : Pd} {D : List Deferred} {E : Env} {w : World} {rest : List Oper} {M : Nat → Prop} {α : Type} {R : RelV α} {dflt : α} {cur : List Value} {l : List α} {te : TypeId}
theorem ops_slicelo {d b n c:Nat} {x lo:Operand} {t e t':TypeId} {pos:String} {af:Array Edge} {sz bytes:Nat} {z:Value} {k:IntKind} (j:Nat) (hd:Nat.blt d N=true)
  (ht:P.underlying t=some (.slice e)) (he:Sz P e sz bytes z) (hx:ev E x=some (.slice (some ⟨b,0,none⟩) n c)) (hlo:ev E lo=some (.int k (j:Int))) (hj:j < n) (hn:n≤c)
  (h:Ops P r N all K rest D ((d,.slice (some ⟨b,j * sz,none⟩) (n - j) (c - j)) :: E) w):Ops P r N all K (⟨some d,.slice t x (some lo) none none,t',pos,af,none⟩ :: rest) D E w:=by
 refine aX j n c hd ht he hx ⟨k,hlo⟩ rfl rfl (by omega) hn (Nat.le_refl _) ?_
 rw [if_neg (by omega)]
 simpa [gN] using h
theorem ops_effv {op:Op} {t:TypeId} {pos:String} {af:Array Edge} {w':World} {v:Value} (hop:∀ c,op ≠ .defer c)
  (hrun:∀ a,Has a N E→(execOp a.eval ⟨none,op,t,pos,af,none⟩).run P w = .ok (.value v) w')
  (h:Ops P r N all K rest D E w'):Ops P r N all K (⟨none,op,t,pos,af,none⟩ :: rest) D E w:=by
 intro a Q ha hD hk
 refine wpListIn_plain rfl fun K' hK'=>⟨fun _ _=>trivial,?_⟩
 rw [bF hop]
 rw [hrun a ha]
 exact hK' _ _ (h a Q ha hD hk)
theorem ops_clear2 {b o m cap:Nat} {x:Operand} {t e t':TypeId} {pos:String} {af:Array Edge} {sz bytes:Nat} {z:Value} (ht:P.underlying t=some (.slice e)) (he:Sz P e sz bytes z) (hz:z.cells.size=sz) (h1:∀ u ∈ z.cells.toList,u.oneCell'=true)
  (hx:ev E x=some (.slice (some ⟨b,o,none⟩) m cap)) (hb:Blk w b te cur) (ho:o + m * sz≤cur.length) (hs:0 < sz) (hm:0 < m)
  (h:∀ w' cur',Chg w w' b→Blk w' b te cur'→cur'.length=cur.length→(∀ i,i < o→cur'[i]? = cur[i]?)→(∀ i u,o≤i→i < o + m * sz→cur'[i]? = some u→u.oneCell'=true)→Ops P r N all K rest D E w') :
  Ops P r N all K (⟨none,.call ⟨.builtin .clear,#[x],#[t]⟩,t',pos,af,none⟩ :: rest) D E w:=by
 obtain ⟨m,rfl⟩:∃ q,m=q + 1:=⟨m - 1,by omega⟩
 have hsz:(Builtin.zeroCells z.cells (m + 1)).toList.length=(m + 1) * sz:=by simp [Builtin.zeroCells,hz]
 have h1':∀ u ∈ (Builtin.zeroCells z.cells (m + 1)).toList,u.oneCell'=true:=by
  intro u hu
  simp only [Builtin.zeroCells,Array.toList_map,List.mem_map] at hu
  obtain ⟨i,_,rfl⟩:=hu
  have hi:i % z.cells.size < z.cells.size:=Nat.mod_lt _ (by omega)
  rw [getElem!_pos z.cells _ hi]
  exact h1 _ (by simp)
 have hst:=run_storeCells_at (P:=P) b o te (Builtin.zeroCells z.cells (m + 1)).toList 0 cur.toArray w hb (by rw [hsz]; simp; omega) h1'
 simp only [Nat.add_zero,hsz] at hst
 obtain ⟨i0,i1,i2,i3,i4⟩:=he
 obtain ⟨W,hW⟩:∃ W,W=w.setRow b (cur.toArray.toList.take o ++ (Builtin.zeroCells z.cells (m + 1)).toList ++ cur.toArray.toList.drop (o + (m + 1) * sz)).toArray:=⟨_,rfl⟩
 rw [← hW] at hst
 refine ops_effv (v:=.tuple #[]) (by intro c hc; cases hc) (fun a ha=>?_) (h W (cur.take o ++ (Builtin.zeroCells z.cells (m + 1)).toList ++ cur.drop (o + (m + 1) * sz)) ⟨by rw [hW]; rfl,⟨by rw [hW]; rfl,by rw [hW]; exact Nat.le_refl _⟩,by rw [hW]; rfl,by rw [hW]; simp,fun k hk=>by rw [hW]; exact setRow_other _ _ _ _ hk⟩ ?_ ?_ ?_ ?_)
 ·simp only [execOp,resolve,invoke,builtin,Sem.run_bind,Sem.run_pure,Result.andThen,List.map_toArray,List.map_cons,List.map_nil,ha.ev hx]
  have e1:(Builtin.clear_ #[t] t' #[.slice (some ⟨b,o,none⟩) (m + 1) cap]).run P w = .ok (.tuple #[]) W:=by
   simp [Builtin.clear_,run_underlying ht,zeroValue,typeInfo,i1,i4,hst]
  simp [e1]
 ·have:=setRow_heap w b _ ((cur.toArray.toList.take o ++ (Builtin.zeroCells z.cells (m + 1)).toList ++ cur.toArray.toList.drop (o + (m + 1) * sz)).toArray) te _ hb
  unfold Blk
  rw [hW,this]
 ·rw [List.length_append,List.length_append,hsz,List.length_take,List.length_drop]; omega
 ·intro i hi
  rw [List.append_assoc,List.getElem?_append_left (by rw [List.length_take]; omega),List.getElem?_take,if_pos hi]
 ·intro i u h3 h4 h5
  rw [List.append_assoc,List.getElem?_append_right (by rw [List.length_take]; omega),List.length_take,Nat.min_eq_left (by omega),List.getElem?_append_left (by rw [hsz]; omega)] at h5
  exact h1' u (List.mem_of_getElem? h5)
end
end Go.SL
namespace Go.SL
open Go Go.RowKit
section
variable {Fz M M' : Nat → Prop} {w w' : World}
instance:Up Fz M M' w w' (Tab M w) (Tab M' w'):=⟨fun l h=>h.mono l⟩
instance:UpB w w' (Tab M w) (Tab M w'):=⟨fun l h=>h.mono (lb l)⟩
instance {b:Nat} {t:TypeId} {cs:List Value}:Up Fz M M' w w' (KBlk M w b t cs) (KBlk M' w' b t cs):=⟨fun l h=>h.mono l⟩
instance {b:Nat} {t:TypeId} {cs:List Value}:UpB w w' (KBlk M w b t cs) (KBlk M w' b t cs):=⟨fun l h=>h.mono (lb l)⟩
instance {v:Value} {l:List (Bool × List Nat)}:Up Fz M M' w w' (IsInts M w v l) (IsInts M' w' v l):=⟨fun l h=>h.mono l⟩
instance {v:Value} {l:List (Bool × List Nat)}:UpB w w' (IsInts M w v l) (IsInts M w' v l):=⟨fun l h=>h.mono (lb l)⟩
theorem allq {u:Value} {us:List Value} (h:∀ v ∈ us,v.oneCell'=true) (hu:u.oneCell'=true:=by first | rfl | assumption | exact yQ (by assumption) | exact yU (by assumption)):∀ v ∈ u :: us,v.oneCell'=true:=allc hu h
end
end Go.SL
namespace Go.SL
open Go
def uni:List Nat→List Nat→List Nat
 | [],acc=>acc
 | x :: xs,acc=>uni xs (if acc.contains x then acc else x :: acc)
theorem wZ:∀ (xs acc:List Nat) (y:Nat),y ∈ uni xs acc ↔ y ∈ xs ∨ y ∈ acc
 | [],acc,y=>by simp [uni]
 | x :: xs,acc,y=>by
  unfold uni
  rw [wZ xs _ y]
  by_cases h:acc.contains x
  ·rw [if_pos h]
   have hm:x ∈ acc:=by simpa using h
   constructor
   ·rintro (c | c)
    ·exact .inl (.tail _ c)
    ·exact .inr c
   ·rintro (c | c)
    ·rcases List.mem_cons.1 c with e | e
     ·exact .inr (e ▸ hm)
     ·exact .inl e
    ·exact .inr c
  ·rw [if_neg h]
   simp only [List.mem_cons]
   constructor
   ·rintro (c | c | c)
    ·exact .inl (.inr c)
    ·exact .inl (.inl c)
    ·exact .inr c
   ·rintro ((c | c) | c)
    ·exact .inr (.inl c)
    ·exact .inl c
    ·exact .inr (.inr c)
theorem gd_l {a b:List (List Nat)} {i:Nat} (h:i < a.length):(a ++ b).getD i []=a.getD i []:=by
 rw [List.getD_eq_getElem?_getD,List.getD_eq_getElem?_getD,List.getElem?_append_left h]
theorem gd_r {a b:List (List Nat)} {i:Nat} (h:a.length≤i):(a ++ b).getD i []=b.getD (i - a.length) []:=by
 rw [List.getD_eq_getElem?_getD,List.getD_eq_getElem?_getD,List.getElem?_append_right h]
def lR:List Oper→List (List Nat)→List (List Nat)
 | [],acc=>acc
 | o :: rest,acc=>lR rest (acc ++ [uni (dirs o ++ (dirs o).flatMap fun j=>acc.getD j []) []])
theorem zP1:∀ (l:List Oper) (a b:List (List Nat)),a.length=b.length→(∀ i j,j ∈ a.getD i [] ↔ j ∈ b.getD i [])→∀ i j,j ∈ (aL l a).getD i [] ↔ j ∈ (lR l b).getD i []
 | [],a,b,hl,h=>fun i j=>by unfold aL lR; exact h i j
 | o :: rest,a,b,hl,h=>fun i j=>by
  unfold aL lR
  refine zP1 rest _ _ (by simp [hl]) (fun i j=>?_) i j
  rcases Nat.lt_trichotomy i a.length with c | c | c
  ·rw [gd_l c,gd_l (hl ▸ c)]; exact h i j
  ·have e1:(a ++ [dirs o ++ (dirs o).flatMap fun j=>a.getD j []]).getD i []=dirs o ++ (dirs o).flatMap fun j=>a.getD j []:=by
    rw [gd_r (by omega),c]; simp
   have e2:(b ++ [uni (dirs o ++ (dirs o).flatMap fun j=>b.getD j []) []]).getD i []=uni (dirs o ++ (dirs o).flatMap fun j=>b.getD j []) []:=by
    rw [gd_r (by omega),c,hl]; simp
   rw [e1,e2,wZ]
   simp only [List.mem_append,List.mem_flatMap,List.not_mem_nil,or_false]
   constructor
   ·rintro (c | ⟨k,hk,c⟩)
    ·exact .inl c
    ·exact .inr ⟨k,hk,(h k j).1 c⟩
   ·rintro (c | ⟨k,hk,c⟩)
    ·exact .inl c
    ·exact .inr ⟨k,hk,(h k j).2 c⟩
  ·rw [gd_r (by omega),gd_r (by omega)]
   have h1:i - a.length ≠ 0:=by omega
   have h2:i - b.length ≠ 0:=by omega
   simp [List.getD_eq_getElem?_getD,List.getElem?_cons,h1,h2]
def gV (ops:Array Oper) (m:Nat):Bool :=
 let l:=ops.toList
 let an:=lR l []
 (l.zipIdx.all fun (o,i)=>(dirs o).all (· < i)) &&
 ((l.take m).zipIdx.all fun (o,i)=>(yY ops o).all fun s=>(l.take m).zipIdx.all fun (p,k)=>if p.dst == some s then (if k < i then (an.getD i []).contains k else if i < k then (an.getD k []).contains i else false) else true) &&
 ((l.take m).zipIdx.all fun (o,i)=>(l.take m).zipIdx.all fun (p,k)=>i == k || p.dst.isNone || p.dst != o.dst) &&
 (l.zipIdx.all fun (o,i)=>i < m || (List.range i).all fun j=>(an.getD i []).contains j)
theorem eL {ops:Array Oper} {m:Nat} (h:gV ops m=true):aF ops m=true:=by
 have heq:∀ i k,((aL ops.toList []).getD i []).contains k=((lR ops.toList []).getD i []).contains k:=fun i k=>by
  have:=zP1 ops.toList [] [] rfl (fun _ _=>Iff.rfl) i k
  rw [Bool.eq_iff_iff,List.contains_iff_mem,List.contains_iff_mem]; exact this
 have e:aF ops m=gV ops m:=by
  unfold aF gV ancs
  simp only [heq]
 rw [e]; exact h
end Go.SL
namespace Go.Proofs.YtflobagimodmgaaGreatDoor
open Go.SL Go.RowKit Go.Proofs Tryz
section
variable {M : Nat → Prop} {w : World}
theorem zN8 {v u:Value} {xs ys:List Nat} (h1:IsNat M w v xs) (h2:IsNat M w u ys) (hl1:xs.length≤10000000) (hl2:ys.length≤10000000) (hM:OkM M w) :
    CallsV prog 286 [v,u] w fun r w'=>Bel w.heap.size w w'∧∃ q s,r = .tuple #[q,s,.int .i64 (if val ys=0 then 30 else 0)]∧Fresh 139 w w' q (limbs (val xs / val ys))∧Fresh 139 w w' s (limbs (if val ys=0 then 0 else val xs % val ys)):=by
 have hal:=yC xs h1.lt
 have hbl:=yC ys h2.lt
 have Mk:Marks M w.heap.size [] w:=gK
 refine ci M func286 ntmps286 fun Fz hFz hF LL=>?_
 refine zF (zB (xB rfl sz29 (fun w1 b4 N4=>?_)))
 obtain ⟨hBw1,nF4,nM4,Lw1,B4⟩:=nz hF hM N4
 obtain ⟨LL,hM,hF,h1,h2,Mk⟩:=up6 Lw1 LL hM hF h1 h2 Mk
 refine zC rfl rfl (zC rfl rfl (zD (zF (zB (zA rfl rfl (zK rfl (bo func252) rfl rfl ?_))))))
 refine (qR h1 (by omega) hM).mono ?_
 rintro v15 w2 ⟨hB15,hf15⟩
 have hM15:=hM
 have hS15:=LL.size
 obtain ⟨LL,hM,hF,h1,h2,Mk,B4⟩:=ub7 hB15 LL hM hF h1 h2 Mk B4
 have ho15:=SL.Own.of hf15 hM15 hS15
 have hn15:=ho15.nat
 refine zA rfl rfl (zK rfl (bo func252) rfl rfl ?_)
 refine (qR h2 (by omega) hM).mono ?_
 rintro v17 w3 ⟨hB17,hf17⟩
 have hM17:=hM
 have hS17:=LL.size
 obtain ⟨LL,hM,hF,h1,h2,Mk,ho15,hn15,B4⟩:=ub9 hB17 LL hM hF h1 h2 Mk ho15 hn15 B4
 have ho17:=SL.Own.of hf17 hM17 hS17
 have hn17:=ho17.nat
 refine zC rfl rfl (zC rfl rfl (zD (zF (zX (zF (zB (zA rfl rfl ?_)))))))
 refine yT rfl yu29 rfl ?_
 refine qI rfl rfl rfl (zC rfl rfl (zD ?_))
 refine zU rfl (fun hc0=>?_) (fun hc0=>?_)
 ·have hy0:val ys=0:=yH.1 (by omega)
  refine zF (zB (xO rfl rfl sz29 B4 (by first | rfl | exact yU (by assumption) | assumption | exact yQ (by assumption)) (fun w4 Cw4 B4=>?_)))
  obtain ⟨LL,Mk⟩:=up2 (lc LL Cw4 zO nF4) LL Mk
  refine zC rfl rfl (zC rfl rfl (zD (zY ?_)))
  refine jK Mk (fun wz hz=>⟨[_,_,_],⟨⟨_,rfl,bK yS (B4.drift hz (fun c=>c)) rfl⟩,rfl,rfl,trivial⟩,?_⟩)
  dsimp only [xG]
  subst hFz
  exact ⟨SL.Bel.drift (LL.b) hz (Nat.le_refl _),.slice none 0 0,.slice none 0 0,by rw [if_pos hy0],by rw [hy0,Nat.div_zero,yW]; exact Fresh.nil,by rw [if_pos hy0,yW]; exact Fresh.nil⟩
 ·have hy0:val ys ≠ 0:=fun c=>hc0 (by rw [c,yW]; rfl)
  have hyp:=Nat.pos_of_ne_zero hy0
  refine zF (zB (zA rfl rfl (zA rfl rfl (zK rfl (bo func298) rfl rfl ?_))))
  refine (yA5 hn15 hn17 (by omega) (by omega) hM).mono ?_
  rintro v25 w5 ⟨hB25,rfl⟩
  obtain ⟨LL,hM,hF,h1,h2,Mk,ho15,hn15,ho17,hn17,B4⟩:=ub11 hB25 LL hM hF h1 h2 Mk ho15 hn15 ho17 hn17 B4
  simp only [zP]
  refine jT rfl rfl rfl (zC rfl rfl (zD ?_))
  refine zU rfl (fun hc1=>?_) (fun hc1=>?_)
  ·have hxy:val xs < val ys:=aJ.1 hc1
   refine zF (zB (zA rfl rfl (xO rfl rfl sz29 B4 (by first | rfl | exact yU (by assumption) | assumption | exact yQ (by assumption)) (fun w6 Cw6 B4=>?_))))
   obtain ⟨LL,Mk,ho15⟩:=up3 (lc LL Cw6 zO nF4) LL Mk ho15
   refine zC rfl rfl (zC rfl rfl (zD (zY ?_)))
   refine jK Mk (fun wz hz=>⟨[_,_,_],⟨⟨_,rfl,bK yS (B4.drift hz (fun c=>c)) rfl⟩,rfl,rfl,trivial⟩,?_⟩)
   dsimp only [xG]
   have hq15:=ho15.fresh
   subst hFz
   exact ⟨SL.Bel.drift (LL.b) hz (Nat.le_refl _),.slice none 0 0,v15,by rw [if_neg hy0],by rw [Nat.div_eq_of_lt hxy,yW]; exact Fresh.nil,by rw [if_neg hy0,Nat.mod_eq_of_lt hxy]; exact hq15.drift hz⟩
  ·have hxy:¬ val xs < val ys:=fun c=>hc1 (aJ.2 c)
   have hx0:val xs ≠ 0:=by omega
   refine zF (zB (zA rfl rfl ?_))
   refine yT rfl yu29 rfl ?_
   refine qI rfl rfl rfl (zC rfl rfl (zD ?_))
   refine zU rfl (fun hc2=>?_) (fun hc2=>?_)
   ·have hy1:val ys=(limbs (val ys)).getD 0 0:=by
      have:=rB (zs:=(limbs (val ys))) (n:=0) (fun j hj=>jQ (by omega))
      rw [zP] at this; simpa [val] using this
    have hyb:val ys < 4294967296:=by rw [hy1]; exact hn17.lim 0
    refine zF (zB (zA rfl rfl (zA rfl rfl (jI (0) rfl yu29 yI rfl rfl (by assumption) (by omega) (by omega) (fun b35 o35 hc35 hb35=>?_)))))
    refine yX rfl xM rfl hc35 (zK rfl (bo func299) rfl rfl ?_)
    refine (short_c (n:=(limbs (val ys)).getD 0 0) hn15 (by omega) (hn17.lim 0) hM).mono ?_
    rintro v37 w7 ⟨hB37,q37,rfl,hf37⟩
    have hM37:=hM
    have hS37:=LL.size
    obtain ⟨LL,hM,hF,h1,h2,Mk,ho15,hn15,ho17,hn17,B4⟩:=ub11 hB37 LL hM hF h1 h2 Mk ho15 hn15 ho17 hn17 B4
    have hrb:=Nat.lt_trans (Nat.mod_lt (val xs) hyp) hyb
    rw [zP,← hy1] at hf37
    rw [zP,← hy1,if_neg hy0,if_neg hy0]
    have ho37:=SL.Own.of hf37 hM37 hS37
    refine zA rfl rfl (yM rfl rfl rfl (yM rfl rfl rfl (yM rfl rfl rfl (zC rfl rfl (zC rfl rfl (zC rfl rfl (zD (zF (zB (zA rfl rfl (zA rfl rfl (xC rfl yu139 yu168 rfl (by omega) (zK rfl (bo func253) rfl rfl ?_)))))))))))))
    refine (of_c (by have:=Nat.mod_lt (val xs) (Nat.pos_of_ne_zero hy0); have:=hyb; omega) hM).mono ?_
    rintro v44 w8 ⟨hB44,hf44⟩
    have hM44:=hM
    have hS44:=LL.size
    obtain ⟨LL,hM,hF,h1,h2,Mk,ho15,hn15,ho17,hn17,ho37,B4⟩:=ub12 hB44 LL hM hF h1 h2 Mk ho15 hn15 ho17 hn17 ho37 B4
    have ho44:=SL.Own.of hf44 hM44 hS44
    have hn44:=ho44.nat
    refine zA rfl rfl ?_
    have hoq:=ho37.fresh.own
    refine xO rfl rfl sz29 B4 (by first | rfl | exact yU (by assumption) | assumption | exact yQ (by assumption)) (fun w9 Cw9 B4=>?_)
    obtain ⟨LL,Mk,ho37,ho44⟩:=up4 (lc LL Cw9 zO nF4) LL Mk ho37 ho44
    refine zC rfl rfl (zC rfl rfl (zD (zY ?_)))
    refine jK Mk (fun wz hz=>⟨[_,_,_],⟨⟨_,rfl,bK yS (B4.drift hz (fun c=>c)) rfl⟩,rfl,rfl,trivial⟩,?_⟩)
    dsimp only [xG]
    have hq1:=ho37.fresh
    have hq2:=ho44.fresh
    subst hFz
    exact ⟨SL.Bel.drift (LL.b) hz (Nat.le_refl _),q37,v44,by first | rfl | (rw [if_neg hy0]; rfl),hq1.drift hz,by first | exact hq2.drift hz | (rw [if_neg hy0]; exact hq2.drift hz)⟩
   ·refine yE (zF (zB (zA rfl rfl (zA rfl rfl ?_))))
    refine yT rfl yu29 rfl ?_
    refine jC rfl rfl rfl (by omega) (jI ((limbs (val ys)).length - 1) rfl yu29 yI rfl rfl (by assumption) (by omega) (by omega) (fun b50 o50 hc50 hb50=>?_))
    refine yX rfl xM rfl hc50 (zK rfl (bo func300) rfl rfl ?_)
    refine (lead_c (hn17.lim _) hM).mono ?_
    rintro v52 w10 ⟨hB52,rfl⟩
    obtain ⟨LL,hM,hF,h1,h2,Mk,ho15,hn15,ho17,hn17,B4⟩:=ub11 hB52 LL hM hF h1 h2 Mk ho15 hn15 ho17 hn17 B4
    have hbw:=fV (hn17.lim ((limbs (val ys)).length - 1))
    have hbt:gE ((limbs (val ys)).getD ((limbs (val ys)).length - 1) 0) ≠ 0:=fun c=>dM (fun e=>by simp [e] at hc0) (bitsN_eq_zero.1 c)
    obtain ⟨k,hk⟩:∃ k:Nat,(32:Int) - (gE ((limbs (val ys)).getD ((limbs (val ys)).length - 1) 0):Int)=(k:Int):=⟨32 - gE ((limbs (val ys)).getD ((limbs (val ys)).length - 1) 0),by omega⟩
    rw [hk]
    have hk32:k < 32:=by omega
    have hkc:cntN (k:Int) 65536=k:=cntN_nat (m:=65536) (by omega)
    have hnb:=norm_by hy0 (k:=k) (by omega)
    have hul:=up_lens hx0 hk32
    have hlm:=yG (Nat.le_of_not_lt hxy)
    have hrm:=div_room (k:=k) (X:=val xs) (Y:=val ys) (m:=(limbs (val xs)).length + 1 - (limbs (val ys)).length) hy0 (by omega)
    refine zC rfl rfl (zD (zF (zB (zA rfl rfl (zA rfl rfl (zK rfl (bo func182) rfl rfl ?_))))))
    refine (up_c hn15 (by omega) hM).mono ?_
    rintro v55 w11 ⟨hB55,hf55⟩
    have F55:∀ k,v55.ownBlock=some k→¬ Fz k:=fun k hk c=>absurd (hF k c) (Nat.not_lt.2 (hf55.new k hk))
    have X55:∀ k,v55.ownBlock=some k→¬ (Ins b4 M) k:=fun k hk c=>absurd (hM k c) (Nat.not_lt.2 (hf55.new k hk))
    have Lw11:=Le.of_fresh (Fz:=Fz) (M:=(Ins b4 M)) hB55 hf55
    obtain ⟨LL,hM,hF,h1,h2,Mk,ho15,hn15,ho17,hn17⟩:=up10 Lw11 LL hM hF h1 h2 Mk ho15 hn15 ho17 hn17
    replace B4:=B4.below hB55
    have O55:=hf55.own
    have T55:=hf55.lt
    have Z55:=hf55.len
    simp only [zP,hkc] at O55 T55 Z55
    refine zA rfl rfl (zA rfl rfl (zK rfl (bo func182) rfl rfl ?_))
    refine (up_c hn17 (by omega) hM).mono ?_
    rintro v58 w12 ⟨hB58,hf58⟩
    have hM58:=hM
    have hS58:=LL.size
    obtain ⟨LL,hM,hF,h1,h2,Mk,ho15,hn15,ho17,hn17,B4⟩:=ub11 hB58 LL hM hF h1 h2 Mk ho15 hn15 ho17 hn17 B4
    replace O55:=xA O55 hB58
    simp only [zP,hkc] at hf58
    have hn58:=hf58.nat hM58
    refine uF rfl plc282 rfl rfl (jB (cD (by first | rfl | exact yQ (by assumption) | exact yU (by assumption) | assumption)) (jB (cD (by first | rfl | exact yQ (by assumption) | exact yU (by assumption) | assumption)) qD)) rfl ?_
    have O55q:=O55
    refine gJ rfl rfl (fun w13 b60 N60=>?_)
    obtain ⟨hBw13,nF60,nM60,Lw13,B60⟩:=nza hF hM N60
    obtain ⟨B4,ne4_60⟩:=bn B4 N60
    replace O55:=xA O55 hBw13
    obtain ⟨LL,hM,hF,h1,h2,Mk,ho15,hn15,hn17,hn58⟩:=up10 Lw13 LL hM hF h1 h2 Mk ho15 hn15 hn17 hn58
    replace B60:Blk w13 b60 282 [v55,v58]:=B60
    refine zC rfl rfl (zD (zF ?_))
    refine bP (R:=Rs (fun k=>v55.ownBlock=some k)) (R':=Rb) (st:=some (14,(fun w=>w.ownsRow 0 139 1 v55 (limbs (val xs * 2 ^ k)).length ((limbs (val xs * 2 ^ k)).map lw)),(fun w=>True))) mixed 15 [4,10,11,61,75] (by decide +kernel) bG lX (dD _) (fun _ _ _ h=>by cases h; exact ⟨by decide,O55,fun _ _ h r=>xA h r,fun _ _ _ _=>trivial,_,rfl⟩) ?_
    apply zS rfl
    ·intro wq hR hst
     refine zV rfl rfl (zG ?_)
     have Lq:=Le.of_rs (Fz:=Fz) (M:=(Ins b60 (Mo v55 (Ins b4 M)))) hR (fun k h => .inr (.inl h)) F55
     replace Mk:=Mk.mono Lq
     replace B60:=B60.rs hR (fun c=>by have:=(O55q.lt _ c).2; have:=N60.at_; omega)
     refine zA rfl rfl ?_
     exact on0 rfl
    apply zS rfl
    ·intro wq hR hst
     refine zV rfl rfl (zG ?_)
     have Lq:=Le.of_rs (Fz:=Fz) (M:=(Ins b60 (Mo v55 (Ins b4 M)))) hR (fun k h => .inr (.inl h)) F55
     replace Mk:=Mk.mono Lq
     replace B60:=B60.rs hR (fun c=>by have:=(O55q.lt _ c).2; have:=N60.at_; omega)
     refine zA rfl rfl ?_
     exact on0 rfl
    apply zS rfl
    ·intro wq hR hst
     refine zM rfl (zG ?_)
     have Lq:=Le.of_rs (Fz:=Fz) (M:=(Ins b60 (Mo v55 (Ins b4 M)))) hR (fun k h => .inr (.inl h)) F55
     replace Mk:=Mk.mono Lq
     replace B60:=B60.rs hR (fun c=>by have:=(O55q.lt _ c).2; have:=N60.at_; omega)
     refine zW rfl rfl ?_
     exact on0 rfl
    apply zS rfl
    ·intro wq hR hst
     refine zM rfl (zG ?_)
     have Lq:=Le.of_rs (Fz:=Fz) (M:=(Ins b60 (Mo v55 (Ins b4 M)))) hR (fun k h => .inr (.inl h)) F55
     replace Mk:=Mk.mono Lq
     replace B60:=B60.rs hR (fun c=>by have:=(O55q.lt _ c).2; have:=N60.at_; omega)
     refine zL 0 rfl yu282 rfl rfl sz29 rfl rfl ?_
     exact on0 rfl
    apply zS rfl
    ·intro wq hR hst
     refine zM rfl (zG ?_)
     have Lq:=Le.of_rs (Fz:=Fz) (M:=(Ins b60 (Mo v55 (Ins b4 M)))) hR (fun k h => .inr (.inl h)) F55
     replace Mk:=Mk.mono Lq
     replace B60:=B60.rs hR (fun c=>by have:=(O55q.lt _ c).2; have:=N60.at_; omega)
     refine zN rfl yS rfl B60 rfl ?_
     exact on0 rfl
    apply zS rfl
    ·intro wq hR hst
     refine zV rfl rfl (zG ?_)
     have Lq:=Le.of_rs (Fz:=Fz) (M:=(Ins b60 (Mo v55 (Ins b4 M)))) hR (fun k h => .inr (.inl h)) F55
     replace Mk:=Mk.mono Lq
     replace B60:=B60.rs hR (fun c=>by have:=(O55q.lt _ c).2; have:=N60.at_; omega)
     refine zA rfl rfl ?_
     exact on0 rfl
    apply zS rfl
    ·intro wq hR hst
     refine zM rfl (zG ?_)
     have Lq:=Le.of_rs (Fz:=Fz) (M:=(Ins b60 (Mo v55 (Ins b4 M)))) hR (fun k h => .inr (.inl h)) F55
     obtain ⟨Mk,hn15⟩:=up2 Lq Mk hn15
     replace B60:=B60.rs hR (fun c=>by have:=(O55q.lt _ c).2; have:=N60.at_; omega)
     refine yT rfl yu29 rfl ?_
     exact on0 rfl
    apply zS rfl
    ·intro wq hR hst
     refine zM rfl (zG ?_)
     have Lq:=Le.of_rs (Fz:=Fz) (M:=(Ins b60 (Mo v55 (Ins b4 M)))) hR (fun k h => .inr (.inl h)) F55
     replace Mk:=Mk.mono Lq
     replace B60:=B60.rs hR (fun c=>by have:=(O55q.lt _ c).2; have:=N60.at_; omega)
     refine yV rfl rfl rfl (by omega) ?_
     exact on0 rfl
    apply zS rfl
    ·intro wq hR hst
     refine zV rfl rfl (zG ?_)
     have Lq:=Le.of_rs (Fz:=Fz) (M:=(Ins b60 (Mo v55 (Ins b4 M)))) hR (fun k h => .inr (.inl h)) F55
     replace Mk:=Mk.mono Lq
     replace B60:=B60.rs hR (fun c=>by have:=(O55q.lt _ c).2; have:=N60.at_; omega)
     refine zA rfl rfl ?_
     exact on0 rfl
    apply zS rfl
    ·intro wq hR hst
     refine zM rfl (zG ?_)
     have Lq:=Le.of_rs (Fz:=Fz) (M:=(Ins b60 (Mo v55 (Ins b4 M)))) hR (fun k h => .inr (.inl h)) F55
     replace Mk:=Mk.mono Lq
     replace B60:=B60.rs hR (fun c=>by have:=(O55q.lt _ c).2; have:=N60.at_; omega)
     refine zW rfl rfl ?_
     exact on0 rfl
    apply zS rfl
    ·intro wq hR hst
     refine zM rfl (zG ?_)
     have Lq:=Le.of_rs (Fz:=Fz) (M:=(Ins b60 (Mo v55 (Ins b4 M)))) hR (fun k h => .inr (.inl h)) F55
     replace Mk:=Mk.mono Lq
     replace B60:=B60.rs hR (fun c=>by have:=(O55q.lt _ c).2; have:=N60.at_; omega)
     refine zL 0 rfl yu282 rfl rfl sz29 rfl rfl ?_
     exact on0 rfl
    apply zS rfl
    ·intro wq hR hst
     refine zM rfl (zG ?_)
     have Lq:=Le.of_rs (Fz:=Fz) (M:=(Ins b60 (Mo v55 (Ins b4 M)))) hR (fun k h => .inr (.inl h)) F55
     replace Mk:=Mk.mono Lq
     replace B60:=B60.rs hR (fun c=>by have:=(O55q.lt _ c).2; have:=N60.at_; omega)
     refine zN rfl yS rfl B60 rfl ?_
     exact on0 rfl
    apply zS rfl
    ·intro wq hR hst
     refine zM rfl (zG ?_)
     have Lq:=Le.of_rs (Fz:=Fz) (M:=(Ins b60 (Mo v55 (Ins b4 M)))) hR (fun k h => .inr (.inl h)) F55
     obtain ⟨LL,hM,hF,h1,h2,Mk,ho15,hn17,hn58⟩:=up9 Lq LL hM hF h1 h2 Mk ho15 hn17 hn58
     replace B4:=B4.rs hR (fun c=>X55 _ c zO)
     replace B60:=B60.rs hR (fun c=>by have:=(O55q.lt _ c).2; have:=N60.at_; omega)
     have hpre:=(hst.2 (by decide +kernel))
     refine yT rfl yu29 rfl ?_
     exact on0 rfl
    apply zS rfl
    ·intro wq hR hst
     refine zM rfl (zM rfl (zG ?_))
     have Lq:=Le.of_rs (Fz:=Fz) (M:=(Ins b60 (Mo v55 (Ins b4 M)))) hR (fun k h => .inr (.inl h)) F55
     replace Mk:=Mk.mono Lq
     replace B60:=B60.rs hR (fun c=>by have:=(O55q.lt _ c).2; have:=N60.at_; omega)
     refine jC rfl rfl rfl (by omega) ?_
     exact on0 rfl
    refine drs_chg rfl (fun v w=>∃ br cap ex,v = .slice (some ⟨br,0,none⟩) ((limbs (val xs)).length + 1) cap∧Blk w br 139 (((limbs (val xs * 2 ^ k)) ++ List.replicate (((limbs (val xs)).length + 1) - (limbs (val xs * 2 ^ k)).length) 0).map lw ++ ex)∧cap=((limbs (val xs)).length + 1) + ex.length∧(v55.ownBlock=some br ∨ w13.heap.size≤br)) (fun v a b h r=>let ⟨x,y,z,p1,p2,p3,p4⟩:=h; ⟨x,y,z,p1,p2.below r,p3,p4⟩) (fun wq hR hst=>?_) ?_
    ·refine zM rfl (zM rfl (zG ?_))
     have Lq:=Le.of_rs (Fz:=Fz) (M:=(Ins b60 (Mo v55 (Ins b4 M)))) hR (fun k h => .inr (.inl h)) F55
     replace Mk:=Mk.mono Lq
     replace B60:=B60.rs hR (fun c=>by have:=(O55q.lt _ c).2; have:=N60.at_; omega)
     have hpre:=hst
     refine ops_append0 (m:=(((limbs (val xs)).length + 1) - (limbs (val xs * 2 ^ k)).length)) rfl yu29 yu3 yI rfl rfl rfl (by omega) hpre (by omega) (by omega) (by omega) (fun v75 w75 A75 G75 S75=>?_)
     obtain ⟨br,cap,ex,hv75,BR,hcap⟩:=own_to_blk (n:=((limbs (val xs)).length + 1)) (xs:=((limbs (val xs * 2 ^ k)) ++ List.replicate (((limbs (val xs)).length + 1) - (limbs (val xs * 2 ^ k)).length) 0)) (by have:=A75; simp only [List.map_append,List.map_replicate]; rwa [show (limbs (val xs * 2 ^ k)).length + (((limbs (val xs)).length + 1) - (limbs (val xs * 2 ^ k)).length)=((limbs (val xs)).length + 1) by omega] at this) (by omega)
     exact zD ⟨rfl,rs_grown G75,trivial,_,rfl,br,cap,ex,hv75,BR,hcap,by
       rw [hv75] at S75
       rcases S75 with S75 | S75
       · exact .inl S75.symm
       · right; have:=hR.2.2.2.1; have e:br=wq.heap.size:=by simpa [Value.ownBlock] using S75
         omega⟩
    refine gB (fun wq11 hR11 hpost11=>?_)
    refine zV rfl rfl (zV rfl rfl (zV rfl rfl (zM rfl (xY rfl (fun v75 hn75=>?_)))))
    refine zG ?_
    simp only [qZ,qY,qX,qW]
    obtain ⟨br,cap,ex,rfl,BR,hcap,hbr⟩:=hn75
    have hmbr:(Ins b60 (Mo v55 (Ins b4 M))) br ∨ w13.heap.size≤br:=hbr.elim (fun e => .inl (.inr (.inl e))) .inr
    have Lwq11:=Le.of_rs_to (Fz:=Fz) (M:=(Ins b60 (Mo v55 (Ins b4 M)))) (M':=(Ins b60 (Ins br (Ins b4 M)))) hR11 (fun k h => .inr (.inl h)) F55 (fun k hk=>hk.elim (fun e => .inl (.inl e)) (fun hk=>hk.elim (fun e=>e ▸ hmbr) (fun c => .inl (.inr (.inr c))))) (fun k hk=>hk.elim (fun e => .inl (.inl e)) (fun hk=>hk.elim (fun e => .inr (e ▸ BR.lt)) (fun c => .inl (.inr (.inr c)))))
    have nFr:¬ Fz br:=fun c=>hbr.elim (fun e=>F55 _ e c) (fun e=>by have:=hF br c; omega)
    have xbr:¬ (Ins b4 M) br:=fun c=>hbr.elim (fun e=>X55 _ e c) (fun e=>by have:=hM br (.inr (.inr c)); omega)
    obtain ⟨LL,hM,hF,h1,h2,Mk,ho15,hn15,hn17,hn58⟩:=up10 Lwq11 LL hM hF h1 h2 Mk ho15 hn15 hn17 hn58
    replace B4:=B4.rs hR11 (fun c=>X55 _ c zO)
    replace B60:=B60.rs hR11 (fun c=>by have:=(O55q.lt _ c).2; have:=N60.at_; omega)
    have ne60_r:b60 ≠ br:=sM B60 BR (.inl rfl)
    have ne4_r:b4 ≠ br:=sM B4 BR (.inl rfl)
    refine zW rfl rfl (zL 0 rfl yu282 rfl rfl sz29 rfl rfl (xZ (i:=0) rfl rfl sz29 B60 (by first | rfl | exact yU (by assumption) | assumption | exact yQ (by assumption)) (by simp) (fun w14 Cw14 B60=>?_)))
    obtain ⟨LL,hM,hF,h1,h2,Mk,ho15,hn17,hn58⟩:=up9 (lc LL Cw14 zO nF60) LL hM hF h1 h2 Mk ho15 hn17 hn58
    replace B4:=B4.other Cw14 ne4_60
    replace BR:=BR.other Cw14 ne60_r.symm
    replace B60:Blk w14 b60 282 [.slice (some ⟨br,0,none⟩) ((limbs (val xs)).length + 1) cap,v58]:=B60
    refine zD (zF ?_)
    refine wd mixed 10 [4,10,11,82,87] (by decide +kernel) ?_
    apply zQ
    ·intro wq hR hst
     refine zV rfl rfl (zG ?_)
     obtain ⟨Mk,BR⟩:=ub2 hR Mk BR
     refine zA rfl rfl ?_
     exact on0 rfl
    apply zQ
    ·intro wq hR hst
     refine zM rfl (zG ?_)
     obtain ⟨Mk,BR⟩:=ub2 hR Mk BR
     refine zW rfl rfl ?_
     exact on0 rfl
    apply zQ
    ·intro wq hR hst
     refine zM rfl (zG ?_)
     obtain ⟨Mk,BR⟩:=ub2 hR Mk BR
     refine zL 0 rfl yu282 rfl rfl sz29 rfl rfl ?_
     exact on0 rfl
    apply zQ
    ·intro wq hR hst
     refine zM rfl (zG ?_)
     obtain ⟨Mk,B60,BR⟩:=ub3 hR Mk B60 BR
     refine zN rfl yS rfl B60 rfl ?_
     exact on0 rfl
    apply zQ
    ·intro wq hR hst
     refine zM rfl (zG ?_)
     obtain ⟨LL,hM,hF,h1,h2,Mk,ho15,hn17,hn58,B4,B60,BR⟩:=ub12 hR LL hM hF h1 h2 Mk ho15 hn17 hn58 B4 B60 BR
     refine yT rfl yu29 rfl ?_
     exact on0 rfl
    apply zQ
    ·intro wq hR hst
     refine zV rfl rfl (zG ?_)
     obtain ⟨Mk,BR⟩:=ub2 hR Mk BR
     refine zA rfl rfl ?_
     exact on0 rfl
    apply zQ
    ·intro wq hR hst
     refine zM rfl (zG ?_)
     obtain ⟨Mk,BR⟩:=ub2 hR Mk BR
     refine zW rfl rfl ?_
     exact on0 rfl
    apply zQ
    ·intro wq hR hst
     refine zM rfl (zG ?_)
     obtain ⟨Mk,BR⟩:=ub2 hR Mk BR
     refine zL 1 rfl yu282 rfl rfl sz29 rfl rfl ?_
     exact on0 rfl
    apply zQ
    ·intro wq hR hst
     refine zM rfl (zG ?_)
     obtain ⟨Mk,B60,BR⟩:=ub3 hR Mk B60 BR
     refine zN rfl yS rfl B60 rfl ?_
     exact on0 rfl
    apply zQ
    ·intro wq hR hst
     refine zM rfl (zG ?_)
     obtain ⟨LL,hM,hF,h1,h2,Mk,ho15,hn17,hn58,B4,B60,BR⟩:=ub12 hR LL hM hF h1 h2 Mk ho15 hn17 hn58 B4 B60 BR
     refine yT rfl yu29 rfl ?_
     exact on0 rfl
    refine gB (fun wq12 hR12 hpost12=>?_)
    refine zV rfl rfl (zV rfl rfl (zV rfl rfl (zM rfl (zM rfl (zG ?_)))))
    simp only [qZ,qY,qX,qW]
    obtain ⟨LL,hM,hF,h1,h2,Mk,ho15,hn17,hn58,B4,B60,BR⟩:=ub12 hR12 LL hM hF h1 h2 Mk ho15 hn17 hn58 B4 B60 BR
    refine jC rfl rfl rfl (by omega) (kG ((((limbs (val xs)).length + 1) - (limbs (val ys * 2 ^ k)).length)) ((((limbs (val xs)).length + 1) - (limbs (val ys * 2 ^ k)).length)) rfl yu29 yI rfl rfl rfl (by omega) (by omega) (by omega) (by omega) (by omega) (fun w15 b89 N89=>?_))
    obtain ⟨hBw15,nF89,nM89,Lw15,B89⟩:=nz hF hM N89
    obtain ⟨B4,ne4_89⟩:=bn B4 N89
    obtain ⟨B60,ne60_89⟩:=bn B60 N89
    have ltr_89:=BR.lt
    replace BR:=BR.below hBw15
    have ne89_r:b89 ≠ br:=by have:=N89.at_; omega
    obtain ⟨LL,hM,hF,h1,h2,Mk,ho15,hn17,hn58⟩:=up9 Lw15 LL hM hF h1 h2 Mk ho15 hn17 hn58
    replace B89:Blk w15 b89 139 ((List.replicate (((limbs (val xs)).length + 1) - (limbs (val ys * 2 ^ k)).length) 0).map lw):=by simpa [lw] using B89
    have hmr:(Ins b89 (Ins b60 (Ins br (Ins b4 M)))) br:=.inr (.inr zO)
    have hvrs:val ((limbs (val xs * 2 ^ k)) ++ List.replicate (((limbs (val xs)).length + 1) - (limbs (val xs * 2 ^ k)).length) 0)=(val xs * 2 ^ k):=val_pad _ _
    have hv58:val (limbs (val ys * 2 ^ k))=(val ys * 2 ^ k):=zP _
    have hrl:((limbs (val xs * 2 ^ k)) ++ List.replicate (((limbs (val xs)).length + 1) - (limbs (val xs * 2 ^ k)).length) 0).length=((limbs (val xs)).length + 1):=by rw [List.length_append,List.length_replicate]; omega
    have hrlt:∀ x ∈ ((limbs (val xs * 2 ^ k)) ++ List.replicate (((limbs (val xs)).length + 1) - (limbs (val xs * 2 ^ k)).length) 0),x < 4294967296:=fun x hx=>by
      rcases List.mem_append.1 hx with h | h
      · exact gP _ x h
      · have:=(List.mem_replicate.1 h).2; omega
    have hvr:val ((limbs (val xs * 2 ^ k)) ++ List.replicate (((limbs (val xs)).length + 1) - (limbs (val xs * 2 ^ k)).length) 0) < 4294967296 ^ (((limbs (val xs)).length + 1) - (limbs (val ys * 2 ^ k)).length) * val (limbs (val ys * 2 ^ k)):=by rw [hvrs,hv58,hnb.1]; exact hrm
    refine xO rfl rfl sz29 B4 (by first | rfl | exact yU (by assumption) | assumption | exact yQ (by assumption)) (fun w16 Cw16 B4=>?_)
    obtain ⟨LL,hM,hF,h1,h2,Mk,ho15,hn17,hn58⟩:=up9 (lc LL Cw16 (.inr (.inr (.inr zO))) nF4) LL hM hF h1 h2 Mk ho15 hn17 hn58
    replace B60:=B60.other Cw16 ne4_60.symm
    replace BR:=BR.other Cw16 ne4_r.symm
    replace B89:=B89.other Cw16 ne4_89.symm
    refine zD (zF (zF (zB (zA rfl rfl (zK rfl (bo func301) rfl rfl ?_)))))
    refine (qlimbs_c (T:=(·=br)) (m:=(((limbs (val xs)).length + 1) - (limbs (val ys * 2 ^ k)).length)) (rs:=((limbs (val xs * 2 ^ k)) ++ List.replicate (((limbs (val xs)).length + 1) - (limbs (val xs * 2 ^ k)).length) 0)) (ys:=(limbs (val ys * 2 ^ k))) hrl B60 BR (hn58.less (zQ3 zO (.inr (.inr zO)))) hrlt (by omega) hnb.2 (by omega) hvr (by omega) (by omega) (fun c=>c.elim ne60_89 ne60_r) rfl (fun _ h=>h) (fun k h => .inr h) (zQ3 B89.lt BR.lt)).mono ?_
    rintro v91 w17 ⟨hB91,cap91,rfl,hit91⟩
    obtain ⟨LL,hM,hF,h1,h2,Mk,ho15,hn17,hn58,B4,B60,BR,B89⟩:=ub13 hB91 LL hM hF h1 h2 Mk ho15 hn17 hn58 B4 B60 BR B89
    refine zD (zX ?_)
    have hbrl:=BR.lt
    have hMS0:=hM
    have hszLL:=LL.size
    have Mold0:=Mk.old (Nat.le_refl _)
    refine dT (M:=(fun k=>k=b89 ∨ k=br)) (T:=(·=br)) ((List.range (((limbs (val xs)).length + 1) - (limbs (val ys * 2 ^ k)).length)).map (fun j=>((((limbs (val xs)).length + 1) - (limbs (val ys * 2 ^ k)).length) - j - 1,val ((limbs (val xs * 2 ^ k)) ++ List.replicate (((limbs (val xs)).length + 1) - (limbs (val xs * 2 ^ k)).length) 0) / (4294967296 ^ ((((limbs (val xs)).length + 1) - (limbs (val ys * 2 ^ k)).length) - j - 1) * val (limbs (val ys * 2 ^ k))) % 4294967296))) (encB) rfl (bo func310) (hit91) (by rintro _ rfl; exact BR.lt) (trivial) (fun _=>rfl) rfl [(4,_)] (zI rfl yB) (fun pre w18=>Le Fz (Ins b89 (Ins b60 (Ins br (Ins b4 M)))) w17 (Ins b89 (Ins b60 (Ins br (Ins b4 M)))) w18∧Keep (fun k=>k=b89 ∨ k=br) w17 w18∧Blk w18 b4 29 [.slice (some ⟨b89,0,none⟩) (((limbs (val xs)).length + 1) - (limbs (val ys * 2 ^ k)).length) (((limbs (val xs)).length + 1) - (limbs (val ys * 2 ^ k)).length)]∧Blk w18 b60 282 [.slice (some ⟨br,0,none⟩) ((limbs (val xs)).length + 1) cap,v58]∧∃ zs:List Nat,Blk w18 b89 139 (zs.map lw)∧zs.length=(((limbs (val xs)).length + 1) - (limbs (val ys * 2 ^ k)).length)∧(∀ z ∈ zs,z < 4294967296)∧∀ j,j < pre.length→zs.getD ((((limbs (val xs)).length + 1) - (limbs (val ys * 2 ^ k)).length) - j - 1) 0=val ((limbs (val xs * 2 ^ k)) ++ List.replicate (((limbs (val xs)).length + 1) - (limbs (val xs * 2 ^ k)).length) 0) / (4294967296 ^ ((((limbs (val xs)).length + 1) - (limbs (val ys * 2 ^ k)).length) - j - 1) * val (limbs (val ys * 2 ^ k))) % 4294967296) (fun _ _=>False) (fun _=>False) (⟨Le.refl _ _ _,Keep.refl _ _,B4,B60,_,B89,by simp,by intro z hz; have:=(List.mem_replicate.1 hz).2; omega,fun j hj=>by simp at hj⟩) (fun pre w h=>h.2.1) (fun pre w1 w2 hJ hd=>(by obtain ⟨h1,h2,h3,h4,zs,h5,h6⟩:=hJ; exact ⟨h1.drift hd (Nat.le_refl _) (by rintro _ rfl; exact ⟨hmr,nFr⟩) (by rintro _ rfl; exact hmr),h2.drift hd (fun k h => .inr h),h3.drift hd ne4_r,h4.drift hd ne60_r,zs,h5.drift hd ne89_r,h6⟩)) (fun _ _ _ h _=>h) (fun _ _ h _=>h) (fun _ _ ⟨zs,h1,h2⟩ hd=>⟨zs,h1.drift hd (fun c=>c),h2⟩) ?_ ?_ (fun _ _ h _=>h.elim) (fun _ h _=>h.elim)
    ·intro pre x post l b w18 ρ δ hx hJ hnl hnb hl hb hbc
     clear BR
     obtain ⟨LS0,hKp,B4,B60,zs,B89,hzl,hzlt,hzd⟩:=hJ
     replace Mk:=Mk.mono LS0
     have RL:Rec (Ins b89 (Ins b60 (Ins br (Ins b4 M)))) w18 l (.loop ρ):=⟨hl,(gG hMS0 hnl)⟩
     have RB:Rec (Ins b89 (Ins b60 (Ins br (Ins b4 M)))) w18 b δ:=⟨hb,(gG hMS0 hnb)⟩
     have hs1:w18.heap.size≤w18.heap.size:=Nat.le_refl _
     obtain ⟨hk',hxe⟩:=oZ hx
     have hx1:x.1=(((limbs (val xs)).length + 1) - (limbs (val ys * 2 ^ k)).length) - pre.length - 1:=by rw [hxe]
     have hx2:x.2=val ((limbs (val xs * 2 ^ k)) ++ List.replicate (((limbs (val xs)).length + 1) - (limbs (val xs * 2 ^ k)).length) 0) / (4294967296 ^ ((((limbs (val xs)).length + 1) - (limbs (val ys * 2 ^ k)).length) - pre.length - 1) * val (limbs (val ys * 2 ^ k))) % 4294967296:=by rw [hxe]
     refine zF (zB (zC rfl rfl (zD (zB (zC rfl rfl (zD ?_))))))
     refine ⟨RL.at_,RB.at_,rfl,fun w19 ρ' δ' hdr hl' hb' hbc'=>?_⟩
     replace LS0:=LS0.drift0 hdr (Nat.le_refl _)
     replace hs1:=Nat.le_trans hs1 hdr.size
     replace RL:Rec (Ins b89 (Ins b60 (Ins br (Ins b4 M)))) w19 l (.loop ρ'):=⟨hl',RL.not⟩
     replace RB:Rec (Ins b89 (Ins b60 (Ins br (Ins b4 M)))) w19 b δ':=⟨hb',RB.not⟩
     replace B4:=B4.drift hdr (fun c=>c)
     replace B60:=B60.drift hdr (fun c=>c)
     replace B89:=B89.drift hdr (fun c=>c)
     refine zX (zB (zN rfl yS rfl B4 rfl (zA rfl rfl (zA rfl rfl (qN (x.1) rfl yu29 yI rfl rfl rfl (by omega) (xZ (i:=x.1) rfl rfl yI B89 rfl (by simp; omega) (fun w20 Cw20 BN=>?_)))))))
     have C16:=Cw20
     have Lw20:=lc LS0 Cw20 zO nF89
     obtain ⟨LS0,RL,RB⟩:=up3 Lw20 LS0 RL RB
     replace hs1:=Nat.le_trans hs1 Lw20.size
     replace B4:=B4.other Cw20 ne4_89
     replace B60:=B60.other Cw20 ne60_89
     clear B89; have B89:Blk w20 b89 139 ((zs.set x.1 x.2).map lw):=by rw [List.map_set]; exact BN
     refine zD ?_
     refine ⟨RL.at_,RB.at_,hs1,by rintro _ rfl; exact (C16.other _ (Ne.symm ne89_r)).trans (hdr.low _ hbrl (fun c=>c)),?_⟩
     exact ⟨LS0,(hKp.drift hdr noT).chg C16 (.inl rfl),B4,B60,zs.set x.1 x.2,B89,by simp [hzl],kN hzlt (by omega),fun j hj=>by
       rw [List.length_append,List.length_singleton] at hj
       by_cases e:j=pre.length
       · subst e; rw [← hx1,List.getD_eq_getElem?_getD,List.getElem?_set_self (by omega),hx1]; exact hx2
       · rw [qH (by omega)]; exact hzd j (by omega)⟩
    ·intro w21 hJ hZ hDd
     clear BR
     obtain ⟨LS0,hKp,B4,B60,zs,B89,hzl,hzlt,hzd⟩:=hJ
     obtain ⟨LL,hM,hF,h1,h2,Mk,ho15,hn17,hn58⟩:=up9 LS0 LL hM hF h1 h2 Mk ho15 hn17 hn58
     have hdd:=hDd _ rfl rfl
     have RD:Rec (Ins b89 (Ins b60 (Ins br (Ins b4 M)))) w21 w17.heap.size (.deferred (some [])):=⟨hdd,(gG hMS0 (Nat.le_refl _))⟩
     replace Mk:=Mk.cons hszLL RD Mold0
     obtain ⟨zr,BR,hzrl,hzrt,hzrv⟩:=hZ
     simp only [List.length_map,List.length_range] at hzd
     have hzq:val zs=val xs / val ys:=by
       rw [quot_digits hzl (by rw [hv58]; exact Nat.mul_pos hyp (xX k)) hvr hzd,hv58,hvrs,Nat.mul_div_mul_right _ _ (xX k)]
     rw [hv58,hvrs] at hzrv
     refine zF ?_
     have hszd:=LL.size
     refine wd mixed 8 [4,99,104,105] (by decide +kernel) ?_
     apply zQ
     ·intro wq hR hst
      refine zV rfl rfl (zG ?_)
      obtain ⟨LS0,Mk,B4,BR⟩:=ub4 hR LS0 Mk B4 BR
      refine zN rfl yS rfl B4 rfl ?_
      exact on0 rfl
     refine jE (fun v w=>SL.Own (Ins b89 (Ins b60 (Ins br (Ins b4 M)))) 139 w21 w v (limbs (val xs / val ys))) (fun v a b h r=>h.mono (lb r)) (fun wq hR hst=>?_) ?_
     ·refine zM rfl (zG ?_)
      obtain ⟨LS0,hM,Mk,B89,BR⟩:=ub5 hR LS0 hM Mk B89 BR
      refine zK rfl (bo func252) rfl rfl ?_
      have hq:IsNat (fun _=>False) wq (.slice (some ⟨b89,0,none⟩) (((limbs (val xs)).length + 1) - (limbs (val ys * 2 ^ k)).length) (((limbs (val xs)).length + 1) - (limbs (val ys * 2 ^ k)).length)) zs:=by have:=fG (M:=fun _=>False) B89 (fun c=>c) rfl (by omega) hzlt; rw [hzl] at this; exact this
      refine (qR (xs:=zs) hq (by omega) (fun _ c=>c.elim)).mono ?_
      rintro v99 w22 ⟨hB99,hf99⟩
      have hM99:=hM
      obtain ⟨LS0,Mk,BR⟩:=ub3 hB99 LS0 Mk BR
      rw [hzq] at hf99
      exact on1 hB99 rfl (SL.Own.of hf99 hM99 hR.size)
     apply zQ
     ·intro wq hR hst
      refine zV rfl rfl (zG ?_)
      obtain ⟨LS0,Mk,BR⟩:=ub3 hR LS0 Mk BR
      refine zA rfl rfl ?_
      exact on0 rfl
     apply zQ
     ·intro wq hR hst
      refine zM rfl (zG ?_)
      obtain ⟨LS0,Mk,BR⟩:=ub3 hR LS0 Mk BR
      refine zW rfl rfl ?_
      exact on0 rfl
     apply zQ
     ·intro wq hR hst
      refine zM rfl (zG ?_)
      obtain ⟨LS0,Mk,BR⟩:=ub3 hR LS0 Mk BR
      refine zL 0 rfl yu282 rfl rfl sz29 rfl rfl ?_
      exact on0 rfl
     apply zQ
     ·intro wq hR hst
      refine zM rfl (zG ?_)
      obtain ⟨LS0,Mk,B60,BR⟩:=ub4 hR LS0 Mk B60 BR
      refine zN rfl yS rfl B60 rfl ?_
      exact on0 rfl
     refine jE (fun v w=>SL.Own (Ins b89 (Ins b60 (Ins br (Ins b4 M)))) 139 w21 w v (limbs (val xs * 2 ^ k % (val ys * 2 ^ k)))) (fun v a b h r=>h.mono (lb r)) (fun wq hR hst=>?_) ?_
     ·refine zM rfl (zG ?_)
      obtain ⟨LS0,hM,Mk,BR⟩:=ub4 hR LS0 hM Mk BR
      refine zK rfl (bo func252) rfl rfl ?_
      have hq:IsNat (fun _=>False) wq (.slice (some ⟨br,0,none⟩) ((limbs (val xs)).length + 1) cap) zr:=by
        refine ⟨?_,hzrt⟩
        rw [hzrl,hrl]
        exact BR.slc (fun c=>c) (by rw [List.length_map,hzrl,hrl,Nat.mul_one]) (fun j u hj=>by rw [List.getElem?_append_left (List.getElem?_eq_some_iff.1 hj).1]; exact hj) (by omega) (by omega)
      refine (qR (xs:=zr) hq (by omega) (fun _ c=>c.elim)).mono ?_
      rintro v104 w23 ⟨hB104,hf104⟩
      have hM104:=hM
      obtain ⟨LS0,Mk,BR⟩:=ub3 hB104 LS0 Mk BR
      rw [hzrv] at hf104
      exact on1 hB104 rfl (SL.Own.of hf104 hM104 hR.size)
     apply zQ
     ·intro wq hR hst
      refine zV rfl rfl (zG ?_)
      obtain ⟨LS0,Mk,BR⟩:=ub3 hR LS0 Mk BR
      refine zA rfl rfl ?_
      exact on0 rfl
     refine gB (fun wq17 hR17 hpost17=>?_)
     refine zV rfl rfl (xY rfl (fun v99 hn99=>?_))
     refine xY rfl (fun v104 hn104=>?_)
     refine zM rfl (zG ?_)
     simp only [qZ,qY,qX,qW]
     obtain ⟨LL,LS0,hM,hF,h1,h2,Mk,ho15,hn17,hn58,B4,B60,B89,BR⟩:=ub14 hR17 LL LS0 hM hF h1 h2 Mk ho15 hn17 hn58 B4 B60 B89 BR
     refine zK rfl (bo func302) rfl rfl ?_
     refine (down_c hn104.nat (by rw [← hzrv]; have:=yC zr hzrt; omega) hM).mono ?_
     rintro v106 w24 ⟨hB106,hf106⟩
     have hM106:=hM
     have hS106:=LL.size
     obtain ⟨LL,LS0,hM,hF,h1,h2,Mk,ho15,hn17,hn58,hn99,hn104,B4,B60,B89,BR⟩:=ub16 hB106 LL LS0 hM hF h1 h2 Mk ho15 hn17 hn58 hn99 hn104 B4 B60 B89 BR
     simp only [zP,hkc] at hf106
     rw [rest_down hyp] at hf106
     have ho106:=SL.Own.of hf106 hM106 hS106
     have hn106:=ho106.nat
     have ho99:=hn99.fresh.own
     refine xO rfl rfl sz29 B4 (by first | rfl | exact yU (by assumption) | assumption | exact yQ (by assumption)) (fun w25 Cw25 B4=>?_)
     obtain ⟨LL,LS0,Mk,hn99,ho106⟩:=up5 (lc LL Cw25 (.inr (.inr (.inr zO))) nF4) LL LS0 Mk hn99 ho106
     replace BR:=BR.other Cw25 ne4_r.symm
     refine zC rfl rfl (zC rfl rfl (zD (zY ?_)))
     refine jK Mk (fun wz hz=>⟨[_,_,_],⟨⟨_,rfl,bK yS (B4.drift hz (fun c=>c)) rfl⟩,rfl,rfl,trivial⟩,?_⟩)
     dsimp only [xG]
     have hq1:=hn99.fresh.less hszd
     have hq2:=ho106.fresh
     subst hFz
     exact ⟨SL.Bel.drift (LL.b) hz (Nat.le_refl _),v99,v106,by rw [if_neg hy0],hq1.drift hz,by rw [if_neg hy0]; exact hq2.drift hz⟩
end
end Go.Proofs.YtflobagimodmgaaGreatDoor
namespace Go.SL
def cmpR (p q:Rat):Int:=if p < q then -1 else if q < p then 1 else 0
theorem qK {p q:Rat}:cmpR p q < 0 ↔ p < q:=by unfold cmpR; grind
theorem cmpR_gt {p q:Rat}:0 < cmpR p q ↔ q < p:=by unfold cmpR; grind
theorem gW {p q:Rat}:cmpR p q=0 ↔ p=q:=by unfold cmpR; grind
theorem mR {p q:Rat}:cmpR p q≤0 ↔ p≤q:=by unfold cmpR; grind
theorem qL {p q:Rat}:0≤cmpR p q ↔ q≤p:=by unfold cmpR; grind
theorem zO2 (p q:Rat):(p.num * q.den - q.num * p.den).sign=cmpR p q:=by
 unfold cmpR
 have h1:p < q ↔ p.num * q.den < q.num * p.den:=Rat.lt_iff p q
 have h2:q < p ↔ q.num * p.den < p.num * q.den:=Rat.lt_iff q p
 by_cases a:p < q
 ·rw [if_pos a]; have:=h1.1 a; exact Int.sign_eq_neg_one_of_neg (by omega)
 ·rw [if_neg a]
  have a1:¬ p.num * q.den < q.num * p.den:=fun c=>a (h1.2 c)
  by_cases b:q < p
  ·rw [if_pos b]; have:=h2.1 b; exact Int.sign_eq_one_of_pos (by omega)
  ·rw [if_neg b]
   have b1:¬ q.num * p.den < p.num * q.den:=fun c=>b (h2.2 c)
   rw [show p.num * q.den - q.num * p.den=0 by omega]; rfl
def sgnR (p:Rat):Int:=p.num.sign
theorem mK (p:Rat):sgnR p=cmpR p 0:=by
 have:=zO2 p 0
 rw [← this]; unfold sgnR; simp
theorem zJ7 {p:Rat}:sgnR p < 0 ↔ p < 0:=by rw [mK,qK]
theorem lC {p:Rat}:sgnR p=0 ↔ p=0:=by rw [mK,gW]
theorem fZ {p:Rat}:sgnR p≤0 ↔ p≤0:=by rw [mK,mR]
theorem zJ8 {p:Rat}:0≤sgnR p ↔ 0≤p:=by rw [mK,qL]
abbrev P2:=Rat × Rat
def addP (a b:P2):P2:=(a.1 + b.1,a.2 + b.2)
def subP (a b:P2):P2:=(a.1 - b.1,a.2 - b.2)
def dC (a:P2) (r:Rat):P2:=(a.1 * r,a.2 * r)
def xR (a b:P2):Rat:=a.1 * b.2 - a.2 * b.1
def atP (a b:P2) (t:Rat):P2:=addP a (dC (subP b a) t)
def cmpP (a b:P2):Int:=if cmpR a.1 b.1 ≠ 0 then cmpR a.1 b.1 else cmpR a.2 b.2
def leP (a b:P2):Prop:=a.1 < b.1 ∨ a.1=b.1∧a.2≤b.2
instance (a b:P2):Decidable (leP a b):=inferInstanceAs (Decidable (_ ∨ _))
theorem mS {a b:P2}:cmpP a b≤0 ↔ leP a b:=by
 unfold cmpP leP
 have h1:=@mR a.1 b.1; have h2:=@gW a.1 b.1; have h3:=@mR a.2 b.2; have h4:=@qK a.1 b.1
 grind
theorem pV {a b:P2}:cmpP a b=0 ↔ a=b:=by
 unfold cmpP
 have h2:=@gW a.1 b.1; have h3:=@gW a.2 b.2
 rw [Prod.ext_iff]; grind
theorem mT {a b:P2}:0 < cmpP a b ↔ ¬ leP a b:=by rw [← mS]; omega
theorem fF {a b:P2}:cmpP a b < 0 ↔ ¬ leP b a:=by
 unfold cmpP leP
 have h1:=@mR a.1 b.1; have h2:=@gW a.1 b.1; have h3:=@qK a.2 b.2; have h4:=@qK a.1 b.1
 grind
theorem aG (a:P2):leP a a:=by unfold leP; grind
theorem kW {a b c:P2} (h:leP a b) (k:leP b c):leP a c:=by unfold leP at *; grind
theorem fB (a b:P2):leP a b ∨ leP b a:=by unfold leP; grind
theorem tU {a b:P2} (h:leP a b) (k:leP b a):a=b:=by unfold leP at *; rw [Prod.ext_iff]; grind
def uO (a b:P2):P2 × P2:=if 0 < cmpP a b then (b,a) else (a,b)
def bV (s:P2 × P2) (p:P2):Rat:=xR (subP s.2 s.1) (subP p s.1)
def kC (s:P2 × P2) (p:P2):Prop:=leP s.1 p∧leP p s.2
instance (s:P2 × P2) (p:P2):Decidable (kC s p):=inferInstanceAs (Decidable (_∧_))
def hasP (s:P2 × P2) (p:P2):Prop:=kC s p∧bV s p=0
instance (s:P2 × P2) (p:P2):Decidable (hasP s p):=inferInstanceAs (Decidable (_∧_))
def rS (a b c d:P2):Rat:=xR (subP c a) (subP d c) / xR (subP b a) (subP d c)
def jO (a b c d:P2):Prop:=xR (subP b a) (subP d c) ≠ 0
instance (a b c d:P2):Decidable (jO a b c d):=inferInstanceAs (Decidable (_ ≠ _))
def jV (a b c d:P2):P2:=if jO a b c d then atP a b (rS a b c d) else (0,0)
abbrev Mt:=Int × P2 × P2
def zL4:Mt:=(0,(0,0),(0,0))
def loP (s t:P2 × P2):P2:=if 0 < cmpP t.1 s.1 then t.1 else s.1
def hiP (s t:P2 × P2):P2:=if cmpP t.2 s.2 < 0 then t.2 else s.2
def xE (s t:P2 × P2):Mt :=
 if 0 < cmpP (loP s t) (hiP s t) then zL4
 else if hasP s (loP s t)∧hasP t (loP s t)∧hasP s (hiP s t)∧hasP t (hiP s t) then
  (if cmpP (loP s t) (hiP s t)=0 then 1 else 2,loP s t,hiP s t)
 else if jO s.1 s.2 t.1 t.2∧kC s (jV s.1 s.2 t.1 t.2)∧kC t (jV s.1 s.2 t.1 t.2) then
  (1,jV s.1 s.2 t.1 t.2,jV s.1 s.2 t.1 t.2)
 else zL4
def sY (a b c d:P2):Mt:=xE (uO a b) (uO c d)
theorem oC {a b c d:P2} (h:jO a b c d):xR (subP b a) (subP (jV a b c d) a)=0∧xR (subP d c) (subP (jV a b c d) c)=0:=by
 have h':=h
 unfold jV; rw [if_pos h]
 unfold jO at h'
 unfold rS atP addP dC subP xR at *
 simp only at *
 constructor <;> grind
theorem oB {a b c d p q:P2} (h:jO a b c d) (h1:xR (subP b a) (subP p a)=0) (h2:xR (subP d c) (subP p c)=0)
  (h3:xR (subP b a) (subP q a)=0) (h4:xR (subP d c) (subP q c)=0):p=q:=by
 unfold jO xR subP at *
 rw [Prod.ext_iff]
 simp only at *
 constructor <;> grind
theorem linesOk_comm {a b c d:P2}:jO a b c d ↔ jO c d a b:=by
 unfold jO xR subP; simp only; grind
theorem lo_le (s t:P2 × P2):leP s.1 (loP s t)∧leP t.1 (loP s t)∧(loP s t=s.1 ∨ loP s t=t.1):=by
 unfold loP
 have h1:=@mT t.1 s.1; have h3:=fB s.1 t.1; have h4:=aG s.1; have h5:=aG t.1
 split <;> grind
theorem hi_le (s t:P2 × P2):leP (hiP s t) s.2∧leP (hiP s t) t.2∧(hiP s t=s.2 ∨ hiP s t=t.2):=by
 unfold hiP
 have h1:=@fF t.2 s.2; have h3:=fB s.2 t.2; have h4:=aG s.2; have h5:=aG t.2
 split <;> grind
theorem pU {u v x:P2} (hv:v ≠ (0,0)) (h1:xR v x=0) (h2:xR u v=0):xR u x=0:=by
 have hv':v.1 ≠ 0 ∨ v.2 ≠ 0:=by
  rcases Classical.em (v.1=0) with h | h
  ·right; intro c; exact hv (Prod.ext h c)
  ·exact .inl h
 unfold xR at *
 rcases hv' with h | h
 ·have e:v.1 * (u.1 * x.2 - u.2 * x.1)=0:=by grind
  grind
 ·have e:v.2 * (u.1 * x.2 - u.2 * x.1)=0:=by grind
  grind
theorem mN {s t:P2 × P2} {p e:P2} (hs:hasP s p) (ht:hasP t p) (hpar:¬ jO s.1 s.2 t.1 t.2) (he:bV t e=0) (hd:t.1=t.2→e=p):bV s e=0:=by
 have hpar':xR (subP s.2 s.1) (subP t.2 t.1)=0:=Classical.not_not.1 hpar
 by_cases h0:t.1=t.2
 ·rw [hd h0]; exact hs.2
 ·have hv:subP t.2 t.1 ≠ (0,0):=fun c=>h0 (by
   unfold subP at c; rw [Prod.mk.injEq] at c
   rw [Prod.ext_iff]; constructor <;> grind)
  have h1:xR (subP t.2 t.1) (subP e p)=0:=by
   have a1:=he; have a2:=ht.2
   unfold bV xR subP at *
   simp only at *
   grind
  have h2:=pU hv h1 hpar'
  have a3:=hs.2
  unfold bV xR subP at *
  simp only at *
  grind
theorem uA (s:P2 × P2):bV s s.1=0∧bV s s.2=0:=by
 unfold bV xR subP; simp only; constructor <;> grind
theorem eU {s:P2 × P2} {p e:P2} (h:kC s p) (he:kC s e) (h0:s.1=s.2):e=p:=by
 have h1:=tU (kW h.1 h.2 |> fun _=>h.1) (h0 ▸ h.2:leP p s.1)
 have h2:=tU he.1 (h0 ▸ he.2:leP e s.1)
 rw [← h1,← h2]
theorem lI {s t:P2 × P2} {p:P2} (hs:hasP s p) (ht:hasP t p) :
  (xE s t).1 ≠ 0∧hasP s (xE s t).2.1∧hasP t (xE s t).2.1∧hasP s (xE s t).2.2∧hasP t (xE s t).2.2∧hasP (xE s t).2 p∧leP (xE s t).2.1 (xE s t).2.2 ∧
   ((xE s t).1=1 ∨ (xE s t).1=2)∧((xE s t).1=1 ↔ (xE s t).2.1=(xE s t).2.2):=by
 have hl:=lo_le s t; have hh:=hi_le s t
 have hlp:leP (loP s t) p:=by rcases hl.2.2 with e | e <;> rw [e]; exact hs.1.1; exact ht.1.1
 have hph:leP p (hiP s t):=by rcases hh.2.2 with e | e <;> rw [e]; exact hs.1.2; exact ht.1.2
 have hlh:=kW hlp hph
 unfold xE
 rw [if_neg (fun c=>mT.1 c hlh)]
 by_cases h4:hasP s (loP s t)∧hasP t (loP s t)∧hasP s (hiP s t)∧hasP t (hiP s t)
 ·rw [if_pos h4]
  obtain ⟨k1,k2,k3,k4⟩:=h4
  refine ⟨?_,k1,k2,k3,k4,⟨⟨hlp,hph⟩,?_⟩,hlh,?_,?_⟩
  ·simp only; split <;> omega
  ·have a1:=k1.2; have a2:=k3.2; have a3:=hs.2
   by_cases h0:s.1=s.2
   ·have e1:=eU hs.1 k1.1 h0; have e2:=eU hs.1 k3.1 h0
    unfold bV xR subP; simp only [e1,e2]; grind
   ·have hv:subP s.2 s.1 ≠ (0,0):=fun c=>h0 (by
     unfold subP at c; rw [Prod.mk.injEq] at c
     rw [Prod.ext_iff]; constructor <;> grind)
    have h1:xR (subP s.2 s.1) (subP p (loP s t))=0:=by
     unfold bV xR subP at *; simp only at *; grind
    have h2:xR (subP (hiP s t) (loP s t)) (subP s.2 s.1)=0:=by
     unfold bV xR subP at *; simp only at *; grind
    exact pU hv h1 h2
  ·simp only; split <;> omega
  ·simp only
   have:=@pV (loP s t) (hiP s t)
   split <;> grind
 ·rw [if_neg h4]
  have hok:jO s.1 s.2 t.1 t.2:=Classical.byContradiction fun c=>h4 (by
   have c':¬ jO t.1 t.2 s.1 s.2:=fun d=>c (linesOk_comm.1 d)
   have hsl:kC s (loP s t):=⟨hl.1,kW hlp hs.1.2⟩
   have htl:kC t (loP s t):=⟨hl.2.1,kW hlp ht.1.2⟩
   have hsh:kC s (hiP s t):=⟨kW hs.1.1 hph,hh.1⟩
   have hth:kC t (hiP s t):=⟨kW ht.1.1 hph,hh.2.1⟩
   refine ⟨⟨hsl,?_⟩,⟨htl,?_⟩,⟨hsh,?_⟩,⟨hth,?_⟩⟩
   ·rcases hl.2.2 with e | e
    ·rw [e]; exact (uA s).1
    ·exact mN hs ht c (by rw [e]; exact (uA t).1) (fun h0=>eU ht.1 htl h0)
   ·rcases hl.2.2 with e | e
    ·exact mN ht hs c' (by rw [e]; exact (uA s).1) (fun h0=>eU hs.1 hsl h0)
    ·rw [e]; exact (uA t).1
   ·rcases hh.2.2 with e | e
    ·rw [e]; exact (uA s).2
    ·exact mN hs ht c (by rw [e]; exact (uA t).2) (fun h0=>eU ht.1 hth h0)
   ·rcases hh.2.2 with e | e
    ·exact mN ht hs c' (by rw [e]; exact (uA s).2) (fun h0=>eU hs.1 hsh h0)
    ·rw [e]; exact (uA t).2)
  have hq:jV s.1 s.2 t.1 t.2=p:=by
   obtain ⟨a1,a2⟩:=oC hok
   exact oB hok a1 a2 hs.2 ht.2
  rw [hq,if_pos ⟨hok,hs.1,ht.1⟩]
  refine ⟨by simp,hs,ht,hs,ht,⟨⟨aG p,aG p⟩,(uA (p,p)).1⟩,aG p,.inl rfl,by simp⟩
theorem tS {s t:P2 × P2} (h:(xE s t).1 ≠ 0):hasP s (xE s t).2.1∧hasP t (xE s t).2.1∧hasP s (xE s t).2.2∧hasP t (xE s t).2.2:=by
 unfold xE at h ⊢
 split at h
 ·exact absurd rfl h
 ·rename_i h1
  rw [if_neg h1]
  split at h
  ·rename_i h2; rw [if_pos h2]; exact ⟨h2.1,h2.2.1,h2.2.2.1,h2.2.2.2⟩
  ·rename_i h2
   rw [if_neg h2]
   split at h
   ·rename_i h3
    rw [if_pos h3]
    obtain ⟨a1,a2⟩:=oC h3.1
    exact ⟨⟨h3.2.1,a1⟩,⟨h3.2.2,a2⟩,⟨h3.2.1,a1⟩,⟨h3.2.2,a2⟩⟩
   ·exact absurd rfl h
theorem eZ {D y:Rat} (hD:0 < D) (h:0≤y * D):0≤y:=Classical.byContradiction fun c=>by
 have:=Rat.mul_pos (show (0:Rat) < -y by grind) hD
 grind
theorem has_box {s:P2 × P2} {p:P2} (h:hasP s p):s.1.1≤p.1∧p.1≤s.2.1∧(s.1.2≤p.2∧p.2≤s.2.2 ∨ s.2.2≤p.2∧p.2≤s.1.2):=by
 obtain ⟨⟨h1,h2⟩,h3⟩:=h
 unfold bV xR subP at h3
 simp only at h3
 have b1:s.1.1≤p.1:=by unfold leP at h1; grind
 have b2:p.1≤s.2.1:=by unfold leP at h2; grind
 refine ⟨b1,b2,?_⟩
 by_cases h0:s.1.1 < s.2.1
 ·have hD:(0:Rat) < s.2.1 - s.1.1:=by grind
  by_cases hE:s.1.2≤s.2.2
  ·left
   have a1:=Rat.mul_nonneg (show (0:Rat)≤p.1 - s.1.1 by grind) (show (0:Rat)≤s.2.2 - s.1.2 by grind)
   have a2:=Rat.mul_nonneg (show (0:Rat)≤s.2.1 - p.1 by grind) (show (0:Rat)≤s.2.2 - s.1.2 by grind)
   have c1:=eZ (y:=p.2 - s.1.2) hD (by grind)
   have c2:=eZ (y:=s.2.2 - p.2) hD (by grind)
   exact ⟨by grind,by grind⟩
  ·right
   have a1:=Rat.mul_nonneg (show (0:Rat)≤p.1 - s.1.1 by grind) (show (0:Rat)≤s.1.2 - s.2.2 by grind)
   have a2:=Rat.mul_nonneg (show (0:Rat)≤s.2.1 - p.1 by grind) (show (0:Rat)≤s.1.2 - s.2.2 by grind)
   have c1:=eZ (y:=s.1.2 - p.2) hD (by grind)
   have c2:=eZ (y:=p.2 - s.2.2) hD (by grind)
   exact ⟨by grind,by grind⟩
 ·left; unfold leP at h1 h2; exact ⟨by grind,by grind⟩
def bZ (p:List P2) (i:Nat):P2 × P2:=uO (p.getD i (0,0)) (p.getD ((i + 1) % p.length) (0,0))
def qS (m:Mt):List P2:=if m.1=0 then [] else [m.2.1,m.2.2]
def xP (p:List P2):List (P2 × P2):=(List.range p.length).map (bZ p)
def rawL (es fs:List (P2 × P2)):List P2:=es.flatMap fun s=>fs.flatMap fun t=>qS (xE s t)
theorem aI {p:List P2} {s:Nat} (h:s < p.length):xP p=(xP p).take s ++ bZ p s :: (xP p).drop (s + 1)∧(xP p).take (s + 1)=(xP p).take s ++ [bZ p s]:=by
 have hl:s < (xP p).length:=by simpa [xP] using h
 have e:(xP p)[s]=bZ p s:=by simp [xP]
 exact ⟨by rw [← e,List.getElem_cons_drop,List.take_append_drop],by rw [List.take_add_one,List.getElem?_eq_getElem hl,e]; rfl⟩
theorem gL (p:List P2):(xP p).length=p.length:=by simp [xP]
theorem pairM_len (m:Mt):(qS m).length≤2:=by unfold qS; split <;> simp
theorem hC (s:P2 × P2):∀ (fs:List (P2 × P2)),(fs.flatMap fun t=>qS (xE s t)).length≤2 * fs.length
 | []=>by simp
 | t :: fs=>by
  rw [List.flatMap_cons,List.length_append,List.length_cons]
  have:=pairM_len (xE s t); have:=hC s fs; omega
theorem eD (fs:List (P2 × P2)):∀ (es:List (P2 × P2)),(rawL es fs).length≤2 * fs.length * es.length
 | []=>by simp [rawL]
 | s :: es=>by
  have h:=eD fs es
  unfold rawL at *
  rw [List.flatMap_cons,List.length_append,List.length_cons,Nat.mul_add]
  have:=hC s fs; omega
theorem cmpP_lt_trans {a b c:P2} (h:cmpP a b < 0) (k:cmpP b c < 0):cmpP a c < 0:=by
 rw [fF] at *
 exact fun x=>h (kW (Classical.byContradiction fun y=>by rcases fB b c with z | z; exact y z; exact k z) x)
theorem vJ (a:P2):¬ cmpP a a < 0:=by rw [fF]; exact fun c=>c (aG a)
def qP (q:Rat):Int:=q.num / (q.den:Int) + 1
theorem aboveQ_lt (q:Rat):q < (qP q:Rat):=by
 rw [Rat.lt_iff]
 have hd:(0:Int) < (q.den:Int):=by have:=q.den_nz; omega
 have h:=Int.lt_ediv_add_one_mul_self q.num hd
 unfold qP
 simp only [Rat.num_intCast,Rat.den_intCast]
 simpa using h
theorem aboveQ_le (q:Rat):((qP q:Int):Rat)≤q + 1:=by
 have hd:(0:Int) < (q.den:Int):=by have:=q.den_nz; omega
 have h:=Int.ediv_mul_le q.num (show (q.den:Int) ≠ 0 by omega)
 have h2:((q.num / (q.den:Int):Int):Rat)≤q:=by
  rw [Rat.le_iff]
  simpa using h
 unfold qP
 rw [Rat.intCast_add]
 have:((1:Int):Rat)=1:=rfl
 rw [this]; grind
def p2 (s:Nat):Rat:=((2 ^ s:Nat):Rat)
def dyOk (lo hi:Rat) (s:Nat):Prop:=(qP (lo * p2 s):Rat) < hi * p2 s
instance (lo hi:Rat) (s:Nat):Decidable (dyOk lo hi s):=inferInstanceAs (Decidable (_ < _))
def yA3 (lo:Rat) (s:Nat):Rat:=mkRat (qP (lo * p2 s)) (2 ^ s)
theorem tQ {a b c:Rat} (hc:0 < c):a * c < b * c ↔ a < b:=Rat.mul_lt_mul_right hc
theorem zN6 {lo hi:Rat} {s:Nat} (h:1 < (hi - lo) * p2 s):dyOk lo hi s:=by
 unfold dyOk
 have:=aboveQ_le (lo * p2 s)
 grind
theorem bM (q:Rat):q * (q.den:Rat)=(q.num:Rat):=by
 have h:=Rat.mkRat_self q
 rw [Rat.mkRat_eq_div] at h
 have hd:(q.den:Rat) ≠ 0:=by
  have:=q.den_nz
  intro c
  have:((q.den:Nat):Rat)=((0:Nat):Rat):=c
  exact q.den_nz (Rat.natCast_inj.1 this)
 grind
theorem vG {lo hi:Rat} {a b:Nat} (h:lo < hi) (h1:lo.den < 4294967296 ^ a) (h2:hi.den < 4294967296 ^ b):dyOk lo hi (32 * (a + b)):=by
 apply zN6
 have hx:(lo.num * hi.den:Int) < hi.num * lo.den:=(Rat.lt_iff lo hi).1 h
 have d1:=lo.den_nz; have d2:=hi.den_nz
 have hD:(0:Rat) < ((lo.den * hi.den:Nat):Rat):=by
  exact (show ((0:Nat):Rat)=0 from rfl) ▸ Rat.natCast_lt_natCast.2 (Nat.mul_pos (by omega) (by omega))
 have e:(hi - lo) * ((lo.den * hi.den:Nat):Rat)=((hi.num * lo.den - lo.num * hi.den:Int):Rat):=by
  have a1:hi * (hi.den:Rat)=(hi.num:Rat):=bM hi
  have a2:lo * (lo.den:Rat)=(lo.num:Rat):=bM lo
  rw [Rat.natCast_mul,Rat.intCast_sub,Rat.intCast_mul,Rat.intCast_mul]
  have b1:((lo.den:Int):Rat)=(lo.den:Rat):=rfl
  have b2:((hi.den:Int):Rat)=(hi.den:Rat):=rfl
  rw [b1,b2]; grind
 have f:(1:Rat)≤(hi - lo) * ((lo.den * hi.den:Nat):Rat):=by
  rw [e]
  have:((1:Int):Rat)≤((hi.num * lo.den - lo.num * hi.den:Int):Rat):=Rat.intCast_le_intCast.2 (by omega)
  simpa using this
 have g:((lo.den * hi.den:Nat):Rat) < p2 (32 * (a + b)):=by
  unfold p2
  apply Rat.natCast_lt_natCast.2
  have:2 ^ (32 * (a + b))=4294967296 ^ a * 4294967296 ^ b:=by rw [Nat.pow_mul,Nat.pow_add]
  rw [this]
  exact Nat.mul_lt_mul'' h1 h2
 have hp:(0:Rat) < hi - lo:=by grind
 have k:=(Rat.mul_lt_mul_left hp).2 g
 grind
def nA (xs:List Rat) (x:Rat):Option Nat:=xs.findIdx? (fun y=>decide (y=x))
def bU (xs:List Rat) (x:Rat) (i:Nat):Bool:=decide (i + 1 < xs.length) && decide (xs.getD i 0 < x) && decide (x < xs.getD (i + 1) 0)
def nH (xs:List Rat) (x:Rat):Option Nat:=(List.range xs.length).find? (bU xs x)
def aH (xs:List Rat) (x:Rat):Nat × Bool × Bool:=match nA xs x with
 | some i=>(i,true,true)
 | none=>match nH xs x with
  | some i=>(i,false,true)
  | none=>(0,false,false)
def fR (xs:List Rat):Prop:=∀ i,i + 1 < xs.length→xs.getD i 0 < xs.getD (i + 1) 0
instance (xs:List Rat):Decidable (fR xs):=decidable_of_iff (∀ i,i < xs.length→i + 1 < xs.length→xs.getD i 0 < xs.getD (i + 1) 0) ⟨fun h i hi=>h i (by omega) hi,fun h i _ hi=>h i hi⟩
theorem oP {xs:List Rat} {x:Rat} {i:Nat} (hi:i < xs.length) (h:xs.getD i 0=x) (hn:∀ j,j < i→xs.getD j 0 ≠ x):nA xs x=some i:=by
 unfold nA
 rw [List.findIdx?_eq_some_iff_getElem]
 refine ⟨hi,by simpa [List.getD_eq_getElem?_getD,List.getElem?_eq_getElem hi] using h,fun j hj=>?_⟩
 have:=hn j hj
 simpa [List.getD_eq_getElem?_getD,List.getElem?_eq_getElem (show j < xs.length by omega)] using this
theorem eS {xs:List Rat} {x:Rat} (hn:∀ j,j < xs.length→xs.getD j 0 ≠ x):nA xs x=none:=by
 unfold nA
 rw [List.findIdx?_eq_none_iff]
 intro y hy
 obtain ⟨j,hj,rfl⟩:=List.mem_iff_getElem.1 hy
 have:=hn j hj
 simpa [List.getD_eq_getElem?_getD,List.getElem?_eq_getElem hj] using this
theorem oV {xs:List Rat} {x:Rat} {i:Nat} (hi:i + 1 < xs.length) (h1:xs.getD i 0 < x) (h2:x < xs.getD (i + 1) 0) (hn:∀ j,j < i→¬ bU xs x j=true):nH xs x=some i:=by
 unfold nH
 rw [List.find?_range_eq_some]
 refine ⟨by unfold bU; rw [decide_eq_true hi,decide_eq_true h1,decide_eq_true h2]; rfl,by simp; omega,fun j hj=>by simpa using hn j hj⟩
theorem oW {xs:List Rat} {x:Rat} (hn:∀ j,j < xs.length→¬ bU xs x j=true):nH xs x=none:=by
 unfold nH
 rw [List.find?_eq_none]
 intro j hj; exact hn j (List.mem_range.1 hj)
end Go.SL
namespace Go.Proofs.YtflobagimodmgaaGreatDoor
open Go.SL Go.RowKit Go.Proofs Tryz
section
variable {M : Nat → Prop} {w : World}
theorem tz_c {x:Nat} (hT:Tab M w) (h0:x ≠ 0) (hx:x < 18446744073709551616) (hM:OkM M w) :
    CallsV prog 314 [.int .u64 (x:Int)] w fun r w'=>Bel w.heap.size w w'∧r = .int .i64 ((tz x:Nat):Int):=by
 have hk:=lU (n:=64) h0 (Nat.lt_of_lt_of_eq hx (by decide))
 have hlb:=and_low_bit h0 (Nat.lt_of_lt_of_eq hx (by decide))
 rw [show (2:Nat) ^ 64=18446744073709551616 by decide] at hlb
 have e58:(2:Nat) ^ (58:Int).toNat=288230376151711744:=by decide
 have htab:=tab_all (tz x) hk
 refine ci M func314 ntmps314 fun Fz hFz hF LL=>?_
 refine zF (zB (zC rfl rfl (zD (zF (zF (zB (zA rfl rfl (qI rfl rfl rfl (zD ?_)))))))))
 refine zU rfl (fun hp=>absurd hp (by omega)) (fun hc0=>?_)
 refine yE (zF (zB (zA rfl rfl (zA rfl rfl (ops_negu rfl rfl hx (jR (d:=7) (u:=.int .u64 ((18446744073709551616 - x:Nat):Int)) rfl (by show Value.int .u64 _=Value.int .u64 _; congr 2 <;> omega) (cU rfl rfl rfl (by simp only [IntKind.bits]; omega) (by simp only [IntKind.bits]; omega) (.inl rfl) (jR (d:=8) (u:=.int .u64 ((2 ^ tz x:Nat):Int)) rfl (by rw [hlb]) (aD (b:=285870213051353865) rfl rfl rfl (xW rfl rfl rfl (by simp only [IntKind.bits]; omega) (jR (d:=10) (u:=.int .u64 ((2 ^ tz x * 285870213051353865 % 18446744073709551616 / 288230376151711744:Nat):Int)) rfl (by rw [← e58]) (nW (2 ^ tz x * 285870213051353865 % 18446744073709551616 / 288230376151711744) rfl underlying296 sz5 rfl rfl rfl rfl zQ9 (yX rfl flat5 rfl (by rw [Nat.zero_add]; exact hT.cell zQ9) ?_)))))))))))))
 rw [htab]
 refine iD rfl yu5 yu3 rfl (by omega) ?_
 refine zC rfl rfl (zD (zY ?_))
 refine lv1 ⟨rfl,trivial⟩ ?_
 subst hFz
 exact ⟨LL.b,rfl⟩
theorem pO {a b:Nat} (h:a≤b):Nat.gcd a (b - a)=Nat.gcd a b:=by
  obtain ⟨c,rfl⟩:∃ c,b=c + a:=⟨b - a,by omega⟩
  rw [Nat.add_sub_cancel,Nat.gcd_add_self_right]
theorem word_c {a b:Nat} (hT:Tab M w) (ha:a < 18446744073709551616) (hb:b < 18446744073709551616) (hM:OkM M w) :
    CallsV prog 304 [.int .u64 (a:Int),.int .u64 (b:Int)] w fun r w'=>Bel w.heap.size w w'∧r = .int .u64 ((Nat.gcd a b:Nat):Int):=by
 refine ci M func304 ntmps304 fun Fz hFz hF LL=>?_
 refine zF (zB (zC rfl rfl (zD (dS (zF (zF (zB (zA rfl rfl (qI rfl rfl rfl (zA rfl rfl (kU (d:=8) rfl (fun hg1_2=>?_) (fun hg1_2=>?_))))))))))))
 ·have ha0:a=0:=by omega
  refine yL rfl rfl rfl rfl (yL rfl rfl rfl rfl (jW rfl rfl rfl (zD (iY rfl (zF (zB (zA rfl rfl (zA rfl rfl (uE rfl rfl rfl (by simp only [IntKind.bits]; omega) (by simp only [IntKind.bits]; omega) (.inl rfl) (zC rfl rfl (zD (zY ?_))))))))))))
  refine lv1 ⟨rfl,trivial⟩ ?_
  subst hFz
  exact ⟨LL.b,by subst ha0; simp⟩
 ·have ha0:a ≠ 0:=by omega
  refine yK rfl rfl (zA rfl rfl (yK rfl rfl (qI rfl rfl rfl (jW rfl rfl rfl (zD ?_)))))
  refine zU rfl (fun hc0=>?_) (fun hc0=>?_)
  ·have hb0:b=0:=by omega
   refine zF (zB (zA rfl rfl (zA rfl rfl (uE rfl rfl rfl (by simp only [IntKind.bits]; omega) (by simp only [IntKind.bits]; omega) (.inl rfl) (zC rfl rfl (zD (zY ?_)))))))
   refine lv1 ⟨rfl,trivial⟩ ?_
   subst hFz
   exact ⟨LL.b,by subst hb0; simp⟩
  ·have hb0:b ≠ 0:=by omega
   have hab:a ||| b < 18446744073709551616:=Nat.or_lt_two_pow (n:=64) ha hb
   have hab0:a ||| b ≠ 0:=fun c=>ha0 (by have h0:a≤a ||| b:=Nat.left_le_or; omega)
   have hka:=lU (n:=64) ha0 (Nat.lt_of_lt_of_eq ha (by decide))
   have hkk:=lU (n:=64) hab0 (Nat.lt_of_lt_of_eq hab (by decide))
   have hgw:=gcd_word (a:=a) (b:=b) ha0 rfl rfl
   have hAle:a / 2 ^ tz a≤a:=Nat.div_le_self _ _
   refine yE (zF (zB (zA rfl rfl (zA rfl rfl (uE rfl rfl rfl (by simp only [IntKind.bits]; omega) (by simp only [IntKind.bits]; omega) (.inl rfl) (zK rfl (bo func314) rfl rfl ?_))))))
   refine (tz_c (x:=a ||| b) hT hab0 hab hM).mono ?_
   rintro v18 w1 ⟨hB18,rfl⟩
   obtain ⟨LL,hM,hT⟩:=ub3 hB18 LL hM hT
   refine zC rfl rfl (zD (zF (zB (zA rfl rfl (zA rfl rfl (zK rfl (bo func314) rfl rfl ?_))))))
   refine (tz_c (x:=a) hT ha0 ha hM).mono ?_
   rintro v21 w2 ⟨hB21,rfl⟩
   obtain ⟨LL,hM,hT⟩:=ub3 hB21 LL hM hT
   refine xW rfl rfl rfl (by simp only [IntKind.bits]; omega) (zC rfl rfl (zD (zF (dU (zF (zX ?_))))))
   refine xT (σ:=Nat × Nat) [(5,_)] (fun s=>[(0,.int .u64 ((s.1:Nat):Int)),(1,.int .u64 ((s.2:Nat):Int))]) (fun s w3=>Le Fz M w2 M w3∧s.1 % 2=1∧s.1 < 18446744073709551616∧s.2 < 18446744073709551616∧Nat.gcd s.1 s.2=Nat.gcd (a / 2 ^ tz a) b) (fun s=>s.1 + s.2) ((a / 2 ^ tz a,b)) (zI rfl (zI rfl (zI rfl yB))) ?_ (fun s w3 hJ=>?_)
   · dsimp only
     exact ⟨Le.refl _ _ _,hgw.2,by omega,hb,rfl⟩
   ·obtain ⟨p,q⟩:=s
    dsimp only at hJ ⊢
    obtain ⟨LR,hp,hpb,hqb,hg⟩:=hJ
    obtain ⟨LL,hM,hT⟩:=up3 LR LL hM hT
    refine zF (zF (zB (zA rfl rfl (fT rfl rfl rfl (zD ?_)))))
    refine zU rfl (fun hc1=>?_) (fun hc1=>?_)
    ·have hq:q ≠ 0:=by omega
     have hkq:=lU (n:=64) hq (Nat.lt_of_lt_of_eq hqb (by decide))
     obtain ⟨q1,hq1⟩:∃ q1,q1=q / 2 ^ tz q:=⟨_,rfl⟩
     have hqs:=eT q hq
     rw [← hq1] at hqs
     have hqle:q1≤q:=by rw [hq1]; exact Nat.div_le_self _ _
     have hgq:Nat.gcd p q=Nat.gcd p q1:=by conv=>lhs; rw [hqs.1,uJ hp]
     have hp0:0 < p:=by omega
     refine yE (zX (zF (zB (zA rfl rfl (zA rfl rfl (zK rfl (bo func314) rfl rfl ?_))))))
     refine (tz_c (x:=q) hT hq hqb hM).mono ?_
     rintro v27 w4 ⟨hB27,rfl⟩
     replace LR:=ub1 hB27 LR
     refine xW rfl rfl rfl (by simp only [IntKind.bits]; omega) (jR (d:=28) (u:=.int .u64 ((q1:Nat):Int)) rfl (by rw [hq1]; rfl) (zC rfl rfl (zD (zF (zF (zB (zA rfl rfl (zA rfl rfl (wG rfl rfl rfl (zD ?_))))))))))
     refine zU rfl (fun hc2=>?_) (fun hc2=>?_)
     ·refine zF (zB (zA rfl rfl (zA rfl rfl ?_)))
      first | refine aB rfl rfl rfl (by omega) (by omega) ?_ | refine uN rfl rfl rfl (by omega) ?_
      refine zC rfl rfl (zD (xI (xK ?_)))
      refine ⟨rfl,(p,q1 - p),(zR rfl (rfl) (zR rfl (rfl) (zI rfl yB))),?_,?_⟩
      dsimp only
      exact ⟨LR,hp,hpb,by omega,by rw [pO (by omega),← hgq,hg]⟩
      dsimp only
      omega
     ·refine yE (zB (zA rfl rfl (zA rfl rfl (zA rfl rfl ?_))))
      first | refine aB rfl rfl rfl (by omega) (by omega) ?_ | refine uN rfl rfl rfl (by omega) ?_
      refine zC rfl rfl (zC rfl rfl (zD ?_))
      refine ⟨rfl,(q1,p - q1),(zR rfl (rfl) (zR rfl (rfl) (zI rfl yB))),?_,?_⟩
      dsimp only
      exact ⟨LR,hqs.2,by omega,by omega,by rw [pO (by omega),Nat.gcd_comm,← hgq,hg]⟩
      dsimp only
      omega
    ·refine xI (xK (zF (zB (zA rfl rfl (zA rfl rfl (qM (m:=18446744073709551616) rfl rfl rfl (by simp only [IntKind.bits]; omega) rfl (.inl rfl) (zC rfl rfl (zD (zY ?_)))))))))
     refine lv1 ⟨rfl,trivial⟩ ?_
     obtain rfl:q=0:=by omega
     rw [Nat.gcd_zero_right] at hg
     have hle:Nat.gcd a b≤a:=Nat.gcd_le_left _ (Nat.pos_of_ne_zero ha0)
     have hfin:p * 2 ^ tz (a ||| b) % 18446744073709551616=Nat.gcd a b:=by rw [hg,hgw.1,Nat.mul_comm]; exact Nat.mod_eq_of_lt (by rw [← hgw.1]; omega)
     subst hFz
     exact ⟨LL.b,by rw [← hfin]; rfl⟩
theorem gcd_c {v u:Value} {xs ys:List Nat} (hT:Tab M w) (h1:IsNat M w v xs) (h2:IsNat M w u ys) (hl1:xs.length≤10000000) (hl2:ys.length≤10000000) (hM:OkM M w) :
    CallsV prog 290 [v,u] w fun r w'=>Bel w.heap.size w w'∧IsNat M w' r (limbs (Nat.gcd (val xs) (val ys))):=by
 have hxl:=yC xs h1.lt
 have hyl:=yC ys h2.lt
 refine ci M func290 ntmps290 fun Fz hFz hF LL=>?_
 refine zF (zB (zC rfl rfl (zD (zF (zB (zA rfl rfl (zK rfl (bo func252) rfl rfl ?_)))))))
 refine (qR (by assumption) (by omega) hM).mono ?_
 rintro v13 w1 ⟨hB13,hf13⟩
 have hM13:=hM
 have hS13:=LL.size
 obtain ⟨LL,hM,hF,h1,h2,hT⟩:=ub6 hB13 LL hM hF h1 h2 hT
 have hn13:=hf13.nat hM13
 replace hf13:=hf13.less hS13
 refine zA rfl rfl (zK rfl (bo func252) rfl rfl ?_)
 refine (qR (by assumption) (by omega) hM).mono ?_
 rintro v15 w2 ⟨hB15,hf15⟩
 have hM15:=hM
 have hS15:=LL.size
 obtain ⟨LL,hM,hF,h1,h2,hT,hn13⟩:=ub7 hB15 LL hM hF h1 h2 hT hn13
 have hn15:=hf15.nat hM15
 replace hf15:=hf15.less hS15
 refine zC rfl rfl (zC rfl rfl (zD (zF (zX ?_))))
 refine xT (σ:=Value × Value × Nat × Nat) [] (fun s=>[(0,s.1),(1,s.2.1)]) (fun s w3=>Le Fz M w2 M w3∧IsNat M w3 s.1 (limbs s.2.2.1)∧IsNat M w3 s.2.1 (limbs s.2.2.2)∧Nat.gcd s.2.2.1 s.2.2.2=Nat.gcd (val xs) (val ys)∧(limbs s.2.2.1).length≤10000000∧(limbs s.2.2.2).length≤10000000) (fun s=>s.2.2.2) ((v13,v15,val xs,val ys)) (zI rfl (zI rfl yB)) ?_ (fun s w3 hJ=>?_)
 · dsimp only
   exact ⟨Le.refl _ _ _,hn13,hn15,rfl,by omega,by omega⟩
 ·obtain ⟨a,b,x,y⟩:=s
  dsimp only at hJ ⊢
  obtain ⟨LR,ha,hb,hg,hal,hbl⟩:=hJ
  obtain ⟨LL,hM,hF,h1,h2,hT,hn13,hn15⟩:=up8 LR LL hM hF h1 h2 hT hn13 hn15
  refine zF (zF (zB (zA rfl rfl ?_)))
  refine yT rfl yu29 rfl ?_
  refine bJ rfl rfl rfl (zD ?_)
  refine zU rfl (fun hc0=>?_) (fun hc0=>?_)
  ·have hy0:y ≠ 0:=fun c=>by rw [c,yW] at hc0; simp at hc0
   refine yE (zX (zF (zB (zA rfl rfl (zK rfl (bo func303) rfl rfl ?_)))))
   refine (zJ6 ha (by omega) hM).mono ?_
   rintro v21 w4 ⟨hB21,rfl⟩
   obtain ⟨LL,LR,hM,hT,ha,hb⟩:=ub6 hB21 LL LR hM hT ha hb
   simp only [zP]
   refine zA rfl rfl (yM rfl rfl rfl (yM rfl rfl rfl (zC rfl rfl (zC rfl rfl (zD (zF (zB (zA rfl rfl (zK rfl (bo func303) rfl rfl ?_)))))))))
   refine (zJ6 hb (by omega) hM).mono ?_
   rintro v26 w5 ⟨hB26,rfl⟩
   obtain ⟨LL,LR,hM,hT,ha,hb⟩:=ub6 hB26 LL LR hM hT ha hb
   simp only [zP]
   refine zA rfl rfl (yM rfl rfl rfl (yM rfl rfl rfl (zC rfl rfl (zC rfl rfl (zD (zF (zF (zB (zA rfl rfl (zA rfl rfl (kU (d:=30) rfl (fun hg5_1=>?_) (fun hg5_1=>?_))))))))))))
   ·refine yK rfl rfl (zA rfl rfl (jW rfl rfl rfl (zD ?_)))
    refine zU rfl (fun hc1=>?_) (fun hc1=>?_)
    ·have hsx:qO x=x:=if_pos hg5_1
     have hsy:qO y=y:=if_pos hc1
     refine zF (zB (zA rfl rfl (zA rfl rfl (zK rfl (bo func304) rfl rfl ?_))))
     refine (word_c (a:=qO x) (b:=qO y) hT (by rw [hsx]; exact hg5_1) (by rw [hsy]; exact hc1) hM).mono ?_
     rintro v35 w6 ⟨hB35,rfl⟩
     obtain ⟨LL,hM⟩:=ub2 hB35 LL hM
     refine zK rfl (bo func253) rfl rfl ?_
     refine (of_c (by rw [hsx]; exact Nat.lt_of_le_of_lt (by rw [hsy]; exact Nat.gcd_le_right _ (Nat.pos_of_ne_zero hy0)) hc1) hM).mono ?_
     rintro v36 w7 ⟨hB36,hf36⟩
     have hM36:=hM
     have hS36:=LL.size
     replace LL:=ub1 hB36 LL
     have hn36:=hf36.nat hM36
     refine zC rfl rfl (zD (zY ?_))
     refine lv1 ⟨rfl,trivial⟩ ?_
     subst hFz
     rw [hsx,hsy,hg] at hn36
     exact ⟨LL.b,hn36⟩
    ·refine yE (zF (zB (zA rfl rfl (zA rfl rfl (zK rfl (bo func286) rfl rfl ?_)))))
     refine (zN8 ha hb (by omega) (by omega) hM).mono ?_
     rintro v40 w8 ⟨hB40,q40,s40,rfl,hf40,hg40⟩
     have hM40:=hM
     have hS40:=LL.size
     obtain ⟨LR,hb⟩:=ub2 hB40 LR hb
     simp only [zP] at hf40 hg40
     have hn40:=hf40.nat hM40
     have hm40:=hg40.nat hM40
     refine zA rfl rfl (yM rfl rfl rfl (yM rfl rfl rfl (yM rfl rfl rfl (zC rfl rfl (zC rfl rfl (zC rfl rfl (zD (zB (zA rfl rfl (zA rfl rfl (zC rfl rfl (zC rfl rfl (zD ?_)))))))))))))
     refine ⟨rfl,(b,s40,y,x % y),(zR rfl (rfl) (zR rfl (rfl) yB)),?_,?_⟩
     dsimp only
     have hrl:=yG (Nat.le_of_lt (Nat.mod_lt x (Nat.pos_of_ne_zero hy0)))
     rw [if_neg hy0] at hm40
     exact ⟨LR,hb,hm40,by rw [← hg,Nat.gcd_comm,← Nat.gcd_rec,Nat.gcd_comm],by omega,by omega⟩
     dsimp only
     exact Nat.mod_lt x (Nat.pos_of_ne_zero hy0)
   ·refine yL rfl rfl rfl rfl (jW rfl rfl rfl (zD (aV rfl (yE (zF (zB (zA rfl rfl (zA rfl rfl (zK rfl (bo func286) rfl rfl ?_)))))))))
    refine (zN8 ha hb (by omega) (by omega) hM).mono ?_
    rintro v40 w9 ⟨hB40,q40,s40,rfl,hf40,hg40⟩
    have hM40:=hM
    have hS40:=LL.size
    obtain ⟨LR,hb⟩:=ub2 hB40 LR hb
    simp only [zP] at hf40 hg40
    have hn40:=hf40.nat hM40
    have hm40:=hg40.nat hM40
    refine zA rfl rfl (yM rfl rfl rfl (yM rfl rfl rfl (yM rfl rfl rfl (zC rfl rfl (zC rfl rfl (zC rfl rfl (zD (zB (zA rfl rfl (zA rfl rfl (zC rfl rfl (zC rfl rfl (zD ?_)))))))))))))
    refine ⟨rfl,(b,s40,y,x % y),(zR rfl (rfl) (zR rfl (rfl) yB)),?_,?_⟩
    dsimp only
    have hrl:=yG (Nat.le_of_lt (Nat.mod_lt x (Nat.pos_of_ne_zero hy0)))
    rw [if_neg hy0] at hm40
    exact ⟨LR,hb,hm40,by rw [← hg,Nat.gcd_comm,← Nat.gcd_rec,Nat.gcd_comm],by omega,by omega⟩
    dsimp only
    exact Nat.mod_lt x (Nat.pos_of_ne_zero hy0)
  ·refine xI (xK (zF (zB (zA rfl rfl (zC rfl rfl (zD (zY ?_)))))))
   refine lv1 ⟨rfl,trivial⟩ ?_
   have hy0:y=0:=yH.1 (by omega)
   rw [hy0,Nat.gcd_zero_right] at hg
   rw [hg] at ha
   subst hFz
   exact ⟨LL.b,ha⟩
theorem zV4 {b:Nat} {v vg:Value} {xs gs:List Nat} (hk:KBlk M w b 29 [vg]) (hg:IsNat M w vg gs) (h1:IsNat M w v xs) (hl1:xs.length≤10000000) (hl2:gs.length≤10000000) (hM:OkM M w) :
    CallsV prog 305 [v,.pointer (some ⟨b,0,none⟩)] w fun r w'=>Bel w.heap.size w w'∧IsNat M w' r (limbs (val xs / val gs)):=by
 have B1:=hk.blk
 refine ci M func305 ntmps305 fun Fz hFz hF LL=>?_
 refine zF (zB (zC rfl rfl (zD (zF (zB (zA rfl rfl (zN rfl yS rfl B1 rfl (zK rfl (bo func286) rfl rfl ?_))))))))
 refine (zN8 h1 hg (by omega) (by omega) hM).mono ?_
 rintro v10 w1 ⟨hB10,q10,s10,rfl,hf10,hg10⟩
 have hM10:=hM
 have hS10:=LL.size
 replace LL:=ub1 hB10 LL
 have hn10:=hf10.nat hM10
 refine zA rfl rfl (yM rfl rfl rfl (yM rfl rfl rfl (yM rfl rfl rfl (zC rfl rfl (zC rfl rfl (zC rfl rfl (zD (zF (zB (zA rfl rfl (zC rfl rfl (zD (zY ?_)))))))))))))
 refine lv1 ⟨rfl,trivial⟩ ?_
 subst hFz
 exact ⟨LL.b,hn10⟩
theorem gby_c {v:Value} {xs:List Nat} (h1:IsNat M w v xs) (hM:OkM M w) :
    CallsV prog 291 [v] w fun r w'=>Bel w.heap.size w w'∧∃ b,r = .func (.func 305) #[] #[.pointer (some ⟨b,0,none⟩)]∧KBlk M w' b 29 [v]:=by
 refine ci M func291 ntmps291 fun Fz hFz hF LL=>?_
 refine zF (zB (gJ rfl rfl (fun w1 b1 N1=>?_)))
 obtain ⟨_,nF1,nM1,Lw1,B1⟩:=nz hF hM N1
 obtain ⟨LL,h1⟩:=up2 Lw1 LL h1
 rw [h1.one] at B1
 refine zC rfl rfl (zD (zF (zB (gZ rfl rfl (zC rfl rfl (zD (zY ?_)))))))
 refine lv1 ⟨rfl,trivial⟩ ?_
 subst hFz
 exact ⟨LL.b,b1,rfl,B1,nM1⟩
theorem reduce_c {v u:Value} {xs ys:List Nat} (hT:Tab M w) (h1:IsNat M w v xs) (h2:IsNat M w u ys) (hl1:xs.length≤10000000) (hl2:ys.length≤10000000) (hM:OkM M w) :
    CallsV prog 266 [v,u] w fun r w'=>Bel w.heap.size w w'∧∃ q s,r = .tuple #[q,s]∧IsNat M w' q (limbs (val xs / Nat.gcd (val xs) (val ys)))∧IsNat M w' s (limbs (val ys / Nat.gcd (val xs) (val ys))):=by
 have hxl:=yC xs h1.lt
 have hyl:=yC ys h2.lt
 have hgl:(limbs (Nat.gcd (val xs) (val ys))).length≤10000000:=by
   rcases Nat.eq_zero_or_pos (val xs) with h | h
   · rw [h,Nat.gcd_zero_left]; omega
   · have:=yG (Nat.gcd_le_left (val ys) h); omega
 refine ci M func266 ntmps266 fun Fz hFz hF LL=>?_
 refine zF (zB (zC rfl rfl (zC rfl rfl (zD (zF (zB (zA rfl rfl (zA rfl rfl (zK rfl (bo func290) rfl rfl ?_)))))))))
 refine (gcd_c hT (by assumption) (by assumption) (by omega) (by omega) hM).mono ?_
 rintro v10 w1 ⟨hB10,hn10⟩
 obtain ⟨LL,hM,h1,h2⟩:=ub4 hB10 LL hM h1 h2
 refine zC rfl rfl (zD (zF (zF (zB (zA rfl rfl ?_)))))
 refine yT rfl yu29 rfl ?_
 refine qI rfl rfl rfl (zD ?_)
 refine zU rfl (fun hc0=>?_) (fun hc0=>?_)
 ·have hg0:Nat.gcd (val xs) (val ys)=0:=yH.1 (by omega)
  refine zF (zB (zC rfl rfl (zC rfl rfl (zD (zY ?_)))))
  refine xF ⟨[_,_],⟨rfl,rfl,trivial⟩,?_⟩
  dsimp only [xG]
  subst hFz
  rw [hg0,Nat.div_zero,Nat.div_zero,yW]
  exact ⟨LL.b,_,_,rfl,kA,kA⟩
 ·refine yE (zF (zB (zA rfl rfl (zK rfl (bo func291) rfl rfl ?_))))
  refine (gby_c hn10 hM).mono ?_
  rintro v15 w2 ⟨hB15,b15,rfl,hk15⟩
  obtain ⟨LL,hM,h1,h2,hn10⟩:=ub5 hB15 LL hM h1 h2 hn10
  refine zC rfl rfl (zD (zF (zB (zA rfl rfl (zA rfl rfl (zK rfl (bo func305) rfl rfl ?_))))))
  refine (zV4 hk15 hn10 h1 (by omega) hgl hM).mono ?_
  rintro v18 w3 ⟨hB18,hn18⟩
  obtain ⟨LL,hM,h2,hn10,hk15⟩:=ub5 hB18 LL hM h2 hn10 hk15
  rw [zP] at hn18
  refine zA rfl rfl (zA rfl rfl (zK rfl (bo func305) rfl rfl ?_))
  refine (zV4 hk15 hn10 h2 (by omega) hgl hM).mono ?_
  rintro v21 w4 ⟨hB21,hn21⟩
  obtain ⟨LL,hn18⟩:=ub2 hB21 LL hn18
  rw [zP] at hn21
  refine zC rfl rfl (zC rfl rfl (zD (zY ?_)))
  refine xF ⟨[_,_],⟨rfl,rfl,trivial⟩,?_⟩
  dsimp only [xG]
  subst hFz
  exact ⟨LL.b,_,_,rfl,hn18,hn21⟩
def zv (b:Bool) (xs:List Nat):Int:=if b then -((val xs:Nat):Int) else ((val xs:Nat):Int)
theorem bB (b:Bool) (xs:List Nat):(zv b xs).natAbs=val xs:=by cases b <;> simp [zv]
theorem vT (b:Bool) (xs:List Nat):decide (zv b xs < 0)=(b && decide ((((limbs (val xs)).length:Nat):Int) > 0)):=by
  have h:(((limbs (val xs)).length:Nat):Int) > 0 ↔ val xs ≠ 0:=by
    rw [← Nat.pos_iff_ne_zero]
    constructor
    · intro h; exact Nat.pos_of_ne_zero fun c=>by rw [c,yW] at h; simp at h
    · intro h; have:=mt yH.1 (Nat.ne_of_gt h); omega
  cases b
  · simp [zv]
  · have e:(-((val xs:Nat):Int) < 0) ↔ val xs ≠ 0:=by omega
    simp only [zv,if_true,Bool.true_and,h,e]
theorem bO (z:Int):zv (decide (z < 0)) (limbs z.natAbs)=z:=by
  unfold zv; rw [zP]; by_cases h:z < 0 <;> simp [h] <;> omega
theorem iM {Fz M:Nat→Prop} {w:World} {b:Nat} {s:Bool} {v:Value} {xs:List Nat} (Bn:Blk w b 219 [.bool s,v]) (h:IsNat M w v xs) (hl:xs.length≤1000000000) (hmn:M b) (nFn:¬ Fz b) (hF:FOk Fz w) (hM:OkM M w) :
    CallsV prog 268 [.pointer (some ⟨b,0,none⟩)] w fun r w'=>r = .pointer (some ⟨b,0,none⟩)∧Le Fz M w M w'∧∃ q,Blk w' b 219 [.bool (decide (zv s xs < 0)),q]∧IsNat M w' q (limbs (zv s xs).natAbs):=by
 rw [bB,vT]
 have LL:=Le.refl Fz M w
 refine jL func268 rfl ntmps268 rfl ?_
 refine zF (zB (zC rfl rfl (zD (zF (zB (zA rfl rfl (zA rfl rfl (zW rfl rfl (zL 0 rfl yu219 rfl rfl sz31 rfl rfl (zL 1 rfl yu31 rfl rfl sz29 rfl rfl (zN rfl yS rfl Bn rfl (zK rfl (bo func252) rfl rfl ?_))))))))))))
 refine (qR h (by omega) hM).mono ?_
 rintro v9 w1 ⟨hB9,hf9⟩
 have hM9:=hM
 have hS9:=LL.size
 obtain ⟨LL,h,Bn⟩:=ub3 hB9 LL h Bn
 have hn9:=hf9.nat hM9
 refine zW rfl rfl (zL 0 rfl yu219 rfl rfl sz31 rfl rfl (zL 1 rfl yu31 rfl rfl sz29 rfl rfl (xZ (i:=1) rfl rfl sz29 Bn (by first | rfl | exact yU (by assumption) | assumption | exact yQ (by assumption)) (by simp) (fun w2 Cw2 Bn=>?_))))
 obtain ⟨LL,h,hn9⟩:=up3 (lc LL Cw2 hmn nFn) LL h hn9
 refine zD (zF (zB (zA rfl rfl (zA rfl rfl (zW rfl rfl (zL 0 rfl yu219 rfl rfl sz31 rfl rfl (zL 0 rfl yu31 rfl rfl sz4 rfl rfl (zN rfl dR rfl Bn rfl (zA rfl rfl (pD (d:=19) rfl (fun hg2_6=>?_) (fun hg2_6=>?_)))))))))))
 ·refine yK rfl rfl (zA rfl rfl (yK rfl rfl (zW rfl rfl (yK rfl rfl (zL 0 rfl yu219 rfl rfl sz31 rfl rfl (yK rfl rfl (zL 1 rfl yu31 rfl rfl sz29 rfl rfl (yK rfl rfl (zN rfl yS rfl Bn rfl (yK rfl rfl ?_))))))))))
  refine yT rfl yu29 rfl ?_
  refine yK rfl rfl (bJ rfl rfl rfl (jW rfl rfl rfl (zW rfl rfl (zL 0 rfl yu219 rfl rfl sz31 rfl rfl (zL 0 rfl yu31 rfl rfl sz4 rfl rfl (xZ (i:=0) rfl rfl sz4 Bn (by first | rfl | exact yU (by assumption) | assumption | exact yQ (by assumption)) (by simp) (fun w3 Cw3 Bn=>?_)))))))
  obtain ⟨LL,h,hn9⟩:=up3 (lc LL Cw3 hmn nFn) LL h hn9
  refine zD (zF (zB (zA rfl rfl (zC rfl rfl (zD (zY ?_))))))
  refine lv1 ⟨rfl,trivial⟩ ?_
  first
  | exact ⟨rfl,LL,_,Bn,hn9⟩
  | exact ⟨rfl,LL,_,Bn.eq (by simp [*]),hn9⟩
 ·refine yL rfl rfl rfl rfl (yL rfl rfl rfl rfl (yL rfl rfl rfl rfl (yL rfl rfl rfl rfl (yL rfl rfl rfl rfl (yL rfl rfl rfl rfl (yL rfl rfl rfl rfl (jW rfl rfl rfl (zW rfl rfl (zL 0 rfl yu219 rfl rfl sz31 rfl rfl (zL 0 rfl yu31 rfl rfl sz4 rfl rfl (xZ (i:=0) rfl rfl sz4 Bn (by first | rfl | exact yU (by assumption) | assumption | exact yQ (by assumption)) (by simp) (fun w4 Cw4 Bn=>?_))))))))))))
  obtain ⟨LL,h,hn9⟩:=up3 (lc LL Cw4 hmn nFn) LL h hn9
  refine zD (zF (zB (zA rfl rfl (zC rfl rfl (zD (zY ?_))))))
  refine lv1 ⟨rfl,trivial⟩ ?_
  first
  | exact ⟨rfl,LL,_,Bn,hn9⟩
  | exact ⟨rfl,LL,_,Bn.eq (by simp [*]),hn9⟩
theorem vC {s:Bool} {v:Value} {xs:List Nat} (h:IsNat M w v xs) (hl:xs.length≤1000000000) (hM:OkM M w) :
    CallsV prog 212 [.agg #[.bool s,v]] w fun r w'=>Bel w.heap.size w w'∧∃ b q,r = .pointer (some ⟨b,0,none⟩)∧w.heap.size≤b∧Blk w' b 219 [.bool (decide (zv s xs < 0)),q]∧IsNat M w' q (limbs (zv s xs).natAbs):=by
 refine ci M func212 ntmps212 fun Fz hFz hF LL=>?_
 refine zF (zB (gJ rfl rfl (fun w1 b1 N1=>?_)))
 obtain ⟨hBw1,nF1,nM1,Lw1,B1⟩:=nza hF hM N1
 obtain ⟨LL,hM,hF,h⟩:=up4 Lw1 LL hM hF h
 refine zC rfl rfl (zD (zF (zB (jN rfl gD sz31 rfl B1 rfl rfl (uF rfl plc219 rfl rfl (jB (rfl) qD) rfl (gJ rfl rfl (fun w2 b5 N5=>?_)))))))
 obtain ⟨_,nF5,nM5,Lw2,B5⟩:=nza hF hM N5
 have lt1_5:=B1.lt
 have ne1_5:=N5.ne lt1_5
 obtain ⟨LL,hM,h⟩:=up3 Lw2 LL hM h
 refine zK rfl (bo func268) rfl rfl ?_
 refine (iM (Fz:=NB _ b5) (M:=(Ins b5 (Ins b1 M))) B5 h (by omega) zO eJ mA hM).mono ?_
 rintro v6 w3 ⟨rfl,Lqw3,q6,B5b,hn6⟩
 have Lw3:=Lqw3.refz nF5
 obtain ⟨LL,h⟩:=up2 Lw3 LL h
 clear B5; have B5:=B5b
 refine zC rfl rfl (zD (zY ?_))
 refine lv1 ⟨rfl,trivial⟩ ?_
 have hsz:=N5.at_
 have hs1:=hBw1.size
 subst hFz
 exact ⟨LL.b,b5,_,rfl,by omega,B5,hn6.less fun k c=>yF (yF c)⟩
theorem blt268:prog.built 268 [(0,.int .i64 0),(1,.int .i64 1),(2,.int .i64 (-1))]=some [Value.int .i64 0,.int .i64 1,.int .i64 (-1)].toArray:=by kernel_rfl
theorem isign_c {bn:Nat} {z:Int} {v:Value} (hk:KBlk M w bn 219 [.bool (decide (z < 0)),v]) (h:IsNat M w v (limbs z.natAbs)) (hl:(limbs z.natAbs).length≤1000000000) (hM:OkM M w) :
    CallsV prog 267 [.pointer (some ⟨bn,0,none⟩)] w fun r w'=>Bel w.heap.size w w'∧r = .int .i64 z.sign:=by
 have Bn:=hk.blk
 refine ci M func267 ntmps267 fun Fz hFz hF LL=>?_
 refine zF (zB (zC rfl rfl (zD (zF (zB (ops_builtc rfl blt268 rfl rfl (xB rfl zW9 (fun w1 b3 N3=>?_))))))))
 obtain ⟨hBw1,nF3,nM3,Lw1,B3⟩:=nza hF hM N3
 have ltn_3:=Bn.lt
 replace Bn:=Bn.below hBw1
 have ne3_n:b3 ≠ bn:=by have:=N3.at_; omega
 obtain ⟨LL,h⟩:=up2 Lw1 LL h
 refine xH rfl rfl zW9 B3 rfl rfl (allq (allq (allq alln))) rfl (fun w2 Cw2 B3=>?_)
 obtain ⟨LL,h⟩:=up2 (lc LL Cw2 zO nF3) LL h
 replace Bn:=Bn.other Cw2 ne3_n.symm
 try simp only [List.set_cons_zero,List.set_cons_succ,List.take_succ_cons,List.take_zero,List.drop_succ_cons,List.drop_zero,List.drop_nil,List.cons_append,List.nil_append,List.append_nil] at B3
 refine zD (zF (zB (zA rfl rfl (zW rfl rfl (zL 0 rfl yu219 rfl rfl sz31 rfl rfl (zL 1 rfl yu31 rfl rfl sz29 rfl rfl (zN rfl yS rfl Bn rfl ?_)))))))
 refine yT rfl yu29 rfl ?_
 refine iE rfl rfl rfl (zC rfl rfl (zD (zF (zF (zB (zA rfl rfl (zW rfl rfl (zL 0 rfl yu219 rfl rfl sz31 rfl rfl (zL 0 rfl yu31 rfl rfl sz4 rfl rfl (zN rfl dR rfl Bn rfl (zD ?_)))))))))))
 refine zU rfl (fun hc0=>?_) (fun hc0=>?_)
 ·obtain ⟨j,hj,hj3,hjs⟩:∃ j:Nat,(2:Int)=(j:Int)∧j < 3∧[Value.int .i64 0,.int .i64 1,.int .i64 (-1)][j]? = some (.int .i64 z.sign):=⟨2,rfl,by omega,by rw [Int.sign_eq_neg_one_of_neg hc0]; rfl⟩
  refine zB (zC rfl rfl (zD (zF (zB (zA rfl rfl (nW j rfl underlying268 sz3 rfl rfl rfl hj hj3 (zN rfl zV5 rfl B3 (by rw [Nat.zero_add]; exact hjs) (zC rfl rfl (zD (zY ?_))))))))))
  refine lv1 ⟨rfl,trivial⟩ ?_
  subst hFz
  exact ⟨LL.b,rfl⟩
 ·obtain ⟨j,hj,hj3,hjs⟩:∃ j:Nat,min (((limbs z.natAbs).length:Nat):Int) 1=(j:Int)∧j < 3∧[Value.int .i64 0,.int .i64 1,.int .i64 (-1)][j]? = some (.int .i64 z.sign):=by
    rcases Int.lt_or_eq_of_le (Int.not_lt.1 hc0) with h0 | h0
    · have hne:(limbs z.natAbs).length ≠ 0:=fun c=>by have:=yH.1 c; omega
      exact ⟨1,by omega,by omega,by rw [Int.sign_eq_one_of_pos h0]; rfl⟩
    · subst h0
      exact ⟨0,by rw [show (0:Int).natAbs=0 from rfl,yW]; rfl,by omega,rfl⟩
  refine yE (zF (zB (zA rfl rfl (nW j rfl underlying268 sz3 rfl rfl rfl hj hj3 (zN rfl zV5 rfl B3 (by rw [Nat.zero_add]; exact hjs) (zC rfl rfl (zD (zY ?_))))))))
  refine lv1 ⟨rfl,trivial⟩ ?_
  subst hFz
  exact ⟨LL.b,rfl⟩
theorem isgn_c {s:Bool} {v:Value} {xs:List Nat} (h:IsNat M w v xs) (hl:xs.length≤1000000000) (hM:OkM M w) :
    CallsV prog 210 [.agg #[.bool s,v]] w fun r w'=>Bel w.heap.size w w'∧r = .int .i64 (zv s xs).sign:=by
 have hal:=yC xs h.lt
 rw [← bB s] at hal
 refine ci M func210 ntmps210 fun Fz hFz hF LL=>?_
 refine zF (zB (gJ rfl rfl (fun w1 b1 N1=>?_)))
 obtain ⟨_,nF1,nM1,Lw1,B1⟩:=nza hF hM N1
 obtain ⟨LL,hM,h⟩:=up3 Lw1 LL hM h
 refine zC rfl rfl (zD (zF (zB (jN rfl gD sz31 rfl B1 rfl rfl (zK rfl (bo func212) rfl rfl ?_)))))
 refine (vC h (by omega) hM).mono ?_
 rintro v4 w2 ⟨hB4,b4,q4,rfl,hz4,B4,hn4⟩
 have hk4:KBlk (Ins b1 M) w2 b4 219 _:=⟨B4,fun c=>by have:=hM _ c; omega⟩
 obtain ⟨LL,hM,h⟩:=ub3 hB4 LL hM h
 refine zK rfl (bo func267) rfl rfl ?_
 refine (isign_c hk4 hn4 (by omega) hM).mono ?_
 rintro v5 w3 ⟨hB5,rfl⟩
 obtain ⟨LL,h⟩:=ub2 hB5 LL h
 refine zC rfl rfl (zD (zY ?_))
 refine lv1 ⟨rfl,trivial⟩ ?_
 subst hFz
 exact ⟨LL.b,rfl⟩
theorem wM {s:Bool} {v:Value} {xs:List Nat} (h:IsNat M w v xs) (hl:xs.length≤1000000000) (hM:OkM M w) :
    CallsV prog 265 [.agg #[.bool s,v]] w fun r w'=>Bel w.heap.size w w'∧∃ q,r = .agg #[.bool (decide (zv s xs < 0)),q]∧IsNat M w' q (limbs (zv s xs).natAbs):=by
 refine ci M func265 ntmps265 fun Fz hFz hF LL=>?_
 refine zF (zB (gJ rfl rfl (fun w1 b1 N1=>?_)))
 obtain ⟨_,nF1,nM1,Lw1,B1⟩:=nza hF hM N1
 obtain ⟨LL,hM,hF,h⟩:=up4 Lw1 LL hM hF h
 refine xB rfl sz31 (fun w2 b2 N2=>?_)
 obtain ⟨hBw2,nF2,nM2,Lw2,B2⟩:=nza hF hM N2
 obtain ⟨B1,ne1_2⟩:=bn B1 N2
 obtain ⟨LL,hM,h⟩:=up3 Lw2 LL hM h
 refine zD (zF (zB (jN rfl gD sz31 rfl B1 rfl rfl (zK rfl (bo func212) rfl rfl ?_))))
 refine (vC h (by omega) hM).mono ?_
 rintro v4 w3 ⟨hB4,b4,q4,rfl,hz4,B4,hn4⟩
 have hk4:KBlk (Ins b2 (Ins b1 M)) w3 b4 219 _:=⟨B4,fun c=>by have:=hM _ c; omega⟩
 obtain ⟨LL,h,B2⟩:=ub3 hB4 LL h B2
 refine zW rfl rfl (zL 0 rfl yu219 rfl rfl sz31 rfl rfl (jN rfl gD sz31 rfl hk4.blk rfl rfl (xH rfl rfl sz31 B2 rfl rfl (allq (allq alln)) rfl (fun w4 Cw4 B2=>?_))))
 obtain ⟨LL,h,hn4⟩:=up3 (lc LL Cw4 zO nF2) LL h hn4
 refine zD (zY ?_)
 refine lv1 ⟨⟨_,rfl,jY gD sz31 B2 rfl rfl⟩,trivial⟩ ?_
 subst hFz
 exact ⟨LL.b,_,rfl,hn4.less fun k c=>yF (yF c)⟩
theorem ineg_c {s:Bool} {v:Value} {xs:List Nat} (h:IsNat M w v xs) (hl:xs.length≤1000000000) (hM:OkM M w) :
    CallsV prog 246 [.agg #[.bool s,v]] w fun r w'=>Bel w.heap.size w w'∧∃ q,r = .agg #[.bool (decide (-zv s xs < 0)),q]∧IsNat M w' q (limbs (-zv s xs).natAbs):=by
 have hng:zv (!s) xs = -zv s xs:=by cases s <;> simp [zv]
 rw [← hng]
 refine ci M func246 ntmps246 fun Fz hFz hF LL=>?_
 refine zF (zB (gJ rfl rfl (fun w1 b1 N1=>?_)))
 obtain ⟨_,nF1,nM1,Lw1,B1⟩:=nza hF hM N1
 obtain ⟨LL,hM,hF,h⟩:=up4 Lw1 LL hM hF h
 refine xB rfl sz31 (fun w2 b2 N2=>?_)
 obtain ⟨hBw2,nF2,nM2,Lw2,B2⟩:=nza hF hM N2
 obtain ⟨B1,ne1_2⟩:=bn B1 N2
 obtain ⟨LL,hM,h⟩:=up3 Lw2 LL hM h
 refine zD (zF (zB (zL 0 rfl yu31 rfl rfl sz4 rfl rfl (zN rfl dR rfl B1 rfl (aQ rfl rfl (zL 0 rfl yu31 rfl rfl sz4 rfl rfl (xZ (i:=0) rfl rfl sz4 B1 (by first | rfl | exact yU (by assumption) | assumption | exact yQ (by assumption)) (by simp) (fun w3 Cw3 B1=>?_))))))))
 obtain ⟨LL,hM,h⟩:=up3 (lc LL Cw3 (.inr zO) nF1) LL hM h
 replace B2:=B2.other Cw3 ne1_2.symm
 refine zD (zF (zB (jN rfl gD sz31 rfl B1 rfl rfl (zK rfl (bo func265) rfl rfl ?_))))
 refine (wM (s:=!s) h (by omega) hM).mono ?_
 rintro v8 w4 ⟨hB8,q8,rfl,hn8⟩
 obtain ⟨LL,h,B2⟩:=ub3 hB8 LL h B2
 refine xH rfl rfl sz31 B2 rfl rfl (allq (allq alln)) rfl (fun w5 Cw5 B2=>?_)
 obtain ⟨LL,h,hn8⟩:=up3 (lc LL Cw5 zO nF2) LL h hn8
 refine zD (zY ?_)
 refine lv1 ⟨⟨_,rfl,jY gD sz31 B2 rfl rfl⟩,trivial⟩ ?_
 subst hFz
 exact ⟨LL.b,_,rfl,hn8.less fun k c=>yF (yF c)⟩
theorem zv_same {s t:Bool} {xs ys:List Nat} (h:(s == t)=true):zv s (limbs (val xs + val ys))=zv s xs + zv t ys:=by
  have:s=t:=by simpa using h
  subst this; cases s <;> simp [zv,zP] <;> omega
theorem zv_ge {s t:Bool} {xs ys:List Nat} (h:(s == t)=false) (hl:val ys≤val xs):zv s (limbs (val xs - val ys))=zv s xs + zv t ys:=by
  cases s <;> cases t <;> simp [zv,zP] at h ⊢ <;> omega
theorem zv_lt {s t:Bool} {xs ys:List Nat} (h:(s == t)=false) (hl:val xs≤val ys):zv t (limbs (val ys - val xs))=zv s xs + zv t ys:=by
  cases s <;> cases t <;> simp [zv,zP] at h ⊢ <;> omega
theorem zv_mul {s t:Bool} {xs ys:List Nat}:zv (s != t) (limbs (val xs * val ys))=zv s xs * zv t ys:=by
  cases s <;> cases t <;> simp [zv,zP,Int.mul_neg,Int.neg_mul]
theorem iadd_c {Fz M:Nat→Prop} {w:World} {bn ba:Nat} {s t:Bool} {v u:Value} {xs ys:List Nat} (Bn:Blk w bn 219 [.bool s,v]) (hv:IsNat M w v xs) (hka:KBlk M w ba 219 [.bool t,u]) (hu:IsNat M w u ys) (hl1:xs.length≤1000000) (hl2:ys.length≤1000000) (hmn:M bn) (nFn:¬ Fz bn) (hF:FOk Fz w) (hM:OkM M w) :
    CallsV prog 285 [.pointer (some ⟨bn,0,none⟩),.pointer (some ⟨ba,0,none⟩)] w fun r w'=>Le Fz M w M w'∧∃ q,Blk w' bn 219 [.bool (decide (zv s xs + zv t ys < 0)),q]∧IsNat M w' q (limbs (zv s xs + zv t ys).natAbs):=by
 obtain ⟨K,hK⟩:∃ K:Nat,K=1000000:=⟨_,rfl⟩
 rw [← hK] at hl1 hl2
 have hKl:=hK
 have Ba:=hka.blk
 have nea_n:ba ≠ bn:=fun e=>hka.not (e ▸ hmn)
 have hxl:=jF xs hv.lt
 have hyl:=jF ys hu.lt
 have hxk:=yC xs hv.lt
 have hyk:=yC ys hu.lt
 have LL:=Le.refl Fz M w
 refine jL func285 rfl ntmps285 rfl ?_
 refine zF (zF ?_)
 refine wd mixed 10 [0,1,10,15] (by decide +kernel) ?_
 apply zQ
 ·intro wq hR hst
  refine zV rfl rfl (zG ?_)
  replace Bn:=Bn.below hR
  replace Ba:=Ba.below hR
  exact zA rfl rfl (on0 rfl)
 apply zQ
 ·intro wq hR hst
  refine zM rfl (zG ?_)
  replace Bn:=Bn.below hR
  replace Ba:=Ba.below hR
  exact zW rfl rfl (on0 rfl)
 apply zQ
 ·intro wq hR hst
  refine zM rfl (zG ?_)
  replace Bn:=Bn.below hR
  replace Ba:=Ba.below hR
  exact zL 0 rfl yu219 rfl rfl sz31 rfl rfl (on0 rfl)
 apply zQ
 ·intro wq hR hst
  refine zM rfl (zG ?_)
  replace Bn:=Bn.below hR
  replace Ba:=Ba.below hR
  exact zL 0 rfl yu31 rfl rfl sz4 rfl rfl (on0 rfl)
 apply zQ
 ·intro wq hR hst
  refine zM rfl (zG ?_)
  replace Bn:=Bn.below hR
  replace Ba:=Ba.below hR
  exact zN rfl dR rfl Bn rfl (on0 rfl)
 apply zQ
 ·intro wq hR hst
  refine zV rfl rfl (zG ?_)
  replace Bn:=Bn.below hR
  replace Ba:=Ba.below hR
  exact zA rfl rfl (on0 rfl)
 apply zQ
 ·intro wq hR hst
  refine zM rfl (zG ?_)
  replace Bn:=Bn.below hR
  replace Ba:=Ba.below hR
  exact zW rfl rfl (on0 rfl)
 apply zQ
 ·intro wq hR hst
  refine zM rfl (zG ?_)
  replace Bn:=Bn.below hR
  replace Ba:=Ba.below hR
  exact zL 0 rfl yu219 rfl rfl sz31 rfl rfl (on0 rfl)
 apply zQ
 ·intro wq hR hst
  refine zM rfl (zG ?_)
  replace Bn:=Bn.below hR
  replace Ba:=Ba.below hR
  exact zL 0 rfl yu31 rfl rfl sz4 rfl rfl (on0 rfl)
 apply zQ
 ·intro wq hR hst
  refine zM rfl (zG ?_)
  replace Bn:=Bn.below hR
  replace Ba:=Ba.below hR
  exact zN rfl dR rfl Ba rfl (on0 rfl)
 refine gB (fun wq0 hR0 hpost0=>?_)
 refine zV rfl rfl (zV rfl rfl (zM rfl (zM rfl (zG ?_))))
 simp only [qZ,qY,qX,qW]
 obtain ⟨LL,hM,hv,hu,Bn,Ba⟩:=ub6 hR0 LL hM hv hu Bn Ba
 refine zK9 rfl rfl rfl underlying4 (zD ?_)
 refine uP rfl (fun hc0=>?_) (fun hc0=>?_)
 ·refine zF ?_
  refine wd mixed 13 [0,17,29] (by decide +kernel) ?_
  apply zQ
  ·intro wq hR hst
   refine zV rfl rfl (zG ?_)
   replace Bn:=Bn.below hR
   replace Ba:=Ba.below hR
   exact zA rfl rfl (on0 rfl)
  apply zQ
  ·intro wq hR hst
   refine zV rfl rfl (zG ?_)
   replace Bn:=Bn.below hR
   replace Ba:=Ba.below hR
   exact zA rfl rfl (on0 rfl)
  apply zQ
  ·intro wq hR hst
   refine zM rfl (zG ?_)
   replace Bn:=Bn.below hR
   replace Ba:=Ba.below hR
   exact zW rfl rfl (on0 rfl)
  apply zQ
  ·intro wq hR hst
   refine zM rfl (zG ?_)
   replace Bn:=Bn.below hR
   replace Ba:=Ba.below hR
   exact zL 0 rfl yu219 rfl rfl sz31 rfl rfl (on0 rfl)
  apply zQ
  ·intro wq hR hst
   refine zM rfl (zG ?_)
   replace Bn:=Bn.below hR
   replace Ba:=Ba.below hR
   exact zL 1 rfl yu31 rfl rfl sz29 rfl rfl (on0 rfl)
  apply zQ
  ·intro wq hR hst
   refine zM rfl (zG ?_)
   replace Bn:=Bn.below hR
   replace Ba:=Ba.below hR
   exact zN rfl yS rfl Bn rfl (on0 rfl)
  apply zQ
  ·intro wq hR hst
   refine zV rfl rfl (zG ?_)
   replace Bn:=Bn.below hR
   replace Ba:=Ba.below hR
   exact zA rfl rfl (on0 rfl)
  apply zQ
  ·intro wq hR hst
   refine zM rfl (zG ?_)
   replace Bn:=Bn.below hR
   replace Ba:=Ba.below hR
   exact zW rfl rfl (on0 rfl)
  apply zQ
  ·intro wq hR hst
   refine zM rfl (zG ?_)
   replace Bn:=Bn.below hR
   replace Ba:=Ba.below hR
   exact zL 0 rfl yu219 rfl rfl sz31 rfl rfl (on0 rfl)
  apply zQ
  ·intro wq hR hst
   refine zM rfl (zG ?_)
   replace Bn:=Bn.below hR
   replace Ba:=Ba.below hR
   exact zL 1 rfl yu31 rfl rfl sz29 rfl rfl (on0 rfl)
  apply zQ
  ·intro wq hR hst
   refine zM rfl (zG ?_)
   replace Bn:=Bn.below hR
   replace Ba:=Ba.below hR
   exact zN rfl yS rfl Ba rfl (on0 rfl)
  refine jE (fun v w=>IsNats M w v [xs,ys]) fA (fun wq hR hst=>?_) ?_
  ·refine zM rfl (zM rfl (zG ?_))
   obtain ⟨hM,hv,hu,Bn,Ba⟩:=ub5 hR hM hv hu Bn Ba
   refine yO rfl yu260 sz29 rfl rfl rfl (one2 (by first | rfl | exact yQ (by assumption) | exact yU (by assumption) | assumption) (by first | rfl | exact yQ (by assumption) | exact yU (by assumption) | assumption)) rfl (fun w1 b28 N28=>?_)
   have hBw1:=N28.below
   have nM28:=hM.new N28
   have B28:=N28.blk
   obtain ⟨hv,hu,Bn,Ba⟩:=ub4 hBw1 hv hu Bn Ba
   have hn28:=tO B28 nM28 hv hu
   have hB28:=hBw1
   exact on1 hB28 rfl hn28
  refine jE (fun v w=>IsNat M w v (limbs (val xs + val ys))) jP (fun wq hR hst=>?_) ?_
  ·refine xY rfl (fun v28 hn28=>?_)
   refine zG ?_
   obtain ⟨LL,hM,hv,hu,Bn,Ba⟩:=ub6 hR LL hM hv hu Bn Ba
   refine zK rfl (bo func279) rfl rfl ?_
   refine (sN hn28 hv.lt hu.lt (by omega) (by omega) hM).mono ?_
   rintro v29 w2 ⟨hB29,hf29,hl29⟩
   have hM29:=hM
   have hS29:=LL.size
   replace Bn:=Bn.below hB29
   replace Ba:=Ba.below hB29
   have hn29:=hf29.nat hM29
   exact on1 hB29 rfl hn29
  refine gB (fun wq1 hR1 hpost1=>?_)
  refine zV rfl rfl (zM rfl (xY rfl (fun v29 hn29=>?_)))
  refine zG ?_
  simp only [qZ,qY,qX,qW]
  obtain ⟨LL,hM,hv,hu,Bn,Ba⟩:=ub6 hR1 LL hM hv hu Bn Ba
  refine zW rfl rfl (zL 0 rfl yu219 rfl rfl sz31 rfl rfl (zL 1 rfl yu31 rfl rfl sz29 rfl rfl (xZ (i:=1) rfl rfl sz29 Bn (by first | rfl | exact yU (by assumption) | assumption | exact yQ (by assumption)) (by simp) (fun w3 Cw3 Bn=>?_))))
  obtain ⟨LL,hM,hv,hu,hn29⟩:=up5 (lc LL Cw3 hmn nFn) LL hM hv hu hn29
  replace Ba:=Ba.other Cw3 nea_n
  refine zD (zF (zB (zA rfl rfl (zK rfl (bo func268) rfl rfl ?_))))
  refine (iM (Fz:=NB _ bn) (M:=M) Bn hn29 (by have:=iV (xU hv.lt hl1) (xU hu.lt hl2); omega) hmn eJ mA hM).mono ?_
  rintro v34 w4 ⟨rfl,Lqw4,q34,Bn2,hn34⟩
  have Lw4:=Lqw4.refz nFn
  replace LL:=LL.trans Lw4
  clear Bn; have Bn:=Bn2
  replace Ba:=Ba.nb Lqw4 nea_n
  refine zD (zY ?_)
  refine xF ⟨[],trivial,?_⟩
  dsimp only [xG]
  rw [zv_same hc0] at Bn hn34
  exact ⟨LL,_,Bn,hn34⟩
 ·refine yE (zF ?_)
  refine wd mixed 15 [0,1,4,48] (by decide +kernel) ?_
  apply zQ
  ·intro wq hR hst
   refine zV rfl rfl (zG ?_)
   replace Bn:=Bn.below hR
   replace Ba:=Ba.below hR
   exact zA rfl rfl (on0 rfl)
  apply zQ
  ·intro wq hR hst
   refine zM rfl (zG ?_)
   replace Bn:=Bn.below hR
   replace Ba:=Ba.below hR
   exact zW rfl rfl (on0 rfl)
  apply zQ
  ·intro wq hR hst
   refine zM rfl (zG ?_)
   replace Bn:=Bn.below hR
   replace Ba:=Ba.below hR
   exact zL 0 rfl yu219 rfl rfl sz31 rfl rfl (on0 rfl)
  apply zQ
  ·intro wq hR hst
   refine zM rfl (zG ?_)
   replace Bn:=Bn.below hR
   replace Ba:=Ba.below hR
   exact zL 1 rfl yu31 rfl rfl sz29 rfl rfl (on0 rfl)
  apply zQ
  ·intro wq hR hst
   refine zM rfl (zG ?_)
   replace Bn:=Bn.below hR
   replace Ba:=Ba.below hR
   exact zN rfl yS rfl Bn rfl (on0 rfl)
  apply zQ
  ·intro wq hR hst
   refine zV rfl rfl (zG ?_)
   replace Bn:=Bn.below hR
   replace Ba:=Ba.below hR
   exact zA rfl rfl (on0 rfl)
  apply zQ
  ·intro wq hR hst
   refine zM rfl (zG ?_)
   replace Bn:=Bn.below hR
   replace Ba:=Ba.below hR
   exact zW rfl rfl (on0 rfl)
  apply zQ
  ·intro wq hR hst
   refine zM rfl (zG ?_)
   replace Bn:=Bn.below hR
   replace Ba:=Ba.below hR
   exact zL 0 rfl yu219 rfl rfl sz31 rfl rfl (on0 rfl)
  apply zQ
  ·intro wq hR hst
   refine zM rfl (zG ?_)
   replace Bn:=Bn.below hR
   replace Ba:=Ba.below hR
   exact zL 1 rfl yu31 rfl rfl sz29 rfl rfl (on0 rfl)
  apply zQ
  ·intro wq hR hst
   refine zM rfl (zG ?_)
   replace Bn:=Bn.below hR
   replace Ba:=Ba.below hR
   exact zN rfl yS rfl Ba rfl (on0 rfl)
  refine dv (fun v w=>∃ q,v = .tuple #[q,.int .i64 (if val xs < val ys then 10 else 0)]∧IsNat M w q (limbs (val xs - val ys))) (fun wq hR hst=>?_) ?_
  ·refine zM rfl (zM rfl (zG ?_))
   obtain ⟨hM,hv,hu,Bn,Ba⟩:=ub5 hR hM hv hu Bn Ba
   refine zK rfl (bo func294) rfl rfl ?_
   refine (zR1 hv hu (by omega) (by omega) hM).mono ?_
   rintro v46 w5 ⟨hB46,q46,rfl,hf46⟩
   have hMx:=hM
   replace Bn:=Bn.below hB46
   replace Ba:=Ba.below hB46
   have hn46x:=hf46.nat hMx
   exact on1 hB46 rfl ⟨_,rfl,hn46x⟩
  refine dv (fun v w=>∃ q,v = .tuple #[q,.int .i64 (if val xs < val ys then 10 else 0)]∧IsNat M w q (limbs (val xs - val ys))) (fun wq hR hst=>?_) ?_
  ·refine xY rfl (fun v46 hn46=>?_)
   refine zG ?_
   replace Bn:=Bn.below hR
   replace Ba:=Ba.below hR
   obtain ⟨q46,rfl,hqx⟩:=hn46
   exact zA rfl rfl (zD ⟨rfl,xJ _,_,rfl,⟨_,rfl,hqx⟩⟩)
  refine jE (fun v w=>IsNat M w v (limbs (val xs - val ys))) jP (fun wq hR hst=>?_) ?_
  ·refine xY rfl (fun v35 hn35=>?_)
   refine zG ?_
   replace Bn:=Bn.below hR
   replace Ba:=Ba.below hR
   obtain ⟨q46,rfl,hqx⟩:=hn35
   exact yM rfl rfl rfl (zD ⟨rfl,xJ _,_,rfl,hqx⟩)
  apply zQ
  ·intro wq hR hst
   refine xY rfl (fun v35 hn35=>?_)
   refine zG ?_
   replace Bn:=Bn.below hR
   replace Ba:=Ba.below hR
   obtain ⟨q46,rfl,hqx⟩:=hn35
   exact yM rfl rfl rfl (on0 rfl)
  refine jE (fun v w=>IsNat M w v (limbs (val xs - val ys))) jP (fun wq hR hst=>?_) ?_
  ·refine xY rfl (fun v47 hn47=>?_)
   refine zG ?_
   replace Bn:=Bn.below hR
   replace Ba:=Ba.below hR
   exact zC rfl rfl (zD ⟨rfl,xJ _,_,rfl,by assumption⟩)
  refine gB (fun wq3 hR3 hpost3=>?_)
  refine zV rfl rfl (zV rfl rfl (xY rfl (fun v4 hn4=>?_)))
  refine zM rfl (zG ?_)
  simp only [qZ,qY,qX,qW]
  obtain ⟨LL,hM,hv,hu,Bn,Ba⟩:=ub6 hR3 LL hM hv hu Bn Ba
  refine zC rfl rfl (zD (zF (zF (zB (zA rfl rfl (fT rfl rfl rfl (zD ?_)))))))
  refine zU rfl (fun hc1=>?_) (fun hc1=>?_)
  ·have hlt:val xs < val ys:=Classical.byContradiction fun c=>by rw [if_neg c] at hc1; simp at hc1
   refine zF ?_
   refine wd mixed 15 [0,1,4] (by decide +kernel) ?_
   apply zQ
   ·intro wq hR hst
    refine zV rfl rfl (zG ?_)
    replace Bn:=Bn.below hR
    replace Ba:=Ba.below hR
    exact zA rfl rfl (on0 rfl)
   apply zQ
   ·intro wq hR hst
    refine zM rfl (zG ?_)
    replace Bn:=Bn.below hR
    replace Ba:=Ba.below hR
    exact zW rfl rfl (on0 rfl)
   apply zQ
   ·intro wq hR hst
    refine zM rfl (zG ?_)
    replace Bn:=Bn.below hR
    replace Ba:=Ba.below hR
    exact zL 0 rfl yu219 rfl rfl sz31 rfl rfl (on0 rfl)
   apply zQ
   ·intro wq hR hst
    refine zM rfl (zG ?_)
    replace Bn:=Bn.below hR
    replace Ba:=Ba.below hR
    exact zL 1 rfl yu31 rfl rfl sz29 rfl rfl (on0 rfl)
   apply zQ
   ·intro wq hR hst
    refine zM rfl (zG ?_)
    replace Bn:=Bn.below hR
    replace Ba:=Ba.below hR
    exact zN rfl yS rfl Ba rfl (on0 rfl)
   apply zQ
   ·intro wq hR hst
    refine zV rfl rfl (zG ?_)
    replace Bn:=Bn.below hR
    replace Ba:=Ba.below hR
    exact zA rfl rfl (on0 rfl)
   apply zQ
   ·intro wq hR hst
    refine zM rfl (zG ?_)
    replace Bn:=Bn.below hR
    replace Ba:=Ba.below hR
    exact zW rfl rfl (on0 rfl)
   apply zQ
   ·intro wq hR hst
    refine zM rfl (zG ?_)
    replace Bn:=Bn.below hR
    replace Ba:=Ba.below hR
    exact zL 0 rfl yu219 rfl rfl sz31 rfl rfl (on0 rfl)
   apply zQ
   ·intro wq hR hst
    refine zM rfl (zG ?_)
    replace Bn:=Bn.below hR
    replace Ba:=Ba.below hR
    exact zL 1 rfl yu31 rfl rfl sz29 rfl rfl (on0 rfl)
   apply zQ
   ·intro wq hR hst
    refine zM rfl (zG ?_)
    replace Bn:=Bn.below hR
    replace Ba:=Ba.below hR
    exact zN rfl yS rfl Bn rfl (on0 rfl)
   refine dv (fun v w=>∃ q,v = .tuple #[q,.int .i64 (if val ys < val xs then 10 else 0)]∧IsNat M w q (limbs (val ys - val xs))) (fun wq hR hst=>?_) ?_
   ·refine zM rfl (zM rfl (zG ?_))
    obtain ⟨hM,hv,hu,Bn,Ba⟩:=ub5 hR hM hv hu Bn Ba
    refine zK rfl (bo func294) rfl rfl ?_
    refine (zR1 hu hv (by omega) (by omega) hM).mono ?_
    rintro v62 w6 ⟨hB62,q62,rfl,hf62⟩
    have hMx:=hM
    replace Bn:=Bn.below hB62
    replace Ba:=Ba.below hB62
    have hn46x:=hf62.nat hMx
    exact on1 hB62 rfl ⟨_,rfl,hn46x⟩
   refine dv (fun v w=>∃ q,v = .tuple #[q,.int .i64 (if val ys < val xs then 10 else 0)]∧IsNat M w q (limbs (val ys - val xs))) (fun wq hR hst=>?_) ?_
   ·refine xY rfl (fun v62 hn62=>?_)
    refine zG ?_
    replace Bn:=Bn.below hR
    replace Ba:=Ba.below hR
    obtain ⟨q62,rfl,hqx⟩:=hn62
    exact zA rfl rfl (zD ⟨rfl,xJ _,_,rfl,⟨_,rfl,hqx⟩⟩)
   refine jE (fun v w=>IsNat M w v (limbs (val ys - val xs))) jP (fun wq hR hst=>?_) ?_
   ·refine xY rfl (fun v51 hn51=>?_)
    refine zG ?_
    replace Bn:=Bn.below hR
    replace Ba:=Ba.below hR
    obtain ⟨q62,rfl,hqx⟩:=hn51
    exact yM rfl rfl rfl (zD ⟨rfl,xJ _,_,rfl,hqx⟩)
   apply zQ
   ·intro wq hR hst
    refine xY rfl (fun v51 hn51=>?_)
    refine zG ?_
    replace Bn:=Bn.below hR
    replace Ba:=Ba.below hR
    obtain ⟨q62,rfl,hqx⟩:=hn51
    exact yM rfl rfl rfl (on0 rfl)
   refine jE (fun v w=>IsNat M w v (limbs (val ys - val xs))) jP (fun wq hR hst=>?_) ?_
   ·refine xY rfl (fun v63 hn63=>?_)
    refine zG ?_
    replace Bn:=Bn.below hR
    replace Ba:=Ba.below hR
    exact zC rfl rfl (zD ⟨rfl,xJ _,_,rfl,by assumption⟩)
   refine gB (fun wq5 hR5 hpost5=>?_)
   refine zV rfl rfl (zV rfl rfl (xY rfl (fun v4 hn4=>?_)))
   refine zG ?_
   simp only [qZ,qY,qX,qW]
   obtain ⟨LL,hM,Bn,Ba⟩:=ub4 hR5 LL hM Bn Ba
   refine zD (zB (zA rfl rfl (zA rfl rfl (zW rfl rfl (zL 0 rfl yu219 rfl rfl sz31 rfl rfl (zL 0 rfl yu31 rfl rfl sz4 rfl rfl (zN rfl dR rfl Ba rfl (zW rfl rfl (zL 0 rfl yu219 rfl rfl sz31 rfl rfl (zL 0 rfl yu31 rfl rfl sz4 rfl rfl (xZ (i:=0) rfl rfl sz4 Bn (by first | rfl | exact yU (by assumption) | assumption | exact yQ (by assumption)) (by simp) (fun w7 Cw7 Bn=>?_))))))))))))
   obtain ⟨LL,hM,hn4⟩:=up3 (lc LL Cw7 hmn nFn) LL hM hn4
   replace Ba:=Ba.other Cw7 nea_n
   refine zD (zF (zB (zA rfl rfl (zA rfl rfl (zW rfl rfl (zL 0 rfl yu219 rfl rfl sz31 rfl rfl (zL 1 rfl yu31 rfl rfl sz29 rfl rfl (xZ (i:=1) rfl rfl sz29 Bn (by first | rfl | exact yU (by assumption) | assumption | exact yQ (by assumption)) (by simp) (fun w8 Cw8 Bn=>?_)))))))))
   obtain ⟨LL,hM,hn4⟩:=up3 (lc LL Cw8 hmn nFn) LL hM hn4
   replace Ba:=Ba.other Cw8 nea_n
   refine zD (zB (zA rfl rfl (zK rfl (bo func268) rfl rfl ?_)))
   refine (iM (Fz:=NB _ bn) (M:=M) Bn hn4 (by have:=yG (Nat.sub_le (val xs) (val ys)); have:=yG (Nat.sub_le (val ys) (val xs)); omega) hmn eJ mA hM).mono ?_
   rintro v80 w9 ⟨rfl,Lqw9,q80,Bn2,hn80⟩
   have Lw9:=Lqw9.refz nFn
   replace LL:=LL.trans Lw9
   clear Bn; have Bn:=Bn2
   replace Ba:=Ba.nb Lqw9 nea_n
   refine zD ?_
   refine xF ⟨[],trivial,?_⟩
   dsimp only [xG]
   rw [zv_lt hc0 (Nat.le_of_lt hlt)] at Bn hn80
   exact ⟨LL,_,Bn,hn80⟩
  ·have hlt:¬ val xs < val ys:=fun c=>by rw [if_pos c] at hc1; simp at hc1
   refine yE (zF (zB (zA rfl rfl (zA rfl rfl (zW rfl rfl (zL 0 rfl yu219 rfl rfl sz31 rfl rfl (zL 1 rfl yu31 rfl rfl sz29 rfl rfl (xZ (i:=1) rfl rfl sz29 Bn (by first | rfl | exact yU (by assumption) | assumption | exact yQ (by assumption)) (by simp) (fun w10 Cw10 Bn=>?_)))))))))
   obtain ⟨LL,hM,hn4⟩:=up3 (lc LL Cw10 hmn nFn) LL hM hn4
   replace Ba:=Ba.other Cw10 nea_n
   refine zD (zB (zA rfl rfl (zK rfl (bo func268) rfl rfl ?_)))
   refine (iM (Fz:=NB _ bn) (M:=M) Bn hn4 (by have:=yG (Nat.sub_le (val xs) (val ys)); have:=yG (Nat.sub_le (val ys) (val xs)); omega) hmn eJ mA hM).mono ?_
   rintro v80 w11 ⟨rfl,Lqw11,q80,Bn2,hn80⟩
   have Lw11:=Lqw11.refz nFn
   replace LL:=LL.trans Lw11
   clear Bn; have Bn:=Bn2
   replace Ba:=Ba.nb Lqw11 nea_n
   refine zD ?_
   refine xF ⟨[],trivial,?_⟩
   dsimp only [xG]
   rw [zv_ge hc0 (Nat.le_of_not_lt hlt)] at Bn hn80
   exact ⟨LL,_,Bn,hn80⟩
theorem imul_c {Fz M:Nat→Prop} {w:World} {bn ba:Nat} {s t:Bool} {v u:Value} {xs ys:List Nat} (Bn:Blk w bn 219 [.bool s,v]) (hv:IsNat M w v xs) (hka:KBlk M w ba 219 [.bool t,u]) (hu:IsNat M w u ys) (hl1:xs.length≤1000000) (hl2:ys.length≤1000000) (hmn:M bn) (nFn:¬ Fz bn) (hF:FOk Fz w) (hM:OkM M w) :
    CallsV prog 214 [.pointer (some ⟨bn,0,none⟩),.pointer (some ⟨ba,0,none⟩)] w fun r w'=>Le Fz M w M w'∧∃ q,Blk w' bn 219 [.bool (decide (zv s xs * zv t ys < 0)),q]∧IsNat M w' q (limbs (zv s xs * zv t ys).natAbs):=by
 obtain ⟨K,hK⟩:∃ K:Nat,K=1000000:=⟨_,rfl⟩
 rw [← hK] at hl1 hl2
 have hKl:=hK
 have Ba:=hka.blk
 have nea_n:ba ≠ bn:=fun e=>hka.not (e ▸ hmn)
 have hxl:=jF xs hv.lt
 have hyl:=jF ys hu.lt
 have hxk:=yC xs hv.lt
 have hyk:=yC ys hu.lt
 have LL:=Le.refl Fz M w
 refine jL func214 rfl ntmps214 rfl ?_
 refine zF ?_
 refine bP (R:=Rs (·=bn)) (R':=Rb) (st:=some (27,(fun w=>Blk w bn 219 [.bool s,v]),(fun w=>Blk w bn 219 [.bool (s != t),v]))) mixed 28 [0,5,27] (eL (by decide +kernel)) bG lX (dD _) (fun _ _ _ h=>by cases h; exact ⟨by decide,Bn,fun _ _ h r=>h.below r,fun _ _ h r=>h.below r,_,rfl⟩) ?_
 apply zS rfl
 ·intro wq hR hst
  refine zV rfl rfl (zG ?_)
  have Lq:=lqb (M:=M) hR hmn nFn
  replace Ba:=Ba.rs hR nea_n
  exact zA rfl rfl (on0 rfl)
 apply zS rfl
 ·intro wq hR hst
  refine zV rfl rfl (zG ?_)
  have Lq:=lqb (M:=M) hR hmn nFn
  replace Ba:=Ba.rs hR nea_n
  exact zA rfl rfl (on0 rfl)
 apply zS rfl
 ·intro wq hR hst
  refine zV rfl rfl (zG ?_)
  have Lq:=lqb (M:=M) hR hmn nFn
  replace Ba:=Ba.rs hR nea_n
  exact zA rfl rfl (on0 rfl)
 apply zS rfl
 ·intro wq hR hst
  refine zM rfl (zG ?_)
  have Lq:=lqb (M:=M) hR hmn nFn
  replace Ba:=Ba.rs hR nea_n
  exact zW rfl rfl (on0 rfl)
 apply zS rfl
 ·intro wq hR hst
  refine zM rfl (zG ?_)
  have Lq:=lqb (M:=M) hR hmn nFn
  replace Ba:=Ba.rs hR nea_n
  exact zL 0 rfl yu219 rfl rfl sz31 rfl rfl (on0 rfl)
 apply zS rfl
 ·intro wq hR hst
  refine zM rfl (zG ?_)
  have Lq:=lqb (M:=M) hR hmn nFn
  replace Ba:=Ba.rs hR nea_n
  exact zL 0 rfl yu31 rfl rfl sz4 rfl rfl (on0 rfl)
 apply zS rfl
 ·intro wq hR hst
  refine zM rfl (zG ?_)
  have Lq:=lqb (M:=M) hR hmn nFn
  replace Ba:=Ba.rs hR nea_n
  replace Bn:=(hst.2 (by decide +kernel))
  exact zN rfl dR rfl Bn rfl (on0 rfl)
 apply zS rfl
 ·intro wq hR hst
  refine zV rfl rfl (zG ?_)
  have Lq:=lqb (M:=M) hR hmn nFn
  replace Ba:=Ba.rs hR nea_n
  exact zA rfl rfl (on0 rfl)
 apply zS rfl
 ·intro wq hR hst
  refine zM rfl (zG ?_)
  have Lq:=lqb (M:=M) hR hmn nFn
  replace Ba:=Ba.rs hR nea_n
  exact zW rfl rfl (on0 rfl)
 apply zS rfl
 ·intro wq hR hst
  refine zM rfl (zG ?_)
  have Lq:=lqb (M:=M) hR hmn nFn
  replace Ba:=Ba.rs hR nea_n
  exact zL 0 rfl yu219 rfl rfl sz31 rfl rfl (on0 rfl)
 apply zS rfl
 ·intro wq hR hst
  refine zM rfl (zG ?_)
  have Lq:=lqb (M:=M) hR hmn nFn
  replace Ba:=Ba.rs hR nea_n
  exact zL 0 rfl yu31 rfl rfl sz4 rfl rfl (on0 rfl)
 apply zS rfl
 ·intro wq hR hst
  refine zM rfl (zG ?_)
  have Lq:=lqb (M:=M) hR hmn nFn
  replace Ba:=Ba.rs hR nea_n
  exact zN rfl dR rfl Ba rfl (on0 rfl)
 apply zS rfl
 ·intro wq hR hst
  refine zM rfl (zM rfl (zG ?_))
  have Lq:=lqb (M:=M) hR hmn nFn
  replace Ba:=Ba.rs hR nea_n
  exact zK8 rfl rfl rfl underlying4 (on0 rfl)
 apply zS rfl
 ·intro wq hR hst
  refine zV rfl rfl (zG ?_)
  have Lq:=lqb (M:=M) hR hmn nFn
  replace Ba:=Ba.rs hR nea_n
  exact zA rfl rfl (on0 rfl)
 apply zS rfl
 ·intro wq hR hst
  refine zM rfl (zG ?_)
  have Lq:=lqb (M:=M) hR hmn nFn
  replace Ba:=Ba.rs hR nea_n
  exact zW rfl rfl (on0 rfl)
 apply zS rfl
 ·intro wq hR hst
  refine zM rfl (zG ?_)
  have Lq:=lqb (M:=M) hR hmn nFn
  replace Ba:=Ba.rs hR nea_n
  exact zL 0 rfl yu219 rfl rfl sz31 rfl rfl (on0 rfl)
 apply zS rfl
 ·intro wq hR hst
  refine zM rfl (zG ?_)
  have Lq:=lqb (M:=M) hR hmn nFn
  replace Ba:=Ba.rs hR nea_n
  exact zL 1 rfl yu31 rfl rfl sz29 rfl rfl (on0 rfl)
 apply zS rfl
 ·intro wq hR hst
  refine zM rfl (zG ?_)
  have Lq:=lqb (M:=M) hR hmn nFn
  replace Ba:=Ba.rs hR nea_n
  replace Bn:=(hst.2 (by decide +kernel))
  exact zN rfl yS rfl Bn rfl (on0 rfl)
 apply zS rfl
 ·intro wq hR hst
  refine zV rfl rfl (zG ?_)
  have Lq:=lqb (M:=M) hR hmn nFn
  replace Ba:=Ba.rs hR nea_n
  exact zA rfl rfl (on0 rfl)
 apply zS rfl
 ·intro wq hR hst
  refine zM rfl (zG ?_)
  have Lq:=lqb (M:=M) hR hmn nFn
  replace Ba:=Ba.rs hR nea_n
  exact zW rfl rfl (on0 rfl)
 apply zS rfl
 ·intro wq hR hst
  refine zM rfl (zG ?_)
  have Lq:=lqb (M:=M) hR hmn nFn
  replace Ba:=Ba.rs hR nea_n
  exact zL 0 rfl yu219 rfl rfl sz31 rfl rfl (on0 rfl)
 apply zS rfl
 ·intro wq hR hst
  refine zM rfl (zG ?_)
  have Lq:=lqb (M:=M) hR hmn nFn
  replace Ba:=Ba.rs hR nea_n
  exact zL 1 rfl yu31 rfl rfl sz29 rfl rfl (on0 rfl)
 apply zS rfl
 ·intro wq hR hst
  refine zM rfl (zG ?_)
  have Lq:=lqb (M:=M) hR hmn nFn
  replace Ba:=Ba.rs hR nea_n
  exact zN rfl yS rfl Ba rfl (on0 rfl)
 refine gI rfl (fun v w=>IsNat M w v (limbs (val xs * val ys))) (fun _ _ _ h r=>h.rs r (by rintro _ rfl; exact hmn)) (fun wq hR hst=>?_) ?_
 ·refine zM rfl (zM rfl (zG ?_))
  obtain ⟨LL,hM,hv,hu⟩:=up4 (lqc LL hR hmn nFn) LL hM hv hu
  replace Ba:=Ba.rs hR nea_n
  refine zK rfl (bo func230) rfl rfl ?_
  refine (zT2 hv hu (by omega) (by omega) hM).mono ?_
  rintro v27 w1 ⟨hB27,hf27⟩
  have hM27:=hM
  have hS27:=LL.size
  replace Ba:=Ba.below hB27
  have hn27:=hf27.nat hM27
  exact on1 hB27 rfl hn27
 apply zS rfl
 ·intro wq hR hst
  refine zM rfl (zG ?_)
  have Lq:=lqb (M:=M) hR hmn nFn
  replace Ba:=Ba.rs hR nea_n
  exact zW rfl rfl (on0 rfl)
 apply zS rfl
 ·intro wq hR hst
  refine zM rfl (zG ?_)
  have Lq:=lqb (M:=M) hR hmn nFn
  replace Ba:=Ba.rs hR nea_n
  exact zL 0 rfl yu219 rfl rfl sz31 rfl rfl (on0 rfl)
 apply zS rfl
 ·intro wq hR hst
  refine zM rfl (zG ?_)
  have Lq:=lqb (M:=M) hR hmn nFn
  replace Ba:=Ba.rs hR nea_n
  exact zL 0 rfl yu31 rfl rfl sz4 rfl rfl (on0 rfl)
 refine fD rfl (fun wq hR hp=>?_) ?_
 ·refine zM rfl (zM rfl (zG ?_))
  have Lq:=lqb (M:=M) hR hmn nFn
  replace Ba:=Ba.rs hR nea_n
  replace Bn:=hp
  refine xZ (i:=0) rfl rfl sz4 Bn (by first | rfl | exact yU (by assumption) | assumption | exact yQ (by assumption)) (by simp) (fun w2 Cw2 Bn=>?_)
  replace Ba:=Ba.other Cw2 nea_n
  exact zD ⟨rfl,dE Cw2,Bn⟩
 refine gB (fun wq0 hR0 hpost0=>?_)
 refine zV rfl rfl (zM rfl (xY rfl (fun v27 hn27=>?_)))
 refine zG ?_
 simp only [qZ,qY,qX,qW]
 obtain ⟨LL,hM,hv,hu⟩:=up4 (lqc LL hR0 hmn nFn) LL hM hv hu
 replace Ba:=Ba.rs hR0 nea_n
 have Bn:=hpost0 _ _ _ rfl
 refine zW rfl rfl (zL 0 rfl yu219 rfl rfl sz31 rfl rfl (zL 1 rfl yu31 rfl rfl sz29 rfl rfl (xZ (i:=1) rfl rfl sz29 Bn (by first | rfl | exact yU (by assumption) | assumption | exact yQ (by assumption)) (by simp) (fun w3 Cw3 Bn=>?_))))
 obtain ⟨LL,hM,hv,hu,hn27⟩:=up5 (lc LL Cw3 hmn nFn) LL hM hv hu hn27
 replace Ba:=Ba.other Cw3 nea_n
 refine zD (zB (zA rfl rfl (zK rfl (bo func268) rfl rfl ?_)))
 refine (iM (Fz:=NB _ bn) (M:=M) Bn hn27 (by have:=aR (xU hv.lt hl1) (xU hu.lt hl2); omega) hmn eJ mA hM).mono ?_
 rintro v35 w4 ⟨rfl,Lqw4,q35,Bn2,hn35⟩
 have Lw4:=Lqw4.refz nFn
 replace LL:=LL.trans Lw4
 replace Ba:=Ba.nb Lqw4 nea_n
 clear Bn; have Bn:=Bn2
 refine zD ?_
 refine xF ⟨[],trivial,?_⟩
 dsimp only [xG]
 rw [zv_mul] at Bn hn35
 exact ⟨LL,_,Bn,hn35⟩
def RLI (M:Nat→Prop):Bool × List Nat→List Value→World→Prop:=fun x vs w=>∃ b q,vs=[.pointer (some ⟨b,0,none⟩)]∧KBlk M w b 219 [.bool (decide (zv x.1 x.2 < 0)),q]∧IsNat M w q (limbs (zv x.1 x.2).natAbs)
theorem zP5 (x:Bool × List Nat) (h:∀ y ∈ x.2,y < 4294967296):(limbs (zv x.1 x.2).natAbs).length≤x.2.length:=by rw [bB]; exact yC _ h
theorem yP {n k:Nat} (h:(limbs n).length≤k):n < 4294967296 ^ k:=by
  have:=jF (limbs n) (gP n)
  rw [zP] at this
  exact Nat.lt_of_lt_of_le this (Nat.pow_le_pow_right (by omega) h)
def zsum (l:List (Bool × List Nat)):Int:=(l.map fun x=>zv x.1 x.2).sum
def kM (l:List (Bool × List Nat)):Int:=l.foldl (fun z x=>z * zv x.1 x.2) 1
theorem oO (l:List (Bool × List Nat)) (x:Bool × List Nat):zsum (l ++ [x])=zsum l + zv x.1 x.2:=by simp [zsum]
theorem mW (l:List (Bool × List Nat)) (x:Bool × List Nat):kM (l ++ [x])=kM l * zv x.1 x.2:=by simp [kM]
theorem iall1_c {M:Nat→Prop} {w0:World} {b1:Nat} {v:Value} {l0:List (Bool × List Nat)} (B1:Blk w0 b1 149 [v]) (n1:¬ M b1) (h1:IsInts M w0 v l0) (hl1:∀ x ∈ l0,x.2.length≤1000000) (hM:OkM M w0) :
    IterR prog 269 [.pointer (some ⟨b1,0,none⟩)] M NoT w0 l0 (RLI M) (fun _=>True):=by
 intro n l w J X hn0 hn hdr hJ hkeep hJd hXd hy
 have B1':=B1
 have h1':=h1
 have hM':=hM
 have hlen:=h1.len
 replace B1:=(hkeep _ _ hJ).blk B1 n1
 replace h1:=(hkeep _ _ hJ).ints h1
 replace hM:=(hkeep _ _ hJ).okM hM
 refine ci M func269 ntmps269 fun Fz hFz hF LL=>?_
 refine zF (zB (zN rfl flat149 rfl B1 rfl (tJ rfl underlying149 rfl h1.row (zA rfl rfl (zD (zX ?_))))))
 refine xT (σ:=Nat) [(0,_),(5,_),(6,_)] (fun s=>[(7,.int .i64 ((s:Nat):Int))]) (fun s w1=>J (l0.take s) w1∧n≤w1.heap.size∧s≤l0.length) (fun s=>l0.length - s) (0) (zI rfl (zI rfl (zI rfl (zI rfl yB)))) ?_ (fun s w1 hJ=>?_)
 · exact ⟨hJ,hn,by omega⟩
 ·obtain ⟨hJ1,hn1,hs⟩:=hJ
  have hk:=hkeep _ _ hJ1
  replace B1:=hk.blk B1' n1
  replace h1:=hk.ints h1'
  replace hM:=hk.okM hM'
  clear hF LL
  obtain ⟨Fz,hFz⟩:∃ Fz:Nat→Prop,Fz=(· < w1.heap.size):=⟨_,rfl⟩
  have hF:FOk Fz w1:=by subst hFz; exact fun _ h=>h
  have LL:=Le.refl Fz M w1
  refine zF (zB (jT rfl rfl rfl (zD (zF ?_))))
  refine zU rfl (fun hc0=>?_) (fun hc0=>?_)
  ·have hs2:s < l0.length:=by omega
   have hsl:=hl1 (l0.getD s (false,([]:List Nat))) (by rw [List.getD_eq_getElem?_getD,List.getElem?_eq_getElem hs2]; exact List.getElem_mem _)
   refine yE (zF (zX (zF (zB ?_))))
   refine tL (dflt:=(false,([]:List Nat))) s rfl underlying149 sz31 rfl rfl h1.row rfl (by omega) (fun b9 o9 us9 hul9 hu9 hc9=>?_)
   obtain ⟨u9,rfl,hn9⟩:=hu9
   refine kS rfl gD sz31 rfl hc9 rfl (xB rfl sz31 (fun w2 b4 N4=>?_))
   obtain ⟨_,nF4,nM4,Lw2,B4⟩:=nza hF hM N4
   have lt1_4:=B1.lt
   have ne1_4:=N4.ne lt1_4
   obtain ⟨LL,hM,hn9⟩:=up3 Lw2 LL hM hn9
   refine xH rfl rfl sz31 B4 rfl rfl (allq (allq alln)) rfl (fun w3 Cw3 B4=>?_)
   obtain ⟨LL,hM,hn9⟩:=up3 (lc LL Cw3 zO nF4) LL hM hn9
   refine zD (zF (zB (zA rfl rfl (jN rfl gD sz31 rfl B4 rfl rfl (zK rfl (bo func212) rfl rfl ?_)))))
   refine (vC hn9 (by omega) hM).mono ?_
   rintro v13 w4 ⟨hB13,b13,q13,rfl,hz13,B13,hn13⟩
   have hk13:KBlk (Ins b4 M) w4 b13 219 _:=⟨B13,fun c=>by have:=hM _ c; omega⟩
   replace LL:=ub1 hB13 LL
   refine kR rfl rfl rfl ?_
   refine (hy _ _ _ _ _ ((yZ (false,([]:List Nat)) hs2).2) (hJd _ _ _ hJ1 (LL.drift_all hFz hn1)) ⟨b13,q13,rfl,hk13.less fun k c=>yF c,hn13.less fun k c=>yF c⟩ (Nat.le_trans hn1 LL.size)).mono ?_
   rintro v14 w5 ⟨hn2,_,hyn⟩
   refine aQ rfl rfl (zD ?_)
   refine uP rfl (fun hc1=>?_) (fun hc1=>?_)
   ·refine zY ?_
    refine xF ⟨[],trivial,?_⟩
    dsimp only [xG]
    right
    rcases hyn with ⟨e,_⟩ | ⟨_,h⟩
    · subst e; simp at hc1
    · exact h
   ·refine yE (zB (yV rfl rfl rfl (by omega) (zA rfl rfl (zD ?_))))
    refine ⟨rfl,s + 1,(zR rfl (rfl) (zI rfl (zI rfl (zI rfl yB)))),?_,?_⟩
    exact ⟨by
      rw [(yZ (false,([]:List Nat)) hs2).1]
      rcases hyn with ⟨_,h⟩ | ⟨e,_⟩
      · exact h
      · subst e; simp at hc1,hn2,by omega⟩
    omega
  ·refine xI (xK ?_)
   refine xF ⟨[],trivial,?_⟩
   dsimp only [xG]
   left
   obtain rfl:s=l0.length:=by omega
   rw [List.take_length] at hJ1
   exact ⟨hJ1,trivial⟩
theorem zV2 {v:Value} {l0:List (Bool × List Nat)} (h1:IsInts M w v l0) (hl1:∀ x ∈ l0,x.2.length≤1000000) (hM:OkM M w) :
    CallsV prog 213 [v] w fun r w'=>Bel w.heap.size w w'∧∃ cap,r = .func (.func 269) #[] cap∧IterR prog 269 cap.toList M NoT w' l0 (RLI M) (fun _=>True):=by
 have hvc:v.cells=[v].toArray:=by obtain ⟨_,⟨_,_,ad,cap,rfl,_⟩,_⟩:=h1.row; rfl
 refine ci M func213 ntmps213 fun Fz hFz hF LL=>?_
 refine zF (zB (gJ rfl rfl (fun w1 b1 N1=>?_)))
 obtain ⟨_,nF1,nM1,Lw1,B1⟩:=nz hF hM N1
 obtain ⟨LL,hM,h1⟩:=up3 Lw1 LL hM h1
 rw [hvc] at B1
 refine zC rfl rfl (zD (zF (zB (gZ rfl rfl (zC rfl rfl (zD (zY ?_)))))))
 refine lv1 ⟨rfl,trivial⟩ ?_
 subst hFz
 refine ⟨LL.b,_,rfl,?_⟩
 exact iall1_c B1 (fun c=>nM1 c) (h1.less fun k c=>yF c) hl1 (fun k c=>hM k (yF c))
theorem iadds_c {v:Value} {l0:List (Bool × List Nat)} {L:Nat} (h1:IsInts M w v l0) (hlt:∀ x ∈ l0,∀ y ∈ x.2,y < 4294967296) (hl1:∀ x ∈ l0,x.2.length≤L) (hL:L + l0.length≤1000000) (hM:OkM M w) :
    CallsV prog 248 [v] w fun r w'=>Bel w.heap.size w w'∧∃ q,r = .agg #[.bool (decide (zsum l0 < 0)),q]∧IsNat M w' q (limbs (zsum l0).natAbs):=by
 have hL6:L≤1000000:=by omega
 have Mk:Marks M w.heap.size [] w:=gK
 refine ci M func248 ntmps248 fun Fz hFz hF LL=>?_
 refine zF (zB (xB rfl sz31 (fun w1 b2 N2=>?_)))
 obtain ⟨_,nF2,nM2,Lw1,B2⟩:=nza hF hM N2
 obtain ⟨LL,hM,hF,h1,Mk⟩:=up5 Lw1 LL hM hF h1 Mk
 refine zD (zF (zB (qU rfl lY sz31 rfl qD rfl rfl (zK rfl (bo func212) rfl rfl ?_))))
 refine (vC (s:=false) kA (by simp) hM).mono ?_
 rintro v6 w2 ⟨hB6,b6,q6,rfl,hz6,B6,hn6⟩
 have nF6:¬ Fz b6:=fun c=>by have:=hF _ c; omega
 have nM6:¬ (Ins b2 M) b6:=fun c=>by have:=hM _ c; omega
 have Lw2:=Le.of_below_ins (Fz:=Fz) (M:=(Ins b2 M)) (b:=b6) hB6 hz6 B6.lt
 have ne2_6:b2 ≠ b6:=by have:=B2.lt; omega
 replace B2:=B2.below hB6
 obtain ⟨LL,hM,hF,h1,Mk⟩:=up5 Lw2 LL hM hF h1 Mk
 replace hn6:=zL3 hn6 hn6 B6
 refine xB rfl zI8 (fun w3 b3 N3=>?_)
 obtain ⟨hBw3,nF3,nM3,Lw3,B3⟩:=nz hF hM N3
 obtain ⟨B2,ne2_3⟩:=bn B2 N3
 have lt6_3:=B6.lt
 replace B6:=B6.below hBw3
 have ne3_6:b3 ≠ b6:=by have:=N3.at_; omega
 obtain ⟨LL,hM,h1,Mk,hn6⟩:=up5 Lw3 LL hM h1 Mk hn6
 refine xO rfl rfl zI8 B3 (by first | rfl | exact yU (by assumption) | assumption | exact yQ (by assumption)) (fun w4 Cw4 B3=>?_)
 obtain ⟨LL,hM,h1,Mk,hn6⟩:=up5 (lc LL Cw4 zO nF3) LL hM h1 Mk hn6
 replace B2:=B2.other Cw4 ne2_3
 replace B6:=B6.other Cw4 ne3_6.symm
 refine zD (zF (zF (zB (zA rfl rfl (zK rfl (bo func213) rfl rfl ?_)))))
 refine (zV2 h1 (fun x hx=>Nat.le_trans (hl1 x hx) hL6) hM).mono ?_
 rintro v8 w5 ⟨hB8,cap8,rfl,hit8⟩
 obtain ⟨LL,hM,h1,Mk,hn6,B2,B6,B3⟩:=ub8 hB8 LL hM h1 Mk hn6 B2 B6 B3
 refine zD (zX ?_)
 have hMS0:=hM
 have hszLL:=LL.size
 have Mold0:=Mk.old (Nat.le_refl _)
 refine iX (M:=(Ins b3 (Ins b6 (Ins b2 M)))) (T:=NoT) (l0) ((RLI (Ins b3 (Ins b6 (Ins b2 M))))) rfl (bo func269) (hit8) noT (trivial) (fun _ _ _ ⟨_,_,h,_⟩=>by rw [h]; rfl) rfl [(3,_)] (zI rfl yB) (fun pre w6=>Le Fz (Ins b3 (Ins b6 (Ins b2 M))) w5 (Ins b3 (Ins b6 (Ins b2 M))) w6∧Blk w6 b2 31 [.bool false,.slice none 0 0]∧Blk w6 b3 212 [.pointer (some ⟨b6,0,none⟩)]∧∃ q,Blk w6 b6 219 [.bool (decide (zsum pre < 0)),q]∧IsNat (Ins b3 (Ins b6 (Ins b2 M))) w6 q (limbs (zsum pre).natAbs)∧(limbs (zsum pre).natAbs).length≤L + pre.length) (fun _ _=>False) (fun _=>False) (⟨Le.refl _ _ _,B2,B3,_,B6,hn6,by simp [zsum,yW,jX]⟩) (fun pre w h=>h.1.keep) (fun pre w1 w2 hJ hd=>(by obtain ⟨h1,h2,h3,q,h4,h5,h6⟩:=hJ; exact ⟨h1.drift0 hd (Nat.le_refl _),h2.drift hd (fun c=>c),h3.drift hd (fun c=>c),q,h4.drift hd (fun c=>c),h5.drift hd noT,h6⟩)) (fun _ _ _ h _=>h) (fun _ _ h _=>h) (fun _ _ _ _=>trivial) ?_ ?_ (fun _ _ h _=>h.elim) (fun _ h _=>h.elim)
 ·intro pre x vs post l b w6 ρ δ hx hJ hv hnl hnb hl hb hbc
  obtain ⟨LS0,B2,B3,q0,B6,hq0,hlq⟩:=hJ
  obtain ⟨hM,Mk⟩:=up2 LS0 hM Mk
  have RL:Rec (Ins b3 (Ins b6 (Ins b2 M))) w6 l (.loop ρ):=⟨hl,(gG hMS0 hnl)⟩
  have RB:Rec (Ins b3 (Ins b6 (Ins b2 M))) w6 b δ:=⟨hb,(gG hMS0 hnb)⟩
  have hs1:w6.heap.size≤w6.heap.size:=Nat.le_refl _
  obtain ⟨ba,qa,rfl,hka,hqa⟩:=hv
  have hxm:x ∈ l0:=by rw [hx]; simp
  have hxl:=Nat.le_trans (zP5 x (hlt x hxm)) (hl1 x hxm)
  have hpl:pre.length < l0.length:=by rw [hx]; simp
  refine zB (zC rfl rfl (zD ?_))
  refine ⟨RL.at_,RB.at_,rfl,fun w7 ρ' δ' hdr hl' hb' hbc'=>?_⟩
  replace LS0:=LS0.drift0 hdr (Nat.le_refl _)
  replace hM:=hM.drift hdr
  replace hs1:=Nat.le_trans hs1 hdr.size
  replace hq0:=hq0.drift hdr noT
  replace hka:=hka.drift hdr noT
  replace hqa:=hqa.drift hdr noT
  replace RL:Rec (Ins b3 (Ins b6 (Ins b2 M))) w7 l (.loop ρ'):=⟨hl',RL.not⟩
  replace RB:Rec (Ins b3 (Ins b6 (Ins b2 M))) w7 b δ':=⟨hb',RB.not⟩
  replace B2:=B2.drift hdr (fun c=>c)
  replace B3:=B3.drift hdr (fun c=>c)
  replace B6:=B6.drift hdr (fun c=>c)
  refine zX (zB (zN rfl mO rfl B3 rfl (zA rfl rfl (zK rfl (bo func285) rfl rfl ?_))))
  refine (iadd_c (Fz:=NB _ b6) (M:=(Ins b3 (Ins b6 (Ins b2 M)))) B6 hq0 hka hqa (by omega) (by omega) (.inr zO) eJ mA hM).mono ?_
  rintro v12 w8 ⟨Lqw8,q12,B6b,hn12⟩
  have Lw8:=Lqw8.refz nF6
  obtain ⟨LS0,RL,RB⟩:=up3 Lw8 LS0 RL RB
  replace hs1:=Nat.le_trans hs1 Lw8.size
  replace B2:=B2.nb Lqw8 ne2_6
  replace B3:=B3.nb Lqw8 ne3_6
  clear B6; have B6:=B6b
  simp only [bO] at B6 hn12
  refine zD ?_
  refine ⟨RL.at_,RB.at_,hs1,fun _ c=>c.elim,?_⟩
  rw [← oO] at B6 hn12
  refine ⟨LS0,B2,B3,_,B6,hn12,?_⟩
  have h2:=yP hlq
  have h3:(zv x.1 x.2).natAbs < 4294967296 ^ (L + pre.length):=yP (by omega)
  rw [List.length_append,List.length_singleton,oO]
  exact yJ (Nat.lt_of_le_of_lt (Int.natAbs_add_le _ _) (dP h2 h3))
 ·intro w9 hJ hZ hDd
  obtain ⟨LS0,B2,B3,q0,B6,hq0,hlq⟩:=hJ
  obtain ⟨LL,Mk⟩:=up2 LS0 LL Mk
  have hdd:=hDd _ rfl rfl
  have RD:Rec (Ins b3 (Ins b6 (Ins b2 M))) w9 w5.heap.size (.deferred (some [])):=⟨hdd,(gG hMS0 (Nat.le_refl _))⟩
  replace Mk:=Mk.cons hszLL RD Mold0
  refine zF (zB (zN rfl mO rfl B3 rfl (zW rfl rfl (zL 0 rfl yu219 rfl rfl sz31 rfl rfl (jN rfl gD sz31 rfl B6 rfl rfl (xH rfl rfl sz31 B2 rfl rfl (allq (allq alln)) rfl (fun w10 Cw10 B2=>?_)))))))
  obtain ⟨LL,LS0,Mk,hq0⟩:=up4 (lc LL Cw10 (.inr (.inr zO)) nF2) LL LS0 Mk hq0
  refine zD (zY ?_)
  refine jK Mk (fun wz hz=>⟨[_],⟨⟨_,rfl,jY gD sz31 (B2.drift hz (fun c=>c)) rfl rfl⟩,trivial⟩,?_⟩)
  dsimp only [xG]
  subst hFz
  exact ⟨SL.Bel.drift (LL.b) hz (Nat.le_refl _),_,rfl,(hq0.less fun k c=>yF (yF (yF c))).drift hz noT⟩
theorem wL {n:Nat} (hn:n < 9223372036854775808) (hM:OkM M w) :
    CallsV prog 183 [.int .i64 (n:Int)] w fun r w'=>Bel w.heap.size w w'∧∃ q,r = .agg #[.bool (decide ((n:Int) < 0)),q]∧IsNat M w' q (limbs ((n:Int)).natAbs):=by
 refine ci M func183 ntmps183 fun Fz hFz hF LL=>?_
 refine zF (zB (xB rfl sz31 (fun w1 b2 N2=>?_)))
 obtain ⟨_,nF2,nM2,Lw1,B2⟩:=nza hF hM N2
 obtain ⟨LL,hM⟩:=up2 Lw1 LL hM
 refine zD (zF (zF (zB (zA rfl rfl (jT rfl rfl rfl (zD ?_))))))
 refine zU rfl (fun hp=>absurd hp (by omega)) (fun hc0=>?_)
 refine yE (zF (zB (zA rfl rfl (xC rfl yu3 yu168 rfl (by omega) (zK rfl (bo func253) rfl rfl ?_)))))
 refine (of_c (n:=n) (by omega) hM).mono ?_
 rintro v12 w2 ⟨hB12,hf12⟩
 have hM12:=hM
 have hS12:=LL.size
 obtain ⟨LL,B2⟩:=ub2 hB12 LL B2
 have hn12:=hf12.nat hM12
 refine qU rfl lY sz31 rfl (jB (cD (by first | rfl | exact yQ (by assumption) | exact yU (by assumption) | assumption)) qD) rfl rfl (xH rfl rfl sz31 B2 rfl rfl (allq (allq alln)) rfl (fun w3 Cw3 B2=>?_))
 obtain ⟨LL,hn12⟩:=up2 (lc LL Cw3 zO nF2) LL hn12
 refine zD (zY ?_)
 refine lv1 ⟨⟨_,rfl,jY gD sz31 B2 rfl rfl⟩,trivial⟩ ?_
 have e:decide (((n:Nat):Int) < 0)=false:=decide_eq_false (by omega)
 subst hFz
 exact ⟨LL.b,_,by rw [e]; rfl,hn12.less fun k c=>yF c⟩
theorem zM7 {v:Value} {l0:List (Bool × List Nat)} {L:Nat} (h1:IsInts M w v l0) (hlt:∀ x ∈ l0,∀ y ∈ x.2,y < 4294967296) (hl1:∀ x ∈ l0,x.2.length≤L) (hL:L * l0.length + 1≤1000000∧L≤1000000) (hM:OkM M w) :
    CallsV prog 157 [v] w fun r w'=>Bel w.heap.size w w'∧∃ q,r = .agg #[.bool (decide (kM l0 < 0)),q]∧IsNat M w' q (limbs (kM l0).natAbs):=by
 have hL6:L≤1000000:=hL.2
 have Mk:Marks M w.heap.size [] w:=gK
 refine ci M func157 ntmps157 fun Fz hFz hF LL=>?_
 refine zF (zB (xB rfl sz31 (fun w1 b2 N2=>?_)))
 obtain ⟨_,nF2,nM2,Lw1,B2⟩:=nza hF hM N2
 obtain ⟨LL,hM,hF,h1,Mk⟩:=up5 Lw1 LL hM hF h1 Mk
 refine zD (zF (zB (zK rfl (bo func183) rfl rfl ?_)))
 refine (wL (n:=1) (by omega) hM).mono ?_
 rintro v5 w2 ⟨hB5,q5,rfl,hn5⟩
 obtain ⟨LL,hM,hF,h1,Mk,B2⟩:=ub6 hB5 LL hM hF h1 Mk B2
 refine zK rfl (bo func212) rfl rfl ?_
 refine (vC hn5 (by rw [show ((1:Nat):Int).natAbs=1 from rfl,jX]; simp) hM).mono ?_
 rintro v6 w3 ⟨hB6,b6,q6,rfl,hz6,B6,hn6⟩
 have nF6:¬ Fz b6:=fun c=>by have:=hF _ c; omega
 have nM6:¬ (Ins b2 M) b6:=fun c=>by have:=hM _ c; omega
 have Lw3:=Le.of_below_ins (Fz:=Fz) (M:=(Ins b2 M)) (b:=b6) hB6 hz6 B6.lt
 have ne2_6:b2 ≠ b6:=by have:=B2.lt; omega
 replace B2:=B2.below hB6
 obtain ⟨LL,hM,hF,h1,Mk⟩:=up5 Lw3 LL hM hF h1 Mk
 simp only [bO] at B6 hn6
 replace hn6:=zL3 hn6 hn6 B6
 refine xB rfl zI8 (fun w4 b3 N3=>?_)
 obtain ⟨hBw4,nF3,nM3,Lw4,B3⟩:=nz hF hM N3
 obtain ⟨B2,ne2_3⟩:=bn B2 N3
 have lt6_3:=B6.lt
 replace B6:=B6.below hBw4
 have ne3_6:b3 ≠ b6:=by have:=N3.at_; omega
 obtain ⟨LL,hM,h1,Mk,hn6⟩:=up5 Lw4 LL hM h1 Mk hn6
 refine xO rfl rfl zI8 B3 (by first | rfl | exact yU (by assumption) | assumption | exact yQ (by assumption)) (fun w5 Cw5 B3=>?_)
 obtain ⟨LL,hM,h1,Mk,hn6⟩:=up5 (lc LL Cw5 zO nF3) LL hM h1 Mk hn6
 replace B2:=B2.other Cw5 ne2_3
 replace B6:=B6.other Cw5 ne3_6.symm
 refine zD (zF (zF (zB (zA rfl rfl (zK rfl (bo func213) rfl rfl ?_)))))
 refine (zV2 h1 (fun x hx=>Nat.le_trans (hl1 x hx) hL6) hM).mono ?_
 rintro v8 w6 ⟨hB8,cap8,rfl,hit8⟩
 obtain ⟨LL,hM,h1,Mk,hn6,B2,B6,B3⟩:=ub8 hB8 LL hM h1 Mk hn6 B2 B6 B3
 refine zD (zX ?_)
 have hMS0:=hM
 have hszLL:=LL.size
 have Mold0:=Mk.old (Nat.le_refl _)
 refine iX (M:=(Ins b3 (Ins b6 (Ins b2 M)))) (T:=NoT) (l0) ((RLI (Ins b3 (Ins b6 (Ins b2 M))))) rfl (bo func269) (hit8) noT (trivial) (fun _ _ _ ⟨_,_,h,_⟩=>by rw [h]; rfl) rfl [(3,_)] (zI rfl yB) (fun pre w7=>Le Fz (Ins b3 (Ins b6 (Ins b2 M))) w6 (Ins b3 (Ins b6 (Ins b2 M))) w7∧Blk w7 b2 31 [.bool false,.slice none 0 0]∧Blk w7 b3 212 [.pointer (some ⟨b6,0,none⟩)]∧∃ q,Blk w7 b6 219 [.bool (decide (kM pre < 0)),q]∧IsNat (Ins b3 (Ins b6 (Ins b2 M))) w7 q (limbs (kM pre).natAbs)∧(limbs (kM pre).natAbs).length≤L * pre.length + 1) (fun _ _=>False) (fun _=>False) (⟨Le.refl _ _ _,B2,B3,_,B6,hn6,by simp [kM,yW,jX]⟩) (fun pre w h=>h.1.keep) (fun pre w1 w2 hJ hd=>(by obtain ⟨h1,h2,h3,q,h4,h5,h6⟩:=hJ; exact ⟨h1.drift0 hd (Nat.le_refl _),h2.drift hd (fun c=>c),h3.drift hd (fun c=>c),q,h4.drift hd (fun c=>c),h5.drift hd noT,h6⟩)) (fun _ _ _ h _=>h) (fun _ _ h _=>h) (fun _ _ _ _=>trivial) ?_ ?_ (fun _ _ h _=>h.elim) (fun _ h _=>h.elim)
 ·intro pre x vs post l b w7 ρ δ hx hJ hv hnl hnb hl hb hbc
  obtain ⟨LS0,B2,B3,q0,B6,hq0,hlq⟩:=hJ
  obtain ⟨hM,Mk⟩:=up2 LS0 hM Mk
  have RL:Rec (Ins b3 (Ins b6 (Ins b2 M))) w7 l (.loop ρ):=⟨hl,(gG hMS0 hnl)⟩
  have RB:Rec (Ins b3 (Ins b6 (Ins b2 M))) w7 b δ:=⟨hb,(gG hMS0 hnb)⟩
  have hs1:w7.heap.size≤w7.heap.size:=Nat.le_refl _
  obtain ⟨ba,qa,rfl,hka,hqa⟩:=hv
  have hxm:x ∈ l0:=by rw [hx]; simp
  have hxl:=Nat.le_trans (zP5 x (hlt x hxm)) (hl1 x hxm)
  have hpl:pre.length < l0.length:=by rw [hx]; simp
  refine zB (zC rfl rfl (zD ?_))
  refine ⟨RL.at_,RB.at_,rfl,fun w8 ρ' δ' hdr hl' hb' hbc'=>?_⟩
  replace LS0:=LS0.drift0 hdr (Nat.le_refl _)
  replace hM:=hM.drift hdr
  replace hs1:=Nat.le_trans hs1 hdr.size
  replace hq0:=hq0.drift hdr noT
  replace hka:=hka.drift hdr noT
  replace hqa:=hqa.drift hdr noT
  replace RL:Rec (Ins b3 (Ins b6 (Ins b2 M))) w8 l (.loop ρ'):=⟨hl',RL.not⟩
  replace RB:Rec (Ins b3 (Ins b6 (Ins b2 M))) w8 b δ':=⟨hb',RB.not⟩
  replace B2:=B2.drift hdr (fun c=>c)
  replace B3:=B3.drift hdr (fun c=>c)
  replace B6:=B6.drift hdr (fun c=>c)
  refine zX (zB (zN rfl mO rfl B3 rfl (zA rfl rfl (zK rfl (bo func214) rfl rfl ?_))))
  refine (imul_c (Fz:=NB _ b6) (M:=(Ins b3 (Ins b6 (Ins b2 M)))) B6 hq0 hka hqa (by have:=Nat.mul_le_mul_left L (Nat.le_of_lt hpl); omega) (by omega) (.inr zO) eJ mA hM).mono ?_
  rintro v12 w9 ⟨Lqw9,q12,B6b,hn12⟩
  have Lw9:=Lqw9.refz nF6
  obtain ⟨LS0,RL,RB⟩:=up3 Lw9 LS0 RL RB
  replace hs1:=Nat.le_trans hs1 Lw9.size
  replace B2:=B2.nb Lqw9 ne2_6
  replace B3:=B3.nb Lqw9 ne3_6
  clear B6; have B6:=B6b
  simp only [bO] at B6 hn12
  refine zD ?_
  refine ⟨RL.at_,RB.at_,hs1,fun _ c=>c.elim,?_⟩
  rw [← mW] at B6 hn12
  refine ⟨LS0,B2,B3,_,B6,hn12,?_⟩
  have h2:=yP hlq
  have h3:(zv x.1 x.2).natAbs < 4294967296 ^ L:=yP (by omega)
  rw [List.length_append,List.length_singleton,mW,Nat.mul_add,Nat.mul_one]
  refine yJ (Nat.lt_of_lt_of_eq (by rw [Int.natAbs_mul]; exact jU h2 h3) (by congr 1; omega))
 ·intro w10 hJ hZ hDd
  obtain ⟨LS0,B2,B3,q0,B6,hq0,hlq⟩:=hJ
  obtain ⟨LL,Mk⟩:=up2 LS0 LL Mk
  have hdd:=hDd _ rfl rfl
  have RD:Rec (Ins b3 (Ins b6 (Ins b2 M))) w10 w6.heap.size (.deferred (some [])):=⟨hdd,(gG hMS0 (Nat.le_refl _))⟩
  replace Mk:=Mk.cons hszLL RD Mold0
  refine zF (zB (zN rfl mO rfl B3 rfl (zW rfl rfl (zL 0 rfl yu219 rfl rfl sz31 rfl rfl (jN rfl gD sz31 rfl B6 rfl rfl (xH rfl rfl sz31 B2 rfl rfl (allq (allq alln)) rfl (fun w11 Cw11 B2=>?_)))))))
  obtain ⟨LL,LS0,Mk,hq0⟩:=up4 (lc LL Cw11 (.inr (.inr zO)) nF2) LL LS0 Mk hq0
  refine zD (zY ?_)
  refine jK Mk (fun wz hz=>⟨[_],⟨⟨_,rfl,jY gD sz31 (B2.drift hz (fun c=>c)) rfl rfl⟩,trivial⟩,?_⟩)
  dsimp only [xG]
  subst hFz
  exact ⟨SL.Bel.drift (LL.b) hz (Nat.le_refl _),_,rfl,(hq0.less fun k c=>yF (yF (yF c))).drift hz noT⟩
theorem ints2 {b:Nat} {t:TypeId} {s1 s2:Bool} {v1 v2:Value} {xs ys:List Nat} (B:Blk w b t [.bool s1,v1,.bool s2,v2]) (hm:¬ M b) (h1:IsNat M w v1 xs) (h2:IsNat M w v2 ys):IsInts M w (.slice (some ⟨b,0,none⟩) 2 2) [(s1,xs),(s2,ys)] :=
  ⟨_,B.slc hm (sz:=2) (n:=2) (ds:=[.bool s1,v1,.bool s2,v2]) rfl (fun j u hj=>hj) (by omega) (Nat.le_refl _),fun i a ha=>by
    match i with
    | 0=>simp at ha; subst ha; exact ⟨_,rfl,fun q u hq=>by
        match q with
        | 0=>simpa using hq
        | 1=>simpa using hq
        | q + 2=>simp at hq,_,rfl,h1⟩
    | 1=>simp at ha; subst ha; exact ⟨[.bool s2,v2],rfl,fun q u hq=>by
        match q with
        | 0=>simpa using hq
        | 1=>simpa using hq
        | q + 2=>simp at hq,_,rfl,h2⟩
    | i + 2=>simp at ha⟩
theorem tR {z:Int} {d:Nat} (hd:d ≠ 0):(mkRat z d).num=z / ((Nat.gcd z.natAbs d:Nat):Int)∧(mkRat z d).den=d / Nat.gcd z.natAbs d:=by
  have e:mkRat z d=Rat.normalize z d hd:=by simp [mkRat,hd]
  rw [e,Rat.normalize_eq]
  exact ⟨rfl,rfl⟩
theorem dJ {z:Int} {d:Nat} (hd:d ≠ 0):decide ((mkRat z d).num < 0)=decide (z < 0)∧(mkRat z d).num.natAbs=z.natAbs / Nat.gcd z.natAbs d∧(mkRat z d).den=d / Nat.gcd z.natAbs d:=by
  obtain ⟨h1,h2⟩:=tR (z:=z) hd
  have hg:0 < Nat.gcd z.natAbs d:=Nat.gcd_pos_of_pos_right _ (Nat.pos_of_ne_zero hd)
  obtain ⟨k,hk⟩:=Nat.gcd_dvd_left z.natAbs d
  generalize hG:Nat.gcd z.natAbs d=g at *
  have hz:z=((g:Nat):Int) * k ∨ z = -(((g:Nat):Int) * k):=by
    rcases Int.natAbs_eq z with h | h
    · left; rw [h,hk]; simp
    · right; rw [h,hk]; simp
  have hgi:((g:Nat):Int) ≠ 0:=by omega
  have hq:z.natAbs / g=k:=by rw [hk,Nat.mul_div_cancel_left _ hg]
  rw [h1,h2]
  rcases hz with hz | hz
  · have e:z / ((g:Nat):Int)=k:=by rw [hz,Int.mul_ediv_cancel_left _ hgi]
    rw [e,hq]
    refine ⟨?_,by simp,rfl⟩
    have h0:(0:Int)≤z:=by rw [hz]; exact Int.mul_nonneg (by omega) (by omega)
    rw [decide_eq_false (by omega),decide_eq_false (by omega)]
  · have e:z / ((g:Nat):Int) = -k:=by rw [hz,← Int.mul_neg,Int.mul_ediv_cancel_left _ hgi]
    rw [e,hq]
    refine ⟨?_,by simp,rfl⟩
    rcases Nat.eq_zero_or_pos k with h0 | h0
    · subst h0; simp at hz; subst hz; simp
    · have:z < 0:=by rw [hz]; have:=Int.mul_pos (a:=((g:Nat):Int)) (b:=(k:Int)) (by omega) (by omega); omega
      rw [decide_eq_true (by omega),decide_eq_true this]
theorem whole_c {v:Value} {xs:List Nat} (h:IsNat M w v xs) (hM:OkM M w) :
    CallsV prog 158 [v] w fun r w'=>Bel w.heap.size w w'∧r = .agg #[.bool false,v]:=by
 refine ci M func158 ntmps158 fun Fz hFz hF LL=>?_
 refine zF (zB (xB rfl sz31 (fun w1 b2 N2=>?_)))
 obtain ⟨_,nF2,nM2,Lw1,B2⟩:=nza hF hM N2
 obtain ⟨LL,h⟩:=up2 Lw1 LL h
 refine zD (zF (zB (zA rfl rfl (qU rfl lY sz31 rfl (jB (cD (by first | rfl | exact yQ (by assumption) | exact yU (by assumption) | assumption)) qD) rfl rfl (xH rfl rfl sz31 B2 rfl rfl (allq (allq alln)) rfl (fun w2 Cw2 B2=>?_))))))
 obtain ⟨LL,h⟩:=up2 (lc LL Cw2 zO nF2) LL h
 refine zD (zY ?_)
 refine lv1 ⟨⟨_,rfl,jY gD sz31 B2 rfl rfl⟩,trivial⟩ ?_
 subst hFz
 exact ⟨LL.b,rfl⟩
theorem wD {n:Nat} (hn:n < 9223372036854775808) (hM:OkM M w) :
    CallsV prog 128 [.int .i64 (n:Int)] w fun r w'=>Bel w.heap.size w w'∧∃ q d,r = .agg #[.bool false,q,d]∧IsNat M w' q (limbs n)∧IsNat M w' d [1]:=by
 refine ci M func128 ntmps128 fun Fz hFz hF LL=>?_
 refine zF (zB (xB rfl sz33 (fun w1 b2 N2=>?_)))
 obtain ⟨_,nF2,nM2,Lw1,B2⟩:=nza hF hM N2
 obtain ⟨LL,hM⟩:=up2 Lw1 LL hM
 refine zD (zF (zB (zA rfl rfl (zK rfl (bo func183) rfl rfl ?_))))
 refine (wL (n:=n) hn hM).mono ?_
 rintro v4 w2 ⟨hB4,q4,rfl,hn4⟩
 obtain ⟨LL,hM,B2⟩:=ub3 hB4 LL hM B2
 refine yO rfl yu29 yI rfl rfl rfl (by simp [Value.oneCell',lw]) rfl (fun w3 b5 N5=>?_)
 have hBw3:=N5.below
 have nM5:=hM.new N5
 have B5:=N5.blk
 obtain ⟨LL,hn4,B2⟩:=ub3 hBw3 LL hn4 B2
 have hn5:IsNat (Ins b2 M) w3 (.slice (some ⟨b5,0,none⟩) 1 1) [1]:=fG (xs:=[1]) B5 nM5 rfl (by simp) (by simp)
 refine uF rfl zS6 rfl rfl (jB (rfl) (jB (cD (by first | rfl | exact yQ (by assumption) | exact yU (by assumption) | assumption)) qD)) rfl (xH rfl rfl sz33 B2 rfl rfl (allq (allq (allq alln))) rfl (fun w4 Cw4 B2=>?_))
 obtain ⟨LL,hn4,hn5⟩:=up3 (lc LL Cw4 zO nF2) LL hn4 hn5
 refine zD (zY ?_)
 refine lv1 ⟨⟨_,rfl,jY cL sz33 B2 rfl rfl⟩,trivial⟩ ?_
 have e:decide (((n:Nat):Int) < 0)=false:=decide_eq_false (by omega)
 subst hFz
 exact ⟨LL.b,_,_,by rw [e]; rfl,hn4.less fun k c=>yF c,hn5.less fun k c=>yF c⟩
theorem rH {Fz M:Nat→Prop} {w:World} {bn:Nat} {s:Bool} {v u:Value} {xs ds:List Nat} (hT:Tab M w) (Bn:Blk w bn 163 [.bool s,v,u]) (hv:IsNat M w v xs) (hu:IsNat M w u ds) (hl1:xs.length≤10000000) (hl2:ds.length≤10000000) (hmn:M bn) (nFn:¬ Fz bn) (hF:FOk Fz w) (hM:OkM M w) :
    CallsV prog 209 [.pointer (some ⟨bn,0,none⟩)] w fun r w'=>r = .bool (decide (val ds ≠ 0))∧Le Fz M w M w'∧∃ a d,Blk w' bn 163 [.bool (decide ((mkRat (zv s xs) (val ds)).num < 0)),a,d]∧IsNat M w' a (limbs (mkRat (zv s xs) (val ds)).num.natAbs)∧IsNat M w' d (limbs (mkRat (zv s xs) (val ds)).den):=by
 have hxk:=yC xs hv.lt
 have hdk:=yC ds hu.lt
 have LL:=Le.refl Fz M w
 refine jL func209 rfl ntmps209 rfl ?_
 refine zF (zB (zC rfl rfl (zD (zF (zF (zB (zA rfl rfl (zW rfl rfl (zL 0 rfl yu163 rfl rfl sz33 rfl rfl (zL 2 rfl yu33 rfl rfl sz29 rfl rfl (zN rfl yS rfl Bn rfl (zK rfl (bo func252) rfl rfl ?_))))))))))))
 refine (qR hu (by omega) hM).mono ?_
 rintro v8 w1 ⟨hB8,hf8⟩
 have hM8:=hM
 have hS8:=LL.size
 obtain ⟨LL,hM,hT,hv,hu,Bn⟩:=ub6 hB8 LL hM hT hv hu Bn
 have hn8:=hf8.nat hM8
 refine yT rfl yu29 rfl ?_
 refine qI rfl rfl rfl (zD ?_)
 refine zU rfl (fun hc0=>?_) (fun hc0=>?_)
 ·have hd0:val ds=0:=yH.1 (by omega)
  refine zF (zB (zA rfl rfl (zK rfl (bo func128) rfl rfl ?_)))
  refine (wD (n:=0) (by omega) hM).mono ?_
  rintro v12 w2 ⟨hB12,q12,d12,rfl,hn12,hm12⟩
  obtain ⟨LL,Bn⟩:=ub2 hB12 LL Bn
  refine zW rfl rfl (zL 0 rfl yu163 rfl rfl sz33 rfl rfl (xH rfl rfl sz33 Bn rfl rfl (allq (allq (allq alln))) rfl (fun w3 Cw3 Bn=>?_)))
  obtain ⟨LL,hn12,hm12⟩:=up3 (lc LL Cw3 hmn nFn) LL hn12 hm12
  try simp only [List.set_cons_zero,List.set_cons_succ,List.take_succ_cons,List.take_zero,List.drop_succ_cons,List.drop_zero,List.drop_nil,List.cons_append,List.nil_append,List.append_nil] at Bn
  refine zD (zF (zB (zC rfl rfl (zD (zY ?_)))))
  refine lv1 ⟨rfl,trivial⟩ ?_
  rw [hd0]
  exact ⟨rfl,LL,_,_,Bn,by rw [yW] at hn12; simpa [yW] using hn12,by simpa [jX] using hm12⟩
 ·have hd0:val ds ≠ 0:=fun c=>hc0 (by rw [c,yW]; rfl)
  have hmt:=dJ (z:=zv s xs) hd0
  rw [bB] at hmt
  refine yE (zF (zB (zA rfl rfl (zA rfl rfl (zW rfl rfl (zL 0 rfl yu163 rfl rfl sz33 rfl rfl (zL 0 rfl yu33 rfl rfl sz31 rfl rfl (jN rfl gD sz31 rfl Bn rfl rfl (zK rfl (bo func265) rfl rfl ?_)))))))))
  refine (wM hv (by omega) hM).mono ?_
  rintro v21 w4 ⟨hB21,q21,rfl,hn21⟩
  obtain ⟨LL,hM,hT,hu,Bn⟩:=ub5 hB21 LL hM hT hu Bn
  rw [bB] at hn21
  refine zW rfl rfl (zL 0 rfl yu163 rfl rfl sz33 rfl rfl (zL 0 rfl yu33 rfl rfl sz31 rfl rfl (xH rfl rfl sz31 Bn rfl rfl (allq (allq alln)) rfl (fun w5 Cw5 Bn=>?_))))
  obtain ⟨LL,hM,hT,hu,hn21⟩:=up5 (lc LL Cw5 hmn nFn) LL hM hT hu hn21
  try simp only [List.set_cons_zero,List.set_cons_succ,List.take_succ_cons,List.take_zero,List.drop_succ_cons,List.drop_zero,List.drop_nil,List.cons_append,List.nil_append,List.append_nil] at Bn
  refine zD (zF ?_)
  refine bP (R:=Rs (·=bn)) (R':=Rb) (st:=some (21,(fun w=>Blk w bn 163 [.bool (decide (zv s xs < 0)),q21,u]),(fun w=>∃ a,Blk w bn 163 [.bool (decide (zv s xs < 0)),a,u]∧IsNat M w a (limbs (val xs / Nat.gcd (val xs) (val ds)))))) mixed 22 [27,41] (by decide +kernel) bG lX (dD _) (fun _ _ _ h=>by cases h; exact ⟨by decide,Bn,fun _ _ h r=>h.below r,fun _ _ ⟨a,h1,h2⟩ r=>⟨a,h1.below r,jP _ _ _ h2 r⟩,_,rfl⟩) ?_
  apply zS rfl
  ·intro wq hR hst
   refine zV rfl rfl (zG ?_)
   have Lq:=lqb (M:=M) hR hmn nFn
   exact zA rfl rfl (on0 rfl)
  apply zS rfl
  ·intro wq hR hst
   refine zV rfl rfl (zG ?_)
   have Lq:=lqb (M:=M) hR hmn nFn
   exact zA rfl rfl (on0 rfl)
  apply zS rfl
  ·intro wq hR hst
   refine zV rfl rfl (zG ?_)
   have Lq:=lqb (M:=M) hR hmn nFn
   exact zA rfl rfl (on0 rfl)
  apply zS rfl
  ·intro wq hR hst
   refine zM rfl (zG ?_)
   have Lq:=lqb (M:=M) hR hmn nFn
   exact zW rfl rfl (on0 rfl)
  apply zS rfl
  ·intro wq hR hst
   refine zM rfl (zG ?_)
   have Lq:=lqb (M:=M) hR hmn nFn
   exact zL 0 rfl yu163 rfl rfl sz33 rfl rfl (on0 rfl)
  apply zS rfl
  ·intro wq hR hst
   refine zM rfl (zG ?_)
   have Lq:=lqb (M:=M) hR hmn nFn
   exact zL 0 rfl yu33 rfl rfl sz31 rfl rfl (on0 rfl)
  apply zS rfl
  ·intro wq hR hst
   refine zM rfl (zG ?_)
   have Lq:=lqb (M:=M) hR hmn nFn
   exact zL 1 rfl yu31 rfl rfl sz29 rfl rfl (on0 rfl)
  apply zS rfl
  ·intro wq hR hst
   refine zM rfl (zG ?_)
   have Lq:=lqb (M:=M) hR hmn nFn
   replace Bn:=(hst.2 (by decide +kernel))
   exact zN rfl yS rfl Bn rfl (on0 rfl)
  apply zS rfl
  ·intro wq hR hst
   refine zV rfl rfl (zG ?_)
   have Lq:=lqb (M:=M) hR hmn nFn
   exact zA rfl rfl (on0 rfl)
  apply zS rfl
  ·intro wq hR hst
   refine zM rfl (zG ?_)
   have Lq:=lqb (M:=M) hR hmn nFn
   exact zW rfl rfl (on0 rfl)
  apply zS rfl
  ·intro wq hR hst
   refine zM rfl (zG ?_)
   have Lq:=lqb (M:=M) hR hmn nFn
   exact zL 0 rfl yu163 rfl rfl sz33 rfl rfl (on0 rfl)
  apply zS rfl
  ·intro wq hR hst
   refine zM rfl (zG ?_)
   have Lq:=lqb (M:=M) hR hmn nFn
   exact zL 2 rfl yu33 rfl rfl sz29 rfl rfl (on0 rfl)
  apply zS rfl
  ·intro wq hR hst
   refine zM rfl (zG ?_)
   have Lq:=lqb (M:=M) hR hmn nFn
   replace Bn:=(hst.2 (by decide +kernel))
   exact zN rfl yS rfl Bn rfl (on0 rfl)
  refine gI rfl (fun v w=>∃ a d,v = .tuple #[a,d]∧IsNat M w a (limbs (val xs / Nat.gcd (val xs) (val ds)))∧IsNat M w d (limbs (val ds / Nat.gcd (val xs) (val ds)))) (fun _ _ _ ⟨a,d,h1,h2,h3⟩ r=>⟨a,d,h1,h2.rs r (by rintro _ rfl; exact hmn),h3.rs r (by rintro _ rfl; exact hmn)⟩) (fun wq hR hst=>?_) ?_
  ·refine zM rfl (zM rfl (zG ?_))
   have Lq:=lqb (M:=M) hR hmn nFn
   obtain ⟨hM,hT,hu,hn21⟩:=up4 Lq hM hT hu hn21
   refine zK rfl (bo func266) rfl rfl ?_
   refine (reduce_c hT hn21 hu (by omega) (by omega) hM).mono ?_
   rintro v39 w6 ⟨hB39,q39,s39,rfl,hn39,hm39⟩
   rw [zP] at hn39 hm39
   exact on1 hB39 rfl ⟨_,_,rfl,hn39,hm39⟩
  refine gI rfl (fun v w=>∃ a d,v = .tuple #[a,d]∧IsNat M w a (limbs (val xs / Nat.gcd (val xs) (val ds)))∧IsNat M w d (limbs (val ds / Nat.gcd (val xs) (val ds)))) (fun _ _ _ ⟨a,d,h1,h2,h3⟩ r=>⟨a,d,h1,h2.rs r (by rintro _ rfl; exact hmn),h3.rs r (by rintro _ rfl; exact hmn)⟩) (fun wq hR hst=>?_) ?_
  ·refine xY rfl (fun v39 hn39=>?_)
   refine zG ?_
   have Lq:=lqb (M:=M) hR hmn nFn
   obtain ⟨a,d,rfl,ha,hd⟩:=hn39
   exact zA rfl rfl (zD ⟨rfl,xJ _,_,rfl,⟨_,_,rfl,ha,hd⟩⟩)
  refine gI rfl (fun v w=>IsNat M w v (limbs (val xs / Nat.gcd (val xs) (val ds)))) (fun _ _ _ h r=>h.rs r (by rintro _ rfl; exact hmn)) (fun wq hR hst=>?_) ?_
  ·refine xY rfl (fun v25 hn25=>?_)
   refine zG ?_
   have Lq:=lqb (M:=M) hR hmn nFn
   obtain ⟨a,d,rfl,ha,hd⟩:=hn25
   exact yM rfl rfl rfl (zD ⟨rfl,xJ _,_,rfl,ha⟩)
  refine gI rfl (fun v w=>IsNat M w v (limbs (val ds / Nat.gcd (val xs) (val ds)))) (fun _ _ _ h r=>h.rs r (by rintro _ rfl; exact hmn)) (fun wq hR hst=>?_) ?_
  ·refine xY rfl (fun v25 hn25=>?_)
   refine zG ?_
   have Lq:=lqb (M:=M) hR hmn nFn
   obtain ⟨a,d,rfl,ha,hd⟩:=hn25
   exact yM rfl rfl rfl (zD ⟨rfl,xJ _,_,rfl,hd⟩)
  apply zS rfl
  ·intro wq hR hst
   refine zM rfl (zG ?_)
   have Lq:=lqb (M:=M) hR hmn nFn
   exact zW rfl rfl (on0 rfl)
  apply zS rfl
  ·intro wq hR hst
   refine zM rfl (zG ?_)
   have Lq:=lqb (M:=M) hR hmn nFn
   exact zL 0 rfl yu163 rfl rfl sz33 rfl rfl (on0 rfl)
  apply zS rfl
  ·intro wq hR hst
   refine zM rfl (zG ?_)
   have Lq:=lqb (M:=M) hR hmn nFn
   exact zL 0 rfl yu33 rfl rfl sz31 rfl rfl (on0 rfl)
  apply zS rfl
  ·intro wq hR hst
   refine zM rfl (zG ?_)
   have Lq:=lqb (M:=M) hR hmn nFn
   exact zL 1 rfl yu31 rfl rfl sz29 rfl rfl (on0 rfl)
  refine fD rfl (fun wq hR hp=>?_) ?_
  ·refine zM rfl (xY rfl (fun v40 hn40=>?_))
   refine zG ?_
   have Lq:=lqb (M:=M) hR hmn nFn
   replace Bn:=hp
   refine xZ (i:=1) rfl rfl sz29 Bn (by first | rfl | exact yU (by assumption) | assumption | exact yQ (by assumption)) (by simp) (fun w7 Cw7 Bn=>?_)
   exact zD ⟨rfl,dE Cw7,_,Bn,hn40.rs (dE Cw7) (by rintro _ rfl; exact hmn)⟩
  refine gB (fun wq5 hR5 hpost5=>?_)
  refine zM rfl (xY rfl (fun v41 hn41=>?_))
  refine zG ?_
  simp only [qZ,qY,qX,qW]
  have Lq:=lqb (M:=M) hR5 hmn nFn
  replace LL:=LL.trans Lq
  obtain ⟨a40,Bn,hn45⟩:=hpost5 _ _ _ rfl
  refine zW rfl rfl (zL 0 rfl yu163 rfl rfl sz33 rfl rfl (zL 2 rfl yu33 rfl rfl sz29 rfl rfl (xZ (i:=2) rfl rfl sz29 Bn (by first | rfl | exact yU (by assumption) | assumption | exact yQ (by assumption)) (by simp) (fun w8 Cw8 Bn=>?_))))
  obtain ⟨LL,hn41,hn45⟩:=up3 (lc LL Cw8 hmn nFn) LL hn41 hn45
  refine zD (zF (zB (zC rfl rfl (zD (zY ?_)))))
  refine lv1 ⟨rfl,trivial⟩ ?_
  rw [hmt.1,hmt.2.1,hmt.2.2,decide_eq_true hd0]
  exact ⟨rfl,LL,_,_,Bn,hn45,hn41⟩
theorem num_len {s:Bool} {xs ds:List Nat} (h1:∀ x ∈ xs,x < 4294967296) (h2:∀ x ∈ ds,x < 4294967296):(limbs (mkRat (zv s xs) (val ds)).num.natAbs).length≤xs.length∧(limbs (mkRat (zv s xs) (val ds)).den).length≤ds.length + 1:=by
  by_cases hd:val ds=0
  · rw [hd]; simp [yW,jX]
  · have h:=dJ (z:=zv s xs) hd
    rw [bB] at h
    rw [h.2.1,h.2.2]
    exact ⟨Nat.le_trans (yG (Nat.div_le_self _ _)) (yC xs h1),Nat.le_succ_of_le (Nat.le_trans (yG (Nat.div_le_self _ _)) (yC ds h2))⟩
theorem rmulp_c {Fz M:Nat→Prop} {w:World} {bn ba:Nat} {p q:Rat} {v u v2 u2:Value} (hT:Tab M w) (Bn:Blk w bn 163 [.bool (decide (p.num < 0)),v,u]) (hv:IsNat M w v (limbs p.num.natAbs)) (hu:IsNat M w u (limbs p.den)) (hka:KBlk M w ba 163 [.bool (decide (q.num < 0)),v2,u2]) (hvq:IsNat M w v2 (limbs q.num.natAbs)) (huq:IsNat M w u2 (limbs q.den))
    (hl1:(limbs p.num.natAbs).length≤400000) (hl2:(limbs p.den).length≤400000) (hl3:(limbs q.num.natAbs).length≤400000) (hl4:(limbs q.den).length≤400000) (hmn:M bn) (nFn:¬ Fz bn) (hF:FOk Fz w) (hM:OkM M w) :
    CallsV prog 231 [.pointer (some ⟨bn,0,none⟩),.pointer (some ⟨ba,0,none⟩)] w fun r w'=>Le Fz M w M w'∧∃ a d,Blk w' bn 163 [.bool (decide ((p * q).num < 0)),a,d]∧IsNat M w' a (limbs (p * q).num.natAbs)∧IsNat M w' d (limbs (p * q).den):=by
 have Ba:=hka.blk
 have nea_n:ba ≠ bn:=fun e=>hka.not (e ▸ hmn)
 have hzd:∀ n,zv false (limbs n)=((n:Nat):Int):=fun n=>by simp [zv,zP]
 obtain ⟨K,hK⟩:∃ K:Nat,K=400000:=⟨_,rfl⟩
 rw [← hK] at hl1 hl2 hl3 hl4
 have hz1:kM [(decide (p.num < 0),limbs p.num.natAbs),(decide (q.num < 0),limbs q.num.natAbs)]=p.num * q.num:=by unfold kM; simp only [List.foldl_cons,List.foldl_nil,bO,Int.one_mul]
 have hmk:mkRat (p.num * q.num) (p.den * q.den)=p * q:=by
   conv=>rhs; rw [← Rat.mkRat_self p,← Rat.mkRat_self q]
   rw [Rat.mkRat_mul_mkRat]
 have LL:=Le.refl Fz M w
 refine jL func231 rfl ntmps231 rfl ?_
 refine zF ?_
 refine bP (R:=Rs (·=bn)) (R':=Rb) (st:=some (28,(fun w=>Blk w bn 163 [.bool (decide (p.num < 0)),v,u]),(fun w=>∃ a,Blk w bn 163 [.bool (decide (p.num * q.num < 0)),a,u]∧IsNat M w a (limbs (p.num * q.num).natAbs)))) mixed 29 [0,5,28] (eL (by decide +kernel)) bG lX (dD _) (fun _ _ _ h=>by cases h; exact ⟨by decide,Bn,fun _ _ h r=>h.below r,fun _ _ ⟨a,h1,h2⟩ r=>⟨a,h1.below r,jP _ _ _ h2 r⟩,_,rfl⟩) ?_
 apply zS rfl
 ·intro wq hR hst
  refine zV rfl rfl (zG ?_)
  have Lq:=lqb (M:=M) hR hmn nFn
  replace Ba:=Ba.rs hR nea_n
  exact zA rfl rfl (on0 rfl)
 apply zS rfl
 ·intro wq hR hst
  refine zV rfl rfl (zG ?_)
  have Lq:=lqb (M:=M) hR hmn nFn
  replace Ba:=Ba.rs hR nea_n
  exact zA rfl rfl (on0 rfl)
 apply zS rfl
 ·intro wq hR hst
  refine zV rfl rfl (zG ?_)
  have Lq:=lqb (M:=M) hR hmn nFn
  replace Ba:=Ba.rs hR nea_n
  exact zA rfl rfl (on0 rfl)
 apply zS rfl
 ·intro wq hR hst
  refine zM rfl (zG ?_)
  have Lq:=lqb (M:=M) hR hmn nFn
  replace Ba:=Ba.rs hR nea_n
  exact zW rfl rfl (on0 rfl)
 apply zS rfl
 ·intro wq hR hst
  refine zM rfl (zG ?_)
  have Lq:=lqb (M:=M) hR hmn nFn
  replace Ba:=Ba.rs hR nea_n
  exact zL 0 rfl yu163 rfl rfl sz33 rfl rfl (on0 rfl)
 apply zS rfl
 ·intro wq hR hst
  refine zM rfl (zG ?_)
  have Lq:=lqb (M:=M) hR hmn nFn
  replace Ba:=Ba.rs hR nea_n
  exact zL 0 rfl yu33 rfl rfl sz31 rfl rfl (on0 rfl)
 apply zS rfl
 ·intro wq hR hst
  refine zM rfl (zG ?_)
  have Lq:=lqb (M:=M) hR hmn nFn
  replace Ba:=Ba.rs hR nea_n
  replace Bn:=(hst.2 (by decide +kernel))
  exact jN rfl gD sz31 rfl Bn rfl rfl (on0 rfl)
 apply zS rfl
 ·intro wq hR hst
  refine zV rfl rfl (zG ?_)
  have Lq:=lqb (M:=M) hR hmn nFn
  replace Ba:=Ba.rs hR nea_n
  exact zA rfl rfl (on0 rfl)
 apply zS rfl
 ·intro wq hR hst
  refine zM rfl (zG ?_)
  have Lq:=lqb (M:=M) hR hmn nFn
  replace Ba:=Ba.rs hR nea_n
  exact zW rfl rfl (on0 rfl)
 apply zS rfl
 ·intro wq hR hst
  refine zM rfl (zG ?_)
  have Lq:=lqb (M:=M) hR hmn nFn
  replace Ba:=Ba.rs hR nea_n
  exact zL 0 rfl yu163 rfl rfl sz33 rfl rfl (on0 rfl)
 apply zS rfl
 ·intro wq hR hst
  refine zM rfl (zG ?_)
  have Lq:=lqb (M:=M) hR hmn nFn
  replace Ba:=Ba.rs hR nea_n
  exact zL 0 rfl yu33 rfl rfl sz31 rfl rfl (on0 rfl)
 apply zS rfl
 ·intro wq hR hst
  refine zM rfl (zG ?_)
  have Lq:=lqb (M:=M) hR hmn nFn
  replace Ba:=Ba.rs hR nea_n
  exact jN rfl gD sz31 rfl Ba rfl rfl (on0 rfl)
 refine gI rfl (fun v w=>IsInts M w v [(decide (p.num < 0),limbs p.num.natAbs),(decide (q.num < 0),limbs q.num.natAbs)]) (fun _ _ _ h r=>h.mono (Fz:=fun _=>False) (Le.of_rs r (by rintro _ rfl; exact hmn) (fun _ _ h=>h))) (fun wq hR hst=>?_) ?_
 ·refine zM rfl (zM rfl (zG ?_))
  have Lq:=lqb (M:=M) hR hmn nFn
  obtain ⟨hM,hv,hvq⟩:=up3 Lq hM hv hvq
  replace Ba:=Ba.rs hR nea_n
  refine uR rfl underlying149 sz31 rfl rfl rfl rfl (jB rfl (jB rfl qD)) rfl rfl rfl (fun w1 b16 N16=>?_)
  have hBw1:=N16.below
  have nM16:=hM.new N16
  have B16:=N16.blk
  obtain ⟨hv,hvq,Ba⟩:=ub3 hBw1 hv hvq Ba
  have hn16:IsInts M w1 (.slice (some ⟨b16,0,none⟩) 2 2) [(decide (p.num < 0),limbs p.num.natAbs),(decide (q.num < 0),limbs q.num.natAbs)]:=ints2 B16 nM16 hv hvq
  have hB16:=hBw1
  exact on1 hB16 rfl hn16
 refine gI rfl (fun v w=>∃ c,v = .agg #[.bool (decide (p.num * q.num < 0)),c]∧IsNat M w c (limbs (p.num * q.num).natAbs)) (fun _ _ _ ⟨q,h1,h2⟩ r=>⟨q,h1,h2.rs r (by rintro _ rfl; exact hmn)⟩) (fun wq hR hst=>?_) ?_
 ·refine xY rfl (fun v16 hn16=>?_)
  refine zG ?_
  have Lq:=lqb (M:=M) hR hmn nFn
  replace hM:=hM.mono Lq
  replace Ba:=Ba.rs hR nea_n
  refine zK rfl (bo func157) rfl rfl ?_
  refine (zM7 (L:=400000) hn16 (by intro x hx; rcases List.mem_cons.1 hx with rfl | hx; exact gP _; rcases List.mem_cons.1 hx with rfl | hx; exact gP _; cases hx) (by intro x hx; rcases List.mem_cons.1 hx with rfl | hx; dsimp only; omega; rcases List.mem_cons.1 hx with rfl | hx; dsimp only; omega; cases hx) ⟨by simp,by omega⟩ hM).mono ?_
  rintro v17 w2 ⟨hB17,q17,rfl,hn17⟩
  replace Ba:=Ba.below hB17
  rw [hz1]; rw [hz1] at hn17
  exact on1 hB17 rfl ⟨_,rfl,hn17⟩
 apply zS rfl
 ·intro wq hR hst
  refine zV rfl rfl (zG ?_)
  have Lq:=lqb (M:=M) hR hmn nFn
  replace Ba:=Ba.rs hR nea_n
  exact zA rfl rfl (on0 rfl)
 apply zS rfl
 ·intro wq hR hst
  refine zM rfl (zG ?_)
  have Lq:=lqb (M:=M) hR hmn nFn
  replace Ba:=Ba.rs hR nea_n
  exact zW rfl rfl (on0 rfl)
 apply zS rfl
 ·intro wq hR hst
  refine zM rfl (zG ?_)
  have Lq:=lqb (M:=M) hR hmn nFn
  replace Ba:=Ba.rs hR nea_n
  exact zL 0 rfl yu163 rfl rfl sz33 rfl rfl (on0 rfl)
 apply zS rfl
 ·intro wq hR hst
  refine zM rfl (zG ?_)
  have Lq:=lqb (M:=M) hR hmn nFn
  replace Ba:=Ba.rs hR nea_n
  exact zL 2 rfl yu33 rfl rfl sz29 rfl rfl (on0 rfl)
 apply zS rfl
 ·intro wq hR hst
  refine zM rfl (zG ?_)
  have Lq:=lqb (M:=M) hR hmn nFn
  replace Ba:=Ba.rs hR nea_n
  replace Bn:=(hst.2 (by decide +kernel))
  exact zN rfl yS rfl Bn rfl (on0 rfl)
 apply zS rfl
 ·intro wq hR hst
  refine zV rfl rfl (zG ?_)
  have Lq:=lqb (M:=M) hR hmn nFn
  replace Ba:=Ba.rs hR nea_n
  exact zA rfl rfl (on0 rfl)
 apply zS rfl
 ·intro wq hR hst
  refine zM rfl (zG ?_)
  have Lq:=lqb (M:=M) hR hmn nFn
  replace Ba:=Ba.rs hR nea_n
  exact zW rfl rfl (on0 rfl)
 apply zS rfl
 ·intro wq hR hst
  refine zM rfl (zG ?_)
  have Lq:=lqb (M:=M) hR hmn nFn
  replace Ba:=Ba.rs hR nea_n
  exact zL 0 rfl yu163 rfl rfl sz33 rfl rfl (on0 rfl)
 apply zS rfl
 ·intro wq hR hst
  refine zM rfl (zG ?_)
  have Lq:=lqb (M:=M) hR hmn nFn
  replace Ba:=Ba.rs hR nea_n
  exact zL 2 rfl yu33 rfl rfl sz29 rfl rfl (on0 rfl)
 apply zS rfl
 ·intro wq hR hst
  refine zM rfl (zG ?_)
  have Lq:=lqb (M:=M) hR hmn nFn
  replace Ba:=Ba.rs hR nea_n
  exact zN rfl yS rfl Ba rfl (on0 rfl)
 refine gI rfl (fun v w=>IsNat M w v (limbs (p.den * q.den))) (fun _ _ _ h r=>h.rs r (by rintro _ rfl; exact hmn)) (fun wq hR hst=>?_) ?_
 ·refine zM rfl (zM rfl (zG ?_))
  obtain ⟨LL,hM,hu,huq⟩:=up4 (lqc LL hR hmn nFn) LL hM hu huq
  replace Ba:=Ba.rs hR nea_n
  refine zK rfl (bo func230) rfl rfl ?_
  refine (zT2 hu huq (by omega) (by omega) hM).mono ?_
  rintro v28 w3 ⟨hB28,hf28⟩
  have hM28:=hM
  have hS28:=LL.size
  replace Ba:=Ba.below hB28
  rw [zP,zP] at hf28
  have hn28:=hf28.nat hM28
  exact on1 hB28 rfl hn28
 apply zS rfl
 ·intro wq hR hst
  refine zM rfl (zG ?_)
  have Lq:=lqb (M:=M) hR hmn nFn
  replace Ba:=Ba.rs hR nea_n
  exact zW rfl rfl (on0 rfl)
 apply zS rfl
 ·intro wq hR hst
  refine zM rfl (zG ?_)
  have Lq:=lqb (M:=M) hR hmn nFn
  replace Ba:=Ba.rs hR nea_n
  exact zL 0 rfl yu163 rfl rfl sz33 rfl rfl (on0 rfl)
 apply zS rfl
 ·intro wq hR hst
  refine zM rfl (zG ?_)
  have Lq:=lqb (M:=M) hR hmn nFn
  replace Ba:=Ba.rs hR nea_n
  exact zL 0 rfl yu33 rfl rfl sz31 rfl rfl (on0 rfl)
 refine fD rfl (fun wq hR hp=>?_) ?_
 ·refine zM rfl (xY rfl (fun v17 hn17=>?_))
  refine zG ?_
  have Lq:=lqb (M:=M) hR hmn nFn
  replace Ba:=Ba.rs hR nea_n
  replace Bn:=hp
  obtain ⟨q17,rfl,hn17x⟩:=hn17
  refine xH rfl rfl sz31 Bn rfl rfl (allq (allq alln)) rfl (fun w4 Cw4 Bn=>?_)
  replace Ba:=Ba.other Cw4 nea_n
  try simp only [List.set_cons_zero,List.set_cons_succ,List.take_succ_cons,List.take_zero,List.drop_succ_cons,List.drop_zero,List.drop_nil,List.cons_append,List.nil_append,List.append_nil] at Bn
  exact zD ⟨rfl,dE Cw4,_,Bn,hn17x.rs (dE Cw4) (by rintro _ rfl; exact hmn)⟩
 refine gB (fun wq0 hR0 hpost0=>?_)
 refine zV rfl rfl (zM rfl (xY rfl (fun v28 hn28=>?_)))
 refine zG ?_
 simp only [qZ,qY,qX,qW]
 obtain ⟨LL,hM,hT⟩:=up3 (lqc LL hR0 hmn nFn) LL hM hT
 replace Ba:=Ba.rs hR0 nea_n
 obtain ⟨a45,Bn,hn45⟩:=hpost0 _ _ _ rfl
 refine zW rfl rfl (zL 0 rfl yu163 rfl rfl sz33 rfl rfl (zL 2 rfl yu33 rfl rfl sz29 rfl rfl (xZ (i:=2) rfl rfl sz29 Bn (by first | rfl | exact yU (by assumption) | assumption | exact yQ (by assumption)) (by simp) (fun w5 Cw5 Bn=>?_))))
 obtain ⟨LL,hM,hT,hn28,hn45⟩:=up5 (lc LL Cw5 hmn nFn) LL hM hT hn28 hn45
 replace Ba:=Ba.other Cw5 nea_n
 refine zD (zB (zA rfl rfl (zK rfl (bo func209) rfl rfl ?_)))
 refine (rH (Fz:=NB _ bn) (M:=M) hT Bn hn45 hn28 (by have:=aR (yP hl1) (yP hl3); rw [Int.natAbs_mul]; omega) (by have:=aR (yP hl2) (yP hl4); omega) hmn eJ mA hM).mono ?_
 rintro v36 w6 ⟨rfl,Lqw6,a36,d36,Bn2,hn36,hm36⟩
 have Lw6:=Lqw6.refz nFn
 replace LL:=LL.trans Lw6
 replace Ba:=Ba.nb Lqw6 nea_n
 clear Bn; have Bn:=Bn2
 rw [bO,zP,hmk] at Bn hn36 hm36
 refine zD ?_
 refine xF ⟨[],trivial,?_⟩
 dsimp only [xG]
 exact ⟨LL,_,_,Bn,hn36,hm36⟩
def rlen (q:Rat) (A:Nat):Prop:=(limbs q.num.natAbs).length≤A∧(limbs q.den).length≤A
theorem rI {z:Int} {d A:Nat} (h1:z.natAbs < 4294967296 ^ A) (h2:d < 4294967296 ^ A) (hd:d ≠ 0):rlen (mkRat z d) A:=by
  have h:=dJ (z:=z) hd
  unfold rlen
  rw [h.2.1,h.2.2]
  exact ⟨yJ (Nat.lt_of_le_of_lt (Nat.div_le_self _ _) h1),yJ (Nat.lt_of_le_of_lt (Nat.div_le_self _ _) h2)⟩
theorem xS {q:Rat} {A B:Nat} (h:rlen q A) (hAB:A≤B):rlen q B:=⟨Nat.le_trans h.1 hAB,Nat.le_trans h.2 hAB⟩
theorem uM {p q:Rat} {A B:Nat} (h1:rlen p A) (h2:rlen q B):rlen (p + q) (A + B + 1):=by
  have e:p + q=mkRat (p.num * q.den + q.num * p.den) (p.den * q.den):=by
    conv=>lhs; rw [← Rat.mkRat_self p,← Rat.mkRat_self q]
    rw [Rat.mkRat_add_mkRat _ _ p.den_nz q.den_nz]
  rw [e]
  have a1:=yP h1.1
  have a2:=yP h1.2
  have a3:=yP h2.1
  have a4:=yP h2.2
  refine rI ?_ ?_ (Nat.mul_ne_zero p.den_nz q.den_nz)
  · refine Nat.lt_of_le_of_lt (Int.natAbs_add_le _ _) (dP ?_ ?_)
    · rw [Int.natAbs_mul,Int.natAbs_natCast]; exact jU a1 a4
    · rw [Int.natAbs_mul,Int.natAbs_natCast,Nat.add_comm]; exact jU a3 a2
  · exact Nat.lt_of_lt_of_le (jU a2 a4) (Nat.pow_le_pow_right (by omega) (by omega))
theorem bH {p q:Rat} {A B:Nat} (h1:rlen p A) (h2:rlen q B):rlen (p * q) (A + B):=by
  have e:p * q=mkRat (p.num * q.num) (p.den * q.den):=by
    conv=>lhs; rw [← Rat.mkRat_self p,← Rat.mkRat_self q]
    rw [Rat.mkRat_mul_mkRat]
  rw [e]
  have a1:=yP h1.1
  have a2:=yP h1.2
  have a3:=yP h2.1
  have a4:=yP h2.2
  refine rI ?_ (jU a2 a4) (Nat.mul_ne_zero p.den_nz q.den_nz)
  rw [Int.natAbs_mul]; exact jU a1 a3
theorem eC {p:Rat} {A:Nat} (h:rlen p A):rlen (-p) A:=by unfold rlen; rw [Rat.neg_num,Rat.neg_den,Int.natAbs_neg]; exact h
theorem pA:rlen 0 1:=⟨by simp [yW],by simp [jX]⟩
theorem floor_pos {z:Int} {d:Nat} (h:¬ z < 0):zv (decide (z < 0)) (limbs (z.natAbs / d))=z / (d:Int):=by
  obtain ⟨n,rfl⟩:=Int.eq_ofNat_of_zero_le (Int.not_lt.1 h)
  rw [decide_eq_false h,zv,zP]; simp
theorem floor_neg {z:Int} {d:Nat} (hd:d ≠ 0) (h:z < 0) (hr:¬ 0 < z.natAbs % d):zv (decide (z < 0)) (limbs (z.natAbs / d))=z / (d:Int):=by
  rw [decide_eq_true h,zv,zP,if_pos rfl]
  obtain ⟨n,hn⟩:∃ n:Nat,z = -(n:Int):=⟨z.natAbs,by omega⟩
  subst hn
  rw [Int.natAbs_neg,Int.natAbs_natCast] at hr ⊢
  have e:=Nat.div_add_mod n d
  have e2:((d * (n / d):Nat):Int)=(n:Int):=by congr 1; omega
  rw [Int.natCast_mul] at e2
  have:=(Int.ediv_emod_unique (a:=-(n:Int)) (b:=(d:Int)) (r:=0) (q:=-((n / d:Nat):Int)) (by omega)).2 ⟨by rw [Int.mul_neg,e2]; omega,by omega,by omega⟩
  exact this.1.symm
theorem floor_up {z:Int} {d:Nat} (hd:d ≠ 0) (h:z < 0) (hr:0 < z.natAbs % d):zv (decide (z < 0)) (limbs (z.natAbs / d + 1))=z / (d:Int):=by
  rw [decide_eq_true h,zv,zP,if_pos rfl]
  obtain ⟨n,hn⟩:∃ n:Nat,z = -(n:Int):=⟨z.natAbs,by omega⟩
  subst hn
  rw [Int.natAbs_neg,Int.natAbs_natCast] at hr ⊢
  have e:=Nat.div_add_mod n d
  have hlt:=Nat.mod_lt n (Nat.pos_of_ne_zero hd)
  have e2:((d:Nat):Int) * ((n / d:Nat):Int)=(n:Int) - ((n % d:Nat):Int):=by
    have:((d * (n / d) + n % d:Nat):Int)=(n:Int):=by rw [e]
    rw [Int.natCast_add,Int.natCast_mul] at this; omega
  have:=(Int.ediv_emod_unique (a:=-(n:Int)) (b:=(d:Int)) (r:=(d:Int) - ((n % d:Nat):Int)) (q:=-((n / d + 1:Nat):Int)) (by omega)).2 ⟨by rw [Int.natCast_add,Int.mul_neg,Int.mul_add,e2]; simp; omega,by omega,by omega⟩
  exact this.1.symm
structure QC (M:Nat→Prop) (w:World) (n:Nat) (q:Rat) (s:Bool) (a d:Value):Prop where
  ex:∃ xs ds,IsNat M w a xs∧IsNat M w d ds∧xs.length≤n∧ds.length≤n∧mkRat (zv s xs) (val ds)=q
structure RC (M:Nat→Prop) (w:World) (n:Nat) (q:Rat) (s:Bool) (a d:Value):Prop where
  sgn:s=decide (q.num < 0)
  num:IsNat M w a (limbs q.num.natAbs)
  den:IsNat M w d (limbs q.den)
  len:rlen q n
section
variable {Fz M M' T S : Nat → Prop} {w w' : World} {n m k : Nat} {q : Rat} {s : Bool} {a d : Value}
theorem QC.mono (h:QC M w n q s a d) (l:Le Fz M w M' w'):QC M' w' n q s a d:=by
  obtain ⟨xs,ds,h1,h2,h3⟩:=h.ex; exact ⟨xs,ds,h1.mono l,h2.mono l,h3⟩
theorem QC.up (h:QC M w n q s a d) (hm:n≤m):QC M w m q s a d:=by
  obtain ⟨xs,ds,h1,h2,h3,h4,h5⟩:=h.ex; exact ⟨xs,ds,h1,h2,by omega,by omega,h5⟩
theorem QC.rlen (h:QC M w n q s a d):rlen q (n + 1):=by
  obtain ⟨xs,ds,h1,h2,h3,h4,rfl⟩:=h.ex
  have:=num_len (s:=s) h1.lt h2.lt
  exact ⟨by omega,by omega⟩
theorem QC.sl (h:QC M w n q s a d):(∃ x i j,a = .slice x i j)∧∃ x i j,d = .slice x i j:=by
  obtain ⟨xs,ds,h1,h2,h3⟩:=h.ex
  obtain ⟨_,_,ad,cap,rfl,_⟩:=h1.slc
  obtain ⟨_,_,ad2,cap2,rfl,_⟩:=h2.slc
  exact ⟨⟨_,_,_,rfl⟩,_,_,_,rfl⟩
theorem QC.one (h:QC M w n q s a d):a.oneCell'=true∧d.oneCell'=true∧True:=by
  obtain ⟨⟨_,_,_,rfl⟩,_,_,_,rfl⟩:=h.sl; exact ⟨rfl,rfl,trivial⟩
theorem RC.mono (h:RC M w n q s a d) (l:Le Fz M w M' w'):RC M' w' n q s a d:=⟨h.sgn,h.num.mono l,h.den.mono l,h.len⟩
theorem RC.less (h:RC M w n q s a d) (hm:∀ k,M' k→M k):RC M' w n q s a d:=h.mono (Fz:=fun _=>False) (Le.less hm)
theorem RC.up (h:RC M w n q s a d) (hm:n≤m):RC M w m q s a d:=⟨h.sgn,h.num,h.den,xS h.len hm⟩
theorem RC.gen (h:RC M w n q s a d):QC M w n q s a d:=⟨_,_,h.num,h.den,h.len.1,h.len.2,by rw [h.sgn,bO,zP,Rat.mkRat_self]⟩
theorem RC.one (h:RC M w n q s a d):a.oneCell'=true∧d.oneCell'=true∧True:=h.gen.one
end
def RV (M:Nat→Prop) (n:Nat) (q:Rat):VP:=fun v w=>∃ s a d,v = .agg #[.bool s,a,d]∧RC M w n q s a d
theorem zR9 {n:Nat} (hn:n < 9223372036854775808) (hM:OkM M w):CallsV prog 128 [.int .i64 (n:Int)] w fun r w'=>Bel w.heap.size w w'∧RV M 2 (n:Rat) r w':=by
  have e0:((n:Nat):Rat).num=(n:Int):=rfl
  have e1:((n:Nat):Rat).den=1:=rfl
  exact (wD hn hM).mono fun r w' ⟨hB,x,y,e,k1,k2⟩=>⟨hB,false,x,y,e,by rw [e0]; exact (decide_eq_false (by omega)).symm,by rw [e0]; exact k1,by rw [e1,jX]; exact k2,by
    unfold rlen; rw [e0,e1,jX]; exact ⟨yJ (by simp; omega),by simp⟩⟩
end
end Go.Proofs.YtflobagimodmgaaGreatDoor
namespace Go.Proofs.YtflobagimodmgaaGreatDoor
open Go Go.SL Go.RowKit Tryz
section
variable {Fz M M' : Nat → Prop} {w w' : World}
instance {n:Nat} {q:Rat} {s:Bool} {a d:Value}:Up Fz M M' w w' (QC M w n q s a d) (QC M' w' n q s a d):=⟨fun l h=>h.mono l⟩
instance {n:Nat} {q:Rat} {s:Bool} {a d:Value}:UpB w w' (QC M w n q s a d) (QC M w' n q s a d):=⟨fun l h=>h.mono (lb l)⟩
instance {n:Nat} {q:Rat} {s:Bool} {a d:Value}:Up Fz M M' w w' (RC M w n q s a d) (RC M' w' n q s a d):=⟨fun l h=>h.mono l⟩
instance {n:Nat} {q:Rat} {s:Bool} {a d:Value}:UpB w w' (RC M w n q s a d) (RC M w' n q s a d):=⟨fun l h=>h.mono (lb l)⟩
abbrev vRC (M:Nat→Prop) (n:Nat) (q:Rat):VP:=fun v w=>∃ s a d,v = .agg #[.bool s,a,d]∧RC M w n q s a d
theorem vRC_m {M:Nat→Prop} {n:Nat} {q:Rat}:∀ v (w w':World),vRC M n q v w→Rb w w'→vRC M n q v w':=fun _ _ _ ⟨s,a,d,hq,h0⟩ r=>⟨s,a,d,hq,h0.mono (Fz:=fun _=>False) (Le.of_below r)⟩
abbrev vQC (M:Nat→Prop) (n:Nat) (q:Rat):VP:=fun v w=>∃ s a d,v = .agg #[.bool s,a,d]∧QC M w n q s a d
theorem vQC_m {M:Nat→Prop} {n:Nat} {q:Rat}:∀ v (w w':World),vQC M n q v w→Rb w w'→vQC M n q v w':=fun _ _ _ ⟨s,a,d,hq,h0⟩ r=>⟨s,a,d,hq,h0.mono (Fz:=fun _=>False) (Le.of_below r)⟩
end
end Go.Proofs.YtflobagimodmgaaGreatDoor
namespace Go.Proofs.YtflobagimodmgaaGreatDoor
open Go.SL Go.RowKit Go.Proofs Tryz
section
variable {M : Nat → Prop} {w : World}
theorem zS3 (p q:Rat):mkRat (p.num * zv (decide (q.num < 0)) (limbs q.den)) (p.den * q.num.natAbs)=p / q:=by
  rw [Rat.mkRat_eq_div]
  have e1:=bM p
  have e2:=bM q
  have d1:(p.den:Rat) ≠ 0:=fun c=>p.den_nz (Rat.natCast_inj.1 (show ((p.den:Nat):Rat)=((0:Nat):Rat) from c))
  have d2:(q.den:Rat) ≠ 0:=fun c=>q.den_nz (Rat.natCast_inj.1 (show ((q.den:Nat):Rat)=((0:Nat):Rat) from c))
  rw [Rat.intCast_mul,Rat.natCast_mul]
  by_cases h:q.num < 0
  · have f:((q.num.natAbs:Nat):Rat) = -(q.num:Rat):=by
      rw [← Rat.intCast_neg,← Int.natAbs_neg]
      have:(((-q.num).natAbs:Nat):Int) = -q.num:=by omega
      rw [← this]; rfl
    rw [f,decide_eq_true h,zv,if_pos rfl,zP,Rat.intCast_neg]
    have g:(((q.den:Nat):Int):Rat)=(q.den:Rat):=rfl
    rw [g]
    have hn:(q.num:Rat) ≠ 0:=by
      intro c
      have:((q.num:Int):Rat)=((0:Int):Rat):=c
      have:=Rat.intCast_inj.1 this
      omega
    grind
  · have f:((q.num.natAbs:Nat):Rat)=(q.num:Rat):=by
      have:((q.num.natAbs:Nat):Int)=q.num:=by omega
      rw [show ((q.num.natAbs:Nat):Rat)=(((q.num.natAbs:Nat):Int):Rat) from rfl,this]
    rw [f,decide_eq_false h,zv,if_neg (by simp),zP]
    have g:(((q.den:Nat):Int):Rat)=(q.den:Rat):=rfl
    rw [g]
    by_cases h0:q.num=0
    · have hq:q=0:=by rw [← Rat.num_eq_zero]; exact h0
      subst hq; simp [Rat.div_def]
    · have hn:(q.num:Rat) ≠ 0:=by
        intro c
        have:((q.num:Int):Rat)=((0:Int):Rat):=c
        exact h0 (Rat.intCast_inj.1 this)
      grind
theorem quo_zero (p q:Rat):(p.den * q.num.natAbs=0)=(q=0):=by
  apply propext
  rw [Nat.mul_eq_zero]
  constructor
  · intro h
    rcases h with h | h
    · exact absurd h p.den_nz
    · rw [← Rat.num_eq_zero]; omega
  · intro h; subst h; exact .inr rfl
theorem tA {p q:Rat} {A B:Nat} (h1:rlen p A) (h2:rlen q B):rlen (p / q) (A + B + 1):=by
  rw [← zS3]
  by_cases hq:q=0
  · subst hq
    have:p.den * (0:Rat).num.natAbs=0:=by simp
    rw [this,Rat.mkRat_zero]
    exact xS pA (by omega)
  · have a1:=yP h1.1; have a2:=yP h1.2; have a3:=yP h2.1; have a4:=yP h2.2
    refine xS (rI (A:=A + B) ?_ (jU a2 a3) (fun c=>hq ((quo_zero p q) ▸ c))) (by omega)
    rw [Int.natAbs_mul,bB,zP]; exact jU a1 a4
structure ZQ (M:Nat→Prop) (w:World) (n:Nat) (q:Int) (s:Bool) (a:Value):Prop where
  ex:∃ xs,IsNat M w a xs∧xs.length≤n∧zv s xs=q
section
variable {Fz M M' T S : Nat → Prop} {w w' w0 : World} {n m k : Nat} {q : Int} {s : Bool} {a : Value}
theorem ZQ.mono (h:ZQ M w n q s a) (l:Le Fz M w M' w'):ZQ M' w' n q s a:=by obtain ⟨xs,h1,h2⟩:=h.ex; exact ⟨xs,h1.mono l,h2⟩
theorem ZQ.less (h:ZQ M w n q s a) (hm:∀ k,M' k→M k):ZQ M' w n q s a:=h.mono (Fz:=fun _=>False) (Le.less hm)
theorem ZQ.up (h:ZQ M w n q s a) (hm:n≤m):ZQ M w m q s a:=by obtain ⟨xs,h1,h2,h3⟩:=h.ex; exact ⟨xs,h1,by omega,h3⟩
theorem ZQ.one (h:ZQ M w n q s a):a.oneCell'=true∧True:=by obtain ⟨xs,h1,_⟩:=h.ex; exact ⟨yQ h1,trivial⟩
end
structure ZC (M:Nat→Prop) (w:World) (n:Nat) (q:Int) (s:Bool) (a:Value):Prop where
  sgn:s=decide (q < 0)
  num:IsNat M w a (limbs (q.natAbs))
  len:(limbs (q.natAbs)).length≤n
section
variable {Fz M M' T S : Nat → Prop} {w w' w0 : World} {n m k : Nat} {q : Int} {s : Bool} {a : Value}
theorem ZC.mono (h:ZC M w n q s a) (l:Le Fz M w M' w'):ZC M' w' n q s a:=⟨h.sgn,h.num.mono l,h.len⟩
theorem ZC.up (h:ZC M w n q s a) (hm:n≤m):ZC M w m q s a:=⟨h.sgn,h.num,Nat.le_trans h.len hm⟩
theorem ZC.one (h:ZC M w n q s a):a.oneCell'=true∧True:=⟨yQ h.num,trivial⟩
theorem ZC.gen (h:ZC M w n q s a):ZQ M w n q s a:=⟨_,h.num,h.len,by rw [h.sgn]; exact bO q⟩
end
structure NQ (M:Nat→Prop) (w:World) (n:Nat) (q:Nat) (a:Value):Prop where
  ex:∃ xs,IsNat M w a xs∧xs.length≤n∧val xs=q
section
variable {Fz M M' T S : Nat → Prop} {w w' w0 : World} {n m k : Nat} {q : Nat}  {a : Value}
theorem NQ.mono (h:NQ M w n q a) (l:Le Fz M w M' w'):NQ M' w' n q a:=by obtain ⟨xs,h1,h2⟩:=h.ex; exact ⟨xs,h1.mono l,h2⟩
theorem NQ.one (h:NQ M w n q a):a.oneCell'=true∧True:=by obtain ⟨xs,h1,_⟩:=h.ex; exact ⟨yQ h1,trivial⟩
end
structure NC (M:Nat→Prop) (w:World) (n:Nat) (q:Nat) (a:Value):Prop where
  num:IsNat M w a (limbs (q))
  len:(limbs (q)).length≤n
section
variable {Fz M M' T S : Nat → Prop} {w w' w0 : World} {n m k : Nat} {q : Nat}  {a : Value}
theorem NC.mono (h:NC M w n q a) (l:Le Fz M w M' w'):NC M' w' n q a:=⟨h.num.mono l,h.len⟩
theorem NC.one (h:NC M w n q a):a.oneCell'=true∧True:=⟨yQ h.num,trivial⟩
theorem NC.gen (h:NC M w n q a):NQ M w n q a:=⟨_,h.num,h.len,zP q⟩
end
theorem RC.z {n:Nat} {q:Rat} {s:Bool} {a d:Value} (h:RC M w n q s a d):ZC M w n q.num s a:=⟨h.sgn,h.num,h.len.1⟩
theorem RC.d {n:Nat} {q:Rat} {s:Bool} {a d:Value} (h:RC M w n q s a d):NC M w n q.den d:=⟨h.den,h.len.2⟩
structure PQ (M:Nat→Prop) (w:World) (n:Nat) (q:P2) (s:Bool) (a:Value) (d:Value) (t:Bool) (b:Value) (e:Value):Prop where
  x:QC M w n q.1 s a d
  y:QC M w n q.2 t b e
section
variable {Fz M M' T S : Nat → Prop} {w w' w0 : World} {n m k : Nat} {q : P2} {p r : Rat} {s : Bool} {t : Bool} {a d b e : Value}
theorem PQ.up (h:PQ M w n q s a d t b e) (hm:n≤m):PQ M w m q s a d t b e:=⟨h.x.up hm,h.y.up hm⟩
end
structure PC (M:Nat→Prop) (w:World) (n:Nat) (q:P2) (s:Bool) (a:Value) (d:Value) (t:Bool) (b:Value) (e:Value):Prop where
  x:RC M w n q.1 s a d
  y:RC M w n q.2 t b e
section
variable {Fz M M' T S : Nat → Prop} {w w' w0 : World} {n m k : Nat} {q : P2} {p r : Rat} {s : Bool} {t : Bool} {a d b e : Value}
theorem PC.mono (h:PC M w n q s a d t b e) (l:Le Fz M w M' w'):PC M' w' n q s a d t b e:=⟨h.x.mono l,h.y.mono l⟩
theorem PC.less (h:PC M w n q s a d t b e) (hm:∀ k,M' k→M k):PC M' w n q s a d t b e:=⟨h.x.less hm,h.y.less hm⟩
theorem PC.up (h:PC M w n q s a d t b e) (hm:n≤m):PC M w m q s a d t b e:=⟨h.x.up hm,h.y.up hm⟩
theorem PC.one (h:PC M w n q s a d t b e):a.oneCell'=true∧d.oneCell'=true∧b.oneCell'=true∧e.oneCell'=true∧True:=⟨h.x.one.1,h.x.one.2.1,h.y.one⟩
theorem PC.mk2 (h1:RC M w n p s a d) (h2:RC M w m r t b e):PC M w (max n m) (p,r) s a d t b e:=⟨h1.up (by omega),h2.up (by omega)⟩
end
end
end Go.Proofs.YtflobagimodmgaaGreatDoor
namespace Go.Proofs.YtflobagimodmgaaGreatDoor
open Go Go.SL Go.RowKit Tryz
section
variable {Fz M M' : Nat → Prop} {w w' : World}
instance {n:Nat} {q:Int} {s:Bool} {a:Value}:Up Fz M M' w w' (ZQ M w n q s a) (ZQ M' w' n q s a):=⟨fun l h=>h.mono l⟩
instance {n:Nat} {q:Int} {s:Bool} {a:Value}:UpB w w' (ZQ M w n q s a) (ZQ M w' n q s a):=⟨fun l h=>h.mono (lb l)⟩
instance {n:Nat} {q:Int} {s:Bool} {a:Value}:Up Fz M M' w w' (ZC M w n q s a) (ZC M' w' n q s a):=⟨fun l h=>h.mono l⟩
instance {n:Nat} {q:Int} {s:Bool} {a:Value}:UpB w w' (ZC M w n q s a) (ZC M w' n q s a):=⟨fun l h=>h.mono (lb l)⟩
instance {n:Nat} {q:Nat} {a:Value}:Up Fz M M' w w' (NQ M w n q a) (NQ M' w' n q a):=⟨fun l h=>h.mono l⟩
instance {n:Nat} {q:Nat} {a:Value}:UpB w w' (NQ M w n q a) (NQ M w' n q a):=⟨fun l h=>h.mono (lb l)⟩
instance {n:Nat} {q:Nat} {a:Value}:Up Fz M M' w w' (NC M w n q a) (NC M' w' n q a):=⟨fun l h=>h.mono l⟩
instance {n:Nat} {q:Nat} {a:Value}:UpB w w' (NC M w n q a) (NC M w' n q a):=⟨fun l h=>h.mono (lb l)⟩
instance {n:Nat} {q:P2} {s t:Bool} {a d b e:Value}:Up Fz M M' w w' (PC M w n q s a d t b e) (PC M' w' n q s a d t b e):=⟨fun l h=>h.mono l⟩
instance {n:Nat} {q:P2} {s t:Bool} {a d b e:Value}:UpB w w' (PC M w n q s a d t b e) (PC M w' n q s a d t b e):=⟨fun l h=>h.mono (lb l)⟩
abbrev vPC (M:Nat→Prop) (n:Nat) (q:P2):VP:=fun v w=>∃ s a d t b e,v = .agg #[.bool s,a,d,.bool t,b,e]∧PC M w n q s a d t b e
theorem vPC_m {M:Nat→Prop} {n:Nat} {q:P2}:∀ v (w w':World),vPC M n q v w→Rb w w'→vPC M n q v w':=fun _ _ _ ⟨s,a,d,t,b,e,hq,h0⟩ r=>⟨s,a,d,t,b,e,hq,h0.mono (Fz:=fun _=>False) (Le.of_below r)⟩
abbrev vZC (M:Nat→Prop) (n:Nat) (q:Int):VP:=fun v w=>∃ s a,v = .agg #[.bool s,a]∧ZC M w n q s a
theorem vZC_m {M:Nat→Prop} {n:Nat} {q:Int}:∀ v (w w':World),vZC M n q v w→Rb w w'→vZC M n q v w':=fun _ _ _ ⟨s,a,hq,h0⟩ r=>⟨s,a,hq,h0.mono (Fz:=fun _=>False) (Le.of_below r)⟩
abbrev vZQ (M:Nat→Prop) (n:Nat) (q:Int):VP:=fun v w=>∃ s a,v = .agg #[.bool s,a]∧ZQ M w n q s a
theorem vZQ_m {M:Nat→Prop} {n:Nat} {q:Int}:∀ v (w w':World),vZQ M n q v w→Rb w w'→vZQ M n q v w':=fun _ _ _ ⟨s,a,hq,h0⟩ r=>⟨s,a,hq,h0.mono (Fz:=fun _=>False) (Le.of_below r)⟩
end
end Go.Proofs.YtflobagimodmgaaGreatDoor
namespace Go.Proofs.YtflobagimodmgaaGreatDoor
open Go.SL Go.RowKit Go.Proofs Tryz
section
variable {M : Nat → Prop} {w : World}
theorem zW5 {k:Nat} {l:Nat} (hk:k < 9223372036854775808) (hl:l < 9223372036854775808) (hM:OkM M w) :
    CallsV prog 142 [.int .i64 ((k:Nat):Int),.int .i64 ((l:Nat):Int)] w fun r w'=>Bel w.heap.size w w'∧∃ xsr xar xdr xtr xbr xer,r = .agg #[.bool xsr,xar,xdr,.bool xtr,xbr,xer]∧PC M w' (2) ((((k:Nat):Rat),((l:Nat):Rat))) xsr xar xdr xtr xbr xer:=by
 refine ci M func142 ntmps142 fun Fz hFz hF LL=>?_
 refine zF (zB (xB rfl sz35 (fun w1 b4 N4=>?_)))
 obtain ⟨_,nF4,nM4,Lw1,B4⟩:=nza hF hM N4
 obtain ⟨LL,hM⟩:=up2 Lw1 LL hM
 refine zD (zF (zB (zA rfl rfl (zK rfl (bo func128) rfl rfl ?_))))
 refine (zR9 (n:=k)  (by omega) hM).mono ?_
 rintro v6 w2 ⟨hB6,xs6,xa6,xd6,rfl,hn6⟩
 obtain ⟨LL,hM,B4⟩:=ub3 hB6 LL hM B4
 obtain ⟨oxa6,oxd6,_⟩:=hn6.one
 refine zA rfl rfl (zK rfl (bo func128) rfl rfl ?_)
 refine (zR9 (n:=l)  (by omega) hM).mono ?_
 rintro v8 w3 ⟨hB8,xs8,xa8,xd8,rfl,hn8⟩
 obtain ⟨LL,hn6,B4⟩:=ub3 hB8 LL hn6 B4
 obtain ⟨oxa8,oxd8,_⟩:=hn8.one
 refine uF rfl zS5 rfl rfl (jB (rfl) (jB (rfl) qD)) rfl (xH rfl rfl sz35 B4 rfl rfl (allq (allq (allq (allq (allq (allq alln)))))) rfl (fun w4 Cw4 B4=>?_))
 obtain ⟨LL,hn6,hn8⟩:=up3 (lc LL Cw4 zO nF4) LL hn6 hn8
 refine zD (zY ?_)
 refine lv1 ⟨⟨_,rfl,jY cK sz35 B4 rfl rfl⟩,trivial⟩ ?_
 subst hFz
 exact ⟨LL.b,_,_,_,_,_,_,rfl,((PC.mk2 hn6 hn8).less (fun k c=>yF c)).up (by omega)⟩
structure Elems {α:Type} (R:RelV α) (sz:Nat) (M:Nat→Prop) (w:World) (cs:List Value) (l:List α):Prop where
  len:cs.length=l.length * sz
  at_:∀ (i:Nat) (a:α),l[i]? = some a→∃ us:List Value,us.length=sz∧(∀ (q:Nat) (u:Value),us[q]? = some u→cs[i * sz + q]? = some u)∧R M w a us
theorem Elems.nil {α:Type} {R:RelV α} {sz:Nat}:Elems R sz M w [] ([]:List α):=⟨by simp,fun i a h=>by simp at h⟩
theorem Elems.snoc {α:Type} {R:RelV α} {sz:Nat} {cs us:List Value} {l:List α} {a:α} (h:Elems R sz M w cs l) (hu:us.length=sz) (hr:R M w a us):Elems R sz M w (cs ++ us) (l ++ [a]) :=
  ⟨by simp [h.len,hu,Nat.add_mul],fun i b hb=>by
    rcases Nat.lt_or_ge i l.length with hi | hi
    · rw [List.getElem?_append_left hi] at hb
      obtain ⟨vs,h1,h2,h3⟩:=h.at_ i b hb
      refine ⟨vs,h1,fun q u hq=>?_,h3⟩
      have:=h2 q u hq
      rw [List.getElem?_append_left (List.getElem?_eq_some_iff.1 this).1]; exact this
    · rw [List.getElem?_append_right hi] at hb
      have h0:i - l.length=0:=by
        have:=(List.getElem?_eq_some_iff.1 hb).1; simp at this; omega
      obtain rfl:i=l.length:=by omega
      simp at hb; subst hb
      refine ⟨us,hu,fun q u hq=>?_,hr⟩
      rw [List.getElem?_append_right (by rw [h.len]; omega),h.len,Nat.add_sub_cancel_left]; exact hq⟩
theorem row_blk {α:Type} {R:RelV α} {sz:Nat} {b:Nat} {t:TypeId} {cs:List Value} {l:List α} {c:Nat} (h:KBlk M w b t cs) (hc:l.length≤c) (hl:l.length≤9223372036854775807) (he:Elems R sz M w cs l):RowOf R sz M w (.slice (some ⟨b,0,none⟩) l.length c) l :=
  ⟨cs,h.blk.slc h.not he.len (fun j u hj=>hj) hl hc,he.at_⟩
def RQ (n:Nat):RelV Rat:=fun M w p us=>∃ s a d,us=[.bool s,a,d]∧QC M w n p s a d
def RP (n:Nat):RelV P2:=fun M w p us=>∃ s a d t b e,us=[.bool s,a,d,.bool t,b,e]∧PQ M w n p s a d t b e
structure PL (M:Nat→Prop) (w:World) (n:Nat) (q:List P2) (v:Value):Prop where
  row:RowOf (RP n) 6 M w v q
structure QL (M:Nat→Prop) (w:World) (n:Nat) (q:List Rat) (v:Value):Prop where
  row:RowOf (RQ n) 3 M w v q
section
variable {Fz M M' T S : Nat → Prop} {w w' w0 : World} {n m k : Nat} {q : List Rat} {v : Value}
theorem QL.mono (h:QL M w n q v) (l:Le Fz M w M' w'):QL M' w' n q v:=⟨h.row.mono l (fun _ _ ⟨a,b,c,e0,h0⟩=>⟨a,b,c,e0,h0.mono l⟩)⟩
theorem QL.one (h:QL M w n q v):v.oneCell'=true∧True:=by obtain ⟨_,⟨_,_,ad,cap,rfl,_⟩,_⟩:=h.row; exact ⟨rfl,trivial⟩
end
def RZ (n:Nat):RelV Int:=fun M w p us=>∃ s a,us=[.bool s,a]∧ZQ M w n p s a
structure ZL (M:Nat→Prop) (w:World) (n:Nat) (q:List Int) (v:Value):Prop where
  row:RowOf (RZ n) 2 M w v q
theorem zl2 {bb:Nat} {ty:TypeId} {n m:Nat} {p q:Int} {s t:Bool} {a b:Value} (hk:KBlk M w bb ty [.bool s,a,.bool t,b]) (h1:ZQ M w n p s a) (h2:ZQ M w m q t b):ZL M w (max n m) [p,q] (.slice (some ⟨bb,0,none⟩) 2 2) :=
  ⟨row_blk (l:=[p,q]) hk (by simp) (by simp) ((Elems.nil.snoc (us:=[.bool s,a]) rfl ⟨_,_,rfl,h1.up (by omega)⟩).snoc (us:=[.bool t,b]) rfl ⟨_,_,rfl,h2.up (by omega)⟩)⟩
end
end Go.Proofs.YtflobagimodmgaaGreatDoor
namespace Go.Proofs.YtflobagimodmgaaGreatDoor
open Go Go.SL Go.RowKit Tryz
section
variable {Fz M M' : Nat → Prop} {w w' : World}
instance {n:Nat} {q:List Rat} {v:Value}:Up Fz M M' w w' (QL M w n q v) (QL M' w' n q v):=⟨fun l h=>h.mono l⟩
instance {n:Nat} {q:List Rat} {v:Value}:UpB w w' (QL M w n q v) (QL M w' n q v):=⟨fun l h=>h.mono (lb l)⟩
end
end Go.Proofs.YtflobagimodmgaaGreatDoor
namespace Go.Proofs.YtflobagimodmgaaGreatDoor
open Go.SL Go.RowKit Go.Proofs Tryz
section
variable {M : Nat → Prop} {w : World}
theorem mnone_c (hM:OkM M w) :
    CallsV prog 234 [] w fun r w'=>Bel w.heap.size w w'∧∃ xsr xar xdr xtr xbr xer xsrb xarb xdrb xtrb xbrb xerb,r = .agg #[.int .i8 0,.bool xsr,xar,xdr,.bool xtr,xbr,xer,.bool xsrb,xarb,xdrb,.bool xtrb,xbrb,xerb]∧PC M w' (2) (((0:Rat),(0:Rat))) xsr xar xdr xtr xbr xer∧PC M w' (2) (((0:Rat),(0:Rat))) xsrb xarb xdrb xtrb xbrb xerb:=by
 refine ci M func234 ntmps234 fun Fz hFz hF LL=>?_
 refine zF (zB (xB rfl oR (fun w1 b0 N0=>?_)))
 obtain ⟨_,nF0,nM0,Lw1,B0⟩:=nza hF hM N0
 obtain ⟨LL,hM⟩:=up2 Lw1 LL hM
 refine zD (zF (zB (zK rfl (bo func142) rfl rfl ?_)))
 refine (zW5 (k:=0) (l:=0)  (by omega) (by omega) hM).mono ?_
 rintro v1 w2 ⟨hB1,xs1,xa1,xd1,xt1,xb1,xe1,rfl,hn1⟩
 obtain ⟨LL,hM,B0⟩:=ub3 hB1 LL hM B0
 obtain ⟨oxa1,oxd1,oxb1,oxe1,_⟩:=hn1.one
 refine zK rfl (bo func142) rfl rfl ?_
 refine (zW5 (k:=0) (l:=0)  (by omega) (by omega) hM).mono ?_
 rintro v2 w3 ⟨hB2,xs2,xa2,xd2,xt2,xb2,xe2,rfl,hn2⟩
 obtain ⟨LL,hn1,B0⟩:=ub3 hB2 LL hn1 B0
 obtain ⟨oxa2,oxd2,oxb2,oxe2,_⟩:=hn2.one
 refine qU rfl zS7 oR rfl (jB (rfl) (jB (rfl) qD)) rfl rfl (xH rfl rfl oR B0 rfl rfl (allq (allq (allq (allq (allq (allq (allq (allq (allq (allq (allq (allq (allq alln))))))))))))) rfl (fun w4 Cw4 B0=>?_))
 obtain ⟨LL,hn1,hn2⟩:=up3 (lc LL Cw4 zO nF0) LL hn1 hn2
 refine zD (zY ?_)
 refine lv1 ⟨⟨_,rfl,jY zN1 oR B0 rfl rfl⟩,trivial⟩ ?_
 subst hFz
 exact ⟨LL.b,_,_,_,_,_,_,_,_,_,_,_,_,rfl,(hn1.less (fun k c=>yF c)).up (by omega),(hn2.less (fun k c=>yF c)).up (by omega)⟩
theorem zc_zero {n:Nat}:ZC M w n 0 false (.slice none 0 0):=⟨by simp,by simpa [yW] using (kA (M:=M) (w:=w)),by simp [yW]⟩
theorem ZC.sign {n:Nat} {z:Int} {s:Bool} {a:Value} (h:ZC M w n z s a):(((limbs z.natAbs).length:Int)=0→z=0)∧(s=true→z < 0)∧(s=false→0≤z):=by
  refine ⟨fun c=>?_,fun c=>?_,fun c=>?_⟩
  · have:=yH.1 (show (limbs z.natAbs).length=0 by omega); omega
  · have:=h.sgn; rw [c] at this; exact of_decide_eq_true this.symm
  · have:=h.sgn; rw [c] at this; have:=of_decide_eq_false this.symm; omega
theorem sum_take {l:List Int} {s:Nat} (h:s < l.length):(l.take (s + 1)).sum=(l.take s).sum + l.getD s 0:=by
  rw [(yZ (0:Int) h).1,List.sum_append]; simp
def gY (l:List Int):Int:=l.foldl (· * ·) 1
theorem prod_take {l:List Int} {s:Nat} (h:s < l.length):gY (l.take (s + 1))=gY (l.take s) * l.getD s 0:=by
  rw [(yZ (0:Int) h).1,gY,List.foldl_append]; rfl
theorem i5norm_c {z:Int} {n0:Nat} {xs0:Bool} {xa0:Value} (h0:ZQ M w n0 z xs0 xa0) (hl0:n0≤1000000) (hM:OkM M w) :
    CallsV prog 135 [.agg #[.bool xs0,xa0]] w fun r w'=>Bel w.heap.size w w'∧∃ xsr xar,r = .agg #[.bool xsr,xar]∧ZC M w' (n0) (z) xsr xar:=by
 obtain ⟨oxa0,_⟩:=h0.one
 obtain ⟨xs,hx,hxl,hz⟩:=h0.ex
 refine ci M func135 ntmps135 fun Fz hFz hF LL=>?_
 refine zF (zB (gJ rfl rfl (fun w1 b1 N1=>?_)))
 obtain ⟨_,nF1,nM1,Lw1,B1⟩:=nza hF hM N1
 obtain ⟨LL,hM,hF,hx⟩:=up4 Lw1 LL hM hF hx
 refine xB rfl sz31 (fun w2 b2 N2=>?_)
 obtain ⟨hBw2,nF2,nM2,Lw2,B2⟩:=nza hF hM N2
 obtain ⟨B1,ne1_2⟩:=bn B1 N2
 obtain ⟨LL,hM,hx⟩:=up3 Lw2 LL hM hx
 refine zD (zF (zB (zL 1 rfl yu31 rfl rfl sz29 rfl rfl (zN rfl yS rfl B1 rfl (zK rfl (bo func76) rfl rfl ?_)))))
 refine (qC hx (by omega) hM).mono ?_
 rintro v6 w3 ⟨hB6,hf6⟩
 have hM6:=hM
 have hS6:=LL.size
 obtain ⟨LL,hx,B1,B2⟩:=ub4 hB6 LL hx B1 B2
 have hn6:=hf6.nat hM6
 refine zC rfl rfl (zD (zF (zB (zL 0 rfl yu31 rfl rfl sz4 rfl rfl (zN rfl dR rfl B1 rfl (zA rfl rfl (pD (d:=9) rfl (fun hg2_2=>?_) (fun hg2_2=>?_))))))))
 ·refine yK rfl rfl (zA rfl rfl (yK rfl rfl ?_))
  refine yT rfl yu29 rfl ?_
  refine yK rfl rfl (bJ rfl rfl rfl (jW rfl rfl rfl (zA rfl rfl (uF rfl lY rfl rfl (jB (cD rfl) (jB (cD (by first | rfl | exact yQ (by assumption) | exact yU (by assumption) | assumption)) qD)) rfl (xH rfl rfl sz31 B2 rfl rfl (allq (allq alln)) rfl (fun w4 Cw4 B2=>?_))))))
  obtain ⟨LL,hx,hn6⟩:=up3 (lc LL Cw4 zO nF2) LL hx hn6
  refine zD (zY ?_)
  refine lv1 ⟨⟨_,rfl,jY gD sz31 B2 rfl rfl⟩,trivial⟩ ?_
  have hle:=yC xs hx.lt
  subst hz; subst hFz
  refine ⟨LL.b,_,_,rfl,?_,by rw [bB]; exact hn6.less fun k c=>yF (yF c),by rw [bB]; omega⟩
  rw [vT,hg2_2]; rfl
 ·refine yL rfl rfl rfl rfl (yL rfl rfl rfl rfl (yL rfl rfl rfl rfl (jW rfl rfl rfl (zA rfl rfl (uF rfl lY rfl rfl (jB (cD rfl) (jB (cD (by first | rfl | exact yQ (by assumption) | exact yU (by assumption) | assumption)) qD)) rfl (xH rfl rfl sz31 B2 rfl rfl (allq (allq alln)) rfl (fun w5 Cw5 B2=>?_)))))))
  obtain ⟨LL,hx,hn6⟩:=up3 (lc LL Cw5 zO nF2) LL hx hn6
  refine zD (zY ?_)
  refine lv1 ⟨⟨_,rfl,jY gD sz31 B2 rfl rfl⟩,trivial⟩ ?_
  have hle:=yC xs hx.lt
  subst hz; subst hFz
  refine ⟨LL.b,_,_,rfl,?_,by rw [bB]; exact hn6.less fun k c=>yF (yF c),by rw [bB]; omega⟩
  rw [vT,hg2_2]; rfl
theorem zV3 {k:Nat} (hk:k < 9223372036854775808) (hM:OkM M w) :
    CallsV prog 149 [.int .i64 ((k:Nat):Int)] w fun r w'=>Bel w.heap.size w w'∧∃ xsr xar,r = .agg #[.bool xsr,xar]∧ZC M w' (2) (((k:Nat):Int)) xsr xar:=by
 refine ci M func149 ntmps149 fun Fz hFz hF LL=>?_
 refine zF (zB (xB rfl sz31 (fun w1 b2 N2=>?_)))
 obtain ⟨_,nF2,nM2,Lw1,B2⟩:=nza hF hM N2
 obtain ⟨LL,hM⟩:=up2 Lw1 LL hM
 refine zD (zF (zF (zB (zA rfl rfl (jT rfl rfl rfl (zD ?_))))))
 refine zU rfl (fun hp=>absurd hp (by omega)) (fun hc0=>?_)
 refine yE (zF (zB (zA rfl rfl (xC rfl yu3 yu168 rfl (by omega) (zK rfl (bo func166) rfl rfl ?_)))))
 refine (zX7 (n:=k) (by omega) hM).mono ?_
 rintro v14 w2 ⟨hB14,hf14⟩
 have hM14:=hM
 have hS14:=LL.size
 obtain ⟨LL,B2⟩:=ub2 hB14 LL B2
 have hn14:=hf14.nat hM14
 refine qU rfl lY sz31 rfl (jB (cD (by first | rfl | exact yQ (by assumption) | exact yU (by assumption) | assumption)) qD) rfl rfl (xH rfl rfl sz31 B2 rfl rfl (allq (allq alln)) rfl (fun w3 Cw3 B2=>?_))
 obtain ⟨LL,hn14⟩:=up2 (lc LL Cw3 zO nF2) LL hn14
 refine zD (zY ?_)
 refine lv1 ⟨⟨_,rfl,jY gD sz31 B2 rfl rfl⟩,trivial⟩ ?_
 subst hFz
 exact ⟨LL.b,_,_,rfl,(decide_eq_false (by omega)).symm,hn14.less fun k c=>yF c,yJ (by simp; omega)⟩
theorem i5sign_c {z:Int} {n0:Nat} {xs0:Bool} {xa0:Value} (h0:ZQ M w n0 z xs0 xa0) (hl0:n0≤1000000) (hM:OkM M w) :
    CallsV prog 77 [.agg #[.bool xs0,xa0]] w fun r w'=>Bel w.heap.size w w'∧r = .int .i64 (z).sign:=by
 obtain ⟨oxa0,_⟩:=h0.one
 refine ci M func77 ntmps77 fun Fz hFz hF LL=>?_
 refine zF (zB (gJ rfl rfl (fun w1 b1 N1=>?_)))
 obtain ⟨_,nF1,nM1,Lw1,B1⟩:=nza hF hM N1
 obtain ⟨LL,hM,h0⟩:=up3 Lw1 LL hM h0
 refine zC rfl rfl (zD (zF (zB (jN rfl gD sz31 rfl B1 rfl rfl (zK rfl (bo func135) rfl rfl ?_)))))
 refine (i5norm_c h0 (by omega) hM).mono ?_
 rintro v4 w2 ⟨hB4,xs4,xa4,rfl,hn4⟩
 obtain ⟨LL,B1⟩:=ub2 hB4 LL B1
 obtain ⟨oxa4,_⟩:=hn4.one
 refine xH rfl rfl sz31 B1 rfl rfl (allq (allq alln)) rfl (fun w3 Cw3 B1=>?_)
 obtain ⟨LL,hn4⟩:=up2 (lc LL Cw3 zO nF1) LL hn4
 refine zD (zF (zX (zF (zB (zL 1 rfl yu31 rfl rfl sz29 rfl rfl (zN rfl yS rfl B1 rfl (eH rfl yu29 rfl hn4.num.slc (qI rfl rfl rfl (zC rfl rfl (zD ?_))))))))))
 refine zU rfl (fun hc0=>?_) (fun hc0=>?_)
 ·refine zF (zB (zC rfl rfl (zD (zY ?_))))
  refine lv1 ⟨rfl,trivial⟩ ?_
  rw [hn4.sign.1 hc0]
  subst hFz
  exact ⟨LL.b,rfl⟩
 ·refine zF (zB (zL 0 rfl yu31 rfl rfl sz4 rfl rfl (zN rfl dR rfl B1 rfl (zC rfl rfl (zD ?_)))))
  refine uP rfl (fun hc1=>?_) (fun hc1=>?_)
  ·refine zF (zB (zC rfl rfl (zD (zY ?_))))
   refine lv1 ⟨rfl,trivial⟩ ?_
   rw [Int.sign_eq_neg_one_of_neg (hn4.sign.2.1 hc1)]
   subst hFz
   exact ⟨LL.b,rfl⟩
  ·refine yE (zF (zB (zC rfl rfl (zD (zY ?_)))))
   refine lv1 ⟨rfl,trivial⟩ ?_
   have hp:=hn4.sign.2.2 hc1
   rw [Int.sign_eq_one_of_pos (by have:z ≠ 0:=fun c=>hc0 (by rw [c]; simp [yW]); omega)]
   subst hFz
   exact ⟨LL.b,rfl⟩
theorem zI0 {t:Nat} (h0:t ≠ 0) (h:t % 2=0):tz t=tz (t / 2) + 1:=by
  conv=>lhs; rw [tz]
  rw [dif_neg (by omega)]
theorem vV {t:Nat} (h:t % 2=1):tz t=0:=by rw [tz,dif_pos (.inl h)]
theorem vW:∀ (k m:Nat),m ≠ 0→tz (2 ^ k * m)=k + tz m
  | 0,m,h=>by simp
  | k + 1,m,h=>by
    have hp:2 ^ k * m ≠ 0:=Nat.mul_ne_zero (Nat.pos_iff_ne_zero.1 (Nat.pow_pos (by omega))) h
    have e:2 ^ (k + 1) * m=2 * (2 ^ k * m):=by rw [Nat.pow_succ,Nat.mul_comm (2 ^ k) 2,Nat.mul_assoc]
    rw [e,zI0 (by omega) (by omega),Nat.mul_div_cancel_left _ (by omega),vW k m h]; omega
def od (x:Nat):Nat:=x / 2 ^ tz x
theorem eY {x:Nat} (h:x ≠ 0):x=2 ^ tz x * od x∧od x % 2=1:=eT x h
theorem zL2 (x:Nat):od x≤x:=Nat.div_le_self _ _
theorem tz_low {x r:Nat} (hx:x ≠ 0) (hx2:x < 4294967296):tz (x + 4294967296 * r)=tz x:=by
  obtain ⟨h1,h2⟩:=eY hx
  have hk:=lU (n:=32) hx (Nat.lt_of_lt_of_eq hx2 (by decide))
  obtain ⟨i,hi⟩:∃ i,32=tz x + (i + 1):=⟨32 - tz x - 1,by omega⟩
  have e:x + 4294967296 * r=2 ^ tz x * (od x + 2 * (2 ^ i * r)):=by
    have:(4294967296:Nat)=2 ^ tz x * (2 ^ i * 2):=by rw [← Nat.pow_succ,← Nat.pow_add,← hi]
    rw [this,Nat.mul_add,← h1]; congr 1
    simp only [Nat.mul_assoc,Nat.mul_left_comm,Nat.mul_comm]
  rw [e]; generalize 2 ^ i * r=q
  rw [vW _ _ (by omega),vV (t:=od x + 2 * q) (by omega)]; rfl
theorem wW:∀ (s:Nat) (xs:List Nat),(∀ j,j < s→xs.getD j 0=0)→s < xs.length→∃ r,val xs=2 ^ (32 * s) * (xs.getD s 0 + 4294967296 * r)
  | 0,x :: xs,_,_=>⟨val xs,by simp [val]⟩
  | s + 1,x :: xs,h,hl=>by
    obtain ⟨r,hr⟩:=wW s xs (fun j hj=>by have:=h (j + 1) (by omega); simpa using this) (by simpa using hl)
    have h0:x=0:=by have:=h 0 (by omega); simpa using this
    refine ⟨r,?_⟩
    have e:2 ^ (32 * (s + 1))=4294967296 * 2 ^ (32 * s):=by rw [Nat.mul_add,Nat.pow_add,Nat.mul_comm]
    rw [val,h0,hr,e,Nat.mul_assoc]; simp
theorem tz_limbs {xs:List Nat} {s:Nat} (hlt:∀ x ∈ xs,x < 4294967296) (h:∀ j,j < s→xs.getD j 0=0) (hs:s < xs.length) (h0:xs.getD s 0 ≠ 0):tz (val xs)=32 * s + tz (xs.getD s 0):=by
  obtain ⟨r,hr⟩:=wW s xs h hs
  rw [hr,vW _ _ (by omega),tz_low h0 (qB hlt s)]
theorem val_zero_all {xs:List Nat} (h:∀ j,j < xs.length→xs.getD j 0=0):val xs=0:=by
  have:=dV (xs:=xs) (n:=0) (fun j _=>by
    rcases Nat.lt_or_ge j xs.length with c | c
    · exact h j c
    · exact jQ c)
  simpa [val] using this.symm
theorem gcd_od {x y:Nat} (hx:x ≠ 0) (hy:y ≠ 0):Nat.gcd x y=Nat.gcd (od x) (od y) * 2 ^ min (tz x) (tz y):=by
  obtain ⟨h1,h2⟩:=eY hx; obtain ⟨k1,k2⟩:=eY hy
  rcases Nat.le_total (tz x) (tz y) with h | h
  · obtain ⟨i,hi⟩:∃ i,tz y=tz x + i:=⟨tz y - tz x,by omega⟩
    rw [Nat.min_eq_left h]
    conv=>lhs; rw [h1,k1,hi,Nat.pow_add,Nat.mul_assoc,Nat.gcd_mul_left,uJ h2]
    rw [Nat.mul_comm]
  · obtain ⟨i,hi⟩:∃ i,tz x=tz y + i:=⟨tz x - tz y,by omega⟩
    rw [Nat.min_eq_right h]
    conv=>lhs; rw [h1,k1,hi,Nat.pow_add,Nat.mul_assoc,Nat.gcd_mul_left,Nat.gcd_comm,uJ k2,Nat.gcd_comm]
    rw [Nat.mul_comm]
def GI (G A B:Nat):Prop:=B ≠ 0∧(A ≠ 0→Nat.gcd (od A) (od B)=G)∧(A=0→B=G)
theorem zM9 {G A B:Nat} (h:GI G A B) (hA:A ≠ 0):(od B≤od A→GI G (od A - od B) (od B)∧od A - od B + od B < A + B)∧(od A≤od B→GI G (od B - od A) (od A)∧od B - od A + od A < A + B):=by
  have hg:=h.2.1 hA
  obtain ⟨a1,a2⟩:=eY hA; obtain ⟨b1,b2⟩:=eY h.1
  have la:=zL2 A
  have lb:=zL2 B
  have key:∀ a b:Nat,a % 2=1→b % 2=1→Nat.gcd a b=G→b≤a→GI G (a - b) b:=fun a b ha hb hab hle=>by
    refine ⟨by omega,fun h0=>?_,fun h0=>?_⟩
    · obtain ⟨c1,c2⟩:=eY h0
      have ob:od b=b:=by unfold od; rw [vV hb]; simp
      rw [ob,Nat.gcd_comm,← uJ (k:=tz (a - b)) hb,← c1,Nat.gcd_comm]
      have:=Nat.gcd_sub_self_left (m:=b) (n:=a) (by omega)
      rw [this]; exact hab
    · obtain rfl:a=b:=by omega
      rw [Nat.gcd_self] at hab; exact hab
  exact ⟨fun hle=>⟨key _ _ a2 b2 hg hle,by omega⟩,fun hle=>⟨key _ _ b2 a2 (by rw [Nat.gcd_comm]; exact hg) hle,by omega⟩⟩
theorem mQ {n m:Nat} (h:n≤m):cntN ((n:Nat):Int) ((m:Nat):Int)=n:=by unfold cntN; omega
theorem cntN_min {a b:Nat} (h:min a b≤65536):cntN (min ((a:Nat):Int) ((b:Nat):Int)) 65536=min a b:=by unfold cntN; omega
theorem sR {x n:Nat} (h0:x ≠ 0) (h:(limbs x).length≤n):tz x < 32 * n:=lU h0 (by have:=yP h; rwa [show (4294967296:Nat)=2 ^ 32 by decide,← Nat.pow_mul] at this)
end
end Go.Proofs.YtflobagimodmgaaGreatDoor
