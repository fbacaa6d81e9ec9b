/- Lemmas and walks of functions; no statement. -/
import Derived.Test.YtalkinejknjidaaGreatDoorPe
set_option linter.unusedVariables false
set_option linter.unusedSimpArgs false
set_option maxRecDepth 100000
set_option maxHeartbeats 4000000
namespace Go.Proofs.YtalkinejknjidaaGreatDoor
open Go.SL Go.RowKit Go.Proofs Tryz
noncomputable def clsM (m:Mdl)(k a r:Nat):List P2 :=
 if k<2 then
  if a<m.xs.length∧a<m.wl.length∧r+k<(m.wl.getD a Df.d).length then
   (m.xs.getD a Df.d,(m.wl.getD a Df.d).getD r Df.d)::if k=1 then [(m.xs.getD a Df.d,(m.wl.getD a Df.d).getD (r+1) Df.d)] else []
  else []
 else if a<m.lv.length∧a+1<m.xs.length∧r+(k-2)<(m.lv.getD a Df.d).length then
  (m.xs.getD a Df.d,((m.lv.getD a Df.d).getD r Df.d).1)::(m.xs.getD (a+1) Df.d,((m.lv.getD a Df.d).getD r Df.d).2)::if k=3 then [(m.xs.getD (a+1) Df.d,((m.lv.getD a Df.d).getD (r+1) Df.d).2),(m.xs.getD a Df.d,((m.lv.getD a Df.d).getD (r+1) Df.d).1)] else []
 else []
theorem yS3 {Ψ Φ:PV}{p q:Rat}{n m:Nat}[h:QR Ψ n p][k:QR Φ m q](hn:n≤40000)(hm:m≤40000):CTy prog 137 [Ψ,Φ] (exP (.bool (decide (p=q)))):=by
 refine zW (σs:=[ag (rtq n p),ag (rtq m q)]) ?_ (fs1 qr_q (fs1 qr_q fs0))
 refine fw [.tmp 4] func137 fun X=>?_
 repeat refine u ?_
 refine zA1 (oca rfl rfl fun _=>oN (by omega) (by omega)) ?_
 repeat refine u ?_
 refine e ?_
 refine psb ?_
 rw[Bool.eq_iff_iff];simp only[decide_eq_true_eq,yT]
def dU (s:Bool):Int:=if s then -1 else 0
def inB (s:Bool)(a x b:Rat):Bool:=decide (cmpR a x≤dU s)&&decide (cmpR x b≤dU s)
theorem ksin {p q r:Rat}{n m k:Nat}{s:Bool}(hn:n≤40000)(hm:m≤40000)(hk:k≤40000):CTy prog 208 [ag (rtq n p),ag (rtq m q),ag (rtq k r),pa (xc (.int .i64 (dU s)))] (exP (.bool (decide (cmpR p q≤dU s)&&decide (cmpR q r≤dU s)))):=by
 refine fw [.tmp 7] func208 fun X=>?_
 iterate 8 refine u ?_
 refine zC 13 mixed rfl rfl ?_
 repeat refine u ?_
 refine d1 (oca rfl rfl fun _=>oN (by omega) (by omega)) ?_
 repeat refine u ?_
 refine d1g rfl rfl (oca rfl rfl fun g=>oN (by omega) (by omega)) ?_
 repeat refine u ?_
 exact e
theorem yH6 {Ψ Φ Θ:PV}{p q r:Rat}{n m k:Nat}{s:Bool}[h1:QR Ψ n p][h2:QR Φ m q][h3:QR Θ k r](hn:n≤40000)(hm:m≤40000)(hk:k≤40000):CTy prog 208 [Ψ,Φ,Θ,pa (xc (.int .i64 (dU s)))] (exP (.bool (inB s p q r))):=zW (ksin hn hm hk) (fs1 qr_q (fs1 qr_q (fs1 qr_q (fs1 (PSub.refl _) fs0))))
theorem kswithin {s:Bool}:CTy prog 126 [exP (.bool s)] (fn 208 [pa (xc (.int .i64 (dU s)))]):=by
 refine fw [.tmp 2] func126 fun X=>?_
 iterate 6 refine u ?_
 refine u fun b3=>?_
 repeat refine u ?_
 refine tp (fun c0=>?_) fun c0=>?_
 iterate 5 refine u ?_
 refine zK (zT 0 rfl (s:=3) rfl) (zA1 (omf rfl) ?_)
 repeat refine u ?_
 refine e ?_
 rotate_left
 iterate 3 refine u ?_
 refine zK (zT 0 rfl (s:=3) rfl) (zA1 (omf rfl) ?_)
 repeat refine u ?_
 refine e ?_
 rotate_left
 ·rw[show dU s = -1 from if_pos c0];exact PSub.refl _
 ·rw[show dU s=0 from if_neg c0];exact PSub.refl _
theorem tk1 {l:List Rat}{r:Nat}(h:r<l.length):List.take (r+0+1-r) (List.drop r l)=[l.getD r Df.d]:=by
 rw[show r+0+1-r=1 by omega,zcG h,List.take_succ_cons,zcv]
 simp[zaf,h]
theorem tk2 {l:List Rat}{r:Nat}(h:r+1<l.length):List.take (r+1+1-r) (List.drop r l)=[l.getD r Df.d,l.getD (r+1) Df.d]:=by
 rw[show r+1+1-r=2 by omega,zcG (by omega),List.take_succ_cons,zcG h,List.take_succ_cons,zcv]
 simp[zaf,h,show r<l.length by omega]
theorem ksclosed0 {m:Mdl}{N K a r:Nat}{p:P2}(hN:N≤20000)(ha:a≤1000000000000)(hr:r≤1000000000000)(hx:m.xs.length≤1000000)(hw:∀ i,(m.wl.getD i Df.d).length≤1000000)(hv:∀ i,(m.lv.getD i Df.d).length≤1000000):CTy prog 58 [ag (mdT N m),ag (st [xc (.int .i8 0),xc (.int .i64 ((a:Nat):Int)),xc (.int .i64 ((r:Nat):Int)),ptc K p])] (sv (sl 6 ((clsM m 0 a r).map (ptc (N+1))))):=by
 have hwa:=hw a
 have hva:=hv a
 refine fw [.tmp 4] func58 fun X=>?_
 repeat refine u ?_
 refine tp (fun c0=>(by omega)) fun c0=>?_
 repeat refine u ?_
 refine tp (fun c1=>(by omega)) fun c1=>?_
 repeat refine u ?_
 refine tp (fun c2=>?_) fun c2=>(by omega)
 repeat refine u ?_
 refine tp (fun c3=>?_) fun c3=>(by omega)
 iterate 2 refine u ?_
 refine zC 24 mixed rfl rfl ?_
 repeat refine u ?_
 refine d1g rfl rfl (ofa rfl rfl) ?_
 repeat refine u ?_
 refine d1g rfl rfl (ofa rfl rfl) ?_
 repeat refine u ?_
 refine d1g rfl rfl (omv rfl) ?_
 repeat refine u ?_
 refine tp (fun c4=>?_) fun c4=>?_
 repeat refine u ?_
 refine e ?_
 rotate_left
 iterate 7 refine u ?_
 refine zC 16 mixed rfl rfl ?_
 repeat refine u ?_
 refine d1 (ofa rfl rfl) ?_
 repeat refine u ?_
 refine d1 (ofa rfl rfl) ?_
 repeat refine u ?_
 refine d1 (ofa rfl rfl) ?_
 repeat refine u ?_
 refine d1 (ofa rfl rfl) ?_
 repeat refine u ?_
 refine d1 (omv rfl) ?_
 repeat refine u ?_
 rotate_left
 ·unfold clsM;rw[if_pos (by omega),if_neg fun c=>by omega];exact cG
 unfold clsM
 rw[if_pos (by omega),if_pos ⟨by omega,by omega,by omega⟩]
 have hT:List.take (r+0+1-r) (List.drop r (m.wl.getD a Df.d))=(m.wl.getD a Df.d).getD r Df.d::[]:=tk1 (by omega)
 rw[if_neg (by omega),show [(m.xs.getD a Df.d,(m.wl.getD a Df.d).getD r Df.d)]=(List.take (r+0+1-r) (List.drop r (m.wl.getD a Df.d))).map (Prod.mk (m.xs.getD a Df.d)) by rw[hT];rfl]
 have hTl:(List.take (r+0+1-r) (List.drop r (m.wl.getD a Df.d))).length≤2:=by rw[hT];simp
 clear hT
 generalize List.take (r+0+1-r) (List.drop r (m.wl.getD a Df.d))=T at *
 refine t_ts (xK 39 6) ?_
 refine yN (σ:=Nat×Value) (fun s=>[(6,True,exP s.2),(74,True,exP (.int .i64 ((s.1:Nat):Int)))]) (fun s=>[.row s.2 39 6 (((T.take s.1).map (Prod.mk (m.xs.getD a Df.d))).map (ptc N))]) (fun s=>s.1≤T.length) (fun s=>T.length-s.1) ((0,.slice none 0 0)) (tk 2 rfl (tk 3 rfl (tk 4 rfl (tk 72 rfl (tk 73 rfl tn))))) ?_ rfl ((by simp)) (fun s hJ Y _=>?_)
 refine tc rfl (ps_r _) (tc rfl (ps_r _) (tn))
 obtain⟨i,v⟩:=s
 dsimp only at hJ ⊢
 repeat refine u ?_
 refine tp (fun c5=>?_) fun c5=>?_
 iterate 7 refine u ?_
 refine u fun b8=>?_
 refine u ?_
 refine zK (zT (s:=8) 0 rfl rfl) ?_
 refine u ?_
 refine zC 10 mixed rfl rfl ?_
 repeat refine u ?_
 refine tap 0 rfl rfl rfl (by(simp;omega)) rfl fun r88=>?_
 repeat refine u ?_
 rotate_left
 repeat refine u ?_
 refine zK (yC (s:=90) 0 rfl rfl) (zA1 (oca rfl rfl fun _=>zM5 (n:=N) (by omega) (by(simp;omega))) ?_)
 repeat refine u ?_
 refine e ?_
 rotate_left
 ·refine⟨(i+1,r88),tes ?_ ?_ ?_,(by omega),(by omega)⟩
  refine tc rfl (ps_r _) (tc rfl (ps_r _) (tn))
  refine tc rfl (ps_r _) (tc rfl (ps_r _) (tc rfl (ps_r _) (tc rfl (ps_r _) (tc rfl (ps_r _) (tn)))))
  rw[(zJ (Df.d:Rat) (l:=T) (s:=i) (by omega)).1,zaq,zaq];exact List.Sublist.refl _
 ·rw[zav (by omega)];exact PSub.refl _
theorem ksclosed1 {m:Mdl}{N K a r:Nat}{p:P2}(hN:N≤20000)(ha:a≤1000000000000)(hr:r≤1000000000000)(hx:m.xs.length≤1000000)(hw:∀ i,(m.wl.getD i Df.d).length≤1000000)(hv:∀ i,(m.lv.getD i Df.d).length≤1000000):CTy prog 58 [ag (mdT N m),ag (st [xc (.int .i8 1),xc (.int .i64 ((a:Nat):Int)),xc (.int .i64 ((r:Nat):Int)),ptc K p])] (sv (sl 6 ((clsM m 1 a r).map (ptc (N+1))))):=by
 have hwa:=hw a
 have hva:=hv a
 refine fw [.tmp 4] func58 fun X=>?_
 repeat refine u ?_
 refine tp (fun c0=>?_) fun c0=>(by omega)
 repeat refine u ?_
 refine tp (fun c1=>(by omega)) fun c1=>?_
 repeat refine u ?_
 refine tp (fun c2=>(by omega)) fun c2=>?_
 repeat refine u ?_
 refine tp (fun c3=>?_) fun c3=>(by omega)
 iterate 2 refine u ?_
 refine zC 24 mixed rfl rfl ?_
 repeat refine u ?_
 refine d1g rfl rfl (ofa rfl rfl) ?_
 repeat refine u ?_
 refine d1g rfl rfl (ofa rfl rfl) ?_
 repeat refine u ?_
 refine d1g rfl rfl (ofa rfl rfl) ?_
 repeat refine u ?_
 refine d1g rfl rfl (omv rfl) ?_
 repeat refine u ?_
 refine tp (fun c4=>?_) fun c4=>?_
 repeat refine u ?_
 refine e ?_
 rotate_left
 iterate 7 refine u ?_
 refine zC 16 mixed rfl rfl ?_
 repeat refine u ?_
 refine d1 (ofa rfl rfl) ?_
 repeat refine u ?_
 refine d1 (ofa rfl rfl) ?_
 repeat refine u ?_
 refine d1 (ofa rfl rfl) ?_
 repeat refine u ?_
 refine d1 (ofa rfl rfl) ?_
 repeat refine u ?_
 refine d1 (omv rfl) ?_
 repeat refine u ?_
 rotate_left
 ·unfold clsM;rw[if_pos (by omega),if_neg fun c=>by omega];exact cG
 unfold clsM
 rw[if_pos (by omega),if_pos ⟨by omega,by omega,by omega⟩]
 have hT:List.take (r+1+1-r) (List.drop r (m.wl.getD a Df.d))=(m.wl.getD a Df.d).getD r Df.d::[(m.wl.getD a Df.d).getD (r+1) Df.d]:=tk2 (by omega)
 rw[if_pos rfl,show [(m.xs.getD a Df.d,(m.wl.getD a Df.d).getD r Df.d),(m.xs.getD a Df.d,(m.wl.getD a Df.d).getD (r+1) Df.d)]=(List.take (r+1+1-r) (List.drop r (m.wl.getD a Df.d))).map (Prod.mk (m.xs.getD a Df.d)) by rw[hT];rfl]
 have hTl:(List.take (r+1+1-r) (List.drop r (m.wl.getD a Df.d))).length≤2:=by rw[hT];simp
 clear hT
 generalize List.take (r+1+1-r) (List.drop r (m.wl.getD a Df.d))=T at *
 refine t_ts (xK 39 6) ?_
 refine yN (σ:=Nat×Value) (fun s=>[(6,True,exP s.2),(74,True,exP (.int .i64 ((s.1:Nat):Int)))]) (fun s=>[.row s.2 39 6 (((T.take s.1).map (Prod.mk (m.xs.getD a Df.d))).map (ptc N))]) (fun s=>s.1≤T.length) (fun s=>T.length-s.1) ((0,.slice none 0 0)) (tk 2 rfl (tk 3 rfl (tk 4 rfl (tk 72 rfl (tk 73 rfl tn))))) ?_ rfl ((by simp)) (fun s hJ Y _=>?_)
 refine tc rfl (ps_r _) (tc rfl (ps_r _) (tn))
 obtain⟨i,v⟩:=s
 dsimp only at hJ ⊢
 repeat refine u ?_
 refine tp (fun c5=>?_) fun c5=>?_
 iterate 7 refine u ?_
 refine u fun b8=>?_
 refine u ?_
 refine zK (zT (s:=8) 0 rfl rfl) ?_
 refine u ?_
 refine zC 10 mixed rfl rfl ?_
 repeat refine u ?_
 refine tap 0 rfl rfl rfl (by(simp;omega)) rfl fun r88=>?_
 repeat refine u ?_
 rotate_left
 repeat refine u ?_
 refine zK (yC (s:=90) 0 rfl rfl) (zA1 (oca rfl rfl fun _=>zM5 (n:=N) (by omega) (by(simp;omega))) ?_)
 repeat refine u ?_
 refine e ?_
 rotate_left
 ·refine⟨(i+1,r88),tes ?_ ?_ ?_,(by omega),(by omega)⟩
  refine tc rfl (ps_r _) (tc rfl (ps_r _) (tn))
  refine tc rfl (ps_r _) (tc rfl (ps_r _) (tc rfl (ps_r _) (tc rfl (ps_r _) (tc rfl (ps_r _) (tn)))))
  rw[(zJ (Df.d:Rat) (l:=T) (s:=i) (by omega)).1,zaq,zaq];exact List.Sublist.refl _
 ·rw[zav (by omega)];exact PSub.refl _
theorem ksclosed2 {m:Mdl}{N K a r:Nat}{p:P2}(hN:N≤20000)(ha:a≤1000000000000)(hr:r≤1000000000000)(hx:m.xs.length≤1000000)(hw:∀ i,(m.wl.getD i Df.d).length≤1000000)(hv:∀ i,(m.lv.getD i Df.d).length≤1000000):CTy prog 58 [ag (mdT N m),ag (st [xc (.int .i8 2),xc (.int .i64 ((a:Nat):Int)),xc (.int .i64 ((r:Nat):Int)),ptc K p])] (sv (sl 6 ((clsM m 2 a r).map (ptc (N+1))))):=by
 have hwa:=hw a
 have hva:=hv a
 refine fw [.tmp 4] func58 fun X=>?_
 repeat refine u ?_
 refine tp (fun c0=>(by omega)) fun c0=>?_
 repeat refine u ?_
 refine tp (fun c1=>(by omega)) fun c1=>?_
 repeat refine u ?_
 refine tp (fun c2=>(by omega)) fun c2=>?_
 repeat refine u ?_
 refine tp (fun c3=>(by omega)) fun c3=>?_
 repeat refine u ?_
 refine tp (fun c4=>?_) fun c4=>(by omega)
 repeat refine u ?_
 refine tp (fun c5=>?_) fun c5=>(by omega)
 iterate 2 refine u ?_
 refine zC 25 mixed rfl rfl ?_
 repeat refine u ?_
 refine d1g rfl rfl (ofa rfl rfl) ?_
 repeat refine u ?_
 refine d1g rfl rfl (ofa rfl rfl) ?_
 repeat refine u ?_
 refine d1g rfl rfl (ofa rfl rfl) ?_
 repeat refine u ?_
 refine d1g rfl rfl (omv rfl) ?_
 repeat refine u ?_
 refine tp (fun c6=>?_) fun c6=>?_
 repeat refine u ?_
 refine e ?_
 rotate_left
 iterate 2 refine u ?_
 apply xG 2 16 15 [(13,9,0),(14,10,1),(15,1000015,0)] rfl rfl mixed rfl rfl rfl
 repeat refine u ?_
 refine cx1 (ofa rfl rfl) rfl ?_
 repeat refine u ?_
 refine cx1 (ofa rfl rfl) rfl ?_
 repeat refine u ?_
 refine cx1 (ofa rfl rfl) rfl ?_
 repeat refine u ?_
 refine cx1 (ofa rfl rfl) rfl ?_
 repeat refine u ?_
 refine cN rfl rfl (cal) (cN rfl rfl (cal) (cS rfl rfl rfl (cst rfl rfl rfl) ?_))
 refine cE (fun b9 b10=>?_)
 refine fm ?_
 refine u ?_
 refine zK (zT (s:=9) 1 rfl rfl) ?_
 refine tst 0 rfl rfl rfl rfl rfl rfl (zK (zT (s:=10) 0 rfl rfl) ?_)
 iterate 2 refine u ?_
 apply xG 2 25 24 [(22,11,0),(23,12,1),(24,1000024,0)] rfl rfl mixed rfl rfl rfl
 repeat refine u ?_
 refine cx1 (ofa rfl rfl) rfl ?_
 repeat refine u ?_
 refine cx1 (ofa rfl rfl) rfl ?_
 repeat refine u ?_
 refine cx1 (ofa rfl rfl) rfl ?_
 repeat refine u ?_
 refine cx1 (ofa rfl rfl) rfl ?_
 repeat refine u ?_
 refine cx1 (ofa rfl rfl) rfl ?_
 repeat refine u ?_
 refine cx1 (ofa rfl rfl) rfl ?_
 repeat refine u ?_
 refine cx1 (omv rfl) rfl ?_
 repeat refine u ?_
 refine cN rfl rfl (cal) (cN rfl rfl (cal) (cS rfl rfl rfl (cst rfl rfl rfl) ?_))
 refine cE (fun b11 b12=>?_)
 refine fm ?_
 refine u ?_
 refine zK (zT (s:=11) 1 rfl rfl) ?_
 refine tst 0 rfl rfl rfl rfl rfl rfl (zK (zT (s:=12) 0 rfl rfl) ?_)
 iterate 19 refine u ?_
 refine zA1 (yJ (obs rfl rfl rfl rfl rfl rfl) (show PSub _ (sv (sl 6 ([(m.xs.getD a Df.d,((m.lv.getD a Df.d).getD r Df.d).1),(m.xs.getD (a+1) Df.d,((m.lv.getD a Df.d).getD r Df.d).2),(m.xs.getD (a+1) Df.d,((m.lv.getD a Df.d).getD (r+0) Df.d).2),(m.xs.getD a Df.d,((m.lv.getD a Df.d).getD (r+0) Df.d).1)].map (ptc N)))) from PSub.refl _)) ?_
 repeat refine u ?_
 refine zA1 (omv rfl) ?_
 refine u ?_
 refine zA1 (yJ (oad rfl rfl (by omega)) (ps_i (show _=((2:Nat):Int) from rfl))) ?_
 repeat refine u ?_
 refine zA1 (oca rfl rfl fun _=>zM5 (n:=N) (by omega) (by(simp;done))) ?_
 repeat refine u ?_
 refine e ?_
 rotate_left
 ·unfold clsM;rw[if_neg (by omega),if_neg fun c=>by omega];exact cG
 ·unfold clsM;rw[if_neg (by omega),if_pos ⟨by omega,by omega,by omega⟩];exact PSub.refl _
theorem ksclosed3 {m:Mdl}{N K a r:Nat}{p:P2}(hN:N≤20000)(ha:a≤1000000000000)(hr:r≤1000000000000)(hx:m.xs.length≤1000000)(hw:∀ i,(m.wl.getD i Df.d).length≤1000000)(hv:∀ i,(m.lv.getD i Df.d).length≤1000000):CTy prog 58 [ag (mdT N m),ag (st [xc (.int .i8 3),xc (.int .i64 ((a:Nat):Int)),xc (.int .i64 ((r:Nat):Int)),ptc K p])] (sv (sl 6 ((clsM m 3 a r).map (ptc (N+1))))):=by
 have hwa:=hw a
 have hva:=hv a
 refine fw [.tmp 4] func58 fun X=>?_
 repeat refine u ?_
 refine tp (fun c0=>?_) fun c0=>(by omega)
 repeat refine u ?_
 refine tp (fun c1=>(by omega)) fun c1=>?_
 repeat refine u ?_
 refine tp (fun c2=>(by omega)) fun c2=>?_
 repeat refine u ?_
 refine tp (fun c3=>(by omega)) fun c3=>?_
 repeat refine u ?_
 refine tp (fun c4=>(by omega)) fun c4=>?_
 repeat refine u ?_
 refine tp (fun c5=>?_) fun c5=>(by omega)
 iterate 2 refine u ?_
 refine zC 25 mixed rfl rfl ?_
 repeat refine u ?_
 refine d1 (ofa rfl rfl) ?_
 repeat refine u ?_
 refine d1g rfl rfl (ofa rfl rfl) ?_
 repeat refine u ?_
 refine d1g rfl rfl (ofa rfl rfl) ?_
 repeat refine u ?_
 refine d1g rfl rfl (ofa rfl rfl) ?_
 repeat refine u ?_
 refine d1g rfl rfl (omv rfl) ?_
 repeat refine u ?_
 refine tp (fun c6=>?_) fun c6=>?_
 repeat refine u ?_
 refine e ?_
 rotate_left
 iterate 2 refine u ?_
 apply xG 2 16 15 [(13,9,0),(14,10,1),(15,1000015,0)] rfl rfl mixed rfl rfl rfl
 repeat refine u ?_
 refine cx1 (ofa rfl rfl) rfl ?_
 repeat refine u ?_
 refine cx1 (ofa rfl rfl) rfl ?_
 repeat refine u ?_
 refine cx1 (ofa rfl rfl) rfl ?_
 repeat refine u ?_
 refine cx1 (ofa rfl rfl) rfl ?_
 repeat refine u ?_
 refine cN rfl rfl (cal) (cN rfl rfl (cal) (cS rfl rfl rfl (cst rfl rfl rfl) ?_))
 refine cE (fun b9 b10=>?_)
 refine fm ?_
 refine u ?_
 refine zK (zT (s:=9) 1 rfl rfl) ?_
 refine tst 0 rfl rfl rfl rfl rfl rfl (zK (zT (s:=10) 0 rfl rfl) ?_)
 iterate 2 refine u ?_
 apply xG 2 25 24 [(22,11,0),(23,12,1),(24,1000024,0)] rfl rfl mixed rfl rfl rfl
 repeat refine u ?_
 refine cx1 (ofa rfl rfl) rfl ?_
 repeat refine u ?_
 refine cx1 (ofa rfl rfl) rfl ?_
 repeat refine u ?_
 refine cx1 (ofa rfl rfl) rfl ?_
 repeat refine u ?_
 refine cx1 (ofa rfl rfl) rfl ?_
 repeat refine u ?_
 refine cx1 (ofa rfl rfl) rfl ?_
 repeat refine u ?_
 refine cx1 (ofa rfl rfl) rfl ?_
 repeat refine u ?_
 refine cx1 (omv rfl) rfl ?_
 repeat refine u ?_
 refine cN rfl rfl (cal) (cN rfl rfl (cal) (cS rfl rfl rfl (cst rfl rfl rfl) ?_))
 refine cE (fun b11 b12=>?_)
 refine fm ?_
 refine u ?_
 refine zK (zT (s:=11) 1 rfl rfl) ?_
 refine tst 0 rfl rfl rfl rfl rfl rfl (zK (zT (s:=12) 0 rfl rfl) ?_)
 iterate 19 refine u ?_
 refine zA1 (yJ (obs rfl rfl rfl rfl rfl rfl) (show PSub _ (sv (sl 6 ([(m.xs.getD a Df.d,((m.lv.getD a Df.d).getD r Df.d).1),(m.xs.getD (a+1) Df.d,((m.lv.getD a Df.d).getD r Df.d).2),(m.xs.getD (a+1) Df.d,((m.lv.getD a Df.d).getD (r+1) Df.d).2),(m.xs.getD a Df.d,((m.lv.getD a Df.d).getD (r+1) Df.d).1)].map (ptc N)))) from PSub.refl _)) ?_
 repeat refine u ?_
 refine zA1 (omv rfl) ?_
 refine u ?_
 refine zA1 (yJ (oad rfl rfl (by omega)) (ps_i (show _=((4:Nat):Int) from rfl))) ?_
 repeat refine u ?_
 refine zA1 (oca rfl rfl fun _=>zM5 (n:=N) (by omega) (by(simp;done))) ?_
 repeat refine u ?_
 refine e ?_
 rotate_left
 ·unfold clsM;rw[if_neg (by omega),if_neg fun c=>by omega];exact cG
 ·unfold clsM;rw[if_neg (by omega),if_pos ⟨by omega,by omega,by omega⟩];exact PSub.refl _
def hasB (s:Bool)(k:Nat):List P2→P2→Bool
 | [a],p=>decide (a=p)
 | [a,b],p=>if k=1 then decide (a.1=p.1)&&inB s a.2 p.2 b.2 else inB s a.1 p.1 b.1&&decide (zD a b p.1=p.2)
 | [a,b,c,d],p=>inB s a.1 p.1 b.1&&inB s (zD a b p.1) p.2 (zD d c p.1)
 | _,_=>false
theorem sT {a b:P2}{p:P2}{n m:Nat}(hn:n≤400)(hm:m≤400):CTy prog 207 [ag (ptc n a),ag (ptc n b),pa (ptc m p)] (ag (rtc (20*(n+n+m)+100) (zD a b p.1))):=by
 refine fw [.cell 5 29] func207 fun X=>?_
 iterate 4 refine u ?_
 refine u fun b5=>?_
 repeat refine u ?_
 refine zA1 (oca rfl rfl fun _=>kmheight (by omega) (by omega) (by omega)) ?_
 iterate 3 refine u ?_
 refine u fun b6=>?_
 refine u ?_
 refine zK (zT (s:=6) 0 rfl rfl) ?_
 repeat refine u ?_
 refine tst 0 rfl rfl rfl rfl rfl rfl ?_
 repeat refine u ?_
 refine⟨[_],rsc 0 rfl rfl rfl rfl rs0,yF ?_⟩
 rw[Nat.max_self];exact PSub.refl _
theorem mdT_cl {m:Mdl}{N K:Nat}{c:CL}(hN:N≤20000)(hk:c.1<4)(ha:c.2.1≤1000000000000)(hr:c.2.2.1≤1000000000000)(hx:m.xs.length≤1000000)(hw:∀ i,(m.wl.getD i Df.d).length≤1000000)(hv:∀ i,(m.lv.getD i Df.d).length≤1000000):CTy prog 58 [ag (mdT N m),ag (celT K c)] (sv (sl 6 ((clsM m c.1 c.2.1 c.2.2.1).map (ptc (N+1))))):=by
 obtain⟨k,a,r,p⟩:=c
 dsimp only at hk ha hr ⊢
 have h4:k=0∨k=1∨k=2∨k=3:=by omega
 rcases h4 with rfl | rfl | rfl | rfl
 ·exact ksclosed0 hN ha hr hx hw hv
 ·exact ksclosed1 hN ha hr hx hw hv
 ·exact ksclosed2 hN ha hr hx hw hv
 ·exact ksclosed3 hN ha hr hx hw hv
theorem cls_cases (m:Mdl)(k a r:Nat):clsM m k a r=[]∨(∃ x,clsM m k a r=[x])∨(∃ x y,clsM m k a r=[x,y]) ∨ ∃ x y z u,clsM m k a r=[x,y,z,u]:=by
 unfold clsM
 split
 ·split
  ·split
   ·exact .inr (.inr (.inl ⟨_,_,rfl⟩))
   ·exact .inr (.inl ⟨_,rfl⟩)
  ·exact .inl rfl
 ·split
  ·split
   ·exact .inr (.inr (.inr ⟨_,_,_,_,rfl⟩))
   ·exact .inr (.inr (.inl ⟨_,_,rfl⟩))
  ·exact .inl rfl
theorem kshas {m:Mdl}{N K n:Nat}{c:CL}{p:P2}{s:Bool}(hN:N≤300)(hn:n≤300)(hk:c.1<4)(ha:c.2.1≤1000000000000)(hr:c.2.2.1≤1000000000000)(hx:m.xs.length≤1000000)(hw:∀ i,(m.wl.getD i Df.d).length≤1000000)(hv:∀ i,(m.lv.getD i Df.d).length≤1000000):CTy prog 125 [ag (mdT N m),ag (celT K c),ag (ptc n p),fn 208 [pa (xc (.int .i64 (dU s)))]] (exP (.bool (hasB s c.1 (clsM m c.1 c.2.1 c.2.2.1) p))):=by
 have hc:=mdT_cl (K:=K) (c:=c) (N:=N) (m:=m) (by omega) hk ha hr hx hw hv
 rcases cls_cases m c.1 c.2.1 c.2.2.1 with e | ⟨x,e⟩ | ⟨x,y,e⟩ | ⟨x,y,z,u,e⟩
 ·rw[e] at hc ⊢
  refine fw [.tmp 8] func125 fun X=>?_
  repeat refine u ?_
  refine zA1 (oca rfl rfl fun _=>hc) ?_
  repeat refine u ?_
  refine qG rfl rfl ?_
  repeat refine u ?_
  refine qG rfl rfl ?_
  repeat refine u ?_
  refine qG rfl rfl ?_
  repeat refine u ?_
  refine⟨[_],rst rfl rs0,yF (PSub.refl _)⟩
 ·rw[e] at hc ⊢
  refine fw [.tmp 8] func125 fun X=>?_
  repeat refine u ?_
  refine zA1 (oca rfl rfl fun _=>hc) ?_
  repeat refine u ?_
  refine aQ rfl rfl (zC 6 mixed rfl rfl ?_)
  repeat refine u ?_
  refine d1 (oca rfl rfl fun _=>kvsame (by omega) (by omega)) ?_
  repeat refine u ?_
  refine⟨[_],rst rfl rs0,yF ?_⟩
  refine psb ?_
  show decide (cmpP x p=0)=decide (x=p)
  exact decide_eq_decide.2 (kD.zero _ _)
 ·rw[e] at hc ⊢
  refine fw [.tmp 8] func125 fun X=>?_
  repeat refine u ?_
  refine zA1 (oca rfl rfl fun _=>hc) ?_
  repeat refine u ?_
  refine qG rfl rfl ?_
  repeat refine u ?_
  refine aQ rfl rfl ?_
  repeat refine u ?_
  refine tp (fun c2=>?_) fun c2=>?_
  refine u ?_
  refine zC 22 mixed rfl rfl ?_
  repeat refine u ?_
  refine d1 (oca rfl rfl fun _=>yS3 (by omega) (by omega)) ?_
  repeat refine u ?_
  refine d1g rfl rfl (oca rfl rfl fun g=>yH6 (by omega) (by omega) (by omega)) ?_
  repeat refine u ?_
  refine⟨[_],rst rfl rs0,yF ?_⟩
  refine psb ?_
  rotate_left
  refine u ?_
  refine zC 26 mixed rfl rfl ?_
  repeat refine u ?_
  refine d1 (oca rfl rfl fun _=>yH6 (by omega) (by omega) (by omega)) ?_
  repeat refine u ?_
  refine d1g rfl rfl (oca rfl rfl fun g=>sT (by omega) (by omega)) ?_
  refine d1g rfl rfl (ofa rfl rfl) ?_
  repeat refine u ?_
  refine d1g rfl rfl (oca rfl rfl fun g=>yS3 (by omega) (by omega)) ?_
  repeat refine u ?_
  refine⟨[_],rst rfl rs0,yF ?_⟩
  refine psb ?_
  rotate_left
  ·show _=if c.1=1 then _ else _
   rw[if_pos (by omega)];rfl
  ·show _=if c.1=1 then _ else _
   rw[if_neg (by omega)];rfl
 ·rw[e] at hc ⊢
  refine fw [.tmp 8] func125 fun X=>?_
  refine zY ?_
  refine yH rfl ?_
  refine zA1 (obx rfl) ?_
  refine zA1 (obx rfl) ?_
  refine zA1 (obx rfl) ?_
  refine zA1 (oas rfl) ?_
  refine zA0 ?_
  refine yD4 ?_
  refine zY ?_
  refine yH rfl ?_
  refine zA1 (old rfl rfl) ?_
  refine zA1 (old rfl rfl) (zA1 (oca rfl rfl fun _=>hc) ?_)
  refine zA1 (oas rfl) ?_
  refine zA0 ?_
  refine zY ?_
  refine yH rfl ?_
  refine zA1 (omf rfl) ?_
  refine zA1 (oas rfl) ?_
  refine zA0 ?_
  refine zY ?_
  refine yD5 ?_
  refine zY ?_
  refine zY ?_
  refine yH rfl ?_
  refine zA1 (omv rfl) ?_
  refine zA1 (oln rfl) ?_
  refine zA0 ?_
  refine fA ?_
  refine zY ?_
  refine yH rfl ?_
  refine zA1 (oeq rfl rfl) ?_
  refine zA1 (oas rfl) ?_
  refine zA0 (qG rfl rfl ?_)
  refine zY ?_
  refine yH rfl ?_
  refine zA1 (oeq rfl rfl) ?_
  refine zA1 (oas rfl) ?_
  refine zA0 (qG rfl rfl ?_)
  refine zY ?_
  refine yH rfl ?_
  refine zA1 (oeq rfl rfl) ?_
  refine zA1 (oas rfl) ?_
  refine zA0 (aQ rfl rfl (zC 35 mixed rfl rfl ?_))
  refine d1 (omv rfl) ?_
  refine d1 (omv rfl) ?_
  refine d1 (oix _ rfl rfl rfl (fun _=>rfl) (fun _=>(by(simp;done)))) ?_
  refine d1 (ofa rfl rfl) ?_
  refine d1 (old rfl rfl) ?_
  refine d1 (ofa rfl rfl) ?_
  refine d1 (old rfl rfl) ?_
  refine d1 (omv rfl) ?_
  refine d1 (oix _ rfl rfl rfl (fun _=>rfl) (fun _=>(by(simp;done)))) ?_
  refine d1 (ofa rfl rfl) ?_
  refine d1 (old rfl rfl) (d1 (oca rfl rfl fun _=>yH6 (by omega) (by omega) (by omega)) ?_)
  refine d1 (omv rfl) ?_
  refine d1g rfl rfl (omv rfl) ?_
  refine d1g rfl rfl (omv rfl) ?_
  refine d1g rfl rfl (omv rfl) ?_
  refine d1g rfl rfl (oix _ rfl rfl rfl (fun g=>rfl) (fun g=>(by(simp;done)))) ?_
  refine d1g rfl rfl (old rfl rfl) ?_
  refine d1g rfl rfl (omv rfl) ?_
  refine d1g rfl rfl (oix _ rfl rfl rfl (fun g=>rfl) (fun g=>(by(simp;done)))) ?_
  refine d1g rfl rfl (old rfl rfl) (d1g rfl rfl (oca rfl rfl fun g=>sT (by omega) (by omega)) ?_)
  refine d1g rfl rfl (ofa rfl rfl) ?_
  refine d1g rfl rfl (old rfl rfl) ?_
  refine d1g rfl rfl (omv rfl) ?_
  refine d1g rfl rfl (omv rfl) ?_
  refine d1g rfl rfl (oix _ rfl rfl rfl (fun g=>rfl) (fun g=>(by(simp;done)))) ?_
  refine d1g rfl rfl (old rfl rfl) ?_
  refine d1g rfl rfl (omv rfl) ?_
  refine d1g rfl rfl (oix _ rfl rfl rfl (fun g=>rfl) (fun g=>(by(simp;done)))) ?_
  refine d1g rfl rfl (old rfl rfl) (d1g rfl rfl (oca rfl rfl fun g=>sT (by omega) (by omega)) ?_)
  refine d1g rfl rfl (oca rfl rfl fun g=>yH6 (by omega) (by omega) (by omega)) ?_
  refine d1 (opk rfl rfl rfl) ?_
  refine d1 (oas rfl) ?_
  refine d0 ?_
  refine zA0 ?_
  refine zY ?_
  refine yH rfl ?_
  refine zA1 (omv rfl) ?_
  refine zA1 (oas rfl) ?_
  refine zA0 ?_
  refine kN (⟨[_],rst rfl rs0,yF (PSub.refl _)⟩)
theorem kstouch {m:Mdl}{N K n:Nat}{c:CL}{p:P2}(hN:N≤300)(hn:n≤300)(hk:c.1<4)(ha:c.2.1≤1000000000000)(hr:c.2.2.1≤1000000000000)(hx:m.xs.length≤1000000)(hw:∀ i,(m.wl.getD i Df.d).length≤1000000)(hv:∀ i,(m.lv.getD i Df.d).length≤1000000):CTy prog 54 [ag (mdT N m),ag (celT K c),ag (ptc n p)] (exP (.bool (hasB false c.1 (clsM m c.1 c.2.1 c.2.2.1) p))):=by
 refine fw [.tmp 6] func54 fun X=>?_
 iterate 8 refine u ?_
 refine zC 6 mixed rfl rfl ?_
 repeat refine u ?_
 refine d1 (oca rfl rfl fun _=>kswithin) ?_
 refine d1 (oca rfl rfl fun _=>kshas (by omega) (by omega) hk ha hr hx hw hv) ?_
 repeat refine u ?_
 exact e
theorem rG:zH []=(((-1:Rat),(-1:Rat)),((1:Rat),(1:Rat))):=by decide +kernel
theorem yB8 {raw:List Rat}(h:∀ x,x∈raw↔x = -1∨x=1):setOf cmpR raw=[-1,1]:=by
 refine(IsSet.eq jC ⟨?_,fun x=>?_⟩).symm
 ·exact zay.2 ⟨fun b hb=>by rw[zal.1 hb];decide +kernel,List.pairwise_singleton _ _⟩
 ·rw[h];simp
theorem rE:xsM []=[-1,1]:=by
 unfold xsM cutsOf
 refine yB8 fun x=>?_
 rw[rG];unfold rawC mS meetX
 rw[show yD ([]:List (List P2))=[] from rfl]
 simp
theorem zP3:lvM [] 0=[(-1,-1),(1,1)]:=by
 unfold lvM
 rw[rE,rG]
 refine(mD ?_).symm
 rw[if_pos (by decide +kernel)]
 refine⟨zay.2 ⟨fun b hb=>by rw[zal.1 hb];decide +kernel,List.pairwise_singleton _ _⟩,fun x=>?_⟩
 unfold yR
 simp[jB]
theorem tV {i:Nat}(h:i<2):wlM [] i=[-1,1]:=by
 unfold wlM
 refine yB8 fun x=>?_
 rw[iL,rG,rE]
 have:i=0∨i=1:=by omega
 rcases this with rfl | rfl
 ·rw[zP3];simp
  grind
 ·rw[show 1-1=0 by omega,zP3];simp
  grind
abbrev jnT (p:Nat×Nat):CT:=st [xc (.int .i64 ((p.1:Nat):Int)),xc (.int .i64 ((p.2:Nat):Int))]
abbrev jn2 (p:Nat×Nat):List PV:=[exP (.int .i64 ((p.1:Nat):Int)),exP (.int .i64 ((p.2:Nat):Int))]
abbrev xi (n:Nat):CT:=xc (.int .i64 ((n:Nat):Int))
abbrev firT (N:Nat)(m:Mdl)(wo so:List Nat):CT:=st [mdT N m,sl 1 (wo.map xi),sl 1 (so.map xi)]
def cpI (a b:Nat):Int:=if a<b then -1 else if b<a then 1 else 0
theorem yT1 {a:Int}:CTy prog 185 [exP (.int .i64 a)] (exP (.bool false)):=by
 refine fw [.tmp 2] func185 fun X=>?_
 repeat refine u ?_
 exact e
theorem xC2 {a b:Nat}:CTy prog 108 [exP (.int .i64 ((a:Nat):Int)),exP (.int .i64 ((b:Nat):Int))] (exP (.int .i64 (cpI a b))):=by
 refine fw [.tmp 4] func108 fun X=>?_
 repeat refine u ?_
 refine zA1 (oca rfl rfl fun _=>yT1) ?_
 repeat refine u ?_
 refine zA1 (oca rfl rfl fun _=>yT1) ?_
 repeat refine u ?_
 refine qG rfl rfl ?_
 repeat refine u ?_
 refine qG rfl rfl ?_
 repeat refine u ?_
 refine tp (fun c2=>?_) fun c2=>?_
 repeat refine u ?_
 refine e ?_
 refine ps_i ?_
 rotate_left
 repeat refine u ?_
 refine tp (fun c3=>?_) fun c3=>?_
 repeat refine u ?_
 refine e ?_
 refine ps_i ?_
 rotate_left
 repeat refine u ?_
 refine e ?_
 refine ps_i ?_
 rotate_left
 ·unfold cpI;rw[if_pos (by omega)]
 ·unfold cpI;rw[if_neg (by omega),if_pos (by omega)]
 ·unfold cpI;rw[if_neg (by omega),if_neg (by omega)]
theorem kcmporL {x y:Int}:CTy prog 107 [sv (sl 1 ([x,y].map fun z=>xc (.int .i64 z)))] (exP (.int .i64 (if x≠0 then x else y))):=by
 refine fw [.tmp 2] func107 fun X=>?_
 repeat refine u ?_
 refine lp (σ:=Nat) [3,6,7] (fun i=>[(8,True,exP (.int .i64 ((i:Nat):Int)))]) (fun i=>[]) (fun i=>i=0∨i=1∧x=0∨i=2∧x=0∧y=0) (fun i=>2-i) (0) ((.inl rfl)) fun i hJ Y _=>?_
 repeat refine u ?_
 refine tp (fun c0=>?_) fun c0=>?_
 repeat refine u ?_
 refine tp (fun c1=>?_) fun c1=>?_
 repeat refine u ?_
 refine e ?_
 refine ps_i ?_
 rotate_left
 repeat refine u ?_
 rotate_left
 repeat refine u ?_
 refine e ?_
 refine ps_i ?_
 rotate_left
 ·rcases hJ with rfl | ⟨rfl,rfl⟩ | ⟨rfl,rfl,rfl⟩
  ·rw[if_pos (show x≠0 from c1)];rfl
  ·rw[if_neg (by simp)];rfl
  ·exact absurd c0 (by simp)
 ·refine⟨i+1,tes ?_ ?_ (List.Sublist.refl _),?_,?_⟩
  refine tc rfl (ps_r _) (tn)
  refine tc rfl (ps_r _) (tc rfl (ps_r _) (tc rfl (ps_r _) (tn)))
  rotate_left
  rotate_left
  rcases hJ with rfl | ⟨rfl,rfl⟩ | ⟨rfl,rfl,rfl⟩
  ·exact .inr (.inl ⟨rfl,zcr.1 c1⟩)
  ·exact .inr (.inr ⟨rfl,rfl,zcr.1 c1⟩)
  ·exact absurd c0 (by simp)
  ·have:(i:Int)<2:=c0
   omega
 ·rcases hJ with rfl | ⟨rfl,rfl⟩ | ⟨rfl,rfl,rfl⟩
  ·exact absurd (show (0:Int)<2 by omega) c0
  ·exact absurd (show (1:Int)<2 by omega) c0
  ·rfl
theorem kcmpor {x y:Int}:CTy prog 107 [sv (sl 1 [xc (.int .i64 x),xc (.int .i64 y)])] (exP (.int .i64 (if x≠0 then x else y))):=kcmporL
theorem kjcmp {p q:Nat×Nat}:CTy prog 106 [ag (jnT p),ag (jnT q)] (exP (.int .i64 (cmpJ p q))):=by
 refine fw [.tmp 4] func106 fun X=>?_
 iterate 7 refine u ?_
 refine zC 13 mixed rfl rfl ?_
 repeat refine u ?_
 refine d1 (oca rfl rfl fun _=>xC2) ?_
 repeat refine u ?_
 refine d1 (oca rfl rfl fun _=>xC2) ?_
 repeat refine u ?_
 refine d1 (oca rfl rfl fun _=>kcmpor) ?_
 repeat refine u ?_
 refine e ?_
 refine ps_i ?_
 unfold cpI cmpJ
 obtain⟨p1,p2⟩:=p;obtain⟨q1,q2⟩:=q
 dsimp only
 rcases zbN p1 q1 with h | h | h
 ·rw[if_pos h,if_pos (by omega),if_neg (by omega),if_pos h]
 ·subst h
  rw[if_neg (Nat.lt_irrefl _),if_neg (by simp),if_pos rfl]
  rcases zbN p2 q2 with g | g | g
  ·rw[if_pos g,if_pos g]
  ·subst g;rw[if_neg (Nat.lt_irrefl _),if_neg (Nat.lt_irrefl _),if_neg (Nat.lt_irrefl _),if_pos rfl]
  ·rw[if_neg (by omega),if_pos g,if_neg (by omega),if_neg (by omega)]
 ·have e1:¬ p1<q1:=by omega
  have e2:¬ p1=q1:=by omega
  rw[if_neg e1,if_pos h,if_pos (by decide),if_neg e2,if_neg e1]
theorem yU8 {W n:Nat}(hn:W+2*n≤1000000000):CIt prog 257 [pa (xi n),pa (xi W)] (gL W n) jn2:=by
 unfold gL
 refine cit func257 rfl rfl rfl rfl rfl fun X y YS YX hY hS=>?_
 iterate 5 refine u ?_
 refine zA1 (yJ (omx rfl rfl) (ps_i (show _=((2*n-2:Nat):Int) by omega))) ?_
 repeat refine u ?_
 refine lpy (σ:=Nat) [0,2,8] (fun i=>[(9,True,exP (.int .i64 ((i:Nat):Int)))]) (fun i=>[]) (fun i Y=>YS ((List.range i).map fun i=>(W+i,W+i+1)) Y∧i≤2*n-2) (fun i=>2*n-2-i) (0) (⟨hS,by omega⟩) fun i Y hG=>?_
 obtain⟨hS,hi⟩:=hG
 repeat refine u ?_
 refine tp (fun c0=>?_) fun c0=>?_
 repeat refine u ?_
 rotate_left
 repeat refine u ?_
 rotate_left
 ·refine cC hY hS (zK4 _ (show i<2*n-2 by omega)).choose_spec rfl rfl (fs1 (ps_i (by simp only;omega)) (fs1 (ps_i (by simp only;omega)) fs0)) (fun Y hS=>?_) (fun Y hX=>?_)
  ·repeat refine u ?_
   refine qG rfl rfl ?_
   repeat refine u ?_
   refine⟨i+1,tes ?_ ?_ (List.Sublist.refl _),?_,(by omega)⟩
   refine tc rfl (ps_r _) (tn)
   refine tc rfl (ps_r _) (tc rfl (ps_r _) (tc rfl (ps_r _) (tn)))
   exact⟨by rw[lM];exact hS,by omega⟩
  ·repeat refine u ?_
   refine aQ rfl rfl ?_
   repeat refine u ?_
   exact .inr hX
 ·rw[show 2*n-2=i by omega];exact .inl hS
theorem yH9 {W n:Nat}:CTy prog 181 [exP (.int .i64 ((W:Nat):Int)),exP (.int .i64 ((n:Nat):Int))] (fn 257 [pa (xi n),pa (xi W)]):=by
 refine fw [.tmp 4] func181 fun X=>?_
 repeat refine u ?_
 exact e
theorem eB {N:Nat}{m:Mdl}{wo so:List Nat}{slab wall:Nat}{e:List Rat}:CTy prog 182 [ag (firT N m wo so),exP (.int .i64 ((slab:Nat):Int)),exP (.int .i64 ((wall:Nat):Int)),sv (sl 3 (e.map (rtc N)))] (fn 258 [pa (firT N m wo so),pa (xi wall),pa (sl 3 (e.map (rtc N))),pa (xi slab)]):=by
 refine fw [.tmp 8] func182 fun X=>?_
 repeat refine u ?_
 refine⟨[_],rst rfl rs0,yF (PSub.refl _)⟩
theorem sU {N:Nat}{l:List P2}{b:Bool}(hl:l.length≤1000000):CTy prog 183 [sv (sl 6 (l.map (ptc N))),exP (.bool b)] (sv (sl 3 ((l.map fun a=>if b then a.2 else a.1).map (rtc N)))):=by
 refine fw [.tmp 4] func183 fun X=>?_
 repeat refine u ?_
 refine t_ts (xK 29 3) ?_
 refine lp (σ:=Nat×Value) [1,7,8] (fun s=>[(4,True,exP s.2),(9,True,exP (.int .i64 ((s.1:Nat):Int)))]) (fun s=>[.row s.2 29 3 (((l.take s.1).map fun a=>if b then a.2 else a.1).map (rtc N))]) (fun s=>s.1≤l.length) (fun s=>l.length-s.1) ((0,.slice none 0 0)) ((by simp)) fun s hJ Y _=>?_
 obtain⟨i,v⟩:=s
 dsimp only at hJ ⊢
 repeat refine u ?_
 refine tp (fun c0=>?_) fun c0=>?_
 iterate 7 refine u ?_
 refine u fun b6=>?_
 refine tst 0 rfl rfl rfl rfl rfl rfl (zK (zT (s:=6) 0 rfl rfl) ?_)
 repeat refine u ?_
 refine tp (fun c1=>?_) fun c1=>?_
 repeat refine u ?_
 refine tap 0 rfl rfl rfl (by(simp;omega)) rfl fun r18=>?_
 repeat refine u ?_
 rotate_left
 repeat refine u ?_
 refine tap 0 rfl rfl rfl (by(simp;omega)) rfl fun r23=>?_
 repeat refine u ?_
 rotate_left
 iterate 7 refine u ?_
 refine t_ts (yC (s:=4) 0 rfl rfl) ?_
 repeat refine u ?_
 refine e ?_
 rotate_left
 ·refine⟨(i+1,r18),tes ?_ ?_ ?_,(by omega),(by omega)⟩
  refine tc rfl (ps_r _) (tc rfl (ps_r _) (tn))
  refine tc rfl (ps_r _) (tc rfl (ps_r _) (tc rfl (ps_r _) (tn)))
  rw[(zJ (Df.d:P2) (l:=l) (s:=i) (by omega)).1,zaq,zaq,show (List.map (fun a:P2=>if b then a.2 else a.1) [l.getD i Df.d])=[(l.getD i Df.d).2] by rw[zcO,if_pos c1]];exact List.Sublist.refl _
 ·refine⟨(i+1,r23),tes ?_ ?_ ?_,(by omega),(by omega)⟩
  refine tc rfl (ps_r _) (tc rfl (ps_r _) (tn))
  refine tc rfl (ps_r _) (tc rfl (ps_r _) (tc rfl (ps_r _) (tn)))
  rw[(zJ (Df.d:P2) (l:=l) (s:=i) (by omega)).1,zaq,zaq,show (List.map (fun a:P2=>if b then a.2 else a.1) [l.getD i Df.d])=[(l.getD i Df.d).1] by rw[zcO,if_neg c1]];exact List.Sublist.refl _
 ·rw[zav (by omega)];exact PSub.refl _
theorem ifc {p q:Prop}[Decidable p][Decidable q]{α:Type}{x y:α}(h:p↔q):(if p then x else y)=if q then x else y:=by
 by_cases c:q
 ·rw[if_pos c,if_pos (h.2 c)]
 ·rw[if_neg c,if_neg fun d=>c (h.1 d)]
theorem yJ1 {α:Type}(f:Nat→List α){n k:Nat}(h:k<n):∃ post,(List.range n).flatMap f=(List.range k).flatMap f++(f k++post):=by
 obtain⟨m,rfl⟩:∃ m,n=k+1+m:=⟨n-(k+1),by omega⟩
 exact⟨((List.range m).map (k+1 + ·)).flatMap f,by rw[List.range_add,zaX,zcN,zcN];simp⟩
abbrev acA (W S:Nat)(y e:List Rat)(k r:Nat):List (Nat×Nat):=if e.getD r 0=y.getD k 0 then [(W+2*k,S+2*r)] else []
abbrev acB (W S:Nat)(y e:List Rat)(k r:Nat):List (Nat×Nat):=if r+1<e.length∧e.getD r 0≤y.getD k 0∧y.getD k 0≤e.getD (r+1) 0 then [(W+2*k,S+2*r+1)] else []
abbrev acC (W S:Nat)(y e:List Rat)(k r:Nat):List (Nat×Nat):=if r+1<e.length∧e.getD r 0≤y.getD k 0∧y.getD k 0<e.getD (r+1) 0∧k+1<y.length then [(W+2*k+1,S+2*r+1)] else []
theorem zO8 (W S:Nat)(y e:List Rat)(k r:Nat):acrK W S y e k r=acA W S y e k r++acB W S y e k r++acC W S y e k r:=rfl
theorem yA9 {W S:Nat}{y e:List Rat}{k r:Nat}(hk:k<y.length)(hr:r<e.length):∃ post,acrS W S y e=(List.range k).flatMap (acrR W S y e)++(List.range r).flatMap (acrK W S y e k)++(acA W S y e k r++acB W S y e k r++acC W S y e k r++post):=by
 obtain⟨p1,e1⟩:=yJ1 (acrR W S y e) hk
 obtain⟨p2,e2⟩:=yJ1 (acrK W S y e k) hr
 refine⟨p2++p1,?_⟩
 unfold acrS;rw[e1]
 have e3:acrR W S y e k=(List.range e.length).flatMap (acrK W S y e k):=rfl
 rw[e3,e2,zO8];simp only[zaA]
section
variable {W S : Nat} {y e : List Rat} {k r : Nat}
theorem acr_A (hk:k<y.length)(hr:r<e.length)(h:e.getD r 0=y.getD k 0):∃ post,acrS W S y e=(List.range k).flatMap (acrR W S y e)++(List.range r).flatMap (acrK W S y e k)++(W+2*k,S+2*r)::post:=by
 obtain⟨post,hp⟩:=yA9 (W:=W) (S:=S) hk hr
 exact⟨acB W S y e k r++acC W S y e k r++post,by rw[hp,show acA W S y e k r=[(W+2*k,S+2*r)] from if_pos h];simp⟩
theorem acr_B (hk:k<y.length)(hr:r<e.length)(h:r+1<e.length∧e.getD r 0≤y.getD k 0∧y.getD k 0≤e.getD (r+1) 0):∃ post,acrS W S y e=(List.range k).flatMap (acrR W S y e)++(List.range r).flatMap (acrK W S y e k)++acA W S y e k r++(W+2*k,S+2*r+1)::post:=by
 obtain⟨post,hp⟩:=yA9 (W:=W) (S:=S) hk hr
 exact⟨acC W S y e k r++post,by rw[hp,show acB W S y e k r=[(W+2*k,S+2*r+1)] from if_pos h];simp⟩
theorem acr_C (hk:k<y.length)(hr:r<e.length)(h:r+1<e.length∧e.getD r 0≤y.getD k 0∧y.getD k 0<e.getD (r+1) 0∧k+1<y.length):∃ post,acrS W S y e=(List.range k).flatMap (acrR W S y e)++(List.range r).flatMap (acrK W S y e k)++acA W S y e k r++acB W S y e k r++(W+2*k+1,S+2*r+1)::post:=by
 obtain⟨post,hp⟩:=yA9 (W:=W) (S:=S) hk hr
 exact⟨post,by rw[hp,show acC W S y e k r=[(W+2*k+1,S+2*r+1)] from if_pos h];simp⟩
end
theorem mI {N:Nat}{m:Mdl}{wo so:List Nat}{wall slab:Nat}{e:List Rat}(hN:N≤40000)(h1:wall<m.wl.length)(h2:wall<wo.length)(h3:slab<so.length)(b1:wo.getD wall Df.d≤1000000000)(b2:so.getD slab Df.d≤1000000000)(b3:(m.wl.getD wall Df.d).length≤1000000)(b4:e.length≤1000000) :
  CIt prog 258 [pa (firT N m wo so),pa (xi wall),pa (sl 3 (e.map (rtc N))),pa (xi slab)] (acrS (wo.getD wall Df.d) (so.getD slab Df.d) (m.wl.getD wall Df.d) e) jn2:=by
 refine cit func258 rfl rfl rfl rfl rfl fun X y YS YX hY hS=>?_
 repeat refine u ?_
 refine rO (σ:=Nat) (fun k=>[(22,True,exP (.int .i64 ((k:Nat):Int)))]) (fun k=>[]) (fun k Y=>YS ((List.range k).flatMap (acrR (wo.getD wall Df.d) (so.getD slab Df.d) (m.wl.getD wall Df.d) e)) Y∧k≤(m.wl.getD wall Df.d).length) (fun k=>(m.wl.getD wall Df.d).length-k) (0) (tk 0 rfl (tk 1 rfl (tk 2 rfl (tk 3 rfl (tk 4 rfl (tk 6 rfl (tk 20 rfl (tk 21 rfl tn)))))))) ?_ rfl (⟨hS,by omega⟩) (fun k Y hG=>?_)
 refine tc rfl (ps_r _) (tn)
 obtain⟨hS,hk⟩:=hG
 repeat refine u ?_
 refine tp (fun c0=>?_) fun c0=>?_
 iterate 8 refine u ?_
 refine u fun b8=>?_
 iterate 2 refine u ?_
 refine zK (zT (s:=8) 0 rfl rfl) ?_
 repeat refine u ?_
 rotate_left
 repeat refine u ?_
 rotate_left
 ·have hk2:k<(m.wl.getD wall Df.d).length:=by omega
  refine rO (σ:=Nat) (fun r=>[(29,True,exP (.int .i64 ((r:Nat):Int)))]) (fun r=>[]) (fun r Y=>YS ((List.range k).flatMap (acrR (wo.getD wall Df.d) (so.getD slab Df.d) (m.wl.getD wall Df.d) e)++(List.range r).flatMap (acrK (wo.getD wall Df.d) (so.getD slab Df.d) (m.wl.getD wall Df.d) e k)) Y∧r≤e.length) (fun r=>e.length-r) (0) (tk 0 rfl (tk 1 rfl (tk 2 rfl (tk 3 rfl (tk 4 rfl (tk 6 rfl (tk 7 rfl (tk 8 rfl (tk 20 rfl (tk 21 rfl (tk 22 rfl (tk 27 rfl (tk 28 rfl tn))))))))))))) ?_ rfl (⟨by simpa using hS,by omega⟩) (fun r Y hG=>?_)
  refine tc rfl (ps_r _) (tn)
  obtain⟨hS,hr⟩:=hG
  repeat refine u ?_
  refine tp (fun c1=>?_) fun c1=>?_
  iterate 8 refine u ?_
  refine u fun b10=>?_
  iterate 2 refine u ?_
  refine zK (zT (s:=10) 0 rfl rfl) ?_
  repeat refine u ?_
  refine zA1 (oca rfl rfl fun _=>oN (by omega) (by omega)) ?_
  repeat refine u ?_
  refine t1g rfl rfl (omv rfl) ?_
  repeat refine u ?_
  rotate_left
  repeat refine u ?_
  rotate_left
  ·have hr2:r<e.length:=by omega
   have gA:decide (cmpR (e.getD r Df.d) ((m.wl.getD wall Df.d).getD k Df.d)=0)=true↔e.getD r 0=(m.wl.getD wall Df.d).getD k 0:=by rw[decide_eq_true_eq,yT];exact Iff.rfl
   refine rN (x:=(wo.getD wall Df.d+2*k,so.getD slab Df.d+2*r)) hY hS rfl rfl (fun h=>acr_A hk2 hr2 (gA.1 h)) rfl rfl (fs1 (ps_i (by simp only;omega)) (fs1 (ps_i (by simp only;omega)) fs0)) (fun Y hS=>?_) (fun hg Y hX=>?_)
   ·have eA:(if decide (cmpR (e.getD r Df.d) ((m.wl.getD wall Df.d).getD k Df.d)=0)=true then [(wo.getD wall Df.d+2*k,so.getD slab Df.d+2*r)] else [])=acA (wo.getD wall Df.d) (so.getD slab Df.d) (m.wl.getD wall Df.d) e k r:=by
     exact ifc gA
    rw[eA] at hS
    repeat refine u ?_
    refine tp (fun c2=>?_) fun c2=>?_
    rotate_left
    repeat refine u ?_
    refine zA1 (old rfl rfl) ?_
    repeat refine u ?_
    refine tp (fun c3=>?_) fun c3=>?_
    repeat refine u ?_
    refine zA1 (oad rfl rfl (by omega)) ?_
    repeat refine u ?_
    rotate_left
    iterate 2 refine u ?_
    refine zC 8 mixed rfl rfl ?_
    repeat refine u ?_
    refine d1 (old rfl rfl) ?_
    repeat refine u ?_
    refine d1 (old rfl rfl) (d1 (oca rfl rfl fun _=>oN (by omega) (by omega)) ?_)
    repeat refine u ?_
    refine t1g rfl rfl (omv rfl) ?_
    refine t1g rfl rfl (ofa rfl rfl) ?_
    repeat refine u ?_
    refine t1g rfl rfl (old rfl rfl) ?_
    repeat refine u ?_
    refine t1g rfl rfl (omv rfl) ?_
    repeat refine u ?_
    refine t1g rfl rfl (omv rfl) ?_
    repeat refine u ?_
    rotate_left
    ·exact absurd rfl c2.2
    ·have e2:r+1=e.length:=by omega
     have eK:acrK (wo.getD wall Df.d) (so.getD slab Df.d) (m.wl.getD wall Df.d) e k r=acA (wo.getD wall Df.d) (so.getD slab Df.d) (m.wl.getD wall Df.d) e k r:=by
      rw[zO8,acB,if_neg (fun c=>by omega),acC,if_neg (fun c=>by omega),zao,zao]
     refine⟨k+1,tes ?_ ?_ (List.Sublist.refl _),?_,(by omega)⟩
     refine tc rfl (ps_r _) (tn)
     refine tc rfl (ps_r _) (tc rfl (ps_r _) (tc rfl (ps_r _) (tc rfl (ps_r _) (tc rfl (ps_r _) (tc rfl (ps_r _) (tc rfl (ps_r _) (tc rfl (ps_r _) (tn))))))))
     refine⟨?_,by omega⟩
     rw[jV,show acrR (wo.getD wall Df.d) (so.getD slab Df.d) (m.wl.getD wall Df.d) e k=(List.range (r+1)).flatMap (acrK (wo.getD wall Df.d) (so.getD slab Df.d) (m.wl.getD wall Df.d) e k) by rw[e2];rfl,jV,eK,← zaA];exact hS
    ·have hr3:r+1<e.length:=by omega
     have gB:(decide (cmpR (e.getD r Df.d) ((m.wl.getD wall Df.d).getD k Df.d)≤0)&&decide (0≤cmpR (e.getD (r+1) Df.d) ((m.wl.getD wall Df.d).getD k Df.d)))=true↔r+1<e.length∧e.getD r 0≤(m.wl.getD wall Df.d).getD k 0∧(m.wl.getD wall Df.d).getD k 0≤e.getD (r+1) 0:=by
      rw[zan,decide_eq_true_eq,decide_eq_true_eq,kU,uS];exact⟨fun h=>⟨hr3,h.1,h.2⟩,fun h=>h.2⟩
     refine rN (x:=(wo.getD wall Df.d+2*k,so.getD slab Df.d+2*r+1)) hY hS rfl rfl (fun h=>acr_B hk2 hr2 (gB.1 h)) rfl rfl (fs1 (ps_i (by simp only;omega)) (fs1 (ps_i (by simp only;omega)) fs0)) (fun Y hS=>?_) (fun hg Y hX=>?_)
     ·rw[ifc gB] at hS
      repeat refine u ?_
      refine tp (fun c4=>?_) fun c4=>?_
      rotate_left
      repeat refine u ?_
      refine zA1 (omv rfl) ?_
      repeat refine u ?_
      refine t1g rfl rfl (omv rfl) ?_
      repeat refine u ?_
      refine t1g rfl rfl (omv rfl) ?_
      repeat refine u ?_
      refine t1g rfl rfl (omv rfl) ?_
      refine t1g rfl rfl (ofa rfl rfl) ?_
      repeat refine u ?_
      refine t1g rfl rfl (old rfl rfl) ?_
      repeat refine u ?_
      refine t1g rfl rfl (omv rfl) ?_
      repeat refine u ?_
      refine t1g rfl rfl (omv rfl) ?_
      repeat refine u ?_
      rotate_left
      ·exact absurd rfl c4.2
      ·have gC:(decide (cmpR (e.getD r Df.d) ((m.wl.getD wall Df.d).getD k Df.d)≤0)&&decide (0<cmpR (e.getD (r+1) Df.d) ((m.wl.getD wall Df.d).getD k Df.d))&&decide ((k:Int)+1<(m.wl.getD wall Df.d).length))=true↔r+1<e.length∧e.getD r 0≤(m.wl.getD wall Df.d).getD k 0∧(m.wl.getD wall Df.d).getD k 0<e.getD (r+1) 0∧k+1<(m.wl.getD wall Df.d).length:=by
        rw[zan,zan,decide_eq_true_eq,decide_eq_true_eq,decide_eq_true_eq,kU,aU];exact⟨fun h=>⟨hr3,h.1.1,h.1.2,by omega⟩,fun h=>⟨⟨h.2.1,h.2.2.1⟩,by omega⟩⟩
       refine rN (x:=(wo.getD wall Df.d+2*k+1,so.getD slab Df.d+2*r+1)) hY hS rfl rfl (fun h=>acr_C hk2 hr2 (gC.1 h)) rfl rfl (fs1 (ps_i (by simp only;omega)) (fs1 (ps_i (by simp only;omega)) fs0)) (fun Y hS=>?_) (fun hg Y hX=>?_)
       ·rw[ifc gC] at hS
        repeat refine u ?_
        refine tp (fun c5=>?_) fun c5=>?_
        rotate_left
        repeat refine u ?_
        refine zA1 (oad rfl rfl (by omega)) ?_
        repeat refine u ?_
        rotate_left
        ·exact absurd rfl c5.2
        ·refine⟨r+1,tes ?_ ?_ (List.Sublist.refl _),?_,(by omega)⟩
         refine tc rfl (ps_r _) (tn)
         refine tc rfl (ps_r _) (tc rfl (ps_r _) (tc rfl (ps_r _) (tc rfl (ps_r _) (tc rfl (ps_r _) (tc rfl (ps_r _) (tc rfl (ps_r _) (tc rfl (ps_r _) (tc rfl (ps_r _) (tc rfl (ps_r _) ?_)))))))))
         refine tc rfl (ps_r _) (tc rfl (ps_r _) (tc rfl (ps_r _) (tn)))
         refine⟨?_,by omega⟩
         rw[jV,zO8];simp only[← zaA];exact hS
       ·repeat refine u ?_
        refine tp (fun c5=>?_) fun c5=>?_
        repeat refine u ?_
        rotate_left
        rotate_left
        ·exact .inr hX
        ·simp only[zan,decide_eq_true_eq] at hg
         exact absurd ⟨hg,by simp⟩ c5
     ·repeat refine u ?_
      refine tp (fun c4=>?_) fun c4=>?_
      repeat refine u ?_
      rotate_left
      rotate_left
      ·exact .inr hX
      ·simp only[zan,decide_eq_true_eq] at hg
       exact absurd ⟨hg,by simp⟩ c4
   ·repeat refine u ?_
    refine tp (fun c2=>?_) fun c2=>?_
    repeat refine u ?_
    rotate_left
    rotate_left
    ·exact .inr hX
    ·exact absurd ⟨of_decide_eq_true hg,by simp⟩ c2
  ·refine⟨k+1,tes ?_ ?_ (List.Sublist.refl _),?_,(by omega)⟩
   refine tc rfl (ps_r _) (tn)
   refine tc rfl (ps_r _) (tc rfl (ps_r _) (tc rfl (ps_r _) (tc rfl (ps_r _) (tc rfl (ps_r _) (tc rfl (ps_r _) (tc rfl (ps_r _) (tc rfl (ps_r _) (tn))))))))
   refine⟨?_,by omega⟩
   rw[jV,show acrR (wo.getD wall Df.d) (so.getD slab Df.d) (m.wl.getD wall Df.d) e k=(List.range r).flatMap (acrK (wo.getD wall Df.d) (so.getD slab Df.d) (m.wl.getD wall Df.d) e k) by rw[show r=e.length by omega];rfl];exact hS
 ·rw[show k=(m.wl.getD wall Df.d).length by omega] at hS
  exact .inl hS
def bQ (ls:List (List PX)):Bool:=decide (ls.length≤3)&&ls.all fun l=>decide (l.length≤6)&&gX l
theorem few24_at {ls:List (List PX)}{i:Nat}(hi:i<ls.length)(h:(decide ((ls.getD i Df.d).length≤6)&&gX (ls.getD i Df.d))=false):bQ ls=false:=by
 rw[zaf,zag hi,zbu] at h
 unfold bQ
 rw[zcM]
 right
 rw[List.all_eq_false]
 exact⟨_,zaH hi,by rw[h];simp⟩
theorem yU2 {ls:List (List PX)}:CTy prog 95 [sv (sl 1 (ls.map pcx))] (exP (.bool (bQ ls))):=by
 refine fw [.tmp 2] func95 fun X=>?_
 repeat refine u ?_
 refine lp (σ:=Nat) [0] (fun i=>[(3,True,exP (.int .i64 ((i:Nat):Int)))]) (fun i=>[]) (fun i=>i≤ls.length∧i≤4∧∀ l∈ls.take i,(decide (l.length≤6)&&gX l)=true) (fun i=>ls.length-i) (0) (⟨by omega,by omega,by simp⟩) fun i hJ Y _=>?_
 obtain⟨hi,h4,hs⟩:=hJ
 repeat refine u ?_
 refine tp (fun c0=>?_) fun c0=>?_
 repeat refine u ?_
 refine t1g rfl rfl (oca rfl rfl fun g=>ksmall) ?_
 repeat refine u ?_
 refine tp (fun c1=>?_) fun c1=>?_
 repeat refine u ?_
 refine e ?_
 refine psb ?_
 rotate_left
 repeat refine u ?_
 rotate_left
 repeat refine u ?_
 refine e ?_
 refine psb ?_
 rotate_left
 ·refine(few24_at (i:=i) (by omega) ?_).symm
  rw[zcM,decide_eq_false_iff_not]
  rcases c1 with c | c
  ·left;omega
  ·right;simpa using c
 ·refine nxt (i+1) ?_
  refine⟨by omega,by omega,fun l hl=>?_⟩
  rw[(zJ (Df.d:List PX) (show i<ls.length by omega)).1] at hl
  rcases zac.1 hl with h | h
  ·exact hs l h
  ·rw[zal.1 h,zan,decide_eq_true_eq]
   exact⟨by omega,Classical.byContradiction fun k=>c1 (.inr k)⟩
 ·unfold bQ
  by_cases h:i=ls.length
  ·subst h
   rw[zaY] at hs
   rw[zaF.2 hs,Bool.and_true]
   exact decide_eq_decide.2 (by omega)
  ·rw[decide_eq_false (by omega),decide_eq_false (show ¬ ls.length≤3 by omega),Bool.false_and]
def tF (r:List PX)(ts:List TX3):Bool:=decide (r.length≤4)&&decide (ts.length≤2)&&bQ [r] && !sZ ts&&ts.all fun t=>bQ [trl t]
theorem fX {r:List PX}{ts:List TX3}:tF r ts=true↔r.length≤4∧ts.length≤2∧bQ [r]=true∧sZ ts=false∧∀ t∈ts,bQ [trl t]=true:=by
 unfold tF
 simp only[zan,decide_eq_true_eq,Bool.not_eq_true',zaF,and_assoc]
theorem zU8 {r:List PX}{ts:List TX3}(h:¬ (r.length≤4∧ts.length≤2∧bQ [r]=true∧sZ ts=false∧∀ t∈ts,bQ [trl t]=true)):tF r ts=false:=by
 rw[← fX] at h;simpa using h
theorem k26few {r:List PX}{ts:List TX3}:CTy prog 31 [sv (pcx r),sv (sl 18 (ts.map trx))] (exP (.bool (tF r ts))):=by
 refine fw [.tmp 4] func31 fun X=>?_
 repeat refine u ?_
 refine t1g rfl rfl (oca rfl rfl fun _=>yU2 (ls:=[r])) ?_
 repeat refine u ?_
 refine t1g rfl rfl (oca rfl rfl fun g=>kgtris) ?_
 repeat refine u ?_
 refine tp (fun c0=>?_) fun c0=>?_
 repeat refine u ?_
 refine e ?_
 refine psb ?_
 rotate_left
 repeat refine u ?_
 rotate_left
 ·refine(zU8 fun h=>?_).symm
  rcases c0 with((c | c) | c) | c
  ·omega
  ·omega
  ·exact c h.2.2.1
  ·rw[h.2.2.2.1] at c;cases c
 refine lp (σ:=Nat) [1] (fun i=>[(5,True,exP (.int .i64 ((i:Nat):Int)))]) (fun i=>[]) (fun i=>i≤ts.length∧∀ t∈ts.take i,bQ [trl t]=true) (fun i=>ts.length-i) (0) (⟨by omega,by simp⟩) fun i hJ Y _=>?_
 obtain⟨hi,hs⟩:=hJ
 repeat refine u ?_
 refine tp (fun c1=>?_) fun c1=>?_
 repeat refine u ?_
 refine zA1 (oca rfl rfl fun _=>zT9) ?_
 repeat refine u ?_
 refine zA1 (oca rfl rfl fun _=>yU2 (ls:=[trl (ts.getD i Df.d)])) ?_
 repeat refine u ?_
 refine tp (fun c2=>?_) fun c2=>?_
 repeat refine u ?_
 refine e ?_
 refine psb ?_
 rotate_left
 repeat refine u ?_
 rotate_left
 repeat refine u ?_
 refine e ?_
 refine psb ?_
 rotate_left
 ·exact(zU8 fun h=>c2 (h.2.2.2.2 _ (yP (by omega)))).symm
 ·refine nxt (i+1) ?_
  refine⟨by omega,fun t ht=>?_⟩
  rw[(zJ (Df.d:TX3) (show i<ts.length by omega)).1] at ht
  rcases zac.1 ht with h | h
  ·exact hs t h
  ·rw[zal.1 h];exact zcr.1 c2
 ·have:i=ts.length:=by omega
  subst this
  rw[zaY] at hs
  refine(fX.2 ⟨?_,?_,?_,?_,hs⟩).symm
  ·have:¬ 4<(r.length:Int):=fun c=>c0 (.inl (.inl (.inl c)))
   omega
  ·have:¬ 2<(ts.length:Int):=fun c=>c0 (.inl (.inl (.inr c)))
   omega
  ·exact Classical.byContradiction fun c=>c0 (.inl (.inr c))
  ·exact Bool.eq_false_iff.2 fun c=>c0 (.inr c)
noncomputable def modM (ls:List (List P2)):Mdl:=⟨zH ls,xsM ls,lvsM ls,wlsM ls,celM ls⟩
theorem inB_iff {s:Bool}{a x b:Rat}:inB s a x b=true↔if s then a<x∧x<b else a≤x∧x≤b:=by
 unfold inB dU
 cases s with
 | false =>
  simp only[zan,decide_eq_true_eq,Bool.false_eq_true,if_false]
  rw[kU,kU]
 | true =>
  simp only[zan,decide_eq_true_eq,if_true]
  rw[← xF,← xF]
  constructor<;>intro h<;>constructor<;>omega
theorem iW {lo hi x:Rat}{a:P2}(h:lo<hi):zD (lo,a.1) (hi,a.2) x=yU a (gO lo hi x):=by
 unfold zD atP yU gO
 rw[if_neg (by grind),if_pos h]
 simp only[addP,jT,subP]
 rw[Rat.mul_comm]
theorem has1 {s:Bool}{k:Nat}{a p:P2}:hasB s k [a] p=decide (a=p):=rfl
theorem has2w {s:Bool}{k:Nat}{a b p:P2}(h:k=1):hasB s k [a,b] p=(decide (a.1=p.1)&&inB s a.2 p.2 b.2):=by subst h;rfl
theorem has2s {s:Bool}{k:Nat}{a b p:P2}(h:k≠1):hasB s k [a,b] p=(inB s a.1 p.1 b.1&&decide (zD a b p.1=p.2)):=by
 show (if k=1 then _ else _)=_
 rw[if_neg h]
theorem has4 {s:Bool}{k:Nat}{a b c d p:P2}:hasB s k [a,b,c,d] p=(inB s a.1 p.1 b.1&&inB s (zD a b p.1) p.2 (zD d c p.1)):=rfl
theorem yI9 {ls:List (List P2)}{c j:Nat}(h:inC ls c j){s:Bool}{p:P2}:hasB s (2*(c%2)+j%2) (clsM (modM ls) (2*(c%2)+j%2) (c/2) (j/2)) p=true↔if s then ownC ls c j p else touC ls c j p:=by
 obtain⟨hc,hj⟩:=h
 have hd:(Df.d:Rat)=0:=rfl
 have hd2:(Df.d:P2)=(0,0):=rfl
 have hd3:(Df.d:List Rat)=[]:=rfl
 have hd4:(Df.d:List P2)=[]:=rfl
 have key:(if s then ownC ls c j p else touC ls c j p)↔(if s then posY (xsM ls) c p.1 else cloY (xsM ls) c p.1)∧(if s then posY (ycM ls c p.1) j p.2 else cloY (ycM ls c p.1) j p.2):=by
  cases s<;>rfl
 rw[key]
 have hpc:∀(l:List Rat) (i:Nat) (y:Rat),(if s then posY l (2*i) y else cloY l (2*i) y)↔y=l.getD i 0:=fun l i y=>by
  cases s
  ·show cloY l (2*i) y↔_
   unfold cloY;rw[if_pos (by omega),show 2*i/2=i by omega]
  ·show posY l (2*i) y↔_
   unfold posY;rw[if_pos (by omega),show 2*i/2=i by omega]
 have hpo:∀(l:List Rat) (i:Nat) (y:Rat),(if s then posY l (2*i+1) y else cloY l (2*i+1) y)↔inB s (l.getD i 0) y (l.getD (i+1) 0)=true:=fun l i y=>by
  rw[inB_iff]
  cases s
  ·show cloY l (2*i+1) y↔_
   unfold cloY;rw[if_neg (by omega),show (2*i+1)/2=i by omega];simp
  ·show posY l (2*i+1) y↔_
   unfold posY;rw[if_neg (by omega),show (2*i+1)/2=i by omega];simp
 rcases zbA c with mc | mc
 ·obtain⟨i,rfl⟩:∃ i,c=2*i:=⟨c/2,by omega⟩
  have hi:i<(xsM ls).length:=by omega
  rw[oR] at hj
  rw[hpc,oT,show 2*i%2=0 by omega,show 2*i/2=i by omega]
  have e1:(modM ls).wl.getD i Df.d=wlM ls i:=by rw[hd3];exact iK hi
  have e2:(modM ls).wl.length=(xsM ls).length:=iY ls
  rcases zbA j with mj | mj
  ·obtain⟨r,rfl⟩:∃ r,j=2*r:=⟨j/2,by omega⟩
   rw[hpc,show 2*r%2=0 by omega,show 2*r/2=r by omega]
   unfold clsM
   rw[if_pos (by omega),e1,if_pos ⟨hi,by omega,by omega⟩,if_neg (by omega)]
   rw[has1]
   rw[decide_eq_true_eq,hd]
   show ((xsM ls).getD i 0,(wlM ls i).getD r 0)=p↔_
   obtain⟨p1,p2⟩:=p
   rw[Prod.mk.injEq]
   exact⟨fun h=>⟨h.1.symm,h.2.symm⟩,fun h=>⟨h.1.symm,h.2.symm⟩⟩
  ·obtain⟨r,rfl⟩:∃ r,j=2*r+1:=⟨j/2,by omega⟩
   rw[hpo,show (2*r+1)%2=1 by omega,show (2*r+1)/2=r by omega]
   unfold clsM
   rw[if_pos (by omega),e1,if_pos ⟨hi,by omega,by omega⟩,if_pos (by omega)]
   rw[has2w (by omega),zan,decide_eq_true_eq,hd]
   show (xsM ls).getD i 0=p.1∧_↔_
   exact⟨fun h=>⟨h.1.symm,h.2⟩,fun h=>⟨h.1.symm,h.2⟩⟩
 ·obtain⟨i,rfl⟩:∃ i,c=2*i+1:=⟨c/2,by omega⟩
  have hi:i+1<(xsM ls).length:=by omega
  have hlt:=xS ls i hi
  rw[oS] at hj
  rw[hpo,oU,show (2*i+1)%2=1 by omega,show (2*i+1)/2=i by omega]
  have e1:(modM ls).lv.getD i Df.d=lvM ls i:=by rw[hd4];exact dW hi
  have e2:(modM ls).lv.length=(xsM ls).length-1:=fS ls
  rcases zbA j with mj | mj
  ·obtain⟨r,rfl⟩:∃ r,j=2*r:=⟨j/2,by omega⟩
   rw[hpc,show 2*r%2=0 by omega,show 2*r/2=r by omega,uB (by omega)]
   unfold clsM
   rw[if_neg (by omega),e1,if_pos ⟨by omega,hi,by omega⟩,if_neg (by omega)]
   rw[has2s (by omega),zan,decide_eq_true_eq,hd,hd2,show (modM ls).xs=xsM ls from rfl,iW hlt]
   exact⟨fun h=>⟨h.1,h.2.symm⟩,fun h=>⟨h.1,h.2.symm⟩⟩
  ·obtain⟨r,rfl⟩:∃ r,j=2*r+1:=⟨j/2,by omega⟩
   rw[hpo,show (2*r+1)%2=1 by omega,show (2*r+1)/2=r by omega,uB (by omega),uB (by omega)]
   unfold clsM
   rw[if_neg (by omega),e1,if_pos ⟨by omega,hi,by omega⟩,if_pos (by omega)]
   rw[has4,zan,hd,hd2,show (modM ls).xs=xsM ls from rfl,iW hlt,iW hlt]
theorem yG5 {f:Nat→Nat}{B:Nat}(h:∀ c,f c≤B):∀ c,offN f c≤c*B
 | 0=>zaB _
 | c+1=>by rw[zS5,zaS,zbe];exact Nat.add_le_add (yG5 h c) (h c)
theorem lv_len2 {lo hi yl yh:Rat}{es:List BX}:(lvOf lo hi yl yh es).length≤es.length+2:=by
 by_cases h:lo<hi
 ·exact lv_len h
 ·rw[← mD (l:=[]) (by rw[if_neg h])];exact zaB _
section
variable {ls : List (List P2)} (h : Prt ls)
include h
theorem corn_len:ls.flatten.length≤27:=by
 have:=zN3 (K:=9) h.nine
 have:=h.1;omega
theorem cM (i:Nat):(lvM ls i).length≤29:=zaa lv_len2 (by have:=ed_len h;omega)
theorem yB7 (i:Nat):(wlR ls i).length≤87:=by
 have h1:=cM h i
 have h2:=cM h (i-1)
 have h3:=corn_len h
 unfold wlR
 simp only[zak,zat,zbc,zah]
 have h4:=zcR (fun p:P2=>decide (p.1=(xsM ls).getD i 0)) ls.flatten
 have h5:(if 0<i then(lvM ls (i-1)).map (·.2) else []).length≤29:=by split<;>simp<;>omega
 have h6:(if i+1<(xsM ls).length then(lvM ls i).map (·.1) else []).length≤29:=by split<;>simp<;>omega
 omega
theorem bW (i:Nat):(wlM ls i).length≤87:=zaa (yW jC _) (yB7 h i)
theorem yB1 (c:Nat):ynM ls c≤87:=by
 unfold ynM;split
 ·exact bW h _
 ·have:=cM h (c/2);omega
theorem zM0 (c:Nat):offC ls c≤c*173:=yG5 (fun c=>by unfold nC;have:=yB1 h c;omega) c
theorem pW:(celM ls).length≤3460000:=by
 rw[pU]
 have h1:=zM0 h (kC ls)
 have h2:=dE h
 have h3:kC ls*173≤20000*173:=Nat.mul_le_mul_right _ (by unfold kC;omega)
 omega
end
theorem lv_edge {ls:List (List P2)}{lo hi:Rat}(hl:lo<hi){yl yh x:Rat}{a:P2}(ha:a∈lvOf lo hi yl yh (yR ls)):(∃ e∈yR ls,kM lo hi e∧yU a (gO lo hi x)=zD e.1 e.2 x)∨yU a (gO lo hi x)=yl∨yU a (gO lo hi x)=yh:=by
 have hm:=((pF hl).mem a).1 ha
 rcases zac.1 hm with hm | hm
 ·left
  obtain⟨e,he,ht,rfl⟩:=lE.1 hm
  refine⟨e,he,ht,?_⟩
  unfold gZ
  unfold kM at ht
  unfold yU gO zD atP addP jT subP
  have h1:e.2.1-e.1.1≠0:=by grind
  rw[if_pos hl,if_neg h1,if_neg h1,if_neg h1]
  simp only
  have h2:hi-lo≠0:=by grind
  generalize e.2.2-e.1.2=dy at *
  generalize hd:e.2.1-e.1.1=d at *
  generalize e.1.1=a1 at *
  generalize e.1.2=a2 at *
  have e3:(x-lo)/(hi-lo)*(hi-lo)=x-lo:=zcw h2
  generalize (x-lo)/(hi-lo)=t at *
  rw[Rat.div_def,Rat.div_def,Rat.div_def]
  generalize d⁻¹=v at *
  grind
 ·right
  simp only[zad,zaM,or_false] at hm
  rcases hm with rfl | rfl
  ·left;unfold yU;grind
  ·right;unfold yU;grind
theorem wl_r {ls:List (List P2)}(h:Prt ls){i:Nat}(hi:i<(xsM ls).length){y:Rat}(hy:y∈wlR ls i):rlen y 14:=by
 have hlv:∀ j,j+1<(xsM ls).length→∀ a∈lvM ls j,rlen a.1 14∧rlen a.2 14:=fun j hj a ha =>
  yH2 h.fp h.bx (tP (by omega)) (tP hj) a (((pF (xS ls j hj)).mem a).1 ha)
 rcases iL.1 hy with(rfl | rfl) | ⟨h0,a,ha,rfl⟩ | ⟨h0,a,ha,rfl⟩ | ⟨l,hl,p,hp,_,rfl⟩
 ·exact zG (dD h.bx.1.2) (by omega)
 ·exact zG (dD h.bx.2.2) (by omega)
 ·exact(hlv (i-1) (by omega) a ha).2
 ·exact(hlv i h0 a ha).1
 ·exact zG (dD (h.fp l hl p hp).2) (by omega)
theorem hs_r {ls:List (List P2)}(h:Prt ls){i:Nat}(hi:i+1<(xsM ls).length){y:Rat}(hy:y∈hsL ((xsM ls).getD i 0) ((xsM ls).getD (i+1) 0) (xJ ((xsM ls).getD i 0) ((xsM ls).getD (i+1) 0)) (lvM ls i)):rlen y 21:=by
 unfold hsL at hy
 obtain⟨a,ha,rfl⟩:=zaj.1 hy
 have hx:rlen (xJ ((xsM ls).getD i 0) ((xsM ls).getD (i+1) 0)) 10:=vH (nZ h.fp h.bx (tP (by omega))) (nZ h.fp h.bx (tP hi))
 rcases lv_edge (xS ls i hi) (x:=xJ ((xsM ls).getD i 0) ((xsM ls).getD (i+1) 0)) ha with⟨e,he,_,k⟩ | k | k
 ·rw[k]
  obtain⟨k1,k2⟩:=zV1 h.fp he
  exact cF (mN k1) (mN k2) hx
 ·rw[k];exact zG (dD h.bx.1.2) (by omega)
 ·rw[k];exact zG (dD h.bx.2.2) (by omega)
theorem rH {ls:List (List P2)}{i:Nat}(hi:i<(xsM ls).length):bG ls (zH ls) (xsM ls) (lvsM ls) i=wlR ls i:=by
 unfold bG wlR uF kK atX
 have e1:0<i→(lvsM ls).getD (i-1) []=lvM ls (i-1):=fun h=>dW (by omega)
 congr 1
 congr 1
 ·congr 1
  by_cases h:0<i
  ·rw[if_pos h,if_pos h,e1 h]
  ·rw[if_neg h,if_neg h]
 ·by_cases h:i+1<(xsM ls).length
  ·rw[if_pos h,dW h]
  ·rw[if_neg h,zaf,zcf (by rw[fS];omega)];rfl
section
variable {ls : List (List P2)} (h : Prt ls)
include h
theorem k23allP:CTy prog 98 [sv (sl 1 (ls.map (pcc 1))),ag (bxc 1 (zH ls)),sv (sl 3 ((xsM ls).map (rtc 3)))] (sv (sl 1 ((lvsM ls).map (pcc 14)))):=by
 have k:=k23allT (ls:=ls) (bl:=(zH ls).1) (bh:=(zH ls).2) (xs:=xsM ls) (n:=1) (m:=3) (n3:=1) (N:=14) (by omega) (by omega) (by omega) (by omega) (by have:=h.1;omega) h.nine (dE h) fun j hj=>yH2 h.fp h.bx (tP (by omega)) (tP hj)
 have e:((List.range ((xsM ls).length-1)).map fun j=>sl 6 ((lvA (xsM ls) (zH ls).1 (zH ls).2 (yR ls) j).map (ptc 14)))=(lvsM ls).map (pcc 14):=by unfold lvsM;rw[List.map_map];rfl
 rw[e] at k;exact k
theorem k24wallsP:CTy prog 99 [sv (sl 1 (ls.map (pcc 1))),ag (bxc 1 (zH ls)),sv (sl 3 ((xsM ls).map (rtc 3))),sv (sl 1 ((lvsM ls).map (pcc 14)))] (sv (sl 1 ((wlsM ls).map fun l=>sl 3 (l.map (rtc 14))))):=by
 have k:=k24walls (ls:=ls) (b:=zH ls) (xs:=xsM ls) (lvs:=lvsM ls) (n:=1) (m:=3) (N:=14) (by omega) (by omega) (by omega) (by have:=dE h;omega) (fun l hl=>by have:=h.nine l hl;omega) (by have:=h.1;omega) (fun i hi=>by rw[rH hi];have:=yB7 h i;omega) fun i hi y hy=>by rw[rH hi] at hy;exact wl_r h hi hy
 have e:((List.range (xsM ls).length).map fun i=>setOf cmpR (bG ls (zH ls) (xsM ls) (lvsM ls) i))=wlsM ls:=zbX fun i hi=>by rw[rH (zaG.1 hi)];rfl
 rw[e] at k;exact k
theorem k24cellsP:CTy prog 100 [ag (st [bxc 1 (zH ls),sl 3 ((xsM ls).map (rtc 3)),sl 1 ((lvsM ls).map (pcc 14)),sl 1 ((wlsM ls).map fun l=>sl 3 (l.map (rtc 21))),sl 9 []])] (sv (sl 9 ((celM ls).map (celT 65)))) :=
 k24cells (n:=3) (m:=21) (q:=14) (N:=65) (by omega) (by omega) (by omega) (fun x hx=>nZ h.fp h.bx hx) (xS ls) (fun l hl=>by
  obtain⟨i,hi,rfl⟩:=zaj.1 hl
  have hi:=zaG.1 hi
  exact⟨by have:=bW h i;omega,fun y hy=>zG (wl_r h hi (zX6.1 hy)) (by omega)⟩) (fun l hl=>by
  obtain⟨i,hi,rfl⟩:=zaj.1 hl
  have:=cM h i;omega) (fun i hi hi2 y hy=>by rw[dW hi2] at hy;exact hs_r h hi2 hy) (by omega) (by omega) (by omega) (dE h)
end
theorem sl_nil {k:Nat}{M:Nat→Prop}{w:World}{us:List Value}(h:(xc (.slice none 0 0)).p M w us):(sl k ([]:List CT)).p M w us:=by
 obtain⟨rfl,_⟩:=h
 exact(cG (k:=k) M w _ rfl)
theorem bx_up {n m:Nat}{b:BX}(h:n≤m){M:Nat→Prop}{w:World}{us:List Value}(k:(bxc n b).p M w us):(bxc m b).p M w us:=by
 obtain⟨x,y,e1,h1,z,o,e2,h2,h3⟩:=k
 exact⟨x,y,e1,dN h h1,z,o,e2,dN h h2,h3⟩
theorem yZ2 {n m:Nat}(h:n≤m){l:List Rat}{M:Nat→Prop}{w:World}{us:List Value}(k:(sl 3 (l.map (rtc n))).p M w us):(sl 3 (l.map (rtc m))).p M w us :=
 cU (f:=rtc n) (g:=rtc m) (fun a _ {M w us} ⟨s,b,d,e,g⟩=>⟨s,b,d,e,g.up h⟩) (fun _=>rfl) k
theorem yX8 {n m:Nat}(h:n≤m){l:List (List Rat)}{M:Nat→Prop}{w:World}{us:List Value}(k:(sl 1 (l.map fun x=>sl 3 (x.map (rtc n)))).p M w us):(sl 1 (l.map fun x=>sl 3 (x.map (rtc m)))).p M w us :=
 cU (f:=fun x:List Rat=>sl 3 (x.map (rtc n))) (g:=fun x:List Rat=>sl 3 (x.map (rtc m))) (fun a _ {M w us} k=>yZ2 h k) (fun _=>rfl) k
theorem lr_up {n m:Nat}(h:n≤m){l:List (List P2)}{M:Nat→Prop}{w:World}{us:List Value}(k:(sl 1 (l.map (pcc n))).p M w us):(sl 1 (l.map (pcc m))).p M w us :=
 cU (f:=pcc n) (g:=pcc m) (fun a _ {M w us} k=>cU (f:=ptc n) (g:=ptc m) (fun q _ {M w us} k=>dN h k) (fun _=>rfl) k) (fun _=>rfl) k
theorem k24cellsQ {ls:List (List P2)}(h:Prt ls):CTy prog 100 [ag (st [bxc 1 (zH ls),sl 3 ((xsM ls).map (rtc 3)),sl 1 ((lvsM ls).map (pcc 14)),sl 1 ((wlsM ls).map fun l=>sl 3 (l.map (rtc 14))),xc (.slice none 0 0)])] (sv (sl 9 ((celM ls).map (celT 65)))) :=
 zW (k24cellsP h) (fs1 (fun M w v ⟨us,e,x1,y1,e1,h1,x2,y2,e2,h2,x3,y3,e3,h3,x4,y4,e4,h4,x5,y5,e5,h5,h6⟩=>⟨us,e,x1,y1,e1,h1,x2,y2,e2,h2,x3,y3,e3,h3,x4,y4,e4,yX8 (by omega) h4,x5,y5,e5,sl_nil h5,h6⟩) fs0)
theorem zT6 {ls:List (List P2)}(h:Prt ls):CTy prog 33 [sv (sl 1 (ls.map (pcc 1)))] (ag (mdT 65 (modM ls))):=by
 refine fw [.cell 2 65] func33 fun X=>?_
 iterate 2 refine u ?_
 refine u fun b2=>?_
 repeat refine u ?_
 refine zA1 (oca rfl rfl fun _=>kframeP h) ?_
 refine zA1 (obmd rfl rfl) (u fun b3=>?_)
 refine tst 0 rfl rfl rfl rfl rfl rfl ?_
 iterate 3 refine u ?_
 refine zK (jS (cs':=[bxc 1 (zH ls),xc (.slice none 0 0),xc (.slice none 0 0),xc (.slice none 0 0),xc (.slice none 0 0)]) 0 rfl cD) (zA1 (omv rfl) ?_)
 repeat refine u ?_
 refine zA1 (oldo 0 rfl rfl rfl rfl) (zA1 (oca rfl rfl fun _=>k22allP h) ?_)
 repeat refine u ?_
 refine tst 0 rfl rfl rfl rfl rfl rfl ?_
 repeat refine u ?_
 refine zA1 (oldo 0 rfl rfl rfl rfl) ?_
 repeat refine u ?_
 refine zA1 (oldo 0 rfl rfl rfl rfl) (zA1 (oca rfl rfl fun _=>k23allP h) ?_)
 repeat refine u ?_
 refine tst 0 rfl rfl rfl rfl rfl rfl ?_
 repeat refine u ?_
 refine zA1 (oldo 0 rfl rfl rfl rfl) ?_
 repeat refine u ?_
 refine zA1 (oldo 0 rfl rfl rfl rfl) ?_
 repeat refine u ?_
 refine zA1 (oldo 0 rfl rfl rfl rfl) (zA1 (oca rfl rfl fun _=>k24wallsP h) ?_)
 repeat refine u ?_
 refine tst 0 rfl rfl rfl rfl rfl rfl ?_
 repeat refine u ?_
 refine zK (jS (cs':=[st [bxc 1 (zH ls),sl 3 ((xsM ls).map (rtc 3)),sl 1 ((lvsM ls).map (pcc 14)),sl 1 ((wlsM ls).map fun l:List Rat=>sl 3 (l.map (rtc 14))),xc (.slice none 0 0)]]) 0 rfl fun h=>⟨_,[],(zao _).symm,h,rfl⟩) (zA1 (oldo 0 rfl rfl rfl rfl) (zA1 (oca rfl rfl fun _=>k24cellsQ h) ?_))
 refine zK (jS (cs':=[bxc 1 (zH ls),sl 3 ((xsM ls).map (rtc 3)),sl 1 ((lvsM ls).map (pcc 14)),sl 1 ((wlsM ls).map fun l:List Rat=>sl 3 (l.map (rtc 14))),xc (.slice none 0 0)]) 0 rfl cD) (zA1 (ofo rfl) ?_)
 refine tst 0 rfl rfl rfl rfl rfl rfl ?_
 repeat refine u ?_
 refine zK (jS (cs':=[st [bxc 1 (zH ls),sl 3 ((xsM ls).map (rtc 3)),sl 1 ((lvsM ls).map (pcc 14)),sl 1 ((wlsM ls).map fun l:List Rat=>sl 3 (l.map (rtc 14))),sl 9 ((celM ls).map (celT 65))]]) 0 rfl fun h=>⟨_,[],(zao _).symm,h,rfl⟩) (zA1 (oldo 0 rfl rfl rfl rfl) ?_)
 refine tst 1 rfl rfl rfl rfl rfl rfl ?_
 repeat refine u ?_
 refine⟨[_],rsc 1 rfl rfl rfl rfl rs0,yF ?_⟩
 exact fun M w v ⟨us,e,x1,y1,e1,h1,x2,y2,e2,h2,x3,y3,e3,h3,x4,y4,e4,h4,h5⟩=>⟨us,e,x1,y1,e1,bx_up (by omega) h1,x2,y2,e2,yZ2 (by omega) h2,x3,y3,e3,lr_up (by omega) h3,x4,y4,e4,yX8 (by omega) h4,h5⟩
noncomputable def atI (y:List Rat)(v:Rat):Nat:=Classical.epsilon fun k=>k<y.length∧y.getD k 0=v
noncomputable def inI (e:List Rat)(v:Rat):Nat:=Classical.epsilon fun r=>r+1<e.length∧e.getD r 0≤v∧v<e.getD (r+1) 0
theorem at_i {y:List Rat}(hy:jP y){k:Nat}(hk:k<y.length):k=atI y (y.getD k 0):=by
 have h:=zcC (p:=fun i=>i<y.length∧y.getD i 0=y.getD k 0) ⟨k,hk,rfl⟩
 change atI y (y.getD k 0)<_∧y.getD (atI y (y.getD k 0)) 0=_ at h
 generalize atI y (y.getD k 0)=i at h
 rcases zbN k i with c | c | c
 ·have:=qI hy c h.1;grind
 ·exact c
 ·have:=qI hy c hk;grind
theorem in_i {e:List Rat}(he:incQ e){r:Nat}{v:Rat}(h1:r+1<e.length)(h2:e.getD r 0≤v)(h3:v<e.getD (r+1) 0):r=inI e v:=by
 have h:=zcC (p:=fun r=>r+1<e.length∧e.getD r 0≤v∧v<e.getD (r+1) 0) ⟨r,h1,h2,h3⟩
 change inI e v+1<_∧e.getD (inI e v) 0≤_∧_<e.getD (inI e v+1) 0 at h
 generalize inI e v=i at h
 rcases zbN r i with c | c | c
 ·have:=bB he (show r+1≤i by omega) (by omega);grind
 ·exact c
 ·have:=bB he (show i+1≤r by omega) (by omega);grind
theorem yL7 {W S:Nat}{y e:List Rat}(hy:jP y)(he:incQ e):(acrS W S y e).length≤2*y.length+2*e.length:=by
 have h:=qM (m:=acrS W S y e) (l:=(List.range e.length).map (fun r=>(W+2*atI y (e.getD r 0),S+2*r))++((List.range y.length).map (fun k=>(W+2*k,S+2*inI e (y.getD k 0)+1))++((List.range e.length).map (fun r=>(W+2*atI y (e.getD (r+1) 0),S+2*r+1))++(List.range y.length).map (fun k=>(W+2*k+1,S+2*inI e (y.getD k 0)+1))))) (zO7 W S y e) fun x hx=>by
  simp only[zac,zaj,zaG]
  obtain⟨k,r,hk,hr,⟨h,e1⟩ | ⟨⟨h1,h2,h3⟩,e1⟩ | ⟨⟨h1,h2,h3,h4⟩,e1⟩⟩:=zX0.1 hx
  ·exact .inl ⟨r,hr,by rw[h,← at_i hy hk,e1]⟩
  ·by_cases c:y.getD k 0<e.getD (r+1) 0
   ·exact .inr (.inl ⟨k,hk,by rw[← in_i he h1 h2 c,e1]⟩)
   ·exact .inr (.inr (.inl ⟨r,hr,by rw[show e.getD (r+1) 0=y.getD k 0 by grind,← at_i hy hk,e1]⟩))
  ·exact .inr (.inr (.inr ⟨k,hk,by rw[← in_i he h1 h2 h3,e1]⟩))
 simp only[zak,zah,zbR] at h
 omega
theorem vK {ls:List (List P2)}:∀ i,2*(uA ls i).length≤i*i
 | 0=>by simp[uA]
 | i+1=>by
  rw[sC,zak,zah,zaE]
  have:=vK (ls:=ls) i
  have e:(i+1)*(i+1)=i*i+2*i+1:=by rw[zaS,zar];omega
  omega
theorem yA1 {α β:Type}{f:α→List β}{B:Nat}:∀ {l:List α},(∀ x∈l,(f x).length≤B)→(l.flatMap f).length≤l.length*B
 | [],_=>by simp
 | a::l,h=>by
  rw[zbS,zak,zat,zcs]
  have h1:=h a (by simp)
  have:=yA1 (l:=l) fun x hx=>h x (by simp[hx]);omega
section
variable {ls : List (List P2)} (h : Prt ls)
include h
theorem xs_less:(xsM ls).length≤677:=by
 have h1:=yW jC (rawC ls (zH ls))
 have h2:=wO h.nine
 have h3:=vS (l:=yD ls) fun z hz=>by
  obtain⟨a,b⟩:=vL (ls:=ls) (i:=ls.length) (x:=z) (zab _) hz
  exact⟨h.nine _ a,h.nine _ b⟩
 have h4:=vK (ls:=ls) ls.length
 have h0:=h.1
 have h8:ls.length*ls.length≤3*3:=zaU h0 h0
 have h9:2*(yD ls).length≤9:=zaa h4 h8
 have h5:(rawC ls (zH ls)).length=2+(mS ls).length+(meetX (yD ls)).length:=by unfold rawC;simp;omega
 unfold xsM cutsOf;omega
theorem yE9:(joinSeq ls).length≤500000:=by
 have hx:=xs_less h
 have h1:=yA1 (l:=List.range (xsM ls).length) (f:=wlJ ls) (B:=172) fun i _=>by
  unfold wlJ gL;rw[List.length_map,List.length_range];have:=bW h i;omega
 have h2:=yA1 (l:=List.range ((xsM ls).length-1)) (f:=slJ ls) (B:=520) fun i hi=>by
  have hi':i+1<(xsM ls).length:=by have:=zaG.1 hi;omega
  unfold slJ gL
  rw[zak,zak,zah,zbR]
  have k1:=cM h i
  have k2:=bW h i
  have k3:=bW h (i+1)
  have k4:=yL7 (W:=offC ls (2*i)) (S:=offC ls (2*i+1)) (bF ls i) (zV0 h.hull hi' false)
  have k5:=yL7 (W:=offC ls (2*(i+1))) (S:=offC ls (2*i+1)) (bF ls (i+1)) (zV0 h.hull hi' true)
  rw[nW] at k4 k5
  omega
 rw[zbR] at h1 h2
 have h3:(xsM ls).length*172≤677*172:=zaR _ hx
 have h4:((xsM ls).length-1)*520≤676*520:=zaR _ (by omega)
 unfold joinSeq
 rw[zak];omega
end
theorem set_nod {α:Type}[Inhabited α]{cf:α→α→Int}(h:COrd cf){raw l:List α}(hn:raw.Nodup)(hp:l.Perm raw)(hs:∀ i j,i<j→j<l.length→¬ cf l[j]! l[i]! < 0):l=setOf cf raw:=by
 refine IsSet.eq h ⟨zch.2 fun i j hi hj hij=>?_,fun x=>hp.mem_iff⟩
 have h1:=hs i j hij hj
 rw[getElem!_pos l j hj,getElem!_pos l i hi] at h1
 have h2:l[i]≠l[j]:=zch.1 (hp.nodup_iff.2 hn) i j hi hj hij
 have h3:=mt (h.zero l[i] l[j]).1 h2
 have h4:=mt (h.anti l[i] l[j]).1 h1
 omega
instance:Df CL:=⟨(0,0,0,(0,0))⟩
theorem pV {ls:List (List P2)}{a:Nat}(h:a<(celM ls).length):∃ c j,inC ls c j∧a=offC ls c+j∧(celM ls).getD a Df.d=cellC ls c j:=by
 obtain⟨c,j,h1,e⟩:=cel_ex h
 exact⟨c,j,h1,e,by rw[e];exact yA6 h1⟩
theorem yT2 {ls:List (List P2)}{c j:Nat}:(cellC ls c j).1<4∧(cellC ls c j).1=2*(c%2)+j%2∧(cellC ls c j).2.1=c/2∧(cellC ls c j).2.2.1=j/2∧(cellC ls c j).2.2.2=repC ls c j:=⟨by show 2*(c%2)+j%2<4;omega,rfl,rfl,rfl,rfl⟩
section
variable {ls : List (List P2)} (h : Prt ls)
include h
theorem mw_len (i:Nat):((modM ls).wl.getD i Df.d).length≤1000000:=by
 show ((wlsM ls).getD i []).length≤_
 rcases zae i (xsM ls).length with c | c
 ·rw[iK c];have:=bW h i;omega
 ·rw[zaf,zcf (by rw[iY];exact c)];simp
theorem mv_len (i:Nat):((modM ls).lv.getD i Df.d).length≤1000000:=by
 show ((lvsM ls).getD i []).length≤_
 rcases zae (i+1) (xsM ls).length with c | c
 ·rw[dW c];have:=cM h i;omega
 ·rw[zaf,zcf (by rw[fS];omega)];simp
theorem mx_len:(modM ls).xs.length≤1000000:=by have:=dE h;show (xsM ls).length≤_;omega
theorem yU7 {c j:Nat}(hc:inC ls c j):c/2≤1000000000000∧j/2≤1000000000000:=by
 have h1:=dE h
 have h2:=yB1 h c
 have h3:=hc.1;have h4:=hc.2
 exact⟨by omega,by omega⟩
theorem kstouchM {N n c j:Nat}{p:P2}(hN:N≤300)(hn:n≤300)(hc:inC ls c j):CTy prog 54 [ag (mdT N (modM ls)),ag (celT N (cellC ls c j)),ag (ptc n p)] (exP (.bool (hasB false (2*(c%2)+j%2) (clsM (modM ls) (2*(c%2)+j%2) (c/2) (j/2)) p))) :=
 kstouch (c:=cellC ls c j) hN hn yT2.1 (yU7 h hc).1 (yU7 h hc).2 (mx_len h) (mw_len h) (mv_len h)
end
theorem joined_b {ls:List (List P2)}{c j d k:Nat}(h1:inC ls c j)(h2:inC ls d k)(hn:¬ (c=d∧j=k)):(hasB false (2*(c%2)+j%2) (clsM (modM ls) (2*(c%2)+j%2) (c/2) (j/2)) (repC ls d k) || hasB false (2*(d%2)+k%2) (clsM (modM ls) (2*(d%2)+k%2) (d/2) (k/2)) (repC ls c j))=true↔jnC ls c j d k:=by
 rw[zbJ,yI9 h1,yI9 h2]
 exact⟨fun h=>⟨hn,h⟩,fun h=>h.2⟩
noncomputable instance (ls:List (List P2))(a b:Nat):Decidable (jnN ls a b):=Classical.propDecidable _
def jnI (ls:List (List P2))(a b:Int):Prop:=0≤a∧0≤b∧jnN ls a.toNat b.toNat
noncomputable instance (ls:List (List P2))(a b:Int):Decidable (jnI ls a b):=Classical.propDecidable _
theorem zM9 {ls:List (List P2)}(h:Prt ls){N:Nat}{a b:Int}(hN:N≤300):CTy prog 38 [ag (mdT N (modM ls)),exP (.int .i64 a),exP (.int .i64 b)] (exP (.bool (decide (jnI ls a b)))):=by
 have hl:=pW h
 have hcs:(modM ls).cs.length=(celM ls).length:=rfl
 have key:∀ c j d k,inC ls c j→inC ls d k→CTy prog 54 [ag (mdT N (modM ls)),ag (celT N (cellC ls c j)),ag (ptc N (repC ls d k))] (exP (.bool (hasB false (2*(c%2)+j%2) (clsM (modM ls) (2*(c%2)+j%2) (c/2) (j/2)) (repC ls d k)))):=fun c j d k h1 h2=>kstouchM h hN hN h1
 have get:∀ a:Nat,a<(modM ls).cs.length→∃ c j,inC ls c j∧a=offC ls c+j∧(modM ls).cs.getD a Df.d=cellC ls c j:=fun a ha=>pV ha
 have hjb:∀ {c j d k},inC ls c j→inC ls d k→¬ (c=d∧j=k)→_:=fun {c j d k} h1 h2 hn=>joined_b h1 h2 hn
 generalize modM ls=m at *
 refine fw [.tmp 6] func38 fun X=>?_
 repeat refine u ?_
 refine tp (fun c0=>?_) fun c0=>?_
 repeat refine u ?_
 refine e ?_
 refine psb ?_
 rotate_left
 rotate_left
 ·refine(decide_eq_false fun k=>?_).symm
  have:=jnN_lt k.2.2;have:=zZ8 k.2.2;have:=k.1;have:=k.2.1
  omega
 obtain⟨a',rfl⟩:∃ a':Nat,a=a':=⟨a.toNat,by omega⟩
 obtain⟨b',rfl⟩:∃ b':Nat,b=b':=⟨b.toNat,by omega⟩
 obtain⟨c,j,h1,e1,g1⟩:=get a' (by omega)
 obtain⟨d,k,h2,e2,g2⟩:=get b' (by omega)
 have hn:¬ (c=d∧j=k):=fun⟨q1,q2⟩=>c0 (.inr (by rw[e1,e2,q1,q2]))
 have hk:=hjb h1 h2 hn
 have hr:jnI ls (a':Int) (b':Int)↔jnC ls c j d k:=by
  unfold jnI;rw[Int.toNat_natCast,Int.toNat_natCast,e1,e2,jnN_at h1 h2]
  exact⟨fun h=>h.2.2,fun h=>⟨by omega,by omega,h⟩⟩
 have kT1:=key c j d k h1 h2
 have kT2:=key d k c j h2 h1
 rw[show repC ls d k=(cellC ls d k).2.2.2 from rfl,← g1,← g2] at kT1
 rw[show repC ls c j=(cellC ls c j).2.2.2 from rfl,← g1,← g2] at kT2
 rw[show repC ls d k=(cellC ls d k).2.2.2 from rfl,show repC ls c j=(cellC ls c j).2.2.2 from rfl,← g1,← g2] at hk
 clear key get hjb
 iterate 2 refine u ?_
 apply xG 2 13 12 [(10,7,0),(11,8,1),(12,1000012,0)] rfl rfl mixed rfl rfl rfl
 repeat refine u ?_
 refine cN rfl rfl (cal) (cN rfl rfl (cal) (cS rfl rfl rfl (cst rfl rfl rfl) ?_))
 refine cE (fun b7 b8=>?_)
 refine fm ?_
 refine u ?_
 refine zK (zT (s:=7) 1 rfl rfl) ?_
 refine tst 0 rfl rfl rfl rfl rfl rfl (zK (zT (s:=8) 0 rfl rfl) ?_)
 repeat refine u ?_
 refine zA1 (oca rfl rfl fun _=>kT1) ?_
 repeat refine u ?_
 refine t1g rfl rfl (old rfl rfl) ?_
 repeat refine u ?_
 refine t1g rfl rfl (oca rfl rfl fun _=>kT2) ?_
 repeat refine u ?_
 refine e ?_
 refine psb ?_
 rw[Bool.eq_iff_iff,hk,decide_eq_true_eq,hr]
noncomputable def nearL (ls:List (List P2))(a:Int)(n:Nat):List Nat:=(List.range n).filter fun b=>decide (jnI ls a (b:Int))
theorem knear {ls:List (List P2)}(h:Prt ls){N:Nat}{a:Int}(hN:N≤300):CTy prog 40 [ag (mdT N (modM ls)),exP (.int .i64 a)] (sv (sl 1 ((nearL ls a (celM ls).length).map xi))):=by
 have hl:=pW h
 have hcs:(modM ls).cs.length=(celM ls).length:=rfl
 have kJ:∀ b:Nat,CTy prog 38 [ag (mdT N (modM ls)),exP (.int .i64 a),exP (.int .i64 ((b:Nat):Int))] (exP (.bool (decide (jnI ls a (b:Int))))):=fun b=>zM9 h hN
 generalize modM ls=m at *
 generalize (celM ls).length=n at *
 refine fw [.tmp 4] func40 fun X=>?_
 repeat refine u ?_
 refine t_ts (xK 3 1) ?_
 refine lp (σ:=Nat×Value) [1,2,8] (fun s=>[(4,True,exP s.2),(9,True,exP (.int .i64 ((s.1:Nat):Int)))]) (fun s=>[.row s.2 3 1 ((nearL ls a s.1).map xi)]) (fun s=>s.1≤n) (fun s=>n-s.1) ((0,.slice none 0 0)) ((by simp)) fun s hJ Y _=>?_
 obtain⟨i,v⟩:=s
 dsimp only at hJ ⊢
 have hnl:(nearL ls a i).length≤i:=by unfold nearL;have:=List.length_filter_le (fun b:Nat=>decide (jnI ls a (b:Int))) (List.range i);rw[List.length_range] at this;exact this
 repeat refine u ?_
 refine tp (fun c0=>?_) fun c0=>?_
 repeat refine u ?_
 refine zA1 (oca rfl rfl fun _=>kJ i) ?_
 repeat refine u ?_
 refine tp (fun c1=>?_) fun c1=>?_
 iterate 4 refine u ?_
 refine u fun r19=>?_
 repeat refine u ?_
 rotate_left
 repeat refine u ?_
 rotate_left
 iterate 7 refine u ?_
 refine t_ts (yC (s:=4) 0 rfl rfl) ?_
 repeat refine u ?_
 refine e ?_
 rotate_left
 ·refine⟨(i+1,r19),tes ?_ ?_ ?_,(by omega),(by omega)⟩
  refine tc rfl (ps_r _) (tc rfl (ps_r _) (tn))
  refine tc rfl (ps_r _) (tc rfl (ps_r _) (tc rfl (ps_r _) (tn)))
  unfold nearL;rw[List.range_succ,List.filter_append,List.filter_cons_of_pos (by simpa using c1)];exact List.Sublist.refl _
 ·refine⟨(i+1,v),tes ?_ ?_ ?_,(by omega),(by omega)⟩
  refine tc rfl (ps_r _) (tc rfl (ps_r _) (tn))
  refine tc rfl (ps_r _) (tc rfl (ps_r _) (tc rfl (ps_r _) (tn)))
  unfold nearL;rw[List.range_succ,List.filter_append,List.filter_cons_of_neg (by simpa using c1),List.filter_nil,List.append_nil];exact List.Sublist.refl _
 ·rw[show i=n by omega];exact PSub.refl _
abbrev jzT (p:Int×Int):CT:=st [xc (.int .i64 p.1),xc (.int .i64 p.2)]
def lenJ (m:Mdl)(p:Int×Int):Rat:=if min p.1 p.2<0∨(m.cs.length:Int)≤max p.1 p.2 then 0 else farP (m.cs.getD p.1.toNat Df.d).2.2.2 (m.cs.getD p.2.toNat Df.d).2.2.2
instance:Df (Int×Int):=⟨(0,0)⟩
theorem yS2 {x y:Rat}{n:Nat}(hn:n≤4000):CTy prog 190 [ag (rtq n x),ag (rtq n y)] (ag (rtc (2*n+3) (absR (x-y)))):=by
 refine fw [.cell 4 29] func190 fun X=>?_
 iterate 2 refine u ?_
 refine tbx (hc:=cts1) rfl fun b2=>(tbx (hc:=cts1) rfl fun b3=>(u fun b4=>?_))
 repeat refine u ?_
 refine zA1 (oca rfl rfl fun _=>oN (by omega) (by omega)) ?_
 repeat refine u ?_
 refine tp (fun c0=>?_) fun c0=>?_
 repeat refine u ?_
 refine zA1 (oca rfl rfl fun _=>vW (by omega) (by omega)) ?_
 repeat refine u ?_
 refine e ?_
 rotate_left
 repeat refine u ?_
 refine zA1 (oca rfl rfl fun _=>vW (by omega) (by omega)) ?_
 repeat refine u ?_
 refine e ?_
 rotate_left
 ·exact aB (by have:=xF.1 c0;unfold absR;rw[if_pos (by grind)];grind) (by omega)
 ·exact aB (by have:=mt xF.2 c0;unfold absR;rw[if_neg (by grind)]) (by omega)
theorem wvfar {p q:P2}{n:Nat}(hn:n≤1000):CTy prog 115 [ag (ptq n p),ag (ptq n q)] (ag (rtc (4*n+9) (farP p q))):=by
 refine fw [.cell 4 29] func115 fun X=>?_
 iterate 4 refine u ?_
 refine u fun b4=>?_
 iterate 2 refine u ?_
 apply xG 1 6 5 [(4,5,0),(5,1000005,0)] rfl rfl mixed rfl rfl rfl
 repeat refine u ?_
 refine cx1 (oca rfl rfl fun _=>zM7) rfl ?_
 repeat refine u ?_
 refine cx1 (oca rfl rfl fun _=>oV (yS2 (by omega)) (yS2 (by omega))) rfl ?_
 refine cN rfl rfl (cal) (cS rfl rfl rfl (cst rfl rfl rfl) ?_)
 refine cE (fun b5=>?_)
 refine fm ?_
 refine u ?_
 refine zK (zT (s:=5) 0 rfl rfl) ?_
 repeat refine u ?_
 refine zA1 (oca rfl rfl fun _=>yS5 (by omega)) ?_
 refine tst 0 rfl rfl rfl rfl rfl rfl ?_
 repeat refine u ?_
 refine⟨[_],rsc 0 rfl rfl rfl rfl rs0,yF ?_⟩
 exact aB rfl (by omega)
theorem kvfar {Ψ Φ:PV}{p q:P2}{n:Nat}[h1:QP Ψ n p][h2:QP Φ n q](hn:n≤1000):CTy prog 115 [Ψ,Φ] (ag (rtc (4*n+9) (farP p q))):=zW (wvfar hn) (fs1 qp_q (fs1 qp_q fs0))
theorem kvfarK {Ψ Φ:PV}{p q:P2}{n K:Nat}[h1:QP Ψ n p][h2:QP Φ n q](hn:n≤1000)(hK:4*n+9≤K):CTy prog 115 [Ψ,Φ] (ag (rtc K (farP p q))):=gK (kvfar hn) (aB rfl hK)
theorem mF {m:Mdl}{N:Nat}{js:List (Int×Int)}(hN:N≤1000)(hl:js.length≤100000000):CTy prog 43 [ag (mdT N m),sv (sl 2 (js.map jzT))] (sv (sl 3 ((js.map (lenJ m)).map (rtc (4*N+9))))):=by
 refine fw [.tmp 4] func43 fun X=>?_
 repeat refine u ?_
 refine t_ts (xK 29 3) ?_
 refine lp (σ:=Nat×Value) [2,7,8] (fun s=>[(4,True,exP s.2),(9,True,exP (.int .i64 ((s.1:Nat):Int)))]) (fun s=>[.row s.2 29 3 (((js.take s.1).map (lenJ m)).map (rtc (4*N+9)))]) (fun s=>s.1≤js.length) (fun s=>js.length-s.1) ((0,.slice none 0 0)) ((by simp)) fun s hJ Y _=>?_
 obtain⟨i,v⟩:=s
 dsimp only at hJ ⊢
 repeat refine u ?_
 refine tp (fun c0=>?_) fun c0=>?_
 iterate 7 refine u ?_
 refine u fun b6=>?_
 refine tst 0 rfl rfl rfl rfl rfl rfl (zK (zT (s:=6) 0 rfl rfl) ?_)
 repeat refine u ?_
 refine tp (fun c1=>?_) fun c1=>?_
 repeat refine u ?_
 refine zA1 (oca rfl rfl fun _=>krof (k:=0) (K:=4*N+9) (by omega) (by omega)) ?_
 repeat refine u ?_
 refine tap 0 rfl rfl rfl (by(simp;omega)) rfl fun r33=>?_
 repeat refine u ?_
 rotate_left
 refine u ?_
 refine zC 17 mixed rfl rfl ?_
 repeat refine u ?_
 refine d1 (oix (js.getD i Df.d).1.toNat rfl rfl rfl (fun g=>(by omega)) (fun g=>(by omega))) ?_
 repeat refine u ?_
 refine d1 (ofa rfl rfl) ?_
 repeat refine u ?_
 refine d1 (oix (js.getD i Df.d).2.toNat rfl rfl rfl (fun g=>(by omega)) (fun g=>(by omega))) ?_
 repeat refine u ?_
 refine d1 (oca rfl rfl fun _=>kvfarK (K:=4*N+9) (by omega) (by omega)) ?_
 repeat refine u ?_
 refine tap 0 rfl rfl rfl (by(simp;omega)) rfl fun r51=>?_
 repeat refine u ?_
 refine zA1 (oad rfl rfl (by omega)) ?_
 repeat refine u ?_
 rotate_left
 iterate 7 refine u ?_
 refine t_ts (yC (s:=4) 0 rfl rfl) ?_
 repeat refine u ?_
 refine e ?_
 rotate_left
 ·refine⟨(i+1,r33),tes ?_ ?_ ?_,(by omega),(by omega)⟩
  refine tc rfl (ps_r _) (tc rfl (ps_r _) (tn))
  refine tc rfl (ps_r _) (tc rfl (ps_r _) (tc rfl (ps_r _) (tn)))
  rw[(zJ (Df.d:Int×Int) (l:=js) (s:=i) (by omega)).1,zaq,zaq,zcO,zcO,show lenJ m (js.getD i Df.d)=((0:Nat):Rat) from if_pos c1];exact List.Sublist.refl _
 ·refine⟨(i+1,r51),tes ?_ ?_ ?_,(by omega),(by omega)⟩
  refine tc rfl (ps_r _) (tc rfl (ps_r _) (tn))
  refine tc rfl (ps_r _) (tc rfl (ps_r _) (tc rfl (ps_r _) (tn)))
  rw[(zJ (Df.d:Int×Int) (l:=js) (s:=i) (by omega)).1,zaq,zaq,zcO,zcO,show lenJ m (js.getD i Df.d)=_ from if_neg c1];exact List.Sublist.refl _
 ·rw[zav (by omega)];exact PSub.refl _
end Go.Proofs.YtalkinejknjidaaGreatDoor
namespace Go.SL
open Go.RowKit
def ex (us:List Value)(c:CT):CT:=⟨c.sz,fun M w cs=>cs=us∧c.p M w cs,fun h=>c.len h.2,fun h=>c.one h.2,fun h k=>⟨h.1,c.mono h.2 k⟩⟩
def an (v:Value)(Ψ:PV):PV:=⟨fun M w u=>u=v∧Ψ.p M w u,fun h k=>⟨h.1,Ψ.mono h.2 k⟩⟩
def frC (n:Nat)(ty:TypeId)(z:Value)(L:Nat):CT where
 sz:=1
 p M w cs:=∃ b,cs=[.slice (some ⟨b,0,none⟩) L L]∧n≤b∧¬ M b∧w.heap[b]? = some (.cells (List.replicate L z).toArray ty (0,0))
 len h:=by obtain⟨b,e,_⟩:=h;rw[e];rfl
 one h u hu:=by obtain⟨b,e,_⟩:=h;rw[e] at hu;rw[zal.1 hu];rfl
 mono h k:=by obtain⟨b,e,h1,h2,h3⟩:=h;exact⟨b,e,h1,k b _ _ _ h2 h3⟩
instance {S:List Ow}{v:Value}{Ψ:PV}{c:CT}[h:LP S Ψ c]:LP S (an v Ψ) c:=⟨fun hg h1=>h.h hg h1.2⟩
instance {us:List Value}{c c':CT}{off:Nat}[h:FA c off c']:FA (ex us c) off c':=⟨fun h1=>h.h h1.2⟩
theorem yE4 {M M':Nat→Prop}{w:World}:∀ {l us:List Value},stp (l.map xc) M w us→stp (l.map xc) M' w us
 | [],_,h=>h
 | _::_,_,⟨a,b,e,h1,h2⟩=>⟨a,b,e,h1,yE4 h2⟩
section
variable {P : Program} {r : Option Nat} {N : Nat} {X Y : Cx} {K : TK} {Γ : TE} {S : List Ow} {ops : Array Oper} {M : Nat → Prop} {p qx qy : Prop} {Ψx Ψy : PV} {d : Nat} {x y : Operand} {t t' ty : TypeId} {pos : String} {af : Array Edge} {l : List Oper} {bytes : Nat} {ki kj : IntKind} {a b : Int}
theorem ofan {al:Bool}{f off sz:Nat}{c c':CT}{v:Value}(hx:tv Γ x=some (qx,an v (pa c)))[Im p qx][ht:TFd P t f al off sz][ha:FA c off c']:Ob P r N ops M S p ⟨some d,.fieldAddr t x f,t',pos,af,none⟩ Γ (pa c') :=
 ob1 hx (by simp[Op.operands]) fun D E w u hN hg e1 ⟨_,b,o,us,e,h1,h2,h3⟩=>by
  subst e
  obtain⟨fields,fd,bytes,z,k1,k2,k3,k4,k5,_⟩:=ht.h
  exact gQ off hN k1 k2 k3 k4 k5 e1 (fin ⟨b,o+off,_,rfl,h1,h2.sub off c'.sz,ha.h h3⟩)
theorem obmk {z:Value}(i j b2:Nat){zA2:TypeId}{cs2:List CT}(hS:S[j]? = some (.blk b2 zA2 cs2))(hx:tv Γ x=some (qx,Ψx))(hy:tv Γ y=some (qy,Ψy))[Im p qx][Im p qy][h1:VI Ψx ki a][h2:VI Ψy kj b](ha:a=(i:Int))(hb:b=(i:Int))[ht:TSl P t ty 1 bytes][hz:Z1 P ty z](hj:i≤100000000000) :
  Ob P r N ops M S p ⟨some d,.makeSlice t x y,t',pos,af,none⟩ Γ (sv (frC (b2+1) ty z i)):=fun D E w d' hd hN hg hp hT=>by
 obtain rfl:=Option.some.inj hd
 obtain⟨u1,e1,k1⟩:=yS hT hx hp (by simp[Op.operands])
 obtain⟨u2,e2,k2⟩:=yS hT hy hp (by simp[Op.operands])
 rw[h1.h k1] at e1
 rw[h2.h k2] at e2
 obtain⟨by',hs1,hby,hone⟩:=hz.h
 have hlt:b2<w.heap.size:=Ow.ok_lt (hg.own _ (zau hS)) rfl
 refine sH i i hN ht.u hs1 hone e1 e2 ha hb (zab _) (zaa (zaU hby hj) (by decide)) (by omega) fun w' b hn=>?_
 refine yO ⟨rfl,hn.below,_,xL (by simp),b,rfl,by rw[hn.at_];omega,fun c=>?_,hn.obj⟩
 have:=hg.ok b c;rw[hn.at_] at this;omega
structure Rbs (X Y:Cx)(S:List Ow)(c:CT)(v:Value)(us:List Value):Prop where
 ms:Y.ms=X.ms
 back:∀ Γ' S' E w,St Y Γ' S' E w→St X Γ' S' E w
 tab:Tab (Mk S Y.M) Y.w
 z:∀ b,Y.z b→∃ o∈S,o.bk=some b
 pv:(pa c).p (Mk S Y.M) Y.w v
 cs:c.p (Mk S Y.M) Y.w us
theorem rbs_of {E:Env}{w:World}(h:St X Γ S E w):∃ Y,Y.w=w∧Y.M=X.M∧Y.ms=X.ms∧(∀ Γ' S' E w,St Y Γ' S' E w→St X Γ' S' E w)∧(∀ b,Y.z b→∃ o∈S,o.bk=some b)∧∀ Γ',TM Γ' (Mk S X.M) E w→St Y Γ' S E w:=by
 refine⟨{ X with w:=w,z:=fun b=>∃ o∈S,o.bk=some b },rfl,rfl,rfl,fun Γ' S' E' w' k=>?_,fun b h=>h,fun Γ' hT=>?_⟩
 ·refine⟨⟨k.bel.os.trans h.bel.os,k.bel.tape.trans h.bel.tape,k.bel.output.trans h.bel.output,zaa h.bel.size k.bel.size,fun b hb hz=>?_⟩,k.gd,fun o ho b e=>?_,k.apt,h.ok0,h.zm,⟨k.mko.m,h.mko.n,k.mko.o⟩,k.tm⟩
  ·refine(k.bel.block b (zam hb h.bel.size) fun⟨o,ho,e⟩=>?_).trans (h.bel.block b hb hz)
   exact(h.new o ho b e).elim (fun c=>by omega) hz
  ·exact(k.new o ho b e).elim (fun c => .inl (zaa h.bel.size c)) fun⟨o2,h2,e2⟩=>h.new o2 h2 b e2
 ·exact⟨⟨rfl,(yZ w).tape,rfl,zab _,fun _ _ _=>rfl⟩,h.gd,fun o ho b hb => .inr ⟨o,ho,hb⟩,h.apt,fun k hk=>zam (h.ok0 k hk) h.bel.size,fun b ⟨o,ho,hb⟩ hM=>(h.new o ho b hb).elim (fun c=>by have:=h.ok0 b hM;omega) fun c=>h.zm b c hM,⟨h.mko.m,zaa h.mko.n h.bel.size,h.mko.o⟩,hT⟩
theorem talY {z:Value}{s:Nat}{c:CT}[tz:TZ P t z](hd:Nat.beq d s=false)(hs:tf Γ s=some (True,pa c))
  (h:∀(b:Nat) (Y:Cx) (v:Value) (us:List Value),Y.w.heap.size=b+1→Rbs X Y (.blk b t (zc z)::S) c v us→TO P r N ops Y K l ((s,True,an v (pa (ex us c)))::(d,True,exP (.pointer (some ⟨b,0,none⟩)))::Γ) (.blk b t (zc z)::S)):TO P r N ops X K (⟨some d,.alloc t,t',pos,af,none⟩::l) Γ S:=fun hN D E w hw=>by
 unfold okN at hN
 simp only[zaT,zan] at hN
 obtain⟨sz,bytes,hz⟩:=tz.s
 refine fN hN.1 hz fun w' b hn=>?_
 have k:=(hw.addb (b:=b) hn (zJ4 tz.o)).put (d:=d) (q:=(True,exP (.pointer (some ⟨b,0,none⟩)))) (yZ _) (fun _=>rfl) (fun c=>absurd trivial c)
 have hsb:tf ((d,True,exP (.pointer (some ⟨b,0,none⟩)))::Γ) s=some (True,pa c):=by
  unfold tf;rw[hd];exact hs
 obtain⟨v,e1,h1⟩:=(k.tm s _ hsb).1 trivial
 obtain⟨b1,o,us,e2,g1,g2,g3⟩:=h1
 obtain⟨Y,rfl,eM,ems,bk,hz2,hst⟩:=rbs_of k
 have:=h b Y v us (by rw[hn.size,hn.at_]) ⟨ems,bk,by rw[eM];exact k.gd.tab,hz2,by rw[eM];exact⟨b1,o,us,e2,g1,g2,g3⟩,by rw[eM];exact g3⟩ hN.2 D _ _ (hst _ fun s' q hq=>?_)
 ·rw[ems] at this;exact this
 ·unfold tf at hq
  cases hb:Nat.beq s s' with
  | true =>
   rw[hb] at hq
   obtain rfl:=zai hb
   obtain rfl:=Option.some.inj hq
   exact⟨fun _=>⟨v,e1,rfl,b1,o,us,e2,g1,g2,rfl,g3⟩,fun c=>absurd trivial c⟩
  | false=>rw[hb] at hq;exact k.tm s' q hq
theorem t_unf {z v v2 v3:Value}{us:List Value}{c:CT}{b0 b3 L1 L2 s1 s2 s3:Nat}{t3:TypeId}(hR:Rbs X Y S c v us)(hn:Y.w.heap.size=b0+1)(hL:L1≠L2)(hl1:L1≤100000000000)(hl2:L2≤100000000000)(hz:z.oneCell'=true)(hS:∀ o∈S,∀ M M' w,o.ok M w→o.ok M' w)
  (h1:tf Γ s1=some (True,an v (pa (ex us c)))) (h2:tf Γ s2=some (True,exP v2)) (h3:tf Γ s3=some (True,exP v3))
  (h:∀ r1 r2,TO P r N ops X K l [(s1,True,pa c),(s2,True,exP v2),(s3,True,exP v3)] (.blk b3 t3 [c,xc r1,xc r2] :: .row r1 ty 1 (List.replicate L1 (xc z)) :: .row r2 ty 1 (List.replicate L2 (xc z))::S)) :
  TO P r N ops Y K l Γ (.blk b3 t3 [ex us c,frC (b0+1) ty z L1,frC (b0+1) ty z L2]::S):=fun hN D E w hs=>by
 obtain⟨um,k1,a,_,rfl,⟨rfl,_⟩,_,_,rfl,⟨g1,rfl,p1,p2,p3⟩,_,_,rfl,⟨g2,rfl,q1,q2,q3⟩,rfl⟩:=hs.gd.own _ zcm
 have hne:g1≠g2:=fun e=>hL (by
  subst e
  have e2:=congrArg (fun o=>match o with | Obj.cells cs _ _=>cs.size | _=>0) (Option.some.inj (p3.symm.trans q3))
  simpa using e2)
 have:=h (.slice (some ⟨g1,0,none⟩) L1 L1) (.slice (some ⟨g2,0,none⟩) L2 L2)
 generalize hS2:(Ow.blk b3 t3 [c,xc (.slice (some ⟨g1,0,none⟩) L1 L1),xc (.slice (some ⟨g2,0,none⟩) L2 L2)] :: .row (.slice (some ⟨g1,0,none⟩) L1 L1) ty 1 (List.replicate L1 (xc z)) :: .row (.slice (some ⟨g2,0,none⟩) L2 L2) ty 1 (List.replicate L2 (xc z))::S)=S2 at this
 have hm:∀ k,Mk S2 Y.M k→k=g1∨k=g2∨Mk (.blk b3 t3 [ex a c,frC (b0+1) ty z L1,frC (b0+1) ty z L2]::S) Y.M k:=fun k hk=>by
  subst hS2
  rcases hk with⟨o,ho,e⟩ | hk
  ·simp only[zad] at ho
   rcases ho with rfl | rfl | rfl | ho
   ·exact .inr (.inr (.inl ⟨_,zcm,e⟩))
   ·exact .inl (Option.some.inj e).symm
   ·exact .inr (.inl (Option.some.inj e).symm)
   ·exact .inr (.inr (.inl ⟨o,zbg _ ho,e⟩))
  ·exact .inr (.inr (.inr hk))
 have hcl:Cl (Mk S Y.M) Y.w (Mk S2 Y.M) w:=fun k cur tt fz hk hw=>by
  have hlt:k<Y.w.heap.size:=(zap.1 hw).1
  refine⟨fun hc=>?_,(hs.bel.block k hlt fun c=>hk (.inl (hR.z k c))).trans hw⟩
  rcases hm k hc with rfl | rfl | ⟨o,ho,e⟩ | hc
  ·omega
  ·omega
  ·rcases zad.1 ho with rfl | ho
   ·rcases hs.new _ zcm k e with c | c
    ·omega
    ·exact hk (.inl (hR.z k c))
   ·exact hk (.inl ⟨o,ho,e⟩)
  ·exact hk (.inr hc)
 rw[hR.ms]
 refine this hN D E w (hR.back _ _ _ _ ⟨hs.bel,⟨fun k hk=>?_,hR.tab.cl hcl,?_⟩,?_,?_,hs.ok0,hs.zm,hs.mko,fun s q hq=>?_⟩)
 ·rcases hm k hk with rfl | rfl | hk
  ·exact(zap.1 p3).1
  ·exact(zap.1 q3).1
  ·exact hs.gd.ok k hk
 ·have rw1:∀(g L:Nat),L≤100000000000→w.heap[g]? = some (.cells (List.replicate L z).toArray ty (0,0))→(Ow.row (.slice (some ⟨g,0,none⟩) L L) ty 1 (List.replicate L (xc z))).ok (Mk S2 Y.M) w:=fun g L hl hg =>
   ⟨List.replicate L z,by rw[zbD];exact⟨by simp,.inr ⟨g,L,_,rfl,zaB _,hg,zab _,zaa hl (by decide),by simp,by simp⟩⟩,lI hz L,fun c hc=>by rw[List.eq_of_mem_replicate hc];rfl⟩
  intro o ho
  have ho':=ho
  rw[← hS2] at ho'
  simp only[zad] at ho'
  rcases ho' with rfl | rfl | rfl | ho'
  ·exact⟨_,k1,a,_,rfl,c.mono hR.cs hcl,_,_,rfl,⟨rfl,rfl⟩,_,_,rfl,⟨rfl,rfl⟩,rfl⟩
  ·exact rw1 g1 L1 hl1 p3
  ·exact rw1 g2 L2 hl2 q3
  ·exact hS o ho' _ _ _ (hs.gd.own o (zbg _ ho'))
 ·intro o ho b hb
  rw[← hS2] at ho
  simp only[zad] at ho
  rcases ho with rfl | rfl | rfl | ho
  ·exact hs.new _ zcm b hb
  ·have e:g1=b:=Option.some.inj hb;exact .inl (by omega)
  ·have e:g2=b:=Option.some.inj hb;exact .inl (by omega)
  ·exact hs.new o (zbg _ ho) b hb
 ·rw[← hS2]
  obtain⟨a1,a2⟩:=hs.apt
  refine⟨fun b hb o ho e=>?_,fun b hb o ho e=>?_,fun b hb o ho e=>?_,a2⟩
  ·simp only[zad] at ho
   rcases ho with rfl | rfl | ho
   ·obtain rfl:=Option.some.inj e;exact p2 (.inl ⟨_,zcm,hb⟩)
   ·obtain rfl:=Option.some.inj e;exact q2 (.inl ⟨_,zcm,hb⟩)
   ·exact a1 b hb o ho e
  ·obtain rfl:=Option.some.inj hb
   simp only[zad] at ho
   rcases ho with rfl | ho
   ·exact hne (Option.some.inj e).symm
   ·exact p2 (.inl ⟨o,zbg _ ho,e⟩)
  ·obtain rfl:=Option.some.inj hb
   exact q2 (.inl ⟨o,zbg _ ho,e⟩)
 ·simp only[tf] at hq
  cases c1:Nat.beq s1 s with
  | true =>
   rw[c1] at hq
   obtain rfl:=zai c1
   obtain rfl:=Option.some.inj hq
   obtain⟨u,e1,rfl,_⟩:=(hs.tm s1 _ h1).1 trivial
   exact⟨fun _=>⟨_,e1,(pa c).mono hR.pv hcl⟩,fun c=>absurd trivial c⟩
  | false =>
   rw[c1] at hq
   cases c2:Nat.beq s2 s with
   | true =>
    rw[c2] at hq
    obtain rfl:=zai c2
    obtain rfl:=Option.some.inj hq
    obtain⟨u,e1,e2⟩:=(hs.tm s2 _ h2).1 trivial
    exact⟨fun _=>⟨_,e1,e2⟩,fun c=>absurd trivial c⟩
   | false =>
    rw[c2] at hq
    cases c3:Nat.beq s3 s with
    | true =>
     rw[c3] at hq
     obtain rfl:=zai c3
     obtain rfl:=Option.some.inj hq
     obtain⟨u,e1,e2⟩:=(hs.tm s3 _ h3).1 trivial
     exact⟨fun _=>⟨_,e1,e2⟩,fun c=>absurd trivial c⟩
    | false=>rw[c3] at hq;cases hq
theorem zI7 {v:Value}{k b:Nat}{tb:TypeId}{L cs cs':List CT}(i j:Nat)(hi:S[i]? = some (.row v ty k L))(hj:(S.eraseIdx i)[j]? = some (.blk b tb cs))(hc:∀ {M w us},stp cs M w us→(sl k L).p M w [v]→stp cs' M w us):Ts X Γ S Γ ((S.eraseIdx i).set j (.blk b tb cs')):=fun E w h0=>by
 have h1:=h0.frz hi
 have h:=h0.sub (zcg S i)
 generalize S.eraseIdx i=S at *
 have hm:∀ q∈S.set j (.blk b tb cs'),q∈S∨q = .blk b tb cs':=fun q hq=>zbE hq
 have hiS:Ow.blk b tb cs∈S:=zau hj
 have hmk:Mk (S.set j (.blk b tb cs')) X.M=Mk S X.M:=funext fun c=>propext ⟨fun h=>h.imp (fun⟨q,hq,e⟩=>by
  rcases hm q hq with hq | rfl
  ·exact⟨q,hq,e⟩
  ·exact⟨_,hiS,e⟩) id,fun h=>h.imp (fun⟨q,hq,e⟩=>by
  obtain⟨m,hm⟩:=zce.1 hq
  by_cases c:j=m
  ·subst c
   obtain rfl:=Option.some.inj (hm.symm.trans hj)
   exact⟨_,zau (zbh (zaN.1 hj).1),e⟩
  ·exact⟨q,zau (by rw[zbp c];exact hm),e⟩) id⟩
 refine⟨h.bel,⟨by rw[hmk];exact h.gd.ok,by rw[hmk];exact h.gd.tab,fun q hq=>?_⟩,fun q hq b' e=>?_,cW h.apt hj (fun b' e => .inl e),h.ok0,h.zm,h.mko,by rw[hmk];exact h.tm⟩
 ·rw[hmk]
  rcases hm q hq with hq | rfl
  ·exact h.gd.own q hq
  ·obtain⟨us,g1,g2⟩:=h.gd.own _ hiS
   exact⟨us,g1,hc g2 h1⟩
 ·rcases hm q hq with hq | rfl
  ·exact h.new q hq b' e
  ·exact h.new _ hiS b' e
end
end Go.SL
namespace Go.Proofs.YtalkinejknjidaaGreatDoor
open Go.SL Go.RowKit Go.Proofs Tryz
noncomputable def layW (ls:List (List P2))(cnt:Nat):List Nat:=(List.range (xsM ls).length).map fun i=>if offC ls (2*i)<cnt then offC ls (2*i) else 0
noncomputable def layS (ls:List (List P2))(cnt:Nat):List Nat:=(List.range ((xsM ls).length-1)).map fun i=>if offC ls (2*i+1)<cnt then offC ls (2*i+1) else 0
noncomputable def woM (ls:List (List P2)):List Nat:=(List.range (xsM ls).length).map fun i=>offC ls (2*i)
noncomputable def soM (ls:List (List P2)):List Nat:=(List.range ((xsM ls).length-1)).map fun i=>offC ls (2*i+1)
theorem rset {α:Type}{f g:Nat→α}{n i:Nat}{v:α}(hi:i<n)(h:∀ k,k<n→k≠i→f k=g k)(e:g i=v):((List.range n).map f).set i v=(List.range n).map g:=by
 apply List.ext_getElem
 ·simp
 ·intro k h1 h2
  rw[List.getElem_set]
  simp only[zbw,zah,zbR] at h1
  by_cases c:i=k
  ·subst c;rw[if_pos rfl];simp[e]
  ·rw[if_neg c];simp[h k h1 (fun e=>c e.symm)]
section
variable {ls : List (List P2)}
theorem iI (hls:∀ l∈ls,∃ m,l=hullF m){c:Nat}(hc:c<2*(xsM ls).length-1):0<nC ls c:=by
 have:=(yc_ends hls hc 0).1
 rw[nE] at this
 unfold nC;omega
theorem lay_W (hls:∀ l∈ls,∃ m,l=hullF m){i:Nat}(hc:inC ls (2*i) 0):layW ls (offC ls (2*i)+0+1)=(layW ls (offC ls (2*i)+0)).set i (offC ls (2*i)+0):=by
 unfold layW
 refine(rset (by have:=hc.1;omega) (fun k hk hne=>?_) ?_).symm
 ·have hk':inC ls (2*k) 0:=⟨by omega,iI hls (by omega)⟩
  have:offC ls (2*k)≠offC ls (2*i):=fun e=>hne (by have:=(gU hk' hc (by omega)).1;omega)
  by_cases c:offC ls (2*k)<offC ls (2*i)
  ·rw[if_pos (by omega),if_pos (by omega)]
  ·rw[if_neg (by omega),if_neg (by omega)]
 ·rw[if_pos (by omega)];omega
theorem lay_S (hls:∀ l∈ls,∃ m,l=hullF m){i:Nat}(hc:inC ls (2*i+1) 0):layS ls (offC ls (2*i+1)+0+1)=(layS ls (offC ls (2*i+1)+0)).set i (offC ls (2*i+1)+0):=by
 unfold layS
 refine(rset (by have:=hc.1;omega) (fun k hk hne=>?_) ?_).symm
 ·have hk':inC ls (2*k+1) 0:=⟨by omega,iI hls (by omega)⟩
  have:offC ls (2*k+1)≠offC ls (2*i+1):=fun e=>hne (by have:=(gU hk' hc (by omega)).1;omega)
  by_cases c:offC ls (2*k+1)<offC ls (2*i+1)
  ·rw[if_pos (by omega),if_pos (by omega)]
  ·rw[if_neg (by omega),if_neg (by omega)]
 ·rw[if_pos (by omega)];omega
theorem yS0 (hls:∀ l∈ls,∃ m,l=hullF m){c j:Nat}(hc:inC ls c j)(hn:c%2=1∨j≠0):layW ls (offC ls c+j+1)=layW ls (offC ls c+j):=by
 unfold layW
 refine zbX fun k hk=>?_
 have hk:=zaG.1 hk
 have hk':inC ls (2*k) 0:=⟨by omega,iI hls (by omega)⟩
 have:offC ls (2*k)≠offC ls c+j:=fun e=>by have:=gU hk' hc (by omega);omega
 by_cases c:offC ls (2*k)<offC ls c+j
 ·rw[if_pos (by omega),if_pos c]
 ·rw[if_neg (by omega),if_neg c]
theorem yS1 (hls:∀ l∈ls,∃ m,l=hullF m){c j:Nat}(hc:inC ls c j)(hn:c%2=0∨j≠0):layS ls (offC ls c+j+1)=layS ls (offC ls c+j):=by
 unfold layS
 refine zbX fun k hk=>?_
 have hk:=zaG.1 hk
 have hk':inC ls (2*k+1) 0:=⟨by omega,iI hls (by omega)⟩
 have:offC ls (2*k+1)≠offC ls c+j:=fun e=>by have:=gU hk' hc (by omega);omega
 by_cases c:offC ls (2*k+1)<offC ls c+j
 ·rw[if_pos (by omega),if_pos c]
 ·rw[if_neg (by omega),if_neg c]
theorem xB0:layW ls 0=List.replicate (xsM ls).length 0∧layS ls 0=List.replicate ((xsM ls).length-1) 0:=by
 unfold layW layS
 constructor
 ·refine List.eq_replicate_iff.2 ⟨by simp,fun b hb=>?_⟩
  obtain⟨k,_,rfl⟩:=zaj.1 hb;rw[if_neg (Nat.not_lt_zero _)]
 ·refine List.eq_replicate_iff.2 ⟨by simp,fun b hb=>?_⟩
  obtain⟨k,_,rfl⟩:=zaj.1 hb;rw[if_neg (Nat.not_lt_zero _)]
theorem yH5 (hls:∀ l∈ls,∃ m,l=hullF m):layW ls (celM ls).length=woM ls∧layS ls (celM ls).length=soM ls:=by
 unfold layW layS woM soM
 constructor
 ·refine zbX fun k hk=>?_
  have hk:=zaG.1 hk
  have:=tK (ls:=ls) (c:=2*k) (j:=0) ⟨by omega,iI hls (by omega)⟩
  rw[if_pos (by omega)]
 ·refine zbX fun k hk=>?_
  have hk:=zaG.1 hk
  have:=tK (ls:=ls) (c:=2*k+1) (j:=0) ⟨by omega,iI hls (by omega)⟩
  rw[if_pos (by omega)]
end
abbrev zF:Value:=.agg #[.bool false,.slice none 0 0,.slice none 0 0,.bool false,.slice none 0 0,.slice none 0 0,.bool false,.slice none 0 0,.slice none 0 0,.bool false,.slice none 0 0,.slice none 0 0,.slice none 0 0,.slice none 0 0,.slice none 0 0,.slice none 0 0,.slice none 0 0,.slice none 0 0]
instance:Z1 prog 3 (.int .i64 0):=⟨_,sz3,by decide,rfl⟩
theorem klay {ls:List (List P2)}(h:Prt ls){N:Nat}:CTy prog 103 [ag (mdT N (modM ls))] (ag (firT N (modM ls) (woM ls) (soM ls))):=by
 have hls:=h.hull
 have hl:=pW h
 have hxl:=dE h
 have hcs:(modM ls).cs.length=(celM ls).length:=rfl
 have hw:(modM ls).wl.length=(xsM ls).length:=iY ls
 have hv:(modM ls).lv.length=(xsM ls).length-1:=fS ls
 have hx2:=(yB3 ls).1
 have get:∀ a:Nat,a<(modM ls).cs.length→∃ c j,inC ls c j∧a=offC ls c+j∧(modM ls).cs.getD a Df.d=cellC ls c j:=fun a ha=>pV ha
 generalize modM ls=m at *
 refine fw [.cell 2 144] func103 fun X=>?_
 iterate 3 refine u ?_
 refine talY (s:=1) rfl rfl fun b2 Y v1 us1 hY hR=>?_
 iterate 2 refine u ?_
 apply xG 1 12 11 [(10,3,0),(11,1000011,0)] rfl rfl mixed rfl rfl rfl
 refine u ?_
 refine cx1 (old rfl rfl) rfl (cx1 (ofan rfl) rfl ?_)
 repeat refine u ?_
 refine cx1 (obmk m.wl.length 0 b2 rfl rfl rfl (by omega) (by omega) (by omega)) rfl (cx1 (ofan rfl) rfl ?_)
 repeat refine u ?_
 refine cx1 (obmk m.lv.length 0 b2 rfl rfl rfl (by omega) (by omega) (by omega)) rfl ?_
 refine cx1 (obd rfl rfl rfl) rfl (cN rfl rfl (cal) (cS rfl rfl rfl (cst rfl rfl rfl) ?_))
 refine cE (fun b3=>?_)
 refine fm ?_
 repeat refine u ?_
 refine zK (jS (cs':=[ex us1 (mdT N m),frC (b2+1) 3 (.int .i64 0) m.wl.length,frC (b2+1) 3 (.int .i64 0) m.lv.length]) 0 rfl cD) (t_unf (s1:=1) (s2:=2) (s3:=3) (v3:=.pointer (some ⟨b3,0,none⟩)) hR hY (by omega) (by omega) (by omega) rfl ?_ rfl rfl rfl fun r1 r2=>?_)
 rotate_left
 rotate_left
 ·intro o ho M M' w h
  obtain rfl:=zal.1 ho
  obtain⟨us,h1,h2⟩:=h
  exact⟨us,h1,yE4 h2⟩
 have eW:List.replicate m.wl.length (xc (.int .i64 0))=(layW ls 0).map xi:=by rw[xB0.1,List.map_replicate,hw];rfl
 have eS:List.replicate m.lv.length (xc (.int .i64 0))=(layS ls 0).map xi:=by rw[xB0.2,List.map_replicate,hv];rfl
 rw[eW,eS]
 repeat refine u ?_
 refine lp (σ:=Nat) [2,3,17,18] (fun n=>[(19,True,exP (.int .i64 ((n:Nat):Int)))]) (fun n=>[.blk b3 144 [mdT N m,xc r1,xc r2],.row r1 3 1 ((layW ls n).map xi),.row r2 3 1 ((layS ls n).map xi),.blk b2 144 (zc zF)]) (fun n=>n≤m.cs.length) (fun n=>m.cs.length-n) (0) ((by omega)) fun n hJ Y _=>?_
 have lW:(layW ls n).length=(xsM ls).length:=by unfold layW;simp
 have lS:(layS ls n).length=(xsM ls).length-1:=by unfold layS;simp
 have get':n<m.cs.length→∃ c j,inC ls c j∧n=offC ls c+j∧(m.cs.getD n Df.d).2.1=c/2∧(m.cs.getD n Df.d).1=2*(c%2)+j%2∧(m.cs.getD n Df.d).2.2.1=j/2:=fun hn=>by
  obtain⟨c,j,hc,e,eC⟩:=get n hn
  exact⟨c,j,hc,e,by rw[eC];exact⟨rfl,rfl,rfl⟩⟩
 have sW:n<m.cs.length→(m.cs.getD n Df.d).2.1<((layW ls n).map xi).length:=fun hn=>by
  obtain⟨c,j,hc,e,k3,k2,k4⟩:=get' hn
  have:=hc.1
  rw[zah];omega
 have sS:n<m.cs.length→((((m.cs.getD n Df.d).1:Nat):Int)=2∧(((m.cs.getD n Df.d).2.2.1:Nat):Int)=0)→(m.cs.getD n Df.d).2.1<((layS ls n).map xi).length:=fun hn h=>by
  obtain⟨c,j,hc,e,k3,k2,k4⟩:=get' hn
  have:=hc.1
  rw[zah];omega
 repeat refine u ?_
 refine tp (fun c0=>?_) fun c0=>?_
 iterate 8 refine u ?_
 refine u fun b5=>?_
 repeat refine u ?_
 refine tst 0 rfl rfl rfl rfl rfl rfl (zK (zT (s:=5) 0 rfl rfl) ?_)
 repeat refine u ?_
 refine tp (fun c1=>?_) fun c1=>?_
 repeat refine u ?_
 refine zA1 (oldo 0 rfl rfl rfl rfl) ?_
 repeat refine u ?_
 refine zA1 (oixo 1 _ rfl rfl rfl (fun _=>rfl) (fun _=>(sW (by omega)))) ?_
 refine tsr 1 _ rfl rfl rfl rfl rfl (sW (by omega)) rfl ?_
 repeat refine u ?_
 rotate_left
 repeat refine u ?_
 refine tp (fun c2=>?_) fun c2=>?_
 repeat refine u ?_
 refine zA1 (oldo 0 rfl rfl rfl rfl) ?_
 repeat refine u ?_
 refine zA1 (oixo 2 _ rfl rfl rfl (fun _=>rfl) (fun _=>(sS (by omega) ‹_›))) ?_
 refine tsr 2 _ rfl rfl rfl rfl rfl (sS (by omega) ‹_›) rfl ?_
 repeat refine u ?_
 rotate_left
 repeat refine u ?_
 rotate_left
 repeat refine u ?_
 rotate_left
 ·obtain⟨c,j,hc,e,k3',k2',k4'⟩:=get' (by omega)
  have ec:c=2*(c/2):=by omega
  have ej:j=0:=by omega
  have eW1:((layW ls n).map xi).set (m.cs.getD n Df.d).2.1 (xc (.int .i64 ((n:Nat):Int)))=(layW ls (n+1)).map xi:=by
   have:=lay_W hls (i:=c/2) (by rw[← ec,← ej];exact hc)
   rw[← ec,← ej,← e] at this
   rw[this,List.map_set,k3']
  have eS1:layS ls n=layS ls (n+1):=by rw[e];exact(yS1 hls hc (.inl (by omega))).symm
  rw[eW1,eS1]
  refine⟨n+1,tes ?_ ?_ (List.Sublist.refl _),(by omega),(by omega)⟩
  refine tc rfl (ps_r _) (tn)
  refine tc rfl (ps_r _) (tc rfl (ps_r _) (tc rfl (ps_r _) (tc rfl (ps_r _) (tn))))
 ·obtain⟨c,j,hc,e,k3',k2',k4'⟩:=get' (by omega)
  have ec:c=2*(c/2)+1:=by omega
  have ej:j=0:=by omega
  have eS1:((layS ls n).map xi).set (m.cs.getD n Df.d).2.1 (xc (.int .i64 ((n:Nat):Int)))=(layS ls (n+1)).map xi:=by
   have:=lay_S hls (i:=c/2) (by rw[← ec,← ej];exact hc)
   rw[← ec,← ej,← e] at this
   rw[this,List.map_set,k3']
  have eW1:layW ls n=layW ls (n+1):=by rw[e];exact(yS0 hls hc (.inl (by omega))).symm
  rw[eS1,eW1]
  refine⟨n+1,tes ?_ ?_ (List.Sublist.refl _),(by omega),(by omega)⟩
  refine tc rfl (ps_r _) (tn)
  refine tc rfl (ps_r _) (tc rfl (ps_r _) (tc rfl (ps_r _) (tc rfl (ps_r _) (tn))))
 ·obtain⟨c,j,hc,e,k3',k2',k4'⟩:=get' (by omega)
  have eS1:layS ls n=layS ls (n+1):=by rw[e];exact(yS1 hls hc (by omega)).symm
  have eW1:layW ls n=layW ls (n+1):=by rw[e];exact(yS0 hls hc (by omega)).symm
  rw[eS1,eW1]
  refine⟨n+1,tes ?_ ?_ (List.Sublist.refl _),(by omega),(by omega)⟩
  refine tc rfl (ps_r _) (tn)
  refine tc rfl (ps_r _) (tc rfl (ps_r _) (tc rfl (ps_r _) (tc rfl (ps_r _) (tn))))
 ·obtain rfl:n=(celM ls).length:=by omega
  rw[(yH5 hls).1,(yH5 hls).2]
  refine zK (zI7 1 0 rfl rfl (cs':=[mdT N m,sl 1 ((woM ls).map xi),xc r2]) (fun⟨a,b,e,h1,a2,b2,e2,h2,h3⟩ hv=>⟨a,b,e,h1,a2,b2,e2,by rw[h2.1];exact hv,h3⟩)) (zK (zI7 1 0 rfl rfl (cs':=[firT N m (woM ls) (soM ls)]) (fun⟨a,b,e,h1,a2,b2,e2,h2,a3,b3,e3,h3,h4⟩ hv=>⟨_,[],(zao _).symm,⟨a,b,e,h1,a2,b2,e2,h2,a3,b3,e3,by rw[h3.1];exact hv,h4⟩,rfl⟩)) (zA1 (oldo 0 rfl rfl rfl rfl) ?_))
  refine tst 1 rfl rfl rfl rfl rfl rfl ?_
  repeat refine u ?_
  refine⟨[_],rsc 1 rfl rfl rfl rfl rs0,yF (PSub.refl _)⟩
instance {y:Nat}:CtOf (exP (.func (.yield y) #[] #[])) (xc (.func (.yield y) #[] #[])):=⟨fun h=>⟨[_],by rw[h];rfl,rfl,rfl⟩⟩
theorem kjall {N:Nat}{m:Mdl}{wo so:List Nat}:CTy prog 104 [ag (firT N m wo so)] (fn 179 [pa (firT N m wo so)]):=by
 refine fw [.tmp 2] func104 fun X=>?_
 repeat refine u ?_
 exact e
theorem seq_w {ls:List (List P2)}{i:Nat}(h:i<(xsM ls).length):∃ post,joinSeq ls=(List.range i).flatMap (wlJ ls)++wlJ ls i++post:=by
 obtain⟨p,e⟩:=yJ1 (wlJ ls) h
 exact⟨p++(List.range ((xsM ls).length-1)).flatMap (slJ ls),by unfold joinSeq;rw[e];simp⟩
theorem seq_s {ls:List (List P2)}{i:Nat}(h:i<(xsM ls).length-1):∃ post,joinSeq ls=(List.range (xsM ls).length).flatMap (wlJ ls)++(List.range i).flatMap (slJ ls)++(slJ ls i++post):=by
 obtain⟨p,e⟩:=yJ1 (slJ ls) h
 exact⟨p,by unfold joinSeq;rw[e];simp⟩
theorem yB6 {ls:List (List P2)}{i:Nat}(h:i<(xsM ls).length):(woM ls).getD i Df.d=offC ls (2*i):=by
 unfold woM;rw[List.getD_eq_getElem?_getD,List.getElem?_map,List.getElem?_range h];rfl
theorem yZ0 {ls:List (List P2)}{i:Nat}(h:i<(xsM ls).length-1):(soM ls).getD i Df.d=offC ls (2*i+1):=by
 unfold soM;rw[List.getD_eq_getElem?_getD,List.getElem?_map,List.getElem?_range h];rfl
theorem ijall {ls:List (List P2)}(h:Prt ls){N:Nat}(hN:N≤40000):CIt prog 179 [pa (firT N (modM ls) (woM ls) (soM ls))] (joinSeq ls) jn2:=by
 have hw:(modM ls).wl.length=(xsM ls).length:=iY ls
 have hv:(modM ls).lv.length=(xsM ls).length-1:=fS ls
 have hwo:(woM ls).length=(xsM ls).length:=by unfold woM;simp
 have hso:(soM ls).length=(xsM ls).length-1:=by unfold soM;simp
 have ew:∀ i,i<(xsM ls).length→wlJ ls i=gL ((woM ls).getD i Df.d) ((modM ls).wl.getD i Df.d).length:=fun i hi=>by rw[yB6 hi,show (modM ls).wl.getD i Df.d=wlM ls i from iK hi];rfl
 have ev:∀ i,i<(xsM ls).length-1→slJ ls i=gL ((soM ls).getD i Df.d) ((modM ls).lv.getD i Df.d).length++(acrS ((woM ls).getD i Df.d) ((soM ls).getD i Df.d) ((modM ls).wl.getD i Df.d) (((modM ls).lv.getD i Df.d).map fun a=>if false then a.2 else a.1)++acrS ((woM ls).getD (i+1) Df.d) ((soM ls).getD i Df.d) ((modM ls).wl.getD (i+1) Df.d) (((modM ls).lv.getD i Df.d).map fun a=>if true then a.2 else a.1)):=fun i hi=>by
  rw[yB6 (by omega),yB6 (by omega),yZ0 (by omega),show (modM ls).wl.getD i Df.d=wlM ls i from iK (by omega),show (modM ls).wl.getD (i+1) Df.d=wlM ls (i+1) from iK (by omega),show (modM ls).lv.getD i Df.d=lvM ls i from dW (by omega)];rfl
 have hx:(xsM ls).length≤10000:=dE h
 have bw:∀ i,i<(xsM ls).length→(woM ls).getD i Df.d≤3460000∧((modM ls).wl.getD i Df.d).length≤87∧True:=fun i hi=>by
  rw[yB6 hi,show (modM ls).wl.getD i Df.d=wlM ls i from iK hi]
  exact⟨by have:=zM0 h (2*i);omega,bW h i,trivial⟩
 have bv:∀ i,i<(xsM ls).length-1→(soM ls).getD i Df.d≤3460000∧((modM ls).lv.getD i Df.d).length≤29∧True:=fun i hi=>by
  rw[yZ0 hi,show (modM ls).lv.getD i Df.d=lvM ls i from dW (by omega)]
  exact⟨by have:=zM0 h (2*i+1);omega,cM h i,trivial⟩
 generalize modM ls=m at *
 generalize woM ls=wo at *
 generalize soM ls=so at *
 refine cit func179 rfl rfl rfl rfl rfl fun X y YS YX hY hS=>?_
 repeat refine u ?_
 refine lpy (σ:=Nat) [1,3,11,12] (fun i=>[(13,True,exP (.int .i64 ((i:Nat):Int)))]) (fun i=>[]) (fun i Y=>YS ((List.range i).flatMap (wlJ ls)) Y∧i≤m.wl.length) (fun i=>m.wl.length-i) (0) (⟨hS,by omega⟩) fun i Y hG=>?_
 obtain⟨hS,hi⟩:=hG
 repeat refine u ?_
 refine tp (fun c0=>?_) fun c0=>?_
 repeat refine u ?_
 refine zA1 (oca rfl rfl fun _=>yH9) ?_
 rotate_left
 repeat refine u ?_
 rotate_left
 ·obtain⟨post,hp⟩:=seq_w (ls:=ls) (i:=i) (by omega)
  obtain⟨b1,b2,b3⟩:=bw i (by omega)
  refine yO0 (mid:=wlJ ls i) hY hS hp (by rw[ew i (by omega)];exact yU8 (by omega)) (fun _=>rfl) rfl rfl (fun Y hS=>?_) (fun Y hX=>?_)
  ·repeat refine u ?_
   refine qG rfl rfl ?_
   repeat refine u ?_
   refine⟨i+1,tes ?_ ?_ (List.Sublist.refl _),?_,(by omega)⟩
   refine tc rfl (ps_r _) (tn)
   refine tc rfl (ps_r _) (tc rfl (ps_r _) (tc rfl (ps_r _) (tc rfl (ps_r _) (tn))))
   exact⟨by rw[jV];exact hS,by omega⟩
  ·repeat refine u ?_
   refine aQ rfl rfl ?_
   repeat refine u ?_
   exact .inr hX
 ·obtain rfl:i=m.wl.length:=by omega
  rw[hw] at hS
  refine lpy (σ:=Nat) [1,3,32,33] (fun i=>[(34,True,exP (.int .i64 ((i:Nat):Int)))]) (fun i=>[]) (fun i Y=>YS ((List.range (xsM ls).length).flatMap (wlJ ls)++(List.range i).flatMap (slJ ls)) Y∧i≤m.lv.length) (fun i=>m.lv.length-i) (0) (⟨by simpa using hS,by omega⟩) fun i Y hG=>?_
  obtain⟨hS,hi⟩:=hG
  repeat refine u ?_
  refine tp (fun c1=>?_) fun c1=>?_
  iterate 12 refine u ?_
  apply zY2 rfl (zI9 12 11 rfl (eZ 9 true rfl rfl ?m))
  refine d1 (omv rfl) ?_
  refine d1 (ofa rfl rfl) ?_
  refine d1 (old rfl rfl) ?_
  refine d1 (omv rfl) ?_
  refine d1 (oix _ rfl rfl rfl (fun _=>rfl) (fun _=>(by omega))) ?_
  refine d1 (old rfl rfl) ?_
  refine d1 (omv rfl) ?_
  refine d1 (oln rfl) ?_
  refine d1 (oca rfl rfl fun _=>yH9) ?_
  repeat refine u ?_
  rotate_left
  repeat refine u ?_
  rotate_left
  ·obtain⟨post,hp⟩:=seq_s (ls:=ls) (i:=i) (by omega)
   have ei:=ev i (by omega)
   obtain⟨w1,w2,w3⟩:=bv i (by omega)
   obtain⟨u1,u2,u3⟩:=bw i (by omega)
   obtain⟨u4,u5,u6⟩:=bw (i+1) (by omega)
   generalize hA:gL (so.getD i Df.d) (m.lv.getD i Df.d).length=A at ei
   generalize hB:acrS (wo.getD i Df.d) (so.getD i Df.d) (m.wl.getD i Df.d) (((m.lv.getD i Df.d)).map fun a=>if false then a.2 else a.1)=B at ei
   generalize hC:acrS (wo.getD (i+1) Df.d) (so.getD i Df.d) (m.wl.getD (i+1) Df.d) (((m.lv.getD i Df.d)).map fun a=>if true then a.2 else a.1)=C at ei
   rw[ei] at hp
   refine yO0 (mid:=A) (post:=B++C++post) hY hS (by rw[hp];simp) (by rw[← hA];exact yU8 (by omega)) (fun _=>rfl) rfl rfl (fun Y hS=>?_) (fun Y hX=>?_)
   ·refine zA1 (ont rfl) ?_
    refine zA1 (omv rfl) ?_
    refine zA0 ?_
    refine⟨_,_,rfl,rfl,zI9 12 11 rfl (eZ 8 false rfl rfl ?_)⟩
    refine d1 (omv rfl) ?_
    refine d1g rfl rfl (omv rfl) ?_
    refine d1g rfl rfl (old rfl rfl) ?_
    refine d1g rfl rfl (omv rfl) ?_
    refine d1g rfl rfl (omv rfl) ?_
    refine d1g rfl rfl (omv rfl) (d1g rfl rfl (oca rfl rfl fun g=>sU (by omega)) ?_)
    refine d1g rfl rfl (oca rfl rfl fun g=>eB) ?_
    repeat refine u ?_
    refine lG (γ:=!true) (mid:=B) (post:=C++post) hY (fun _=>hS) (by rw[hp];simp) (by rw[← hB];exact mI hN (by omega) (by omega) (by omega) (by omega) (by omega) (by omega) (by rw[zah];omega)) (fun _=>rfl) rfl rfl rfl rfl (fun hc=>absurd rfl hc) (fun _ Y hS=>?_) (fun _ Y hX=>?_)
    ·refine t1g rfl rfl (ont rfl) ?_
     refine zA1 (opk rfl rfl rfl) ?_
     refine zA1 (omv rfl) ?_
     refine zA0 ?_
     refine⟨_,_,rfl,rfl,eZ 9 false rfl rfl ?_⟩
     refine d1 (omv rfl) ?_
     refine d1g rfl rfl (omv rfl) ?_
     refine d1g rfl rfl (old rfl rfl) ?_
     refine d1g rfl rfl (omv rfl) ?_
     refine d1g rfl rfl (omv rfl) ?_
     refine d1g rfl rfl (oad rfl rfl (by omega)) ?_
     refine d1g rfl rfl (omv rfl) (d1g rfl rfl (oca rfl rfl fun g=>sU (by omega)) ?_)
     refine d1g rfl rfl (oca rfl rfl fun g=>eB (wall:=i+1)) ?_
     repeat refine u ?_
     refine lG (γ:=!true || !true) (mid:=C) (post:=post) hY (fun _=>hS) (by rw[hp];simp) (by rw[← hC];exact mI hN (by omega) (by omega) (by omega) (by omega) (by omega) (by omega) (by rw[zah];omega)) (fun _=>rfl) rfl rfl rfl rfl (fun hc=>absurd rfl hc) (fun _ Y hS=>?_) (fun _ Y hX=>?_)
     ·refine t1g rfl rfl (ont rfl) ?_
      refine zA1 (opk rfl rfl rfl) ?_
      refine zA0 (qG rfl rfl ?_)
      repeat refine u ?_
      refine zA1 (oad rfl rfl (by omega)) ?_
      repeat refine u ?_
      refine⟨i+1,tes ?_ ?_ (List.Sublist.refl _),?_,(by omega)⟩
      refine tc rfl (ps_r _) (tn)
      refine tc rfl (ps_r _) (tc rfl (ps_r _) (tc rfl (ps_r _) (tc rfl (ps_r _) (tn))))
      exact⟨by rw[jV,ei];simpa using hS,by omega⟩
     ·refine t1g rfl rfl (ont rfl) ?_
      refine zA1 (opk rfl rfl rfl) ?_
      refine zA0 (aQ rfl rfl ?_)
      repeat refine u ?_
      exact .inr hX
    ·refine t1g rfl rfl (ont rfl) ?_
     refine zA1 (opk rfl rfl rfl) ?_
     refine zA1 (omv rfl) ?_
     refine zA0 ?_
     refine⟨_,_,rfl,rfl,eZ 9 false rfl rfl ?_⟩
     refine d1 (omv rfl) ?_
     refine d1g rfl rfl (omv rfl) ?_
     refine d1g rfl rfl (old rfl rfl) ?_
     refine d1g rfl rfl (omv rfl) ?_
     refine d1g rfl rfl (omv rfl) ?_
     refine d1g rfl rfl (oad rfl rfl (by omega)) ?_
     refine d1g rfl rfl (omv rfl) (d1g rfl rfl (oca rfl rfl fun g=>sU (by omega)) ?_)
     refine d1g rfl rfl (oca rfl rfl fun g=>eB (wall:=i+1)) ?_
     repeat refine u ?_
     refine lG (γ:=!true || !false) (pre:=(List.range (xsM ls).length).flatMap (wlJ ls)++(List.range i).flatMap (slJ ls)++A++B) (mid:=C) (post:=post) hY (fun hc=>absurd hc (by decide)) (by rw[hp];simp) (by rw[← hC];exact mI hN (by omega) (by omega) (by omega) (by omega) (by omega) (by omega) (by rw[zah];omega)) (fun _=>rfl) rfl rfl rfl rfl (fun _=>?_) (fun hc=>absurd hc (by decide)) (fun hc=>absurd hc (by decide))
     refine t1g rfl rfl (ont rfl) ?_
     refine zA1 (opk rfl rfl rfl) ?_
     refine zA0 (aQ rfl rfl ?_)
     repeat refine u ?_
     exact .inr hX
   ·refine zA1 (ont rfl) ?_
    refine zA1 (omv rfl) ?_
    refine zA0 ?_
    refine⟨_,_,rfl,rfl,zI9 12 11 rfl (eZ 8 false rfl rfl ?_)⟩
    refine d1 (omv rfl) ?_
    refine d1g rfl rfl (omv rfl) ?_
    refine d1g rfl rfl (old rfl rfl) ?_
    refine d1g rfl rfl (omv rfl) ?_
    refine d1g rfl rfl (omv rfl) ?_
    refine d1g rfl rfl (omv rfl) (d1g rfl rfl (oca rfl rfl fun g=>sU (by omega)) ?_)
    refine d1g rfl rfl (oca rfl rfl fun g=>eB) ?_
    repeat refine u ?_
    refine lG (γ:=!false) (pre:=(List.range (xsM ls).length).flatMap (wlJ ls)++(List.range i).flatMap (slJ ls)++A) (mid:=B) (post:=C++post) hY (fun hc=>absurd hc (by decide)) (by rw[hp];simp) (by rw[← hB];exact mI hN (by omega) (by omega) (by omega) (by omega) (by omega) (by omega) (by rw[zah];omega)) (fun _=>rfl) rfl rfl rfl rfl (fun _=>?_) (fun hc=>absurd hc (by decide)) (fun hc=>absurd hc (by decide))
    refine t1g rfl rfl (ont rfl) ?_
    refine zA1 (opk rfl rfl rfl) ?_
    refine zA1 (omv rfl) ?_
    refine zA0 ?_
    refine⟨_,_,rfl,rfl,eZ 9 false rfl rfl ?_⟩
    refine d1 (omv rfl) ?_
    refine d1g rfl rfl (omv rfl) ?_
    refine d1g rfl rfl (old rfl rfl) ?_
    refine d1g rfl rfl (omv rfl) ?_
    refine d1g rfl rfl (omv rfl) ?_
    refine d1g rfl rfl (oad rfl rfl (by omega)) ?_
    refine d1g rfl rfl (omv rfl) (d1g rfl rfl (oca rfl rfl fun g=>sU (by omega)) ?_)
    refine d1g rfl rfl (oca rfl rfl fun g=>eB (wall:=i+1)) ?_
    repeat refine u ?_
    refine lG (γ:=!false || !true) (pre:=(List.range (xsM ls).length).flatMap (wlJ ls)++(List.range i).flatMap (slJ ls)++A++B) (mid:=C) (post:=post) hY (fun hc=>absurd hc (by decide)) (by rw[hp];simp) (by rw[← hC];exact mI hN (by omega) (by omega) (by omega) (by omega) (by omega) (by omega) (by rw[zah];omega)) (fun _=>rfl) rfl rfl rfl rfl (fun _=>?_) (fun hc=>absurd hc (by decide)) (fun hc=>absurd hc (by decide))
    refine t1g rfl rfl (ont rfl) ?_
    refine zA1 (opk rfl rfl rfl) ?_
    refine zA0 (aQ rfl rfl ?_)
    repeat refine u ?_
    exact .inr hX
  ·refine .inl ?_
   have:joinSeq ls=(List.range (xsM ls).length).flatMap (wlJ ls)++(List.range i).flatMap (slJ ls):=by unfold joinSeq;rw[show (xsM ls).length-1=i by omega]
   rw[this];exact hS
instance:Df Bool:=⟨false⟩
abbrev bT (b:Bool):CT:=xc (.bool b)
theorem kisf {fs:List Bool}{n:Nat}:CTy prog 102 [exP (.int .i64 ((n:Nat):Int)),pa (sl 1 (fs.map bT))] (exP (.bool (fs.getD n false))):=by
 refine fw [.tmp 3] func102 fun X=>?_
 repeat refine u ?_
 refine e ?_
 refine psb ?_
 by_cases c:n<fs.length
 ·rw[decide_eq_true (by omega),Bool.true_and];rfl
 ·rw[decide_eq_false (by omega),Bool.false_and,zaf,zcf (by omega)];rfl
def rawP (f:Nat→Bool)(l:List (Nat×Nat)):List (Nat×Nat):=(l.filter fun p=>f p.1&&f p.2).map sjn
theorem raw_nx {f:Nat→Bool}{l:List (Nat×Nat)}{x:Nat×Nat}:rawP f (l++[x])=if f x.1&&f x.2 then rawP f l++[sjn x] else rawP f l:=by
 unfold rawP
 rw[List.filter_append,zaq]
 by_cases c:(f x.1&&f x.2)=true
 ·rw[if_pos c,show [x].filter (fun p=>f p.1&&f p.2)=[x] from List.filter_cons_of_pos (p:=fun p:Nat×Nat=>f p.1&&f p.2) c];rfl
 ·rw[if_neg c,show [x].filter (fun p=>f p.1&&f p.2)=[] from List.filter_cons_of_neg (p:=fun p:Nat×Nat=>f p.1&&f p.2) c];simp
theorem yP9 {f:Nat→Bool}{l:List (Nat×Nat)}:(rawP f l).length≤l.length:=by
 unfold rawP;rw[List.length_map];exact List.length_filter_le _ _
theorem ksortJ {v:Value}{l:List (Nat×Nat)}(hl:l.length≤1000000):CTo prog 105 [exP v,exP (.func (.func 106) #[] #[])] [.row v 75 2 (l.map jnT)] (fun r So=>r=tu []∧∃ l':List (Nat×Nat),l'.Perm l∧(∀ i j,i<j→j<l'.length→¬ cmpJ l'[j]! l'[i]! < 0)∧So=[.row v 75 2 (l'.map jnT)]) :=
 tsort (ρ:=sortJoin_ren) sortJoin rfl yV0 (jI sz75) (fun _=>rfl) yK5.swo (bo func105) (fun x y=>kjcmp) hl
theorem kjallf {ls:List (List P2)}(h:Prt ls){N:Nat}(hN:N≤40000){fs:List Bool}:CTy prog 35 [ag (mdT N (modM ls)),sv (sl 1 (fs.map bT))] (sv (sl 2 ((allJ ls fun n=>fs.getD n false).map jnT))):=by
 have kl:=klay h (N:=N)
 have it:=ijall h hN
 have hsl:=yE9 h
 generalize modM ls=m at *
 generalize woM ls=wo at *
 generalize soM ls=so at *
 refine fw [.cell 4 68] func35 fun X=>?_
 iterate 4 refine u ?_
 refine u fun b4=>?_
 iterate 4 refine u ?_
 refine u fun b5=>?_
 refine tst 0 rfl rfl rfl rfl rfl rfl (zK (zT (s:=5) 0 rfl rfl) ?_)
 repeat refine u ?_
 refine zA1 (oca rfl rfl fun _=>kl) ?_
 refine zA1 (oca rfl rfl fun _=>kjall) ?_
 repeat refine u ?_
 refine t_ts (xK 75 2) ?_
 refine kQ (σ:=List (Nat×Nat)×Value) (fun t=>[.row t.2 75 2 ((rawP (fun n=>fs.getD n false) t.1).map jnT),.blk b4 68 [xc t.2]]) (fun pre t=>t.1=pre) ([],.slice none 0 0) rfl it (fun _=>rfl) rfl iG (by simp[rawP];rfl) rfl (fun pre x post t hx hJ Y y hl=>?_) (fun t hJ Y _=>?_)
 ·obtain⟨pr,v1⟩:=t
  obtain rfl:pr=pre:=hJ
  have h1:pr.length≤500000:=by have:=congrArg List.length hx;simp at this;omega
  have h2:=yP9 (f:=fun n=>fs.getD n false) (l:=pr)
  have h3:=raw_nx (f:=fun n=>fs.getD n false) (l:=pr) (x:=x)
  repeat refine u ?_
  refine zA1 (oas rfl) ?_
  repeat refine u ?_
  refine zA1 (oas rfl) ?_
  repeat refine u ?_
  refine⟨rfl,fun Y hl=>?_⟩
  repeat refine u ?_
  refine zA1 (old rfl rfl) ?_
  repeat refine u ?_
  refine zA1 (oca rfl rfl fun _=>kisf) ?_
  repeat refine u ?_
  refine t1g rfl rfl (old rfl rfl) ?_
  repeat refine u ?_
  refine t1g rfl rfl (oca rfl rfl fun g=>kisf) ?_
  repeat refine u ?_
  refine tp (fun c0=>?_) fun c0=>?_
  repeat refine u ?_
  refine zA1 (oldo 1 rfl rfl rfl rfl) ?_
  iterate 2 refine u ?_
  refine zA1 (yJ (omn rfl rfl) (ps_i (show _=((min x.1 x.2:Nat):Int) by omega))) ?_
  iterate 2 refine u ?_
  refine zA1 (yJ (omx rfl rfl) (ps_i (show _=((max x.1 x.2:Nat):Int) by omega))) ?_
  repeat refine u ?_
  refine tap 0 rfl rfl rfl (by(simp only[zah,zat,zbc];omega)) rfl fun r31=>?_
  refine tsw 1 0 rfl rfl rfl rfl rfl rfl rfl ?_
  repeat refine u ?_
  rotate_left
  repeat refine u ?_
  rotate_left
  ·rw[if_pos (by simpa using c0)] at h3
   refine⟨(pr++[x],r31),?_,rfl⟩
   dsimp only
   rw[h3,zaq]
   exact List.Sublist.refl _
  ·rw[if_neg (by simpa using c0)] at h3
   refine⟨(pr++[x],v1),?_,rfl⟩
   dsimp only
   rw[h3]
   exact List.Sublist.refl _
 ·obtain⟨_,v1⟩:=t
  obtain rfl:_=joinSeq ls:=hJ
  have h4:=yP9 (f:=fun n=>fs.getD n false) (l:=joinSeq ls)
  repeat refine u ?_
  refine tco [0] rfl rfl rfl (ksortJ (by dsimp only;omega)) ?_
  rintro _ _ ⟨rfl,l',hp,hso,rfl⟩
  rw[show l'=allJ ls fun n=>fs.getD n false from set_nod yK5 (zR4 ls _) hp hso]
  refine zK (zI7 0 0 rfl rfl (cs':=[sl 2 ((allJ ls fun n=>fs.getD n false).map jnT)]) (fun⟨a,b,e,h1,h2⟩ hv=>⟨a,b,e,by rw[h1.1];exact hv,h2⟩)) ?_
  repeat refine u ?_
  refine zA1 (oldo 0 rfl rfl rfl rfl) ?_
  refine tst 0 rfl rfl rfl rfl rfl rfl ?_
  repeat refine u ?_
  refine⟨[_],rsc 0 rfl rfl rfl rfl rs0,yF (PSub.refl _)⟩
theorem yB9 {c:Nat}(h:c<3):nC [] c=3:=by
 have:c=0∨c=1∨c=2:=by omega
 unfold nC ynM
 rcases this with rfl | rfl | rfl
 ·rw[if_pos rfl,tV (by omega)];rfl
 ·rw[if_neg (by omega),show 1/2=0 from rfl,zP3];rfl
 ·rw[if_pos rfl,tV (by omega)];rfl
theorem rF:offC [] 0=0∧offC [] 1=3∧offC [] 2=6∧offC [] 3=9:=by
 have h0:offC [] 0=0:=rfl
 have h1:offC [] 1=3:=by show offC [] 0+nC [] 0=3;rw[h0,yB9 (by omega)]
 have h2:offC [] 2=6:=by show offC [] 1+nC [] 1=6;rw[h1,yB9 (by omega)]
 exact⟨h0,h1,h2,by show offC [] 2+nC [] 2=9;rw[h2,yB9 (by omega)]⟩
theorem yN1:(celM []).length=9:=by
 rw[pU,show kC []=3 by unfold kC;rw[rE];rfl];exact rF.2.2.2
theorem wk_seq:joinSeq []=[(0,1),(1,2),(6,7),(7,8),(3,4),(4,5),(0,3),(0,4),(1,4),(2,4),(2,5),(6,3),(6,4),(7,4),(8,4),(8,5)]:=by
 unfold joinSeq
 rw[rE]
 show (([0,1]:List Nat).flatMap (wlJ []))++([0]:List Nat).flatMap (slJ [])=_
 simp only[zbS,List.flatMap_nil,zao]
 unfold wlJ slJ endsM
 rw[tV (by omega),tV (by omega),zP3,show 2*0=0 from rfl,show 2*(0+1)=2 from rfl,show 0+1=1 from rfl,rF.1,rF.2.1,rF.2.2.1]
 try rw[tV (by omega)]
 decide +kernel
def wkR:List (Nat×Nat):=[(0,1),(1,2),(6,7),(7,8),(3,4),(4,5),(0,3),(0,4),(1,4),(2,4),(2,5),(3,6),(4,6),(4,7),(4,8),(5,8)]
theorem yM9 {free:Nat→Bool}(h:∀ n,n<9→free n=true):rawJ [] free=wkR:=by
 unfold rawJ
 rw[wk_seq,List.filter_eq_self.2 fun p hp=>?_]
 ·rfl
 ·have:∀ p∈[(0,1),(1,2),(6,7),(7,8),(3,4),(4,5),(0,3),(0,4),(1,4),(2,4),(2,5),(6,3),(6,4),(7,4),(8,4),(8,5)],p.1<9∧p.2<9:=by decide
  obtain⟨h1,h2⟩:=this p hp
  rw[h _ h1,h _ h2];rfl
theorem set_same_len {α:Type}{cf:α→α→Int}(h:COrd cf){l:List α}(hn:l.Nodup):(setOf cf l).length=l.length:=by
 have k:=xC h l
 have nd:(setOf cf l).Nodup:=k.rise.imp fun {a b} hab e=>by subst e;exact h.irr a hab
 exact Nat.le_antisymm (qM nd fun x hx=>(k.mem x).1 hx) (qM hn fun x hx=>(k.mem x).2 hx)
theorem wk_all {free:Nat→Bool}(h:∀ n,n<9→free n=true):(allJ [] free).length=16:=by
 unfold allJ;rw[set_same_len yK5 (zR4 _ _),yM9 h];rfl
theorem yN0 {a b:Nat}:jnN [] a b↔(a,b)∈wkR∨(b,a)∈wkR:=by
 have h:∀ {a b:Nat},(a,b)∈wkR↔a<b∧jnN [] a b:=fun {a b}=>by
  rw[← yM9 (free:=fun _=>true) fun _ _=>rfl,rawJ_mem (by simp)];simp
 rw[h,h]
 constructor
 ·intro k
  rcases zae a b with c | c
  ·exact .inl ⟨c,k⟩
  ·have:=zZ8 k;exact .inr ⟨by omega,sV k⟩
 ·rintro(k | k)
  ·exact k.2
  ·exact sV k.2
theorem yX9 {c j:Nat}(h1:c<3)(h2:j<3):inC [] c j:=⟨by rw[rE];exact h1,by have:=yB9 h1;unfold nC at this;omega⟩
theorem yM8:repC [] 0 0=(-1,-1)∧repC [] 1 1=(0,0):=by
 constructor
 ·unfold repC
  rw[show (0:Nat)=2*0 from rfl,oT,zI1,tV (by omega),rE];decide +kernel
 ·unfold repC
  rw[show (1:Nat)=2*0+1 from rfl,oU]
  unfold xcM
  rw[zP3,rE];decide +kernel
theorem yX5 (x:Rat):0≤absR x:=by unfold absR;split<;>grind
theorem yM0 (x y:Rat):absR (x-y)=absR (y-x):=by unfold absR;split<;>split<;>grind
theorem yL9 (x y z:Rat):absR (x-y)≤absR (x-z)+absR (z-y):=by unfold absR;split<;>split<;>split<;>grind
theorem far_symm (p q:P2):farP p q=farP q p:=by unfold farP;rw[yM0 p.1,yM0 p.2]
theorem far_nn (p q:P2):0≤farP p q:=by
 have h1:=yX5 (p.1-q.1);have h2:=yX5 (p.2-q.2);unfold farP;grind
theorem far_tri (p q z:P2):farP p q≤farP p z+farP z q:=by
 have h1:=yL9 p.1 q.1 z.1;have h2:=yL9 p.2 q.2 z.2;unfold farP;grind
theorem far_self (p:P2):farP p p=0:=by
 unfold farP absR;rw[Rat.sub_self,Rat.sub_self,if_neg (by decide +kernel)];decide +kernel
theorem rep_one {ls:List (List P2)}(hls:∀ l∈ls,∃ m,l=hullF m){a b:Nat}(ha:a<(celM ls).length)(hb:b<(celM ls).length):farP ((celM ls).getD a Df.d).2.2.2 ((celM ls).getD b Df.d).2.2.2=0↔a=b:=by
 constructor
 ·intro h
  obtain⟨c,j,h1,e1,g1⟩:=pV ha
  obtain⟨d,k,h2,e2,g2⟩:=pV hb
  rw[g1,g2] at h
  have e:repC ls c j=repC ls d k:=Classical.byContradiction fun c=>by
   have:=yJ3 c
   change farP (repC ls _ _) (repC ls _ _)=0 at h
   grind
  have h3:=yF3 hls h1
  have h4:=yF3 hls h2
  rw[← e] at h4
  obtain⟨rfl,rfl⟩:=own_uniq hls h1 h2 h3 h4
  rw[e1,e2]
 ·rintro rfl;exact far_self _
theorem piece_w {r:List PX}{ts:List TX3}(h1:r.length≤6)(h2:ts.length≤3)(h3:gX r=true)(h5:∀ t∈ts,gX (trl t)=true):Prt (piecesX r ts):=by
 unfold piecesX
 refine⟨by simpa using h2,fun l hl=>?_⟩
 obtain⟨t',ht',rfl⟩:=zaj.1 hl
 obtain⟨t,ht,rfl⟩:=zaj.1 ht'
 have ht3:=zU4 (h5 t ht)
 refine⟨⟨_,rfl⟩,?_,fun q hq=>?_⟩
 ·have:=sum_len' (t3l (px3 t)) ((r.map px).map negP)
  rw[zah,zah] at this
  exact zaa this (by show 3+_≤9;omega)
 ·obtain⟨x,hx,y,hy,rfl⟩:=nQ.1 ((xW _).sub q hq)
  obtain⟨y',hy',rfl⟩:=zaj.1 hy
  obtain⟨a,ha,rfl⟩:=zaj.1 hy'
  have f1:=zU4 h3 a ha
  have f2:FP 27720 27692280 x:=by
   unfold t3l px3 at hx
   simp only[zad,zaM,or_false] at hx
   unfold trl at ht3
   rcases hx with rfl | rfl | rfl
   ·exact ht3 _ (by simp)
   ·exact ht3 _ (by simp)
   ·exact ht3 _ (by simp)
  exact⟨f2.1.add f1.1.neg,f2.2.add f1.2.neg⟩
theorem fW {l:List PX}(h:bQ [l]=true):gX l=true:=by
 unfold bQ at h;simp at h;exact h.2
theorem xA0 {r:List PX}{ts:List TX3}(h:tF r ts=true):Prt (piecesX r ts):=by
 obtain⟨h1,h2,h3,_,h5⟩:=fX.1 h
 exact piece_w (by omega) (by omega) (fW h3) fun t ht=>fW (h5 t ht)
theorem k26pieces {r:List PX}{ts:List TX3}(h:tF r ts=true):CTy prog 34 [sv (pcx r),sv (sl 18 (ts.map trx))] (sv (sl 1 ((piecesX r ts).map (pcc 1)))):=by
 obtain⟨h1,h2,h3,_,h5⟩:=fX.1 h
 have hP:=xA0 h
 exact gK (zW (k20pieces (n:=1) (m:=1) (l:=r.map px) (ts:=ts.map px3) (by omega) (by omega) (by rw[zah];omega) (by rw[zah];omega)) (fs1 (pcx_n (fC (fW h3))) (fs1 (trx_n fun t ht=>fC (fW (h5 t ht))) fs0))) (pcc_up fun l hl q hq=>mN (hP.fp l hl q hq))
theorem prt0:Prt []:=⟨zaB _,fun l hl=>by cases hl⟩
theorem kbuild0:CTy prog 33 [exP (.slice none 0 0)] (ag (mdT 65 (modM []))):=zW (zT6 prt0) (fs1 cG fs0)
theorem klenN {m:Mdl}{N:Nat}{l:List (Nat×Nat)}(hN:N≤1000)(hl:l.length≤100000000):CTy prog 43 [ag (mdT N m),sv (sl 2 (l.map jnT))] (sv (sl 3 (((l.map fun p=>((p.1:Int),(p.2:Int))).map (lenJ m)).map (rtc (4*N+9))))):=by
 have:=mF (m:=m) (N:=N) (js:=l.map fun p=>((p.1:Int),(p.2:Int))) hN (by rw[zah];exact hl)
 rw[List.map_map] at this
 exact this
theorem klen1 {m:Mdl}{N:Nat}{a b:Int}(hN:N≤1000):CTy prog 43 [ag (mdT N m),sv (sl 2 [jzT (a,b)])] (sv (sl 3 [rtc (4*N+9) (lenJ m (a,b))])):=mF (js:=[(a,b)]) hN (by simp)
instance:Z1 prog 4 (.bool false):=⟨_,sz4,by decide,rfl⟩
def trN (n i:Nat):List Bool:=(List.range n).map fun k=>decide (k<i)
theorem trN_len (n i:Nat):(trN n i).length=n:=by unfold trN;simp
theorem rep_rng {n:Nat}:List.replicate n (xc (.bool false))=(trN n 0).map bT:=by
 unfold trN;rw[List.map_map]
 exact(List.eq_replicate_iff.2 ⟨by simp,fun b hb=>by obtain⟨k,_,rfl⟩:=zaj.1 hb;simp⟩).symm
theorem trN_set1 {n i:Nat}(h:i<n):(trN n i).set i true=trN n (i+1):=rset h (fun k hk hn=>decide_eq_decide.2 (by omega)) (decide_eq_true (by omega))
theorem wk_n:(modM []).cs.length=9:=yN1
theorem wk_near:(nearL [] 4 (celM []).length).length=8:=by
 rw[yN1];unfold nearL
 rw[List.filter_congr (q:=fun b=>decide ((4,b)∈wkR∨(b,4)∈wkR)) fun b _=>decide_eq_decide.2 (by unfold jnI;rw[yN0,Int.toNat_natCast];exact⟨fun h=>h.2.2,fun h=>⟨by omega,by omega,h⟩⟩)]
 decide
theorem wk_j1:decide (jnI [] 0 1)=true:=decide_eq_true ⟨by omega,by omega,yN0.2 (by decide)⟩
theorem wk_j2:decide (jnI [] 0 2)=false:=decide_eq_false fun h=>absurd (yN0.1 h.2.2) (by decide)
theorem wk_l4:lenJ (modM []) (0,4)=2:=by
 unfold lenJ
 rw[if_neg (by rw[wk_n];decide)]
 have e0:(celM []).getD 0 Df.d=cellC [] 0 0:=yA6 (yX9 (c:=0) (j:=0) (by omega) (by omega))
 have e4:(celM []).getD 4 Df.d=cellC [] 1 1:=by have:=yA6 (d:=Df.d) (yX9 (c:=1) (j:=1) (by omega) (by omega));rw[rF.2.1] at this;exact this
 rw[show (modM []).cs.getD (0:Int).toNat Df.d=cellC [] 0 0 from e0,show (modM []).cs.getD (4:Int).toNat Df.d=cellC [] 1 1 from e4,yT2.2.2.2.2,yT2.2.2.2.2,yM8.1,yM8.2]
 decide +kernel
theorem zT5:CTy prog 32 [] (exP (.bool true)):=by
 have kb:=kbuild0
 have kn:=knear (a:=4) prt0 (N:=65) (by omega)
 have kj1:=zM9 (a:=0) (b:=1) prt0 (N:=65) (by omega)
 have kj2:=zM9 (a:=0) (b:=2) prt0 (N:=65) (by omega)
 rw[wk_j1] at kj1
 rw[wk_j2] at kj2
 obtain⟨F,hF⟩:∃ F:List Bool→List (Nat×Nat),F=fun fs=>allJ [] fun n=>fs.getD n false:=⟨_,rfl⟩
 have ka:∀ fs,CTy prog 35 [ag (mdT 65 (modM [])),sv (sl 1 (fs.map bT))] (sv (sl 2 ((F fs).map jnT))):=fun fs=>by rw[hF];exact kjallf prt0 (by omega)
 have hFl:∀ fs,(F fs).length≤500000:=fun fs=>by
  rw[hF];dsimp only
  exact Nat.le_trans (yW yK5 _) (Nat.le_trans (by unfold rawJ;rw[List.length_map];exact List.length_filter_le _ _) (yE9 prt0))
 obtain⟨nr,hnr⟩:∃ nr,nr=nearL [] 4 (celM []).length:=⟨_,rfl⟩
 obtain⟨m,hm⟩:∃ m,m=modM []:=⟨_,rfl⟩
 have hl:m.cs.length≤100:=by rw[hm,wk_n];omega
 rw[← hm] at kb ka kn kj1 kj2
 rw[← hnr] at kn
 have hmn:m.cs.length=9:=by rw[hm];exact wk_n
 have hL:lenJ m (0,4)=2:=by rw[hm];exact wk_l4
 have hn8:nr.length=8:=by rw[hnr];exact wk_near
 have h16:∀ fs:List Bool,(∀ n,n<9→fs.getD n false=true)→(F fs).length=16:=fun fs h=>by rw[hF];exact wk_all h
 clear hF hnr hm
 refine fw [.tmp 0] func32 fun X=>?_
 repeat refine u ?_
 refine zA1 (oca rfl rfl fun _=>kb) ?_
 refine u fun b1=>?_
 refine tst 0 rfl rfl rfl rfl rfl rfl (zK (zT (s:=1) 0 rfl rfl) ?_)
 iterate 6 refine u ?_
 refine u fun r9=>?_
 repeat refine u ?_
 rw[rep_rng]
 refine lp (σ:=Nat) [0,1,2] (fun i=>[(3,True,exP (.int .i64 ((i:Nat):Int)))]) (fun i=>[.row r9 4 1 ((trN m.cs.length i).map bT)]) (fun i=>i≤m.cs.length) (fun i=>m.cs.length-i) (0) ((by omega)) fun i hJ Y _=>?_
 have hti:=trN_len m.cs.length i
 repeat refine u ?_
 refine tp (fun c0=>?_) fun c0=>?_
 repeat refine u ?_
 rotate_left
 iterate 4 refine u ?_
 rotate_left
 ·rw[trN_set1 (by omega)]
  refine⟨i+1,tes ?_ ?_ (List.Sublist.refl _),(by omega),(by omega)⟩
  refine tc rfl (ps_r _) (tn)
  refine tc rfl (ps_r _) (tc rfl (ps_r _) (tc rfl (ps_r _) (tn)))
 ·obtain rfl:i=m.cs.length:=by omega
  have hfs:∀ n,n<9→(trN m.cs.length m.cs.length).getD n false=true:=fun n hn=>by
   unfold trN
   rw[zaf,zbM,List.getElem?_range (by omega)]
   exact decide_eq_true (by omega)
  generalize trN m.cs.length m.cs.length=fs at *
  have hf:=hFl fs
  refine zK (yC (s:=2) 0 rfl rfl) ?_
  repeat refine u ?_
  refine zA1 (oca rfl rfl fun _=>ka fs) ?_
  iterate 3 refine u ?_
  refine zC 42 mixed rfl rfl ?_
  repeat refine u ?_
  refine d1g rfl rfl (oca rfl rfl fun g=>kn) ?_
  repeat refine u ?_
  refine d1g rfl rfl (oca rfl rfl fun _=>kj1) ?_
  repeat refine u ?_
  refine d1g rfl rfl (oca rfl rfl fun _=>kj2) ?_
  repeat refine u ?_
  refine d1g rfl rfl (old rfl rfl) ?_
  repeat refine u ?_
  refine d1g rfl rfl (oca rfl rfl fun _=>klenN (by omega) (by omega)) ?_
  repeat refine u ?_
  refine d1g rfl rfl (old rfl rfl) ?_
  repeat refine u ?_
  refine d1g rfl rfl (oca rfl rfl fun _=>klen1 (by omega)) ?_
  repeat refine u ?_
  refine d1g rfl rfl (oca rfl rfl fun g=>k7of (k:=2) (by omega)) ?_
  refine d1g rfl rfl (oca rfl rfl fun g=>yT6 (by omega) (by omega)) ?_
  repeat refine u ?_
  refine e ?_
  refine psb ?_
  rw[hL,zah,zah,h16 fs hfs,hn8,hmn,show cmpR 2 ((2:Nat):Rat)=0 from yT.2 rfl]
  rfl
theorem cel_pos {ls:List (List P2)}(h:Prt ls):0<(celM ls).length:=by
 have h2:=(yB3 ls).1
 have:=tK (ls:=ls) (c:=0) (j:=0) ⟨by omega,iI h.hull (by omega)⟩
 omega
theorem ix_p (a:Int){m:Nat}(hn:0<m):∃ k:Nat,((a.tmod (m:Int))+(m:Int)).tmod (m:Int)=(k:Int)∧k<m ∧ -(m:Int)<a.tmod (m:Int)∧a.tmod (m:Int)<m:=by
 have h1:a.tmod m<m:=Int.tmod_lt_of_pos a (by omega)
 have h2:-(m:Int)<a.tmod m:=Int.lt_tmod_of_pos a (by omega)
 have h3:((a.tmod (m:Int))+(m:Int)).tmod (m:Int)=((a.tmod (m:Int))+(m:Int))%(m:Int):=Int.tmod_eq_emod_of_nonneg (by omega)
 have h4:=Int.emod_nonneg ((a.tmod (m:Int))+(m:Int)) (show (m:Int)≠0 by omega)
 have h5:=Int.emod_lt_of_pos ((a.tmod (m:Int))+(m:Int)) (show (0:Int)<m by omega)
 exact⟨_,h3.trans (Int.toNat_of_nonneg h4).symm,by omega,h2,h1⟩
theorem klen6 {m:Mdl}{N:Nat}{a1 b1 a2 b2 a3 b3 a4 b4 a5 b5 a6 b6:Int}(hN:N≤1000):CTy prog 43 [ag (mdT N m),sv (sl 2 [jzT (a1,b1),jzT (a2,b2),jzT (a3,b3),jzT (a4,b4),jzT (a5,b5),jzT (a6,b6)])] (sv (sl 3 [rtc (4*N+9) (lenJ m (a1,b1)),rtc (4*N+9) (lenJ m (a2,b2)),rtc (4*N+9) (lenJ m (a3,b3)),rtc (4*N+9) (lenJ m (a4,b4)),rtc (4*N+9) (lenJ m (a5,b5)),rtc (4*N+9) (lenJ m (a6,b6))])):=mF (js:=[(a1,b1),(a2,b2),(a3,b3),(a4,b4),(a5,b5),(a6,b6)]) hN (by simp)
theorem klen0 {m:Mdl}{N:Nat}(hN:N≤1000):CTy prog 43 [ag (mdT N m),exP (.slice none 0 0)] (sv (sl 3 [])):=zW (mF (js:=[]) hN (by simp)) (fs1 (PSub.refl _) (fs1 cG fs0))
theorem pG {m:Mdl}{i j:Nat}(hi:i<m.cs.length)(hj:j<m.cs.length):lenJ m ((i:Int),(j:Int))=farP (m.cs.getD i Df.d).2.2.2 (m.cs.getD j Df.d).2.2.2:=by
 unfold lenJ
 rw[if_neg (by simp only;omega),Int.toNat_natCast,Int.toNat_natCast]
theorem yI7 {ls:List (List P2)}(hP:Prt ls){m:Mdl}(hm:m=modM ls){i j k:Nat}(hi:i<m.cs.length)(hj:j<m.cs.length)(hk:k<m.cs.length):lenJ m ((i:Int),(j:Int))=lenJ m ((j:Int),(i:Int))∧(lenJ m ((i:Int),(j:Int))=0↔i=j)∧0≤lenJ m ((i:Int),(j:Int))∧lenJ m ((i:Int),(j:Int))≤lenJ m ((i:Int),(k:Int))+lenJ m ((k:Int),(j:Int))∧lenJ m ((i:Int),(m.cs.length:Int))=0∧lenJ m (-1,(j:Int))=0:=by
 rw[pG hi hj,pG hj hi,pG hi hk,pG hk hj]
 refine⟨far_symm _ _,?_,far_nn _ _,far_tri _ _ _,?_,?_⟩
 ·subst hm;exact rep_one hP.hull hi hj
 ·unfold lenJ;rw[if_pos (by simp only;omega)]
 ·unfold lenJ;rw[if_pos (by simp only;omega)]
theorem law_JoinsLengths {r:List PX}{ts:List TX3}{a b c:Int}:CTy prog 7 [sv (pcx r),sv (sl 18 (ts.map trx)),exP (.int .i64 a),exP (.int .i64 b),exP (.int .i64 c)] (exP (.bool true)):=by
 refine fw [.tmp 10] func7 fun X=>?_
 repeat refine u ?_
 refine zA1 (oca rfl rfl fun _=>k26few) ?_
 repeat refine u ?_
 refine tp (fun c0=>?_) fun c0=>?_
 repeat refine u ?_
 refine zA1 (oca rfl rfl fun _=>zT5) ?_
 repeat refine u ?_
 exact e
 iterate 3 refine u ?_
 have hf:tF r ts=true:=by simpa using c0
 have hP:=xA0 hf
 have kp:=k26pieces hf
 generalize piecesX r ts=ls at *
 have kb:=zT6 hP
 have hp0:=cel_pos hP
 have hl:=pW hP
 obtain⟨m,hm⟩:∃ m,m=modM ls:=⟨_,rfl⟩
 have hn:m.cs.length=(celM ls).length:=by rw[hm];rfl
 rw[← hm] at kb
 rw[← hn] at hp0 hl
 obtain⟨i,hi1,hi2,hi3,hi4⟩:=ix_p a hp0
 obtain⟨j,hj1,hj2,hj3,hj4⟩:=ix_p b hp0
 obtain⟨k,hk1,hk2,hk3,hk4⟩:=ix_p c hp0
 repeat refine u ?_
 refine zA1 (oca rfl rfl fun _=>kp) ?_
 refine zA1 (oca rfl rfl fun _=>kb) ?_
 refine u fun b11=>?_
 refine tst 0 rfl rfl rfl rfl rfl rfl ?_
 iterate 3 refine u ?_
 refine zK (zT (s:=11) 0 rfl rfl) ?_
 iterate 6 refine u ?_
 refine zC 24 mixed rfl rfl ?_
 repeat refine u ?_
 refine d1 (ort rfl rfl (by omega)) ?_
 repeat refine u ?_
 refine d1 (yJ (ort rfl rfl (by omega)) (ps_i hi1)) ?_
 repeat refine u ?_
 refine d1 (ort rfl rfl (by omega)) ?_
 repeat refine u ?_
 refine d1 (yJ (ort rfl rfl (by omega)) (ps_i hj1)) ?_
 repeat refine u ?_
 refine d1 (ort rfl rfl (by omega)) ?_
 repeat refine u ?_
 refine d1 (yJ (ort rfl rfl (by omega)) (ps_i hk1)) ?_
 repeat refine u ?_
 refine zA1 (obs rfl rfl rfl rfl rfl rfl) (zA1 (oca rfl rfl fun _=>klen6 (by omega)) ?_)
 iterate 4 refine u ?_
 refine zC 31 mixed rfl rfl ?_
 repeat refine u ?_
 refine d1g rfl rfl (oca rfl rfl fun g=>yT6 (by omega) (by omega)) ?_
 repeat refine u ?_
 refine d1g rfl rfl (oca rfl rfl fun g=>bA (by omega)) ?_
 repeat refine u ?_
 refine d1g rfl rfl (omv rfl) ?_
 refine d1g rfl rfl (omv rfl) ?_
 repeat refine u ?_
 refine d1g rfl rfl (oca rfl rfl fun g=>bA (by omega)) ?_
 repeat refine u ?_
 refine tp (fun c1=>?_) fun c1=>?_
 repeat refine u ?_
 refine e ?_
 refine psb ?_
 rotate_left
 iterate 2 refine u ?_
 refine zC 37 mixed rfl rfl ?_
 repeat refine u ?_
 refine d1 (oca rfl rfl fun _=>mG (by omega)) ?_
 repeat refine u ?_
 refine d1 (oca rfl rfl fun _=>qP (by omega) (by omega)) ?_
 repeat refine u ?_
 refine d1g rfl rfl (omv rfl) ?_
 repeat refine u ?_
 refine d1g rfl rfl (oca rfl rfl fun g=>bA (by omega)) ?_
 repeat refine u ?_
 refine d1g rfl rfl (omv rfl) ?_
 refine d1g rfl rfl (oix _ rfl rfl rfl (fun g=>rfl) (fun g=>(by(simp;done)))) ?_
 repeat refine u ?_
 refine d1g rfl rfl (oca rfl rfl fun g=>bA (by omega)) ?_
 repeat refine u ?_
 refine d1g rfl rfl (old rfl rfl) (d1g rfl rfl (oca rfl rfl fun g=>klen0 (by omega)) ?_)
 repeat refine u ?_
 refine d1g rfl rfl (oca rfl rfl fun g=>zT5) ?_
 repeat refine u ?_
 refine e ?_
 refine psb ?_
 rotate_left
 ·obtain⟨e1,e2,e3,e4,e5,e6⟩:=yI7 (ls:=ls) hP hm hi2 hj2 hk2
  exfalso
  rcases c1 with((c | c) | c) | c
  ·exact c rfl
  ·exact c (yT.2 e1)
  ·refine c ?_
   rw[beq_iff_eq]
   exact decide_eq_decide.2 (by rw[uI,e2];omega)
  ·exact absurd (lL.1 c) (by grind)
 ·obtain⟨e1,e2,e3,e4,e5,e6⟩:=yI7 (ls:=ls) hP hm hi2 hj2 hk2
  rw[decide_eq_true (uS.2 e4),decide_eq_true (uI.2 e5),decide_eq_true (uI.2 e6)]
  rfl
end Go.Proofs.YtalkinejknjidaaGreatDoor
