/- Lemmas and walks of functions; no statement. -/
import Derived.Test.YtalkinejknjidaaGreatDoorPe
set_option linter.unusedVariables false
set_option linter.unusedSimpArgs false
set_option maxRecDepth 100000
set_option maxHeartbeats 4000000
namespace Go.Proofs.YtalkinejknjidaaGreatDoor
open Go.SL Go.RowKit Go.Proofs Tryz
theorem kcolcell {N k a i n m:Nat}{x h:Rat}(hn:n≤20000)(hm:m≤20000)(h1:n+1≤N)(h2:m+1≤N):CTy prog 211 [exP (.int .i8 ((k:Nat):Int)),zJ i,ag (rtc m h),pa (xc (.int .i64 ((a:Nat):Int))),pa (rtc n x)] (ag (celT N (k,a,i,(x,h)))):=by
 refine fw [.cell 8 85] func211 fun X=>?_;iterate 3 refine u ?_
 refine u fun b8=>?_;iterate 2 refine u ?_
 refine zK 9 mixed rfl rfl ?_;repeat refine u ?_
 refine zC rfl rfl (fG (m:=N) (by omega) (by omega)) ?_;repeat refine u ?_
 refine zC rfl rfl (fG (m:=N) (by omega) (by omega)) ?_;repeat refine u ?_
 refine zF 0 rfl rfl ?_;repeat refine u ?_
 refine⟨[_],zM 0 rfl rs0,yD (PSub.refl _)⟩
theorem yA9 {k1 k2 a n m:Nat}{x:Rat}{ys:List Rat}:CTy prog 133 [exP (.int .i8 ((k1:Nat):Int)),exP (.int .i8 ((k2:Nat):Int)),zJ a,ag (rtc n x),sv (sl 3 (ys.map (rtc m)))] (fn 210 [pa (xc (.int .i64 ((a:Nat):Int))),pa (rtc n x),pa (sl 3 (ys.map (rtc m))),pa (xc (.int .i8 ((k1:Nat):Int))),pa (xc (.int .i8 ((k2:Nat):Int)))]):=by
 refine fw [.tmp 10] func133 fun X=>?_;repeat refine u ?_
 exact e
theorem kbetwAc {Ψ Φ:PV}{p q:Rat}{n m K:Nat}[h:QR Ψ n p][k:QR Φ m q](hn:n≤288)(hm:m≤288)(hK:2*(n+m)+64≤K):CTy prog 212 [Ψ,Φ] (tu [ag (rtc K (xH p q)),exP (.bool (decide (p<q)))]):=yI (kbetwA hn hm hK) (fs1 qr_q (fs1 qr_q fs0))
theorem sZ {p q:Rat}{n m K:Nat}(hn:n≤200)(hp:rlen p m)(hq:rlen q m)(hK:3*m+1≤K)(h2:2≤K):CTy prog 134 [ag (rtc n p),ag (rtc n q)] (ag (rtc K (xH p q))):=by
 refine fw [.cell 4 29] func134 fun X=>?_;iterate 4 refine u ?_
 refine u fun b4=>?_;repeat refine u ?_
 refine zB rfl rfl (kbetwAc (K:=4*n+64) (by omega) (by omega) (by omega)) ?_;iterate 3 refine u ?_
 refine u fun b5=>?_;refine u ?_;refine zR (yB (s:=5) 0 rfl rfl) ?_;repeat refine u ?_
 refine tp (fun c0=>?_) fun c0=>?_;repeat refine u ?_
 refine zF 0 rfl rfl ?_;repeat refine u ?_
 refine⟨[_],zM 0 rfl rs0,yD ?_⟩;rotate_left;repeat refine u ?_
 refine zB rfl rfl (krof (k:=0) (K:=K) (by omega) (by omega)) ?_;refine zF 0 rfl rfl ?_;repeat refine u ?_
 refine⟨[_],zM 0 rfl rs0,yD ?_⟩;rotate_left
 ·exact sG rfl (zP (sI hp hq) hK)
 ·exact yS3 (by unfold xH;rw[if_neg c0];rfl) (Nat.le_refl _)
theorem col_e {N k a i:Nat}{x:Rat}{ys:List Rat}:PSub (ag (celT N (k,a,i,(x,ys.getD i Df.d)))) (ag (celT N (colC k a x ys (2*i)))):=by
 rw[show celT N (colC k a x ys (2*i))=celC N k a x ys (2*i) from rfl,celC_even];exact PSub.refl _
theorem col_o {N k a i:Nat}{x:Rat}{ys:List Rat}:PSub (ag (celT N (k+1,a,i,(x,xH (ys.getD i Df.d) (ys.getD (i+1) Df.d))))) (ag (celT N (colC k a x ys (2*i+1)))):=by
 rw[show celT N (colC k a x ys (2*i+1))=celC N k a x ys (2*i+1) from rfl,celC_odd];exact PSub.refl _
theorem yB6 {k a n m N:Nat}{x:Rat}{ys:List Rat}(hn:n≤200)(hm:m≤200)(hr:∀ y∈ys,rlen y m)(hN:n+1≤N)(hN2:3*m+2≤N)(hN3:3≤N)(hNb:N≤20000)(hl:ys.length≤100000):CIt prog 210 [pa (xc (.int .i64 ((a:Nat):Int))),pa (rtc n x),pa (sl 3 (ys.map (rtc m))),pa (xc (.int .i8 ((k:Nat):Int))),pa (xc (.int .i8 ((k+1:Nat):Int)))] (colL k a x ys) (fun c=>[ag (celT N c)]):=by
 unfold colL;have kc:=fun {k i h q}=>kcolcell (N:=N) (k:=k) (a:=a) (i:=i) (n:=n) (m:=q) (x:=x) (h:=h) (by omega);refine cit func210 rfl rfl rfl rfl rfl fun X y YS YX hY hS=>?_;repeat refine u ?_
 refine dQ (σ:=Nat) (fun i=>[(13,True,zJ i)]) (fun i=>[]) (fun i Y=>YS ((List.range (min (2*i) (2*ys.length-1))).map (colC k a x ys)) Y∧i≤ys.length) (fun i=>ys.length-i) (0) (tk 0 rfl (tk 3 rfl (tk 4 rfl (tk 5 rfl (tk 7 rfl (tk 11 rfl (tk 12 rfl tn))))))) ?_ rfl (⟨hS,by omega⟩) (fun i Y hG=>?_);refine zA rfl tn;obtain⟨hS,hi⟩:=hG;repeat refine u ?_
 refine tp (fun c0=>?_) fun c0=>?_;iterate 8 refine u ?_
 refine u fun b9=>?_;iterate 2 refine u ?_
 refine zR (yB (s:=9) 0 rfl rfl) ?_;repeat refine u ?_
 refine zB rfl rfl (kc (by omega) (by omega) (by omega)) ?_;rotate_left;repeat refine u ?_
 rotate_left
 ·have e0:min (2*i) (2*ys.length-1)=2*i:=zaY (by omega);rw[e0] at hS;refine gS (x:=colC k a x ys (2*i)) hY hS (pA _ (show 2*i<2*ys.length-1 by omega)).choose_spec rfl rfl (fs1 col_e fs0) (fun Y hS=>?_) (fun Y hX=>?_)
  ·repeat refine u ?_
   refine qH rfl rfl ?_;iterate 2 refine u ?_
   refine zK 18 mixed rfl rfl ?_;repeat refine u ?_
   refine d1g rfl rfl (oca rfl rfl fun g=>sZ (n:=m) (m:=m) (K:=N-1) (by omega) ?_ ?_ (by omega) (by omega)) ?_;rotate_left;rotate_left;refine d1g rfl rfl (oca rfl rfl fun g=>kc (k:=k+1) (i:=i) (q:=N-1) (by omega) (by omega) (by omega)) ?_;repeat refine u ?_
   rotate_left
   ·exact hr _ (xO (by omega))
   ·exact hr _ (xO (by have:=of_decide_eq_true g.2;omega))
   rw[← dS] at hS;refine t_yieldm (x:=colC k a x ys (2*i+1)) hY hS rfl rfl (fun h=>(pA _ (show 2*i+1<2*ys.length-1 by have:=of_decide_eq_true h;omega))) rfl rfl (fs1 col_o fs0) (fun Y hS=>?_) (fun hg Y hX=>?_)
   ·repeat refine u ?_
    refine tp (fun c1=>?_) fun c1=>?_;repeat refine u ?_
    rotate_left;repeat refine u ?_
    rotate_left
    ·exact absurd rfl c1.2
    ·refine⟨i+1,tes ?_ ?_ (zaa _),?_,(by omega)⟩;refine zA rfl tn;refine zA rfl (zA rfl (zA rfl (zA rfl (zA rfl (zA rfl (zA rfl tn))))));refine⟨?_,by omega⟩;by_cases h:i+1<ys.length
     ·rw[zaY (by omega),show 2*(i+1)=2*i+1+1 by omega,dS];rwa [if_pos (decide_eq_true (by omega))] at hS
     ·rw[Nat.min_eq_right (by omega),show 2*ys.length-1=2*i+1 by omega];rwa [if_neg (by rw[decide_eq_true_eq];omega),zar] at hS
   ·repeat refine u ?_
    refine tp (fun c1=>?_) fun c1=>?_;repeat refine u ?_
    rotate_left;repeat refine u ?_
    rotate_left
    ·exact .inr hX
    ·exact absurd ⟨of_decide_eq_true hg,by decide⟩ c1
  ·repeat refine u ?_
   refine kM rfl rfl ?_;repeat refine u ?_
   exact .inr hX
 ·rw[show 2*ys.length-1=min (2*i) (2*ys.length-1) by omega];exact .inl hS
theorem yT1 {g:FuncId}{caps:List PV}{xs pre:List CL}{v:Value}{N:Nat}(it:CIt prog g caps xs (fun c=>[ag (celT N c)]))(hl:xs.length≤100000)(hp:pre.length≤100000000):CTo prog 132 [exP v,fn g caps] [.row v 85 9 (pre.map (celT N))] (fun r So=>∃ v,r=exP v∧So=[.row v 85 9 ((pre++xs).map (celT N))]):=by
 refine fwo [.tmp 4] func132 fun X=>?_;repeat refine u ?_
 refine yG0 0 rfl fun i2=>tbx (hc:=cts1) rfl fun b2=>?_;repeat refine u ?_
 refine gF (σ:=List CL×Value) (fun t=>[.blk b2 63 [xc t.2],.row t.2 85 9 ((pre++t.1).map (celT N))]) (fun pr t=>t.1=pr) ([],v) rfl it (fun _=>rfl) rfl aH (by simp) rfl (fun pr x post t hx hJ Y y hl=>?_) (fun t hJ Y _=>?_)
 ·obtain⟨p1,v1⟩:=t;obtain rfl:p1=pr:=hJ;have h1:p1.length≤100000:=by have:=congrArg List.length hx;simp at this;omega
  refine u ?_;refine u fun b5=>?_;refine zF 0 rfl rfl (zR (yB (s:=5) 0 rfl rfl) ?_);repeat refine u ?_
  refine⟨rfl,fun Y hl=>?_⟩;repeat refine u ?_
  refine zA1 (zG 0 rfl) ?_;repeat refine u ?_
  refine tap 1 rfl rfl rfl (by(simp;omega)) rfl fun r11=>?_;refine tsw 0 1 rfl rfl rfl rfl rfl rfl rfl ?_;repeat refine u ?_
  refine⟨(p1++[x],r11),(by(simp;done)),rfl⟩
 ·obtain⟨_,v1⟩:=t;obtain rfl:_=xs:=hJ;repeat refine u ?_
  exact⟨[_],exP v1,_,rst rfl rs0,List.singleton_sublist.2 (by simp),⟨v1,rfl,rfl⟩,yD (PSub.refl _)⟩
theorem kscells {n m q N:Nat}{b:BX}{xs:List Rat}{lv:zD}{wl:List (List Rat)}{c5:CT}(hn:n≤65)(hm:m≤65)(hq:q≤65)(hx:∀ x∈xs,rlen x n)(hr:qO xs)(hw:∀ l∈wl,l.length≤1000∧∀ y∈l,rlen y m)(hl:∀ l∈lv,l.length≤1000)
  (hs:∀ i,i<lv.length→i+1<xs.length→∀ y∈hsL (xs.getD i 0) (xs.getD (i+1) 0) (xH (xs.getD i 0) (xs.getD (i+1) 0)) (lv.getD i []),rlen y m) (hN:3*m+2≤N) (hN2:3*n+3≤N) (hN3:3≤N) (hN4:N≤300) (hnm:n≤m) (hxl:xs.length≤10000) :
  CTy prog 59 [ag (st [bxc 1 b,sl 3 (xs.map (rtc n)),sl 1 (lv.map (pcc q)),sl 1 (wl.map fun l=>sl 3 (l.map (rtc m))),c5])] (sv (sl 9 ((cellsM xs lv wl).map (celT N)))):=by
 refine fw [.tmp 2] func59 fun X=>?_;repeat refine u ?_
 refine t_ts (jJ 85 9) ?_;refine lp (σ:=Nat×Value) [1,7,8] (fun s=>[(2,True,exP s.2),(9,True,zJ s.1)]) (fun s=>[.row s.2 85 9 (((List.range s.1).map (cellsI xs lv wl)).flatten.map (celT N))]) (fun s=>s.1≤xs.length) (fun s=>xs.length-s.1) ((0,.slice none 0 0)) ((by simp)) fun s hJ Y _=>?_;obtain⟨i,v⟩:=s;dsimp only at hJ ⊢;have hA0:∀ i,i<wl.length→(colL 0 i (xs.getD i 0) (wl.getD i [])).length≤2000:=fun i h=>by
  have:=(hw _ (xO h)).1;unfold colL;rw[List.length_map,List.length_range];have e:(wl.getD i ([]:List Rat)).length≤1000:=this;omega
 have hB0:∀ i,i<lv.length→(colL 2 i (xH (xs.getD i 0) (xs.getD (i+1) 0)) (hsL (xs.getD i 0) (xs.getD (i+1) 0) (xH (xs.getD i 0) (xs.getD (i+1) 0)) (lv.getD i []))).length≤2000:=fun i h=>by
  have:=hl _ (xO h);unfold colL hsL;rw[List.length_map,List.length_range,List.length_map];have e:(lv.getD i ([]:List P2)).length≤1000:=this;omega
 have hC:(((List.range i).map (cellsI xs lv wl)).flatten).length≤i*4000:=by
  have:=wL (K:=4000) (L:=(List.range i).map (cellsI xs lv wl)) fun l hl'=>by
   obtain⟨j,_,rfl⟩:=zai.1 hl';unfold cellsI;rw[zal];split<;>split
   ·rename_i h1 h2;have:=hA0 j h1;have:=hB0 j h2.1;omega
   ·rename_i h1 h2;have:=hA0 j h1;rw[zbk];omega
   ·rename_i h1 h2;have:=hB0 j h2.1;rw[zbk];omega
   ·simp
  rwa [zav,List.length_range] at this
 repeat refine u ?_
 refine tp (fun c0=>?_) fun c0=>?_;iterate 8 refine u ?_
 refine u fun b4=>?_;refine u ?_;rotate_left;iterate 7 refine u ?_
 refine t_ts (yX (s:=2) 0 rfl rfl) ?_;repeat refine u ?_
 refine e ?_;rotate_left
 ·refine zF 0 rfl rfl ?_;refine zR (yB (s:=4) 0 rfl rfl) ?_;refine zA0 (zQ (zQ2 (σ:=Value) (fun v2=>[(2,True,exP v2)]) (fun v2=>[.row v2 85 9 ((((List.range i).map (cellsI xs lv wl)).flatten++(if i<wl.length then colL 0 i (xs.getD i 0) (wl.getD i []) else [])).map (celT N))]) (fun _=>True) (tk 1 rfl (tk 3 rfl (tk 4 rfl (tk 7 rfl (tk 8 rfl (tk 9 rfl tn)))))) (fun _=>?_) (fun v2 _ Y _=>?_)))
  ·repeat refine u ?_
   refine tp (fun c1=>?_) fun c1=>?_;refine zK 9 mixed rfl rfl ?_;repeat refine u ?_
   refine zC rfl rfl (yA9 (k1:=0) (k2:=1) (a:=i)) ?_;repeat refine u ?_
   rotate_left;repeat refine u ?_
   rotate_left
   ·have hA0i:=hA0 i (by omega);refine tco [0] rfl rfl rfl (yT1 (pre:=((List.range i).map (cellsI xs lv wl)).flatten) (yB6 (k:=0) (N:=N) (by omega) (by omega) (hw _ (xO (by omega))).2 (by omega) hN hN3 (by omega) (zac (hw _ (xO (by omega))).1 (by omega))) (zac hA0i (by omega)) (by omega)) ?_;rintro _ _ ⟨v3,rfl,rfl⟩;repeat refine u ?_
    refine⟨v3,tes ?_ ?_ ?_,(by(simp;done))⟩;refine zA rfl tn;refine zA rfl (zA rfl (zA rfl (zA rfl (zA rfl (zA rfl tn)))));rw[if_pos (by omega)];exact zaa _
   ·refine⟨v,tes ?_ ?_ (by(simp;omega)),(by(simp;done))⟩;refine zA rfl tn;refine zA rfl (zA rfl (zA rfl (zA rfl (zA rfl (zA rfl tn)))))
  ·have hK:i+1<xs.length→i<lv.length→CTy prog 30 [ag (rtc n (xs.getD i Df.d)),ag (rtc n (xs.getD (i+1) Df.d)),ag (rtc (3*n+2) (xH (xs.getD i Df.d) (xs.getD (i+1) Df.d))),sv (pcc q (lv.getD i Df.d))] (sv (sl 3 ((hsL (xs.getD i Df.d) (xs.getD (i+1) Df.d) (xH (xs.getD i Df.d) (xs.getD (i+1) Df.d)) (lv.getD i Df.d)).map (rtc m)))):=fun h1 h2 =>
    gD (klheights (by omega) (by omega) (by omega) (by omega) (hl _ (xO h2)) (hr i h1)) (yD1 (f:=rtc _) (g:=rtc m) (fun y hy {M w us} ⟨s,b,d,e,g⟩=>⟨s,b,d,e,g.relen (hs i h2 h1 y hy)⟩) fun _=>rfl)
   repeat refine u ?_
   refine tp (fun c1=>?_) fun c1=>?_;refine u ?_;apply uC 1 10 9 [(8,5,0),(9,1000009,0)] rfl rfl mixed rfl rfl rfl;repeat refine u ?_
   refine cx1 (oca rfl rfl fun _=>sZ (m:=n) (K:=3*n+2) (by omega) ?_ ?_ (by omega) (by omega)) rfl ?_;rotate_left;rotate_left;refine cN rfl rfl (cal) (cS rfl rfl rfl (cst rfl rfl rfl) ?_);refine cE (fun b5=>?_);refine fm ?_;refine u ?_;refine zR (yB (s:=5) 0 rfl rfl) ?_;refine u ?_;refine zK 18 mixed rfl rfl ?_;repeat refine u ?_
   refine d1 (ofa rfl rfl) ?_;repeat refine u ?_
   refine zC rfl rfl (hK (by omega) (by omega)) ?_;refine zC rfl rfl (yA9 (k1:=2) (k2:=3) (a:=i)) ?_;repeat refine u ?_
   rotate_left;repeat refine u ?_
   rotate_left
   ·exact hx _ (xO (by omega))
   ·exact hx _ (xO (by omega))
   ·have hB0i:=hB0 i (by omega);refine tco [0] rfl rfl rfl (yT1 (yB6 (k:=2) (N:=N) (by omega) (by omega) (hs i (by omega) (by omega)) (by omega) hN hN3 (by omega) (by rw[fJ];exact zac (hl _ (xO (by omega))) (by omega))) (zac hB0i (by omega)) ?_) ?_
    ·have:=hA0 i;rw[zal];split
     ·have:=hA0 i (by omega);omega
     ·rw[zbk];omega
    rintro _ _ ⟨v3,rfl,rfl⟩;repeat refine u ?_
    refine zA1 (oad rfl rfl (by omega)) ?_;repeat refine u ?_
    refine⟨(i+1,v3),tes ?_ ?_ ?_,(by omega),(by omega)⟩;refine zA rfl (zA rfl tn);refine zA rfl (zA rfl (zA rfl tn));rw[rN,← zaz,zaB,show cellsI xs lv wl i=_++_ from rfl,if_pos (c:=i<lv.length∧i+1<xs.length) ⟨by omega,by omega⟩];exact zaa _
   ·refine⟨(i+1,v2),tes ?_ ?_ ?_,(by omega),(by omega)⟩;refine zA rfl (zA rfl tn);refine zA rfl (zA rfl (zA rfl tn));rw[rN,← zaz,show cellsI xs lv wl i=_++_ from rfl,if_neg (c:=i<lv.length∧i+1<xs.length) fun h=>c1 ⟨by omega,by omega⟩,zar];exact zaa _
 ·rw[show i=xs.length by omega];exact PSub.refl _
section
variable {ls : zD} (h : Prt ls)
include h
theorem kcallP:CTy prog 123 [sv (sl 1 (ls.map (pcc 1))),ag (bxc 1 (zN ls))] (sv (sl 3 ((xsM ls).map (rtc 3)))) :=
 gD (yI (kcall (n:=1) (b:=zN ls) (by omega) (by have:=h.1;omega) h.nine) (fs1 pcc_q (fs1 yW4 fs0))) (rts_up fun x hx=>mT h.fp h.bx hx)
theorem klallQ:CTy prog 22 [sv (sl 1 (ls.map (pcc 1))),ag (bxc 1 (zN ls)),sv (sl 3 ((xsM ls).map (rtc 3)))] (sv (sl 1 ((lvsM ls).map (pcc 14)))):=by
 have k:=klallP h;have e:((List.range ((xsM ls).length-1)).map fun j=>sl 6 ((lvM ls j).map (ptc 14)))=(lvsM ls).map (pcc 14):=by unfold lvsM;rw[List.map_map];rfl
 rw[e] at k;exact k
theorem kswallsP:CTy prog 124 [sv (sl 1 (ls.map (pcc 1))),ag (bxc 1 (zN ls)),sv (sl 3 ((xsM ls).map (rtc 3))),sv (sl 1 ((lvsM ls).map (pcc 14)))] (sv (sl 1 ((wlsM ls).map fun l=>sl 3 (l.map (rtc 14))))):=by
 have k:=kswalls (ls:=ls) (b:=zN ls) (xs:=xsM ls) (lvs:=lvsM ls) (m:=3) (N:=14) (by omega) (by omega) (by have:=lX h;omega) (by have:=h.1;omega) (by have:=rL h;omega) (fun i hi=>by rw[oQ hi];have:=zT5 h i;omega) fun i hi y hy=>by rw[oQ hi] at hy;exact wl_r h hi hy
 have e:((List.range (xsM ls).length).map fun i=>setOf cmpR (gE ls (zN ls) (xsM ls) (lvsM ls) i))=wlsM ls:=List.map_congr_left fun i hi=>by rw[oQ (zbb.1 hi)];rfl
 rw[e] at k;exact yI k (fs1 (yI9 fun l hl q hq=>⟨zP (lM (h.fp l hl q hq)).x (by omega),zP (lM (h.fp l hl q hq)).y (by omega)⟩) (fs1 (yP7 ⟨⟨zP h.br.1.x (by omega),zP h.br.1.y (by omega)⟩,⟨zP h.br.2.x (by omega),zP h.br.2.y (by omega)⟩⟩) (fs1 (PSub.refl _) (fs1 (PSub.refl _) fs0))))
theorem kscellsP:CTy prog 59 [ag (st [bxc 1 (zN ls),sl 3 ((xsM ls).map (rtc 3)),sl 1 ((lvsM ls).map (pcc 14)),sl 1 ((wlsM ls).map fun l=>sl 3 (l.map (rtc 14))),xc (.slice none 0 0)])] (sv (sl 9 ((celM ls).map (celT 65)))) :=
 yI (kscells (n:=3) (m:=21) (q:=14) (N:=65) (b:=zN ls) (c5:=xc (.slice none 0 0)) (by omega) (by omega) (by omega) (fun x hx=>mT h.fp h.bx hx) (xG ls) (fun l hl=>by
  obtain⟨i,hi,rfl⟩:=zai.1 hl;have hi:=zbb.1 hi;exact⟨by have:=vK h i;omega,fun y hy=>zP (wl_r h hi (yF1.1 hy)) (by omega)⟩) (fun l hl=>by
  obtain⟨i,hi,rfl⟩:=zai.1 hl;have:=lG h i;omega) (fun i hi hi2 y hy=>by rw[iD hi2] at hy;exact hs_r h hi2 hy) (by omega) (by omega) (by omega) (by omega) (by omega) (lX h)) (fs1 (fun M w v ⟨us,e,x1,y1,e1,h1,x2,y2,e2,h2,x3,y3,e3,h3,x4,y4,e4,h4,h5⟩=>⟨us,e,x1,y1,e1,h1,x2,y2,e2,h2,x3,y3,e3,h3,x4,y4,e4,yQ5 (by omega) h4,h5⟩) fs0)
end
theorem zZ9 {ls:zD}(h:Prt ls):CTy prog 52 [sv (sl 1 (ls.map (pcc 1)))] (ag (mdT 65 (modM ls))):=by
 have h9:=rL h;refine fw [.cell 2 65] func52 fun X=>?_;iterate 2 refine u ?_
 refine u fun b2=>?_;repeat refine u ?_
 refine zB rfl rfl (kframeQ h (by omega)) ?_;repeat refine u ?_
 refine zF 0 rfl rfl ?_;repeat refine u ?_
 refine zA1 (zG 0 rfl) (zB rfl rfl (kcallP h) ?_);repeat refine u ?_
 refine zF 0 rfl rfl ?_;repeat refine u ?_
 refine zA1 (zG 0 rfl) ?_;repeat refine u ?_
 refine zA1 (zG 0 rfl) (zB rfl rfl (klallQ h) ?_);repeat refine u ?_
 refine zF 0 rfl rfl ?_;repeat refine u ?_
 refine zA1 (zG 0 rfl) ?_;repeat refine u ?_
 refine zA1 (zG 0 rfl) ?_;repeat refine u ?_
 refine zA1 (zG 0 rfl) (zB rfl rfl (kswallsP h) ?_);repeat refine u ?_
 refine zF 0 rfl rfl ?_;repeat refine u ?_
 refine zR (jR (cs':=[st [bxc 1 (zN ls),sl 3 ((xsM ls).map (rtc 3)),sl 1 ((lvsM ls).map (pcc 14)),sl 1 ((wlsM ls).map fun l:List Rat=>sl 3 (l.map (rtc 14))),xc (.slice none 0 0)]]) 0 rfl fun h=>⟨_,[],(zar _).symm,h,rfl⟩) (zA1 (zG 0 rfl) (zB rfl rfl (kscellsP h) ?_));refine zR (jR (cs':=[bxc 1 (zN ls),sl 3 ((xsM ls).map (rtc 3)),sl 1 ((lvsM ls).map (pcc 14)),sl 1 ((wlsM ls).map fun l:List Rat=>sl 3 (l.map (rtc 14))),xc (.slice none 0 0)]) 0 rfl iQ) (zA1 (ofo rfl) ?_);refine zF 0 rfl rfl ?_;repeat refine u ?_
 refine zR (jR (cs':=[st [bxc 1 (zN ls),sl 3 ((xsM ls).map (rtc 3)),sl 1 ((lvsM ls).map (pcc 14)),sl 1 ((wlsM ls).map fun l:List Rat=>sl 3 (l.map (rtc 14))),sl 9 ((celM ls).map (celT 65))]]) 0 rfl fun h=>⟨_,[],(zar _).symm,h,rfl⟩) (zA1 (zG 0 rfl) ?_);refine zF 0 rfl rfl ?_;repeat refine u ?_
 refine⟨[_],zM 0 rfl rs0,yD ?_⟩;exact fun M w v ⟨us,e,x1,y1,e1,h1,x2,y2,e2,h2,x3,y3,e3,h3,x4,y4,e4,h4,h5⟩=>⟨us,e,x1,y1,e1,bx_up (by omega) h1,x2,y2,e2,yR8 (by omega) h2,x3,y3,e3,lr_up (by omega) h3,x4,y4,e4,yQ5 (by omega) h4,h5⟩
theorem zW7 {p:Rat}:sgnR p=1↔0<p:=by
 have h1:=cmpR_bnd p 0;have h2:=@sgnR_gt p;rw[← h2,iR];omega
theorem k9side {a b p:P2}{n m:Nat}(hn:n≤90)(hm:m≤90):CTy prog 130 [ag (ptq n a),ag (ptq n b),ag (ptq m p)] (exP (.int .i64 (sgnR (trn a b p)))):=by
 refine fw [.tmp 6] func130 fun X=>?_;iterate 8 refine u ?_
 refine zK 9 mixed rfl rfl ?_;repeat refine u ?_
 refine zC rfl rfl (mN (by omega) (by omega)) ?_;repeat refine u ?_
 refine zC rfl rfl (mN (by omega) (by omega)) ?_;refine zC rfl rfl (yB0 (by omega) (by omega)) ?_;refine zC rfl rfl (zR8 (by omega)) ?_;repeat refine u ?_
 exact e
theorem k9sidec {Ψ Φ Θ:PV}{a b p:P2}{n m:Nat}[h1:QP Ψ n a][h2:QP Φ n b][h3:QP Θ m p](hn:n≤90)(hm:m≤90):CTy prog 130 [Ψ,Φ,Θ] (exP (.int .i64 (sgnR (trn a b p)))):=yI (k9side hn hm) (fs1 qp_q (fs1 qp_q (fs1 qp_q fs0)))
theorem k21in {l:List P2}{p:P2}{n m:Nat}(hn:n≤90)(hm:m≤90)(hl:l.length≤1000):CTy prog 57 [sv (sl 6 (l.map (ptc n))),ag (ptq m p)] (exP (.bool (decide (kJ l p)))):=by
 refine fw [.tmp 4] func57 fun X=>?_;repeat refine u ?_
 refine lp (σ:=Nat) [0,3] (fun i=>[(5,True,zJ i)]) (fun i=>[]) (fun i=>i≤l.length∧∀ j,j<i→0<trn (gp l j) (nx l j) p) (fun i=>l.length-i) (0) (⟨by omega,by omega⟩) fun i hJ Y _=>?_;obtain⟨hi,hs⟩:=hJ;repeat refine u ?_
 refine tp (fun c0=>?_) fun c0=>?_;iterate 4 refine u ?_
 refine zK 15 mixed rfl rfl ?_;repeat refine u ?_
 refine d1 (orm rfl rfl (by omega)) ?_;refine d1 (oix _ rfl rfl rfl (fun _=>rfl) (fun _=>?_)) ?_;rotate_left;repeat refine u ?_
 refine zC rfl rfl (k9sidec (by omega) (by omega)) ?_;repeat refine u ?_
 refine tp (fun c1=>?_) fun c1=>?_;repeat refine u ?_
 refine e ?_;refine psb ?_;rotate_left;repeat refine u ?_
 rotate_left;repeat refine u ?_
 refine e ?_;refine psb ?_;rotate_left
 ·exact zaJ _ (by omega)
 ·exact(decide_eq_false (p:=kJ l p) fun k=>c1 (zW7.2 (k.2 i (by omega)))).symm
 ·have h:0<trn (gp l i) (nx l i) p:=zW7.1 (Classical.not_not.1 c1);refine⟨i+1,tes ?_ ?_ (zaa _),?_,(by omega)⟩;refine zA rfl tn;refine zA rfl (zA rfl tn);refine⟨by omega,fun j hj=>?_⟩;rcases zaf j i with c | c
  ·exact hs j c
  ·rw[show j=i by omega];exact h
 ·rw[decide_eq_decide];exact⟨fun k=>⟨by omega,fun j hj=>hs j (by omega)⟩,fun k=>by have:=k.1;omega⟩
theorem yN1 {Ψ:PV}{l:List P2}{p:P2}{n m:Nat}[k:QP Ψ m p](hn:n≤90)(hm:m≤90)(hl:l.length≤1000):CTy prog 57 [sv (sl 6 (l.map (ptc n))),Ψ] (exP (.bool (decide (kJ l p)))):=yI (k21in hn hm hl) (fs1 (PSub.refl _) (fs1 qp_q fs0))
noncomputable instance (b:BX)(p:P2):Decidable (InB b p):=Classical.propDecidable _
theorem mM {a b:P2}{p:P2}{n m:Nat}(hn:n≤400)(hm:m≤400):CTy prog 207 [ag (ptc n a),ag (ptc n b),pa (ptq m p)] (ag (rtc (20*(n+n+m)+100) (zL a b p.1))):=by
 refine fw [.cell 5 29] func207 fun X=>?_;iterate 4 refine u ?_
 refine u fun b5=>?_;repeat refine u ?_
 refine zB rfl rfl (pZ (by omega) (by omega) (by omega)) ?_;iterate 3 refine u ?_
 refine u fun b6=>?_;refine u ?_;refine zR (yB (s:=6) 0 rfl rfl) ?_;repeat refine u ?_
 refine zF 0 rfl rfl ?_;repeat refine u ?_
 refine⟨[_],zM 0 rfl rs0,yD ?_⟩;rw[zcp];exact PSub.refl _
theorem yL1 {m:Mdl}{N K n:Nat}{c:CL}{p:P2}{s:Bool}(hN:N≤300)(hn:n≤300)(hk:c.1<4)(ha:c.2.1≤1000000000000)(hr:c.2.2.1≤1000000000000)(hx:m.xs.length≤1000000)(hw:∀ i,(m.wl.getD i Df.d).length≤1000000)(hv:∀ i,(m.lv.getD i Df.d).length≤1000000):CTy prog 125 [ag (mdT N m),ag (celT K c),ag (ptq n p),fn 208 [pa (xc (.int .i64 (dZ s)))]] (exP (.bool (hasB s c.1 (clsM m c.1 c.2.1 c.2.2.1) p))):=by
 have hc:=yK2 (K:=K) (c:=c) (N:=N) (m:=m) (by omega) hk ha hr hx hw hv;rcases cls_cases m c.1 c.2.1 c.2.2.1 with e | ⟨x,e⟩ | ⟨x,y,e⟩ | ⟨x,y,z,u,e⟩
 ·rw[e] at hc ⊢;refine fw [.tmp 8] func125 fun X=>?_;repeat refine u ?_
  refine zB rfl rfl hc ?_;repeat refine u ?_
  refine qH rfl rfl ?_;repeat refine u ?_
  refine qH rfl rfl ?_;repeat refine u ?_
  refine qH rfl rfl ?_;repeat refine u ?_
  refine⟨[_],rst rfl rs0,yD (PSub.refl _)⟩
 ·rw[e] at hc ⊢;refine fw [.tmp 8] func125 fun X=>?_;repeat refine u ?_
  refine zB rfl rfl hc ?_;repeat refine u ?_
  refine kM rfl rfl (zK 6 mixed rfl rfl ?_);repeat refine u ?_
  refine zC rfl rfl (zR5 (by omega) (by omega)) ?_;repeat refine u ?_
  refine⟨[_],rst rfl rs0,yD ?_⟩;refine psb ?_;show decide (cmpP x p=0)=decide (x=p);exact decide_eq_decide.2 (dI.zero _ _)
 ·rw[e] at hc ⊢;refine fw [.tmp 8] func125 fun X=>?_;repeat refine u ?_
  refine zB rfl rfl hc ?_;repeat refine u ?_
  refine qH rfl rfl ?_;repeat refine u ?_
  refine kM rfl rfl ?_;repeat refine u ?_
  refine tp (fun c2=>?_) fun c2=>?_;refine u ?_;refine zK 22 mixed rfl rfl ?_;repeat refine u ?_
  refine zC rfl rfl (wJ (by omega) (by omega)) ?_;repeat refine u ?_
  refine d1g rfl rfl (oca rfl rfl fun g=>zZ8 (by omega) (by omega) (by omega)) ?_;repeat refine u ?_
  refine⟨[_],rst rfl rs0,yD ?_⟩;refine psb ?_;rotate_left;refine u ?_;refine zK 26 mixed rfl rfl ?_;repeat refine u ?_
  refine zC rfl rfl (zZ8 (by omega) (by omega) (by omega)) ?_;repeat refine u ?_
  refine d1g rfl rfl (oca rfl rfl fun g=>mM (by omega) (by omega)) ?_;refine d1g rfl rfl (ofa rfl rfl) ?_;repeat refine u ?_
  refine d1g rfl rfl (oca rfl rfl fun g=>wJ (by omega) (by omega)) ?_;repeat refine u ?_
  refine⟨[_],rst rfl rs0,yD ?_⟩;refine psb ?_;rotate_left
  ·show _=if c.1=1 then _ else _;rw[if_pos (by omega)];rfl
  ·show _=if c.1=1 then _ else _;rw[if_neg (by omega)];rfl
 ·rw[e] at hc ⊢;refine fw [.tmp 8] func125 fun X=>?_;refine zQ ?_;refine zY rfl ?_;refine zA1 (obx rfl) ?_;refine zA1 (obx rfl) ?_;refine zA1 (obx rfl) ?_;refine zA1 (oas rfl) ?_;refine zA0 ?_;refine zV0 ?_;refine zQ ?_;refine zY rfl ?_;refine zA1 (old rfl rfl) ?_;refine zA1 (old rfl rfl) (zB rfl rfl hc ?_);refine zA1 (oas rfl) ?_;refine zA0 ?_;refine zQ ?_;refine zY rfl ?_;refine zA1 (omf rfl) ?_;refine zA1 (oas rfl) ?_;refine zA0 ?_;refine zQ ?_;refine zV1 ?_;refine zQ ?_;refine zQ ?_;refine zY rfl ?_;refine zA1 (omv rfl) ?_;refine zA1 (oln rfl) ?_;refine zA0 ?_;refine iO ?_;refine zQ ?_;refine zY rfl ?_;refine zA1 (oeq rfl rfl) ?_;refine zA1 (oas rfl) ?_;refine zA0 (qH rfl rfl ?_);refine zQ ?_;refine zY rfl ?_;refine zA1 (oeq rfl rfl) ?_;refine zA1 (oas rfl) ?_;refine zA0 (qH rfl rfl ?_);refine zQ ?_;refine zY rfl ?_;refine zA1 (oeq rfl rfl) ?_;refine zA1 (oas rfl) ?_;refine zA0 (kM rfl rfl (zK 35 mixed rfl rfl ?_));refine d1 (omv rfl) ?_;refine d1 (omv rfl) ?_;refine d1 (oix _ rfl rfl rfl (fun _=>rfl) (fun _=>(by(simp;done)))) ?_;refine d1 (ofa rfl rfl) ?_;refine d1 (old rfl rfl) ?_;refine d1 (ofa rfl rfl) ?_;refine d1 (old rfl rfl) ?_;refine d1 (omv rfl) ?_;refine d1 (oix _ rfl rfl rfl (fun _=>rfl) (fun _=>(by(simp;done)))) ?_;refine d1 (ofa rfl rfl) ?_;refine d1 (old rfl rfl) (zC rfl rfl (zZ8 (by omega) (by omega) (by omega)) ?_);refine d1 (omv rfl) ?_;refine d1g rfl rfl (omv rfl) ?_;refine d1g rfl rfl (omv rfl) ?_;refine d1g rfl rfl (omv rfl) ?_;refine d1g rfl rfl (oix _ rfl rfl rfl (fun g=>rfl) (fun g=>(by(simp;done)))) ?_;refine d1g rfl rfl (old rfl rfl) ?_;refine d1g rfl rfl (omv rfl) ?_;refine d1g rfl rfl (oix _ rfl rfl rfl (fun g=>rfl) (fun g=>(by(simp;done)))) ?_;refine d1g rfl rfl (old rfl rfl) (d1g rfl rfl (oca rfl rfl fun g=>mM (by omega) (by omega)) ?_);refine d1g rfl rfl (ofa rfl rfl) ?_;refine d1g rfl rfl (old rfl rfl) ?_;refine d1g rfl rfl (omv rfl) ?_;refine d1g rfl rfl (omv rfl) ?_;refine d1g rfl rfl (oix _ rfl rfl rfl (fun g=>rfl) (fun g=>(by(simp;done)))) ?_;refine d1g rfl rfl (old rfl rfl) ?_;refine d1g rfl rfl (omv rfl) ?_;refine d1g rfl rfl (oix _ rfl rfl rfl (fun g=>rfl) (fun g=>(by(simp;done)))) ?_;refine d1g rfl rfl (old rfl rfl) (d1g rfl rfl (oca rfl rfl fun g=>mM (by omega) (by omega)) ?_);refine d1g rfl rfl (oca rfl rfl fun g=>zZ8 (by omega) (by omega) (by omega)) ?_;refine d1 (opk rfl rfl rfl) ?_;refine d1 (oas rfl) ?_;refine d0 ?_;refine zA0 ?_;refine zQ ?_;refine zY rfl ?_;refine zA1 (omv rfl) ?_;refine zA1 (oas rfl) ?_;refine zA0 ?_;refine xM (⟨[_],rst rfl rs0,yD (PSub.refl _)⟩)
theorem ksownQ {m:Mdl}{N K n:Nat}{c:CL}{p:P2}(hN:N≤300)(hn:n≤300)(hk:c.1<4)(ha:c.2.1≤1000000000000)(hr:c.2.2.1≤1000000000000)(hx:m.xs.length≤1000000)(hw:∀ i,(m.wl.getD i Df.d).length≤1000000)(hv:∀ i,(m.lv.getD i Df.d).length≤1000000):CTy prog 53 [ag (mdT N m),ag (celT K c),ag (ptq n p)] (exP (.bool (hasB true c.1 (clsM m c.1 c.2.1 c.2.2.1) p))):=by
 refine fw [.tmp 6] func53 fun X=>?_;iterate 8 refine u ?_
 refine zK 6 mixed rfl rfl ?_;repeat refine u ?_
 refine zC rfl rfl zM3 ?_;refine zC rfl rfl (yL1 (by omega) (by omega) hk ha hr hx hw hv) ?_;repeat refine u ?_
 exact e
theorem kstouchQ {m:Mdl}{N K n:Nat}{c:CL}{p:P2}(hN:N≤300)(hn:n≤300)(hk:c.1<4)(ha:c.2.1≤1000000000000)(hr:c.2.2.1≤1000000000000)(hx:m.xs.length≤1000000)(hw:∀ i,(m.wl.getD i Df.d).length≤1000000)(hv:∀ i,(m.lv.getD i Df.d).length≤1000000):CTy prog 54 [ag (mdT N m),ag (celT K c),ag (ptq n p)] (exP (.bool (hasB false c.1 (clsM m c.1 c.2.1 c.2.2.1) p))):=by
 refine fw [.tmp 6] func54 fun X=>?_;iterate 8 refine u ?_
 refine zK 6 mixed rfl rfl ?_;repeat refine u ?_
 refine zC rfl rfl zM3 ?_;refine zC rfl rfl (yL1 (by omega) (by omega) hk ha hr hx hw hv) ?_;repeat refine u ?_
 exact e
section
variable {ls : zD} (h : Prt ls)
include h
theorem yK9 {Ψ:PV}{N n a:Nat}{p:P2}[k:QP Ψ n p](hN:N≤300)(hn:n≤300)(ha:a<(modM ls).cs.length):CTy prog 53 [ag (mdT N (modM ls)),ag (celT N ((modM ls).cs.getD a Df.d)),Ψ] (exP (.bool (hasA true (modM ls) a p))):=by
 obtain⟨c,j,h1,-,e⟩:=uY ha;unfold hasA;rw[show (modM ls).cs.getD a Df.d=cellC ls c j from e];exact yI (ksownQ (c:=cellC ls c j) hN hn yA6.1 (mO h h1).1 (mO h h1).2 (zR1 h) (zR2 h) (zR3 h)) (fs1 (PSub.refl _) (fs1 (PSub.refl _) (fs1 qp_q fs0)))
theorem zM4 {Ψ:PV}{N n a:Nat}{p:P2}[k:QP Ψ n p](hN:N≤300)(hn:n≤300)(ha:a<(modM ls).cs.length):CTy prog 54 [ag (mdT N (modM ls)),ag (celT N ((modM ls).cs.getD a Df.d)),Ψ] (exP (.bool (hasA false (modM ls) a p))):=by
 obtain⟨c,j,h1,-,e⟩:=uY ha;unfold hasA;rw[show (modM ls).cs.getD a Df.d=cellC ls c j from e];exact yI (kstouchQ (c:=cellC ls c j) hN hn yA6.1 (mO h h1).1 (mO h h1).2 (zR1 h) (zR2 h) (zR3 h)) (fs1 (PSub.refl _) (fs1 (PSub.refl _) (fs1 qp_q fs0)))
noncomputable def clsA (m:Mdl)(a:Nat):List P2:=clsM m (m.cs.getD a Df.d).1 (m.cs.getD a Df.d).2.1 (m.cs.getD a Df.d).2.2.1
theorem ksclosedM {N a:Nat}(hN:N≤300)(ha:a<(modM ls).cs.length):CTy prog 58 [ag (mdT N (modM ls)),ag (celT N ((modM ls).cs.getD a Df.d))] (sv (sl 6 ((clsA (modM ls) a).map (ptc (N+1))))):=by
 obtain⟨c,j,h1,-,e⟩:=uY ha;unfold clsA;rw[show (modM ls).cs.getD a Df.d=cellC ls c j from e];exact yK2 (c:=cellC ls c j) (by omega) yA6.1 (mO h h1).1 (mO h h1).2 (zR1 h) (zR2 h) (zR3 h)
end
theorem zT6 (x:Rat)(h:-1≤x∧x≤1):ycM [] 1 x=[-1,1]:=by
 rw[show (1:Nat)=2*0+1 from rfl,nQ,zI2,fP];unfold hsL yS;simp only[zaL,zbi,Rat.sub_self,Rat.mul_zero,Rat.add_zero]
theorem wk_own {p:P2}:hasA true (modM []) 4 p=decide (-1<p.1∧p.1<1 ∧ -1<p.2∧p.2<1):=by
 have hc:=zI3 (c:=1) (j:=1) (by omega) (by omega);have e:=jW hc (s:=true) (p:=p);rw[oO.2.1] at e;rw[zcC,decide_eq_true_eq,show hasA true (modM []) 4 p=true↔_ from e];show posY (xsM []) 1 p.1∧posY (ycM [] 1 p.1) 1 p.2↔_;unfold posY;rw[fP,if_neg (by decide),if_neg (by decide)];constructor
 ·rintro⟨h1,h2⟩;rw[zT6 _ ⟨zaH h1.1,zaH h1.2⟩] at h2;exact⟨h1.1,h1.2,h2⟩
 ·rintro⟨h1,h2,h3⟩;rw[zT6 _ ⟨zaH h1,zaH h2⟩];exact⟨⟨h1,h2⟩,h3⟩
theorem wk_tou {p:P2}:hasA false (modM []) 4 p=decide (-1≤p.1∧p.1≤1 ∧ -1≤p.2∧p.2≤1):=by
 have hc:=zI3 (c:=1) (j:=1) (by omega) (by omega);have e:=jW hc (s:=false) (p:=p);rw[oO.2.1] at e;rw[zcC,decide_eq_true_eq,show hasA false (modM []) 4 p=true↔_ from e];show cloY (xsM []) 1 p.1∧cloY (ycM [] 1 p.1) 1 p.2↔_;unfold cloY;rw[fP,if_neg (by decide),if_neg (by decide)];constructor
 ·rintro⟨h1,h2⟩;rw[zT6 _ h1] at h2;exact⟨h1.1,h1.2,h2⟩
 ·rintro⟨h1,h2,h3⟩;rw[zT6 _ ⟨h1,h2⟩];exact⟨⟨h1,h2⟩,h3⟩
theorem wk_num:numZ (modM []).cs 3 0 0 4:=by
 have h:=zY8 (ls:=[]) (zI3 (c:=1) (j:=1) (by omega) (by omega));rw[oO.2.1] at h;exact h
theorem yQ6:(modM []).cs.getD 4 Df.d=cellC [] 1 1:=by
 have:=wW (d:=Df.d) (zI3 (c:=1) (j:=1) (by omega) (by omega));rw[oO.2.1] at this;exact this
theorem tD:CTy prog 51 [] (exP (.bool true)):=by
 have kb:CTy prog 52 [exP (.slice none 0 0)] (ag (mdT 65 (modM []))):=yI (zZ9 prt0) (fs1 mG fs0);have kn:=yA2 (N:=65) (m:=modM []) (k:=3) (a:=0) (r:=0) (by rw[wk_n];omega) wk_num;have h4:4<(modM []).cs.length:=by rw[wk_n];omega
 have ko:=fun {p:P2}=>yK9 prt0 (Ψ:=ag (ptc 2 p)) (N:=65) (by omega) (by omega) h4;have kt:=fun {p:P2}=>zM4 prt0 (Ψ:=ag (ptc 2 p)) (N:=65) (by omega) (by omega) h4;have kc:=ksclosedM prt0 (N:=65) (by omega) h4;have e2:((modM []).cs.getD 4 Df.d).2.2.2=(0,0):=by rw[yQ6,yA6.2.2.2.2];exact wk_rep.2
 have eo:=@wk_own;have et:=@wk_tou;have ec:(clsA (modM []) 4).length=4:=by
  unfold clsA;rw[yQ6];exact cls_len (zI3 (c:=1) (j:=1) (by omega) (by omega))
 have ex:(modM []).xs.length=2:=by show (xsM []).length=2;rw[fP];rfl
 have en:=wk_n;generalize modM []=m at *;refine fw [.tmp 0] func51 fun X=>?_;repeat refine u ?_
 refine zB rfl rfl kb ?_;refine u fun b1=>?_;refine zF 0 rfl rfl (zR (yB (s:=1) 0 rfl rfl) ?_);repeat refine u ?_
 refine zB rfl rfl kn ?_;iterate 3 refine u ?_
 refine zK 62 mixed rfl rfl ?_;repeat refine u ?_
 refine d1g rfl rfl (oca rfl rfl fun g=>k8of (by(simp;done)) (by(simp;done))) ?_;refine d1g rfl rfl (oca rfl rfl fun _=>k8alike (p:=(m.cs.getD 4 Df.d).2.2.2) (q:=(((0:Nat):Rat),((0:Nat):Rat))) (by omega) (by omega)) ?_;repeat refine u ?_
 refine d1g rfl rfl (ofa rfl rfl) ?_;repeat refine u ?_
 refine d1g rfl rfl (oca rfl rfl fun g=>k8of (by(simp;done)) (by(simp;done))) ?_;refine d1g rfl rfl (oca rfl rfl fun _=>ko (p:=(((0:Nat):Rat),((0:Nat):Rat)))) ?_;repeat refine u ?_
 refine d1g rfl rfl (old rfl rfl) ?_;refine d1g rfl rfl (ofa rfl rfl) ?_;repeat refine u ?_
 refine d1g rfl rfl (oca rfl rfl fun g=>k8of (by(simp;done)) (by(simp;done))) ?_;refine d1g rfl rfl (oca rfl rfl fun _=>ko (p:=(((1:Nat):Rat),((1:Nat):Rat)))) ?_;repeat refine u ?_
 refine d1g rfl rfl (old rfl rfl) ?_;refine d1g rfl rfl (ofa rfl rfl) ?_;repeat refine u ?_
 refine d1g rfl rfl (oca rfl rfl fun g=>k8of (by(simp;done)) (by(simp;done))) ?_;refine d1g rfl rfl (oca rfl rfl fun _=>kt (p:=(((1:Nat):Rat),((1:Nat):Rat)))) ?_;repeat refine u ?_
 refine d1g rfl rfl (old rfl rfl) ?_;refine d1g rfl rfl (ofa rfl rfl) ?_;repeat refine u ?_
 refine d1g rfl rfl (oca rfl rfl fun _=>kc) ?_;repeat refine u ?_
 refine e ?_;refine psb ?_;rw[ex,en,e2,eo,eo,et,ec];decide +kernel
theorem cel_nine {ls:zD}(hls:∀ l∈ls,∃ m,l=hullF m):9≤(celM ls).length:=by
 rw[lT];have h2:=(vG ls).1;have h3:∀ c,c<kC ls→3≤nC ls c:=fun c hc=>by
  have:=(vF hls hc 0).1;rw[fV] at this;unfold nC;omega
 have h4:=zR0 (f:=nC ls) (c:=3) (d:=kC ls) (by unfold kC;omega);have h5:=h3 0 (by unfold kC;omega);have h6:=h3 1 (by unfold kC;omega);have h7:=h3 2 (by unfold kC;omega);have e:offN (nC ls) 3=0+nC ls 0+nC ls 1+nC ls 2:=rfl;show 9≤offN (nC ls) (kC ls);omega
theorem one_pre {ls:zD}(h:Prt ls):∃ m:Mdl,CTy prog 52 [sv (sl 1 (ls.map (pcc 1)))] (ag (mdT 65 m))∧(∀ a,a<m.cs.length→∀ {Ψ:PV} {n p} [QP Ψ n p],n≤300→CTy prog 53 [ag (mdT 65 m),ag (celT 65 (m.cs.getD a Df.d)),Ψ] (exP (.bool (hasA true m a p))))∧(∀ a,a<m.cs.length→∀ {Ψ:PV} {n p} [QP Ψ n p],n≤300→CTy prog 54 [ag (mdT 65 m),ag (celT 65 (m.cs.getD a Df.d)),Ψ] (exP (.bool (hasA false m a p))))∧(∀ a,a<m.cs.length→CTy prog 55 [ag (mdT 65 m),exP (.int .i8 (((m.cs.getD a Df.d).1:Nat):Int)),exP (.int .i64 (((m.cs.getD a Df.d).2.1:Nat):Int)),exP (.int .i64 (((m.cs.getD a Df.d).2.2.1:Nat):Int))] (zJ a))∧m.cs.length≤3460000∧9≤m.cs.length∧m.b=zN ls ∧
  (∀ a,a<m.cs.length→∀ p,(hasA true m a p=true→hasA false m a p=true)∧hasA true m a (m.cs.getD a Df.d).2.2.2=true)∧(∀ p,InB m.b p→cntA m true p m.cs.length=1∧1≤cntA m false p m.cs.length)∧(∀ p,¬ InB m.b p→cntA m true p m.cs.length=0∧cntA m false p m.cs.length=0) ∧
  ∀ a,a<m.cs.length→∀ p q,hasA true m a p=true→hasA true m a q=true→∀ l∈ls,(kJ l p↔kJ l q):=by
 refine⟨modM ls,zZ9 h,fun a ha {Ψ n p} _ hn=>yK9 h (by omega) hn ha,fun a ha {Ψ n p} _ hn=>zM4 h (by omega) hn ha,fun a ha=>yA2 (zac (yD8 h) (by omega)) ?_,yD8 h,cel_nine h.hull,rfl,fun a ha p=>one_cell h.hull ha,fun p hp=>one_in h.hull hp,fun p hp=>one_out h.hull hp,fun a ha p q hp hq l hl=>?_⟩
 ·obtain⟨c,j,hc,rfl,e⟩:=uY ha;rw[show (modM ls).cs.getD (offC ls c+j) Df.d=cellC ls c j from e];exact zY8 hc
 ·obtain⟨c,j,hc,rfl,e⟩:=uY ha;exact in_cell_iff h.hull hc ((jW hc (s:=true)).1 hp) ((jW hc (s:=true)).1 hq) hl
theorem law_StrataSame {r:List PX}{ts:List TX3}{d:PX}:CTy prog 10 [sv (pcx r),sv (sl 18 (ts.map trx)),ag (ptx d)] (exP (.bool true)):=by
 refine fw [.tmp 6] func10 fun X=>?_;repeat refine u ?_
 refine zB rfl rfl k24fewL ?_;repeat refine u ?_
 refine t1g rfl rfl (oca rfl rfl fun _=>kg18 (l:=[d])) ?_;repeat refine u ?_
 refine tp (fun c0=>?_) fun c0=>?_;repeat refine u ?_
 refine zB rfl rfl tD ?_;repeat refine u ?_
 exact e;have hf:fewL r ts=true:=Classical.byContradiction fun w=>c0 (.inl w);have hg:gr18 [d]=false:=zcM.2 fun w=>c0 (.inr w);have kp:=k26pieces (yC1 hf);have hP:=yS4 (yC1 hf);obtain⟨m,kb,kO,kT,kN,hl,h9,hb,hF,-,-,hS⟩:=one_pre hP;have hn:=hP.1;have hm:=hP.nine;clear hP;generalize piecesX r ts=ls at *;refine t_ts (qG (s:=5) rfl (zQ8 fun _ _ _=>zX3 ((gr18_no ⟨hg⟩).2 d (by simp)))) ?_;generalize px d=p at *;repeat refine u ?_
 refine zB rfl rfl kp ?_;repeat refine u ?_
 refine zB rfl rfl kb ?_;refine u fun b8=>?_;refine zF 0 rfl rfl (zR (yB (s:=8) 0 rfl rfl) ?_);repeat refine u ?_
 refine lp (σ:=Nat) [5,7,8] (fun i=>[(9,True,zJ i)]) (fun i=>[]) (fun i=>i≤m.cs.length) (fun i=>m.cs.length-i) (0) ((by omega)) fun i hJ Y _=>?_;repeat refine u ?_
 refine tp (fun c1=>?_) fun c1=>?_;iterate 5 refine u ?_
 refine zK 9 mixed rfl rfl ?_;repeat refine u ?_
 refine zC rfl rfl (kO i (by omega) (by omega)) ?_;repeat refine u ?_
 refine tp (fun c2=>?_) fun c2=>?_;repeat refine u ?_
 rotate_left;repeat refine u ?_
 rotate_left;repeat refine u ?_
 refine t1g rfl rfl (oca rfl rfl fun g=>tD) ?_;repeat refine u ?_
 refine e ?_;refine psb (by(simp;omega))
 ·refine⟨i+1,tes ?_ ?_ (zaa _),(by omega),(by omega)⟩;refine zA rfl tn;refine zA rfl (zA rfl (zA rfl tn))
 ·have c2:=Classical.not_not.1 c2;refine xB (σ:=Nat) (fun k=>[(10,True,zJ k)]) (fun k=>[]) (fun k=>k≤ls.length) (fun k=>ls.length-k) (0) (tk 5 rfl (tk 7 rfl (tk 8 rfl (tk 9 rfl tn)))) ?_ rfl ((by omega)) (fun k hJ Y _=>?_);refine zA rfl tn;have hlk:k<ls.length→(ls.getD k Df.d).length≤1000:=fun h=>zac (hm _ (xO h)) (by omega);have hs:k<ls.length→(kJ (ls.getD k Df.d) p↔kJ (ls.getD k Df.d) (m.cs.getD i Df.d).2.2.2):=fun h=>hS i (by omega) p _ c2 (hF i (by omega) p).2 _ (xO h);clear hS hF kO kT kN;repeat refine u ?_
  refine tp (fun c3=>?_) fun c3=>?_;iterate 4 refine u ?_
  refine zK 18 mixed rfl rfl ?_;repeat refine u ?_
  refine zC rfl rfl (yN1 (l:=ls.getD k Df.d) (p:=p) (n:=1) (m:=2) (by omega) (by omega) (by omega)) ?_;repeat refine u ?_
  refine zC rfl rfl (yN1 (l:=ls.getD k Df.d) (p:=(m.cs.getD i Df.d).2.2.2) (n:=1) (m:=65) (by omega) (by omega) (by omega)) ?_;repeat refine u ?_
  refine tp (fun c4=>?_) fun c4=>?_;repeat refine u ?_
  refine e ?_;refine psb ?_;rotate_left;repeat refine u ?_
  rotate_left;repeat refine u ?_
  rotate_left
  ·exact absurd (beq_iff_eq.2 (decide_eq_decide.2 (hs (by omega)))) c4
  ·refine⟨k+1,tes ?_ ?_ (zaa _),(by omega),(by omega)⟩;refine zA rfl tn;refine zA rfl (zA rfl (zA rfl (zA rfl tn)))
  ·exact nxt (i+1) (by omega)
end Go.Proofs.YtalkinejknjidaaGreatDoor
