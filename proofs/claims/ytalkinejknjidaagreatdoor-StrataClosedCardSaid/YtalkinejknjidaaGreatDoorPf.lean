/- Lemmas and walks of functions; no statement. -/
import Derived.Test.YtalkinejknjidaaGreatDoorPe
set_option linter.unusedVariables false
set_option linter.unusedSimpArgs false
set_option maxRecDepth 100000
set_option maxHeartbeats 4000000
namespace Go.Proofs.YtalkinejknjidaaGreatDoor
open Go.SL Go.RowKit Go.Proofs Tryz
theorem yQ9 {g:FuncId}{caps:List PV}{xs pre:List CL}{v:Value}{N:Nat}(it:CIt prog g caps xs (fun c=>[ag (celT N c)]))(hl:xs.length≤100000)(hp:pre.length≤100000000):CTo prog 132 [exP v,fn g caps] [.row v 85 9 (pre.map (celT N))] (fun r So=>∃ v,r=exP v∧So=[.row v 85 9 ((pre++xs).map (celT N))]):=by
 refine fwo [.tmp 4] func132 fun X=>?_;repeat refine u ?_
 refine yD9 0 rfl fun i2=>tbx (hc:=cts1) rfl fun b2=>?_;repeat refine u ?_
 refine gA (σ:=List CL×Value) (fun t=>[.blk b2 63 [xc t.2],.row t.2 85 9 ((pre++t.1).map (celT N))]) (fun pr t=>t.1=pr) ([],v) rfl it (fun _=>rfl) rfl kZ (by simp) rfl (fun pr x post t hx hJ Y y hl=>?_) (fun t hJ Y _=>?_)
 ·obtain⟨p1,v1⟩:=t;obtain rfl:p1=pr:=hJ;have h1:p1.length≤100000:=by have:=congrArg List.length hx;simp at this;omega
  refine u ?_;refine u fun b5=>?_;refine zD 0 rfl rfl (zO (zY (s:=5) 0 rfl rfl) ?_);repeat refine u ?_
  refine⟨rfl,fun Y hl=>?_⟩;repeat refine u ?_
  refine zA1 (zG 0 rfl) ?_;repeat refine u ?_
  refine tap 1 rfl rfl rfl (by(simp;omega)) rfl fun r11=>?_;refine tsw 0 1 rfl rfl rfl rfl rfl rfl rfl ?_;repeat refine u ?_
  refine⟨(p1++[x],r11),(by(simp;done)),rfl⟩
 ·obtain⟨_,v1⟩:=t;obtain rfl:_=xs:=hJ;repeat refine u ?_
  exact⟨[_],exP v1,_,rst rfl rs0,List.singleton_sublist.2 (by simp),⟨v1,rfl,rfl⟩,yC (PSub.refl _)⟩
theorem kscells {K n m q N:Nat}{b:BX}{xs:List Rat}{lv:zF}{wl:List (List Rat)}{c5:CT}(hn:n≤65)(hm:m≤65)(hq:q≤65)(hx:∀ x∈xs,rlen x n)(hr:kX xs)(hw:∀ l∈wl,l.length≤1000∧∀ y∈l,rlen y m)(hl:∀ l∈lv,l.length≤1000)
  (hs:∀ i,i<lv.length→i+1<xs.length→∀ y∈hsL (xs.getD i 0) (xs.getD (i+1) 0) (xG (xs.getD i 0) (xs.getD (i+1) 0)) (lv.getD i []),rlen y m) (hN:3*m+2≤N) (hN2:3*n+3≤N) (hN3:3≤N) (hN4:N≤300) (hnm:n≤m) (hxl:xs.length≤10000) :
  CTy prog 59 [ag (st [bxc K b,sl 3 (xs.map (rtc n)),sl 1 (lv.map (pcc q)),sl 1 (wl.map fun l=>sl 3 (l.map (rtc m))),c5])] (sv (sl 9 ((cellsM xs lv wl).map (celT N)))):=by
 refine fw [.tmp 2] func59 fun X=>?_;repeat refine u ?_
 refine t_ts (jH 85 9) ?_;refine lp (σ:=Nat×Value) [1,7,8] (fun s=>[(2,True,exP s.2),(9,True,zJ s.1)]) (fun s=>[.row s.2 85 9 (((List.range s.1).map (cellsI xs lv wl)).flatten.map (celT N))]) (fun s=>s.1≤xs.length) (fun s=>xs.length-s.1) ((0,.slice none 0 0)) ((by simp)) fun s hJ Y _=>?_;obtain⟨i,v⟩:=s;dsimp only at hJ ⊢;have hA0:∀ i,i<wl.length→(colL 0 i (xs.getD i 0) (wl.getD i [])).length≤2000:=fun i h=>by
  have:=(hw _ (xI h)).1;unfold colL;rw[List.length_map,List.length_range];have e:(wl.getD i ([]:List Rat)).length≤1000:=this;omega
 have hB0:∀ i,i<lv.length→(colL 2 i (xG (xs.getD i 0) (xs.getD (i+1) 0)) (hsL (xs.getD i 0) (xs.getD (i+1) 0) (xG (xs.getD i 0) (xs.getD (i+1) 0)) (lv.getD i []))).length≤2000:=fun i h=>by
  have:=hl _ (xI h);unfold colL hsL;rw[List.length_map,List.length_range,List.length_map];have e:(lv.getD i ([]:List P2)).length≤1000:=this;omega
 have hC:(((List.range i).map (cellsI xs lv wl)).flatten).length≤i*4000:=by
  have:=wH (K:=4000) (L:=(List.range i).map (cellsI xs lv wl)) fun l hl'=>by
   obtain⟨j,_,rfl⟩:=zai.1 hl';unfold cellsI;rw[zal];split<;>split
   ·rename_i h1 h2;have:=hA0 j h1;have:=hB0 j h2.1;omega
   ·rename_i h1 h2;have:=hA0 j h1;rw[zbl];omega
   ·rename_i h1 h2;have:=hB0 j h2.1;rw[zbl];omega
   ·simp
  rwa [zau,List.length_range] at this
 repeat refine u ?_
 refine tp (fun c0=>?_) fun c0=>?_;iterate 8 refine u ?_
 refine u fun b4=>?_;refine u ?_;rotate_left;iterate 7 refine u ?_
 refine t_ts (yW (s:=2) 0 rfl rfl) ?_;repeat refine u ?_
 refine e ?_;rotate_left
 ·refine zD 0 rfl rfl ?_;refine zO (zY (s:=4) 0 rfl rfl) ?_;refine zA0 (zR (vH (σ:=Value) (fun v2=>[(2,True,exP v2)]) (fun v2=>[.row v2 85 9 ((((List.range i).map (cellsI xs lv wl)).flatten++(if i<wl.length then colL 0 i (xs.getD i 0) (wl.getD i []) else [])).map (celT N))]) (fun _=>True) (tk 1 rfl (tk 3 rfl (tk 4 rfl (tk 7 rfl (tk 8 rfl (tk 9 rfl tn)))))) (fun _=>?_) (fun v2 _ Y _=>?_)))
  ·repeat refine u ?_
   refine tp (fun c1=>?_) fun c1=>?_;refine zK 9 mixed rfl rfl ?_;repeat refine u ?_
   refine zC rfl rfl (zZ0 (k1:=0) (k2:=1) (a:=i)) ?_;repeat refine u ?_
   rotate_left;repeat refine u ?_
   rotate_left
   ·have hA0i:=hA0 i (by omega);refine tco [0] rfl rfl rfl (yQ9 (pre:=((List.range i).map (cellsI xs lv wl)).flatten) (zZ5 (k:=0) (N:=N) (by omega) (by omega) (hw _ (xI (by omega))).2 (by omega) hN hN3 (by omega) (zac (hw _ (xI (by omega))).1 (by omega))) (zac hA0i (by omega)) (by omega)) ?_;rintro _ _ ⟨v3,rfl,rfl⟩;repeat refine u ?_
    refine⟨v3,tes ?_ ?_ ?_,(by(simp;done))⟩;refine zA rfl tn;refine zA rfl (zA rfl (zA rfl (zA rfl (zA rfl (zA rfl tn)))));rw[if_pos (by omega)];exact zaa _
   ·refine⟨v,tes ?_ ?_ (by(simp;omega)),(by(simp;done))⟩;refine zA rfl tn;refine zA rfl (zA rfl (zA rfl (zA rfl (zA rfl (zA rfl tn)))))
  ·have hK:i+1<xs.length→i<lv.length→CTy prog 30 [ag (rtc n (xs.getD i Df.d)),ag (rtc n (xs.getD (i+1) Df.d)),ag (rtc (3*n+2) (xG (xs.getD i Df.d) (xs.getD (i+1) Df.d))),sv (pcc q (lv.getD i Df.d))] (sv (sl 3 ((hsL (xs.getD i Df.d) (xs.getD (i+1) Df.d) (xG (xs.getD i Df.d) (xs.getD (i+1) Df.d)) (lv.getD i Df.d)).map (rtc m)))):=fun h1 h2 =>
    jY (klheights (by omega) (by omega) (by omega) (by omega) (hl _ (xI h2)) (hr i h1)) (yB0 (f:=rtc _) (g:=rtc m) (fun y hy {M w us} ⟨s,b,d,e,g⟩=>⟨s,b,d,e,g.relen (hs i h2 h1 y hy)⟩) fun _=>rfl)
   repeat refine u ?_
   refine tp (fun c1=>?_) fun c1=>?_;refine u ?_;apply gP 1 10 9 [(8,5,0),(9,1000009,0)] rfl rfl mixed rfl rfl rfl;repeat refine u ?_
   refine cx1 (oca rfl rfl fun _=>sV (m:=n) (K:=3*n+2) (by omega) ?_ ?_ (by omega) (by omega)) rfl ?_;rotate_left;rotate_left;refine cN rfl rfl (cal) (cS rfl rfl rfl (cst rfl rfl rfl) ?_);refine cE (fun b5=>?_);refine fm ?_;refine u ?_;refine zO (zY (s:=5) 0 rfl rfl) ?_;refine u ?_;refine zK 18 mixed rfl rfl ?_;repeat refine u ?_
   refine d1 (ofa rfl rfl) ?_;repeat refine u ?_
   refine zC rfl rfl (hK (by omega) (by omega)) ?_;refine zC rfl rfl (zZ0 (k1:=2) (k2:=3) (a:=i)) ?_;repeat refine u ?_
   rotate_left;repeat refine u ?_
   rotate_left
   ·exact hx _ (xI (by omega))
   ·exact hx _ (xI (by omega))
   ·have hB0i:=hB0 i (by omega);refine tco [0] rfl rfl rfl (yQ9 (zZ5 (k:=2) (N:=N) (by omega) (by omega) (hs i (by omega) (by omega)) (by omega) hN hN3 (by omega) (by rw[iZ];exact zac (hl _ (xI (by omega))) (by omega))) (zac hB0i (by omega)) ?_) ?_
    ·have:=hA0 i;rw[zal];split
     ·have:=hA0 i (by omega);omega
     ·rw[zbl];omega
    rintro _ _ ⟨v3,rfl,rfl⟩;repeat refine u ?_
    refine zA1 (oad rfl rfl (by omega)) ?_;repeat refine u ?_
    refine⟨(i+1,v3),tes ?_ ?_ ?_,(by omega),(by omega)⟩;refine zA rfl (zA rfl tn);refine zA rfl (zA rfl (zA rfl tn));rw[rJ,← zay,zaA,show cellsI xs lv wl i=_++_ from rfl,if_pos (c:=i<lv.length∧i+1<xs.length) ⟨by omega,by omega⟩];exact zaa _
   ·refine⟨(i+1,v2),tes ?_ ?_ ?_,(by omega),(by omega)⟩;refine zA rfl (zA rfl tn);refine zA rfl (zA rfl (zA rfl tn));rw[rJ,← zay,show cellsI xs lv wl i=_++_ from rfl,if_neg (c:=i<lv.length∧i+1<xs.length) fun h=>c1 ⟨by omega,by omega⟩,zar];exact zaa _
 ·rw[show i=xs.length by omega];exact PSub.refl _
section
variable {ls : zF} (h : Prt ls)
include h
theorem kcallP:CTy prog 123 [sv (sl 1 (ls.map (pcc 1))),ag (bxc 1 (zQ ls))] (sv (sl 3 ((xsM ls).map (rtc 3)))) :=
 jY (yI (kcall (n:=1) (b:=zQ ls) (by omega) (by have:=h.1;omega) h.nine) (fs1 pcc_q (fs1 yU2 fs0))) (rts_up fun x hx=>mO h.fp h.bx hx)
theorem klallQ:CTy prog 22 [sv (sl 1 (ls.map (pcc 1))),ag (bxc 1 (zQ ls)),sv (sl 3 ((xsM ls).map (rtc 3)))] (sv (sl 1 ((lvsM ls).map (pcc 14)))):=by
 have k:=klallP h;have e:((List.range ((xsM ls).length-1)).map fun j=>sl 6 ((lvM ls j).map (ptc 14)))=(lvsM ls).map (pcc 14):=by unfold lvsM;rw[List.map_map];rfl
 rw[e] at k;exact k
theorem kswallsP:CTy prog 124 [sv (sl 1 (ls.map (pcc 1))),ag (bxc 1 (zQ ls)),sv (sl 3 ((xsM ls).map (rtc 3))),sv (sl 1 ((lvsM ls).map (pcc 14)))] (sv (sl 1 ((wlsM ls).map fun l=>sl 3 (l.map (rtc 14))))):=by
 have k:=kswalls (ls:=ls) (b:=zQ ls) (xs:=xsM ls) (lvs:=lvsM ls) (m:=3) (N:=14) (by omega) (by omega) (by have:=lQ h;omega) (by have:=h.1;omega) (by have:=rH h;omega) (fun i hi=>by rw[oL hi];have:=zS3 h i;omega) fun i hi y hy=>by rw[oL hi] at hy;exact wl_r h hi hy
 have e:((List.range (xsM ls).length).map fun i=>setOf cmpR (jZ ls (zQ ls) (xsM ls) (lvsM ls) i))=wlsM ls:=List.map_congr_left fun i hi=>by rw[oL (zbu.1 hi)];rfl
 rw[e] at k;exact yI k (fs1 (yG7 fun l hl q hq=>⟨zM (lE (h.fp l hl q hq)).x (by omega),zM (lE (h.fp l hl q hq)).y (by omega)⟩) (fs1 (yN4 ⟨⟨zM h.br.1.x (by omega),zM h.br.1.y (by omega)⟩,⟨zM h.br.2.x (by omega),zM h.br.2.y (by omega)⟩⟩) (fs1 (PSub.refl _) (fs1 (PSub.refl _) fs0))))
theorem kscellsP:CTy prog 59 [ag (st [bxc 1 (zQ ls),sl 3 ((xsM ls).map (rtc 3)),sl 1 ((lvsM ls).map (pcc 14)),sl 1 ((wlsM ls).map fun l=>sl 3 (l.map (rtc 14))),xc (.slice none 0 0)])] (sv (sl 9 ((celM ls).map (celT 65)))) :=
 yI (kscells (n:=3) (m:=21) (q:=14) (N:=65) (b:=zQ ls) (c5:=xc (.slice none 0 0)) (by omega) (by omega) (by omega) (fun x hx=>mO h.fp h.bx hx) (uS ls) (fun l hl=>by
  obtain⟨i,hi,rfl⟩:=zai.1 hl;have hi:=zbu.1 hi;exact⟨by have:=nK h i;omega,fun y hy=>zM (wl_r h hi (wl_mem.1 hy)) (by omega)⟩) (fun l hl=>by
  obtain⟨i,hi,rfl⟩:=zai.1 hl;have:=fC h i;omega) (fun i hi hi2 y hy=>by rw[cH hi2] at hy;exact hs_r h hi2 hy) (by omega) (by omega) (by omega) (by omega) (by omega) (lQ h)) (fs1 (fun M w v ⟨us,e,x1,y1,e1,h1,x2,y2,e2,h2,x3,y3,e3,h3,x4,y4,e4,h4,h5⟩=>⟨us,e,x1,y1,e1,h1,x2,y2,e2,h2,x3,y3,e3,h3,x4,y4,e4,yO1 (by omega) h4,h5⟩) fs0)
end
theorem zY1 {ls:zF}(h:Prt ls):CTy prog 52 [sv (sl 1 (ls.map (pcc 1)))] (ag (mdT 65 (modM ls))):=by
 have h9:=rH h;refine fw [.cell 2 65] func52 fun X=>?_;iterate 2 refine u ?_
 refine u fun b2=>?_;repeat refine u ?_
 refine zB rfl rfl (kframeQ h (by omega)) ?_;repeat refine u ?_
 refine zD 0 rfl rfl ?_;repeat refine u ?_
 refine zA1 (zG 0 rfl) (zB rfl rfl (kcallP h) ?_);repeat refine u ?_
 refine zD 0 rfl rfl ?_;repeat refine u ?_
 refine zA1 (zG 0 rfl) ?_;repeat refine u ?_
 refine zA1 (zG 0 rfl) (zB rfl rfl (klallQ h) ?_);repeat refine u ?_
 refine zD 0 rfl rfl ?_;repeat refine u ?_
 refine zA1 (zG 0 rfl) ?_;repeat refine u ?_
 refine zA1 (zG 0 rfl) ?_;repeat refine u ?_
 refine zA1 (zG 0 rfl) (zB rfl rfl (kswallsP h) ?_);repeat refine u ?_
 refine zD 0 rfl rfl ?_;repeat refine u ?_
 refine zO (jK (cs':=[st [bxc 1 (zQ ls),sl 3 ((xsM ls).map (rtc 3)),sl 1 ((lvsM ls).map (pcc 14)),sl 1 ((wlsM ls).map fun l:List Rat=>sl 3 (l.map (rtc 14))),xc (.slice none 0 0)]]) 0 rfl fun h=>⟨_,[],(zar _).symm,h,rfl⟩) (zA1 (zG 0 rfl) (zB rfl rfl (kscellsP h) ?_));refine zO (jK (cs':=[bxc 1 (zQ ls),sl 3 ((xsM ls).map (rtc 3)),sl 1 ((lvsM ls).map (pcc 14)),sl 1 ((wlsM ls).map fun l:List Rat=>sl 3 (l.map (rtc 14))),xc (.slice none 0 0)]) 0 rfl eM) (zA1 (ofo rfl) ?_);refine zD 0 rfl rfl ?_;repeat refine u ?_
 refine zO (jK (cs':=[st [bxc 1 (zQ ls),sl 3 ((xsM ls).map (rtc 3)),sl 1 ((lvsM ls).map (pcc 14)),sl 1 ((wlsM ls).map fun l:List Rat=>sl 3 (l.map (rtc 14))),sl 9 ((celM ls).map (celT 65))]]) 0 rfl fun h=>⟨_,[],(zar _).symm,h,rfl⟩) (zA1 (zG 0 rfl) ?_);refine zD 0 rfl rfl ?_;repeat refine u ?_
 refine⟨[_],zL 0 rfl rs0,yC ?_⟩;exact fun M w v ⟨us,e,x1,y1,e1,h1,x2,y2,e2,h2,x3,y3,e3,h3,x4,y4,e4,h4,h5⟩=>⟨us,e,x1,y1,e1,bx_up (by omega) h1,x2,y2,e2,yP4 (by omega) h2,x3,y3,e3,lr_up (by omega) h3,x4,y4,e4,yO1 (by omega) h4,h5⟩
theorem mJ {a b:P2}{p:P2}{n m:Nat}(hn:n≤400)(hm:m≤400):CTy prog 207 [ag (ptc n a),ag (ptc n b),pa (ptq m p)] (ag (rtc (20*(n+n+m)+100) (zN a b p.1))):=by
 refine fw [.cell 5 29] func207 fun X=>?_;iterate 4 refine u ?_
 refine u fun b5=>?_;repeat refine u ?_
 refine zB rfl rfl (pU (by omega) (by omega) (by omega)) ?_;iterate 3 refine u ?_
 refine u fun b6=>?_;refine u ?_;refine zO (zY (s:=6) 0 rfl rfl) ?_;repeat refine u ?_
 refine zD 0 rfl rfl ?_;repeat refine u ?_
 refine⟨[_],zL 0 rfl rs0,yC ?_⟩;rw[zcm];exact PSub.refl _
theorem yI8 {m:Mdl}{N K n:Nat}{c:CL}{p:P2}{s:Bool}(hN:N≤300)(hn:n≤300)(hk:c.1<4)(ha:c.2.1≤1000000000000)(hr:c.2.2.1≤1000000000000)(hx:m.xs.length≤1000000)(hw:∀ i,(m.wl.getD i Df.d).length≤1000000)(hv:∀ i,(m.lv.getD i Df.d).length≤1000000):CTy prog 125 [ag (mdT N m),ag (celT K c),ag (ptq n p),fn 208 [pa (xc (.int .i64 (dT s)))]] (exP (.bool (hasB s c.1 (clsM m c.1 c.2.1 c.2.2.1) p))):=by
 have hc:=vZ (K:=K) (c:=c) (N:=N) (m:=m) (by omega) hk ha hr hx hw hv;rcases cls_cases m c.1 c.2.1 c.2.2.1 with e | ⟨x,e⟩ | ⟨x,y,e⟩ | ⟨x,y,z,u,e⟩
 ·rw[e] at hc ⊢;refine fw [.tmp 8] func125 fun X=>?_;repeat refine u ?_
  refine zB rfl rfl hc ?_;repeat refine u ?_
  refine qC rfl rfl ?_;repeat refine u ?_
  refine qC rfl rfl ?_;repeat refine u ?_
  refine qC rfl rfl ?_;repeat refine u ?_
  refine⟨[_],rst rfl rs0,yC (PSub.refl _)⟩
 ·rw[e] at hc ⊢;refine fw [.tmp 8] func125 fun X=>?_;repeat refine u ?_
  refine zB rfl rfl hc ?_;repeat refine u ?_
  refine kG rfl rfl (zK 6 mixed rfl rfl ?_);repeat refine u ?_
  refine zC rfl rfl (zQ6 (by omega) (by omega)) ?_;repeat refine u ?_
  refine⟨[_],rst rfl rs0,yC ?_⟩;refine psb ?_;show decide (cmpP x p=0)=decide (x=p);exact decide_eq_decide.2 (dC.zero _ _)
 ·rw[e] at hc ⊢;refine fw [.tmp 8] func125 fun X=>?_;repeat refine u ?_
  refine zB rfl rfl hc ?_;repeat refine u ?_
  refine qC rfl rfl ?_;repeat refine u ?_
  refine kG rfl rfl ?_;repeat refine u ?_
  refine tp (fun c2=>?_) fun c2=>?_;refine u ?_;refine zK 22 mixed rfl rfl ?_;repeat refine u ?_
  refine zC rfl rfl (wE (by omega) (by omega)) ?_;repeat refine u ?_
  refine d1g rfl rfl (oca rfl rfl fun g=>zY0 (by omega) (by omega) (by omega)) ?_;repeat refine u ?_
  refine⟨[_],rst rfl rs0,yC ?_⟩;refine psb ?_;rotate_left;refine u ?_;refine zK 26 mixed rfl rfl ?_;repeat refine u ?_
  refine zC rfl rfl (zY0 (by omega) (by omega) (by omega)) ?_;repeat refine u ?_
  refine d1g rfl rfl (oca rfl rfl fun g=>mJ (by omega) (by omega)) ?_;refine d1g rfl rfl (ofa rfl rfl) ?_;repeat refine u ?_
  refine d1g rfl rfl (oca rfl rfl fun g=>wE (by omega) (by omega)) ?_;repeat refine u ?_
  refine⟨[_],rst rfl rs0,yC ?_⟩;refine psb ?_;rotate_left
  ·show _=if c.1=1 then _ else _;rw[if_pos (by omega)];rfl
  ·show _=if c.1=1 then _ else _;rw[if_neg (by omega)];rfl
 ·rw[e] at hc ⊢;refine fw [.tmp 8] func125 fun X=>?_;refine zR ?_;refine zZ rfl ?_;refine zA1 (obx rfl) ?_;refine zA1 (obx rfl) ?_;refine zA1 (obx rfl) ?_;refine zA1 (oas rfl) ?_;refine zA0 ?_;refine zT8 ?_;refine zR ?_;refine zZ rfl ?_;refine zA1 (old rfl rfl) ?_;refine zA1 (old rfl rfl) (zB rfl rfl hc ?_);refine zA1 (oas rfl) ?_;refine zA0 ?_;refine zR ?_;refine zZ rfl ?_;refine zA1 (omf rfl) ?_;refine zA1 (oas rfl) ?_;refine zA0 ?_;refine zR ?_;refine zT9 ?_;refine zR ?_;refine zR ?_;refine zZ rfl ?_;refine zA1 (omv rfl) ?_;refine zA1 (oln rfl) ?_;refine zA0 ?_;refine iL ?_;refine zR ?_;refine zZ rfl ?_;refine zA1 (oeq rfl rfl) ?_;refine zA1 (oas rfl) ?_;refine zA0 (qC rfl rfl ?_);refine zR ?_;refine zZ rfl ?_;refine zA1 (oeq rfl rfl) ?_;refine zA1 (oas rfl) ?_;refine zA0 (qC rfl rfl ?_);refine zR ?_;refine zZ rfl ?_;refine zA1 (oeq rfl rfl) ?_;refine zA1 (oas rfl) ?_;refine zA0 (kG rfl rfl (zK 35 mixed rfl rfl ?_));refine d1 (omv rfl) ?_;refine d1 (omv rfl) ?_;refine d1 (oix _ rfl rfl rfl (fun _=>rfl) (fun _=>(by(simp;done)))) ?_;refine d1 (ofa rfl rfl) ?_;refine d1 (old rfl rfl) ?_;refine d1 (ofa rfl rfl) ?_;refine d1 (old rfl rfl) ?_;refine d1 (omv rfl) ?_;refine d1 (oix _ rfl rfl rfl (fun _=>rfl) (fun _=>(by(simp;done)))) ?_;refine d1 (ofa rfl rfl) ?_;refine d1 (old rfl rfl) (zC rfl rfl (zY0 (by omega) (by omega) (by omega)) ?_);refine d1 (omv rfl) ?_;refine d1g rfl rfl (omv rfl) ?_;refine d1g rfl rfl (omv rfl) ?_;refine d1g rfl rfl (omv rfl) ?_;refine d1g rfl rfl (oix _ rfl rfl rfl (fun g=>rfl) (fun g=>(by(simp;done)))) ?_;refine d1g rfl rfl (old rfl rfl) ?_;refine d1g rfl rfl (omv rfl) ?_;refine d1g rfl rfl (oix _ rfl rfl rfl (fun g=>rfl) (fun g=>(by(simp;done)))) ?_;refine d1g rfl rfl (old rfl rfl) (d1g rfl rfl (oca rfl rfl fun g=>mJ (by omega) (by omega)) ?_);refine d1g rfl rfl (ofa rfl rfl) ?_;refine d1g rfl rfl (old rfl rfl) ?_;refine d1g rfl rfl (omv rfl) ?_;refine d1g rfl rfl (omv rfl) ?_;refine d1g rfl rfl (oix _ rfl rfl rfl (fun g=>rfl) (fun g=>(by(simp;done)))) ?_;refine d1g rfl rfl (old rfl rfl) ?_;refine d1g rfl rfl (omv rfl) ?_;refine d1g rfl rfl (oix _ rfl rfl rfl (fun g=>rfl) (fun g=>(by(simp;done)))) ?_;refine d1g rfl rfl (old rfl rfl) (d1g rfl rfl (oca rfl rfl fun g=>mJ (by omega) (by omega)) ?_);refine d1g rfl rfl (oca rfl rfl fun g=>zY0 (by omega) (by omega) (by omega)) ?_;refine d1 (opk rfl rfl rfl) ?_;refine d1 (oas rfl) ?_;refine d0 ?_;refine zA0 ?_;refine zR ?_;refine zZ rfl ?_;refine zA1 (omv rfl) ?_;refine zA1 (oas rfl) ?_;refine zA0 ?_;refine xL (⟨[_],rst rfl rs0,yC (PSub.refl _)⟩)
theorem yI6 {m:Mdl}{N K n:Nat}{c:CL}{p:P2}(hN:N≤300)(hn:n≤300)(hk:c.1<4)(ha:c.2.1≤1000000000000)(hr:c.2.2.1≤1000000000000)(hx:m.xs.length≤1000000)(hw:∀ i,(m.wl.getD i Df.d).length≤1000000)(hv:∀ i,(m.lv.getD i Df.d).length≤1000000):CTy prog 53 [ag (mdT N m),ag (celT K c),ag (ptq n p)] (exP (.bool (hasB true c.1 (clsM m c.1 c.2.1 c.2.2.1) p))):=by
 refine fw [.tmp 6] func53 fun X=>?_;iterate 8 refine u ?_
 refine zK 6 mixed rfl rfl ?_;repeat refine u ?_
 refine zC rfl rfl zM0 ?_;refine zC rfl rfl (yI8 (by omega) (by omega) hk ha hr hx hw hv) ?_;repeat refine u ?_
 exact e
theorem kstouchQ {m:Mdl}{N K n:Nat}{c:CL}{p:P2}(hN:N≤300)(hn:n≤300)(hk:c.1<4)(ha:c.2.1≤1000000000000)(hr:c.2.2.1≤1000000000000)(hx:m.xs.length≤1000000)(hw:∀ i,(m.wl.getD i Df.d).length≤1000000)(hv:∀ i,(m.lv.getD i Df.d).length≤1000000):CTy prog 54 [ag (mdT N m),ag (celT K c),ag (ptq n p)] (exP (.bool (hasB false c.1 (clsM m c.1 c.2.1 c.2.2.1) p))):=by
 refine fw [.tmp 6] func54 fun X=>?_;iterate 8 refine u ?_
 refine zK 6 mixed rfl rfl ?_;repeat refine u ?_
 refine zC rfl rfl zM0 ?_;refine zC rfl rfl (yI8 (by omega) (by omega) hk ha hr hx hw hv) ?_;repeat refine u ?_
 exact e
section
variable {ls : zF} (h : Prt ls)
include h
theorem ksownM {Ψ:PV}{N n a:Nat}{p:P2}[k:QP Ψ n p](hN:N≤300)(hn:n≤300)(ha:a<(modM ls).cs.length):CTy prog 53 [ag (mdT N (modM ls)),ag (celT N ((modM ls).cs.getD a Df.d)),Ψ] (exP (.bool (hasA true (modM ls) a p))):=by
 obtain⟨c,j,h1,-,e⟩:=fL ha;unfold hasA;rw[show (modM ls).cs.getD a Df.d=cellC ls c j from e];exact yI (yI6 (c:=cellC ls c j) hN hn sX.1 (iC h h1).1 (iC h h1).2 (mC h) (mD h) (mE h)) (fs1 (PSub.refl _) (fs1 (PSub.refl _) (fs1 qp_q fs0)))
theorem zM1 {Ψ:PV}{N n a:Nat}{p:P2}[k:QP Ψ n p](hN:N≤300)(hn:n≤300)(ha:a<(modM ls).cs.length):CTy prog 54 [ag (mdT N (modM ls)),ag (celT N ((modM ls).cs.getD a Df.d)),Ψ] (exP (.bool (hasA false (modM ls) a p))):=by
 obtain⟨c,j,h1,-,e⟩:=fL ha;unfold hasA;rw[show (modM ls).cs.getD a Df.d=cellC ls c j from e];exact yI (kstouchQ (c:=cellC ls c j) hN hn sX.1 (iC h h1).1 (iC h h1).2 (mC h) (mD h) (mE h)) (fs1 (PSub.refl _) (fs1 (PSub.refl _) (fs1 qp_q fs0)))
noncomputable def clsA (m:Mdl)(a:Nat):List P2:=clsM m (m.cs.getD a Df.d).1 (m.cs.getD a Df.d).2.1 (m.cs.getD a Df.d).2.2.1
theorem ksclosedM {N a:Nat}(hN:N≤300)(ha:a<(modM ls).cs.length):CTy prog 58 [ag (mdT N (modM ls)),ag (celT N ((modM ls).cs.getD a Df.d))] (sv (sl 6 ((clsA (modM ls) a).map (ptc (N+1))))):=by
 obtain⟨c,j,h1,-,e⟩:=fL ha;unfold clsA;rw[show (modM ls).cs.getD a Df.d=cellC ls c j from e];exact vZ (c:=cellC ls c j) (by omega) sX.1 (iC h h1).1 (iC h h1).2 (mC h) (mD h) (mE h)
end
theorem zS4 (x:Rat)(h:-1≤x∧x≤1):ycM [] 1 x=[-1,1]:=by
 rw[show (1:Nat)=2*0+1 from rfl,iH,wZ,fN];unfold hsL yU;simp only[zaH,zbg,Rat.sub_self,Rat.mul_zero,Rat.add_zero]
theorem wk_own {p:P2}:hasA true (modM []) 4 p=decide (-1<p.1∧p.1<1 ∧ -1<p.2∧p.2<1):=by
 have hc:=zI0 (c:=1) (j:=1) (by omega) (by omega);have e:=pZ hc (s:=true) (p:=p);rw[oJ.2.1] at e;rw[zcA,decide_eq_true_eq,show hasA true (modM []) 4 p=true↔_ from e];show posY (xsM []) 1 p.1∧posY (ycM [] 1 p.1) 1 p.2↔_;unfold posY;rw[fN,if_neg (by decide),if_neg (by decide)];constructor
 ·rintro⟨h1,h2⟩;rw[zS4 _ ⟨zaM h1.1,zaM h1.2⟩] at h2;exact⟨h1.1,h1.2,h2⟩
 ·rintro⟨h1,h2,h3⟩;rw[zS4 _ ⟨zaM h1,zaM h2⟩];exact⟨⟨h1,h2⟩,h3⟩
theorem wk_tou {p:P2}:hasA false (modM []) 4 p=decide (-1≤p.1∧p.1≤1 ∧ -1≤p.2∧p.2≤1):=by
 have hc:=zI0 (c:=1) (j:=1) (by omega) (by omega);have e:=pZ hc (s:=false) (p:=p);rw[oJ.2.1] at e;rw[zcA,decide_eq_true_eq,show hasA false (modM []) 4 p=true↔_ from e];show cloY (xsM []) 1 p.1∧cloY (ycM [] 1 p.1) 1 p.2↔_;unfold cloY;rw[fN,if_neg (by decide),if_neg (by decide)];constructor
 ·rintro⟨h1,h2⟩;rw[zS4 _ h1] at h2;exact⟨h1.1,h1.2,h2⟩
 ·rintro⟨h1,h2,h3⟩;rw[zS4 _ ⟨h1,h2⟩];exact⟨⟨h1,h2⟩,h3⟩
theorem wk_num:numZ (modM []).cs 3 0 0 4:=by
 have h:=num_own (ls:=[]) (zI0 (c:=1) (j:=1) (by omega) (by omega));rw[oJ.2.1] at h;exact h
theorem yO2:(modM []).cs.getD 4 Df.d=cellC [] 1 1:=by
 have:=wS (d:=Df.d) (zI0 (c:=1) (j:=1) (by omega) (by omega));rw[oJ.2.1] at this;exact this
theorem tA:CTy prog 51 [] (exP (.bool true)):=by
 have kb:CTy prog 52 [exP (.slice none 0 0)] (ag (mdT 65 (modM []))):=yI (zY1 prt0) (fs1 lZ fs0);have kn:=zY4 (N:=65) (m:=modM []) (k:=3) (a:=0) (r:=0) (by rw[wk_n];omega) wk_num;have h4:4<(modM []).cs.length:=by rw[wk_n];omega
 have ko:=fun {p:P2}=>ksownM prt0 (Ψ:=ag (ptc 2 p)) (N:=65) (by omega) (by omega) h4;have kt:=fun {p:P2}=>zM1 prt0 (Ψ:=ag (ptc 2 p)) (N:=65) (by omega) (by omega) h4;have kc:=ksclosedM prt0 (N:=65) (by omega) h4;have e2:((modM []).cs.getD 4 Df.d).2.2.2=(0,0):=by rw[yO2,sX.2.2.2.2];exact wk_rep.2
 have eo:=@wk_own;have et:=@wk_tou;have ec:(clsA (modM []) 4).length=4:=by
  unfold clsA;rw[yO2];exact yB5 (zI0 (c:=1) (j:=1) (by omega) (by omega))
 have ex:(modM []).xs.length=2:=by show (xsM []).length=2;rw[fN];rfl
 have en:=wk_n;generalize modM []=m at *;refine fw [.tmp 0] func51 fun X=>?_;repeat refine u ?_
 refine zB rfl rfl kb ?_;refine u fun b1=>?_;refine zD 0 rfl rfl (zO (zY (s:=1) 0 rfl rfl) ?_);repeat refine u ?_
 refine zB rfl rfl kn ?_;iterate 3 refine u ?_
 refine zK 62 mixed rfl rfl ?_;repeat refine u ?_
 refine d1g rfl rfl (oca rfl rfl fun g=>k8of (by(simp;done)) (by(simp;done))) ?_;refine d1g rfl rfl (oca rfl rfl fun _=>k8alike (p:=(m.cs.getD 4 Df.d).2.2.2) (q:=(((0:Nat):Rat),((0:Nat):Rat))) (by omega) (by omega)) ?_;repeat refine u ?_
 refine d1g rfl rfl (ofa rfl rfl) ?_;repeat refine u ?_
 refine d1g rfl rfl (oca rfl rfl fun g=>k8of (by(simp;done)) (by(simp;done))) ?_;refine d1g rfl rfl (oca rfl rfl fun _=>ko (p:=(((0:Nat):Rat),((0:Nat):Rat)))) ?_;repeat refine u ?_
 refine d1g rfl rfl (old rfl rfl) ?_;refine d1g rfl rfl (ofa rfl rfl) ?_;repeat refine u ?_
 refine d1g rfl rfl (oca rfl rfl fun g=>k8of (by(simp;done)) (by(simp;done))) ?_;refine d1g rfl rfl (oca rfl rfl fun _=>ko (p:=(((1:Nat):Rat),((1:Nat):Rat)))) ?_;repeat refine u ?_
 refine d1g rfl rfl (old rfl rfl) ?_;refine d1g rfl rfl (ofa rfl rfl) ?_;repeat refine u ?_
 refine d1g rfl rfl (oca rfl rfl fun g=>k8of (by(simp;done)) (by(simp;done))) ?_;refine d1g rfl rfl (oca rfl rfl fun _=>kt (p:=(((1:Nat):Rat),((1:Nat):Rat)))) ?_;repeat refine u ?_
 refine d1g rfl rfl (old rfl rfl) ?_;refine d1g rfl rfl (ofa rfl rfl) ?_;repeat refine u ?_
 refine d1g rfl rfl (oca rfl rfl fun _=>kc) ?_;repeat refine u ?_
 refine e ?_;refine psb ?_;rw[ex,en,e2,eo,eo,et,ec];decide +kernel
theorem cel_nine {ls:zF}(hls:∀ l∈ls,∃ m,l=hullF m):9≤(celM ls).length:=by
 rw[lM];have h2:=(xs_ends ls).1;have h3:∀ c,c<kC ls→3≤nC ls c:=fun c hc=>by
  have:=(yc_ends hls hc 0).1;rw[yC9] at this;unfold nC;omega
 have h4:=zQ4 (f:=nC ls) (c:=3) (d:=kC ls) (by unfold kC;omega);have h5:=h3 0 (by unfold kC;omega);have h6:=h3 1 (by unfold kC;omega);have h7:=h3 2 (by unfold kC;omega);have e:offN (nC ls) 3=0+nC ls 0+nC ls 1+nC ls 2:=rfl;show 9≤offN (nC ls) (kC ls);omega
theorem closed_pre {ls:zF}(h:Prt ls):∃ m:Mdl,CTy prog 52 [sv (sl 1 (ls.map (pcc 1)))] (ag (mdT 65 m))∧9≤m.cs.length∧m.cs.length≤3460000∧∀ i,i<m.cs.length→∃(c:CL) (L:List P2),m.cs.getD i Df.d=c∧c.1<4∧c.2.2.1≤1000000000000∧(c.1=0∧L.length=1∨c.1=3∧L.length=4∨(c.1=1∨c.1=2)∧L.length=2) ∧
  CTy prog 58 [ag (mdT 65 m),ag (celT 65 c)] (sv (sl 6 (L.map (ptc 66)))) ∧
  CTy prog 58 [ag (mdT 65 m),ag (celT 65 (c.1,c.2.1,c.2.2.1+1000,c.2.2.2))] (sv (sl 6 [])) ∧
  (∀ {Ψ:PV} {n q} [QP Ψ n q],n≤300→CTy prog 54 [ag (mdT 65 m),ag (celT 65 c),Ψ] (exP (.bool (hasA false m i q)))) ∧
  (∀ {Ψ:PV} {n q} [QP Ψ n q],n≤300→CTy prog 53 [ag (mdT 65 m),ag (celT 65 (c.1,c.2.1,c.2.2.1+1000,c.2.2.2)),Ψ] (exP (.bool false))) ∧
  CTy prog 55 [ag (mdT 65 m),exP (.int .i8 ((c.1:Nat):Int)),zJ c.2.1,exP (.int .i64 (((c.2.2.1+1000:Nat)):Int))] (exP (.int .i64 (-1))) ∧
  (∀ x∈L,hasA false m i x=true)∧(∀ x∈L,∀ y∈L,∀ t:Rat,0≤t→t≤1→hasA false m i (atP x y t)=true)∧hasA false m i c.2.2.2=true:=by
 refine⟨modM ls,zY1 h,cel_nine h.hull,yB8 h,fun i hi=>?_⟩;obtain⟨c,j,hc,rfl,e⟩:=fL hi;have e:(modM ls).cs.getD (offC ls c+j) Df.d=cellC ls c j:=e;have hb:=iC h hc;have hn:=fun {x}=>(pZ hc (s:=false) (p:=x)).2;have ht:=fun {x}=>cls_tou h.hull hc (x:=x);have hy:=nJ h c;have hj:=hc.2;have hk4:(cellC ls c j).1<4:=(sX (ls:=ls)).1;have hr1:(cellC ls c j).2.2.1+1000≤1000000000000:=by show j/2+1000≤_;omega
 have hlen:(cellC ls c j).1=0∧(clsM (modM ls) (2*(c%2)+j%2) (c/2) (j/2)).length=1∨(cellC ls c j).1=3∧(clsM (modM ls) (2*(c%2)+j%2) (c/2) (j/2)).length=4∨((cellC ls c j).1=1∨(cellC ls c j).1=2)∧(clsM (modM ls) (2*(c%2)+j%2) (c/2) (j/2)).length=2:=by
  rw[yB5 hc,(sX (ls:=ls)).2.1];have h4:2*(c%2)+j%2=0∨2*(c%2)+j%2=1∨2*(c%2)+j%2=2∨2*(c%2)+j%2=3:=by omega
  generalize 2*(c%2)+j%2=k at h4;rcases h4 with rfl | rfl | rfl | rfl<;>decide
 refine⟨cellC ls c j,clsM (modM ls) (2*(c%2)+j%2) (c/2) (j/2),e,hk4,hb.2,hlen,vZ (c:=cellC ls c j) (by omega) hk4 hb.1 hb.2 (mC h) (mD h) (mE h),?_,fun {Ψ n q} _ hq=>?_,fun {Ψ n q} _ hq=>?_,?_,fun x hx=>hn (ht hx),fun x hx y hy t zA0 zA1=>hn (tou_mid hc (ht hx) (ht hy) zA0 zA1),hn (own_tou (rep_own h.hull hc))⟩
 ·have k:=vZ (K:=65) (N:=65) (m:=modM ls) (c:=((cellC ls c j).1,(cellC ls c j).2.1,(cellC ls c j).2.2.1+1000,(cellC ls c j).2.2.2)) (by omega) hk4 hb.1 hr1 (mC h) (mD h) (mE h);dsimp only at k;rw[zO2 h (by omega)] at k;exact k
 ·have k:=zM1 h (Ψ:=Ψ) (N:=65) (by omega) hq hi;rw[e] at k;exact k
 ·have k:=yI6 (K:=65) (N:=65) (n:=n) (p:=q) (m:=modM ls) (c:=((cellC ls c j).1,(cellC ls c j).2.1,(cellC ls c j).2.2.1+1000,(cellC ls c j).2.2.2)) (by omega) hq hk4 hb.1 hr1 (mC h) (mD h) (mE h);dsimp only at k;rw[zO2 h (by omega)] at k;exact yI k (fs1 (PSub.refl _) (fs1 (PSub.refl _) (fs1 qp_q fs0)))
 ·exact zY4 (zac (yB8 h) (by omega)) (num_none h (by omega))
theorem law_StrataClosed {r:List PX}{ts:List TX3}{at' s t:Int}:CTy prog 11 [sv (pcx r),sv (sl 18 (ts.map trx)),exP (.int .i64 at'),exP (.int .i64 s),exP (.int .i64 t)] (exP (.bool true)):=by
 refine fw [.tmp 10] func11 fun X=>?_;repeat refine u ?_
 refine zB rfl rfl k24fewL ?_;repeat refine u ?_
 refine tp (fun c0=>?_) fun c0=>?_;repeat refine u ?_
 refine zB rfl rfl tA ?_;repeat refine u ?_
 exact e;have hf:fewL r ts=true:=Classical.byContradiction fun w=>c0 w;have kp:=k26pieces (yA0 hf);obtain⟨m,kb,h9,hl,hF⟩:=closed_pre (yQ2 (yA0 hf));generalize piecesX r ts=ls at *;obtain⟨i,hi1,hi2,hi3,hi4⟩:=ix_p at' (show 0<m.cs.length by omega);obtain⟨c,L,e,hk,hq,hL,kC,kC0,kT,kO,kN,f1,f2,f3⟩:=hF i hi2;clear hF;repeat refine u ?_
 refine zB rfl rfl kp ?_;refine zB rfl rfl kb ?_;refine u fun b11=>?_;refine zD 0 rfl rfl (zO (zY (s:=11) 0 rfl rfl) ?_);repeat refine u ?_
 refine tp (fun c1=>(by omega)) fun c1=>?_;iterate 2 refine u ?_
 apply gP 1 19 18 [(17,12,0),(18,1000018,0)] rfl rfl mixed rfl rfl rfl;repeat refine u ?_
 refine cx1 (ort rfl rfl (by omega)) rfl ?_;repeat refine u ?_
 refine cx1 (yZ (ort rfl rfl (by omega)) (ps_i hi1)) rfl ?_;repeat refine u ?_
 refine cN rfl rfl (cal) (cS rfl rfl rfl (cst rfl rfl rfl) ?_);refine cE (fun b12=>?_);refine fm ?_;refine u ?_;refine zO (zY (s:=12) 0 rfl rfl) ?_;iterate 3 refine u ?_
 rw[e];repeat refine u ?_
 refine zB rfl rfl kC ?_;iterate 4 refine u ?_
 refine zA1 (oas rfl) (zA0 (zR (vH (σ:=Nat) (fun v=>[(14,True,zJ v)]) (fun _=>[]) (fun v=>v=L.length) (tk 3 rfl (tk 4 rfl (tk 11 rfl (tk 12 rfl (tk 13 rfl tn))))) (fun _=>?_) (fun v hv Y _=>?_))))
 ·repeat refine u ?_
  refine tp (fun w1=>?_) fun w1=>?_;repeat refine u ?_
  refine tp (fun w2=>?_) fun w2=>?_;repeat refine u ?_
  rotate_left;repeat refine u ?_
  refine tp (fun w3=>?_) fun w3=>?_;repeat refine u ?_
  rotate_left;repeat refine u ?_
  rotate_left;repeat refine u ?_
  refine tp (fun w4=>?_) fun w4=>?_;repeat refine u ?_
  rotate_left;repeat refine u ?_
  refine tp (fun c6=>?_) fun c6=>?_;repeat refine u ?_
  rotate_left;repeat refine u ?_
  rotate_left
  ·refine⟨L.length,tes ?_ ?_ (zaa _),(by omega)⟩;refine tc rfl (ps_i (by omega)) (tn);refine zA rfl (zA rfl (zA rfl (zA rfl (zA rfl tn))))
  ·refine⟨L.length,tes ?_ ?_ (by omega),(by omega)⟩;refine tc rfl (ps_i (by omega)) (tn);refine zA rfl (zA rfl (zA rfl (zA rfl (zA rfl tn))))
  ·refine⟨L.length,tes ?_ ?_ (by omega),(by omega)⟩;refine tc rfl (ps_i (by omega)) (tn);refine zA rfl (zA rfl (zA rfl (zA rfl (zA rfl tn))))
  ·refine⟨L.length,tes ?_ ?_ (zaa _),(by omega)⟩;refine tc rfl (ps_i (by omega)) (tn);refine zA rfl (zA rfl (zA rfl (zA rfl (zA rfl tn))))
  ·refine⟨L.length,tes ?_ ?_ (zaa _),(by omega)⟩;refine tc rfl (ps_i (by omega)) (tn);refine zA rfl (zA rfl (zA rfl (zA rfl (zA rfl tn))))
  ·refine⟨L.length,tes ?_ ?_ (zaa _),(by omega)⟩;refine tc rfl (ps_i (by omega)) (tn);refine zA rfl (zA rfl (zA rfl (zA rfl (zA rfl tn))))
 ·subst hv;obtain⟨is,hs1,hs2,hs3,hs4⟩:=ix_p s (show 0<L.length by omega);obtain⟨it,ht1,ht2,ht3,ht4⟩:=ix_p t (show 0<L.length by omega);repeat refine u ?_
  refine tp (fun c2=>?_) fun c2=>?_;repeat refine u ?_
  refine⟨[_],rst rfl rs0,yC (psb (by omega))⟩;repeat refine u ?_
  refine xC (σ:=Nat) (fun j=>[(15,True,zJ j)]) (fun j=>[]) (fun j=>j≤L.length) (fun j=>L.length-j) (0) (tk 3 rfl (tk 4 rfl (tk 11 rfl (tk 12 rfl (tk 13 rfl (tk 14 rfl tn)))))) ?_ rfl ((by omega)) (fun j hJ Y _=>?_);refine zA rfl tn;repeat refine u ?_
  refine tp (fun c7=>?_) fun c7=>?_;iterate 4 refine u ?_
  refine zK 8 mixed rfl rfl ?_;repeat refine u ?_
  refine zC rfl rfl (kT (q:=L.getD j Df.d) (by omega)) ?_;repeat refine u ?_
  refine tp (fun c8=>?_) fun c8=>?_;rotate_left;repeat refine u ?_
  rotate_left;rotate_left
  ·exact absurd (f1 _ (xI (by omega))) c8
  ·refine⟨j+1,tes ?_ ?_ (zaa _),(by omega),(by omega)⟩;refine zA rfl tn;refine zA rfl (zA rfl (zA rfl (zA rfl (zA rfl (zA rfl tn)))))
  repeat refine u ?_
  refine zB rfl rfl (k7of (by(simp;done))) ?_;refine zB rfl rfl (k7of (by(simp;done))) ?_;refine zB rfl rfl (k7quo (by omega) (by omega)) ?_;iterate 3 refine u ?_
  refine u fun b16=>?_;refine u ?_;refine zO (zY (s:=16) 0 rfl rfl) ?_;iterate 3 refine u ?_
  apply gP 1 24 23 [(22,18,0),(23,1000023,0)] rfl rfl mixed rfl rfl rfl;repeat refine u ?_
  refine cx1 (ort rfl rfl (by omega)) rfl ?_;repeat refine u ?_
  refine cx1 (yZ (ort rfl rfl (by omega)) (ps_i hs1)) rfl ?_;repeat refine u ?_
  refine cx1 (ort rfl rfl (by omega)) rfl ?_;repeat refine u ?_
  refine cx1 (yZ (ort rfl rfl (by omega)) (ps_i ht1)) rfl ?_;repeat refine u ?_
  refine cx1 (oca rfl rfl fun _=>k8atN (by omega) (by omega)) rfl ?_;refine cN rfl rfl (cal) (cS rfl rfl rfl (cst rfl rfl rfl) ?_);refine cE (fun b18=>?_);refine fm ?_;refine u ?_;refine zO (zY (s:=18) 0 rfl rfl) ?_;repeat refine u ?_
  refine zA1 (old rfl rfl) ?_;refine tal fun b19=>?_;refine zD 0 rfl rfl ?_;refine zO (jK (cs':=[xc (.int .i8 ((c.1:Nat):Int)),xc (.int .i64 ((c.2.1:Nat):Int)),xc (.int .i64 ((c.2.2.1:Nat):Int)),ptc 65 c.2.2.2]) 0 rfl eM) ?_;repeat refine u ?_
  refine zA1 (ofa rfl rfl) ?_;repeat refine u ?_
  refine zD 0 rfl rfl ?_;refine zO (jK (cs':=[celT 65 (c.1,c.2.1,c.2.2.1+1000,c.2.2.2)]) 0 rfl fun h=>⟨_,[],(zar _).symm,h,rfl⟩) ?_;refine zO (zY (s:=19) 0 rfl rfl) ?_;have hmd:hasA false m i (atP ((L.getD is Df.d).fst,(L.getD is Df.d).snd) ((L.getD it Df.d).fst,(L.getD it Df.d).snd) (((1:Nat):Rat)/((2:Nat):Rat)))=true:=f2 _ (xI (by omega)) _ (xI (by omega)) _ (by decide +kernel) (by decide +kernel);generalize (atP ((L.getD is Df.d).fst,(L.getD is Df.d).snd) ((L.getD it Df.d).fst,(L.getD it Df.d).snd) (((1:Nat):Rat)/((2:Nat):Rat)))=md at *;repeat refine u ?_
  refine zA1 (old rfl rfl) ?_;refine zA1 (old rfl rfl) ?_;repeat refine u ?_
  refine zB rfl rfl (kT (q:=md) (by omega)) ?_;repeat refine u ?_
  refine t1g rfl rfl (old rfl rfl) ?_;refine t1g rfl rfl (old rfl rfl) ?_;refine t1g rfl rfl (ofa rfl rfl) ?_;repeat refine u ?_
  refine t1g rfl rfl (oca rfl rfl fun _=>kT (q:=c.2.2.2) (by omega)) ?_;repeat refine u ?_
  refine t1g rfl rfl (old rfl rfl) ?_;repeat refine u ?_
  refine t1g rfl rfl (oca rfl rfl fun _=>kC0) ?_;repeat refine u ?_
  refine t1g rfl rfl (old rfl rfl) ?_;repeat refine u ?_
  refine t1g rfl rfl (ofa rfl rfl) ?_;repeat refine u ?_
  refine t1g rfl rfl (oca rfl rfl fun _=>kO (q:=c.2.2.2) (by omega)) ?_;repeat refine u ?_
  refine t1g rfl rfl (old rfl rfl) ?_;repeat refine u ?_
  refine t1g rfl rfl (ofa rfl rfl) ?_;repeat refine u ?_
  refine t1g rfl rfl (ofa rfl rfl) ?_;repeat refine u ?_
  refine t1g rfl rfl (oca rfl rfl fun _=>kN) ?_;repeat refine u ?_
  refine t1g rfl rfl (oca rfl rfl fun _=>tA) ?_;repeat refine u ?_
  refine⟨[_],rst rfl rs0,yC ?_⟩;refine psb ?_;rw[hmd,f3];rfl
end Go.Proofs.YtalkinejknjidaaGreatDoor
