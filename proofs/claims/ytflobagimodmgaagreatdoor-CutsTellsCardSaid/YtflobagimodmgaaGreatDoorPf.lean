/- Lemmas and walks of functions; no statement. -/
import Derived.Test.YtflobagimodmgaaGreatDoorPe
set_option linter.unusedVariables false
set_option linter.unusedSimpArgs false
set_option maxRecDepth 100000
set_option maxHeartbeats 4000000
namespace Go.Proofs.YtflobagimodmgaaGreatDoor
open Go.SL Go.RowKit Go.Proofs Tryz
theorem zM0 {Ψ Φ:PV} {p q:Rat} {n m:Nat} [h:QR Ψ n p] [k:QR Φ m q] (hn:n≤90000) (hm:m≤90000):CTy prog 126 [Ψ,Φ] (exP (.bool (decide (cmpR p q=0)))):=gF (kcsame hn hm) (fs1 qr_q (fs1 qr_q fs0))
abbrev eqR (a b:Rat):Bool:=decide (cmpR a b=0)
theorem wcompactR {v:Value} {l:List Rat} {m:Nat} (hm:m≤80000) (hl:l.length≤100000):CTo prog 125 [exP v,exP (.func (.func 126) #[] #[])] [.row v 33 3 (l.map (rtc m))] (fun ρ So=>∃ v',ρ=exP v'∧So=[.row v' 33 3 ((qV eqR 0 l l.length).map (rtc m))]):=by
 refine ctd func125 rfl rfl rfl rfl (fun _ _ _ _ _ _ _ hs hp=>lD hs hp) fun X=>(zH (zJ rfl (zA1 (oas rfl) (zA0 (zH (zH (zJ rfl (zA1 (omv rfl) (zA1 (olno 0 rfl rfl) ?_)))))))))
 refine zA1 (olt rfl rfl) (zA0 ?_)
 refine t_if rfl (fun c0=>?_) (fun c0=>?_)
 refine zH (zJ rfl (zA1 (omv rfl) (zA1 (oas rfl) (zA0 (zZ ?_)))))
 rotate_left 1
 refine yA (zH (zH (zJ rfl (zA1 (oas rfl) (zA0 (zT ?_))))))
 rotate_left 1
 ·have h2:=dt c0
  exact ⟨[_],exP v,_,rst rfl rs0,List.Sublist.refl _,⟨v,rfl,by rw [aZ (Nat.le_refl _) fun i h1 h3=>by omega,List.take_length]⟩,yN (PSub.refl _)⟩
 have h2:=df c0
 refine xL (σ:=Nat) (fun s=>[(5,True,exP (.int .i64 ((s:Nat):Int)))]) (fun s=>[.row v 33 3 (l.map (rtc m))]) (fun s=>1≤s∧s≤l.length∧∀ i,0 < i→i < s→eqR (l.getD i 0) (l.getD (i - 1) 0)=false) (fun s=>l.length - s) (1) (tk 0 rfl (tk 1 rfl tn)) ?_ rfl (⟨by omega,by omega,fun i h1 h3=>by omega⟩) (fun s hJ Y _=>?_)
 refine tc rfl (ps_r _) (tn)
 rotate_left 1
 obtain ⟨j1,j2,j3⟩:=hJ
 refine zH (zH (zJ rfl (zA1 (omv rfl) (zA1 (omv rfl) (zA1 (olno 0 rfl rfl) (zA1 (olt rfl rfl) (zA0 ?_)))))))
 refine t_if rfl (fun c1=>?_) (fun c1=>?_)
 refine yA (zH (zT (zH (yR 11 mixed rfl rfl (d1 (omv rfl) (d1 (omv rfl) (d1 (omv rfl) (d1 (oixo 0 _ rfl rfl rfl (fun _=>rfl) (fun _=>(by (have e0:=dt c1; simp; omega)))) (d1 (oldr 0 rfl rfl (fun _=>(by (have e0:=dt c1; simp; omega))) rfl) ?_)))))))))
 refine d1 (omv rfl) (d1 (omv rfl) (d1 (osb rfl rfl (by omega)) (d1 (oixo 0 (s - 1) rfl rfl rfl (fun _=>(by omega)) (fun _=>(by (simp; omega)))) (d1 (oldr 0 rfl rfl (fun _=>(by (simp; omega))) rfl) (d1 (oca rfl rfl fun _=>zM0 (by omega) (by omega)) (d0 (zA0 ?_)))))))
 refine t_if rfl (fun c2=>?_) (fun c2=>?_)
 refine zH (zJ rfl (zA1 (omv rfl) (zA1 (omv rfl) (zA1 (osv 0 _ rfl rfl rfl (fun _=>rfl) (fun _=>(by (have e0:=df c0; have e1:=dt c1; have e2:=dt c2; simp; omega)))) (zA1 (oas rfl) (zA0 (zH (zH (zJ rfl ?_)))))))))
 refine zA1 (oas rfl) (zA0 (zT ?_))
 rotate_left 1
 refine yA (zJ rfl (zA1 (omv rfl) (zA1 (oad rfl rfl (by omega)) (zA1 (oas rfl) (zA0 ?_)))))
 rotate_left 1
 refine xN (zH (zJ rfl (zA1 (omv rfl) (zA1 (oas rfl) (zA0 (zZ ?_))))))
 rotate_left 1
 ·have h3:=dt c1
  refine xL (σ:=Nat × Nat × List Rat) (fun t=>[(5,True,exP (.int .i64 ((t.1:Nat):Int))),(7,True,exP (.int .i64 ((t.2.1:Nat):Int)))]) (fun t=>[.row v 33 3 (t.2.2.map (rtc m))]) (fun t=>1≤t.2.1∧s + t.2.1≤l.length∧s≤t.1∧t.1 < s + t.2.1∧t.2.2.length=l.length∧t.2.2.take t.1=qV eqR 0 l (s + t.2.1)∧∀ i,s + t.2.1≤i + 1→t.2.2.getD i 0=l.getD i 0) (fun t=>l.length - t.2.1) ((s,1,l)) (tk 0 rfl (tk 1 rfl (tk 6 rfl tn))) ?_ rfl (⟨by simp,by simp only; omega,by simp,by simp,rfl,oG (l:=l) (s:=s) (by omega) (by omega) j3 c2.h,fun _ _=>rfl⟩) (fun t hJ Y _=>?_)
  refine tc rfl (ps_r _) (tc rfl (ps_r _) (tn))
  rotate_left 1
  obtain ⟨kk,m',l2⟩:=t
  dsimp only at hJ ⊢
  obtain ⟨j4,j5,j6,j7,j8,j9,j10⟩:=hJ
  refine zH (zH (zJ rfl (zA1 (omv rfl) (zA1 (omv rfl) (zA1 (olv 0 rfl rfl) (zA1 (olt rfl rfl) (zA0 ?_)))))))
  refine t_if rfl (fun c3=>?_) (fun c3=>?_)
  refine yA (zH (zT (zH (yR 12 mixed rfl rfl (d1 (omv rfl) (d1 (omv rfl) (d1 (omv rfl) (d1 (oixv 0 m' rfl rfl rfl (fun _=>(by omega)) (fun _=>(by (have e0:=dt c3; omega)))) (d1 (oldr 0 rfl rfl (fun _=>(by (have e0:=dt c3; omega))) rfl) ?_)))))))))
  refine d1 (omv rfl) (d1 (omv rfl) (d1 (osb rfl rfl (by omega)) (d1 (oixv 0 (m' - 1) rfl rfl rfl (fun _=>(by omega)) (fun _=>(by (simp; omega)))) (d1 (oldr 0 rfl rfl (fun _=>(by (simp; omega))) rfl) (d1 (oca rfl rfl fun _=>zM0 (by omega) (by omega)) (d1 (ont rfl) (d0 (zA0 ?_))))))))
  refine t_if rfl (fun c4=>?_) (fun c4=>?_)
  refine zH (zJ rfl (zA1 (omv rfl) (zA1 (omv rfl) (zA1 (omv rfl) (zA1 (omv rfl) (zA1 (oixv 0 m' rfl rfl rfl (fun _=>(by omega)) (fun _=>(by (have e0:=dt c3; omega)))) (zA1 (oldr 0 rfl rfl (fun _=>(by (have e0:=dt c3; omega))) rfl) (zA1 (oixo 0 _ rfl rfl rfl (fun _=>rfl) (fun _=>(by (simp; omega)))) (tsr 0 _ rfl rfl rfl rfl rfl (by (simp; omega)) rfl ?_)))))))))
  refine zA0 (zJ rfl (zA1 (omv rfl) (zA1 (oad rfl rfl (by omega)) (zA1 (oas rfl) (zA0 (zJ rfl (zA1 (omv rfl) (zA1 (oad rfl rfl (by omega)) (zA1 (oas rfl) ?_)))))))))
  refine zA0 ?_
  rotate_left 1
  refine yA (zJ rfl (zA1 (omv rfl) (zA1 (oad rfl rfl (by omega)) (zA1 (oas rfl) (zA0 ?_)))))
  rotate_left 1
  refine xN (zH (zJ rfl (zA1 (omv rfl) (zA1 (omv rfl) (zA1 (osv 0 _ rfl rfl rfl (fun _=>rfl) (fun _=>(by (simp; omega)))) (tclr 0 rfl rfl (by (simp; omega)) (zA0 (zH (zJ rfl ?_)))))))))
  refine zA1 (omv rfl) (zA1 (omv rfl) (tsh 0 _ rfl rfl rfl rfl (by (simp; omega)) fun r64=>(zA1 (oas rfl) (zA0 (zZ ?_)))))
  rotate_left 1
  ·have h5:m' < l2.length - s:=by have:=dt c3; simp at this; omega
   have hd:l2.getD (s + m') 0=l.getD (s + m') 0:=j10 _ (by omega)
   have hd2:l2.getD (s + (m' - 1)) 0=l.getD (s + m' - 1) 0:=by rw [show s + (m' - 1)=s + m' - 1 by omega]; exact j10 _ (by omega)
   have hc:¬ eqR (l.getD (s + m') 0) (l.getD (s + m' - 1) 0)=true:=by rw [← hd,← hd2,Bool.not_eq_true]; exact (Bool.not_eq_true' _) ▸ c4.h
   refine ⟨(kk + 1,m' + 1,l2.set kk (l2.getD (s + m') 0)),tes ?_ ?_ ?_,?_,(by (simp; omega))⟩
   refine tc rfl (ps_r _) (tc rfl (ps_r _) (tn))
   refine tc rfl (ps_r _) (tc rfl (ps_r _) (tc rfl (ps_r _) (tn)))
   rotate_left 1
   rotate_left 1
   ·rw [List.map_set]; exact List.Sublist.refl _
   ·refine ⟨by simp,by simp only; omega,by simp only; omega,by simp only; omega,by simp [j8],?_,fun i hi=>?_⟩
    ·simp only [← Nat.add_assoc]; rw [hd]; exact pM (by omega) j9 hc
    ·simp only at hi ⊢; rw [iN (by omega)]; exact j10 i (by omega)
  ·have h5:m' < l2.length - s:=by have:=dt c3; simp at this; omega
   have hd:l2.getD (s + m') 0=l.getD (s + m') 0:=j10 _ (by omega)
   have hd2:l2.getD (s + (m' - 1)) 0=l.getD (s + m' - 1) 0:=by rw [show s + (m' - 1)=s + m' - 1 by omega]; exact j10 _ (by omega)
   have hc:eqR (l.getD (s + m') 0) (l.getD (s + m' - 1) 0)=true:=by rw [← hd,← hd2]; exact (Bool.not_eq_false' _) ▸ c4.h
   refine ⟨(kk,m' + 1,l2),tes ?_ ?_ (List.Sublist.refl _),?_,(by (simp; omega))⟩
   refine tc rfl (ps_r _) (tc rfl (ps_r _) (tn))
   refine tc rfl (ps_r _) (tc rfl (ps_r _) (tc rfl (ps_r _) (tn)))
   rotate_left 1
   exact ⟨by simp,by simp only; omega,j6,by simp only; omega,j8,by simp only [← Nat.add_assoc]; exact oF (by omega) j9 hc,fun i hi=>j10 i (by simp only at hi; omega)⟩
  ·have h5:¬ m' < l2.length - s:=by have:=df c3; simp at this; omega
   have e:s + m'=l.length:=by omega
   refine ⟨[_],exP r64,_,rst rfl rs0,List.Sublist.refl _,⟨r64,rfl,?_⟩,yN (PSub.refl _)⟩
   rw [← e,← j9]
   simp [List.take_append,Nat.min_eq_left (show kk≤l2.length by omega)]
 ·have h3:=dt c1
  refine ⟨s + 1,tes ?_ ?_ (List.Sublist.refl _),?_,(by omega)⟩
  refine tc rfl (ps_r _) (tn)
  refine tc rfl (ps_r _) (tc rfl (ps_r _) (tn))
  rotate_left 1
  refine ⟨by omega,by omega,fun i h1 h4=>?_⟩
  rcases Nat.lt_or_ge i s with h | h
  ·exact j3 i h1 h
  ·obtain rfl:i=s:=by omega
   exact c2.h
 ·have h3:=df c1
  exact ⟨[_],exP v,_,rst rfl rs0,List.Sublist.refl _,⟨v,rfl,by rw [aZ (Nat.le_refl _) fun i h1 h4=>j3 i h1 (by omega),List.take_length]⟩,yN (PSub.refl _)⟩
end Go.Proofs.YtflobagimodmgaaGreatDoor
set_option maxHeartbeats 4000000
namespace Go.Proofs.YtflobagimodmgaaGreatDoor
open Go.SL Go.RowKit Go.Proofs Tryz
theorem fN:COrd cmpR:=⟨fun a b=>gW,fun a b=>by rw [cmpR_gt,qK],fun a b c h k=>by rw [qK] at *; grind⟩
theorem ksortR {v:Value} {l:List Rat} {m:Nat} (hm:m≤90000) (hl:l.length≤1000000):CTo prog 124 [exP v,exP (.func (.func 103) #[] #[])] [.row v 33 3 (l.map (rtc m))] (fun r So=>r=tu []∧∃ l':List Rat,l'.Perm l∧(∀ i j,i < j→j < l'.length→¬ cmpR l'[j]! l'[i]! < 0)∧So=[.row v 33 3 (l'.map (rtc m))]) :=
 zW6 (ρ:=sortRat_ren) sortRat rfl cL (qF sz33) (fun _=>rfl) fN.swo (bo func124) (fun x y=>fM hm hm) hl
def iS (ls:List (List P2)):List Rat:=ls.flatMap fun l=>l.map (·.1)
noncomputable def meetX (l:List (List P2 × List P2)):List Rat:=l.flatMap fun x=>(allOf x.1 x.2).map (·.1)
noncomputable def rawC (ls:List (List P2)) (b:P2 × P2):List Rat:=[b.1.1,b.2.1] ++ iS ls ++ meetX (xQ ls)
noncomputable def cutsOf (ls:List (List P2)) (b:P2 × P2):List Rat:=setOf cmpR (rawC ls b)
theorem cornX_len {ls:List (List P2)} (h6:∀ l ∈ ls,l.length≤7):(iS ls).length≤7 * ls.length:=by
 unfold iS
 induction ls with
 | nil=>simp
 | cons a l ih =>
  rw [List.flatMap_cons,List.length_append,List.length_map,List.length_cons]
  have:=h6 a (by simp); have:=ih fun x hx=>h6 x (by simp [hx]); omega
theorem lE {ls:List (List P2)} {i:Nat} {x:List P2 × List P2} (hi:i≤ls.length) (h:x ∈ gR ls i):x.1 ∈ ls∧x.2 ∈ ls:=by
 unfold gR at h
 obtain ⟨k,hk,h⟩:=List.mem_flatMap.1 h
 obtain ⟨p,hp,rfl⟩:=List.mem_map.1 h
 have hk:=List.mem_range.1 hk
 exact ⟨List.mem_of_mem_take hp,by simp [List.getElem?_eq_getElem (show k < ls.length by omega)]⟩
theorem eG {ls:List (List P2)}:∀ i,(gR ls i).length≤i * ls.length
 | 0=>by simp [gR]
 | i + 1=>by
  rw [dF,List.length_append,List.length_map,List.length_take,Nat.succ_mul]
  have:=eG (ls:=ls) i; omega
theorem pH {l:List (List P2 × List P2)} (h:∀ x ∈ l,x.1.length≤7∧x.2.length≤7):(meetX l).length≤98 * l.length:=by
 unfold meetX
 induction l with
 | nil=>simp
 | cons a l ih =>
  rw [List.flatMap_cons,List.length_append,List.length_map,List.length_cons]
  have h1:=lS a.1 a.2
  obtain ⟨h2,h3⟩:=h a (by simp)
  have h4:2 * a.2.length * a.1.length≤14 * 7:=Nat.mul_le_mul (by omega) h2
  have:=ih fun x hx=>h x (by simp [hx]); omega
theorem cto_w {P:Program} {f:FuncId} {τs σs:List PV} {Si:List Ow} {Q:PV→List Ow→Prop} (h:CTo P f σs Si Q) (k:Fsub τs σs):CTo P f τs Si Q:=⟨h.bod,fun M w vs a b c d e=>h.run M w vs a b c d (k _ _ _ e)⟩
theorem zJ4 {α:Type} {f g:α→CT} (h:∀ a {M w us},(f a).p M w us→(g a).p M w us) {M:Nat→Prop} {w:World}:∀ {xs:List α} {us:List Value},stp (xs.map f) M w us→stp (xs.map g) M w us
 | [],_,e=>e
 | a :: xs,_,⟨x,y,e,h1,h2⟩=>⟨x,y,e,h a h1,zJ4 h h2⟩
theorem ps_row {α:Type} {f g:α→CT} {k:Nat} {xs:List α} (h:∀ a {M w us},(f a).p M w us→(g a).p M w us) (hs:∀ a,(g a).sz=k):PSub (sv (sl k (xs.map f))) (sv (sl k (xs.map g))):=fun M w v ⟨u,us,e,h1,h2,h3⟩ =>
 ⟨u,us,e,by rw [List.length_map] at h1 ⊢; exact h1,zJ4 h h2,fun c hc=>by obtain ⟨a,_,rfl⟩:=List.mem_map.1 hc; exact hs a⟩
theorem ptc_q {n:Nat} (a:P2) {M:Nat→Prop} {w:World} {us:List Value} (h:(ptc n a).p M w us):(ptq n a).p M w us:=by
 obtain ⟨s,x,d,t,y,e,rfl,g⟩:=CP.h (c:=ptc n a) h
 exact ⟨[.bool s,x,d],[.bool t,y,e],rfl,⟨s,x,d,rfl,(g.up (m:=n) (by simp)).x⟩,[.bool t,y,e],[],rfl,⟨t,y,e,rfl,(g.up (m:=n) (by simp)).y⟩,rfl⟩
theorem kcall {ls:List (List P2)} {n:Nat} {b:P2 × P2} (hn:n≤80) (hl0:ls.length≤5) (h6:∀ l ∈ ls,l.length≤7):CTy prog 62 [sv (sl 1 (ls.map (pcs n))),ag (st [ptq n b.1,ptq n b.2])] (sv (sl 3 ((cutsOf ls b).map (rtc (32 * n + 81))))):=by
 refine ctc func62 rfl rfl rfl rfl fun X=>(zH (zJ rfl (zA1 (obx rfl) (zA1 (oas rfl) (zA0 (zH (zI6 2 10 [(8,19,0),(9,5,1)] rfl rfl mixed rfl rfl (cx1 (ofa rfl rfl) rfl (cx1 (ofa rfl rfl) rfl ?_)))))))))
 refine cx1 (old rfl rfl) rfl (cx1 (oca rfl rfl fun _=>mM (m:=32 * n + 81) (by omega) (by omega)) rfl (cx1 (ofa rfl rfl) rfl (cx1 (ofa rfl rfl) rfl (cx1 (old rfl rfl) rfl (cx1 (oca rfl rfl fun _=>mM (m:=32 * n + 81) (by omega) (by omega)) rfl (cN rfl rfl (cbs rfl rfl rfl rfl rfl rfl) (cN rfl rfl (cal) ?_)))))))
 refine cE (fun r19 b5=>?_)
 refine tsw 0 1 rfl rfl rfl rfl rfl rfl rfl (zA0 (zH (zJ rfl (zA1 (omf rfl) (tal fun b6=>(tst 0 rfl rfl rfl rfl rfl rfl (qE (gC (s:=6) 0 rfl rfl) (zA0 (zH ?_)))))))))
 refine zH (zJ rfl (zA1 (omv rfl) (zA1 (oln rfl) (zA1 (omv rfl) (zA0 (zT ?_))))))
 rotate_left 1
 have hcl:∀ s,(iS (ls.take s)).length≤35:=fun s=>by
  have:=cornX_len (ls:=ls.take s) fun l h=>h6 l (List.mem_of_mem_take h)
  rw [List.length_take] at this; omega
 refine xL (σ:=Nat × Value) (fun s=>[(23,True,exP (.int .i64 ((s.1:Nat):Int)))]) (fun s=>[.blk b5 66 [xc s.2],.row s.2 33 3 (([b.1.1,b.2.1] ++ iS (ls.take s.1)).map (rtc (32 * n + 81)))]) (fun s=>s.1≤ls.length) (fun s=>ls.length - s.1) ((0,r19)) (tk 0 rfl (tk 5 rfl (tk 6 rfl (tk 21 rfl (tk 22 rfl tn))))) ?_ rfl ((by simp)) (fun s hJ Y _=>?_)
 refine tc rfl (ps_r _) (tn)
 rotate_left 1
 refine zH (zJ rfl (zA1 (olt rfl rfl) (zA0 (zH ?_))))
 refine t_if rfl (fun c0=>?_) (fun c0=>?_)
 refine yA (zH (zT (zH (zJ rfl (zA1 (oix _ rfl rfl rfl (fun _=>rfl) (fun _=>(by (have e0:=dt c0; omega)))) (zA1 (old rfl rfl) (zA1 (oas rfl) (zA0 (zJ rfl ?_)))))))))
 refine zA1 (old rfl rfl) (zA1 (omv rfl) ?_)
 rotate_left 1
 refine xN (zH (zH (zJ rfl (zA1 (omv rfl) (zA1 (oca rfl rfl fun _=>kpairs) (zA0 (zT ?_)))))))
 rotate_left 1
 ·have hs:=dt c0
  have h7:(ls.getD s.1 []).length≤7:=h6 _ (by simp [List.getElem?_eq_getElem (show s.1 < ls.length by omega)])
  have:=hcl s.1
  rw [show ls.getD s.1 []=ls.getD s.1 Df.d from rfl] at h7
  refine tco [0,1] rfl rfl rfl (yA6 (n:=n) (m:=32 * n + 81) (ps:=ls.getD s.1 Df.d) (by omega) (by omega) (by rw [List.length_append]; simp only [List.length_cons,List.length_nil]; omega)) ?_
  rintro _ _ ⟨rfl,v',rfl⟩
  refine zA0 (zJ rfl (zA1 (oad rfl rfl (by omega)) (zA1 (omv rfl) (zA0 ?_))))
  rotate_left 1
  refine ⟨(s.1 + 1,v'),tes ?_ ?_ ?_,(by omega),(by omega)⟩
  refine tc rfl (ps_r _) (tn)
  refine tc rfl (ps_r _) (tc rfl (ps_r _) (tc rfl (ps_r _) (tc rfl (ps_r _) (tc rfl (ps_r _) (tn)))))
  rotate_left 1
  simp only [(yZ (Df.d:List P2) (show s.1 < ls.length by omega)).1,iS,List.flatMap_append,List.flatMap_cons,List.flatMap_nil,List.append_nil,← List.append_assoc]
  exact List.Sublist.refl _
 ·have hs:s.1=ls.length:=by have:=df c0; omega
  refine fY (σ:=List (List P2 × List P2) × Value) (fun t=>[.blk b5 66 [xc t.2],.row t.2 33 3 (([b.1.1,b.2.1] ++ iS ls ++ meetX t.1).map (rtc (32 * n + 81)))]) (fun pre t=>t.1=pre) ([],s.2) rfl (ipairs (by omega)) (fun _=>rfl) rfl tN (by simp [hs,meetX]) rfl (fun pre x post t hx hJ Y y hl=>?_) (fun t hJ Y _=>?_)
  ·obtain ⟨h1,h2⟩:=lE (ls:=ls) (i:=ls.length) (x:=x) (Nat.le_refl _) (by rw [show gR ls ls.length=xQ ls from rfl,hx]; simp)
   have h3:=h6 _ h1
   have h4:=h6 _ h2
   refine zH (zJ rfl (zA1 (oas rfl) (zA0 (zJ rfl (zA1 (oas rfl) (zA0 (⟨rfl,fun Y hl=>(zT (yR 4 mixed rfl rfl ?_))⟩)))))))
   refine d1 (old rfl rfl) (d1 (omv rfl) (d1 (omv rfl) (d1 (oca rfl rfl fun _=>kmall (by omega) (by omega) (by omega) (by omega)) (d0 ?_))))
   rotate_left 1
   obtain ⟨pr,v1⟩:=t
   obtain rfl:pr=pre:=hJ
   have h5:=pH (l:=pr) fun z hz=>by
    obtain ⟨a,b⟩:=lE (ls:=ls) (i:=ls.length) (x:=z) (Nat.le_refl _) (by rw [show gR ls ls.length=xQ ls from rfl,hx]; simp [hz])
    exact ⟨h6 _ a,h6 _ b⟩
   have h7:=eG (ls:=ls) ls.length
   rw [show gR ls ls.length=xQ ls from rfl,hx] at h7
   have h8:ls.length * ls.length≤5 * 5:=Nat.mul_le_mul hl0 hl0
   have h9:=lS x.1 x.2
   have h10:2 * x.2.length * x.1.length≤14 * 7:=Nat.mul_le_mul (by omega) h3
   have h11:=hcl ls.length
   rw [List.take_length] at h11
   refine tco [0,1] rfl rfl rfl (cto_w (yA6 (n:=32 * n + 80) (m:=32 * n + 81) (ps:=allOf x.1 x.2) (by omega) (by omega) (by simp at h7 ⊢; omega)) (fs1 (ps_row (f:=ptc (32 * max n n + 80)) (fun a M w us h=>by rw [show 32 * max n n + 80=32 * n + 80 by omega] at h; exact ptc_q a h) fun _=>rfl) (fs1 (PSub.refl _) fs0))) ?_
   rintro _ _ ⟨rfl,v',rfl⟩
   refine zA0 ?_
   rotate_left 1
   have e:meetX (pr ++ [x])=meetX pr ++ (allOf x.1 x.2).map (·.1):=by simp [meetX]
   refine ⟨(pr ++ [x],v'),?_,rfl⟩
   rotate_left 1
   simp only [e,← List.append_assoc]; exact List.Sublist.refl _
  ·obtain ⟨_,v2⟩:=t
   obtain rfl:_=xQ ls:=hJ
   have h5:=pH (l:=xQ ls) fun z hz=>by
    obtain ⟨a,b⟩:=lE (ls:=ls) (i:=ls.length) (x:=z) (Nat.le_refl _) hz
    exact ⟨h6 _ a,h6 _ b⟩
   have h7:=eG (ls:=ls) ls.length
   rw [show gR ls ls.length=xQ ls from rfl] at h7
   have h8:ls.length * ls.length≤5 * 5:=Nat.mul_le_mul hl0 hl0
   have h11:=hcl ls.length
   rw [List.take_length] at h11
   have hr:(rawC ls b).length≤3000:=by unfold rawC; simp; omega
   change (rawC ls b).length≤3000 at hr
   dsimp only
   rw [show [b.1.1,b.2.1] ++ iS ls ++ meetX (xQ ls)=rawC ls b from rfl]
   refine zH (zJ rfl (zA1 (oldo 0 rfl rfl rfl rfl) ?_))
   rotate_left 1
   refine tco [1] rfl rfl rfl (ksortR (by omega) (by omega)) ?_
   rintro _ _ ⟨rfl,l',hp,hso,rfl⟩
   have hll:=hp.length_eq
   refine zA0 (zH (zJ rfl (zA1 (oldo 1 rfl rfl rfl rfl) ?_)))
   rotate_left 1
   refine tco [0] rfl rfl rfl (wcompactR (by omega) (by omega)) ?_
   rintro _ _ ⟨v3,rfl,rfl⟩
   rw [show qV eqR 0 l' l'.length=cutsOf ls b from (nI fN hp hso).eq fN]
   refine zA1 (oas rfl) (zA0 (t_ts (cZ (s:=4) 0 rfl rfl) (zZ (⟨[_],rst rfl rs0,yN (PSub.refl _)⟩))))
end Go.Proofs.YtflobagimodmgaaGreatDoor
set_option maxHeartbeats 4000000
namespace Go.Proofs.YtflobagimodmgaaGreatDoor
open Go.SL Go.RowKit Go.Proofs Tryz
abbrev RX:=(Bool × List Nat) × List Nat
abbrev PX:=RX × RX
def rtx (a:RX):CT:=st [itx a.1,ntx a.2]
def ptx (a:PX):CT:=st [rtx a.1,rtx a.2]
def qx (a:RX):Rat:=mkRat (zv a.1.1 a.1.2) (val a.2)
def px (a:PX):P2:=(qx a.1,qx a.2)
def pcx (l:List PX):CT:=sl 6 (l.map ptx)
instance:Df PX:=⟨(((false,[]),[]),((false,[]),[]))⟩
instance:Df (List PX):=⟨[]⟩
instance {a:RX}:FA (rtx a) 0 (itx a.1):=⟨fun h=>aU (l:=[itx a.1,ntx a.2]) (o:=0) h rfl⟩
instance {a:RX}:FA (rtx a) 2 (ntx a.2):=⟨fun h=>aU (l:=[itx a.1,ntx a.2]) (o:=2) h rfl⟩
instance {a:PX}:FA (ptx a) 0 (rtx a.1):=⟨fun h=>aU (l:=[rtx a.1,rtx a.2]) (o:=0) h rfl⟩
instance {a:PX}:FA (ptx a) 3 (rtx a.2):=⟨fun h=>aU (l:=[rtx a.1,rtx a.2]) (o:=3) h rfl⟩
instance {l:List PX}:VS (sv (pcx l)) 6 (l.map ptx):=⟨id⟩
instance {a:RX}:CQ (rtx a) (max a.1.2.length a.2.length) (qx a):=⟨by
 rintro M w us ⟨x,y,rfl,⟨x1,y1,rfl,⟨rfl,_⟩,x2,y2,rfl,⟨v,rfl,h1⟩,h2⟩,y3,y4,rfl,⟨d,rfl,h3⟩,h4⟩
 obtain rfl:y2=[]:=h2
 obtain rfl:y4=[]:=h4
 exact ⟨a.1.1,v,d,rfl,a.1.2,a.2,h1,h3,Nat.le_max_left _ _,Nat.le_max_right _ _,rfl⟩⟩
def bS (a:RX):Bool:=decide (a.1.2.length≤1) && decide (a.2.length≤1) && (decide (a.1.2.length=0) || decide (a.1.2.getD 0 Df.d≤999)) && (decide (a.2.length=0) || decide (a.2.getD 0 Df.d≤12))
theorem zY9 {a:RX}:CTy prog 146 [ag (rtx a)] (exP (.bool (bS a))):=by
 refine ctc func146 rfl rfl rfl rfl fun X=>(zH (zJ rfl (zA1 (obx rfl) (zA1 (oas rfl) (zA0 (zH (zJ rfl (zA1 (ofa rfl rfl) (zA1 (ofa rfl rfl) ?_)))))))))
 refine zA1 (old rfl rfl) (zA1 (oln rfl) (zA1 (ole rfl rfl) (zA1 (omv rfl) (t1g rfl rfl (ofa rfl rfl) (t1g rfl rfl (old rfl rfl) (t1g rfl rfl (oln rfl) (t1g rfl rfl (ole rfl rfl) (zA1 (opk rfl rfl rfl) (zA1 (omv rfl) ?_)))))))))
 refine t1g rfl rfl (ofa rfl rfl) (t1g rfl rfl (ofa rfl rfl) (t1g rfl rfl (old rfl rfl) (t1g rfl rfl (oln rfl) (t1g rfl rfl (oeq rfl rfl) (t1g rfl rfl (omv rfl) (t1g rfl rfl (ofa rfl rfl) (t1g rfl rfl (ofa rfl rfl) (t1g rfl rfl (old rfl rfl) (t1g rfl rfl (oix _ rfl rfl rfl (fun g=>rfl) (fun g=>(by (have e0:=of_decide_eq_false g.2; change (0:Nat) < _; omega)))) ?_)))))))))
 refine t1g rfl rfl (old rfl rfl) (t1g rfl rfl (ole rfl rfl) (t1g rfl rfl (opk rfl rfl rfl) (zA1 (opk rfl rfl rfl) (zA1 (omv rfl) (t1g rfl rfl (ofa rfl rfl) (t1g rfl rfl (old rfl rfl) (t1g rfl rfl (oln rfl) (t1g rfl rfl (oeq rfl rfl) (t1g rfl rfl (omv rfl) ?_)))))))))
 refine t1g rfl rfl (ofa rfl rfl) (t1g rfl rfl (old rfl rfl) (t1g rfl rfl (oix _ rfl rfl rfl (fun g=>rfl) (fun g=>(by (have e0:=of_decide_eq_false g.2; change (0:Nat) < _; omega)))) (t1g rfl rfl (old rfl rfl) (t1g rfl rfl (ole rfl rfl) (t1g rfl rfl (opk rfl rfl rfl) (zA1 (opk rfl rfl rfl) (zA1 (oas rfl) (zA0 (zZ ?_)))))))))
 refine ⟨[_],rst rfl rs0,yN ?_⟩
 refine psb ?_
 rotate_left 1
 unfold bS; rw [Bool.eq_iff_iff]; simp only [Bool.and_eq_true,Bool.or_eq_true,decide_eq_true_eq]; omega
def gU (l:List PX):Bool:=l.all fun a=>bS a.1 && bS a.2
theorem smallx_take {l:List PX} {i:Nat} (h:i < l.length):gU (l.take (i + 1))=(gU (l.take i) && (bS (l.getD i Df.d).1 && bS (l.getD i Df.d).2)):=by
 rw [(yZ (Df.d:PX) h).1]; simp [gU]
theorem smallx_no {l:List PX} {i:Nat} (h:i < l.length) (k:bS (l.getD i Df.d).1=false ∨ bS (l.getD i Df.d).2=false):gU l=false:=by
 rw [List.getD_eq_getElem?_getD,List.getElem?_eq_getElem h,Option.getD_some] at k
 simp only [gU,List.all_eq_false]
 exact ⟨l[i],List.getElem_mem h,by rcases k with k | k <;> simp [k]⟩
theorem zT6 {l:List PX}:CTy prog 89 [sv (pcx l)] (exP (.bool (gU l))):=by
 refine ctc func89 rfl rfl rfl rfl fun X=>(zH (zJ rfl (zA1 (oas rfl) (zA0 (zH (zH (zJ rfl (zA1 (oas rfl) (zA0 ?_)))))))))
 refine zT ?_
 rotate_left 1
 refine zW7 0 rfl fun hL=>?_
 rw [List.length_map] at hL
 refine xL (σ:=Nat) (fun i=>[(3,True,exP (.int .i64 ((i:Nat):Int)))]) (fun i=>[]) (fun i=>i≤l.length∧gU (l.take i)=true) (fun i=>l.length - i) (0) (tk 0 rfl tn) ?_ rfl (⟨by omega,rfl⟩) (fun i hJ Y _=>?_)
 refine tc rfl (ps_r _) (tn)
 rotate_left 1
 obtain ⟨hi,hs⟩:=hJ
 refine zH (zH (zJ rfl (zA1 (omv rfl) (zA1 (omv rfl) (zA1 (oln rfl) (zA1 (olt rfl rfl) (zA0 ?_)))))))
 refine t_if rfl (fun c0=>?_) (fun c0=>?_)
 refine yA (zH (zT (zH (zJ rfl (zA1 (omv rfl) (zA1 (omv rfl) (zA1 (oix _ rfl rfl rfl (fun _=>rfl) (fun _=>(by (have e0:=dt c0; omega)))) (zA1 (ofa rfl rfl) (zA1 (old rfl rfl) ?_)))))))))
 refine zA1 (oca rfl rfl fun _=>zY9) (zA1 (ont rfl) (zA1 (omv rfl) (t1g rfl rfl (omv rfl) (t1g rfl rfl (omv rfl) (t1g rfl rfl (oix _ rfl rfl rfl (fun g=>rfl) (fun g=>(by (have e0:=dt c0; omega)))) (t1g rfl rfl (ofa rfl rfl) (t1g rfl rfl (old rfl rfl) (t1g rfl rfl (oca rfl rfl fun g=>zY9) (t1g rfl rfl (ont rfl) ?_)))))))))
 refine zA1 (opk rfl rfl rfl) (zA0 ?_)
 refine t_if rfl (fun c1=>?_) (fun c1=>?_)
 refine zH (zJ rfl (zA1 (oas rfl) (zA0 (zZ (⟨[_],rst rfl rs0,yN ?_⟩)))))
 refine psb ?_
 rotate_left 1
 refine yA (zJ rfl (zA1 (omv rfl) (zA1 (oad rfl rfl (by (have e0:=dt c0; omega))) (zA1 (oas rfl) (zA0 ?_)))))
 rotate_left 1
 refine xN (zH (zJ rfl (zA1 (oas rfl) (zA0 (zZ (⟨[_],rst rfl rs0,yN ?_⟩))))))
 refine psb ?_
 rotate_left 1
 ·rw [smallx_no (dt c0 |> fun h=>by omega:i < l.length) (by have:=c1.h; revert this; generalize bS (l.getD i Df.d).1=a; generalize bS (l.getD i Df.d).2=b; cases a <;> cases b <;> simp)]
 ·refine ⟨i + 1,tes ?_ ?_ (List.Sublist.refl _),?_,(by (have e0:=dt c0; omega))⟩
  refine tc rfl (ps_r _) (tn)
  refine tc rfl (ps_r _) (tn)
  rotate_left 1
  have hi2:i < l.length:=by have:=dt c0; omega
  exact ⟨by omega,by rw [smallx_take hi2,hs]; have:=c1.h; revert this; generalize bS (l.getD i Df.d).1=a; generalize bS (l.getD i Df.d).2=b; cases a <;> cases b <;> simp⟩
 ·have:i=l.length:=by have:=df c0; omega
  subst this; rw [List.take_length] at hs; exact hs.symm
def fewx (ls:List (List PX)) (b:PX × PX):Bool:=decide (ls.length≤4) && gU [b.1,b.2] && ls.all fun l=>decide (l.length≤6) && gU l
theorem fewx_at {ls:List (List PX)} {b:PX × PX} {i:Nat} (h:i < ls.length) (k:(decide (6 < (ls.getD i Df.d).length) || !gU (ls.getD i Df.d))=true):fewx ls b=false:=by
 rw [List.getD_eq_getElem?_getD,List.getElem?_eq_getElem h,Option.getD_some] at k
 unfold fewx
 rw [Bool.and_eq_false_iff]
 refine .inr ?_
 simp only [List.all_eq_false]
 exact ⟨ls[i],List.getElem_mem h,fun c=>by
  simp only [Bool.and_eq_true,decide_eq_true_eq,Bool.or_eq_true,Bool.not_eq_true'] at c k
  rcases k with k | k
  ·omega
  ·rw [c.2] at k; cases k⟩
theorem kfew {ls:List (List PX)} {b:PX × PX}:CTy prog 56 [sv (sl 1 (ls.map pcx)),ag (st [ptx b.1,ptx b.2])] (exP (.bool (fewx ls b))):=by
 refine ctc func56 rfl rfl rfl rfl fun X=>(zH (zJ rfl (zA1 (obx rfl) (zA1 (oas rfl) (zA0 (zH (zH (zJ rfl (zA1 (oas rfl) ?_)))))))))
 refine zA0 (zT ?_)
 rotate_left 1
 refine xL (σ:=Nat) (fun i=>[(5,True,exP (.int .i64 ((i:Nat):Int)))]) (fun i=>[]) (fun i=>i≤ls.length∧i≤5∧∀ l ∈ ls.take i,l.length≤6∧gU l=true) (fun i=>ls.length - i) (0) (tk 0 rfl (tk 3 rfl tn)) ?_ rfl (⟨by omega,by omega,by simp⟩) (fun i hJ Y _=>?_)
 refine tc rfl (ps_r _) (tn)
 rotate_left 1
 obtain ⟨hi,h5,hs⟩:=hJ
 refine zH (zH (zJ rfl (zA1 (omv rfl) (zA1 (omv rfl) (zA1 (oln rfl) (zA1 (olt rfl rfl) (zA1 (omv rfl) (t1g rfl rfl (omv rfl) (t1g rfl rfl (ole rfl rfl) ?_)))))))))
 refine zA1 (opk rfl rfl rfl) (zA0 ?_)
 refine t_if rfl (fun c0=>?_) (fun c0=>?_)
 refine yA (zH (zT (zH (zJ rfl (zA1 (omv rfl) (zA1 (omv rfl) (zA1 (oix _ rfl rfl rfl (fun _=>rfl) (fun _=>(by (have e0:=dand c0; omega)))) (zA1 (old rfl rfl) (zA1 (oln rfl) ?_)))))))))
 refine zA1 (ogt rfl rfl) (zA1 (omv rfl) (t1g rfl rfl (omv rfl) (t1g rfl rfl (omv rfl) (t1g rfl rfl (oix _ rfl rfl rfl (fun g=>rfl) (fun g=>(by (have e0:=dand c0; omega)))) (t1g rfl rfl (old rfl rfl) (t1g rfl rfl (oca rfl rfl fun g=>zT6) (t1g rfl rfl (ont rfl) (zA1 (opk rfl rfl rfl) (zA0 ?_)))))))))
 refine t_if rfl (fun c1=>?_) (fun c1=>?_)
 refine zH (zJ rfl (zA1 (oas rfl) (zA0 (zZ (⟨[_],rst rfl rs0,yN ?_⟩)))))
 refine psb ?_
 rotate_left 1
 refine yA (zJ rfl (zA1 (omv rfl) (zA1 (oad rfl rfl (by omega)) (zA1 (oas rfl) (zA0 ?_)))))
 rotate_left 1
 refine xN (zH (zJ rfl (zA1 (omv rfl) (zA1 (oln rfl) (zA1 (ole rfl rfl) (zA1 (omv rfl) (t1g rfl rfl (ofa rfl rfl) (t1g rfl rfl (old rfl rfl) (t1g rfl rfl (ofa rfl rfl) ?_)))))))))
 refine t1g rfl rfl (old rfl rfl) (t1g rfl rfl (obs rfl rfl rfl rfl rfl rfl) (t1g rfl rfl (oca rfl rfl fun g=>zT6 (l:=[b.1,b.2])) (zA1 (opk rfl rfl rfl) (zA1 (oas rfl) (zA0 (zZ (⟨[_],rst rfl rs0,yN ?_⟩)))))))
 refine psb ?_
 rotate_left 1
 ·have hc:=dand c0
  rw [fewx_at (i:=i) (by omega) (by have:=c1.h; rw [← this]; congr 1; rw [decide_eq_decide]; omega)]
 ·have hc:=dand c0
  refine ⟨i + 1,tes ?_ ?_ (List.Sublist.refl _),?_,(by omega)⟩
  refine tc rfl (ps_r _) (tn)
  refine tc rfl (ps_r _) (tc rfl (ps_r _) (tn))
  rotate_left 1
  refine ⟨by omega,by omega,fun l hl=>?_⟩
  rw [(yZ (Df.d:List PX) (show i < ls.length by omega)).1] at hl
  rcases List.mem_append.1 hl with h | h
  ·exact hs l h
  ·obtain rfl:=List.mem_singleton.1 h
   have:=c1.h
   rw [Bool.or_eq_false_iff] at this
   obtain ⟨a1,a2⟩:=this
   have:=of_decide_eq_false a1
   exact ⟨by omega,by simpa using a2⟩
 ·have hc:=dor c0
  have e1:decide ((ls.length:Int)≤4)=decide (ls.length≤4):=by rw [decide_eq_decide]; omega
  unfold fewx
  rw [e1]
  rcases Nat.lt_or_ge 4 ls.length with h | h
  ·rw [decide_eq_false (by omega)]; simp
  ·rw [show i=ls.length by omega,List.take_length] at hs
   rw [decide_eq_true h,show (ls.all fun l=>decide (l.length≤6) && gU l)=true from List.all_eq_true.2 fun l hl=>by simp [hs l hl],Bool.and_true,Bool.true_and]
end Go.Proofs.YtflobagimodmgaaGreatDoor
set_option maxHeartbeats 4000000
namespace Go.Proofs.YtflobagimodmgaaGreatDoor
open Go.SL Go.RowKit Go.Proofs Tryz
theorem k7told {p q:Rat} {n m:Nat} (hn:n≤20000) (hm:m≤20000):CTy prog 119 [ag (rtc n p),ag (rtc m q)] (exP (.bool (decide (p=q)))):=by
 refine ctc func119 rfl rfl rfl rfl fun X=>(zH (zJ rfl (zA1 (obx rfl) (zA1 (obx rfl) (zA1 (oas rfl) (zA0 (zH (zJ rfl (zA1 (ofx rfl) ?_)))))))))
 refine zA1 (old rfl rfl) (zA1 (ofx rfl) (zA1 (old rfl rfl) (zA1 (oca rfl rfl fun _=>k5told) (zA1 (omv rfl) (t1g rfl rfl (ofx rfl) (t1g rfl rfl (old rfl rfl) (t1g rfl rfl (ofx rfl) (t1g rfl rfl (old rfl rfl) (t1g rfl rfl (oca rfl rfl fun g=>zU9) ?_)))))))))
 refine zA1 (opk rfl rfl rfl) (zA1 (oas rfl) (zA0 (zZ (⟨[_],rst rfl rs0,yN ?_⟩))))
 refine psb ?_
 rotate_left 1
 rw [← Bool.decide_and,decide_eq_decide]
 exact ⟨fun ⟨h1,h2⟩=>Rat.ext h1 (by have:=congrArg val h2; rwa [zP,zP] at this),fun h=>h ▸ ⟨rfl,rfl⟩⟩
theorem w22find {l:List Rat} {x:Rat} {n m:Nat} (hn:n≤1990) (hm:m≤1990) (hL:l.length≤1000000):CTy prog 60 [sv (sl 3 (l.map (rtq n))),ag (rtq m x)] (fnd l x):=by
 refine ctc func60 rfl rfl rfl rfl fun X=>(zH (zJ rfl (zA1 (obx rfl) (zA1 (oas rfl) (zA1 (oas rfl) (zA1 (oas rfl) (zA0 (zH (zH ?_)))))))))
 refine zJ rfl (zA1 (oas rfl) (zA0 (zT ?_)))
 rotate_left 1
 refine xL (σ:=Nat) (fun i=>[(7,True,exP (.int .i64 ((i:Nat):Int)))]) (fun i=>[]) (fun i=>i≤l.length∧∀ j,j < i→l.getD j 0 ≠ x) (fun i=>l.length - i) (0) (tk 0 rfl (tk 3 rfl tn)) ?_ rfl (⟨by omega,by omega⟩) (fun i hJ Y _=>?_)
 refine tc rfl (ps_r _) (tn)
 rotate_left 1
 obtain ⟨hi,hs⟩:=hJ
 refine zH (zH (zJ rfl (zA1 (omv rfl) (zA1 (omv rfl) (zA1 (oln rfl) (zA1 (olt rfl rfl) (zA0 ?_)))))))
 refine t_if rfl (fun c0=>?_) (fun c0=>?_)
 refine yA (zH (zT (zH (yR 7 mixed rfl rfl (d1 (omv rfl) (d1 (omv rfl) (d1 (oix _ rfl rfl rfl (fun _=>rfl) (fun _=>(by (have e0:=dt c0; omega)))) (d1 (old rfl rfl) (d1 (old rfl rfl) ?_)))))))))
 refine d1 (oca rfl rfl fun _=>nB (by omega) (by omega)) (d1 (oeq rfl rfl) (d0 (zA0 ?_)))
 refine t_if rfl (fun c1=>?_) (fun c1=>?_)
 refine zH (zJ rfl (zA1 (omv rfl) (zA1 (oas rfl) (zA1 (oas rfl) (zA1 (oas rfl) (zA0 (zZ (⟨[_,_,_],rst rfl (rst rfl (rst rfl rs0)),?_⟩))))))))
 rotate_left 1
 refine yA (zJ rfl (zA1 (omv rfl) (zA1 (oad rfl rfl (by omega)) (zA1 (oas rfl) (zA0 ?_)))))
 rotate_left 1
 refine xN (zH (zH (zJ rfl (zA1 (oas rfl) (zA0 (zT ?_))))))
 rotate_left 1
 ·have hi2:i < l.length:=by have:=dt c0; omega
  unfold fnd
  rw [show aH l x=(i,true,true) by unfold aH; rw [oP hi2 (gW.1 (dt c1)) hs]]
  exact tup3
 ·refine ⟨i + 1,tes ?_ ?_ (List.Sublist.refl _),?_,(by (have e0:=dt c0; have e1:=df c1; omega))⟩
  refine tc rfl (ps_r _) (tn)
  refine tc rfl (ps_r _) (tc rfl (ps_r _) (tn))
  rotate_left 1
  have hi2:i < l.length:=by have:=dt c0; omega
  refine ⟨by omega,fun j hj=>?_⟩
  rcases Nat.lt_or_ge j i with c | c
  ·exact hs j c
  ·rw [show j=i by omega]; exact fun e=>df c1 (gW.2 e)
 ·have hi2:i=l.length:=by have:=df c0; omega
  subst hi2
  refine xL (σ:=Nat) (fun i=>[(8,True,exP (.int .i64 ((i:Nat):Int)))]) (fun i=>[]) (fun i=>i≤l.length∧∀ j,j < i→¬ bU l x j=true) (fun i=>l.length - i) (0) (tk 0 rfl (tk 3 rfl tn)) ?_ rfl (⟨by omega,by omega⟩) (fun i hJ Y _=>?_)
  refine tc rfl (ps_r _) (tn)
  rotate_left 1
  obtain ⟨hi,hs2⟩:=hJ
  refine zH (zH (zJ rfl (zA1 (omv rfl) (zA1 (oad rfl rfl (by omega)) (zA1 (omv rfl) (zA1 (oln rfl) (zA1 (olt rfl rfl) (zA0 ?_))))))))
  refine t_if rfl (fun c1=>?_) (fun c1=>?_)
  refine yA (zH (zT (zH (yR 17 mixed rfl rfl (d1 (omv rfl) (d1 (omv rfl) (d1 (oix _ rfl rfl rfl (fun _=>rfl) (fun _=>(by (have e0:=dt c1; omega)))) (d1 (old rfl rfl) (d1 (old rfl rfl) ?_)))))))))
  refine d1 (oca rfl rfl fun _=>nB (by omega) (by omega)) (d1 (olt rfl rfl) (d1 (omv rfl) (d1g rfl rfl (old rfl rfl) (d1g rfl rfl (omv rfl) (d1g rfl rfl (omv rfl) (d1g rfl rfl (oad rfl rfl (by omega)) (d1g rfl rfl (oix _ rfl rfl rfl (fun g=>rfl) (fun g=>(by (have e0:=dt c1; simp; omega)))) (d1g rfl rfl (old rfl rfl) (d1g rfl rfl (oca rfl rfl fun g=>nB (by omega) (by omega)) ?_)))))))))
  refine d1g rfl rfl (olt rfl rfl) (d1 (opk rfl rfl rfl) (d0 (zA0 ?_)))
  refine t_if rfl (fun c2=>?_) (fun c2=>?_)
  refine zH (zJ rfl (zA1 (omv rfl) (zA1 (oas rfl) (zA1 (oas rfl) (zA1 (oas rfl) (zA0 (zZ (⟨[_,_,_],rst rfl (rst rfl (rst rfl rs0)),?_⟩))))))))
  rotate_left 1
  refine yA (zJ rfl (zA1 (omv rfl) (zA1 (oad rfl rfl (by omega)) (zA1 (oas rfl) (zA0 ?_)))))
  rotate_left 1
  refine xN (zH (zJ rfl (zA1 (oas rfl) (zA1 (oas rfl) (zA1 (oas rfl) (zA0 (zZ (⟨[_,_,_],rst rfl (rst rfl (rst rfl rs0)),?_⟩))))))))
  rotate_left 1
  ·have h1:=c2.h
   rw [Bool.and_eq_true,sK,sK,decide_eq_true_eq,decide_eq_true_eq] at h1
   unfold fnd
   rw [show aH l x=(i,false,true) by unfold aH; rw [eS hs,oV (by have:=dt c1; omega) h1.1 h1.2 hs2]]
   exact tup3
  ·refine ⟨i + 1,tes ?_ ?_ (List.Sublist.refl _),?_,(by (have e0:=df c0; have e1:=dt c1; have e2:=dor c2; omega))⟩
   refine tc rfl (ps_r _) (tn)
   refine tc rfl (ps_r _) (tc rfl (ps_r _) (tn))
   rotate_left 1
   have h1:=c2.h
   rw [sK,sK] at h1
   refine ⟨by have:=dt c1; omega,fun j hj=>?_⟩
   rcases Nat.lt_or_ge j i with c | c
   ·exact hs2 j c
   ·rw [show j=i by omega]; unfold bU; rw [Bool.and_assoc,show (decide (l.getD i 0 < x) && decide (x < l.getD (i + 1) 0))=false from h1,Bool.and_false]; simp
  ·unfold fnd
   rw [show aH l x=(0,false,false) by
    unfold aH; rw [eS hs,oW fun j hj=>?_]
    rcases Nat.lt_or_ge j i with c | c
    ·exact hs2 j c
    ·have:=df c1
     unfold bU; rw [decide_eq_false (show ¬ j + 1 < l.length by omega)]; simp]
   exact tup3
theorem vB {l k:List Rat} {n m:Nat} (hn:n≤1990) (hm:m≤1990):CTy prog 61 [sv (sl 3 (l.map (rtc n))),sv (sl 3 (k.map (rtc m)))] (exP (.bool (decide (l=k)))):=by
 refine ctc func61 rfl rfl rfl rfl fun X=>(zH (zJ rfl (zA1 (oas rfl) (zA0 (zH (zH (zJ rfl (zA1 (omv rfl) (zA1 (oln rfl) ?_)))))))))
 refine zA1 (omv rfl) (zA1 (oln rfl) (zA1 (oni rfl rfl) (zA0 ?_)))
 refine t_if rfl (fun c0=>?_) (fun c0=>?_)
 refine zH (zJ rfl (zA1 (oas rfl) (zA0 (zZ (⟨[_],rst rfl rs0,yN ?_⟩)))))
 refine psb ?_
 rotate_left 1
 refine yA (zH (zH (zJ rfl (zA1 (oas rfl) (zA0 (zT ?_))))))
 rotate_left 1
 ·have:=dt c0
  rw [decide_eq_false fun e=>this (by rw [e])]
 ·have hlk:l.length=k.length:=by have:=df c0; omega
  refine zW7 0 rfl fun hL=>?_
  rw [List.length_map] at hL
  refine xL (σ:=Nat) (fun i=>[(5,True,exP (.int .i64 ((i:Nat):Int)))]) (fun i=>[]) (fun i=>i≤l.length∧l.take i=k.take i) (fun i=>l.length - i) (0) (tk 0 rfl (tk 1 rfl tn)) ?_ rfl (⟨by omega,by simp⟩) (fun i hJ Y _=>?_)
  refine tc rfl (ps_r _) (tn)
  rotate_left 1
  obtain ⟨hi,hs⟩:=hJ
  refine zH (zH (zJ rfl (zA1 (omv rfl) (zA1 (omv rfl) (zA1 (oln rfl) (zA1 (olt rfl rfl) (zA0 ?_)))))))
  refine t_if rfl (fun c1=>?_) (fun c1=>?_)
  refine yA (zH (zT (zH (yR 10 mixed rfl rfl (d1 (omv rfl) (d1 (omv rfl) (d1 (oix _ rfl rfl rfl (fun _=>rfl) (fun _=>(by (have e0:=dt c1; omega)))) (d1 (old rfl rfl) (d1 (omv rfl) ?_)))))))))
  refine d1 (omv rfl) (d1 (oix _ rfl rfl rfl (fun _=>rfl) (fun _=>(by (have e0:=dt c1; omega)))) (d1 (old rfl rfl) (d1 (oca rfl rfl fun _=>k7told (by omega) (by omega)) (d1 (ont rfl) (d0 (zA0 ?_))))))
  refine t_if rfl (fun c2=>?_) (fun c2=>?_)
  refine zH (zJ rfl (zA1 (oas rfl) (zA0 (zZ (⟨[_],rst rfl rs0,yN ?_⟩)))))
  refine psb ?_
  rotate_left 1
  refine yA (zJ rfl (zA1 (omv rfl) (zA1 (oad rfl rfl (by (have e0:=dt c1; omega))) (zA1 (oas rfl) (zA0 ?_)))))
  rotate_left 1
  refine xN (zH (zJ rfl (zA1 (oas rfl) (zA0 (zZ (⟨[_],rst rfl rs0,yN ?_⟩))))))
  refine psb ?_
  rotate_left 1
  ·have h2:=c2.h
   rw [decide_eq_false fun e=>by rw [e] at h2; simp at h2]
  ·have h2:=c2.h
   have hi2:i < l.length:=by have:=dt c1; omega
   have e:l.getD i Df.d=k.getD i Df.d:=by simpa using h2
   refine ⟨i + 1,tes ?_ ?_ (List.Sublist.refl _),?_,(by omega)⟩
   refine tc rfl (ps_r _) (tn)
   refine tc rfl (ps_r _) (tc rfl (ps_r _) (tn))
   rotate_left 1
   exact ⟨by omega,by rw [(yZ (Df.d:Rat) hi2).1,(yZ (Df.d:Rat) (l:=k) (by omega)).1,hs,e]⟩
  ·have e:i=l.length:=by have:=df c1; omega
   subst e
   rw [List.take_length,hlk,List.take_length] at hs
   rw [decide_eq_true hs]
theorem sW {α:Type} {f g:α→CT}:∀ {xs:List α} {us:List Value} {M:Nat→Prop} {w:World},(∀ a ∈ xs,∀ {M w us},(f a).p M w us→(g a).p M w us)→stp (xs.map f) M w us→stp (xs.map g) M w us
 | [],_,_,_,_,e=>e
 | a :: xs,_,_,_,h,⟨x,y,e,h1,h2⟩=>⟨x,y,e,h a (by simp) h1,sW (fun b hb=>h b (by simp [hb])) h2⟩
theorem wP {α:Type} {f g:α→CT} {k:Nat} {xs:List α} (h:∀ a ∈ xs,∀ {M w us},(f a).p M w us→(g a).p M w us) (hs:∀ a,(g a).sz=k) {M:Nat→Prop} {w:World} {us:List Value}:(sl k (xs.map f)).p M w us→(sl k (xs.map g)).p M w us:=fun ⟨u,vs,e,h1,h2,h3⟩ =>
 ⟨u,vs,e,by rw [List.length_map] at h1 ⊢; exact h1,sW h h2,fun c hc=>by obtain ⟨a,_,rfl⟩:=List.mem_map.1 hc; exact hs a⟩
theorem ptx_q {n:Nat} (a:PX) (h1:a.1.1.2.length≤n) (h2:a.1.2.length≤n) (h3:a.2.1.2.length≤n) (h4:a.2.2.length≤n) {M:Nat→Prop} {w:World} {us:List Value} (h:(ptx a).p M w us):(ptq n (px a)).p M w us:=by
 obtain ⟨s,x,d,t,y,e,rfl,g⟩:=CP.h (c:=st [rtx a.1,rtx a.2]) h
 exact ⟨[.bool s,x,d],[.bool t,y,e],rfl,⟨s,x,d,rfl,(g.up (m:=n) (by simp; omega)).x⟩,[.bool t,y,e],[],rfl,⟨t,y,e,rfl,(g.up (m:=n) (by simp; omega)).y⟩,rfl⟩
theorem fW {a:RX} (h:bS a=true):a.1.2.length≤1∧a.2.length≤1:=by
 unfold bS at h; simp only [Bool.and_eq_true,decide_eq_true_eq] at h; exact ⟨h.1.1.1,h.1.1.2⟩
theorem rF {l:List PX} (h:gU l=true) (a:PX) (ha:a ∈ l) {M:Nat→Prop} {w:World} {us:List Value} (k:(ptx a).p M w us):(ptq 1 (px a)).p M w us:=by
 have:=List.all_eq_true.1 h a ha
 rw [Bool.and_eq_true] at this
 exact ptx_q a (fW this.1).1 (fW this.1).2 (fW this.2).1 (fW this.2).2 k
theorem pcx_q {l:List PX} (h:gU l=true) {M:Nat→Prop} {w:World} {us:List Value} (k:(pcx l).p M w us):(pcs 1 (l.map px)).p M w us:=by
 unfold pcs; rw [List.map_map]
 exact wP (f:=ptx) (g:=ptq 1 ∘ px) (rF h) (fun _=>rfl) k
theorem zS8 {ls:List (List PX)} (h:∀ l ∈ ls,gU l=true):PSub (sv (sl 1 (ls.map pcx))) (sv (sl 1 ((ls.map (List.map px)).map (pcs 1)))):=fun M w v k=>by
 rw [List.map_map]
 exact wP (f:=pcx) (g:=pcs 1 ∘ List.map px) (fun a ha=>pcx_q (h a ha)) (fun _=>rfl) k
theorem zW0 {b:PX × PX} (h:gU [b.1,b.2]=true):PSub (ag (st [ptx b.1,ptx b.2])) (ag (st [ptq 1 (px b.1),ptq 1 (px b.2)])):=fun M w v ⟨us,e,x,y,e1,h1,z,o,e2,h2,h3⟩ =>
 ⟨us,e,x,y,e1,rF h _ (by simp) h1,z,o,e2,rF h _ (by simp) h2,h3⟩
end Go.Proofs.YtflobagimodmgaaGreatDoor
set_option maxHeartbeats 4000000
namespace Go.Proofs.YtflobagimodmgaaGreatDoor
open Go.SL Go.RowKit Go.Proofs Tryz
theorem nR {ls:List (List P2)} {x:List P2 × List P2}:x ∈ xQ ls ↔ ∃ i k,i < k∧k < ls.length∧x=(ls.getD i [],ls.getD k []):=by
 unfold xQ gR
 simp only [List.mem_flatMap,List.mem_range,List.mem_map]
 constructor
 ·rintro ⟨k,hk,p,hp,rfl⟩
  obtain ⟨i,hi,rfl⟩:=List.mem_iff_getElem.1 hp
  rw [List.length_take] at hi
  exact ⟨i,k,by omega,hk,by rw [List.getElem_take,List.getD_eq_getElem?_getD (i:=i),List.getElem?_eq_getElem (show i < ls.length by omega)]; rfl⟩
 ·rintro ⟨i,k,h1,h2,rfl⟩
  exact ⟨k,h2,ls.getD i [],List.mem_iff_getElem.2 ⟨i,by rw [List.length_take]; omega,by rw [List.getElem_take,List.getD_eq_getElem?_getD,List.getElem?_eq_getElem (show i < ls.length by omega)]; rfl⟩,rfl⟩
theorem meetX_mem {ls:List (List P2)} {x:Rat}:x ∈ meetX (xQ ls) ↔ ∃ i k,i < k∧k < ls.length∧x ∈ (allOf (ls.getD i []) (ls.getD k [])).map (·.1):=by
 unfold meetX
 rw [List.mem_flatMap]
 exact ⟨fun ⟨y,hy,h⟩=>by obtain ⟨i,k,h1,h2,rfl⟩:=nR.1 hy; exact ⟨i,k,h1,h2,h⟩,fun ⟨i,k,h1,h2,h⟩=>⟨_,nR.2 ⟨i,k,h1,h2,rfl⟩,h⟩⟩
abbrev pxs (ls:List (List PX)):List (List P2):=ls.map (List.map px)
abbrev bxs (b:PX × PX):P2 × P2:=(px b.1,px b.2)
theorem few_ok {ls:List (List PX)} {b:PX × PX} (h:fewx ls b=true):ls.length≤4∧gU [b.1,b.2]=true∧∀ l ∈ ls,l.length≤6∧gU l=true:=by
 unfold fewx at h
 simp only [Bool.and_eq_true,decide_eq_true_eq,List.all_eq_true] at h
 exact ⟨h.1.1,h.1.2,h.2⟩
theorem kcallx {ls:List (List PX)} {b:PX × PX} (h:ls.length≤5) (hb:gU [b.1,b.2]=true) (hs:∀ l ∈ ls,l.length≤6∧gU l=true):CTy prog 62 [sv (sl 1 (ls.map pcx)),ag (st [ptx b.1,ptx b.2])] (sv (sl 3 ((cutsOf (pxs ls) (bxs b)).map (rtc 113)))) :=
 gF (kcall (n:=1) (by omega) (by simpa using h) fun l hl=>by obtain ⟨a,ha,rfl⟩:=List.mem_map.1 hl; rw [List.length_map]; have:=(hs a ha).1; omega) (fs1 (zS8 fun l hl=>(hs l hl).2) (fs1 (zW0 hb) fs0))
end Go.Proofs.YtflobagimodmgaaGreatDoor
set_option maxHeartbeats 4000000
namespace Go.Proofs.YtflobagimodmgaaGreatDoor
open Go.SL Go.RowKit Go.Proofs Tryz
instance {a:RX}:C3 (rtx a):=⟨rfl⟩
theorem k8add {p q:P2} {n m:Nat} (hn:n≤400) (hm:m≤400):CTy prog 26 [ag (ptq n p),ag (ptq m q)] (ag (ptc (2 * max n m + 8) (addP p q))):=by
 refine ctc func26 rfl rfl rfl rfl fun X=>(zH (zJ rfl (zA1 (obx rfl) (zA1 (obx rfl) (tal fun b4=>(zA0 (zH (yR 13 mixed rfl rfl (d1 (ofa rfl rfl) ?_)))))))))
 refine d1 (old rfl rfl) (d1 (ofa rfl rfl) (d1 (old rfl rfl) (d1 (obs rfl rfl rfl rfl rfl rfl) (d1 (oca rfl rfl fun _=>tY (by omega)) (d1 (ofa rfl rfl) (d1 (old rfl rfl) (d1 (ofa rfl rfl) (d1 (old rfl rfl) (d1 (obs rfl rfl rfl rfl rfl rfl) ?_)))))))))
 refine d1 (oca rfl rfl fun _=>tY (by omega)) ?_
 refine d1 (obd rfl rfl rfl) (d0 (tst 0 rfl rfl rfl rfl rfl rfl (zA0 (zZ (⟨[_],rsc 0 rfl rfl rfl rfl rs0,yN ?_⟩)))))
 rotate_left 1
 exact hP (p:=addP p q) rfl (by omega)
end Go.Proofs.YtflobagimodmgaaGreatDoor
set_option maxHeartbeats 1000000
namespace Go.Proofs.YtflobagimodmgaaGreatDoor
open Go.SL Go.RowKit Go.Proofs Tryz
theorem nN {n m:Nat} {p q:Rat} (e:p=q) (h:n≤m):PSub (ag (rtc n p)) (ag (rtc m q)):=fun _ _ _ ⟨us,e1,s,a,d,e2,g⟩=>⟨us,e1,s,a,d,e2,by subst e; exact g.up h⟩
theorem k8sub {p q:P2} {n m:Nat} (hn:n≤900) (hm:m≤900):CTy prog 18 [ag (ptq n p),ag (ptq m q)] (ag (ptc (n + m + 3) (subP p q))):=by
 refine ctc func18 rfl rfl rfl rfl fun X=>(zH (zJ rfl (zA1 (obx rfl) (zA1 (obx rfl) (tal fun b4=>(zA0 (zH (yR 11 mixed rfl rfl (d1 (ofa rfl rfl) ?_)))))))))
 refine d1 (old rfl rfl) (d1 (ofa rfl rfl) (d1 (old rfl rfl) (d1 (oca rfl rfl fun _=>zU1 (by omega) (by omega)) (d1 (ofa rfl rfl) (d1 (old rfl rfl) (d1 (ofa rfl rfl) (d1 (old rfl rfl) (d1 (oca rfl rfl fun _=>zU1 (by omega) (by omega)) ?_))))))))
 refine d1 (obd rfl rfl rfl) (d0 (tst 0 rfl rfl rfl rfl rfl rfl (zA0 (zZ (⟨[_],rsc 0 rfl rfl rfl rfl rs0,yN (PSub.refl _)⟩)))))
end Go.Proofs.YtflobagimodmgaaGreatDoor
namespace Go.SL
theorem tD {a b:Rat} (h:a * b=0) (ha:a ≠ 0):b=0:=by grind
end Go.SL
set_option maxHeartbeats 1000000
namespace Go.Proofs.YtflobagimodmgaaGreatDoor
open Go.SL Go.RowKit Go.Proofs Tryz
section
variable {Ψ Φ Ξ : PV} {n m l : Nat} {p q x : P2} {t : Rat}
theorem w8cross (hn:n≤400) (hm:m≤400):CTy prog 17 [ag (ptq n p),ag (ptq m q)] (ag (rtc (4 * max n m + 19) (xR p q))):=by
 refine ctc func17 rfl rfl rfl rfl fun X=>(zH (zJ rfl (zA1 (obx rfl) (zA1 (obx rfl) (tal fun b4=>(zA0 (zH (yR 13 mixed rfl rfl (d1 (ofa rfl rfl) ?_)))))))))
 refine d1 (old rfl rfl) (d1 (ofa rfl rfl) (d1 (old rfl rfl) (d1 (obs rfl rfl rfl rfl rfl rfl) (d1 (oca rfl rfl fun _=>lK (by omega)) (d1 (ofa rfl rfl) (d1 (old rfl rfl) (d1 (ofa rfl rfl) (d1 (old rfl rfl) (d1 (obs rfl rfl rfl rfl rfl rfl) ?_)))))))))
 refine d1 (oca rfl rfl fun _=>lK (by omega)) (d1 (oca rfl rfl fun _=>zU1 (by omega) (by omega)) (d0 (tst 0 rfl rfl rfl rfl rfl rfl (zA0 (zZ (⟨[_],rsc 0 rfl rfl rfl rfl rs0,yN ?_⟩))))))
 rotate_left 1
 exact nN rfl (by omega)
theorem w8dot (hn:n≤400) (hm:m≤400):CTy prog 83 [ag (ptq n p),ag (ptq m q)] (ag (rtc (4 * max n m + 24) (p.1 * q.1 + p.2 * q.2))):=by
 refine ctc func83 rfl rfl rfl rfl fun X=>(zH (zJ rfl (zA1 (obx rfl) (zA1 (obx rfl) (tal fun b4=>(zA0 (zH (yR 14 mixed rfl rfl (d1 (ofa rfl rfl) ?_)))))))))
 refine d1 (old rfl rfl) (d1 (ofa rfl rfl) (d1 (old rfl rfl) (d1 (obs rfl rfl rfl rfl rfl rfl) (d1 (oca rfl rfl fun _=>lK (by omega)) (d1 (ofa rfl rfl) (d1 (old rfl rfl) (d1 (ofa rfl rfl) (d1 (old rfl rfl) (d1 (obs rfl rfl rfl rfl rfl rfl) ?_)))))))))
 refine d1 (oca rfl rfl fun _=>lK (by omega)) (d1 (obs rfl rfl rfl rfl rfl rfl) (d1 (oca rfl rfl fun _=>tY (by omega)) (d0 (tst 0 rfl rfl rfl rfl rfl rfl (zA0 (zZ (⟨[_],rsc 0 rfl rfl rfl rfl rs0,yN ?_⟩)))))))
 rotate_left 1
 exact nN rfl (by omega)
theorem w8scale (hn:n≤400) (hm:m≤400):CTy prog 289 [ag (ptq n p),ag (rtq m t)] (ag (ptc (2 * max n m + 8) (dC p t))):=by
 refine ctc func289 rfl rfl rfl rfl fun X=>(zH (zJ rfl (zA1 (obx rfl) (zA1 (obx rfl) (tal fun b4=>(zA0 (zH (yR 11 mixed rfl rfl (d1 (ofa rfl rfl) ?_)))))))))
 refine d1 (old rfl rfl) (d1 (old rfl rfl) (d1 (obs rfl rfl rfl rfl rfl rfl) (d1 (oca rfl rfl fun _=>lK (by omega)) (d1 (ofa rfl rfl) (d1 (old rfl rfl) (d1 (old rfl rfl) (d1 (obs rfl rfl rfl rfl rfl rfl) (d1 (oca rfl rfl fun _=>lK (by omega)) ?_))))))))
 refine d1 (obd rfl rfl rfl) (d0 (tst 0 rfl rfl rfl rfl rfl rfl (zA0 (zZ (⟨[_],rsc 0 rfl rfl rfl rfl rs0,yN ?_⟩)))))
 rotate_left 1
 exact hP (p:=dC p t) rfl (by omega)
theorem w8cmp (hn:n≤1990) (hm:m≤1990):CTy prog 19 [ag (ptq n p),ag (ptq m q)] (exP (.int .i64 (cmpP p q))):=by
 refine ctc func19 rfl rfl rfl rfl fun X=>(zH (zJ rfl (zA1 (obx rfl) (zA1 (obx rfl) (zA1 (oas rfl) (zA0 (zH (zJ rfl (zA1 (ofa rfl rfl) ?_)))))))))
 refine zA1 (old rfl rfl) (zA1 (ofa rfl rfl) (zA1 (old rfl rfl) (zA1 (oca rfl rfl fun _=>nB (by omega) (by omega)) (zA1 (oas rfl) (zA0 (zH (zH (zJ rfl (zA1 (omv rfl) ?_)))))))))
 refine zA1 (oni rfl rfl) (zA0 ?_)
 refine t_if rfl (fun c0=>?_) (fun c0=>?_)
 refine zH (zJ rfl (zA1 (omv rfl) (zA1 (oas rfl) (zA0 (zZ (⟨[_],rst rfl rs0,yN ?_⟩))))))
 refine ps_i ?_
 rotate_left 1
 refine yA (zH (zJ rfl (zA1 (ofa rfl rfl) (zA1 (old rfl rfl) (zA1 (ofa rfl rfl) (zA1 (old rfl rfl) (zA1 (oca rfl rfl fun _=>nB (by omega) (by omega)) (zA1 (oas rfl) (zA0 ?_)))))))))
 refine zZ (⟨[_],rst rfl rs0,yN ?_⟩)
 refine ps_i ?_
 rotate_left 1
 ·unfold cmpP; rw [if_pos (dt c0)]
 ·unfold cmpP; rw [if_neg (df c0)]
theorem rX [h:QP Ψ n p] [k:QP Φ m q] (hn:n≤400) (hm:m≤400):CTy prog 17 [Ψ,Φ] (ag (rtc (4 * max n m + 19) (xR p q))):=gF (w8cross hn hm) (fs1 qp_q (fs1 qp_q fs0))
theorem k8dot [h:QP Ψ n p] [k:QP Φ m q] (hn:n≤400) (hm:m≤400):CTy prog 83 [Ψ,Φ] (ag (rtc (4 * max n m + 24) (p.1 * q.1 + p.2 * q.2))):=gF (w8dot hn hm) (fs1 qp_q (fs1 qp_q fs0))
theorem k8scale [h:QP Ψ n p] [k:QR Φ m t] (hn:n≤400) (hm:m≤400):CTy prog 289 [Ψ,Φ] (ag (ptc (2 * max n m + 8) (dC p t))):=gF (w8scale hn hm) (fs1 qp_q (fs1 qr_q fs0))
theorem zZ9 [h:QP Ψ n p] [k:QP Φ m q] (hn:n≤1990) (hm:m≤1990):CTy prog 19 [Ψ,Φ] (exP (.int .i64 (cmpP p q))):=gF (w8cmp hn hm) (fs1 qp_q (fs1 qp_q fs0))
theorem eM [h:QP Ψ n p] [k:QP Φ m q] (hn:n≤900) (hm:m≤900):CTy prog 18 [Ψ,Φ] (ag (ptc (n + m + 3) (subP p q))):=gF (k8sub hn hm) (fs1 qp_q (fs1 qp_q fs0))
theorem k8addc [h:QP Ψ n p] [k:QP Φ m q] (hn:n≤400) (hm:m≤400):CTy prog 26 [Ψ,Φ] (ag (ptc (2 * max n m + 8) (addP p q))):=gF (k8add hn hm) (fs1 qp_q (fs1 qp_q fs0))
end
theorem k8same {p q:P2} {n m:Nat} (hn:n≤1990) (hm:m≤1990):CTy prog 15 [ag (ptq n p),ag (ptq m q)] (exP (.bool (decide (cmpP p q=0)))):=by
 refine ctc func15 rfl rfl rfl rfl fun X=>(zH (zJ rfl (zA1 (obx rfl) (zA1 (obx rfl) (zA1 (oas rfl) (zA0 (zH (zJ rfl (zA1 (old rfl rfl) ?_)))))))))
 refine zA1 (old rfl rfl) (zA1 (oca rfl rfl fun _=>zZ9 (by omega) (by omega)) (zA1 (oeq rfl rfl) (zA1 (oas rfl) (zA0 (zZ (⟨[_],rst rfl rs0,yN (PSub.refl _)⟩))))))
theorem w8at {a b:P2} {t:Rat} {n m:Nat} (hn:n≤40) (hm:m≤190):CTy prog 264 [ag (ptq n a),ag (ptq n b),ag (rtq m t)] (ag (ptc (4 * max (2 * n + 3) m + 24) (atP a b t))):=by
 refine ctc func264 rfl rfl rfl rfl fun X=>(zH (zJ rfl (zA1 (obx rfl) (zA1 (obx rfl) (zA1 (obx rfl) (tal fun b6=>(zA0 (zH (yR 7 mixed rfl rfl ?_)))))))))
 refine d1 (old rfl rfl) (d1 (old rfl rfl) (d1 (old rfl rfl) (d1 (oca rfl rfl fun _=>eM (by omega) (by omega)) (d1 (old rfl rfl) (d1 (oca rfl rfl fun _=>k8scale (by omega) (by omega)) (d1 (oca rfl rfl fun _=>k8addc (by omega) (by omega)) (d0 (tst 0 rfl rfl rfl rfl rfl rfl (zA0 ?_)))))))))
 refine zZ (⟨[_],rsc 0 rfl rfl rfl rfl rs0,yN ?_⟩)
 rotate_left 1
 exact hP (p:=atP a b t) rfl (by omega)
theorem k8at {Ξ:PV} {a b:P2} {t:Rat} {n m:Nat} [h:QR Ξ m t] (hn:n≤40) (hm:m≤190):CTy prog 264 [ag (ptq n a),ag (ptq n b),Ξ] (ag (ptc (4 * max (2 * n + 3) m + 24) (atP a b t))):=gF (w8at hn hm) (fs1 (PSub.refl _) (fs1 (PSub.refl _) (fs1 qr_q fs0)))
theorem k8norm {l:List P2} {n:Nat} (hn:n≤1990) (hl:l.length≤1000000):CTy prog 101 [sv (sl 6 (l.map (ptq n)))] (sv (sl 6 (l.map (ptc (n + 1))))):=by
 refine ctc func101 rfl rfl rfl rfl fun X=>(zH (zJ rfl (zA1 (oas rfl) (zA0 (zH (zJ rfl (zA1 (oas rfl) (zA0 (zH ?_)))))))))
 refine zH (zJ rfl (zA1 (oas rfl) (zA0 (zT ?_))))
 rotate_left 1
 refine t_ts (fQ 35 6) ?_
 refine xL (σ:=Nat × Value) (fun s=>[(3,True,exP s.2),(4,True,exP (.int .i64 ((s.1:Nat):Int)))]) (fun s=>[.row s.2 35 6 ((l.take s.1).map (ptc (n + 1)))]) (fun s=>s.1≤l.length) (fun s=>l.length - s.1) ((0,.slice none 0 0)) (tk 0 rfl tn) ?_ rfl ((by simp)) (fun s hJ Y _=>?_)
 refine tc rfl (ps_r _) (tc rfl (ps_r _) (tn))
 rotate_left 1
 refine zH (zH (zJ rfl (zA1 (omv rfl) (zA1 (omv rfl) (zA1 (oln rfl) (zA1 (olt rfl rfl) (zA0 ?_)))))))
 refine t_if rfl (fun c0=>?_) (fun c0=>?_)
 refine yA (zH (zT (yR 15 mixed rfl rfl (d1 (omv rfl) (d1 (omv rfl) (d1 (omv rfl) (d1 (oix _ rfl rfl rfl (fun _=>rfl) (fun _=>(by (have e0:=dt c0; omega)))) (d1 (ofa rfl rfl) (d1 (old rfl rfl) ?_)))))))))
 refine d1 (oca rfl rfl fun _=>aN (by omega)) (d1 (omv rfl) (d1 (omv rfl) (d1 (oix _ rfl rfl rfl (fun _=>rfl) (fun _=>(by (have e0:=dt c0; omega)))) (d1 (ofa rfl rfl) (d1 (old rfl rfl) (d1 (oca rfl rfl fun _=>aN (by omega)) ?_))))))
 refine d1 (obd rfl rfl rfl) (d1 (obs rfl rfl rfl rfl rfl rfl) (d0 (tap 0 rfl rfl rfl (by (simp; omega)) rfl fun r26=>(zA1 (oas rfl) (zA0 (zJ rfl (zA1 (omv rfl) (zA1 (oad rfl rfl (by omega)) (zA1 (oas rfl) ?_)))))))))
 refine zA0 ?_
 rotate_left 1
 refine xN (zH (zJ rfl (zA1 (omv rfl) (zA1 (oas rfl) (zA0 (t_ts (cZ (s:=2) 0 rfl rfl) (zZ (⟨[_],rst rfl rs0,yN ?_⟩))))))))
 rotate_left 1
 ·refine ⟨(s.1 + 1,r26),tes ?_ ?_ ?_,(by (have e0:=dt c0; omega)),(by (have e0:=dt c0; omega))⟩
  refine tc rfl (ps_r _) (tc rfl (ps_r _) (tn))
  refine tc rfl (ps_r _) (tn)
  rotate_left 1
  rw [(yZ (Df.d:P2) (show s.1 < l.length by have:=dt c0; omega)).1,List.map_append]
  exact List.Sublist.refl _
 ·rw [List.take_of_length_le (by have:=df c0; omega)]
  exact PSub.refl _
def onB (a b p:P2):Bool:=decide (xR (subP b a) (subP p a)=0) && decide ((subP p a).1 * (subP p b).1 + (subP p a).2 * (subP p b).2≤0)
theorem w10on {a b p:P2} {m:Nat} (hm:m≤350):CTy prog 206 [ag (ptq 1 a),ag (ptq 1 b),ag (ptq m p)] (exP (.bool (onB a b p))):=by
 refine ctc func206 rfl rfl rfl rfl fun X=>(zH (zJ rfl (zA1 (obx rfl) (zA1 (obx rfl) (zA1 (obx rfl) (zA1 (oas rfl) (zA0 (zH (zH ?_)))))))))
 refine yR 9 mixed rfl rfl (d1 (old rfl rfl) (d1 (old rfl rfl) (d1 (oca rfl rfl fun _=>eM (by omega) (by omega)) (d1 (old rfl rfl) (d1 (old rfl rfl) (d1 (oca rfl rfl fun _=>eM (by omega) (by omega)) (d1 (oca rfl rfl fun _=>rX (by omega) (by omega)) (d1 (oca rfl rfl fun _=>rY (by omega)) (d1 (oni rfl rfl) ?_)))))))))
 refine d0 (zA0 ?_)
 refine t_if rfl (fun c0=>?_) (fun c0=>?_)
 refine zH (zJ rfl (zA1 (oas rfl) (zA0 (zZ (⟨[_],rst rfl rs0,yN ?_⟩)))))
 refine psb ?_
 rotate_left 1
 refine yA (zH (yR 10 mixed rfl rfl (d1 (old rfl rfl) (d1 (old rfl rfl) (d1 (oca rfl rfl fun _=>eM (by omega) (by omega)) (d1 (old rfl rfl) (d1 (old rfl rfl) (d1 (oca rfl rfl fun _=>eM (by omega) (by omega)) (d1 (oca rfl rfl fun _=>k8dot (by omega) (by omega)) ?_)))))))))
 refine d1 (oca rfl rfl fun _=>rY (by omega)) (d1 (ole rfl rfl) (d1 (oas rfl) (d0 (zA0 (zZ (⟨[_],rst rfl rs0,yN ?_⟩))))))
 refine psb ?_
 rotate_left 1
 ·have h:=dt c0
  unfold onB; rw [decide_eq_false (fun e=>h (lC.2 e)),Bool.false_and]
 ·have h:=df c0
  unfold onB; rw [decide_eq_true (show xR (subP b a) (subP p a)=0 from lC.1 (Classical.not_not.1 h)),Bool.true_and,decide_eq_decide]
  exact fZ
theorem zM4 {Ψ:PV} {a b p:P2} {m:Nat} [h:QP Ψ m p] (hm:m≤350):CTy prog 206 [ag (ptq 1 a),ag (ptq 1 b),Ψ] (exP (.bool (onB a b p))):=gF (w10on hm) (fs1 (PSub.refl _) (fs1 (PSub.refl _) (fs1 qp_q fs0)))
theorem k10lines {a b c d:P2}:CTy prog 205 [ag (ptq 1 a),ag (ptq 1 b),ag (ptq 1 c),ag (ptq 1 d)] (tu [ag (ptc 348 (jV a b c d)),exP (.bool (decide (jO a b c d)))]):=by
 have hz:∀ {x:Rat},decide ((if x=0 then (30:Int) else 0) ≠ 0)=decide (x=0):=fun {x}=>by by_cases h:x=0 <;> simp [h]
 refine ctc func205 rfl rfl rfl rfl fun X=>(zH (zJ rfl (zA1 (obx rfl) (zA1 (obx rfl) (zA1 (obx rfl) (zA1 (obx rfl) (tal fun b8=>(zA1 (oas rfl) (zA0 ?_)))))))))
 refine zH ?_
 apply uQ 2 9 8 [(6,10,0),(7,11,1),(8,1000008,0)] rfl rfl mixed rfl rfl rfl
 refine cx1 (old rfl rfl) rfl (cx1 (old rfl rfl) rfl (cx1 (oca rfl rfl fun _=>eM (by omega) (by omega)) rfl (cx1 (old rfl rfl) rfl (cx1 (old rfl rfl) rfl (cx1 (oca rfl rfl fun _=>eM (by omega) (by omega)) rfl (cN rfl rfl (cal) (cN rfl rfl (cal) (cS rfl rfl rfl (cst rfl rfl rfl) ?_))))))))
 refine cE (fun b10 b11=>?_)
 refine qE (gC (s:=10) 1 rfl rfl) (tst 0 rfl rfl rfl rfl rfl rfl (qE (gC (s:=11) 0 rfl rfl) (zA0 (zH (zJ rfl (zA1 (old rfl rfl) (zA1 (old rfl rfl) (zA1 (oca rfl rfl fun _=>rX (by omega) (by omega)) (tal fun b12=>?_)))))))))
 refine tst 0 rfl rfl rfl rfl rfl rfl (qE (gC (s:=12) 0 rfl rfl) (zA0 (zH ?_)))
 apply uQ 1 13 11 [(10,13,0),(11,1000011,0)] rfl rfl mixed rfl rfl rfl
 refine cx1 (old rfl rfl) rfl (cx1 (old rfl rfl) rfl (cx1 (oca rfl rfl fun _=>eM (by omega) (by omega)) rfl (cx1 (old rfl rfl) rfl (cx1 (oca rfl rfl fun _=>rX (by omega) (by omega)) rfl (cx1 (old rfl rfl) rfl (cx1 (oca rfl rfl fun _=>k7quo (by omega) (by omega)) rfl (cx1 (omv rfl) rfl (cx1 (oex rfl rfl) rfl (cx1 (oex rfl rfl) rfl ?_)))))))))
 refine cN rfl rfl (cal) (cS rfl rfl rfl (cst rfl rfl rfl) (cx1 (oas rfl) rfl ?_))
 refine cE (fun b13=>?_)
 refine zA0 (zH (zH (zJ rfl (zA1 (omv rfl) (zA1 (oni rfl rfl) (zA0 ?_))))))
 refine t_if rfl (fun c0=>?_) (fun c0=>?_)
 refine zH (zJ rfl (zA1 (oca rfl rfl fun _=>k8of (by (simp; done)) (by (simp; done))) (tst 1 rfl rfl rfl rfl rfl rfl (zA1 (oas rfl) (zA0 (zZ ?_))))))
 refine ⟨[_,_],rsc 1 rfl rfl rfl rfl (rst rfl rs0),uW ?_ ?_⟩
 rotate_left 1
 refine psb ?_
 rotate_left 1
 refine yA (zH (zJ rfl (zA1 (old rfl rfl) (zA1 (old rfl rfl) (zA1 (oldo 0 rfl rfl rfl rfl) (zA1 (oca rfl rfl fun _=>k8at (by omega) (by omega)) (tst 1 rfl rfl rfl rfl rfl rfl (zA1 (oas rfl) (zA0 ?_)))))))))
 refine zZ ?_
 refine ⟨[_,_],rsc 1 rfl rfl rfl rfl (rst rfl rs0),uW ?_ ?_⟩
 rotate_left 1
 refine psb ?_
 rotate_left 1
 ·have h:=of_decide_eq_true ((hz (x:=xR (subP b a) (subP d c))).symm.trans c0.h)
  exact hP (p:=(((0:Nat):Rat),((0:Nat):Rat))) (by unfold jV; rw [if_neg (show ¬ jO a b c d from fun c=>c h)]; rfl) (by omega)
 ·have h:=of_decide_eq_true ((hz (x:=xR (subP b a) (subP d c))).symm.trans c0.h)
  exact (decide_eq_false (fun c=>c h)).symm
 ·have h:=of_decide_eq_false ((hz (x:=xR (subP b a) (subP d c))).symm.trans c0.h)
  exact hP (p:=atP a b (rS a b c d)) (by unfold jV; rw [if_pos (show jO a b c d from h)]) (by omega)
 ·have h:=of_decide_eq_false ((hz (x:=xR (subP b a) (subP d c))).symm.trans c0.h)
  exact (decide_eq_true h).symm
end Go.Proofs.YtflobagimodmgaaGreatDoor
set_option maxHeartbeats 4000000
namespace Go.Proofs.YtflobagimodmgaaGreatDoor
open Go.SL Go.RowKit Go.Proofs Tryz
end Go.Proofs.YtflobagimodmgaaGreatDoor
namespace Go.SL
section
variable {X : Cx} {w w' : World} {Γ : TE} {S : List Ow} {E : Env}
theorem St.addr0 (h:St X Γ S E w) {b kk:Nat} {ty:TypeId} (hn:New w w' b (.cells #[] ty (0,0))):St X Γ (.row (.slice (some ⟨b,0,none⟩) 0 0) ty kk [] :: S) E w':=by
 have hb:=hn.below
 have hbs:w.heap.size≤b:=by rw [hn.at_]; exact Nat.le_refl _
 have cl:Cl (Mk S X.M) w (Mk (.row (.slice (some ⟨b,0,none⟩) 0 0) ty kk [] :: S) X.M) w':=Cl.new hb hbs fun k hk=>(iI.1 hk).imp (fun e=>(Option.some.inj e).symm) id
 refine ⟨h.bel.bel hb,⟨fun k hk=>?_,h.gd.tab.cl cl,fun o ho=>?_⟩,fun o ho k hk=>?_,⟨fun k hk p hp e=>?_,h.apt⟩,h.ok0,h.zm,h.mko.nc (.rb hb),h.tm.mono cl⟩
 ·rcases iI.1 hk with e | hk
  ·rw [← Option.some.inj (show some b=some k from e),hn.size,hn.at_]; omega
  ·exact Nat.lt_of_lt_of_le (h.gd.ok k hk) hb.size
 ·rcases List.mem_cons.1 ho with rfl | ho
  ·exact ⟨[],own_bs0 hn,rfl,by simp [cF]⟩
  ·exact Ow.ok_mono (h.gd.own o ho) cl fun k _ hlt=>hb.block k hlt
 ·rcases List.mem_cons.1 ho with rfl | ho
  ·rw [← Option.some.inj (show some b=some k from hk)]; exact .inl (Nat.le_trans h.bel.size hbs)
  ·exact h.new o ho k hk
 ·have:=h.okS p hp k e
  rw [← Option.some.inj (show some b=some k from hk)] at this
  omega
end
theorem tbs0 {P:Program} {r:Option Nat} {N:Nat} {ops:Array Oper} {X:Cx} {K:TK} {S:List Ow} {Γ:TE} {d k bytes:Nat} {t e t':TypeId} {pos:String} {af:Array Edge} {l:List Oper} [ht:TSl P t e k bytes] (h:∀ v',TO P r N ops X K l ((d,True,exP v') :: Γ) (.row v' e k [] :: S)):TO P r N ops X K (⟨some d,.buildSlice t 0 #[],t',pos,af,none⟩ :: l) Γ S:=fun hN D E w hs=>by
 unfold okN at hN
 simp only [List.all_cons,Bool.and_eq_true] at hN
 obtain ⟨z,hz,_⟩:=ht.s
 refine ops_bs0 hN.1 ht.u ⟨z,hz⟩ fun w' b hn=>?_
 exact h _ hN.2 D _ w' ((hs.addr0 hn).put (xJ _) (fun _=>rfl) (fun c=>absurd trivial c))
end Go.SL
namespace Go.Proofs.YtflobagimodmgaaGreatDoor
open Go.SL Go.RowKit Go.Proofs
section
variable {α : Type} {cf : α → α → Int}
theorem sE (h:COrd cf) {raw:List α} {x:α} {k:Nat} (z:α) (hk:k≤(setOf cf raw).length) (h1:∀ j,j < k→cf ((setOf cf raw).getD j z) x < 0) (h2:k < (setOf cf raw).length→¬ cf ((setOf cf raw).getD k z) x < 0) :
  (k < (setOf cf raw).length→cf ((setOf cf raw).getD k z) x=0→setOf cf raw=setOf cf (raw ++ [x])) ∧
  ((k < (setOf cf raw).length→cf ((setOf cf raw).getD k z) x ≠ 0)→(setOf cf raw).take k ++ x :: (setOf cf raw).drop k=setOf cf (raw ++ [x])):=by
 have hs:=uT h raw
 generalize setOf cf raw=l at *
 have hg:∀ {j},(hj:j < l.length)→l.getD j z=l[j]:=fun {j} hj=>by rw [List.getD_eq_getElem?_getD,List.getElem?_eq_getElem hj]; rfl
 constructor
 ·intro hl h0
  rw [hg hl] at h0
  have e:=(h.zero _ _).1 h0
  refine IsSet.eq (cf:=cf) (l:=raw ++ [x]) h ⟨hs.rise,fun y=>?_⟩
  rw [hs.mem,List.mem_append,List.mem_singleton]
  exact ⟨.inl,fun c=>c.elim id fun c=>by subst c; rw [← e,← hs.mem]; exact List.getElem_mem hl⟩
 ·intro h0
  refine IsSet.eq (cf:=cf) (l:=raw ++ [x]) h ⟨?_,fun y=>?_⟩
  ·have hr:=List.pairwise_iff_getElem.1 hs.rise
   have hb:∀ y ∈ l.drop k,cf x y < 0:=fun y hy=>by
    obtain ⟨j,hj,rfl⟩:=List.mem_iff_getElem.1 hy
    rw [List.length_drop] at hj
    rw [List.getElem_drop]
    have hkl:k < l.length:=by omega
    have h3:=h2 hkl; have h4:=h0 hkl
    rw [hg hkl] at h3 h4
    have h5:cf x l[k] < 0:=(h.anti _ _).1 (by omega)
    rcases Nat.eq_zero_or_pos j with c | c
    ·subst c; exact h5
    ·exact h.trans _ _ _ h5 (hr k (k + j) hkl (by omega) (by omega))
   have ha:∀ y ∈ l.take k,cf y x < 0:=fun y hy=>by
    obtain ⟨j,hj,rfl⟩:=List.mem_iff_getElem.1 hy
    rw [List.length_take] at hj
    rw [List.getElem_take,← hg (by omega)]; exact h1 j (by omega)
   refine List.pairwise_append.2 ⟨hs.rise.sublist (List.take_sublist _ _),List.pairwise_cons.2 ⟨hb,hs.rise.sublist (List.drop_sublist _ _)⟩,fun a ha2 b hb2=>?_⟩
   rcases List.mem_cons.1 hb2 with c | c
   ·subst c; exact ha a ha2
   ·exact h.trans _ _ _ (ha a ha2) (hb b c)
  ·rw [List.mem_append,List.mem_cons,List.mem_append,List.mem_singleton,← hs.mem]
   conv=>rhs; rw [← List.take_append_drop k l,List.mem_append]
   exact ⟨fun c=>by rcases c with c | c | c; exact .inl (.inl c); exact .inr c; exact .inl (.inr c),fun c=>by rcases c with (c | c) | c; exact .inl c; exact .inr (.inr c); exact .inr (.inl c)⟩
end
end Go.Proofs.YtflobagimodmgaaGreatDoor
set_option maxHeartbeats 1000000
namespace Go.Proofs.YtflobagimodmgaaGreatDoor
open Go.SL Go.RowKit Go.Proofs Tryz
theorem k8samec {Ψ Φ:PV} {n m:Nat} {p q:P2} [h:QP Ψ n p] [k:QP Φ m q] (hn:n≤1990) (hm:m≤1990):CTy prog 15 [Ψ,Φ] (exP (.bool (decide (cmpP p q=0)))):=gF (k8same hn hm) (fs1 qp_q (fs1 qp_q fs0))
theorem zJ3 {B:List CT} {c c':CT} {M:Nat→Prop} {w:World} (h:∀ us,c.p M w us→c'.p M w us):∀ {A:List CT} {us:List Value},stp (A ++ c :: B) M w us→stp (A ++ c' :: B) M w us
 | [],_,⟨x,y,e,h1,h2⟩=>⟨x,y,e,h _ h1,h2⟩
 | _ :: _,_,⟨x,y,e,h1,h2⟩=>⟨x,y,e,h1,zJ3 h h2⟩
theorem sl_mid {A B:List CT} {c c':CT} {k:Nat} (h:∀ M w us,c.p M w us→c'.p M w us) (hs:c'.sz=k):PSub (sv (sl k (A ++ c :: B))) (sv (sl k (A ++ c' :: B))):=fun M w v ⟨u,vs,e,h1,h2,h3⟩ =>
 ⟨u,vs,e,by simpa using h1,zJ3 (h M w) h2,fun x hx=>by
  rcases List.mem_append.1 hx with h | h
  ·exact h3 x (by simp [h])
  ·rcases List.mem_cons.1 h with h | h
   ·rw [h]; exact hs
   ·exact h3 x (by simp [h])⟩
theorem zM6 {α:Type} {f:α→CT} {c:CT} {k sz:Nat} {l l':List α} {p:α} (hl:l.take k ++ p :: l.drop k=l') (h:∀ M w us,c.p M w us→(f p).p M w us) (hs:(f p).sz=sz):PSub (sv (sl sz ([] ++ (l.take (k - 0)).map f ++ [c] ++ ((l.drop k).take ((l.map f).length - k)).map f))) (sv (sl sz (l'.map f))):=by
 subst hl
 rw [List.nil_append,Nat.sub_zero,List.take_of_length_le (l:=l.drop k) (by rw [List.length_map,List.length_drop]; omega),List.append_assoc,List.singleton_append,List.map_append,List.map_cons]
 exact sl_mid h hs
theorem pt_up {n m:Nat} {p:P2} (h:rlen p.1 n∧rlen p.2 n) (M:Nat→Prop) (w:World) (us:List Value) (k:(ptc m p).p M w us):(ptc n p).p M w us:=by
 obtain ⟨x,y,e,⟨s,a,d,e2,g⟩,z,o,e3,⟨t,b,f,e4,g2⟩,e5⟩:=k
 exact ⟨x,y,e,⟨s,a,d,e2,g.relen h.1⟩,z,o,e3,⟨t,b,f,e4,g2.relen h.2⟩,e5⟩
theorem zV0 {raw:List P2} {p:P2} {n m:Nat} (hm:m≤1900) (hn:n≤1900) (hL:(setOf cmpP raw).length≤100000) (h1:rlen p.1 n∧rlen p.2 n):CTy prog 87 [sv (sl 6 ((setOf cmpP raw).map (ptc n))),ag (ptq m p)] (sv (sl 6 ((setOf cmpP (raw ++ [p])).map (ptc n)))):=by
 refine ctc func87 rfl rfl rfl rfl fun X=>(zH (zJ rfl (zA1 (obx rfl) (zA1 (oas rfl) (zA0 (zH (zJ rfl (zA1 (oas rfl) (zA0 ?_)))))))))
 refine zH (zT ?_)
 rotate_left 1
 refine xL (σ:=Nat) (fun k=>[(5,True,exP (.int .i64 ((k:Nat):Int)))]) (fun k=>[]) (fun k=>k≤(setOf cmpP raw).length∧∀ j,j < k→cmpP ((setOf cmpP raw).getD j (0,0)) p < 0) (fun k=>(setOf cmpP raw).length - k) (0) (tk 0 rfl (tk 3 rfl tn)) ?_ rfl (⟨by omega,by omega⟩) (fun k hJ Y _=>?_)
 refine tc rfl (ps_r _) (tn)
 rotate_left 1
 obtain ⟨hk,hlt⟩:=hJ
 refine zH (zH (yR 13 mixed rfl rfl (d1 (omv rfl) (d1 (omv rfl) (d1 (oln rfl) (d1 (olt rfl rfl) (d1 (omv rfl) (d1g rfl rfl (omv rfl) (d1g rfl rfl (omv rfl) ?_)))))))))
 refine d1g rfl rfl (oix _ rfl rfl rfl (fun g=>rfl) (fun g=>(by (simp at g; omega)))) (d1g rfl rfl (old rfl rfl) (d1g rfl rfl (old rfl rfl) (d1g rfl rfl (oca rfl rfl fun g=>zZ9 (by omega) (by omega)) (d1g rfl rfl (olt rfl rfl) (d1 (opk rfl rfl rfl) (d0 (zA0 ?_)))))))
 refine t_if rfl (fun c0=>?_) (fun c0=>?_)
 refine yA (zT (zJ rfl (zA1 (omv rfl) (zA1 (oad rfl rfl (by omega)) (zA1 (oas rfl) (zA0 ?_))))))
 rotate_left 1
 refine xN (zH (zH (yR 12 mixed rfl rfl (d1 (omv rfl) (d1 (omv rfl) (d1 (oln rfl) (d1 (olt rfl rfl) (d1 (omv rfl) (d1g rfl rfl (omv rfl) ?_)))))))))
 refine d1g rfl rfl (omv rfl) (d1g rfl rfl (oix _ rfl rfl rfl (fun g=>rfl) (fun g=>(by (simp at g; omega)))) (d1g rfl rfl (old rfl rfl) (d1g rfl rfl (old rfl rfl) (d1g rfl rfl (oca rfl rfl fun g=>k8samec (by omega) (by omega)) (d1 (opk rfl rfl rfl) (d0 (zA0 ?_)))))))
 refine t_if rfl (fun c1=>?_) (fun c1=>?_)
 refine zH (zJ rfl (zA1 (omv rfl) (zA1 (oas rfl) (zA0 (zZ (⟨[_],rst rfl rs0,yN ?_⟩))))))
 rotate_left 1
 refine yA (zH (zJ rfl (tbs0 fun r35=>(zA1 (omv rfl) (zA1 (omv rfl) (zA1 (osl 0 _ rfl rfl ⟨_,_,_,_,rfl,fun _=>trivial,inferInstance,fun _=>rfl⟩ (fun _=>(by omega)) (fun _=>(by (simp; omega)))) (tap 0 rfl rfl rfl (by (simp; omega)) rfl fun r39=>(zA1 (oas rfl) (zA0 ?_)))))))))
 refine zH (zI7 0 9 0 [(4,44,0),(8,48,0)] rfl rfl rfl mixed rfl rfl (cx1 (omv rfl) rfl (cx1 (old rfl rfl) rfl (cx1 (obs rfl rfl rfl rfl rfl rfl) rfl (cx1 (oca rfl rfl fun _=>k8norm (l:=[p]) (by omega) (by (simp; done))) rfl (cB rfl rfl (cap0 rfl rfl (by (simp; omega)) rfl) (cx1 (omv rfl) rfl (cx1 (omv rfl) rfl (cx1 (osl _ _ rfl ⟨_,_,_,_,rfl,fun _=>trivial,inferInstance,fun _=>rfl⟩ (fun _=>rfl) (fun _=>(by (simp; omega))) (fun _=>(by omega))) rfl ?_)))))))))
 refine cA rfl rfl rfl (cap rfl (by (simp; omega)) rfl) ?_
 refine cE (fun r48=>?_)
 refine zA1 (oas rfl) (zA0 (t_ts (cZ (s:=4) 0 rfl rfl) (zZ (⟨[_],rst rfl rs0,yN ?_⟩))))
 rotate_left 1
 ·have hc:=dand c0
  refine ⟨k + 1,tes ?_ ?_ (List.Sublist.refl _),?_,(by omega)⟩
  refine tc rfl (ps_r _) (tn)
  refine tc rfl (ps_r _) (tc rfl (ps_r _) (tn))
  rotate_left 1
  refine ⟨by omega,fun j hj=>?_⟩
  rcases Nat.lt_or_ge j k with c | c
  ·exact hlt j c
  ·rw [show j=k by omega]; exact hc.2
 ·have hc:=dand c1
  rw [(sE cC (x:=p) (k:=k) (0,0) hk hlt fun h=>(fun c=>dor c0 ⟨by omega,c⟩)).1 (by omega) hc.2]
  exact PSub.refl _
 ·have hi:=(sE cC (x:=p) (k:=k) (0,0) hk hlt fun h=>(fun c=>dor c0 ⟨by omega,c⟩)).2 fun h c=>dor c1 ⟨by omega,c⟩
  exact zM6 (f:=ptc n) hi (pt_up h1) rfl
end Go.Proofs.YtflobagimodmgaaGreatDoor
set_option maxHeartbeats 1000000
namespace Go.Proofs.YtflobagimodmgaaGreatDoor
open Go.SL Go.RowKit Go.Proofs Tryz
theorem r_up {n m:Nat} {p:Rat} (h:rlen p n) (M:Nat→Prop) (w:World) (us:List Value) (k:(rtc m p).p M w us):(rtc n p).p M w us:=by
 obtain ⟨s,a,d,e2,g⟩:=k
 exact ⟨s,a,d,e2,g.relen h⟩
theorem rA {raw:List Rat} {p:Rat} {n m:Nat} (hm:m≤1900) (hn:n≤1900) (hL:(setOf cmpR raw).length≤100000) (h1:rlen p n):CTy prog 99 [sv (sl 3 ((setOf cmpR raw).map (rtc n))),ag (rtq m p)] (sv (sl 3 ((setOf cmpR (raw ++ [p])).map (rtc n)))):=by
 refine ctc func99 rfl rfl rfl rfl fun X=>(zH (zJ rfl (zA1 (obx rfl) (zA1 (oas rfl) (zA0 (zH (zJ rfl (zA1 (oas rfl) (zA0 ?_)))))))))
 refine zH (zT ?_)
 rotate_left 1
 refine xL (σ:=Nat) (fun k=>[(5,True,exP (.int .i64 ((k:Nat):Int)))]) (fun k=>[]) (fun k=>k≤(setOf cmpR raw).length∧∀ j,j < k→cmpR ((setOf cmpR raw).getD j 0) p < 0) (fun k=>(setOf cmpR raw).length - k) (0) (tk 0 rfl (tk 3 rfl tn)) ?_ rfl (⟨by omega,by omega⟩) (fun k hJ Y _=>?_)
 refine tc rfl (ps_r _) (tn)
 rotate_left 1
 obtain ⟨hk,hlt⟩:=hJ
 refine zH (zH (yR 13 mixed rfl rfl (d1 (omv rfl) (d1 (omv rfl) (d1 (oln rfl) (d1 (olt rfl rfl) (d1 (omv rfl) (d1g rfl rfl (omv rfl) (d1g rfl rfl (omv rfl) ?_)))))))))
 refine d1g rfl rfl (oix _ rfl rfl rfl (fun g=>rfl) (fun g=>(by (simp at g; omega)))) (d1g rfl rfl (old rfl rfl) (d1g rfl rfl (old rfl rfl) (d1g rfl rfl (oca rfl rfl fun g=>zM1 (by omega) (by omega)) (d1g rfl rfl (olt rfl rfl) (d1 (opk rfl rfl rfl) (d0 (zA0 ?_)))))))
 refine t_if rfl (fun c0=>?_) (fun c0=>?_)
 refine yA (zT (zJ rfl (zA1 (omv rfl) (zA1 (oad rfl rfl (by omega)) (zA1 (oas rfl) (zA0 ?_))))))
 rotate_left 1
 refine xN (zH (zH (yR 13 mixed rfl rfl (d1 (omv rfl) (d1 (omv rfl) (d1 (oln rfl) (d1 (olt rfl rfl) (d1 (omv rfl) (d1g rfl rfl (omv rfl) ?_)))))))))
 refine d1g rfl rfl (omv rfl) (d1g rfl rfl (oix _ rfl rfl rfl (fun g=>rfl) (fun g=>(by (simp at g; omega)))) (d1g rfl rfl (old rfl rfl) (d1g rfl rfl (old rfl rfl) (d1g rfl rfl (oca rfl rfl fun g=>zM1 (by omega) (by omega)) (d1g rfl rfl (oeq rfl rfl) (d1 (opk rfl rfl rfl) (d0 (zA0 ?_))))))))
 refine t_if rfl (fun c1=>?_) (fun c1=>?_)
 refine zH (zJ rfl (zA1 (omv rfl) (zA1 (oas rfl) (zA0 (zZ (⟨[_],rst rfl rs0,yN ?_⟩))))))
 rotate_left 1
 refine yA (zH (zJ rfl (tbs0 fun r35=>(zA1 (omv rfl) (zA1 (omv rfl) (zA1 (osl 0 _ rfl rfl ⟨_,_,_,_,rfl,fun _=>trivial,inferInstance,fun _=>rfl⟩ (fun _=>(by omega)) (fun _=>(by (simp; omega)))) (tap 0 rfl rfl rfl (by (simp; omega)) rfl fun r40=>(zA1 (oas rfl) (zA0 ?_)))))))))
 refine zH (zI7 0 9 0 [(4,45,0),(8,49,0)] rfl rfl rfl mixed rfl rfl (cx1 (omv rfl) rfl (cx1 (old rfl rfl) rfl (cx1 (oca rfl rfl fun _=>aN (by omega)) rfl (cx1 (obs rfl rfl rfl rfl rfl rfl) rfl (cB rfl rfl (cap0 rfl rfl (by (simp; omega)) rfl) (cx1 (omv rfl) rfl (cx1 (omv rfl) rfl (cx1 (osl _ _ rfl ⟨_,_,_,_,rfl,fun _=>trivial,inferInstance,fun _=>rfl⟩ (fun _=>rfl) (fun _=>(by (simp; omega))) (fun _=>(by omega))) rfl ?_)))))))))
 refine cA rfl rfl rfl (cap rfl (by (simp; omega)) rfl) ?_
 refine cE (fun r49=>?_)
 refine zA1 (oas rfl) (zA0 (t_ts (cZ (s:=4) 0 rfl rfl) (zZ (⟨[_],rst rfl rs0,yN ?_⟩))))
 rotate_left 1
 ·have hc:=dand c0
  refine ⟨k + 1,tes ?_ ?_ (List.Sublist.refl _),?_,(by omega)⟩
  refine tc rfl (ps_r _) (tn)
  refine tc rfl (ps_r _) (tc rfl (ps_r _) (tn))
  rotate_left 1
  refine ⟨by omega,fun j hj=>?_⟩
  rcases Nat.lt_or_ge j k with c | c
  ·exact hlt j c
  ·rw [show j=k by omega]; exact hc.2
 ·have hc:=dand c1
  rw [(sE fN (x:=p) (k:=k) 0 hk hlt fun h=>(fun c=>dor c0 ⟨by omega,c⟩)).1 (by omega) hc.2]
  exact PSub.refl _
 ·have hi:=(sE fN (x:=p) (k:=k) 0 hk hlt fun h=>(fun c=>dor c0 ⟨by omega,c⟩)).2 fun h c=>dor c1 ⟨by omega,c⟩
  exact zM6 (f:=rtc n) hi (r_up h1) rfl
end Go.Proofs.YtflobagimodmgaaGreatDoor
namespace Go.Proofs.YtflobagimodmgaaGreatDoor
open Go.SL Go.RowKit Go.Proofs Tryz
theorem wI {a b:Rat} (ha:0≤a) (hb:b≤0):a * b≤0:=by have:=Rat.mul_nonneg ha (show 0 ≤ -b by grind); grind
theorem zT1 {x u:Rat} (h:x * (x - u)≤0) (hu:0≤u):0≤x∧x≤u:=by
 constructor
 ·refine Classical.byContradiction fun c=>?_
  have:=Rat.mul_pos (show 0 < -x by grind) (show 0 < u - x by grind); grind
 ·refine Classical.byContradiction fun c=>?_
  have:=Rat.mul_pos (show 0 < x by grind) (show 0 < x - u by grind); grind
theorem rE {x:Rat} (h:x ≠ 0):0 < x * x:=by
 rcases (Rat.le_total:x≤0 ∨ 0≤x) with c | c
 ·have:=Rat.mul_pos (show 0 < -x by grind) (show 0 < -x by grind); grind
 ·exact Rat.mul_pos (by grind) (by grind)
theorem oU (x:Rat):0≤x * x:=by
 by_cases h:x=0
 ·subst h; simp
 ·exact Rat.le_of_lt (rE h)
theorem zY4 {x k:Rat} (h:x * k≤0) (hk:0 < k):x≤0:=Classical.byContradiction fun c=>by
 have:=Rat.mul_pos (show 0 < x by grind) hk; grind
theorem eX {a b p:P2}:onB a b p=true ↔ xR (subP b a) (subP p a)=0∧(p.1 - a.1) * (p.1 - b.1) + (p.2 - a.2) * (p.2 - b.2)≤0:=by
 unfold onB; rw [Bool.and_eq_true,decide_eq_true_eq,decide_eq_true_eq]; rfl
theorem onB_swap {a b p:P2}:onB a b p=true ↔ onB b a p=true:=by
 rw [eX,eX]; unfold xR subP; simp only
 constructor <;> rintro ⟨h1,h2⟩ <;> constructor <;> grind
theorem on_parts {x y u v:Rat} (h1:u * y - v * x=0) (h2:x * (x - u) + y * (y - v)≤0) (h:u ≠ 0 ∨ v ≠ 0):x * (x - u)≤0∧y * (y - v)≤0:=by
 have hk:0 < u * u + v * v:=by
  have:=oU u; have:=oU v
  rcases h with h | h <;> have:=rE h <;> grind
 have e1:x * (x - u) * (u * u + v * v)=(x * (x - u) + y * (y - v)) * (u * u):=by grind
 have e2:y * (y - v) * (u * u + v * v)=(x * (x - u) + y * (y - v)) * (v * v):=by grind
 have k1:=wI (oU u) h2
 have k2:=wI (oU v) h2
 exact ⟨zY4 (k:=u * u + v * v) (by grind) hk,zY4 (k:=u * u + v * v) (by grind) hk⟩
theorem pE {a b p:P2} (hle:leP a b) (h:onB a b p=true):hasP (a,b) p:=by
 obtain ⟨h1,h2⟩:=eX.1 h
 refine ⟨?_,h1⟩
 unfold xR subP at h1; simp only at h1
 unfold kC leP; unfold leP at hle; simp only
 by_cases hz:b.1 - a.1 ≠ 0 ∨ b.2 - a.2 ≠ 0
 ·obtain ⟨k1,k2⟩:=on_parts (x:=p.1 - a.1) (y:=p.2 - a.2) (u:=b.1 - a.1) (v:=b.2 - a.2) (by grind) (by grind) hz
  have b1:=zT1 k1 (by grind)
  by_cases hu:b.1 - a.1=0
  ·have b2:=zT1 k2 (by grind)
   grind
  ·have hu2:0 < b.1 - a.1:=by grind
   rcases (show a.1 < p.1 ∨ p.1=a.1 by grind) with c | c
   ·refine ⟨.inl c,?_⟩
    rcases (show p.1 < b.1 ∨ p.1=b.1 by grind) with d | d
    ·exact .inl d
    ·refine .inr ⟨d,?_⟩
     have:(b.1 - a.1) * (p.2 - b.2)=0:=by rw [d] at h1; grind
     have:=tD this hu; grind
   ·have:(b.1 - a.1) * (p.2 - a.2)=0:=by rw [c] at h1; grind
    have:=tD this hu
    exact ⟨.inr ⟨c.symm,by grind⟩,.inl (by grind)⟩
 ·have e1:b.1=a.1:=by grind
  have e2:b.2=a.2:=by grind
  rw [e1,e2] at h2
  have q1:=oU (p.1 - a.1); have q2:=oU (p.2 - a.2)
  have z1:p.1 - a.1=0:=Classical.byContradiction fun c=>by have:=rE c; grind
  have z2:p.2 - a.2=0:=Classical.byContradiction fun c=>by have:=rE c; grind
  grind
theorem eI {a b p:P2}:onB a b p=true ↔ hasP (uO a b) p:=by
 constructor
 ·intro h
  unfold uO
  split
  ·rename_i c
   exact pE (by have:=mT.1 c; exact (fB a b).resolve_left this) (onB_swap.1 h)
  ·rename_i c
   exact pE (mS.1 (by omega)) h
 ·intro h
  have hb:=has_box h
  obtain ⟨_,hs⟩:=h
  rw [eX]
  have hx:∀ {l h p:Rat},l≤p→p≤h→(p - l) * (p - h)≤0:=fun {l h p} c d=>wI (by grind) (by grind)
  unfold bV uO at *
  split at hb <;> rename_i c
  ·rw [if_pos c] at hs; simp only at hs hb
   refine ⟨by unfold xR subP at *; simp only at *; grind,?_⟩
   have y1:=hx hb.1 hb.2.1
   rcases hb.2.2 with d | d
   ·have:=hx d.1 d.2; grind
   ·have:=hx d.1 d.2; grind
  ·rw [if_neg c] at hs; simp only at hs hb
   refine ⟨hs,?_⟩
   have y1:=hx hb.1 hb.2.1
   rcases hb.2.2 with d | d
   ·have:=hx d.1 d.2; grind
   ·have:=hx d.1 d.2; grind
def zN4 (a b c d:P2):List P2:=[a,b,c,d].filter fun p=>onB a b p && onB c d p
noncomputable def endS (a b c d:P2):List P2:=setOf cmpP (zN4 a b c d)
noncomputable def segR (a b c d:P2):Mt :=
 if 2≤(endS a b c d).length then (2,(endS a b c d).getD 0 (0,0),(endS a b c d).getD ((endS a b c d).length - 1) (0,0))
 else if (endS a b c d).length=1 then (1,(endS a b c d).getD 0 (0,0),(endS a b c d).getD 0 (0,0))
 else if jO a b c d∧onB a b (jV a b c d)=true∧onB c d (jV a b c d)=true then (1,jV a b c d,jV a b c d) else zL4
theorem ends_mem {a b c d p:P2}:p ∈ endS a b c d ↔ p ∈ [a,b,c,d]∧hasP (uO a b) p∧hasP (uO c d) p:=by
 unfold endS zN4; rw [setOf_mem cC,List.mem_filter,Bool.and_eq_true,eI,eI]
theorem zN0 (a b:P2):(uO a b).1 ∈ [a,b]∧(uO a b).2 ∈ [a,b]:=by unfold uO; split <;> simp
theorem lo_in (a b c d:P2):loP (uO a b) (uO c d) ∈ [a,b,c,d]∧hiP (uO a b) (uO c d) ∈ [a,b,c,d]:=by
 have h1:=zN0 a b; have h2:=zN0 c d
 simp only [List.mem_cons,List.not_mem_nil,or_false] at h1 h2 ⊢
 unfold loP hiP
 constructor
 ·split
  ·rcases h2.1 with e | e <;> rw [e] <;> simp
  ·rcases h1.1 with e | e <;> rw [e] <;> simp
 ·split
  ·rcases h2.2 with e | e <;> rw [e] <;> simp
  ·rcases h1.2 with e | e <;> rw [e] <;> simp
theorem meets_cases (s t:P2 × P2):xE s t=zL4 ∨ ((xE s t).1 ≠ 0∧(xE s t).2=(loP s t,hiP s t)) ∨ jO s.1 s.2 t.1 t.2∧xE s t=(1,jV s.1 s.2 t.1 t.2,jV s.1 s.2 t.1 t.2):=by
 unfold xE
 split
 ·exact .inl rfl
 ·split
  ·refine .inr (.inl ⟨?_,rfl⟩); dsimp only; split <;> decide
  ·split
   ·rename_i h; exact .inr (.inr ⟨h.1,rfl⟩)
   ·exact .inl rfl
theorem segR_eq (a b c d:P2):segR a b c d=sY a b c d:=by
 unfold sY
 obtain ⟨s,hs⟩:∃ s,s=uO a b:=⟨_,rfl⟩
 obtain ⟨t,ht⟩:∃ t,t=uO c d:=⟨_,rfl⟩
 have hmem:∀ p,p ∈ endS a b c d ↔ p ∈ [a,b,c,d]∧hasP s p∧hasP t p:=fun p=>by rw [hs,ht]; exact ends_mem
 have hli:=lo_in a b c d
 have hon:∀ {p},(jO a b c d→hasP s p∧hasP t p→p=jV a b c d):=fun {p} ho hp=>by
  have k:=oC ho
  refine oB ho ?_ ?_ k.1 k.2
  ·have:=(eX.1 (eI.2 (by rw [← hs]; exact hp.1))).1; exact this
  ·have:=(eX.1 (eI.2 (by rw [← ht]; exact hp.2))).1; exact this
 have hok:jO s.1 s.2 t.1 t.2→jO a b c d:=fun h=>by
  rw [hs,ht] at h; unfold uO at h; unfold jO xR subP at *
  split at h <;> split at h <;> (simp only at h ⊢; grind)
 rw [← hs,← ht] at hli ⊢
 rcases meets_cases s t with h0 | ⟨hk,h2⟩ | ⟨ho,h1⟩
 ·have hno:∀ p,¬ (hasP s p∧hasP t p):=fun p hp=>(lI hp.1 hp.2).1 (by rw [h0]; rfl)
  have hE:endS a b c d=[]:=List.eq_nil_iff_forall_not_mem.2 fun p hp=>hno p ((hmem p).1 hp).2
  unfold segR; rw [hE,h0]
  rw [if_neg (by simp),if_neg (by simp),if_neg fun c=>hno _ ⟨by rw [hs]; exact eI.1 c.2.1,by rw [ht]; exact eI.1 c.2.2⟩]
 ·have hm:=tS hk
  rw [h2] at hm
  have hA:loP s t ∈ endS a b c d:=(hmem _).2 ⟨hli.1,hm.1,hm.2.1⟩
  have hB:hiP s t ∈ endS a b c d:=(hmem _).2 ⟨hli.2,hm.2.2.1,hm.2.2.2⟩
  have hbt:∀ p ∈ endS a b c d,leP (loP s t) p∧leP p (hiP s t):=fun p hp=>by
   have:=(lI ((hmem p).1 hp).2.1 ((hmem p).1 hp).2.2).2.2.2.2.2.1
   rw [h2] at this; exact this.1
  have h12:=lI hm.1 hm.2.1
  have hr:=List.pairwise_iff_getElem.1 (uT cC (zN4 a b c d)).rise
  unfold segR
  change ∀ (i j:Nat) (hi:i < (endS a b c d).length) (hj:j < (endS a b c d).length),i < j→cmpP (endS a b c d)[i] (endS a b c d)[j] < 0 at hr
  generalize endS a b c d=E at *
  have hg:∀ {j} (hj:j < E.length),E.getD j (0,0)=E[j]:=fun {j} hj=>by rw [List.getD_eq_getElem?_getD,List.getElem?_eq_getElem hj]; rfl
  have hpos:0 < E.length:=List.length_pos_of_mem hA
  have e0:E.getD 0 (0,0)=loP s t:=by
   obtain ⟨j,hj,e⟩:=List.mem_iff_getElem.1 hA
   rw [hg hpos]
   have k1:=(hbt _ (List.getElem_mem hpos)).1
   rcases Nat.eq_zero_or_pos j with c | c
   ·subst c; exact e
   ·have:=fF.1 (hr 0 j hpos hj c); rw [e] at this; exact absurd k1 this
  have e1:E.getD (E.length - 1) (0,0)=hiP s t:=by
   obtain ⟨j,hj,e⟩:=List.mem_iff_getElem.1 hB
   rw [hg (by omega)]
   have k1:=(hbt _ (List.getElem_mem (show E.length - 1 < E.length by omega))).2
   rcases Nat.lt_or_ge j (E.length - 1) with c | c
   ·have:=fF.1 (hr j (E.length - 1) hj (by omega) c); rw [e] at this; exact absurd k1 this
   ·have:j=E.length - 1:=by omega
    subst this; exact e
  have hme:∀ k:Int,(xE s t).1=k→xE s t=(k,loP s t,hiP s t):=fun k h=>by rw [← h,← h2]
  have hiff:=h12.2.2.2.2.2.2.2.2
  have hor:=h12.2.2.2.2.2.2.2.1
  rw [h2] at hiff
  dsimp only at hiff
  by_cases he:loP s t=hiP s t
  ·have hl:¬ 2≤E.length:=fun c=>by
    have:=hr 0 (E.length - 1) hpos (by omega) (by omega)
    rw [← hg hpos,← hg (by omega),e0,e1,he] at this
    exact vJ _ this
   rw [if_neg hl,if_pos (by omega),hme 1 (hiff.2 he),e0,← he]
  ·have hl:2≤E.length:=by
    rcases Nat.lt_or_ge 1 E.length with c | c
    ·exact c
    ·have:E.length - 1=0:=by omega
     rw [this,e0] at e1; exact absurd e1 he
   rw [if_pos hl,hme 2 (hor.resolve_left fun c=>he (hiff.1 c)),e0,e1]
 ·have hk:(xE s t).1 ≠ 0:=by rw [h1]; exact (by decide:(1:Int) ≠ 0)
  have hm:=tS hk
  rw [h1] at hm
  have ho':=hok ho
  have hL:=hon ho' ⟨hm.1,hm.2.1⟩
  dsimp only at hL
  have hE:∀ p ∈ endS a b c d,p=jV a b c d:=fun p hp=>hon ho' ((hmem p).1 hp).2
  have hr:=List.pairwise_iff_getElem.1 (uT cC (zN4 a b c d)).rise
  unfold segR
  change ∀ (i j:Nat) (hi:i < (endS a b c d).length) (hj:j < (endS a b c d).length),i < j→cmpP (endS a b c d)[i] (endS a b c d)[j] < 0 at hr
  rw [h1,hL]
  generalize endS a b c d=E at *
  have hl:¬ 2≤E.length:=fun c=>by
   have:=hr 0 1 (by omega) (by omega) (by omega)
   rw [hE _ (List.getElem_mem (by omega)),hE _ (List.getElem_mem (by omega))] at this
   exact vJ _ this
  rw [if_neg hl]
  by_cases h0:E.length=1
  ·rw [if_pos h0,List.getD_eq_getElem?_getD,List.getElem?_eq_getElem (show 0 < E.length by omega),Option.getD_some,hE _ (List.getElem_mem _)]
  ·rw [if_neg h0,if_pos ⟨ho',eI.2 (by rw [← hs,← hL]; exact hm.1),eI.2 (by rw [← ht,← hL]; exact hm.2.1)⟩]
end Go.Proofs.YtflobagimodmgaaGreatDoor
set_option maxHeartbeats 1000000
namespace Go.Proofs.YtflobagimodmgaaGreatDoor
open Go.SL Go.RowKit Go.Proofs Tryz
theorem ps_nil {k:Nat}:PSub (exP (.slice none 0 0)) (sv (sl k [])):=fun M w v h=>by
 obtain rfl:v=_:=h
 exact ⟨_,[],rfl,mJ,rfl,fun _ h=>by cases h⟩
theorem oX {α:Type} {cf:α→α→Int} (h:COrd cf):setOf cf ([]:List α)=[]:=List.eq_nil_of_length_eq_zero (by have:=kO h ([]:List α); simpa using this)
theorem rM {α:Type} {cf:α→α→Int} (h:COrd cf) {k:Nat} {f:α→CT} {l:List α} (hl:l=[]):PSub (exP (.slice none 0 0)) (sv (sl k ((setOf cf l).map f))):=by
 subst hl; rw [oX h]; exact ps_nil
theorem iJ {α:Type} [Df α] {l:List α} {i:Nat} (h:i < l.length):l.getD i Df.d ∈ l:=by rw [List.getD_eq_getElem?_getD,List.getElem?_eq_getElem h]; exact List.getElem_mem h
theorem k10ends {a b c d:P2} (hr:∀ p ∈ [a,b,c,d],rlen p.1 2∧rlen p.2 2):CTy prog 204 [ag (ptq 1 a),ag (ptq 1 b),ag (ptq 1 c),ag (ptq 1 d)] (sv (sl 6 ((endS a b c d).map (ptc 2)))):=by
 refine ctc func204 rfl rfl rfl rfl fun X=>(zH (zJ rfl (zA1 (obx rfl) (zA1 (obx rfl) (zA1 (obx rfl) (zA1 (obx rfl) (zA1 (oas rfl) (zA0 (zH ?_)))))))))
 refine zJ rfl (zA1 (oas rfl) (zA0 (zH (zJ rfl (zA1 (old rfl rfl) (zA1 (old rfl rfl) (zA1 (old rfl rfl) (zA1 (old rfl rfl) (zA1 (obs rfl rfl rfl rfl rfl rfl) ?_)))))))))
 refine zA1 (oas rfl) (zA0 (zH (zH (zJ rfl (zA1 (oas rfl) (zA0 (zT ?_)))))))
 rotate_left 1
 refine t_ts (zQ5 (s:=10) rfl (ps_p (show _=sv (sl 6 ([a,b,c,d].map (ptq 1))) from rfl))) ?_
 refine xL (σ:=Nat) (fun i=>[(9,True,sv (sl 6 ((setOf cmpP (([a,b,c,d].take i).filter fun p=>onB a b p && onB c d p)).map (ptc 2)))),(11,True,exP (.int .i64 ((i:Nat):Int)))]) (fun i=>[]) (fun i=>i≤4) (fun i=>4 - i) (0) (tk 4 rfl (tk 5 rfl (tk 6 rfl (tk 7 rfl (tk 10 rfl tn))))) ?_ rfl ((by omega)) (fun i hJ Y _=>?_)
 refine tc rfl ?_ ?_
 rotate_left 1
 refine tc rfl (ps_r _) (tn)
 rotate_left 1
 ·exact rM cC rfl
 refine zH (zH (zJ rfl (zA1 (omv rfl) (zA1 (olt rfl rfl) (zA0 ?_)))))
 refine t_if rfl (fun c0=>?_) (fun c0=>?_)
 refine yA (zH (zT (zH (yR 16 mixed rfl rfl (d1 (old rfl rfl) (d1 (old rfl rfl) (d1 (omv rfl) (d1 (omv rfl) (d1 (oix _ rfl rfl rfl (fun _=>rfl) (fun _=>(by (have e0:=dt c0; simp; omega)))) ?_)))))))))
 refine d1 (old rfl rfl) (d1 (oca rfl rfl fun _=>zM4 (by omega)) (d1 (omv rfl) (d1g rfl rfl (old rfl rfl) (d1g rfl rfl (old rfl rfl) (d1g rfl rfl (omv rfl) (d1g rfl rfl (omv rfl) (d1g rfl rfl (oix _ rfl rfl rfl (fun g=>rfl) (fun g=>(by (have e0:=dt c0; simp; omega)))) (d1g rfl rfl (old rfl rfl) (d1g rfl rfl (oca rfl rfl fun g=>zM4 (by omega)) ?_)))))))))
 refine d1 (opk rfl rfl rfl) (d0 (zA0 ?_))
 refine t_if rfl (fun c1=>?_) (fun c1=>?_)
 refine zJ rfl (zA1 (omv rfl) (zA1 (omv rfl) (zA1 (omv rfl) (zA1 (oix _ rfl rfl rfl (fun _=>rfl) (fun _=>(by (have e0:=dt c0; simp; omega)))) (zA1 (old rfl rfl) ?_)))))
 refine zA1 (oca rfl rfl fun _=>zV0 (by omega) (by omega) ?_ ?_) ?_
 rotate_left 1
 rotate_left 1
 refine zA1 (oas rfl) (zA0 (zJ rfl (zA1 (omv rfl) (zA1 (oad rfl rfl (by omega)) (zA1 (oas rfl) (zA0 ?_))))))
 rotate_left 1
 refine yA (zJ rfl (zA1 (omv rfl) (zA1 (oad rfl rfl (by omega)) (zA1 (oas rfl) (zA0 ?_)))))
 rotate_left 1
 refine xN (zH (zJ rfl (zA1 (omv rfl) (zA1 (oas rfl) (zA0 (zZ (⟨[_],rst rfl rs0,yN ?_⟩)))))))
 rotate_left 1
 ·exact Nat.le_trans (kO cC _) (Nat.le_trans (List.length_filter_le _ _) (by rw [List.length_take]; simp; omega))
 ·exact hr _ (iJ (by have:=dt c0; simp; omega))
 ·have hi:=dt c0
  refine ⟨i + 1,tes ?_ ?_ (List.Sublist.refl _),(by omega),(by omega)⟩
  refine tc rfl ?_ ?_
  rotate_left 1
  refine tc rfl (ps_r _) (tn)
  refine tc rfl (ps_r _) (tc rfl (ps_r _) (tc rfl (ps_r _) (tc rfl (ps_r _) (tc rfl (ps_r _) (tn)))))
  have hc:(onB a b ([a,b,c,d].getD i Df.d) && onB c d ([a,b,c,d].getD i Df.d))=true:=c1.h
  rw [(yZ (Df.d:P2) (l:=[a,b,c,d]) (s:=i) (by simp; omega)).1,List.filter_append,show List.filter (fun p=>onB a b p && onB c d p) [[a,b,c,d].getD i Df.d]=[[a,b,c,d].getD i Df.d] from by rw [List.filter_cons,if_pos hc]; rfl]
  exact PSub.refl _
 ·have hi:=dt c0
  refine ⟨i + 1,tes ?_ ?_ (List.Sublist.refl _),(by omega),(by omega)⟩
  refine tc rfl ?_ ?_
  rotate_left 1
  refine tc rfl (ps_r _) (tn)
  refine tc rfl (ps_r _) (tc rfl (ps_r _) (tc rfl (ps_r _) (tc rfl (ps_r _) (tc rfl (ps_r _) (tn)))))
  have hc:(onB a b ([a,b,c,d].getD i Df.d) && onB c d ([a,b,c,d].getD i Df.d))=false:=c1.h
  rw [(yZ (Df.d:P2) (l:=[a,b,c,d]) (s:=i) (by simp; omega)).1,List.filter_append,show List.filter (fun p=>onB a b p && onB c d p) [[a,b,c,d].getD i Df.d]=[] from by rw [List.filter_cons,if_neg (by rw [hc]; exact Bool.false_ne_true)]; rfl,List.append_nil]
  exact PSub.refl _
 ·have hi:=df c0
  rw [show i=4 by omega]
  exact PSub.refl _
abbrev zMt:Value:=.agg #[.int .i8 0,.bool false,.slice none 0 0,.slice none 0 0,.bool false,.slice none 0 0,.slice none 0 0,.bool false,.slice none 0 0,.slice none 0 0,.bool false,.slice none 0 0,.slice none 0 0]
theorem upd6 {u v:List Value} (h1:u.length=6) (h2:v.length=6):updC zMt.cells.toList [(1,u),(7,v)] = .int .i8 0 :: (u ++ v):=by
 match u,v,h1,h2 with
 | [_,_,_,_,_,_],[_,_,_,_,_,_],_,_=>rfl
theorem obzm {P:Program} {r:Option Nat} {N:Nat} {ops:Array Oper} {M:Nat→Prop} {S:List Ow} {p q:Prop} {Γ:TE} {d:Nat} {t t':TypeId} {pos:String} {af:Array Edge} {x y:Operand} {τs:List PV} {c1 c2:CT} (hx:tvs Γ [x,y]=some (q,τs)) [hi:Im p q] [ht:TPl P t [1,6,6]] [hc:CtL τs [c1,c2]] [tz:TZ P t zMt] (h1:c1.sz=6) (h2:c2.sz=6) :
  Ob P r N ops M S p ⟨some d,.build t #[(1,x),(2,y)],t',pos,af,none⟩ Γ (ag (st [xc (.int .i8 0),c1,c2])):=fun D E w d' hd hN hg hp' hT=>by
 obtain rfl:=Option.some.inj hd
 obtain ⟨vs,e1,k1⟩:=cI hT hx (hi.h hp') fun x hx=>bT (by simpa [Op.operands] using hx)
 obtain ⟨uss,g1,g2,g3⟩:=hc.h k1
 obtain ⟨sz,bytes,hz⟩:=tz.s
 obtain ⟨u1,u2,rfl⟩:∃ u1 u2,uss=[u1,u2]:=by
  have h3:=congrArg List.length g3
  match uss,h3 with
  | [u1,u2],_=>exact ⟨_,_,rfl⟩
 have l1:u1.length=6:=by simp at g3; omega
 have l2:u2.length=6:=by simp at g3; omega
 refine qU (zs:=zMt.cells.toList) hN ht.h hz (by simpa using e1) g1 (by simp [l1,l2]; exact ⟨by decide,by decide⟩) rfl (fin ⟨_,rfl,?_⟩)
 rw [show ((([(1,x),(2,y)]:List (Nat × Operand)).map (·.1)).map fun i=>(([1,6,6]:List Nat).take i).sum).zip [u1,u2]=[(1,u1),(7,u2)] from rfl,upd6 l1 l2]
 exact ⟨[.int .i8 0],u1 ++ u2,rfl,⟨rfl,rfl⟩,by simpa using g2⟩
theorem ends_len (a b c d:P2):(endS a b c d).length≤4:=Nat.le_trans (kO cC _) (List.length_filter_le _ _)
theorem k10segs {a b c d:P2} (hr:∀ p ∈ [a,b,c,d],rlen p.1 2∧rlen p.2 2):CTy prog 152 [ag (ptq 1 a),ag (ptq 1 b),ag (ptq 1 c),ag (ptq 1 d)] (ag (mtc 348 (sY a b c d))):=by
 have hs:=segR_eq a b c d
 unfold segR at hs
 have hl:(endS a b c d).length≤4:=ends_len a b c d
 refine ctc func152 rfl rfl rfl rfl fun X=>(zH (zJ rfl (zA1 (obx rfl) (zA1 (obx rfl) (zA1 (obx rfl) (zA1 (obx rfl) (tal fun b8=>(zA0 (zH ?_)))))))))
 refine zJ rfl (zA1 (old rfl rfl) (zA1 (old rfl rfl) (zA1 (old rfl rfl) (zA1 (old rfl rfl) (zA1 (oca rfl rfl fun _=>k10ends (by omega)) (zA1 (oas rfl) (zA0 (zH (zH ?_)))))))))
 refine zJ rfl (zA1 (omv rfl) (zA1 (oln rfl) (zA1 (oge rfl rfl) (zA0 ?_))))
 refine t_if rfl (fun c0=>?_) (fun c0=>?_)
 refine zH (yR 10 mixed rfl rfl (d1 (omv rfl) (d1 (oix _ rfl rfl rfl (fun _=>rfl) (fun _=>(by (have e0:=dt c0; simp; omega)))) (d1 (old rfl rfl) (d1 (omv rfl) (d1 (omv rfl) (d1 (oln rfl) (d1 (osb rfl rfl (by omega)) (d1 (oix ((endS a b c d).length - 1) rfl rfl rfl (fun _=>(by (have e0:=dt c0; omega))) (fun _=>(by (have e0:=dt c0; omega)))) ?_)))))))))
 refine d1 (old rfl rfl) ?_
 refine d1 (obd rfl rfl rfl) (d0 (tst 0 rfl rfl rfl rfl rfl rfl (zA0 (zZ (⟨[_],rsc 0 rfl rfl rfl rfl rs0,yN ?_⟩)))))
 rotate_left 1
 refine yA (zH (zH (zJ rfl (zA1 (omv rfl) (zA1 (oln rfl) (zA1 (oeq rfl rfl) (zA0 ?_)))))))
 refine t_if rfl (fun c1=>?_) (fun c1=>?_)
 refine zH (yR 7 mixed rfl rfl (d1 (omv rfl) (d1 (oix _ rfl rfl rfl (fun _=>rfl) (fun _=>(by (have e0:=dt c1; simp; omega)))) (d1 (old rfl rfl) (d1 (omv rfl) (d1 (oix _ rfl rfl rfl (fun _=>rfl) (fun _=>(by (have e0:=dt c1; simp; omega)))) (d1 (old rfl rfl) ?_)))))))
 refine d1 (obd rfl rfl rfl) (d0 (tst 0 rfl rfl rfl rfl rfl rfl (zA0 (zZ (⟨[_],rsc 0 rfl rfl rfl rfl rs0,yN ?_⟩)))))
 rotate_left 1
 refine yA (zH (zJ rfl (zA1 (old rfl rfl) (zA1 (old rfl rfl) (zA1 (old rfl rfl) (zA1 (old rfl rfl) (zA1 (oca rfl rfl fun _=>k10lines) (zA1 (omv rfl) (zA1 (oex rfl rfl) ?_)))))))))
 refine zA1 (oex rfl rfl) (tal fun b10=>(tst 0 rfl rfl rfl rfl rfl rfl (qE (gC (s:=10) 0 rfl rfl) (zA1 (oas rfl) (zA0 (zH (zH (zJ rfl (zA1 (omv rfl) ?_)))))))))
 refine zA1 (omv rfl) (t1g rfl rfl (old rfl rfl) (t1g rfl rfl (old rfl rfl) (t1g rfl rfl (old rfl rfl) (t1g rfl rfl (oca rfl rfl fun g=>zM4 (by omega)) (zA1 (opk rfl rfl rfl) (zA1 (omv rfl) (t1g rfl rfl (old rfl rfl) (t1g rfl rfl (old rfl rfl) (t1g rfl rfl (old rfl rfl) ?_)))))))))
 refine t1g rfl rfl (oca rfl rfl fun g=>zM4 (by omega)) (zA1 (opk rfl rfl rfl) (zA0 ?_))
 refine t_if rfl (fun c2=>?_) (fun c2=>?_)
 refine zH (zJ rfl (zA1 (old rfl rfl) (zA1 (old rfl rfl) ?_)))
 refine zA1 (obd rfl rfl rfl) (tst 0 rfl rfl rfl rfl rfl rfl (zA0 (zZ (⟨[_],rsc 0 rfl rfl rfl rfl rs0,yN ?_⟩))))
 rotate_left 1
 refine yA (zH (zJ rfl (zA1 (oca rfl rfl fun _=>k8of (k:=0) (l:=0) (by omega) (by omega)) (zA1 (oca rfl rfl fun _=>k8of (k:=0) (l:=0) (by omega) (by omega)) (zA1 (obzm rfl rfl rfl) (tst 0 rfl rfl rfl rfl rfl rfl (zA0 (zZ (⟨[_],rsc 0 rfl rfl rfl rfl rs0,yN ?_⟩)))))))))
 rotate_left 1
 ·exact iA (by rw [← hs,if_pos (by have:=dt c0; omega)]; rfl) (by omega) (by omega)
 ·exact iA (by rw [← hs,if_neg (by have:=df c0; omega),if_pos (by have:=dt c1; omega)]; rfl) (by omega) (by omega)
 ·have h2:=c2.h
  rw [Bool.and_eq_true,Bool.and_eq_true,decide_eq_true_eq] at h2
  exact iA (by rw [← hs,if_neg (by have:=df c0; omega),if_neg (by have:=df c1; omega),if_pos ⟨h2.1.1,h2.1.2,h2.2⟩]) (by omega) (by omega)
 ·have h2:=c2.h
  rw [Bool.and_eq_false_iff,Bool.and_eq_false_iff,decide_eq_false_iff_not] at h2
  have hn:¬ (jO a b c d∧onB a b (jV a b c d)=true∧onB c d (jV a b c d)=true):=fun ⟨k1,k2,k3⟩=>by
   rcases h2 with (h | h) | h
   ·exact h k1
   ·rw [show onB a b (jV a b c d)=false from h] at k2; cases k2
   ·rw [show onB c d (jV a b c d)=false from h] at k3; cases k3
  refine iA (a:=2) (b:=2) (x:=(((0:Nat):Rat),((0:Nat):Rat))) (y:=(((0:Nat):Rat),((0:Nat):Rat))) ?_ (by omega) (by omega)
  rw [← hs,if_neg (by have:=df c0; omega),if_neg (by have:=df c1; omega),if_neg hn]
  rfl
end Go.Proofs.YtflobagimodmgaaGreatDoor
set_option maxHeartbeats 4000000
namespace Go.Proofs.YtflobagimodmgaaGreatDoor
open Go.SL Go.RowKit Go.Proofs Tryz
theorem zM3 {raw:List P2} {p:P2} (hL:(setOf cmpP raw).length≤100000):CTy prog 87 [sv (sl 6 ((setOf cmpP raw).map (ptc 349))),ag (ptc 348 p)] (sv (sl 6 ((setOf cmpP (raw ++ [p])).map (ptc 349)))) :=
 ⟨(bo func87),fun M w vs hM hT hv=>by
  have h0:=hv
  obtain ⟨v,us,rfl,k1,u,us2,rfl,k2,k3⟩:=hv
  obtain ⟨s1,a1,d1,zA1,a2,d2,e1,g1⟩:=QP.h (Ψ:=ag (ptc 348 p)) k2
  exact (zV0 (m:=348) (by omega) (by omega) hL ⟨g1.x.rlen,g1.y.rlen⟩).run M w _ hM hT ((fs1 (PSub.refl _) (fs1 qp_q fs0)) _ _ _ h0)⟩
theorem k22putc {raw:List Rat} {p:Rat} (hL:(setOf cmpR raw).length≤100000):CTy prog 99 [sv (sl 3 ((setOf cmpR raw).map (rtc 350))),ag (rtc 349 p)] (sv (sl 3 ((setOf cmpR (raw ++ [p])).map (rtc 350)))) :=
 ⟨(bo func99),fun M w vs hM hT hv=>by
  have h0:=hv
  obtain ⟨v,us,rfl,k1,u,us2,rfl,k2,k3⟩:=hv
  obtain ⟨s1,a1,d1,e1,g1⟩:=QR.h (Ψ:=ag (rtc 349 p)) k2
  exact (rA (m:=349) (by omega) (by omega) hL g1.rlen).run M w _ hM hT ((fs1 (PSub.refl _) (fs1 qr_q fs0)) _ _ _ h0)⟩
theorem k22put0 {p:Rat} {n:Nat} (hn:n≤1900) (h1:rlen p n):CTy prog 99 [exP (.slice none 0 0),ag (rtq 1 p)] (sv (sl 3 ((setOf cmpR [p]).map (rtc n)))) :=
 gF (rA (raw:=[]) (m:=1) (by omega) hn (by rw [oX fN]; simp) h1) (fs1 (rM fN rfl) (fs1 (PSub.refl _) fs0))
theorem k10all {p q:List P2} (hp:p.length≤7) (hq:q.length≤7) (hr:∀ x ∈ p,rlen x.1 2∧rlen x.2 2) (hs:∀ x ∈ q,rlen x.1 2∧rlen x.2 2):CTy prog 100 [sv (pcs 1 p),sv (pcs 1 q)] (sv (sl 6 ((allOf p q).map (ptc 349)))):=by
 refine ctc func100 rfl rfl rfl rfl fun X=>(zH (zJ rfl (zA1 (oas rfl) (zA0 (zH (zJ rfl (zA1 (oas rfl) (zA0 (zH ?_)))))))))
 refine zH (zJ rfl (zA1 (oas rfl) (zA0 (zT ?_))))
 rotate_left 1
 refine xL (σ:=Nat) (fun i=>[(5,True,sv (sl 6 ((setOf cmpP (rawL ((xP p).take i) (xP q))).map (ptc 349)))),(6,True,exP (.int .i64 ((i:Nat):Int)))]) (fun i=>[]) (fun i=>i≤p.length) (fun i=>p.length - i) (0) (tk 0 rfl (tk 1 rfl tn)) ?_ rfl ((by omega)) (fun i hJ Y _=>?_)
 refine tc rfl ?_ ?_
 rotate_left 1
 refine tc rfl (ps_r _) (tn)
 rotate_left 1
 ·exact rM cC (by simp [rawL])
 refine zH (zH (zJ rfl (zA1 (omv rfl) (zA1 (omv rfl) (zA1 (oln rfl) (zA1 (olt rfl rfl) (zA0 ?_)))))))
 refine t_if rfl (fun c0=>?_) (fun c0=>?_)
 refine yA (zH (zT (zH (zJ rfl (zA1 (oas rfl) (zA0 (zT ?_)))))))
 rotate_left 1
 refine xN (zH (zJ rfl (zA1 (omv rfl) (zA1 (oas rfl) (zA0 (zZ (⟨[_],rst rfl rs0,yN ?_⟩)))))))
 rotate_left 1
 ·refine xL (σ:=Nat) (fun k=>[(5,True,sv (sl 6 ((setOf cmpP (rawL ((xP p).take i) (xP q) ++ ((xP q).take k).flatMap fun t=>qS (xE (bZ p i) t))).map (ptc 349)))),(7,True,exP (.int .i64 ((k:Nat):Int)))]) (fun k=>[]) (fun k=>k≤q.length) (fun k=>q.length - k) (0) (tk 0 rfl (tk 1 rfl (tk 6 rfl tn))) ?_ rfl ((by omega)) (fun k hJ Y _=>?_)
  refine tc rfl ?_ ?_
  rotate_left 1
  refine tc rfl (ps_r _) (tn)
  rotate_left 1
  ·rw [List.take_zero,List.flatMap_nil,List.append_nil]; exact PSub.refl _
  have hlen:∀ r:List P2,r.length≤4→(setOf cmpP (rawL ((xP p).take i) (xP q) ++ (((xP q).take k).flatMap fun t=>qS (xE (bZ p i) t)) ++ r)).length≤100000:=fun r hr4=>by
   refine Nat.le_trans (kO cC _) ?_
   have h1:=eD (xP q) ((xP p).take i)
   have h2:=hC (bZ p i) ((xP q).take k)
   rw [List.length_take,gL] at h2
   rw [List.length_take,gL,gL] at h1
   have h3:2 * q.length * min i p.length≤2 * 7 * 7:=Nat.mul_le_mul (by omega) (by omega)
   rw [List.length_append,List.length_append]; omega
  have hpk:∀ {l:List P2} {j:Nat},j < l.length→(∀ x ∈ l,rlen x.1 2∧rlen x.2 2)→rlen (l.getD j Df.d).1 2∧rlen (l.getD j Df.d).2 2:=fun {l j} hj h=>h _ (iJ hj)
  refine zH (zH (zJ rfl (zA1 (omv rfl) (zA1 (omv rfl) (zA1 (oln rfl) (zA1 (olt rfl rfl) (zA0 ?_)))))))
  refine t_if rfl (fun c1=>?_) (fun c1=>?_)
  refine yA (zH (zT (zH ?_)))
  apply uQ 1 27 26 [(25,8,0),(26,1000026,0)] rfl rfl mixed rfl rfl rfl
  refine cx1 (omv rfl) rfl (cx1 (omv rfl) rfl (cx1 (oix _ rfl rfl rfl (fun _=>rfl) (fun _=>(by (have e0:=dt c0; have e1:=dt c1; omega)))) rfl (cx1 (old rfl rfl) rfl (cx1 (omv rfl) rfl (cx1 (omv rfl) rfl (cx1 (oad rfl rfl (by omega)) rfl (cx1 (omv rfl) rfl (cx1 (oln rfl) rfl (cx1 (orm rfl rfl (by (have e0:=dt c0; have e1:=dt c1; omega))) rfl ?_)))))))))
  refine cx1 (oix _ rfl rfl rfl (fun _=>rfl) (fun _=>?_)) rfl ?_
  rotate_left 1
  refine cx1 (old rfl rfl) rfl (cx1 (omv rfl) rfl (cx1 (omv rfl) rfl (cx1 (oix _ rfl rfl rfl (fun _=>rfl) (fun _=>(by (have e0:=dt c1; omega)))) rfl (cx1 (old rfl rfl) rfl (cx1 (omv rfl) rfl (cx1 (omv rfl) rfl (cx1 (oad rfl rfl (by omega)) rfl (cx1 (omv rfl) rfl (cx1 (oln rfl) rfl ?_)))))))))
  refine cx1 (orm rfl rfl (by (have e0:=dt c1; omega))) rfl ?_
  refine cx1 (oix _ rfl rfl rfl (fun _=>rfl) (fun _=>?_)) rfl ?_
  rotate_left 1
  refine cx1 (old rfl rfl) rfl ?_
  refine cx1 (oca rfl rfl fun _=>k10segs ?_) rfl ?_
  rotate_left 1
  refine cN rfl rfl (cal) (cS rfl rfl rfl (cst rfl rfl rfl) ?_)
  refine cE (fun b8=>?_)
  refine qE (gC (s:=8) 0 rfl rfl) (zA0 (zH (zJ rfl (zA1 (ofa rfl rfl) (zA1 (old rfl rfl) (zA1 (oni rfl rfl) (zA0 ?_)))))))
  refine t_if rfl (fun c2=>?_) (fun c2=>?_)
  refine yR 8 mixed rfl rfl (d1 (omv rfl) (d1 (ofa rfl rfl) (d1 (old rfl rfl) ?_)))
  refine d1 (oca rfl rfl fun _=>zM3 ?_) ?_
  rotate_left 1
  refine d1 (ofa rfl rfl) (d1 (old rfl rfl) ?_)
  refine d1 (oca rfl rfl fun _=>zM3 ?_) ?_
  rotate_left 1
  refine d1 (oas rfl) (d0 (zA0 (zJ rfl (zA1 (omv rfl) (zA1 (oad rfl rfl (by omega)) (zA1 (oas rfl) (zA0 ?_)))))))
  rotate_left 1
  refine yA (zJ rfl (zA1 (omv rfl) (zA1 (oad rfl rfl (by omega)) (zA1 (oas rfl) (zA0 ?_)))))
  rotate_left 1
  refine xN (zJ rfl (zA1 (omv rfl) (zA1 (oad rfl rfl (by omega)) (zA1 (oas rfl) (zA0 ?_)))))
  rotate_left 1
  ·rw [Int.natAbs_natCast]; exact Nat.mod_lt _ (by have:=dt c0; omega)
  ·rw [Int.natAbs_natCast]; exact Nat.mod_lt _ (by have:=dt c1; omega)
  ·have h0:=dt c0; have h1:=dt c1
   intro x hx
   simp only [List.mem_cons,List.not_mem_nil,or_false,Int.natAbs_natCast] at hx
   rcases hx with rfl | rfl | rfl | rfl
   ·exact hpk (by omega) hr
   ·exact hpk (Nat.mod_lt _ (by omega)) hr
   ·exact hpk (by omega) hs
   ·exact hpk (Nat.mod_lt _ (by omega)) hs
  ·have:=hlen [] (by simp); rwa [List.append_nil] at this
  ·exact hlen [_] (by simp)
  ·have h0:=dt c0; have h1:=dt c1; have h2:=dt c2
   rw [Int.natAbs_natCast,Int.natAbs_natCast] at h2
   refine ⟨k + 1,tes ?_ ?_ (List.Sublist.refl _),(by omega),(by omega)⟩
   refine tc rfl ?_ ?_
   rotate_left 1
   refine tc rfl (ps_r _) (tn)
   refine tc rfl (ps_r _) (tc rfl (ps_r _) (tc rfl (ps_r _) (tn)))
   rw [Int.natAbs_natCast,Int.natAbs_natCast,(aI (p:=q) (s:=k) (by omega)).2,List.flatMap_append,← List.append_assoc,show ([bZ q k].flatMap fun t=>qS (xE (bZ p i) t))=qS (sY (p.getD i Df.d) (p.getD ((i + 1) % p.length) Df.d) (q.getD k Df.d) (q.getD ((k + 1) % q.length) Df.d)) from List.append_nil _]
   rw [qS,if_neg h2,List.append_assoc (bs:=[_]) (cs:=[_])]
   exact PSub.refl _
  ·have h0:=dt c0; have h1:=dt c1; have h2:=Classical.not_not.1 (df c2)
   rw [Int.natAbs_natCast,Int.natAbs_natCast] at h2
   refine ⟨k + 1,tes ?_ ?_ (List.Sublist.refl _),(by omega),(by omega)⟩
   refine tc rfl ?_ ?_
   rotate_left 1
   refine tc rfl (ps_r _) (tn)
   refine tc rfl (ps_r _) (tc rfl (ps_r _) (tc rfl (ps_r _) (tn)))
   rw [(aI (p:=q) (s:=k) (by omega)).2,List.flatMap_append,← List.append_assoc,show ([bZ q k].flatMap fun t=>qS (xE (bZ p i) t))=qS (sY (p.getD i Df.d) (p.getD ((i + 1) % p.length) Df.d) (q.getD k Df.d) (q.getD ((k + 1) % q.length) Df.d)) from List.append_nil _]
   rw [qS,if_pos h2,List.append_nil]
   exact PSub.refl _
  ·have h0:=dt c0; have h1:=df c1
   refine ⟨i + 1,tes ?_ ?_ (List.Sublist.refl _),(by omega),(by omega)⟩
   refine tc rfl ?_ ?_
   rotate_left 1
   refine tc rfl (ps_r _) (tn)
   refine tc rfl (ps_r _) (tc rfl (ps_r _) (tn))
   rw [List.take_of_length_le (l:=xP q) (by rw [gL]; omega),(aI (p:=p) (s:=i) (by omega)).2]
   rw [show rawL ((xP p).take i ++ [bZ p i]) (xP q)=rawL ((xP p).take i) (xP q) ++ (xP q).flatMap fun t=>qS (xE (bZ p i) t) from by unfold rawL; rw [List.flatMap_append]; simp]
   exact PSub.refl _
 ·have h0:=df c0
  rw [List.take_of_length_le (l:=xP p) (by rw [gL]; omega)]
  exact PSub.refl _
end Go.Proofs.YtflobagimodmgaaGreatDoor
set_option maxHeartbeats 4000000
namespace Go.Proofs.YtflobagimodmgaaGreatDoor
open Go.SL Go.RowKit Go.Proofs Tryz
noncomputable def crossX (ls:List (List P2)) (i k:Nat):List Rat:=(allOf (ls.getD k []) (ls.getD i [])).map (·.1)
noncomputable def stepR (ls:List (List P2)) (i:Nat):List Rat:=(ls.getD i []).map (·.1) ++ (List.range i).flatMap (crossX ls i)
noncomputable def rawR (ls:List (List P2)) (b:P2 × P2) (i:Nat):List Rat:=[b.1.1,b.2.1] ++ (List.range i).flatMap (stepR ls)
theorem iQ {α β:Type} {f:α→List β} {c:Nat}:∀ {l:List α},(∀ a ∈ l,(f a).length≤c)→(l.flatMap f).length≤c * l.length
 | [],_=>by simp
 | a :: l,h=>by
  rw [List.flatMap_cons,List.length_append,List.length_cons,Nat.mul_add,Nat.mul_one]
  have h1:=h a (by simp); have h2:=iQ (l:=l) fun x hx=>h x (by simp [hx])
  omega
theorem oH {ls:List (List P2)} (h6:∀ l ∈ ls,l.length≤7) (i:Nat):(ls.getD i []).length≤7:=by
 rcases Nat.lt_or_ge i ls.length with h | h
 ·rw [List.getD_eq_getElem?_getD,List.getElem?_eq_getElem h]; exact h6 _ (List.getElem_mem h)
 ·rw [List.getD_eq_getElem?_getD,List.getElem?_eq_none h]; simp
theorem lN {ls:List (List P2)} (h6:∀ l ∈ ls,l.length≤7) (i k:Nat):(crossX ls i k).length≤98:=by
 unfold crossX; rw [List.length_map]
 have:=lS (ls.getD k []) (ls.getD i [])
 have h1:=oH h6 i; have h2:=oH h6 k
 have h3:2 * (ls.getD i []).length * (ls.getD k []).length≤2 * 7 * 7:=Nat.mul_le_mul (by omega) h2
 omega
theorem step_len {ls:List (List P2)} (h6:∀ l ∈ ls,l.length≤7) {i:Nat} (hi:i≤5):(stepR ls i).length≤500:=by
 unfold stepR
 have h1:=oH h6 i
 have h2:=iQ (l:=List.range i) (f:=crossX ls i) (c:=98) fun k _=>lN h6 i k
 rw [List.length_range] at h2
 rw [List.length_append,List.length_map]; omega
theorem rawR_len {ls:List (List P2)} (h6:∀ l ∈ ls,l.length≤7) {b:P2 × P2} {i:Nat} (hi:i≤5):(rawR ls b i).length≤2502:=by
 unfold rawR
 have h2:=iQ (l:=List.range i) (f:=stepR ls) (c:=500) fun k hk=>step_len h6 (by have:=List.mem_range.1 hk; omega)
 rw [List.length_range] at h2
 rw [List.length_append]; simp only [List.length_cons,List.length_nil]; omega
theorem nL {α:Type} (f:Nat→List α) (i:Nat):(List.range (i + 1)).flatMap f=(List.range i).flatMap f ++ f i:=by rw [List.range_succ,List.flatMap_append]; simp
theorem rawR_cuts {ls:List (List P2)} {b:P2 × P2}:setOf cmpR (rawR ls b ls.length)=cutsOf ls b:=setOf_congr fN fun x=>by
 unfold rawR rawC iS
 rw [List.append_assoc,List.mem_append,List.mem_append,List.mem_append,meetX_mem]
 refine or_congr Iff.rfl ?_
 simp only [List.mem_flatMap,List.mem_range]
 unfold stepR crossX
 simp only [List.mem_append,List.mem_flatMap,List.mem_range]
 constructor
 ·rintro ⟨i,hi,h | ⟨k,hk,h⟩⟩
  ·exact .inl ⟨ls.getD i [],by rw [List.getD_eq_getElem?_getD,List.getElem?_eq_getElem hi]; exact List.getElem_mem hi,h⟩
  ·exact .inr ⟨k,i,hk,hi,h⟩
 ·rintro (⟨l,hl,h⟩ | ⟨k,i,hk,hi,h⟩)
  ·obtain ⟨i,hi,rfl⟩:=List.mem_iff_getElem.1 hl
   exact ⟨i,hi,.inl (by rw [List.getD_eq_getElem?_getD,List.getElem?_eq_getElem hi]; exact h)⟩
  ·exact ⟨i,hi,.inr ⟨k,hk,h⟩⟩
theorem map_fst_getD {l:List P2} {m:Nat} (h:m < l.length):(l.map (·.1)).getD m 0=(l.getD m Df.d).1:=by
 simp [List.getD_eq_getElem?_getD,List.getElem?_eq_getElem h]
theorem k22all {ls:List (List P2)} {b:P2 × P2} (hl:ls.length≤5) (h6:∀ l ∈ ls,l.length≤7) (hr:∀ l ∈ ls,∀ x ∈ l,rlen x.1 2∧rlen x.2 2) (hb:rlen b.1.1 2∧rlen b.2.1 2):CTy prog 45 [sv (sl 1 (ls.map (pcs 1))),ag (st [ptq 1 b.1,ptq 1 b.2])] (sv (sl 3 ((cutsOf ls b).map (rtc 350)))):=by
 have hlen:∀ {i} (r:List Rat),i≤5→r.length≤700→(setOf cmpR (rawR ls b i ++ r)).length≤100000:=fun {i} r hi h=>by
  refine Nat.le_trans (kO fN _) ?_
  have:=rawR_len h6 (b:=b) hi
  rw [List.length_append]; omega
 refine ctc func45 rfl rfl rfl rfl fun X=>(zH (zJ rfl (zA1 (obx rfl) (zA1 (oas rfl) (zA0 (zH (yR 9 mixed rfl rfl (d1 (ofa rfl rfl) (d1 (ofa rfl rfl) ?_)))))))))
 refine d1 (old rfl rfl) ?_
 refine d1 (oca rfl rfl fun _=>k22put0 (n:=350) (by omega) ?_) ?_
 rotate_left 1
 refine d1 (ofa rfl rfl) (d1 (ofa rfl rfl) (d1 (old rfl rfl) ?_))
 refine d1 (oca rfl rfl fun _=>rA (by omega) (by omega) ?_ ?_) ?_
 rotate_left 1
 rotate_left 1
 refine d1 (oas rfl) (d0 (zA0 (zH (zH (zJ rfl (zA1 (oas rfl) (zA0 (zT ?_))))))))
 rotate_left 1
 ·exact xS hb.1 (by omega)
 ·exact Nat.le_trans (kO fN _) (by simp)
 ·exact xS hb.2 (by omega)
 have hat:∀ {i},i < ls.length→ls.getD i Df.d ∈ ls:=fun {i} hi=>iJ hi
 refine xL (σ:=Nat) (fun i=>[(5,True,sv (sl 3 ((setOf cmpR (rawR ls b i)).map (rtc 350)))),(6,True,exP (.int .i64 ((i:Nat):Int)))]) (fun i=>[]) (fun i=>i≤ls.length) (fun i=>ls.length - i) (0) (tk 0 rfl tn) ?_ rfl ((by omega)) (fun i hJ Y _=>?_)
 refine tc rfl (ps_r _) (tc rfl (ps_r _) (tn))
 rotate_left 1
 refine zH (zH (zJ rfl (zA1 (omv rfl) (zA1 (omv rfl) (zA1 (oln rfl) (zA1 (olt rfl rfl) (zA0 ?_)))))))
 refine t_if rfl (fun c0=>?_) (fun c0=>?_)
 refine yA (zH (zT (zH (zH (zJ rfl (zA1 (oas rfl) (zA0 (zT ?_))))))))
 rotate_left 1
 refine xN (zH (zJ rfl (zA1 (omv rfl) (zA1 (oas rfl) (zA0 (zZ (⟨[_],rst rfl rs0,yN ?_⟩)))))))
 rotate_left 1
 ·refine xL (σ:=Nat) (fun k=>[(5,True,sv (sl 3 ((setOf cmpR (rawR ls b i ++ ((ls.getD i Df.d).take k).map (·.1))).map (rtc 350)))),(7,True,exP (.int .i64 ((k:Nat):Int)))]) (fun k=>[]) (fun k=>k≤(ls.getD i Df.d).length) (fun k=>(ls.getD i Df.d).length - k) (0) (tk 0 rfl (tk 6 rfl tn)) ?_ rfl ((by omega)) (fun k hJ Y _=>?_)
  refine tc rfl ?_ ?_
  rotate_left 1
  refine tc rfl (ps_r _) (tn)
  rotate_left 1
  ·rw [List.take_zero,List.map_nil,List.append_nil]; exact PSub.refl _
  have h7:=h6 _ (hat (show i < ls.length by have:=dt c0; omega))
  have hii:=dt c0
  refine zH (zH (zJ rfl (zA1 (omv rfl) (zA1 (omv rfl) (zA1 (omv rfl) (zA1 (oix _ rfl rfl rfl (fun _=>rfl) (fun _=>(by omega))) (zA1 (old rfl rfl) (zA1 (oln rfl) (zA1 (olt rfl rfl) ?_)))))))))
  refine zA0 ?_
  refine t_if rfl (fun c1=>?_) (fun c1=>?_)
  refine yA (zH (zT (zJ rfl (zA1 (omv rfl) (zA1 (omv rfl) (zA1 (omv rfl) (zA1 (oix _ rfl rfl rfl (fun _=>rfl) (fun _=>(by omega))) (zA1 (old rfl rfl) (zA1 (omv rfl) ?_)))))))))
  refine zA1 (oix _ rfl rfl rfl (fun _=>rfl) (fun _=>(by (have e0:=dt c1; omega)))) (zA1 (ofa rfl rfl) (zA1 (old rfl rfl) ?_))
  refine zA1 (oca rfl rfl fun _=>rA (by omega) (by omega) ?_ ?_) ?_
  rotate_left 1
  rotate_left 1
  refine zA1 (oas rfl) (zA0 (zJ rfl (zA1 (omv rfl) (zA1 (oad rfl rfl (by omega)) (zA1 (oas rfl) (zA0 ?_))))))
  rotate_left 1
  refine xN (zH (zJ rfl (zA1 (oas rfl) (zA0 (zT ?_)))))
  rotate_left 1
  ·exact hlen _ (by omega) (by rw [List.length_map,List.length_take]; omega)
  ·exact xS (hr _ (hat (by omega)) _ (iJ (by have:=dt c1; omega))).1 (by omega)
  ·have hk:=dt c1
   refine ⟨k + 1,tes ?_ ?_ (List.Sublist.refl _),(by omega),(by omega)⟩
   refine tc rfl ?_ ?_
   rotate_left 1
   refine tc rfl (ps_r _) (tn)
   refine tc rfl (ps_r _) (tc rfl (ps_r _) (tn))
   rw [(yZ (Df.d:P2) (show k < (ls.getD i Df.d).length by omega)).1,List.map_append,← List.append_assoc]
   exact PSub.refl _
  ·have hk:=df c1
   refine xL (σ:=Nat) (fun j=>[(5,True,sv (sl 3 ((setOf cmpR (rawR ls b i ++ ((ls.getD i Df.d).map (·.1) ++ (List.range j).flatMap (crossX ls i)))).map (rtc 350)))),(8,True,exP (.int .i64 ((j:Nat):Int)))]) (fun j=>[]) (fun j=>j≤i) (fun j=>i - j) (0) (tk 0 rfl (tk 6 rfl tn)) ?_ rfl ((by omega)) (fun j hJ Y _=>?_)
   refine tc rfl ?_ ?_
   rotate_left 1
   refine tc rfl (ps_r _) (tn)
   rotate_left 1
   ·rw [List.take_of_length_le (by omega),List.range_zero,List.flatMap_nil,List.append_nil]; exact PSub.refl _
   have hx:=lN h6 i j
   have hxx:(crossX ls i j).length=(allOf (ls.getD j Df.d) (ls.getD i Df.d)).length:=List.length_map ..
   refine zH (zH (zJ rfl (zA1 (omv rfl) (zA1 (omv rfl) (zA1 (olt rfl rfl) (zA0 ?_))))))
   refine t_if rfl (fun c2=>?_) (fun c2=>?_)
   refine yA (zH (zT (zH (yR 10 mixed rfl rfl (d1 (omv rfl) (d1 (omv rfl) (d1 (oix _ rfl rfl rfl (fun _=>rfl) (fun _=>(by omega))) (d1 (old rfl rfl) (d1 (omv rfl) ?_)))))))))
   refine d1 (omv rfl) (d1 (oix _ rfl rfl rfl (fun _=>rfl) (fun _=>(by omega))) (d1 (old rfl rfl) ?_))
   refine d1 (oca rfl rfl fun _=>k10all ?_ (by omega) ?_ ?_) ?_
   rotate_left 1
   rotate_left 1
   rotate_left 1
   refine d1 (oas rfl) (d0 (zA0 (zH (zJ rfl (zA1 (oas rfl) (zA0 (zT ?_)))))))
   rotate_left 1
   refine xN (zJ rfl (zA1 (omv rfl) (zA1 (oad rfl rfl (by omega)) (zA1 (oas rfl) (zA0 ?_)))))
   rotate_left 1
   ·exact h6 _ (hat (by have:=dt c2; omega))
   ·exact hr _ (hat (by have:=dt c2; omega))
   ·exact hr _ (hat (by omega))
   ·have hj:=dt c2
    have hro:((List.range j).flatMap (crossX ls i)).length≤98 * 5:=Nat.le_trans (iQ (c:=98) fun k _=>lN h6 i k) (by rw [List.length_range]; exact Nat.mul_le_mul_left _ (by omega))
    refine xL (σ:=Nat) (fun m=>[(5,True,sv (sl 3 ((setOf cmpR (rawR ls b i ++ ((ls.getD i Df.d).map (·.1) ++ (List.range j).flatMap (crossX ls i)) ++ (crossX ls i j).take m)).map (rtc 350)))),(10,True,exP (.int .i64 ((m:Nat):Int)))]) (fun m=>[]) (fun m=>m≤(crossX ls i j).length) (fun m=>(crossX ls i j).length - m) (0) (tk 0 rfl (tk 6 rfl (tk 8 rfl (tk 9 rfl tn)))) ?_ rfl ((by omega)) (fun m hJ Y _=>?_)
    refine tc rfl ?_ ?_
    rotate_left 1
    refine tc rfl (ps_r _) (tn)
    rotate_left 1
    ·rw [List.take_zero,List.append_nil]; exact PSub.refl _
    refine zH (zH (zJ rfl (zA1 (omv rfl) (zA1 (omv rfl) (zA1 (oln rfl) (zA1 (olt rfl rfl) (zA0 ?_)))))))
    refine t_if rfl (fun c3=>?_) (fun c3=>?_)
    refine yA (zH (zT (zJ rfl (zA1 (omv rfl) (zA1 (omv rfl) (zA1 (omv rfl) (zA1 (oix _ rfl rfl rfl (fun _=>rfl) (fun _=>(by (have e0:=dt c3; omega)))) (zA1 (ofa rfl rfl) (zA1 (old rfl rfl) ?_)))))))))
    refine zA1 (oca rfl rfl fun _=>k22putc ?_) ?_
    rotate_left 1
    refine zA1 (oas rfl) (zA0 (zJ rfl (zA1 (omv rfl) (zA1 (oad rfl rfl (by omega)) (zA1 (oas rfl) (zA0 ?_))))))
    rotate_left 1
    refine xN (zJ rfl (zA1 (omv rfl) (zA1 (oad rfl rfl (by omega)) (zA1 (oas rfl) (zA0 ?_)))))
    rotate_left 1
    ·rw [List.append_assoc]; exact hlen _ (by omega) (by rw [List.length_append,List.length_append,List.length_map,List.length_take]; omega)
    ·have hm:=dt c3
     refine ⟨m + 1,tes ?_ ?_ (List.Sublist.refl _),(by omega),(by omega)⟩
     refine tc rfl ?_ ?_
     rotate_left 1
     refine tc rfl (ps_r _) (tn)
     refine tc rfl (ps_r _) (tc rfl (ps_r _) (tc rfl (ps_r _) (tc rfl (ps_r _) (tn))))
     refine ps_p (congrArg (fun x=>sv (sl 3 ((setOf cmpR x).map (rtc 350)))) ?_)
     rw [(yZ (0:Rat) (show m < (crossX ls i j).length by omega)).1,show (crossX ls i j).getD m 0=((allOf (ls.getD j Df.d) (ls.getD i Df.d)).getD m Df.d).1 from map_fst_getD (l:=allOf (ls.getD j Df.d) (ls.getD i Df.d)) (by omega)]
     simp only [List.append_assoc]
    ·have hm:=df c3
     refine ⟨j + 1,tes ?_ ?_ (List.Sublist.refl _),(by omega),(by omega)⟩
     refine tc rfl ?_ ?_
     rotate_left 1
     refine tc rfl (ps_r _) (tn)
     refine tc rfl (ps_r _) (tc rfl (ps_r _) (tn))
     refine ps_p (congrArg (fun x=>sv (sl 3 ((setOf cmpR x).map (rtc 350)))) ?_)
     rw [List.take_of_length_le (by omega),nL]
     simp only [List.append_assoc]
   ·have hj:=df c2
    refine ⟨i + 1,tes ?_ ?_ (List.Sublist.refl _),(by omega),(by omega)⟩
    refine tc rfl ?_ ?_
    rotate_left 1
    refine tc rfl (ps_r _) (tn)
    refine tc rfl (ps_r _) (tn)
    have e:j=i:=by omega
    subst e
    refine ps_p (congrArg (fun x=>sv (sl 3 ((setOf cmpR x).map (rtc 350)))) ?_)
    unfold rawR
    rw [nL]
    unfold stepR
    simp only [List.append_assoc]
    rfl
 ·have:=df c0
  rw [show i=ls.length by omega,rawR_cuts]; exact PSub.refl _
end Go.Proofs.YtflobagimodmgaaGreatDoor
set_option maxHeartbeats 2000000
namespace Go.Proofs.YtflobagimodmgaaGreatDoor
open Go.SL Go.RowKit Go.Proofs Tryz
theorem zI2 {Ψ Φ Ξ ρ σ τ:PV} (h:PSub Ψ ρ) (k:PSub Φ σ) (l:PSub Ξ τ):∀ M w vs,Fa [Ψ,Φ,Ξ] M w vs→(tu [ρ,σ,τ]).p M w (xG vs):=fun M w vs ⟨v,us,e,h1,u,us2,e2,h2,x,us3,e3,h3,e4⟩=>by
 subst e e2 e3 e4; exact ⟨_,rfl,_,_,rfl,h _ _ _ h1,_,_,rfl,k _ _ _ h2,_,_,rfl,l _ _ _ h3,rfl⟩
theorem pP {A B:Nat} (hB:0 < B):(-(A:Int)) / (B:Int)=if 0 < A % B then -((A / B:Nat):Int) - 1 else -((A / B:Nat):Int):=by
 have h:=Nat.div_add_mod A B
 have hm:=Nat.mod_lt A hB
 have e:(A:Int)=(B:Int) * ((A / B:Nat):Int) + ((A % B:Nat):Int):=by exact_mod_cast h.symm
 split
 ·refine ((Int.ediv_emod_unique (a:=-(A:Int)) (b:=(B:Int)) (q:=-((A / B:Nat):Int) - 1) (r:=(B:Int) - ((A % B:Nat):Int)) (by omega)).2 ⟨?_,by omega,by omega⟩).1
  rw [e,Int.mul_sub,Int.mul_neg,Int.mul_one]; omega
 ·have h0:A % B=0:=by omega
  refine ((Int.ediv_emod_unique (a:=-(A:Int)) (b:=(B:Int)) (q:=-((A / B:Nat):Int)) (r:=0) (by omega)).2 ⟨?_,by omega,by omega⟩).1
  rw [h0] at e; rw [e,Int.mul_neg]; omega
theorem w5div {a b:Bool × List Nat} {n:Nat} (ha:∀ x ∈ a.2,x < 4294967296) (hb:∀ x ∈ b.2,x < 4294967296) (la:a.2.length≤n) (lb:b.2.length≤n) (hn:n≤90000) (hz:0 < zx b):CTy prog 255 [ag (itx a),ag (itx b)] (tu [ag (ztc (n + 4) (zx a / zx b)),ag (ztc (4 * n + 40) (zx a - zx a / zx b * zx b)),exP (.int .i64 0)]):=by
 have hq:(limbs (val a.2 / val b.2)).length≤n:=Nat.le_trans (yG (Nat.div_le_self _ _)) (Nat.le_trans (xV ha) la)
 have hzb:zx b=((val b.2:Nat):Int):=by cases hb1:b.1 <;> simp only [zx,zv,hb1,if_true,if_false,Bool.false_eq_true] at hz ⊢ <;> omega
 have hB0:val b.2 ≠ 0:=by omega
 have hnb:decide (zx b < 0)=false:=decide_eq_false (by omega)
 have hza:zx a < 0→zx a = -((val a.2:Nat):Int):=fun h=>by cases ha1:a.1 <;> simp only [zx,zv,ha1,if_true,if_false,Bool.false_eq_true] at h ⊢ <;> omega
 have hzp:¬ zx a < 0→zx a=((val a.2:Nat):Int):=fun h=>by cases ha1:a.1 <;> simp only [zx,zv,ha1,if_true,if_false,Bool.false_eq_true] at h ⊢ <;> omega
 refine ctc func255 rfl rfl rfl rfl fun X=>(zH (zJ rfl (tbx (hc:=cts1) rfl fun b2=>(tbx (hc:=cts1) rfl fun b3=>(tal fun b4=>(tal fun b5=>(zA1 (oas rfl) (zA0 (zH ?_)))))))))
 refine zJ rfl (zA1 (ofo rfl) (zA1 (oldf 3 1 rfl rfl rfl rfl) (zA1 (ofo rfl) (zA1 (oldf 2 1 rfl rfl rfl rfl) (zA1 (oca rfl rfl fun _=>zU7 (by omega) (by omega) (by omega)) (zA1 (omv rfl) (zA1 (oex rfl rfl) (zA1 (oex rfl rfl) (zA1 (oex rfl rfl) ?_)))))))))
 refine zA1 (oas rfl) (zA1 (oas rfl) (zA1 (oas rfl) (zA0 (zH (zH (zJ rfl (zA1 (omv rfl) (zA1 (oni rfl rfl) (zA0 ?_)))))))))
 refine sV rfl rfl (yA (zH (yR 4 mixed rfl rfl (d1 (oldo 3 rfl rfl rfl rfl) (d1 (oca rfl rfl fun _=>uU (by omega)) (d1 (oldo 2 rfl rfl rfl rfl) (d1 (oca rfl rfl fun _=>uU (by omega)) (d0 (tst 3 rfl rfl rfl rfl rfl rfl ?_)))))))))
 refine tst 2 rfl rfl rfl rfl rfl rfl (zA0 (zH (zJ rfl (zA1 (ofo rfl) (zA1 (oldf 3 0 rfl rfl rfl rfl) (zA1 (ofo rfl) (zA1 (oldf 2 0 rfl rfl rfl rfl) (zA1 (obn rfl rfl) (zA1 (omv rfl) ?_)))))))))
 refine zA1 (obd rfl rfl rfl) (zA1 (oca rfl rfl fun _=>uU (by omega)) (tal fun b10=>(tst 0 rfl rfl rfl rfl rfl rfl (zA0 (zH (zH (zJ rfl (zA1 (ofo rfl) (zA1 (oldf 4 0 rfl rfl rfl rfl) ?_)))))))))
 refine zA1 (ofo rfl) (zA1 (oldf 3 0 rfl rfl rfl rfl) (zA1 (obn rfl rfl) (zA1 (omv rfl) (t1g rfl rfl (omv rfl) (t1g rfl rfl (oln rfl) (t1g rfl rfl (ogt rfl rfl) (zA1 (opk rfl rfl rfl) (zA0 ?_))))))))
 refine t_if rfl (fun c1=>?_) (fun c1=>?_)
 refine yR 3 mixed rfl rfl (d1 (oldo 0 rfl rfl rfl rfl) (d1 (oca rfl rfl fun _=>k5of (k:=1) (N:=2) (by omega) (by omega)) (d1 (oca rfl rfl fun _=>tZ (by omega) (by omega)) (d0 (tst 0 rfl rfl rfl rfl rfl rfl (zA0 (zH (yR 7 mixed rfl rfl (d1 (oldo 0 rfl rfl rfl rfl) ?_)))))))))
 refine d1 (oldo 4 rfl rfl rfl rfl) (d1 (oldo 0 rfl rfl rfl rfl) (d1 (oldo 3 rfl rfl rfl rfl) (d1 (obs rfl rfl rfl rfl rfl rfl) (d1 (oca rfl rfl fun _=>iL (by omega) (by (simp; done))) (d1 (oca rfl rfl fun _=>tZ (by omega) (by omega)) (d0 (tst 2 rfl rfl rfl rfl rfl rfl (tst 1 rfl rfl rfl rfl rfl rfl (zA1 (oas rfl) ?_)))))))))
 refine zA0 (zZ (⟨[_,_,_],rsc 2 rfl rfl rfl rfl (rsc 1 rfl rfl rfl rfl (rst rfl rs0)),?_⟩))
 rotate_left 1
 refine yA (zH (yR 7 mixed rfl rfl (d1 (oldo 0 rfl rfl rfl rfl) (d1 (oldo 4 rfl rfl rfl rfl) (d1 (oldo 0 rfl rfl rfl rfl) (d1 (oldo 3 rfl rfl rfl rfl) (d1 (obs rfl rfl rfl rfl rfl rfl) (d1 (oca rfl rfl fun _=>iL (by omega) (by (simp; done))) (d1 (oca rfl rfl fun _=>tZ (by omega) (by omega)) ?_)))))))))
 refine d0 (tst 2 rfl rfl rfl rfl rfl rfl (tst 1 rfl rfl rfl rfl rfl rfl (zA1 (oas rfl) (zA0 (zZ (⟨[_,_,_],rsc 2 rfl rfl rfl rfl (rsc 1 rfl rfl rfl rfl (rst rfl rs0)),?_⟩))))))
 rotate_left 1
 ·have h1:=c1.h
  rw [Bool.and_eq_true,hnb,decide_eq_true_eq] at h1
  have e:(if (!decide (zx a < 0) == decide (zx b < 0))=true then -((val (limbs (val a.2 / val b.2)):Nat):Int) else ((val (limbs (val a.2 / val b.2)):Nat):Int)) - ((1:Nat):Int)=zx a / zx b:=by
   have hlt:zx a < 0:=by simpa using h1.1
   rw [hnb,if_pos h1.1,zP,hzb,hza hlt,pP (by omega),if_pos (by
    have h2:=h1.2; rcases Nat.eq_zero_or_pos (val a.2 % val b.2) with c | c
    ·rw [c,yW] at h2; simp at h2
    ·exact c)]
   rfl
  exact zI2 (bI e (by omega)) (bI (by rw [e,iB]) (by omega)) (PSub.refl _)
 ·have h1:=c1.h
  rw [Bool.and_eq_false_iff,hnb,decide_eq_false_iff_not] at h1
  have e:(if (!decide (zx a < 0) == decide (zx b < 0))=true then -((val (limbs (val a.2 / val b.2)):Nat):Int) else ((val (limbs (val a.2 / val b.2)):Nat):Int))=zx a / zx b:=by
   rw [hnb,zP]
   by_cases hlt:zx a < 0
   ·have hc:(!decide (zx a < 0) == false)=true:=by rw [decide_eq_true hlt]; rfl
    rw [if_pos hc,hzb,hza hlt,pP (by omega),if_neg fun c=>?_]
    rcases h1 with h1 | h1
    ·rw [hc] at h1; cases h1
    ·have:=(@yH (val a.2 % val b.2)); omega
   ·have hc:(!decide (zx a < 0) == false)=false:=by rw [decide_eq_false hlt]; rfl
    rw [hc,hzb,hzp hlt]; rfl
  exact zI2 (bI e (by omega)) (bI (by rw [e,iB]) (by omega)) (PSub.refl _)
end Go.Proofs.YtflobagimodmgaaGreatDoor
set_option maxHeartbeats 2000000
namespace Go.Proofs.YtflobagimodmgaaGreatDoor
open Go.SL Go.RowKit Go.Proofs Tryz
theorem k5div {Ψ Φ:PV} {n m:Nat} {y z:Int} [h:VZ Ψ n y] [h':VZ Φ m z] (hn:n≤90000) (hm:m≤90000) (hz:0 < z):CTy prog 255 [Ψ,Φ] (tu [ag (ztc (max n m + 4) (y / z)),ag (ztc (4 * max n m + 40) (y - y / z * z)),exP (.int .i64 0)]) :=
 ctz2 (bo func255) fun a b la ha hy lb hb hzz=>by
  subst hy hzz; exact w5div la lb (by omega) (by omega) (by omega) hz
theorem above_mk {z:Int} {d:Nat} (hd:d ≠ 0):qP (mkRat z d)=z / (d:Int) + 1:=by
 obtain ⟨h1,h2⟩:=tR (z:=z) hd
 unfold qP
 rw [h1,h2]
 have hg:0 < Nat.gcd z.natAbs d:=Nat.gcd_pos_of_pos_right _ (Nat.pos_of_ne_zero hd)
 obtain ⟨c,hc⟩:((Nat.gcd z.natAbs d:Nat):Int) ∣ z:=Int.dvd_natAbs.1 (Int.natCast_dvd_natCast.2 (Nat.gcd_dvd_left _ _))
 obtain ⟨e,he⟩:=Nat.gcd_dvd_right z.natAbs d
 generalize Nat.gcd z.natAbs d=g at *
 subst he hc
 rw [Int.mul_ediv_cancel_left _ (by omega),Nat.mul_div_cancel_left _ hg,Int.natCast_mul,Int.mul_ediv_mul_of_pos _ _ (by omega)]
theorem above_p2 (q:Rat) (s:Nat):qP (q * p2 s)=q.num * ((2 ^ s:Nat):Int) / (q.den:Int) + 1:=by
 rw [← zY6,above_mk q.den_nz]
theorem pow_le32 {s k:Nat} (h:s≤32 * k):2 ^ s≤4294967296 ^ k:=by
 have e:(2:Nat) ^ (32 * k)=4294967296 ^ k:=by rw [Nat.pow_mul,show (2:Nat) ^ 32=4294967296 from rfl]
 rw [← e]
 exact Nat.pow_le_pow_right (by omega) h
theorem rN {x n s:Nat} (h:(limbs x).length≤n) (hs:s≤4000):(limbs (x * 2 ^ s)).length≤n + 126:=yJ (by
 have h1:=yP h
 have h2:2 ^ s≤4294967296 ^ 126:=pow_le32 (by omega)
 rw [Nat.pow_add]
 exact Nat.mul_lt_mul_of_lt_of_le h1 h2 (Nat.pow_pos (by omega)))
theorem w7above {q:Rat} {n s:Nat} (hn:n≤100) (hs:s≤4000) (hr:rlen q n):CTy prog 185 [ag (rtc n q),exP (.int .i64 ((s:Nat):Int))] (ag (ztc 300 (qP (q * p2 s)))):=by
 have e0:cntN ((s:Nat):Int) 65536=s:=mQ (m:=65536) (by omega)
 have hl:=rN hr.1 hs
 have hr1:=hr.1
 have hd:0 < (q.den:Int):=by have:=q.den_nz; omega
 have e1:((if decide (q.num < 0)=true then -((val (limbs (val (limbs q.num.natAbs) * 2 ^ cntN ((s:Nat):Int) 65536)):Nat):Int) else ((val (limbs (val (limbs q.num.natAbs) * 2 ^ cntN ((s:Nat):Int) 65536)):Nat):Int)))=q.num * ((2 ^ s:Nat):Int):=by
  rw [e0,zP,zP,Int.natCast_mul]
  split
  ·rename_i h; have:=of_decide_eq_true h; rw [show ((q.num.natAbs:Nat):Int) = -q.num by omega,Int.neg_mul,Int.neg_neg]
  ·rename_i h; have h2:¬ q.num < 0:=fun c=>h (decide_eq_true c)
   rw [show ((q.num.natAbs:Nat):Int)=q.num by omega]
 have hl2:(limbs (val (limbs q.num.natAbs) * 2 ^ cntN ((s:Nat):Int) 65536)).length≤n + 126:=by rw [e0,zP]; exact hl
 refine ctc func185 rfl rfl rfl rfl fun X=>(zH (zJ rfl (zA1 (obx rfl) (tal fun b4=>(zA0 (zH ?_))))))
 apply t_drawSS 2 21 19 20 [(17,5,0),(18,6,1),(19,1000019,0),(20,1000020,1)] rfl rfl mixed rfl rfl rfl rfl
 refine cx1 (ofx rfl) rfl (cx1 (ofx rfl) rfl (cx1 (old rfl rfl) rfl (cx1 (ofx rfl) rfl (cx1 (ofx rfl) rfl (cx1 (old rfl rfl) rfl (cx1 (omv rfl) rfl (cx1 (oca rfl rfl fun _=>k2up (by omega)) rfl (cx1 (obd rfl rfl rfl) rfl (cx1 (ofx rfl) rfl ?_)))))))))
 refine cx1 (old rfl rfl) rfl (cx1 (oca rfl rfl fun _=>pL (by omega)) rfl (cx1 (oca rfl rfl fun _=>k5div (by omega) (by omega) (by omega)) rfl (cx1 (omv rfl) rfl (cx1 (oex rfl rfl) rfl (cx1 (oex rfl rfl) rfl (cx1 (oex rfl rfl) rfl (cN rfl rfl (cal) (cN rfl rfl (cal) (cSa rfl rfl rfl (cst rfl rfl rfl) ?_)))))))))
 refine cSb rfl rfl rfl rfl (cst rfl rfl rfl) ?_
 refine cE (fun b5 b6=>?_)
 refine qE (gC (s:=6) 0 rfl rfl) (zA1 (oas rfl) (zA0 (zH (yR 4 mixed rfl rfl (d1 (oldo 0 rfl rfl rfl rfl) (d1 (oca rfl rfl fun _=>k5of (k:=1) (N:=2) (by omega) (by omega)) (d1 (obs rfl rfl rfl rfl rfl rfl) (d1 (oca rfl rfl fun _=>zU6 (by omega) (by (simp; done))) (d0 ?_)))))))))
 refine tst 1 rfl rfl rfl rfl rfl rfl (zA0 (zZ (⟨[_],rsc 1 rfl rfl rfl rfl rs0,yN ?_⟩)))
 rotate_left 1
 exact bI (by rw [e1,above_p2]; simp) (by omega)
theorem wB {n m:Nat} {q:Rat} (h:n≤m):PSub (ag (rtc n q)) (ag (rtc m q)):=tE h rfl
theorem rZ {q:Rat} {n s:Nat} (hn:n≤99) (hs:s≤4000):CTy prog 185 [ag (rtc n q),exP (.int .i64 ((s:Nat):Int))] (ag (ztc 300 (qP (q * p2 s)))) :=
 ⟨(bo func185),fun M w vs hM hT hv=>by
  have h0:=hv
  obtain ⟨v,us,rfl,k1,k2⟩:=hv
  obtain ⟨s1,a1,d1,e1,g1⟩:=QR.h (Ψ:=ag (rtc n q)) k1
  exact (w7above (n:=n + 1) (by omega) hs g1.rlen).run M w _ hM hT ((fs1 (wB (Nat.le_succ n)) (fs1 (PSub.refl _) fs0)) _ _ _ h0)⟩
theorem w5cmp {y z:Int} {n m:Nat} (hn:n≤90000) (hm:m≤90000):CTy prog 254 [ag (ztq n y),ag (ztq m z)] (exP (.int .i64 (y - z).sign)):=by
 refine ctc func254 rfl rfl rfl rfl fun X=>(zH (zJ rfl (zA1 (obx rfl) (zA1 (obx rfl) (zA1 (oas rfl) (zA0 (zH (zJ rfl (zA1 (old rfl rfl) ?_)))))))))
 refine zA1 (old rfl rfl) (zA1 (oca rfl rfl fun _=>tZ (by omega) (by omega)) (zA1 (oca rfl rfl fun _=>zU4 (by omega)) (zA1 (oas rfl) (zA0 (zZ (⟨[_],rst rfl rs0,yN (PSub.refl _)⟩))))))
end Go.Proofs.YtflobagimodmgaaGreatDoor
set_option maxHeartbeats 2000000
namespace Go.Proofs.YtflobagimodmgaaGreatDoor
open Go.SL Go.RowKit Go.Proofs Tryz
theorem k5cmp {Ψ Φ:PV} {n m:Nat} {y z:Int} [h:VZ Ψ n y] [k:VZ Φ m z] (hn:n≤90000) (hm:m≤90000):CTy prog 254 [Ψ,Φ] (exP (.int .i64 (y - z).sign)):=gF (w5cmp hn hm) (fs1 vz_q (fs1 vz_q fs0))
theorem dy_iff {p q:Rat} {s:Nat}:dyOk p q s ↔ qP (p * p2 s) * (q.den:Int) < q.num * ((2 ^ s:Nat):Int):=by
 unfold dyOk
 have hd:(0:Rat) < ((q.den:Int):Rat):=Rat.intCast_pos.2 (by have:=q.den_nz; omega)
 have e:q * p2 s * ((q.den:Int):Rat)=((q.num * ((2 ^ s:Nat):Int):Int):Rat):=by
  rw [Rat.intCast_mul]
  have:=bM q
  have e2:((q.den:Int):Rat)=(q.den:Rat):=rfl
  have e3:(((2 ^ s:Nat):Int):Rat)=p2 s:=rfl
  rw [e2,e3]; grind
 rw [← tQ hd,e,← Rat.intCast_mul,Rat.intCast_lt_intCast]
theorem sgn_lt {x:Int}:x.sign < 0 ↔ x < 0:=by
 rcases Int.lt_trichotomy x 0 with h | h | h
 ·rw [Int.sign_eq_neg_one_of_neg h]; omega
 ·subst h; simp
 ·rw [Int.sign_eq_one_of_pos h]; omega
theorem w7room {p q:Rat} {n s:Nat} (hn:n≤90) (hs:s≤4000) (hr:rlen q n):CTy prog 184 [ag (rtc n p),ag (rtc n q),exP (.int .i64 ((s:Nat):Int))] (exP (.bool (decide (dyOk p q s)))):=by
 have e0:cntN ((s:Nat):Int) 65536=s:=mQ (m:=65536) (by omega)
 have hl:=rN hr.1 hs
 have hr1:=hr.1
 have hl2:(limbs (val (limbs q.num.natAbs) * 2 ^ cntN ((s:Nat):Int) 65536)).length≤n + 126:=by rw [e0,zP]; exact hl
 have e1:((if decide (q.num < 0)=true then -((val (limbs (val (limbs q.num.natAbs) * 2 ^ cntN ((s:Nat):Int) 65536)):Nat):Int) else ((val (limbs (val (limbs q.num.natAbs) * 2 ^ cntN ((s:Nat):Int) 65536)):Nat):Int)))=q.num * ((2 ^ s:Nat):Int):=by
  rw [e0,zP,zP,Int.natCast_mul]
  split
  ·rename_i h; have:=of_decide_eq_true h; rw [show ((q.num.natAbs:Nat):Int) = -q.num by omega,Int.neg_mul,Int.neg_neg]
  ·rename_i h; have h2:¬ q.num < 0:=fun c=>h (decide_eq_true c)
   rw [show ((q.num.natAbs:Nat):Int)=q.num by omega]
 refine ctc func184 rfl rfl rfl rfl fun X=>(zH (zJ rfl (zA1 (obx rfl) (zA1 (obx rfl) (zA1 (oas rfl) (zA0 (zH (zJ rfl (zA1 (old rfl rfl) ?_)))))))))
 refine zA1 (omv rfl) (zA1 (oca rfl rfl fun _=>rZ (by omega) (by omega)) (tal fun b7=>(tst 0 rfl rfl rfl rfl rfl rfl (qE (gC (s:=7) 0 rfl rfl) (zA0 (zH (yR 18 mixed rfl rfl (d1 (old rfl rfl) (d1 (ofx rfl) ?_)))))))))
 refine d1 (old rfl rfl) (d1 (oca rfl rfl fun _=>pL (by omega)) (d1 (obs rfl rfl rfl rfl rfl rfl) (d1 (oca rfl rfl fun _=>iL (by omega) (by (simp; done))) (d1 (ofx rfl) (d1 (ofx rfl) (d1 (old rfl rfl) (d1 (ofx rfl) (d1 (ofx rfl) (d1 (old rfl rfl) ?_)))))))))
 refine d1 (omv rfl) (d1 (oca rfl rfl fun _=>k2up (by omega)) ?_)
 refine d1 (obd rfl rfl rfl) (d1 (oca rfl rfl fun _=>k5cmp (by omega) (by omega)) (d1 (olt rfl rfl) (d1 (oas rfl) (d0 (zA0 (zZ (⟨[_],rst rfl rs0,yN ?_⟩)))))))
 refine psb ?_
 rotate_left 1
 rw [e1,iB,decide_eq_decide,dy_iff,sgn_lt]
 omega
theorem zU3 {p q:Rat} {n s:Nat} (hn:n≤89) (hs:s≤4000):CTy prog 184 [ag (rtc n p),ag (rtc n q),exP (.int .i64 ((s:Nat):Int))] (exP (.bool (decide (dyOk p q s)))) :=
 ⟨(bo func184),fun M w vs hM hT hv=>by
  have h0:=hv
  obtain ⟨v,us,rfl,k1,u,us2,rfl,k2,k3⟩:=hv
  obtain ⟨s1,a1,d1,e1,g1⟩:=QR.h (Ψ:=ag (rtc n q)) k2
  exact (w7room (n:=n + 1) (by omega) hs g1.rlen).run M w _ hM hT ((fs1 (wB (Nat.le_succ n)) (fs1 (wB (Nat.le_succ n)) (fs1 (PSub.refl _) fs0))) _ _ _ h0)⟩
end Go.Proofs.YtflobagimodmgaaGreatDoor
namespace Go.Proofs.YtflobagimodmgaaGreatDoor
open Go.SL Go.RowKit Go.Proofs Tryz
theorem above_le {x:Rat} {k:Int} (h:x < (k:Rat)):qP x≤k:=by
 have h1:=(Rat.lt_iff x (k:Rat)).1 h
 rw [Rat.den_intCast,Rat.num_intCast,Int.natCast_one,Int.mul_one] at h1
 have hd:0 < (x.den:Int):=by have:=x.den_nz; omega
 have:=Int.ediv_lt_of_lt_mul hd h1
 unfold qP; omega
theorem sH {lo hi:Rat} {s:Nat}:dyOk lo hi s ↔ ∃ k:Int,lo * p2 s < (k:Rat)∧(k:Rat) < hi * p2 s:=by
 constructor
 ·intro h
  exact ⟨qP (lo * p2 s),aboveQ_lt _,h⟩
 ·rintro ⟨k,h1,h2⟩
  have:=above_le h1
  have h3:((qP (lo * p2 s):Int):Rat)≤(k:Rat):=Rat.intCast_le_intCast.2 this
  unfold dyOk; grind
theorem zK6 (s:Nat):p2 (s + 1)=2 * p2 s:=by
 unfold p2; rw [Nat.pow_succ,Nat.mul_comm,Rat.natCast_mul]; rfl
theorem dy_next {lo hi:Rat} {s:Nat} (h:dyOk lo hi s):dyOk lo hi (s + 1):=by
 obtain ⟨k,h1,h2⟩:=sH.1 h
 have e:((2 * k:Int):Rat)=2 * (k:Rat):=by rw [Rat.intCast_mul]; rfl
 exact sH.2 ⟨2 * k,by rw [e,zK6]; grind,by rw [e,zK6]; grind⟩
theorem zN5 {lo hi:Rat} {s t:Nat} (h:dyOk lo hi s) (hs:s≤t):dyOk lo hi t:=by
 obtain ⟨d,rfl⟩:∃ d,t=s + d:=⟨t - s,by omega⟩
 clear hs
 induction d with
 | zero=>exact h
 | succ d ih=>exact dy_next ih
theorem zV6 {lo hi:Rat} {s:Nat}:dyOk (-hi) (-lo) s ↔ dyOk lo hi s:=by
 rw [sH,sH]
 constructor
 ·rintro ⟨k,h1,h2⟩
  exact ⟨-k,by rw [Rat.intCast_neg]; grind,by rw [Rat.intCast_neg]; grind⟩
 ·rintro ⟨k,h1,h2⟩
  exact ⟨-k,by rw [Rat.intCast_neg]; grind,by rw [Rat.intCast_neg]; grind⟩
end Go.Proofs.YtflobagimodmgaaGreatDoor
set_option maxHeartbeats 2000000
namespace Go.Proofs.YtflobagimodmgaaGreatDoor
open Go.SL Go.RowKit Go.Proofs Tryz
instance:VX (sv (sl 1 [xc (.int .u32 1)])) [1]:=⟨fun ⟨u,us,e,h1,⟨x,y,e1,e2,h2⟩,_⟩=>by
 rw [List.singleton_inj.1 e]
 obtain rfl:y=[]:=h2
 have h3:x=[.int .u32 1]:=e2.1
 subst h3 e1
 exact ⟨h1,by simp⟩⟩
theorem w7betw {p q:Rat} {n:Nat} (hn:n≤4) (hr:rlen p (n + 1)) (hs:rlen q (n + 1)):CTy prog 129 [ag (rtq n p),ag (rtq n q)] (tu [ag (rtc 400 (gQ p q)),exP (.bool (decide (p < q)))]):=by
 have hB:=fun h:p < q=>vG h (yP hr.2) (yP hs.2)
 refine ctc func129 rfl rfl rfl rfl fun X=>(zH (zJ rfl (tbx (hc:=cts1) rfl fun b2=>(tbx (hc:=cts1) rfl fun b3=>(tal fun b4=>(zA1 (oas rfl) (zA0 (zH (yR 4 mixed rfl rfl ?_)))))))))
 refine d1 (oldo 2 rfl rfl rfl rfl) (d1 (oca rfl rfl fun _=>aN (by omega)) (d1 (oldo 1 rfl rfl rfl rfl) (d1 (oca rfl rfl fun _=>aN (by omega)) (d0 (tst 2 rfl rfl rfl rfl rfl rfl (tst 1 rfl rfl rfl rfl rfl rfl (zA0 (zH (zH ?_)))))))))
 refine zJ rfl (zA1 (oldo 2 rfl rfl rfl rfl) (zA1 (oldo 1 rfl rfl rfl rfl) (zA1 (oca rfl rfl fun _=>zM1 (by omega) (by omega)) (zA1 (oge rfl rfl) (zA0 ?_)))))
 refine t_if rfl (fun c0=>?_) (fun c0=>?_)
 refine zH (zJ rfl (zA1 (oca rfl rfl fun _=>k7of (by (simp; done))) (tst 0 rfl rfl rfl rfl rfl rfl (zA1 (oas rfl) (zA0 (zZ ?_))))))
 refine ⟨[_,_],rsc 0 rfl rfl rfl rfl (rst rfl rs0),uW ?_ ?_⟩
 rotate_left 1
 refine psb ?_
 rotate_left 1
 refine yA (zH (zJ rfl (zA1 (oas rfl) (zA0 (zH (zT ?_))))))
 rotate_left 1
 ·have h:=qL.1 (dt c0)
  exact nN (by unfold gQ; rw [if_neg (by grind)]; rfl) (by omega)
 ·have h:=qL.1 (dt c0)
  rw [decide_eq_false (by grind)]
 have hlt:p < q:=by have h:=mt qL.2 (df c0); grind
 have hB2:=hB hlt
 refine t_ts (gC 2 rfl (s:=2) rfl) (t_ts (gC 1 rfl (s:=3) rfl) ?_)
 refine xL (σ:=Nat) (fun m=>[(6,True,exP (.int .i64 ((m:Nat):Int)))]) (fun m=>[.blk b4 33 (zc (.agg #[.bool false,.slice none 0 0,.slice none 0 0]))]) (fun m=>1≤m∧m≤640) (fun m=>641 - m) (1) (tk 2 rfl (tk 3 rfl (tk 4 rfl tn))) ?_ rfl (⟨by omega,by omega⟩) (fun m hJ Y _=>?_)
 refine tc rfl (ps_r _) (tn)
 rotate_left 1
 refine zH (zH (zJ rfl (zA1 (old rfl rfl) (zA1 (old rfl rfl) (zA1 (omv rfl) (zA1 (oca rfl rfl fun _=>zU3 (by omega) (by omega)) (zA1 (ont rfl) (zA0 ?_))))))))
 refine t_if rfl (fun c1=>?_) (fun c1=>?_)
 refine yA (zT (zJ rfl (zA1 (omv rfl) (zA1 (oml rfl rfl (by omega)) (zA1 (oas rfl) (zA0 ?_))))))
 rotate_left 1
 refine xN (zH (zJ rfl (zA1 (oas rfl) (zA0 (zH (zT ?_))))))
 rotate_left 1
 ·have h1:=c1.h
  have hn1:¬ dyOk p q m:=by simpa using h1
  have hm:m < 32 * (n + 1 + (n + 1)):=Nat.lt_of_not_le fun c=>hn1 (zN5 hB2 c)
  refine ⟨2 * m,tes ?_ ?_ (List.Sublist.refl _),(by omega),(by omega)⟩
  refine tc rfl (ps_r _) (tn)
  refine tc rfl (ps_r _) (tc rfl (ps_r _) (tc rfl (ps_r _) (tn)))
 have hm:dyOk p q m:=by have h1:=c1.h; simpa using h1
 refine xL (σ:=Nat × Nat) (fun s=>[(6,True,exP (.int .i64 ((s.2:Nat):Int))),(7,True,exP (.int .i64 ((s.1:Nat):Int)))]) (fun s=>[.blk b4 33 (zc (.agg #[.bool false,.slice none 0 0,.slice none 0 0]))]) (fun s=>s.1≤s.2∧s.2≤640∧dyOk p q s.2∧∀ r,r < s.1→¬ dyOk p q r) (fun s=>s.2 - s.1) ((0,m)) (tk 2 rfl (tk 3 rfl (tk 4 rfl tn))) ?_ rfl (⟨by omega,by omega,hm,by omega⟩) (fun s hJ Y _=>?_)
 refine tc rfl (ps_r _) (tc rfl (ps_r _) (tn))
 rotate_left 1
 obtain ⟨x,y⟩:=s
 dsimp only at hJ ⊢
 obtain ⟨j1,j2,j3,j4⟩:=hJ
 refine zH (zH (zJ rfl (zA1 (omv rfl) (zA1 (omv rfl) (zA1 (olt rfl rfl) (zA0 ?_))))))
 refine t_if rfl (fun c2=>?_) (fun c2=>?_)
 refine yA (zT (zH (zJ rfl (zA1 (omv rfl) (zA1 (omv rfl) (zA1 (oad rfl rfl (by omega)) (zA1 (oqu rfl rfl (by omega)) (zA1 (oas rfl) (zA0 ?_)))))))))
 refine zH (zJ rfl (zA1 (old rfl rfl) (zA1 (old rfl rfl) (zA1 (omv rfl) (zA1 (oca rfl rfl fun _=>zU3 (by omega) (by (simp; omega))) (zA0 ?_))))))
 refine t_if rfl (fun c3=>?_) (fun c3=>?_)
 refine zJ rfl (zA1 (omv rfl) (zA1 (oas rfl) (zA0 ?_)))
 rotate_left 1
 refine zJ rfl (zA1 (omv rfl) (zA1 (oad rfl rfl (by omega)) (zA1 (oas rfl) (zA0 ?_))))
 rotate_left 1
 rotate_left 1
 ·have hc:=dt c2; have h3:dyOk p q ((x + y) / 2):=dt c3
  refine ⟨(x,(x + y) / 2),tes ?_ ?_ (List.Sublist.refl _),?_,(by omega)⟩
  refine tc rfl (ps_r _) (tc rfl (ps_r _) (tn))
  refine tc rfl (ps_r _) (tc rfl (ps_r _) (tc rfl (ps_r _) (tn)))
  rotate_left 1
  exact ⟨by dsimp only; omega,by dsimp only; omega,h3,j4⟩
 ·have hc:=dt c2; have h3:¬ dyOk p q ((x + y) / 2):=df c3
  refine ⟨((x + y) / 2 + 1,y),tes ?_ ?_ (List.Sublist.refl _),?_,(by omega)⟩
  refine tc rfl (ps_r _) (tc rfl (ps_r _) (tn))
  refine tc rfl (ps_r _) (tc rfl (ps_r _) (tc rfl (ps_r _) (tn)))
  rotate_left 1
  exact ⟨by dsimp only; omega,j2,j3,fun r (hr':r < (x + y) / 2 + 1)=>fun c=>h3 (zN5 c (by omega))⟩
 have hxy:x=y:=by have:=df c2; omega
 subst hxy
 have hS:dyS p q=x:=wN hlt j3 j4
 have e0:cntN ((x:Nat):Int) 65536=x:=mQ (m:=65536) (by omega)
 have e1:val [1]=1:=rfl
 have hL:(limbs (val [1] * 2 ^ cntN ((x:Nat):Int) 65536)).length≤127:=by
  rw [e0,e1]; exact rN (x:=1) (n:=1) (by rw [jX]; exact Nat.le_refl 1) (by omega)
 have e2:val (limbs (val [1] * 2 ^ cntN ((x:Nat):Int) 65536))=2 ^ x:=by rw [zP,e0,e1,Nat.one_mul]
 refine xN (zH (zJ rfl (zA1 (oca rfl rfl fun _=>k5of (k:=0) (N:=300) (by omega) (by omega)) (tal fun b9=>(tst 0 rfl rfl rfl rfl rfl rfl (zA0 (zH (zT (zH ?_)))))))))
 refine zJ rfl (zA1 (old rfl rfl) (zA1 (oca rfl rfl fun _=>rY (by omega)) (zA1 (oge rfl rfl) (zA1 (oas rfl) (zA0 ?_)))))
 refine t_if rfl (fun c3=>?_) (fun c3=>?_)
 refine zJ rfl (zA1 (old rfl rfl) (zA1 (omv rfl) (zA1 (oca rfl rfl fun _=>rZ (by omega) (by omega)) (tst 0 rfl rfl rfl rfl rfl rfl (zA0 (zH ?_))))))
 apply uQ 1 11 9 [(8,10,0),(9,1000009,0)] rfl rfl mixed rfl rfl rfl
 refine cx1 (oldo 0 rfl rfl rfl rfl) rfl (cx1 (obs rfl rfl rfl rfl rfl rfl) rfl (cx1 (omv rfl) rfl (cx1 (oca rfl rfl fun _=>k2up (xs:=[1]) (by (simp; done))) rfl (cx1 (oca rfl rfl fun _=>pN (by omega) (by omega)) rfl (cx1 (omv rfl) rfl (cx1 (oex rfl rfl) rfl (cx1 (oex rfl rfl) rfl (cN rfl rfl (cal) (cS rfl rfl rfl (cst rfl rfl rfl) ?_)))))))))
 refine cx1 (oas rfl) rfl ?_
 refine cE (fun b10=>?_)
 refine zA0 (zH (zJ rfl (zA1 (oldo 0 rfl rfl rfl rfl) (tst 2 rfl rfl rfl rfl rfl rfl (zA1 (oas rfl) (zA0 (zZ ?_)))))))
 refine ⟨[_,_],rsc 2 rfl rfl rfl rfl (rst rfl rs0),uW ?_ ?_⟩
 rotate_left 1
 refine psb (by (simp; omega))
 refine zH (zJ rfl (zA1 (old rfl rfl) (zA1 (oca rfl rfl fun _=>rY (by omega)) (zA1 (ole rfl rfl) (zA1 (oas rfl) (zA0 ?_))))))
 refine t_if rfl (fun c4=>?_) (fun c4=>?_)
 refine zJ rfl (zA1 (old rfl rfl) (zA1 (oca rfl rfl fun _=>yA0 (by omega)) (zA1 (omv rfl) (zA1 (oca rfl rfl fun _=>rZ (by omega) (by omega)) (zA1 (oca rfl rfl fun _=>zU5 (by omega)) (tst 0 rfl rfl rfl rfl rfl rfl (zA0 (zH ?_))))))))
 apply uQ 1 11 9 [(8,10,0),(9,1000009,0)] rfl rfl mixed rfl rfl rfl
 refine cx1 (oldo 0 rfl rfl rfl rfl) rfl (cx1 (obs rfl rfl rfl rfl rfl rfl) rfl (cx1 (omv rfl) rfl (cx1 (oca rfl rfl fun _=>k2up (xs:=[1]) (by (simp; done))) rfl (cx1 (oca rfl rfl fun _=>pN (by omega) (by omega)) rfl (cx1 (omv rfl) rfl (cx1 (oex rfl rfl) rfl (cx1 (oex rfl rfl) rfl (cN rfl rfl (cal) (cS rfl rfl rfl (cst rfl rfl rfl) ?_)))))))))
 refine cx1 (oas rfl) rfl ?_
 refine cE (fun b10=>?_)
 refine zA0 (zH (zJ rfl (zA1 (oldo 0 rfl rfl rfl rfl) (tst 2 rfl rfl rfl rfl rfl rfl (zA1 (oas rfl) (zA0 (zZ ?_)))))))
 refine ⟨[_,_],rsc 2 rfl rfl rfl rfl (rst rfl rs0),uW ?_ ?_⟩
 rotate_left 1
 refine psb (by (simp; omega))
 refine yA (zH ?_)
 apply uQ 1 11 9 [(8,10,0),(9,1000009,0)] rfl rfl mixed rfl rfl rfl
 refine cx1 (oldo 0 rfl rfl rfl rfl) rfl (cx1 (obs rfl rfl rfl rfl rfl rfl) rfl (cx1 (omv rfl) rfl (cx1 (oca rfl rfl fun _=>k2up (xs:=[1]) (by (simp; done))) rfl (cx1 (oca rfl rfl fun _=>pN (by omega) (by omega)) rfl (cx1 (omv rfl) rfl (cx1 (oex rfl rfl) rfl (cx1 (oex rfl rfl) rfl (cN rfl rfl (cal) (cS rfl rfl rfl (cst rfl rfl rfl) ?_)))))))))
 refine cx1 (oas rfl) rfl ?_
 refine cE (fun b10=>?_)
 refine zA0 (zH (zJ rfl (zA1 (oldo 0 rfl rfl rfl rfl) (tst 2 rfl rfl rfl rfl rfl rfl (zA1 (oas rfl) (zA0 (zZ ?_)))))))
 refine ⟨[_,_],rsc 2 rfl rfl rfl rfl (rst rfl rs0),uW ?_ ?_⟩
 rotate_left 1
 refine psb (by (simp; omega))
 ·have h:=zJ8.1 (dt c3)
  refine nN ?_ (by omega)
  rw [e2]; unfold gQ oN; rw [if_pos hlt,if_pos (by grind),if_neg (by grind),hS]; rfl
 ·have h:=fZ.1 (dt c4)
  refine nN ?_ (by omega)
  have hS2:dyS (-q) (-p)=x:=wN (by grind) (zV6.2 j3) fun r hr c=>j4 r hr (zV6.1 c)
  rw [e2]; unfold gQ oN; rw [if_pos hlt,if_neg (by grind),if_neg (by grind),hS2]; unfold yA3; rw [Rat.neg_mkRat]
 ·have h:=mt zJ8.2 (df c3)
  have h2:=mt fZ.2 (df c4)
  refine nN ?_ (by omega)
  unfold gQ oN; rw [if_pos hlt,if_pos (by grind),if_pos (by grind)]; exact Rat.zero_mkRat _
end Go.Proofs.YtflobagimodmgaaGreatDoor
set_option maxHeartbeats 1000000
namespace Go.Proofs.YtflobagimodmgaaGreatDoor
open Go.SL Go.RowKit Go.Proofs Tryz
theorem zX6 {n:Nat} (a:RX) (h1:a.1.2.length≤n) (h2:a.2.length≤n) {M:Nat→Prop} {w:World} {us:List Value} (k:(rtx a).p M w us):(rtq n (qx a)).p M w us:=by
 obtain ⟨s,b,d,e,g⟩:=CQ.h (c:=rtx a) k
 exact ⟨s,b,d,e,g.up (by omega)⟩
theorem rxs_q {n:Nat} {l:List RX} (h:∀ a ∈ l,a.1.2.length≤n∧a.2.length≤n):PSub (sv (sl 3 (l.map rtx))) (sv (sl 3 ((l.map qx).map (rtq n)))):=fun M w v k=>by
 rw [List.map_map]
 exact wP (f:=rtx) (g:=rtq n ∘ qx) (fun a ha _ _ _=>zX6 a (h a ha).1 (h a ha).2) (fun _=>rfl) k
instance:Df RX:=⟨((false,[]),[])⟩
def gr22 (l:List RX):Bool:=decide (20 < l.length) || l.any fun a=>decide (2 < max a.1.2.length a.2.length)
theorem gr22_at {l:List RX} {i:Nat} (h:i < l.length) (k:2 < max (l.getD i Df.d).1.2.length (l.getD i Df.d).2.length):gr22 l=true:=by
 rw [List.getD_eq_getElem?_getD,List.getElem?_eq_getElem h,Option.getD_some] at k
 unfold gr22; rw [Bool.or_eq_true]
 exact .inr (List.any_eq_true.2 ⟨_,List.getElem_mem h,decide_eq_true k⟩)
theorem vA {l:List RX}:CTy prog 57 [sv (sl 3 (l.map rtx))] (exP (.bool (gr22 l))):=by
 refine ctc func57 rfl rfl rfl rfl fun X=>(zH (zJ rfl (zA1 (oas rfl) (zA0 (zH (zH (zJ rfl (zA1 (oas rfl) (zA0 ?_)))))))))
 refine zT ?_
 rotate_left 1
 refine xL (σ:=Nat) (fun i=>[(3,True,exP (.int .i64 ((i:Nat):Int)))]) (fun i=>[]) (fun i=>i≤l.length∧i≤21∧∀ j,j < i→max (l.getD j Df.d).1.2.length (l.getD j Df.d).2.length≤2) (fun i=>l.length - i) (0) (tk 0 rfl tn) ?_ rfl (⟨by omega,by omega,by omega⟩) (fun i hJ Y _=>?_)
 refine tc rfl (ps_r _) (tn)
 rotate_left 1
 obtain ⟨hi,h9,hs⟩:=hJ
 refine zH (zH (zJ rfl (zA1 (omv rfl) (zA1 (omv rfl) (zA1 (oln rfl) (zA1 (olt rfl rfl) (zA1 (omv rfl) (t1g rfl rfl (omv rfl) (t1g rfl rfl (ole rfl rfl) ?_)))))))))
 refine zA1 (opk rfl rfl rfl) (zA0 ?_)
 refine t_if rfl (fun c0=>?_) (fun c0=>?_)
 refine yA (zH (zT (zH (yR 15 mixed rfl rfl (d1 (omv rfl) (d1 (omv rfl) (d1 (oix _ rfl rfl rfl (fun _=>rfl) (fun _=>(by (have e0:=dand c0; omega)))) (d1 (ofa rfl rfl) (d1 (ofa rfl rfl) ?_)))))))))
 refine d1 (old rfl rfl) (d1 (oln rfl) (d1 (omv rfl) (d1 (omv rfl) (d1 (oix _ rfl rfl rfl (fun _=>rfl) (fun _=>(by (have e0:=dand c0; omega)))) (d1 (ofa rfl rfl) (d1 (old rfl rfl) (d1 (oln rfl) (d1 (omx rfl rfl) (d1 (ogt rfl rfl) ?_)))))))))
 refine d0 (zA0 ?_)
 refine t_if rfl (fun c1=>?_) (fun c1=>?_)
 refine zH (zJ rfl (zA1 (oas rfl) (zA0 (zZ (⟨[_],rst rfl rs0,yN ?_⟩)))))
 refine psb ?_
 rotate_left 1
 refine yA (zJ rfl (zA1 (omv rfl) (zA1 (oad rfl rfl (by omega)) (zA1 (oas rfl) (zA0 ?_)))))
 rotate_left 1
 refine xN (zH (zJ rfl (zA1 (omv rfl) (zA1 (oln rfl) (zA1 (ogt rfl rfl) (zA1 (oas rfl) (zA0 (zZ (⟨[_],rst rfl rs0,yN ?_⟩)))))))))
 refine psb ?_
 rotate_left 1
 ·have:=dand c0
  exact (gr22_at (i:=i) (by omega) (by have:=dt c1; omega)).symm
 ·have:=dand c0
  refine ⟨i + 1,tes ?_ ?_ (List.Sublist.refl _),?_,(by omega)⟩
  refine tc rfl (ps_r _) (tn)
  refine tc rfl (ps_r _) (tn)
  rotate_left 1
  refine ⟨by omega,by omega,fun j hj=>?_⟩
  rcases Nat.lt_or_ge j i with c | c
  ·exact hs j c
  ·rw [show j=i by omega]; have:=df c1; omega
 ·have:=dor c0
  unfold gr22
  rw [Bool.eq_iff_iff,Bool.or_eq_true,decide_eq_true_eq,decide_eq_true_eq,List.any_eq_true]
  refine ⟨fun h => .inl (by omega),fun h=>?_⟩
  rcases h with h | ⟨a,ha,h⟩
  ·omega
  ·obtain ⟨k,hk,rfl⟩:=List.mem_iff_getElem.1 ha
   rcases Nat.lt_or_ge k i with c | c
   ·have:=hs k c
    rw [List.getD_eq_getElem?_getD,List.getElem?_eq_getElem hk,Option.getD_some] at this
    have:=of_decide_eq_true h; omega
   ·omega
end Go.Proofs.YtflobagimodmgaaGreatDoor
set_option maxHeartbeats 1000000
namespace Go.Proofs.YtflobagimodmgaaGreatDoor
open Go.SL Go.RowKit Go.Proofs Tryz
theorem k7betw {Ψ Φ:PV} {n:Nat} {p q:Rat} [h:QR Ψ n p] [k:QR Φ n q] (hn:n≤3):CTy prog 129 [Ψ,Φ] (tu [ag (rtc 400 (gQ p q)),exP (.bool (decide (p < q)))]):=zV8 (bo func129) fun g1 g2=>w7betw (n:=n + 1) (by omega) (xS g1 (by omega)) (xS g2 (by omega))
theorem k7ofK {k K:Nat} (hk:k < 9223372036854775808) (hK:2≤K):CTy prog 94 [exP (.int .i64 ((k:Nat):Int))] (ag (rtc K ((k:Nat):Rat))):=fU (k7of hk) (nN rfl hK)
theorem w22mids {l:List Rat} {n:Nat} (hn:n≤3) (hl:l.length≤1000000):CTy prog 64 [sv (sl 3 (l.map (rtq n)))] (sv (sl 3 ((gT l).map (rtc 400)))):=by
 refine ctc func64 rfl rfl rfl rfl fun X=>(zH (zJ rfl (zA1 (oas rfl) (zA0 (zH (zJ rfl (zA1 (oas rfl) (zA0 (zH ?_)))))))))
 refine zH (zJ rfl (zA1 (oas rfl) (zA0 (zT ?_))))
 rotate_left 1
 refine t_ts (fQ 33 3) ?_
 refine xL (σ:=Nat × Value) (fun s=>[(3,True,exP s.2),(4,True,exP (.int .i64 ((s.1:Nat):Int)))]) (fun s=>[.row s.2 33 3 (((gT l).take s.1).map (rtc 400))]) (fun s=>s.1≤l.length - 1) (fun s=>l.length - s.1) ((0,.slice none 0 0)) (tk 0 rfl tn) ?_ rfl ((by simp)) (fun s hJ Y _=>?_)
 refine tc rfl (ps_r _) (tc rfl (ps_r _) (tn))
 rotate_left 1
 refine zH (zH (zJ rfl (zA1 (omv rfl) (zA1 (oad rfl rfl (by omega)) (zA1 (omv rfl) (zA1 (oln rfl) (zA1 (olt rfl rfl) (zA0 ?_))))))))
 refine t_if rfl (fun c0=>?_) (fun c0=>?_)
 refine yA (zH (zT (zH ?_)))
 apply uQ 1 16 14 [(13,5,0),(14,1000014,0)] rfl rfl mixed rfl rfl rfl
 refine cx1 (omv rfl) rfl (cx1 (omv rfl) rfl (cx1 (oix _ rfl rfl rfl (fun _=>rfl) (fun _=>(by (have e0:=dt c0; omega)))) rfl (cx1 (old rfl rfl) rfl (cx1 (omv rfl) rfl (cx1 (omv rfl) rfl (cx1 (oad rfl rfl (by omega)) rfl (cx1 (oix _ rfl rfl rfl (fun _=>rfl) (fun _=>(by (have e0:=dt c0; simp; omega)))) rfl (cx1 (old rfl rfl) rfl (cx1 (oca rfl rfl fun _=>k7betw (by omega)) rfl ?_)))))))))
 refine cx1 (omv rfl) rfl (cx1 (oex rfl rfl) rfl (cx1 (oex rfl rfl) rfl (cN rfl rfl (cal) (cS rfl rfl rfl (cst rfl rfl rfl) (cx1 (oas rfl) rfl ?_)))))
 refine cE (fun b5=>?_)
 refine zA0 (zH (zH (zJ rfl (zA1 (omv rfl) (zA1 (ont rfl) (zA0 ?_))))))
 refine t_if rfl (fun c1=>?_) (fun c1=>?_)
 refine zJ rfl (zA1 (oca rfl rfl fun _=>k7ofK (k:=0) (K:=400) (by omega) (by omega)) (tst 0 rfl rfl rfl rfl rfl rfl (zA0 (zJ rfl (zA1 (omv rfl) (zA1 (oldo 0 rfl rfl rfl rfl) (zA1 (obs rfl rfl rfl rfl rfl rfl) (tap 1 rfl rfl rfl (by (simp; omega)) rfl fun r33=>(zA1 (oas rfl) ?_)))))))))
 refine zA0 (zJ rfl (zA1 (omv rfl) (zA1 (oad rfl rfl (by omega)) (zA1 (oas rfl) (zA0 ?_)))))
 rotate_left 1
 refine yA (zJ rfl (zA1 (omv rfl) (zA1 (oldo 0 rfl rfl rfl rfl) (zA1 (obs rfl rfl rfl rfl rfl rfl) (tap 1 rfl rfl rfl (by (simp; omega)) rfl fun r33=>(zA1 (oas rfl) (zA0 (zJ rfl (zA1 (omv rfl) ?_)))))))))
 refine zA1 (oad rfl rfl (by omega)) (zA1 (oas rfl) (zA0 ?_))
 rotate_left 1
 refine xN (zH (zJ rfl (zA1 (omv rfl) (zA1 (oas rfl) (zA0 (t_ts (cZ (s:=2) 0 rfl rfl) (zZ (⟨[_],rst rfl rs0,yN ?_⟩))))))))
 rotate_left 1
 ·have h0:=dt c0
  have h1:¬ l.getD s.1 0 < l.getD (s.1 + 1) 0:=of_decide_eq_false (by have:=c1.h; rw [Bool.not_eq_true'] at this; exact this)
  refine ⟨(s.1 + 1,r33),tes ?_ ?_ ?_,(by omega),(by omega)⟩
  refine tc rfl (ps_r _) (tc rfl (ps_r _) (tn))
  refine tc rfl (ps_r _) (tn)
  rotate_left 1
  rw [(yZ (Df.d:Rat) (l:=gT l) (s:=s.1) (by rw [uI]; omega)).1]
  rw [show (gT l).getD s.1 Df.d=((0:Nat):Rat) by rw [show (gT l).getD s.1 Df.d=gQ (l.getD s.1 0) (l.getD (s.1 + 1) 0) from kV (by omega)]; unfold gQ; rw [if_neg h1]; rfl,List.map_append]
  exact List.sublist_cons_self _ _
 ·have h0:=dt c0
  refine ⟨(s.1 + 1,r33),tes ?_ ?_ ?_,(by omega),(by omega)⟩
  refine tc rfl (ps_r _) (tc rfl (ps_r _) (tn))
  refine tc rfl (ps_r _) (tn)
  rotate_left 1
  rw [(yZ (Df.d:Rat) (l:=gT l) (s:=s.1) (by rw [uI]; omega)).1]
  rw [show (gT l).getD s.1 Df.d=gQ (l.getD s.1 0) (l.getD (s.1 + 1) 0) from kV (by omega),List.map_append]
  first | exact List.sublist_cons_self _ _ | exact List.Sublist.refl _
 ·have h0:=df c0
  rw [List.take_of_length_le (by rw [uI]; omega)]
  exact PSub.refl _
end Go.Proofs.YtflobagimodmgaaGreatDoor
set_option maxHeartbeats 1000000
namespace Go.Proofs.YtflobagimodmgaaGreatDoor
open Go.SL Go.RowKit Go.Proofs Tryz
theorem w22rises {l:List Rat} {n:Nat} (hn:n≤1990) (hl:l.length≤1000000):CTy prog 66 [sv (sl 3 (l.map (rtq n)))] (exP (.bool (decide (fR l)))):=by
 refine ctc func66 rfl rfl rfl rfl fun X=>(zH (zJ rfl (zA1 (oas rfl) (zA0 (zH (zH (zJ rfl (zA1 (oas rfl) (zA0 ?_)))))))))
 refine zT ?_
 rotate_left 1
 refine xL (σ:=Nat) (fun i=>[(3,True,exP (.int .i64 ((i:Nat):Int)))]) (fun i=>[]) (fun i=>i≤l.length∧∀ j,j < i→j + 1 < l.length→l.getD j 0 < l.getD (j + 1) 0) (fun i=>l.length - i) (0) (tk 0 rfl tn) ?_ rfl (⟨by omega,by omega⟩) (fun i hJ Y _=>?_)
 refine tc rfl (ps_r _) (tn)
 rotate_left 1
 obtain ⟨hi,hs⟩:=hJ
 refine zH (zH (zJ rfl (zA1 (omv rfl) (zA1 (oad rfl rfl (by omega)) (zA1 (omv rfl) (zA1 (oln rfl) (zA1 (olt rfl rfl) (zA0 ?_))))))))
 refine t_if rfl (fun c0=>?_) (fun c0=>?_)
 refine yA (zH (zT (zH (yR 11 mixed rfl rfl (d1 (omv rfl) (d1 (omv rfl) (d1 (oix _ rfl rfl rfl (fun _=>rfl) (fun _=>(by (have e0:=dt c0; omega)))) (d1 (old rfl rfl) (d1 (omv rfl) ?_)))))))))
 refine d1 (omv rfl) (d1 (oad rfl rfl (by omega)) (d1 (oix _ rfl rfl rfl (fun _=>rfl) (fun _=>(by (have e0:=dt c0; simp; omega)))) (d1 (old rfl rfl) (d1 (oca rfl rfl fun _=>nB (by omega) (by omega)) (d1 (oge rfl rfl) (d0 (zA0 ?_)))))))
 refine t_if rfl (fun c1=>?_) (fun c1=>?_)
 refine zH (zJ rfl (zA1 (oas rfl) (zA0 (zZ (⟨[_],rst rfl rs0,yN ?_⟩)))))
 refine psb ?_
 rotate_left 1
 refine yA (zJ rfl (zA1 (omv rfl) (zA1 (oad rfl rfl (by omega)) (zA1 (oas rfl) (zA0 ?_)))))
 rotate_left 1
 refine xN (zH (zJ rfl (zA1 (oas rfl) (zA0 (zZ (⟨[_],rst rfl rs0,yN ?_⟩))))))
 refine psb ?_
 rotate_left 1
 ·have h0:=dt c0
  have h1:=qL.1 (dt c1)
  rw [decide_eq_false fun h=>by have:=h i (by omega); exact absurd h1 (by have e1:l.getD i Df.d=l.getD i 0:=rfl; have e2:l.getD (i + 1) Df.d=l.getD (i + 1) 0:=rfl; rw [e1,e2]; grind)]
 ·have h0:=dt c0
  have h1:=mt qL.2 (df c1)
  refine ⟨i + 1,tes ?_ ?_ (List.Sublist.refl _),?_,(by omega)⟩
  refine tc rfl (ps_r _) (tn)
  refine tc rfl (ps_r _) (tn)
  rotate_left 1
  refine ⟨by omega,fun j hj hj2=>?_⟩
  rcases Nat.lt_or_ge j i with c | c
  ·exact hs j c hj2
  ·obtain rfl:j=i:=by omega
   have e1:l.getD j Df.d=l.getD j 0:=rfl
   have e2:l.getD (j + 1) Df.d=l.getD (j + 1) 0:=rfl
   rw [e1,e2] at h1; grind
 ·have h0:=df c0
  have hr:fR l:=fun j hj=>hs j (by omega) hj
  rw [decide_eq_true hr]
end Go.Proofs.YtflobagimodmgaaGreatDoor
set_option maxHeartbeats 4000000
namespace Go.Proofs.YtflobagimodmgaaGreatDoor
open Go.SL Go.RowKit Go.Proofs Tryz
section
variable {Ψ Φ : PV} {n m N : Nat} {p q : P2} {a b : List P2}
theorem vpt_pl [h:VPt Ψ n a] {M:Nat→Prop} {w:World} {v:Value} (h1:Ψ.p M w v):∀ x ∈ a,plen x (n + 1):=fun x hx=>by
 obtain ⟨cs,h3,h2⟩:=(h.h h1).row
 obtain ⟨i,hi,rfl⟩:=List.mem_iff_getElem.1 hx
 obtain ⟨us,_,_,s,x,d,t,b,e,_,g⟩:=h2 i _ (List.getElem?_eq_getElem hi)
 exact ⟨g.x.rlen,g.y.rlen⟩
end
end Go.Proofs.YtflobagimodmgaaGreatDoor
set_option maxHeartbeats 4000000
namespace Go.Proofs.YtflobagimodmgaaGreatDoor
open Go.SL Go.RowKit Go.Proofs Tryz
theorem pa_sub {c c':CT} (h:∀ M w us,c.p M w us→c'.p M w us):PSub (pa c) (pa c'):=fun M w v ⟨b,o,us,e,h1,h2,h3⟩=>⟨b,o,us,e,h1,h2,h _ _ _ h3⟩
end Go.Proofs.YtflobagimodmgaaGreatDoor
set_option maxHeartbeats 4000000
namespace Go.Proofs.YtflobagimodmgaaGreatDoor
open Go.SL Go.RowKit Go.Proofs Tryz
theorem wmidsA {l:List Rat} {n:Nat} (hn:n≤280) (hl:l.length≤1000000):CTy prog 63 [sv (sl 3 (l.map (rtq n)))] (sv (sl 3 ((gT l).map (rtc (4 * n + 64))))):=by
 refine ctc func63 rfl rfl rfl rfl fun X=>(zH (zJ rfl (zA1 (oas rfl) (zA0 (zH (zH (zJ rfl (zA1 (omv rfl) (zA1 (oln rfl) ?_)))))))))
 refine zA1 (osb rfl rfl (by omega)) (zA1 (omx rfl rfl) (zA1 (omv rfl) (zA0 (zT ?_))))
 rotate_left 1
 refine t_ts (fQ 33 3) ?_
 refine xL (σ:=Nat × Value) (fun s=>[(2,True,exP s.2),(10,True,exP (.int .i64 ((s.1:Nat):Int)))]) (fun s=>[.row s.2 33 3 (((gT l).take s.1).map (rtc (4 * n + 64)))]) (fun s=>s.1≤l.length - 1) (fun s=>l.length - s.1) ((0,.slice none 0 0)) (tk 0 rfl (tk 9 rfl tn)) ?_ rfl ((by simp)) (fun s hJ Y _=>?_)
 refine tc rfl (ps_r _) (tc rfl (ps_r _) (tn))
 rotate_left 1
 refine zH (zJ rfl (zA1 (olt rfl rfl) (zA0 (zH ?_))))
 refine t_if rfl (fun c0=>?_) (fun c0=>?_)
 refine yA (zH (zT (zH (zJ rfl (zA1 (omv rfl) (zA1 (oas rfl) (zA0 (zH ?_))))))))
 apply uQ 1 16 14 [(13,4,0),(14,1000014,0)] rfl rfl mixed rfl rfl rfl
 refine cx1 (omv rfl) rfl (cx1 (omv rfl) rfl (cx1 (oix _ rfl rfl rfl (fun _=>rfl) (fun _=>(by (have e0:=dt c0; omega)))) rfl (cx1 (old rfl rfl) rfl (cx1 (omv rfl) rfl (cx1 (omv rfl) rfl (cx1 (oad rfl rfl (by omega)) rfl (cx1 (oix _ rfl rfl rfl (fun _=>rfl) (fun _=>(by (have e0:=dt c0; simp; omega)))) rfl (cx1 (old rfl rfl) rfl (cx1 (oca rfl rfl fun _=>kbetwA (K:=4 * n + 64) (by omega) (by omega) (by omega)) rfl ?_)))))))))
 refine cx1 (omv rfl) rfl (cx1 (oex rfl rfl) rfl (cx1 (oex rfl rfl) rfl (cN rfl rfl (cal) (cS rfl rfl rfl (cst rfl rfl rfl) (cx1 (oas rfl) rfl ?_)))))
 refine cE (fun b4=>?_)
 refine zA0 (zH (zH (zJ rfl (zA1 (omv rfl) (zA1 (ont rfl) (zA0 ?_))))))
 refine t_if rfl (fun c1=>?_) (fun c1=>?_)
 refine zJ rfl (zA1 (oca rfl rfl fun _=>tW (k:=0) (K:=4 * n + 64) (by omega) (by omega)) (tst 0 rfl rfl rfl rfl rfl rfl (zA0 (zJ rfl (zA1 (omv rfl) (zA1 (oldo 0 rfl rfl rfl rfl) (zA1 (obs rfl rfl rfl rfl rfl rfl) (tap 1 rfl rfl rfl (by (simp; omega)) rfl fun r32=>(zA1 (oas rfl) ?_)))))))))
 refine zA0 (zJ rfl (zA1 (oad rfl rfl (by omega)) (zA1 (omv rfl) (zA0 ?_))))
 rotate_left 1
 refine yA (zJ rfl (zA1 (omv rfl) (zA1 (oldo 0 rfl rfl rfl rfl) (zA1 (obs rfl rfl rfl rfl rfl rfl) (tap 1 rfl rfl rfl (by (simp; omega)) rfl fun r32=>(zA1 (oas rfl) (zA0 (zJ rfl (zA1 (oad rfl rfl (by omega)) ?_)))))))))
 refine zA1 (omv rfl) (zA0 ?_)
 rotate_left 1
 refine xN (zH (zJ rfl (zA1 (omv rfl) (zA1 (oas rfl) (zA0 (t_ts (cZ (s:=2) 0 rfl rfl) (zZ (⟨[_],rst rfl rs0,yN ?_⟩))))))))
 rotate_left 1
 ·have h0:=dt c0
  have h1:¬ l.getD s.1 0 < l.getD (s.1 + 1) 0:=of_decide_eq_false (by have:=c1.h; rw [Bool.not_eq_true'] at this; exact this)
  refine ⟨(s.1 + 1,r32),tes ?_ ?_ ?_,(by omega),(by omega)⟩
  refine tc rfl (ps_r _) (tc rfl (ps_r _) (tn))
  refine tc rfl (ps_r _) (tc rfl (ps_r _) (tn))
  rotate_left 1
  rw [(yZ (Df.d:Rat) (l:=gT l) (s:=s.1) (by rw [uI]; omega)).1]
  rw [show (gT l).getD s.1 Df.d=((0:Nat):Rat) by rw [show (gT l).getD s.1 Df.d=gQ (l.getD s.1 0) (l.getD (s.1 + 1) 0) from kV (by omega)]; unfold gQ; rw [if_neg h1]; rfl,List.map_append]
  exact List.sublist_cons_self _ _
 ·have h0:=dt c0
  refine ⟨(s.1 + 1,r32),tes ?_ ?_ ?_,(by omega),(by omega)⟩
  refine tc rfl (ps_r _) (tc rfl (ps_r _) (tn))
  refine tc rfl (ps_r _) (tc rfl (ps_r _) (tn))
  rotate_left 1
  rw [(yZ (Df.d:Rat) (l:=gT l) (s:=s.1) (by rw [uI]; omega)).1]
  rw [show (gT l).getD s.1 Df.d=gQ (l.getD s.1 0) (l.getD (s.1 + 1) 0) from kV (by omega),List.map_append]
  exact List.sublist_cons_self _ _
 ·have h0:=df c0
  rw [List.take_of_length_le (by rw [uI]; omega)]
  exact PSub.refl _
theorem k22allx {ls:List (List PX)} {b:PX × PX} (h:ls.length≤5) (hb:gU [b.1,b.2]=true) (hs:∀ l ∈ ls,l.length≤6∧gU l=true):CTy prog 45 [sv (sl 1 (ls.map pcx)),ag (st [ptx b.1,ptx b.2])] (sv (sl 3 ((cutsOf (pxs ls) (bxs b)).map (rtc 350)))) :=
 ⟨(bo func45),fun M w vs hM hT hv=>by
  obtain ⟨v,u,e,h1,h2⟩:=fa2 hv
  have q1:=zS8 (fun l hl=>(hs l hl).2) M w v h1
  have q2:=zW0 hb M w u h2
  refine (k22all (ls:=pxs ls) (b:=bxs b) (by simpa using h) (fun l hl=>by obtain ⟨a,ha,rfl⟩:=List.mem_map.1 hl; rw [List.length_map]; have:=(hs a ha).1; omega) (fun l hl x hx=>?_) ?_).run M w vs hM hT ((fs1 (zS8 fun l hl=>(hs l hl).2) (fs1 (zW0 hb) fs0)) _ _ _ hv)
  ·obtain ⟨v',us,e1,g1,g2,g3⟩:=q1
   obtain ⟨i,hi,rfl⟩:=List.mem_iff_getElem.1 hl
   have k:=dZ (i:=i) (c:=pcs 1 (pxs ls)[i]) g2 (by rw [List.getElem?_map,List.getElem?_eq_getElem hi]; rfl)
   obtain ⟨y,ys,e2,_⟩:=id k
   rw [e2] at k
   have:=vpt_pl (Ψ:=sv (pcs 1 (pxs ls)[i])) (n:=1) (a:=(pxs ls)[i]) k x hx
   exact ⟨this.x,this.y⟩
  ·obtain ⟨us,e1,x,y,e2,k1,z,o,e3,k2,e4⟩:=q2
   obtain ⟨_,_,_,_,_,_,_,g⟩:=CP.h (c:=ptq 1 (px b.1)) k1
   obtain ⟨_,_,_,_,_,_,_,g'⟩:=CP.h (c:=ptq 1 (px b.2)) k2
   exact ⟨g.x.rlen,g'.x.rlen⟩⟩
theorem rtx_c {x:RX} {n:Nat} (h:x.1.2.length≤n∧x.2.length≤n):∀ M w us,(rtx x).p M w us→(rtq n (qx x)).p M w us:=fun M w us k=>zX6 x h.1 h.2 k
theorem zM8 {l:List RX} (h:gr22 l=false):l.length≤20∧∀ a ∈ l,a.1.2.length≤2∧a.2.length≤2:=by
 unfold gr22 at h
 rw [Bool.or_eq_false_iff,decide_eq_false_iff_not,List.any_eq_false] at h
 exact ⟨by omega,fun a ha=>by have:=h.2 a ha; simp only [decide_eq_true_eq] at this; omega⟩
theorem law_CutsTells {ls:List (List PX)} {b:PX × PX} {xs:List RX} {x:RX}:CTy prog 10 [sv (sl 1 (ls.map pcx)),ag (st [ptx b.1,ptx b.2]),sv (sl 3 (xs.map rtx)),ag (rtx x)] (exP (.bool true)):=by
 refine ctc func10 rfl rfl rfl rfl fun X=>(zH (zJ rfl (zA1 (obx rfl) (zA1 (obx rfl) (zA1 (oas rfl) (zA0 (zH (zH (zJ rfl ?_)))))))))
 refine zA1 (omv rfl) (zA1 (old rfl rfl) (zA1 (oca rfl rfl fun _=>kfew) (zA1 (ont rfl) (zA1 (omv rfl) (t1g rfl rfl (omv rfl) (t1g rfl rfl (oca rfl rfl fun g=>vA) (zA1 (opk rfl rfl rfl) (zA1 (omv rfl) (t1g rfl rfl (old rfl rfl) ?_)))))))))
 refine t1g rfl rfl (obs rfl rfl rfl rfl rfl rfl) (t1g rfl rfl (oca rfl rfl fun _=>vA (l:=[x])) (zA1 (opk rfl rfl rfl) (zA0 ?_)))
 refine t_if rfl (fun c0=>?_) (fun c0=>?_)
 refine zH (zJ rfl (zA1 (oca rfl rfl fun _=>tV) (zA1 (oas rfl) (zA0 (zZ (⟨[_],rst rfl rs0,yN (PSub.refl _)⟩))))))
 rotate_left 1
 have h:=c0.h
 simp only [Bool.or_eq_false_iff,Bool.not_eq_false'] at h
 obtain ⟨⟨h1,h2⟩,h3⟩:=h
 obtain ⟨k1,k2,k3⟩:=few_ok h1
 obtain ⟨l2,g2⟩:=zM8 h2
 have g3:=(zM8 h3).2 x (by simp)
 refine t_ts (zQ5 (s:=2) rfl (rxs_q g2)) ?_
 refine t_ts (zQ5 (s:=7) rfl (pa_sub (rtx_c g3))) ?_
 have lx:(xs.map qx).length≤20:=by rw [List.length_map]; exact l2
 generalize xs.map qx=L at *
 generalize qx x=y at *
 refine yA (zH (zJ rfl (zA1 (omv rfl) (zA1 (old rfl rfl) (zA1 (oca rfl rfl fun _=>zP9 (by omega) (by omega) (by omega)) (zA1 (omv rfl) (zA1 (oex rfl rfl) (zA1 (oex rfl rfl) (zA1 (oex rfl rfl) ?_)))))))))
 refine zA1 (oas rfl) (zA1 (oas rfl) (zA1 (oas rfl) (zA0 (zH (zJ rfl (zA1 (omv rfl) (zA1 (old rfl rfl) (zA1 (oca rfl rfl fun _=>w22find (by omega) (by omega) (by omega)) (zA1 (omv rfl) ?_)))))))))
 refine zA1 (oex rfl rfl) (zA1 (oex rfl rfl) (zA1 (oex rfl rfl) (zA1 (oas rfl) (zA1 (oas rfl) (zA1 (oas rfl) (zA0 (zH (yR 40 mixed rfl rfl (d1 (omv rfl) ?_)))))))))
 refine d1 (omv rfl) (d1 (oeq rfl rfl) (d1 (omv rfl) (d1g rfl rfl (omv rfl) (d1g rfl rfl (omv rfl) (d1g rfl rfl (obe rfl rfl) (d1 (opk rfl rfl rfl) (d1 (omv rfl) (d1g rfl rfl (omv rfl) (d1g rfl rfl (omv rfl) ?_)))))))))
 refine d1g rfl rfl (obe rfl rfl) (d1 (opk rfl rfl rfl) (d1 (omv rfl) (d1g rfl rfl (omv rfl) (d1g rfl rfl (old rfl rfl) (d1g rfl rfl (oca rfl rfl fun g=>kcallx (by omega) k2 k3) (d1g rfl rfl (omv rfl) (d1g rfl rfl (old rfl rfl) (d1g rfl rfl (oca rfl rfl fun g=>k22allx (by omega) k2 k3) (d1g rfl rfl (oca rfl rfl fun g=>vB (by omega) (by omega)) ?_)))))))))
 refine d1 (opk rfl rfl rfl) (d1 (omv rfl) (d1g rfl rfl (omv rfl) (d1g rfl rfl (oca rfl rfl fun g=>wmidsA (by omega) (by omega)) (d1g rfl rfl (omv rfl) (d1g rfl rfl (oca rfl rfl fun g=>w22mids (by omega) (by omega)) (d1g rfl rfl (oca rfl rfl fun g=>vB (by omega) (by omega)) (d1 (opk rfl rfl rfl) (d1 (omv rfl) (d1g rfl rfl (omv rfl) ?_)))))))))
 refine d1g rfl rfl (oca rfl rfl fun g=>wV (by omega) (by omega)) (d1g rfl rfl (omv rfl) (d1g rfl rfl (oca rfl rfl fun g=>w22rises (by omega) (by omega)) (d1g rfl rfl (obe rfl rfl) (d1 (opk rfl rfl rfl) (d1 (omv rfl) (d1g rfl rfl (oca rfl rfl fun g=>tV) (d1 (opk rfl rfl rfl) (d1 (oas rfl) (d0 ?_)))))))))
 refine zA0 (zZ (⟨[_],rst rfl rs0,yN (psb (by (simp; done)))⟩))
end Go.Proofs.YtflobagimodmgaaGreatDoor
namespace Go.Proofs.YtflobagimodmgaaGreatDoor
open Go Go.SL Go.RowKit Go.Proofs Go.ChangeShapes Go.WideShapes Go.ChangeAt Go.Deep Tryz
section
variable {H : Type} {enc : TypeId × Value → H} {P : Program} {W : World} {B : Nat} {tp tr ti tn tb tw : TypeId}
abbrev BdX (B:Nat) (a:RX):Prop:=(True∧a.1.2.length≤B)∧a.2.length≤B
abbrev BpX (B:Nat) (a:PX):Prop:=BdX B a.1∧BdX B a.2
theorem tM (T:NumTypes P tp tr ti tn tb tw):Opn enc P W B tr 3 rtx (BdX B) :=
 rR T.r (rR T.i (opn_bool T.b T.cb) (zL0 T.n T.w T.cw T.cn T.hb)) (zL0 T.n T.w T.cw T.cn T.hb)
theorem opn_ptx (T:NumTypes P tp tr ti tn tb tw):Opn enc P W B tp 6 ptx (BpX B) :=
 rR T.p (tM T) (tM T)
theorem opn_pcx {t:TypeId} (T:NumTypes P tp tr ti tn tb tw) (ht:P.underlying t=some (.slice tp)) (c:P.cellsOf t=1):Opn enc P W B t 1 pcx (fun l=>l.length * P.bytesOf tp≤B∧∀ a ∈ l,BpX B a) :=
 opn_slicew ht c (opn_ptx T) (by omega)
end
end Go.Proofs.YtflobagimodmgaaGreatDoor
