/- Lemmas and walks of functions; no statement. -/
import Derived.Test.YtalkinejknjidaaGreatDoorPe
set_option linter.unusedVariables false
set_option linter.unusedSimpArgs false
set_option maxRecDepth 100000
set_option maxHeartbeats 4000000
namespace Go.Proofs.YtalkinejknjidaaGreatDoor
open Go.SL Go.RowKit Go.Proofs Tryz
abbrev jnT (p:Nat×Nat):CT:=st [xc (.int .i64 ((p.1:Nat):Int)),xc (.int .i64 ((p.2:Nat):Int))]
abbrev jn2 (p:Nat×Nat):List PV:=[zI p.1,zI p.2]
abbrev xi (n:Nat):CT:=xc (.int .i64 ((n:Nat):Int))
abbrev firT (N:Nat)(m:Mdl)(wo so:List Nat):CT:=st [mdT N m,sl 1 (wo.map xi),sl 1 (so.map xi)]
def cpI (a b:Nat):Int:=if a<b then -1 else if b<a then 1 else 0
theorem yW4 {a:Int}:CTy prog 185 [exP (.int .i64 a)] (exP (.bool false)):=by
 refine fw [.tmp 2] func185 fun X=>?_;repeat refine u ?_
 exact e
theorem xF9 {a b:Nat}:CTy prog 108 [zI a,zI b] (exP (.int .i64 (cpI a b))):=by
 refine fw [.tmp 4] func108 fun X=>?_;repeat refine u ?_
 refine zB rfl rfl yW4 ?_;repeat refine u ?_
 refine zB rfl rfl yW4 ?_;repeat refine u ?_
 refine xW rfl rfl ?_;repeat refine u ?_
 refine xW rfl rfl ?_;repeat refine u ?_
 refine tp (fun c2=>?_) fun c2=>?_;repeat refine u ?_
 refine e ?_;refine ps_i ?_;rotate_left;repeat refine u ?_
 refine tp (fun c3=>?_) fun c3=>?_;repeat refine u ?_
 refine e ?_;refine ps_i ?_;rotate_left;repeat refine u ?_
 refine e ?_;refine ps_i ?_;rotate_left
 ·unfold cpI;rw[if_pos (by omega)]
 ·unfold cpI;rw[if_neg (by omega),if_pos (by omega)]
 ·unfold cpI;rw[if_neg (by omega),if_neg (by omega)]
theorem kcmporL {x y:Int}:CTy prog 107 [sv (sl 1 ([x,y].map fun z=>xc (.int .i64 z)))] (exP (.int .i64 (if x≠0 then x else y))):=by
 refine fw [.tmp 2] func107 fun X=>?_;repeat refine u ?_
 refine lp (σ:=Nat) [3,6,7] (fun i=>[(8,True,zI i)]) (fun i=>[]) (fun i=>i=0∨i=1∧x=0∨i=2∧x=0∧y=0) (fun i=>2-i) (0) ((.inl rfl)) fun i hJ Y _=>?_;repeat refine u ?_
 refine tp (fun c0=>?_) fun c0=>?_;repeat refine u ?_
 refine tp (fun c1=>?_) fun c1=>?_;repeat refine u ?_
 refine e ?_;refine ps_i ?_;rotate_left;repeat refine u ?_
 rotate_left;repeat refine u ?_
 refine e ?_;refine ps_i ?_;rotate_left
 ·rcases hJ with rfl | ⟨rfl,rfl⟩ | ⟨rfl,rfl,rfl⟩
  ·rw[if_pos (show x≠0 from c1)];rfl
  ·rw[if_neg (by simp)];rfl
  ·exact absurd c0 (by simp)
 ·refine⟨i+1,tes ?_ ?_ (zaa _),?_,?_⟩;refine zA rfl tn;refine zA rfl (zA rfl (zA rfl tn));rotate_left;rotate_left;rcases hJ with rfl | ⟨rfl,rfl⟩ | ⟨rfl,rfl,rfl⟩
  ·exact .inr (.inl ⟨rfl,zcu.1 c1⟩)
  ·exact .inr (.inr ⟨rfl,rfl,zcu.1 c1⟩)
  ·exact absurd c0 (by simp)
  ·have:(i:Int)<2:=c0;omega
 ·rcases hJ with rfl | ⟨rfl,rfl⟩ | ⟨rfl,rfl,rfl⟩
  ·exact absurd (show (0:Int)<2 by omega) c0
  ·exact absurd (show (1:Int)<2 by omega) c0
  ·rfl
theorem kcmpor {x y:Int}:CTy prog 107 [sv (sl 1 [xc (.int .i64 x),xc (.int .i64 y)])] (exP (.int .i64 (if x≠0 then x else y))):=kcmporL
theorem kjcmp {p q:Nat×Nat}:CTy prog 106 [ag (jnT p),ag (jnT q)] (exP (.int .i64 (cmpJ p q))):=by
 refine fw [.tmp 4] func106 fun X=>?_;iterate 7 refine u ?_
 refine zL 13 mixed rfl rfl ?_;repeat refine u ?_
 refine zC rfl rfl xF9 ?_;repeat refine u ?_
 refine zC rfl rfl xF9 ?_;repeat refine u ?_
 refine zC rfl rfl kcmpor ?_;repeat refine u ?_
 refine e ?_;refine ps_i ?_;unfold cpI cmpJ;obtain⟨p1,p2⟩:=p;obtain⟨q1,q2⟩:=q;dsimp only;rcases zbH p1 q1 with h | h | h
 ·rw[if_pos h,if_pos (by omega),if_neg (by omega),if_pos h]
 ·subst h;rw[if_neg (Nat.lt_irrefl _),if_neg (by simp),if_pos rfl];rcases zbH p2 q2 with g | g | g
  ·rw[if_pos g,if_pos g]
  ·subst g;rw[if_neg (Nat.lt_irrefl _),if_neg (Nat.lt_irrefl _),if_neg (Nat.lt_irrefl _),if_pos rfl]
  ·rw[if_neg (by omega),if_pos g,if_neg (by omega),if_neg (by omega)]
 ·have e1:¬ p1<q1:=by omega
  have e2:¬ p1=q1:=by omega
  rw[if_neg e1,if_pos h,if_pos (by decide),if_neg e2,if_neg e1]
theorem yY2 {W n:Nat}(hn:W+2*n≤1000000000):CIt prog 257 [pa (xi n),pa (xi W)] (gZ W n) jn2:=by
 unfold gZ;refine cit func257 rfl rfl rfl rfl rfl fun X y YS YX hY hS=>?_;iterate 5 refine u ?_
 refine zA1 (yT (omx rfl rfl) (ps_i (show _=((2*n-2:Nat):Int) by omega))) ?_;repeat refine u ?_
 refine lpy (σ:=Nat) [0,2,8] (fun i=>[(9,True,zI i)]) (fun i=>[]) (fun i Y=>YS ((List.range i).map fun i=>(W+i,W+i+1)) Y∧i≤2*n-2) (fun i=>2*n-2-i) (0) (⟨hS,by omega⟩) fun i Y hG=>?_;obtain⟨hS,hi⟩:=hG;repeat refine u ?_
 refine tp (fun c0=>?_) fun c0=>?_;repeat refine u ?_
 rotate_left;repeat refine u ?_
 rotate_left
 ·refine cW hY hS (zN2 _ (show i<2*n-2 by omega)).choose_spec rfl rfl (fs1 (ps_i (by simp only;omega)) (fs1 (ps_i (by simp only;omega)) fs0)) (fun Y hS=>?_) (fun Y hX=>?_)
  ·repeat refine u ?_
   refine xW rfl rfl ?_;repeat refine u ?_
   refine⟨i+1,tes ?_ ?_ (zaa _),?_,(by omega)⟩;refine zA rfl tn;refine zA rfl (zA rfl (zA rfl tn));exact⟨by rw[mJ];exact hS,by omega⟩
  ·repeat refine u ?_
   refine qC rfl rfl ?_;repeat refine u ?_
   exact .inr hX
 ·rw[show 2*n-2=i by omega];exact .inl hS
theorem yK9 {W n:Nat}:CTy prog 181 [zI W,zI n] (fn 257 [pa (xi n),pa (xi W)]):=by
 refine fw [.tmp 4] func181 fun X=>?_;repeat refine u ?_
 exact e
theorem fD {N:Nat}{m:Mdl}{wo so:List Nat}{slab wall:Nat}{e:List Rat}:CTy prog 182 [ag (firT N m wo so),zI slab,zI wall,sv (sl 3 (e.map (rtc N)))] (fn 258 [pa (firT N m wo so),pa (xi wall),pa (sl 3 (e.map (rtc N))),pa (xi slab)]):=by
 refine fw [.tmp 8] func182 fun X=>?_;repeat refine u ?_
 refine⟨[_],rst rfl rs0,yJ (PSub.refl _)⟩
theorem tW {N:Nat}{l:List P2}{b:Bool}(hl:l.length≤1000000):CTy prog 183 [sv (sl 6 (l.map (ptc N))),exP (.bool b)] (sv (sl 3 ((l.map fun a=>if b then a.2 else a.1).map (rtc N)))):=by
 refine fw [.tmp 4] func183 fun X=>?_;repeat refine u ?_
 refine t_ts (xQ 29 3) ?_;refine lp (σ:=Nat×Value) [1,7,8] (fun s=>[(4,True,exP s.2),(9,True,zI s.1)]) (fun s=>[.row s.2 29 3 (((l.take s.1).map fun a=>if b then a.2 else a.1).map (rtc N))]) (fun s=>s.1≤l.length) (fun s=>l.length-s.1) ((0,.slice none 0 0)) ((by simp)) fun s hJ Y _=>?_;obtain⟨i,v⟩:=s;dsimp only at hJ ⊢;repeat refine u ?_
 refine tp (fun c0=>?_) fun c0=>?_;iterate 7 refine u ?_
 refine u fun b6=>?_;refine zH 0 rfl rfl (zR (zU (s:=6) 0 rfl rfl) ?_);repeat refine u ?_
 refine tp (fun c1=>?_) fun c1=>?_;repeat refine u ?_
 refine tap 0 rfl rfl rfl (by(simp;omega)) rfl fun r18=>?_;repeat refine u ?_
 rotate_left;repeat refine u ?_
 refine tap 0 rfl rfl rfl (by(simp;omega)) rfl fun r23=>?_;repeat refine u ?_
 rotate_left;iterate 7 refine u ?_
 refine t_ts (yK (s:=4) 0 rfl rfl) ?_;repeat refine u ?_
 refine e ?_;rotate_left
 ·refine⟨(i+1,r18),tes ?_ ?_ ?_,(by omega),(by omega)⟩;refine zA rfl (zA rfl tn);refine zA rfl (zA rfl (zA rfl tn));rw[(zP (Df.d:P2) (l:=l) (s:=i) (by omega)).1,zaq,zaq,show (List.map (fun a:P2=>if b then a.2 else a.1) [l.getD i Df.d])=[(l.getD i Df.d).2] by rw[zcU,if_pos c1]];exact zaa _
 ·refine⟨(i+1,r23),tes ?_ ?_ ?_,(by omega),(by omega)⟩;refine zA rfl (zA rfl tn);refine zA rfl (zA rfl (zA rfl tn));rw[(zP (Df.d:P2) (l:=l) (s:=i) (by omega)).1,zaq,zaq,show (List.map (fun a:P2=>if b then a.2 else a.1) [l.getD i Df.d])=[(l.getD i Df.d).1] by rw[zcU,if_neg c1]];exact zaa _
 ·rw[zaw (by omega)];exact PSub.refl _
theorem ifc {p q:Prop}[Decidable p][Decidable q]{α:Type}{x y:α}(h:p↔q):(if p then x else y)=if q then x else y:=by
 by_cases c:q
 ·rw[if_pos c,if_pos (h.2 c)]
 ·rw[if_neg c,if_neg fun d=>c (h.1 d)]
theorem yM4 {α:Type}(f:Nat→List α){n k:Nat}(h:k<n):∃ post,(List.range n).flatMap f=(List.range k).flatMap f++(f k++post):=by
 obtain⟨m,rfl⟩:∃ m,n=k+1+m:=⟨n-(k+1),by omega⟩;exact⟨((List.range m).map (k+1 + ·)).flatMap f,by rw[List.range_add,zaQ,zcS,zcS];simp⟩
abbrev acA (W S:Nat)(y e:List Rat)(k r:Nat):List (Nat×Nat):=if e.getD r 0=y.getD k 0 then [(W+2*k,S+2*r)] else []
abbrev acB (W S:Nat)(y e:List Rat)(k r:Nat):List (Nat×Nat):=if r+1<e.length∧e.getD r 0≤y.getD k 0∧y.getD k 0≤e.getD (r+1) 0 then [(W+2*k,S+2*r+1)] else []
abbrev acC (W S:Nat)(y e:List Rat)(k r:Nat):List (Nat×Nat):=if r+1<e.length∧e.getD r 0≤y.getD k 0∧y.getD k 0<e.getD (r+1) 0∧k+1<y.length then [(W+2*k+1,S+2*r+1)] else []
theorem zR6 (W S:Nat)(y e:List Rat)(k r:Nat):acrK W S y e k r=acA W S y e k r++acB W S y e k r++acC W S y e k r:=rfl
theorem yE1 {W S:Nat}{y e:List Rat}{k r:Nat}(hk:k<y.length)(hr:r<e.length):∃ post,acrS W S y e=(List.range k).flatMap (acrR W S y e)++(List.range r).flatMap (acrK W S y e k)++(acA W S y e k r++acB W S y e k r++acC W S y e k r++post):=by
 obtain⟨p1,e1⟩:=yM4 (acrR W S y e) hk;obtain⟨p2,e2⟩:=yM4 (acrK W S y e k) hr;refine⟨p2++p1,?_⟩;unfold acrS;rw[e1];have e3:acrR W S y e k=(List.range e.length).flatMap (acrK W S y e k):=rfl;rw[e3,e2,zR6];simp only[zaB]
section
variable {W S : Nat} {y e : List Rat} {k r : Nat}
theorem acr_A (hk:k<y.length)(hr:r<e.length)(h:e.getD r 0=y.getD k 0):∃ post,acrS W S y e=(List.range k).flatMap (acrR W S y e)++(List.range r).flatMap (acrK W S y e k)++(W+2*k,S+2*r)::post:=by
 obtain⟨post,hp⟩:=yE1 (W:=W) (S:=S) hk hr;exact⟨acB W S y e k r++acC W S y e k r++post,by rw[hp,show acA W S y e k r=[(W+2*k,S+2*r)] from if_pos h];simp⟩
theorem acr_B (hk:k<y.length)(hr:r<e.length)(h:r+1<e.length∧e.getD r 0≤y.getD k 0∧y.getD k 0≤e.getD (r+1) 0):∃ post,acrS W S y e=(List.range k).flatMap (acrR W S y e)++(List.range r).flatMap (acrK W S y e k)++acA W S y e k r++(W+2*k,S+2*r+1)::post:=by
 obtain⟨post,hp⟩:=yE1 (W:=W) (S:=S) hk hr;exact⟨acC W S y e k r++post,by rw[hp,show acB W S y e k r=[(W+2*k,S+2*r+1)] from if_pos h];simp⟩
theorem acr_C (hk:k<y.length)(hr:r<e.length)(h:r+1<e.length∧e.getD r 0≤y.getD k 0∧y.getD k 0<e.getD (r+1) 0∧k+1<y.length):∃ post,acrS W S y e=(List.range k).flatMap (acrR W S y e)++(List.range r).flatMap (acrK W S y e k)++acA W S y e k r++acB W S y e k r++(W+2*k+1,S+2*r+1)::post:=by
 obtain⟨post,hp⟩:=yE1 (W:=W) (S:=S) hk hr;exact⟨post,by rw[hp,show acC W S y e k r=[(W+2*k+1,S+2*r+1)] from if_pos h];simp⟩
end
theorem nD {N:Nat}{m:Mdl}{wo so:List Nat}{wall slab:Nat}{e:List Rat}(hN:N≤40000)(h1:wall<m.wl.length)(h2:wall<wo.length)(h3:slab<so.length)(b1:wo.getD wall Df.d≤1000000000)(b2:so.getD slab Df.d≤1000000000)(b3:(m.wl.getD wall Df.d).length≤1000000)(b4:e.length≤1000000) :
  CIt prog 258 [pa (firT N m wo so),pa (xi wall),pa (sl 3 (e.map (rtc N))),pa (xi slab)] (acrS (wo.getD wall Df.d) (so.getD slab Df.d) (m.wl.getD wall Df.d) e) jn2:=by
 refine cit func258 rfl rfl rfl rfl rfl fun X y YS YX hY hS=>?_;repeat refine u ?_
 refine sM (σ:=Nat) (fun k=>[(22,True,zI k)]) (fun k=>[]) (fun k Y=>YS ((List.range k).flatMap (acrR (wo.getD wall Df.d) (so.getD slab Df.d) (m.wl.getD wall Df.d) e)) Y∧k≤(m.wl.getD wall Df.d).length) (fun k=>(m.wl.getD wall Df.d).length-k) (0) (tk 0 rfl (tk 1 rfl (tk 2 rfl (tk 3 rfl (tk 4 rfl (tk 6 rfl (tk 20 rfl (tk 21 rfl tn)))))))) ?_ rfl (⟨hS,by omega⟩) (fun k Y hG=>?_);refine zA rfl tn;obtain⟨hS,hk⟩:=hG;repeat refine u ?_
 refine tp (fun c0=>?_) fun c0=>?_;iterate 8 refine u ?_
 refine u fun b8=>?_;iterate 2 refine u ?_
 refine zR (zU (s:=8) 0 rfl rfl) ?_;repeat refine u ?_
 rotate_left;repeat refine u ?_
 rotate_left
 ·have hk2:k<(m.wl.getD wall Df.d).length:=by omega
  refine sM (σ:=Nat) (fun r=>[(29,True,zI r)]) (fun r=>[]) (fun r Y=>YS ((List.range k).flatMap (acrR (wo.getD wall Df.d) (so.getD slab Df.d) (m.wl.getD wall Df.d) e)++(List.range r).flatMap (acrK (wo.getD wall Df.d) (so.getD slab Df.d) (m.wl.getD wall Df.d) e k)) Y∧r≤e.length) (fun r=>e.length-r) (0) (tk 0 rfl (tk 1 rfl (tk 2 rfl (tk 3 rfl (tk 4 rfl (tk 6 rfl (tk 7 rfl (tk 8 rfl (tk 20 rfl (tk 21 rfl (tk 22 rfl (tk 27 rfl (tk 28 rfl tn))))))))))))) ?_ rfl (⟨by simpa using hS,by omega⟩) (fun r Y hG=>?_);refine zA rfl tn;obtain⟨hS,hr⟩:=hG;repeat refine u ?_
  refine tp (fun c1=>?_) fun c1=>?_;iterate 8 refine u ?_
  refine u fun b10=>?_;iterate 2 refine u ?_
  refine zR (zU (s:=10) 0 rfl rfl) ?_;repeat refine u ?_
  refine zB rfl rfl (pN (by omega) (by omega)) ?_;repeat refine u ?_
  refine t1g rfl rfl (omv rfl) ?_;repeat refine u ?_
  rotate_left;repeat refine u ?_
  rotate_left
  ·have hr2:r<e.length:=by omega
   have gA:decide (cmpR (e.getD r Df.d) ((m.wl.getD wall Df.d).getD k Df.d)=0)=true↔e.getD r 0=(m.wl.getD wall Df.d).getD k 0:=by rw[decide_eq_true_eq,xA];exact Iff.rfl
   refine sL (x:=(wo.getD wall Df.d+2*k,so.getD slab Df.d+2*r)) hY hS rfl rfl (fun h=>acr_A hk2 hr2 (gA.1 h)) rfl rfl (fs1 (ps_i (by simp only;omega)) (fs1 (ps_i (by simp only;omega)) fs0)) (fun Y hS=>?_) (fun hg Y hX=>?_)
   ·have eA:(if decide (cmpR (e.getD r Df.d) ((m.wl.getD wall Df.d).getD k Df.d)=0)=true then [(wo.getD wall Df.d+2*k,so.getD slab Df.d+2*r)] else [])=acA (wo.getD wall Df.d) (so.getD slab Df.d) (m.wl.getD wall Df.d) e k r:=by
     exact ifc gA
    rw[eA] at hS;repeat refine u ?_
    refine tp (fun c2=>?_) fun c2=>?_;rotate_left;repeat refine u ?_
    refine zA1 (old rfl rfl) ?_;repeat refine u ?_
    refine tp (fun c3=>?_) fun c3=>?_;repeat refine u ?_
    refine zA1 (oad rfl rfl (by omega)) ?_;repeat refine u ?_
    rotate_left;iterate 2 refine u ?_
    refine zL 8 mixed rfl rfl ?_;repeat refine u ?_
    refine d1 (old rfl rfl) ?_;repeat refine u ?_
    refine d1 (old rfl rfl) (zC rfl rfl (pN (by omega) (by omega)) ?_);repeat refine u ?_
    refine t1g rfl rfl (omv rfl) ?_;refine t1g rfl rfl (ofa rfl rfl) ?_;repeat refine u ?_
    refine t1g rfl rfl (old rfl rfl) ?_;repeat refine u ?_
    refine t1g rfl rfl (omv rfl) ?_;repeat refine u ?_
    refine t1g rfl rfl (omv rfl) ?_;repeat refine u ?_
    rotate_left
    ·exact absurd rfl c2.2
    ·have e2:r+1=e.length:=by omega
     have eK:acrK (wo.getD wall Df.d) (so.getD slab Df.d) (m.wl.getD wall Df.d) e k r=acA (wo.getD wall Df.d) (so.getD slab Df.d) (m.wl.getD wall Df.d) e k r:=by
      rw[zR6,acB,if_neg (fun c=>by omega),acC,if_neg (fun c=>by omega),zap,zap]
     refine⟨k+1,tes ?_ ?_ (zaa _),?_,(by omega)⟩;refine zA rfl tn;refine zA rfl (zA rfl (zA rfl (zA rfl (zA rfl (zA rfl (zA rfl (zA rfl tn)))))));refine⟨?_,by omega⟩;rw[gK,show acrR (wo.getD wall Df.d) (so.getD slab Df.d) (m.wl.getD wall Df.d) e k=(List.range (r+1)).flatMap (acrK (wo.getD wall Df.d) (so.getD slab Df.d) (m.wl.getD wall Df.d) e k) by rw[e2];rfl,gK,eK,← zaB];exact hS
    ·have hr3:r+1<e.length:=by omega
     have gB:(decide (cmpR (e.getD r Df.d) ((m.wl.getD wall Df.d).getD k Df.d)≤0)&&decide (0≤cmpR (e.getD (r+1) Df.d) ((m.wl.getD wall Df.d).getD k Df.d)))=true↔r+1<e.length∧e.getD r 0≤(m.wl.getD wall Df.d).getD k 0∧(m.wl.getD wall Df.d).getD k 0≤e.getD (r+1) 0:=by
      rw[zam,decide_eq_true_eq,decide_eq_true_eq,uR,aO];exact⟨fun h=>⟨hr3,h.1,h.2⟩,fun h=>h.2⟩
     refine sL (x:=(wo.getD wall Df.d+2*k,so.getD slab Df.d+2*r+1)) hY hS rfl rfl (fun h=>acr_B hk2 hr2 (gB.1 h)) rfl rfl (fs1 (ps_i (by simp only;omega)) (fs1 (ps_i (by simp only;omega)) fs0)) (fun Y hS=>?_) (fun hg Y hX=>?_)
     ·rw[ifc gB] at hS;repeat refine u ?_
      refine tp (fun c4=>?_) fun c4=>?_;rotate_left;repeat refine u ?_
      refine zA1 (omv rfl) ?_;repeat refine u ?_
      refine t1g rfl rfl (omv rfl) ?_;repeat refine u ?_
      refine t1g rfl rfl (omv rfl) ?_;repeat refine u ?_
      refine t1g rfl rfl (omv rfl) ?_;refine t1g rfl rfl (ofa rfl rfl) ?_;repeat refine u ?_
      refine t1g rfl rfl (old rfl rfl) ?_;repeat refine u ?_
      refine t1g rfl rfl (omv rfl) ?_;repeat refine u ?_
      refine t1g rfl rfl (omv rfl) ?_;repeat refine u ?_
      rotate_left
      ·exact absurd rfl c4.2
      ·have gC:(decide (cmpR (e.getD r Df.d) ((m.wl.getD wall Df.d).getD k Df.d)≤0)&&decide (0<cmpR (e.getD (r+1) Df.d) ((m.wl.getD wall Df.d).getD k Df.d))&&decide ((k:Int)+1<(m.wl.getD wall Df.d).length))=true↔r+1<e.length∧e.getD r 0≤(m.wl.getD wall Df.d).getD k 0∧(m.wl.getD wall Df.d).getD k 0<e.getD (r+1) 0∧k+1<(m.wl.getD wall Df.d).length:=by
        rw[zam,zam,decide_eq_true_eq,decide_eq_true_eq,decide_eq_true_eq,uR,bK];exact⟨fun h=>⟨hr3,h.1.1,h.1.2,by omega⟩,fun h=>⟨⟨h.2.1,h.2.2.1⟩,by omega⟩⟩
       refine sL (x:=(wo.getD wall Df.d+2*k+1,so.getD slab Df.d+2*r+1)) hY hS rfl rfl (fun h=>acr_C hk2 hr2 (gC.1 h)) rfl rfl (fs1 (ps_i (by simp only;omega)) (fs1 (ps_i (by simp only;omega)) fs0)) (fun Y hS=>?_) (fun hg Y hX=>?_)
       ·rw[ifc gC] at hS;repeat refine u ?_
        refine tp (fun c5=>?_) fun c5=>?_;rotate_left;repeat refine u ?_
        refine zA1 (oad rfl rfl (by omega)) ?_;repeat refine u ?_
        rotate_left
        ·exact absurd rfl c5.2
        ·refine⟨r+1,tes ?_ ?_ (zaa _),?_,(by omega)⟩;refine zA rfl tn;refine zA rfl (zA rfl (zA rfl (zA rfl (zA rfl (zA rfl (zA rfl (zA rfl (zA rfl (zA rfl ?_)))))))));refine zA rfl (zA rfl (zA rfl tn));refine⟨?_,by omega⟩;rw[gK,zR6];simp only[← zaB];exact hS
       ·repeat refine u ?_
        refine tp (fun c5=>?_) fun c5=>?_;repeat refine u ?_
        rotate_left;rotate_left
        ·exact .inr hX
        ·simp only[zam,decide_eq_true_eq] at hg;exact absurd ⟨hg,by simp⟩ c5
     ·repeat refine u ?_
      refine tp (fun c4=>?_) fun c4=>?_;repeat refine u ?_
      rotate_left;rotate_left
      ·exact .inr hX
      ·simp only[zam,decide_eq_true_eq] at hg;exact absurd ⟨hg,by simp⟩ c4
   ·repeat refine u ?_
    refine tp (fun c2=>?_) fun c2=>?_;repeat refine u ?_
    rotate_left;rotate_left
    ·exact .inr hX
    ·exact absurd ⟨of_decide_eq_true hg,by simp⟩ c2
  ·refine⟨k+1,tes ?_ ?_ (zaa _),?_,(by omega)⟩;refine zA rfl tn;refine zA rfl (zA rfl (zA rfl (zA rfl (zA rfl (zA rfl (zA rfl (zA rfl tn)))))));refine⟨?_,by omega⟩;rw[gK,show acrR (wo.getD wall Df.d) (so.getD slab Df.d) (m.wl.getD wall Df.d) e k=(List.range r).flatMap (acrK (wo.getD wall Df.d) (so.getD slab Df.d) (m.wl.getD wall Df.d) e k) by rw[show r=e.length by omega];rfl];exact hS
 ·rw[show k=(m.wl.getD wall Df.d).length by omega] at hS;exact .inl hS
def cL (ls:List (List PX)):Bool:=decide (ls.length≤3)&&ls.all fun l=>decide (l.length≤6)&&qM l
theorem few24_at {ls:List (List PX)}{i:Nat}(hi:i<ls.length)(h:(decide ((ls.getD i Df.d).length≤6)&&qM (ls.getD i Df.d))=false):cL ls=false:=by
 rw[zag,zah hi,zbw] at h;unfold cL;rw[zcR];right;rw[List.all_eq_false];exact⟨_,zaI hi,by rw[h];simp⟩
theorem yX4 {ls:List (List PX)}:CTy prog 95 [sv (sl 1 (ls.map pcx))] (exP (.bool (cL ls))):=by
 refine fw [.tmp 2] func95 fun X=>?_;repeat refine u ?_
 refine lp (σ:=Nat) [0] (fun i=>[(3,True,zI i)]) (fun i=>[]) (fun i=>i≤ls.length∧i≤4∧∀ l∈ls.take i,(decide (l.length≤6)&&qM l)=true) (fun i=>ls.length-i) (0) (⟨by omega,by omega,by simp⟩) fun i hJ Y _=>?_;obtain⟨hi,h4,hs⟩:=hJ;repeat refine u ?_
 refine tp (fun c0=>?_) fun c0=>?_;repeat refine u ?_
 refine t1g rfl rfl (oca rfl rfl fun g=>ksmall) ?_;repeat refine u ?_
 refine tp (fun c1=>?_) fun c1=>?_;repeat refine u ?_
 refine e ?_;refine psb ?_;rotate_left;repeat refine u ?_
 rotate_left;repeat refine u ?_
 refine e ?_;refine psb ?_;rotate_left
 ·refine(few24_at (i:=i) (by omega) ?_).symm;rw[zcR,decide_eq_false_iff_not];rcases c1 with c | c
  ·left;omega
  ·right;simpa using c
 ·refine nxt (i+1) ?_;refine⟨by omega,by omega,fun l hl=>?_⟩;rw[(zP (Df.d:List PX) (show i<ls.length by omega)).1] at hl;rcases zad.1 hl with h | h
  ·exact hs l h
  ·rw[zan.1 h,zam,decide_eq_true_eq];exact⟨by omega,Classical.byContradiction fun k=>c1 (.inr k)⟩
 ·unfold cL;by_cases h:i=ls.length
  ·subst h;rw[zaS] at hs;rw[zaH.2 hs,Bool.and_true];exact decide_eq_decide.2 (by omega)
  ·rw[decide_eq_false (by omega),decide_eq_false (show ¬ ls.length≤3 by omega),Bool.false_and]
def vG (r:List PX)(ts:List TX3):Bool:=decide (r.length≤4)&&decide (ts.length≤2)&&cL [r] && !vB ts&&ts.all fun t=>cL [trl t]
theorem iR {r:List PX}{ts:List TX3}:vG r ts=true↔r.length≤4∧ts.length≤2∧cL [r]=true∧vB ts=false∧∀ t∈ts,cL [trl t]=true:=by
 unfold vG;simp only[zam,decide_eq_true_eq,Bool.not_eq_true',zaH,and_assoc]
theorem zX9 {r:List PX}{ts:List TX3}(h:¬ (r.length≤4∧ts.length≤2∧cL [r]=true∧vB ts=false∧∀ t∈ts,cL [trl t]=true)):vG r ts=false:=by
 rw[← iR] at h;simpa using h
theorem k26few {r:List PX}{ts:List TX3}:CTy prog 31 [sv (pcx r),sv (sl 18 (ts.map trx))] (exP (.bool (vG r ts))):=by
 refine fw [.tmp 4] func31 fun X=>?_;repeat refine u ?_
 refine t1g rfl rfl (oca rfl rfl fun _=>yX4 (ls:=[r])) ?_;repeat refine u ?_
 refine t1g rfl rfl (oca rfl rfl fun g=>kgtris) ?_;repeat refine u ?_
 refine tp (fun c0=>?_) fun c0=>?_;repeat refine u ?_
 refine e ?_;refine psb ?_;rotate_left;repeat refine u ?_
 rotate_left
 ·refine(zX9 fun h=>?_).symm;rcases c0 with((c | c) | c) | c
  ·omega
  ·omega
  ·exact c h.2.2.1
  ·rw[h.2.2.2.1] at c;cases c
 refine lp (σ:=Nat) [1] (fun i=>[(5,True,zI i)]) (fun i=>[]) (fun i=>i≤ts.length∧∀ t∈ts.take i,cL [trl t]=true) (fun i=>ts.length-i) (0) (⟨by omega,by simp⟩) fun i hJ Y _=>?_;obtain⟨hi,hs⟩:=hJ;repeat refine u ?_
 refine tp (fun c1=>?_) fun c1=>?_;repeat refine u ?_
 refine zB rfl rfl zW9 ?_;repeat refine u ?_
 refine zB rfl rfl (yX4 (ls:=[trl (ts.getD i Df.d)])) ?_;repeat refine u ?_
 refine tp (fun c2=>?_) fun c2=>?_;repeat refine u ?_
 refine e ?_;refine psb ?_;rotate_left;repeat refine u ?_
 rotate_left;repeat refine u ?_
 refine e ?_;refine psb ?_;rotate_left
 ·exact(zX9 fun h=>c2 (h.2.2.2.2 _ (xB (by omega)))).symm
 ·refine nxt (i+1) ?_;refine⟨by omega,fun t ht=>?_⟩;rw[(zP (Df.d:TX3) (show i<ts.length by omega)).1] at ht;rcases zad.1 ht with h | h
  ·exact hs t h
  ·rw[zan.1 h];exact zcu.1 c2
 ·have:i=ts.length:=by omega
  subst this;rw[zaS] at hs;refine(iR.2 ⟨?_,?_,?_,?_,hs⟩).symm
  ·have:¬ 4<(r.length:Int):=fun c=>c0 (.inl (.inl (.inl c)));omega
  ·have:¬ 2<(ts.length:Int):=fun c=>c0 (.inl (.inl (.inr c)));omega
  ·exact Classical.byContradiction fun c=>c0 (.inl (.inr c))
  ·exact Bool.eq_false_iff.2 fun c=>c0 (.inr c)
noncomputable def modM (ls:zD):Mdl:=⟨zQ ls,xsM ls,lvsM ls,wlsM ls,celM ls⟩
theorem zP8 {s:Bool}{a x b:Rat}:inB s a x b=true↔if s then a<x∧x<b else a≤x∧x≤b:=by
 unfold inB eU;cases s with
 | false =>
  simp only[zam,decide_eq_true_eq,Bool.false_eq_true,if_false];rw[uR,uR]
 | true =>
  simp only[zam,decide_eq_true_eq,if_true];rw[← xH,← xH];constructor<;>intro h<;>constructor<;>omega
theorem lU {lo hi x:Rat}{a:P2}(h:lo<hi):zM (lo,a.1) (hi,a.2) x=xF a (qE lo hi x):=by
 unfold zM atP xF qE;rw[if_neg (by grind),if_pos h];simp only[addP,gI,subP];rw[Rat.mul_comm]
theorem has1 {s:Bool}{k:Nat}{a p:P2}:hasB s k [a] p=decide (a=p):=rfl
theorem has2w {s:Bool}{k:Nat}{a b p:P2}(h:k=1):hasB s k [a,b] p=(decide (a.1=p.1)&&inB s a.2 p.2 b.2):=by subst h;rfl
theorem has2s {s:Bool}{k:Nat}{a b p:P2}(h:k≠1):hasB s k [a,b] p=(inB s a.1 p.1 b.1&&decide (zM a b p.1=p.2)):=by
 show (if k=1 then _ else _)=_;rw[if_neg h]
theorem has4 {s:Bool}{k:Nat}{a b c d p:P2}:hasB s k [a,b,c,d] p=(inB s a.1 p.1 b.1&&inB s (zM a b p.1) p.2 (zM d c p.1)):=rfl
theorem has_iff {ls:zD}{c j:Nat}(h:inC ls c j){s:Bool}{p:P2}:hasB s (2*(c%2)+j%2) (clsM (modM ls) (2*(c%2)+j%2) (c/2) (j/2)) p=true↔if s then ownC ls c j p else touC ls c j p:=by
 obtain⟨hc,hj⟩:=h;have hd:(Df.d:Rat)=0:=rfl;have hd2:(Df.d:P2)=(0,0):=rfl;have hd3:(Df.d:List Rat)=[]:=rfl;have hd4:(Df.d:List P2)=[]:=rfl;have key:(if s then ownC ls c j p else touC ls c j p)↔(if s then posY (xsM ls) c p.1 else cloY (xsM ls) c p.1)∧(if s then posY (ycM ls c p.1) j p.2 else cloY (ycM ls c p.1) j p.2):=by
  cases s<;>rfl
 rw[key];have hpc:∀(l:List Rat) (i:Nat) (y:Rat),(if s then posY l (2*i) y else cloY l (2*i) y)↔y=l.getD i 0:=fun l i y=>by
  cases s
  ·show cloY l (2*i) y↔_;unfold cloY;rw[if_pos (by omega),show 2*i/2=i by omega]
  ·show posY l (2*i) y↔_;unfold posY;rw[if_pos (by omega),show 2*i/2=i by omega]
 have hpo:∀(l:List Rat) (i:Nat) (y:Rat),(if s then posY l (2*i+1) y else cloY l (2*i+1) y)↔inB s (l.getD i 0) y (l.getD (i+1) 0)=true:=fun l i y=>by
  rw[zP8];cases s
  ·show cloY l (2*i+1) y↔_;unfold cloY;rw[if_neg (by omega),show (2*i+1)/2=i by omega];simp
  ·show posY l (2*i+1) y↔_;unfold posY;rw[if_neg (by omega),show (2*i+1)/2=i by omega];simp
 rcases zbg c with mc | mc
 ·obtain⟨i,rfl⟩:∃ i,c=2*i:=⟨c/2,by omega⟩;have hi:i<(xsM ls).length:=by omega
  rw[pQ] at hj;rw[hpc,fS,show 2*i%2=0 by omega,show 2*i/2=i by omega];have e1:(modM ls).wl.getD i Df.d=wlM ls i:=by rw[hd3];exact lJ hi
  have e2:(modM ls).wl.length=(xsM ls).length:=lX ls;rcases zbg j with mj | mj
  ·obtain⟨r,rfl⟩:∃ r,j=2*r:=⟨j/2,by omega⟩;rw[hpc,show 2*r%2=0 by omega,show 2*r/2=r by omega];unfold clsM;rw[if_pos (by omega),e1,if_pos ⟨hi,by omega,by omega⟩,if_neg (by omega)];rw[has1];rw[decide_eq_true_eq,hd];show ((xsM ls).getD i 0,(wlM ls i).getD r 0)=p↔_;obtain⟨p1,p2⟩:=p;rw[Prod.mk.injEq];exact⟨fun h=>⟨h.1.symm,h.2.symm⟩,fun h=>⟨h.1.symm,h.2.symm⟩⟩
  ·obtain⟨r,rfl⟩:∃ r,j=2*r+1:=⟨j/2,by omega⟩;rw[hpo,show (2*r+1)%2=1 by omega,show (2*r+1)/2=r by omega];unfold clsM;rw[if_pos (by omega),e1,if_pos ⟨hi,by omega,by omega⟩,if_pos (by omega)];rw[has2w (by omega),zam,decide_eq_true_eq,hd];show (xsM ls).getD i 0=p.1∧_↔_;exact⟨fun h=>⟨h.1.symm,h.2⟩,fun h=>⟨h.1.symm,h.2⟩⟩
 ·obtain⟨i,rfl⟩:∃ i,c=2*i+1:=⟨c/2,by omega⟩;have hi:i+1<(xsM ls).length:=by omega
  have hlt:=jE ls i hi;rw[pR] at hj;rw[hpo,pS,show (2*i+1)%2=1 by omega,show (2*i+1)/2=i by omega];have e1:(modM ls).lv.getD i Df.d=lvM ls i:=by rw[hd4];exact eZ hi
  have e2:(modM ls).lv.length=(xsM ls).length-1:=iN ls;rcases zbg j with mj | mj
  ·obtain⟨r,rfl⟩:∃ r,j=2*r:=⟨j/2,by omega⟩;rw[hpc,show 2*r%2=0 by omega,show 2*r/2=r by omega,uN (by omega)];unfold clsM;rw[if_neg (by omega),e1,if_pos ⟨by omega,hi,by omega⟩,if_neg (by omega)];rw[has2s (by omega),zam,decide_eq_true_eq,hd,hd2,show (modM ls).xs=xsM ls from rfl,lU hlt];exact⟨fun h=>⟨h.1,h.2.symm⟩,fun h=>⟨h.1,h.2.symm⟩⟩
  ·obtain⟨r,rfl⟩:∃ r,j=2*r+1:=⟨j/2,by omega⟩;rw[hpo,show (2*r+1)%2=1 by omega,show (2*r+1)/2=r by omega,uN (by omega),uN (by omega)];unfold clsM;rw[if_neg (by omega),e1,if_pos ⟨by omega,hi,by omega⟩,if_pos (by omega)];rw[has4,zam,hd,hd2,show (modM ls).xs=xsM ls from rfl,lU hlt,lU hlt]
theorem yJ5 {f:Nat→Nat}{B:Nat}(h:∀ c,f c≤B):∀ c,offN f c≤c*B
 | 0=>zaC _
 | c+1=>by rw[zV4,zaV,zbh];exact Nat.add_le_add (yJ5 h c) (h c)
theorem lv_len2 {lo hi yl yh:Rat}{es:List BX}:(lvOf lo hi yl yh es).length≤es.length+2:=by
 by_cases h:lo<hi
 ·exact lv_len h
 ·rw[← mV (l:=[]) (by rw[if_neg h])];exact zaC _
section
variable {ls : zD} (h : Prt ls)
include h
theorem corn_len:ls.flatten.length≤27:=by
 have:=zQ0 (K:=9) h.nine;have:=h.1;omega
theorem dE (i:Nat):(lvM ls i).length≤29:=zab lv_len2 (by have:=ed_len h;omega)
theorem yE7 (i:Nat):(wlR ls i).length≤87:=by
 have h1:=dE h i;have h2:=dE h (i-1);have h3:=corn_len h;unfold wlR;simp only[zak,zas,zbb,zai];have h4:=zcK (fun p:P2=>decide (p.1=(xsM ls).getD i 0)) ls.flatten;have h5:(if 0<i then(lvM ls (i-1)).map (·.2) else []).length≤29:=by split<;>simp<;>omega
 have h6:(if i+1<(xsM ls).length then(lvM ls i).map (·.1) else []).length≤29:=by split<;>simp<;>omega
 omega
theorem cR (i:Nat):(wlM ls i).length≤87:=zab (yY jQ _) (yE7 h i)
theorem yE3 (c:Nat):ynM ls c≤87:=by
 unfold ynM;split
 ·exact cR h _
 ·have:=dE h (c/2);omega
theorem zO7 (c:Nat):offC ls c≤c*173:=yJ5 (fun c=>by unfold nC;have:=yE3 h c;omega) c
theorem dO:(celM ls).length≤3460000:=by
 rw[rS];have h1:=zO7 h (kC ls);have h2:=dX h;have h3:kC ls*173≤20000*173:=Nat.mul_le_mul_right _ (by unfold kC;omega);omega
end
theorem lv_edge {ls:zD}{lo hi:Rat}(hl:lo<hi){yl yh x:Rat}{a:P2}(ha:a∈lvOf lo hi yl yh (xD ls)):(∃ e∈xD ls,aH lo hi e∧xF a (qE lo hi x)=zM e.1 e.2 x)∨xF a (qE lo hi x)=yl∨xF a (qE lo hi x)=yh:=by
 have hm:=((rF hl).mem a).1 ha;rcases zad.1 hm with hm | hm
 ·left;obtain⟨e,he,ht,rfl⟩:=mD.1 hm;refine⟨e,he,ht,?_⟩;unfold qO;unfold aH at ht;unfold xF qE zM atP addP gI subP;have h1:e.2.1-e.1.1≠0:=by grind
  rw[if_pos hl,if_neg h1,if_neg h1,if_neg h1];simp only;have h2:hi-lo≠0:=by grind
  generalize e.2.2-e.1.2=dy at *;generalize hd:e.2.1-e.1.1=d at *;generalize e.1.1=a1 at *;generalize e.1.2=a2 at *;have e3:(x-lo)/(hi-lo)*(hi-lo)=x-lo:=zcz h2;generalize (x-lo)/(hi-lo)=t at *;rw[Rat.div_def,Rat.div_def,Rat.div_def];generalize d⁻¹=v at *;grind
 ·right;simp only[zae,zaN,or_false] at hm;rcases hm with rfl | rfl
  ·left;unfold xF;grind
  ·right;unfold xF;grind
theorem wl_r {ls:zD}(h:Prt ls){i:Nat}(hi:i<(xsM ls).length){y:Rat}(hy:y∈wlR ls i):rlen y 14:=by
 have hlv:∀ j,j+1<(xsM ls).length→∀ a∈lvM ls j,rlen a.1 14∧rlen a.2 14:=fun j hj a ha =>
  yK2 h.fp h.bx (vQ (by omega)) (vQ hj) a (((rF (jE ls j hj)).mem a).1 ha)
 rcases lK.1 hy with(rfl | rfl) | ⟨h0,a,ha,rfl⟩ | ⟨h0,a,ha,rfl⟩ | ⟨l,hl,p,hp,_,rfl⟩
 ·exact zO (dW h.bx.1.2) (by omega)
 ·exact zO (dW h.bx.2.2) (by omega)
 ·exact(hlv (i-1) (by omega) a ha).2
 ·exact(hlv i h0 a ha).1
 ·exact zO (dW (h.fp l hl p hp).2) (by omega)
theorem hs_r {ls:zD}(h:Prt ls){i:Nat}(hi:i+1<(xsM ls).length){y:Rat}(hy:y∈hsL ((xsM ls).getD i 0) ((xsM ls).getD (i+1) 0) (xU ((xsM ls).getD i 0) ((xsM ls).getD (i+1) 0)) (lvM ls i)):rlen y 21:=by
 unfold hsL at hy;obtain⟨a,ha,rfl⟩:=zaj.1 hy;have hx:rlen (xU ((xsM ls).getD i 0) ((xsM ls).getD (i+1) 0)) 10:=wH (pA h.fp h.bx (vQ (by omega))) (pA h.fp h.bx (vQ hi));rcases lv_edge (jE ls i hi) (x:=xU ((xsM ls).getD i 0) ((xsM ls).getD (i+1) 0)) ha with⟨e,he,_,k⟩ | k | k
 ·rw[k];obtain⟨k1,k2⟩:=zY2 h.fp he;exact cY (nI k1) (nI k2) hx
 ·rw[k];exact zO (dW h.bx.1.2) (by omega)
 ·rw[k];exact zO (dW h.bx.2.2) (by omega)
theorem sF {ls:zD}{i:Nat}(hi:i<(xsM ls).length):bX ls (zQ ls) (xsM ls) (lvsM ls) i=wlR ls i:=by
 unfold bX wlR uS aD atX;have e1:0<i→(lvsM ls).getD (i-1) []=lvM ls (i-1):=fun h=>eZ (by omega);congr 1;congr 1
 ·congr 1;by_cases h:0<i
  ·rw[if_pos h,if_pos h,e1 h]
  ·rw[if_neg h,if_neg h]
 ·by_cases h:i+1<(xsM ls).length
  ·rw[if_pos h,eZ h]
  ·rw[if_neg h,zag,zbX (by rw[iN];omega)];rfl
section
variable {ls : zD} (h : Prt ls)
include h
theorem k23allP:CTy prog 98 [sv (sl 1 (ls.map (pcc 1))),ag (bxc 1 (zQ ls)),sv (sl 3 ((xsM ls).map (rtc 3)))] (sv (sl 1 ((lvsM ls).map (pcc 14)))):=by
 have k:=k23allT (ls:=ls) (bl:=(zQ ls).1) (bh:=(zQ ls).2) (xs:=xsM ls) (n:=1) (m:=3) (n3:=1) (N:=14) (by omega) (by omega) (by omega) (by omega) (by have:=h.1;omega) h.nine (dX h) fun j hj=>yK2 h.fp h.bx (vQ (by omega)) (vQ hj);have e:((List.range ((xsM ls).length-1)).map fun j=>sl 6 ((lvA (xsM ls) (zQ ls).1 (zQ ls).2 (xD ls) j).map (ptc 14)))=(lvsM ls).map (pcc 14):=by unfold lvsM;rw[List.map_map];rfl
 rw[e] at k;exact k
theorem k24wallsP:CTy prog 99 [sv (sl 1 (ls.map (pcc 1))),ag (bxc 1 (zQ ls)),sv (sl 3 ((xsM ls).map (rtc 3))),sv (sl 1 ((lvsM ls).map (pcc 14)))] (sv (sl 1 ((wlsM ls).map fun l=>sl 3 (l.map (rtc 14))))):=by
 have k:=k24walls (ls:=ls) (b:=zQ ls) (xs:=xsM ls) (lvs:=lvsM ls) (n:=1) (m:=3) (N:=14) (by omega) (by omega) (by omega) (by have:=dX h;omega) (fun l hl=>by have:=h.nine l hl;omega) (by have:=h.1;omega) (fun i hi=>by rw[sF hi];have:=yE7 h i;omega) fun i hi y hy=>by rw[sF hi] at hy;exact wl_r h hi hy
 have e:((List.range (xsM ls).length).map fun i=>setOf cmpR (bX ls (zQ ls) (xsM ls) (lvsM ls) i))=wlsM ls:=zbZ fun i hi=>by rw[sF (zaE.1 hi)];rfl
 rw[e] at k;exact k
theorem k24cellsP:CTy prog 100 [ag (st [bxc 1 (zQ ls),sl 3 ((xsM ls).map (rtc 3)),sl 1 ((lvsM ls).map (pcc 14)),sl 1 ((wlsM ls).map fun l=>sl 3 (l.map (rtc 21))),sl 9 []])] (sv (sl 9 ((celM ls).map (celT 65)))) :=
 k24cells (n:=3) (m:=21) (q:=14) (N:=65) (by omega) (by omega) (by omega) (fun x hx=>pA h.fp h.bx hx) (jE ls) (fun l hl=>by
  obtain⟨i,hi,rfl⟩:=zaj.1 hl;have hi:=zaE.1 hi;exact⟨by have:=cR h i;omega,fun y hy=>zO (wl_r h hi (yA8.1 hy)) (by omega)⟩) (fun l hl=>by
  obtain⟨i,hi,rfl⟩:=zaj.1 hl;have:=dE h i;omega) (fun i hi hi2 y hy=>by rw[eZ hi2] at hy;exact hs_r h hi2 hy) (by omega) (by omega) (by omega) (dX h)
end
theorem sl_nil {k:Nat}{M:Nat→Prop}{w:World}{us:List Value}(h:(xc (.slice none 0 0)).p M w us):(sl k ([]:List CT)).p M w us:=by
 obtain⟨rfl,_⟩:=h;exact(aB (k:=k) M w _ rfl)
theorem bx_up {n m:Nat}{b:BX}(h:n≤m){M:Nat→Prop}{w:World}{us:List Value}(k:(bxc n b).p M w us):(bxc m b).p M w us:=by
 obtain⟨x,y,e1,h1,z,o,e2,h2,h3⟩:=k;exact⟨x,y,e1,eI h h1,z,o,e2,eI h h2,h3⟩
theorem xC7 {n m:Nat}(h:n≤m){l:List Rat}{M:Nat→Prop}{w:World}{us:List Value}(k:(sl 3 (l.map (rtc n))).p M w us):(sl 3 (l.map (rtc m))).p M w us :=
 dM (f:=rtc n) (g:=rtc m) (fun a _ {M w us} ⟨s,b,d,e,g⟩=>⟨s,b,d,e,g.up h⟩) (fun _=>rfl) k
theorem xB2 {n m:Nat}(h:n≤m){l:List (List Rat)}{M:Nat→Prop}{w:World}{us:List Value}(k:(sl 1 (l.map fun x=>sl 3 (x.map (rtc n)))).p M w us):(sl 1 (l.map fun x=>sl 3 (x.map (rtc m)))).p M w us :=
 dM (f:=fun x:List Rat=>sl 3 (x.map (rtc n))) (g:=fun x:List Rat=>sl 3 (x.map (rtc m))) (fun a _ {M w us} k=>xC7 h k) (fun _=>rfl) k
theorem lr_up {n m:Nat}(h:n≤m){l:zD}{M:Nat→Prop}{w:World}{us:List Value}(k:(sl 1 (l.map (pcc n))).p M w us):(sl 1 (l.map (pcc m))).p M w us :=
 dM (f:=pcc n) (g:=pcc m) (fun a _ {M w us} k=>dM (f:=ptc n) (g:=ptc m) (fun q _ {M w us} k=>eI h k) (fun _=>rfl) k) (fun _=>rfl) k
theorem k24cellsQ {ls:zD}(h:Prt ls):CTy prog 100 [ag (st [bxc 1 (zQ ls),sl 3 ((xsM ls).map (rtc 3)),sl 1 ((lvsM ls).map (pcc 14)),sl 1 ((wlsM ls).map fun l=>sl 3 (l.map (rtc 14))),xc (.slice none 0 0)])] (sv (sl 9 ((celM ls).map (celT 65)))) :=
 yE (k24cellsP h) (fs1 (fun M w v ⟨us,e,x1,y1,e1,h1,x2,y2,e2,h2,x3,y3,e3,h3,x4,y4,e4,h4,x5,y5,e5,h5,h6⟩=>⟨us,e,x1,y1,e1,h1,x2,y2,e2,h2,x3,y3,e3,h3,x4,y4,e4,xB2 (by omega) h4,x5,y5,e5,sl_nil h5,h6⟩) fs0)
theorem zW6 {ls:zD}(h:Prt ls):CTy prog 33 [sv (sl 1 (ls.map (pcc 1)))] (ag (mdT 65 (modM ls))):=by
 refine fw [.cell 2 65] func33 fun X=>?_;iterate 2 refine u ?_
 refine u fun b2=>?_;repeat refine u ?_
 refine zB rfl rfl (kframeP h) ?_;refine zA1 (obmd rfl rfl) (u fun b3=>?_);refine zH 0 rfl rfl ?_;iterate 3 refine u ?_
 refine zR (gH (cs':=[bxc 1 (zQ ls),xc (.slice none 0 0),xc (.slice none 0 0),xc (.slice none 0 0),xc (.slice none 0 0)]) 0 rfl cX) (zA1 (omv rfl) ?_);repeat refine u ?_
 refine zA1 (zK 0 rfl) (zB rfl rfl (k22allP h) ?_);repeat refine u ?_
 refine zH 0 rfl rfl ?_;repeat refine u ?_
 refine zA1 (zK 0 rfl) ?_;repeat refine u ?_
 refine zA1 (zK 0 rfl) (zB rfl rfl (k23allP h) ?_);repeat refine u ?_
 refine zH 0 rfl rfl ?_;repeat refine u ?_
 refine zA1 (zK 0 rfl) ?_;repeat refine u ?_
 refine zA1 (zK 0 rfl) ?_;repeat refine u ?_
 refine zA1 (zK 0 rfl) (zB rfl rfl (k24wallsP h) ?_);repeat refine u ?_
 refine zH 0 rfl rfl ?_;repeat refine u ?_
 refine zR (gH (cs':=[st [bxc 1 (zQ ls),sl 3 ((xsM ls).map (rtc 3)),sl 1 ((lvsM ls).map (pcc 14)),sl 1 ((wlsM ls).map fun l:List Rat=>sl 3 (l.map (rtc 14))),xc (.slice none 0 0)]]) 0 rfl fun h=>⟨_,[],(zap _).symm,h,rfl⟩) (zA1 (zK 0 rfl) (zB rfl rfl (k24cellsQ h) ?_));refine zR (gH (cs':=[bxc 1 (zQ ls),sl 3 ((xsM ls).map (rtc 3)),sl 1 ((lvsM ls).map (pcc 14)),sl 1 ((wlsM ls).map fun l:List Rat=>sl 3 (l.map (rtc 14))),xc (.slice none 0 0)]) 0 rfl cX) (zA1 (ofo rfl) ?_);refine zH 0 rfl rfl ?_;repeat refine u ?_
 refine zR (gH (cs':=[st [bxc 1 (zQ ls),sl 3 ((xsM ls).map (rtc 3)),sl 1 ((lvsM ls).map (pcc 14)),sl 1 ((wlsM ls).map fun l:List Rat=>sl 3 (l.map (rtc 14))),sl 9 ((celM ls).map (celT 65))]]) 0 rfl fun h=>⟨_,[],(zap _).symm,h,rfl⟩) (zA1 (zK 0 rfl) ?_);refine zH 1 rfl rfl ?_;repeat refine u ?_
 refine⟨[_],zN 1 rfl rs0,yJ ?_⟩;exact fun M w v ⟨us,e,x1,y1,e1,h1,x2,y2,e2,h2,x3,y3,e3,h3,x4,y4,e4,h4,h5⟩=>⟨us,e,x1,y1,e1,bx_up (by omega) h1,x2,y2,e2,xC7 (by omega) h2,x3,y3,e3,lr_up (by omega) h3,x4,y4,e4,xB2 (by omega) h4,h5⟩
noncomputable def atI (y:List Rat)(v:Rat):Nat:=Classical.epsilon fun k=>k<y.length∧y.getD k 0=v
noncomputable def inI (e:List Rat)(v:Rat):Nat:=Classical.epsilon fun r=>r+1<e.length∧e.getD r 0≤v∧v<e.getD (r+1) 0
theorem at_i {y:List Rat}(hy:jM y){k:Nat}(hk:k<y.length):k=atI y (y.getD k 0):=by
 have h:=zcF (p:=fun i=>i<y.length∧y.getD i 0=y.getD k 0) ⟨k,hk,rfl⟩;change atI y (y.getD k 0)<_∧y.getD (atI y (y.getD k 0)) 0=_ at h;generalize atI y (y.getD k 0)=i at h;rcases zbH k i with c | c | c
 ·have:=qW hy c h.1;grind
 ·exact c
 ·have:=qW hy c hk;grind
theorem in_i {e:List Rat}(he:incQ e){r:Nat}{v:Rat}(h1:r+1<e.length)(h2:e.getD r 0≤v)(h3:v<e.getD (r+1) 0):r=inI e v:=by
 have h:=zcF (p:=fun r=>r+1<e.length∧e.getD r 0≤v∧v<e.getD (r+1) 0) ⟨r,h1,h2,h3⟩;change inI e v+1<_∧e.getD (inI e v) 0≤_∧_<e.getD (inI e v+1) 0 at h;generalize inI e v=i at h;rcases zbH r i with c | c | c
 ·have:=bR he (show r+1≤i by omega) (by omega);grind
 ·exact c
 ·have:=bR he (show i+1≤r by omega) (by omega);grind
theorem yO9 {W S:Nat}{y e:List Rat}(hy:jM y)(he:incQ e):(acrS W S y e).length≤2*y.length+2*e.length:=by
 have h:=qZ (m:=acrS W S y e) (l:=(List.range e.length).map (fun r=>(W+2*atI y (e.getD r 0),S+2*r))++((List.range y.length).map (fun k=>(W+2*k,S+2*inI e (y.getD k 0)+1))++((List.range e.length).map (fun r=>(W+2*atI y (e.getD (r+1) 0),S+2*r+1))++(List.range y.length).map (fun k=>(W+2*k+1,S+2*inI e (y.getD k 0)+1))))) (zR5 W S y e) fun x hx=>by
  simp only[zad,zaj,zaE];obtain⟨k,r,hk,hr,⟨h,e1⟩ | ⟨⟨h1,h2,h3⟩,e1⟩ | ⟨⟨h1,h2,h3,h4⟩,e1⟩⟩:=yA1.1 hx
  ·exact .inl ⟨r,hr,by rw[h,← at_i hy hk,e1]⟩
  ·by_cases c:y.getD k 0<e.getD (r+1) 0
   ·exact .inr (.inl ⟨k,hk,by rw[← in_i he h1 h2 c,e1]⟩)
   ·exact .inr (.inr (.inl ⟨r,hr,by rw[show e.getD (r+1) 0=y.getD k 0 by grind,← at_i hy hk,e1]⟩))
  ·exact .inr (.inr (.inr ⟨k,hk,by rw[← in_i he h1 h2 h3,e1]⟩))
 simp only[zak,zai,zbJ] at h;omega
theorem wK {ls:zD}:∀ i,2*(uM ls i).length≤i*i
 | 0=>by simp[uM]
 | i+1=>by
  rw[tD,zak,zai,zaG];have:=wK (ls:=ls) i;have e:(i+1)*(i+1)=i*i+2*i+1:=by rw[zaV,zat];omega
  omega
theorem yD4 {α β:Type}{f:α→List β}{B:Nat}:∀ {l:List α},(∀ x∈l,(f x).length≤B)→(l.flatMap f).length≤l.length*B
 | [],_=>by simp
 | a::l,h=>by
  rw[zbU,zak,zas,zcv];have h1:=h a (by simp);have:=yD4 (l:=l) fun x hx=>h x (by simp[hx]);omega
section
variable {ls : zD} (h : Prt ls)
include h
theorem xs_less:(xsM ls).length≤677:=by
 have h1:=yY jQ (rawC ls (zQ ls));have h2:=zJ4 h.nine;have h3:=wS (l:=yP ls) fun z hz=>by
  obtain⟨a,b⟩:=wL (ls:=ls) (i:=ls.length) (x:=z) (zac _) hz;exact⟨h.nine _ a,h.nine _ b⟩
 have h4:=wK (ls:=ls) ls.length;have h0:=h.1;have h8:ls.length*ls.length≤3*3:=zaY h0 h0;have h9:2*(yP ls).length≤9:=zab h4 h8;have h5:(rawC ls (zQ ls)).length=2+(nO ls).length+(meetX (yP ls)).length:=by unfold rawC;simp;omega
 unfold xsM cutsOf;omega
theorem rA:(joinSeq ls).length≤500000:=by
 have hx:=xs_less h;have h1:=yD4 (l:=List.range (xsM ls).length) (f:=wlJ ls) (B:=172) fun i _=>by
  unfold wlJ gZ;rw[List.length_map,List.length_range];have:=cR h i;omega
 have h2:=yD4 (l:=List.range ((xsM ls).length-1)) (f:=slJ ls) (B:=520) fun i hi=>by
  have hi':i+1<(xsM ls).length:=by have:=zaE.1 hi;omega
  unfold slJ gZ;rw[zak,zak,zai,zbJ];have k1:=dE h i;have k2:=cR h i;have k3:=cR h (i+1);have k4:=yO9 (W:=offC ls (2*i)) (S:=offC ls (2*i+1)) (bW ls i) (zY1 h.hull hi' false);have k5:=yO9 (W:=offC ls (2*(i+1))) (S:=offC ls (2*i+1)) (bW ls (i+1)) (zY1 h.hull hi' true);rw[oW] at k4 k5;omega
 rw[zbJ] at h1 h2;have h3:(xsM ls).length*172≤677*172:=zaU _ hx;have h4:((xsM ls).length-1)*520≤676*520:=zaU _ (by omega);unfold joinSeq;rw[zak];omega
end
theorem set_nod {α:Type}[Inhabited α]{cf:α→α→Int}(h:COrd cf){raw l:List α}(hn:raw.Nodup)(hp:l.Perm raw)(hs:∀ i j,i<j→j<l.length→¬ cf l[j]! l[i]! < 0):l=setOf cf raw:=by
 refine IsSet.eq h ⟨zci.2 fun i j hi hj hij=>?_,fun x=>hp.mem_iff⟩;have h1:=hs i j hij hj;rw[getElem!_pos l j hj,getElem!_pos l i hi] at h1;have h2:l[i]≠l[j]:=zci.1 (hp.nodup_iff.2 hn) i j hi hj hij;have h3:=mt (h.zero l[i] l[j]).1 h2;have h4:=mt (h.anti l[i] l[j]).1 h1;omega
instance:Df CL:=⟨(0,0,0,(0,0))⟩
theorem iW {ls:zD}{a:Nat}(h:a<(celM ls).length):∃ c j,inC ls c j∧a=offC ls c+j∧(celM ls).getD a Df.d=cellC ls c j:=by
 obtain⟨c,j,h1,e⟩:=xA5 h;exact⟨c,j,h1,e,by rw[e];exact fN h1⟩
theorem zW3 {ls:zD}{c j:Nat}:(cellC ls c j).1<4∧(cellC ls c j).1=2*(c%2)+j%2∧(cellC ls c j).2.1=c/2∧(cellC ls c j).2.2.1=j/2∧(cellC ls c j).2.2.2=repC ls c j:=⟨by show 2*(c%2)+j%2<4;omega,rfl,rfl,rfl,rfl⟩
noncomputable def hasA (s:Bool)(m:Mdl)(a:Nat)(p:P2):Bool:=hasB s (m.cs.getD a Df.d).1 (clsM m (m.cs.getD a Df.d).1 (m.cs.getD a Df.d).2.1 (m.cs.getD a Df.d).2.2.1) p
theorem zX3 {ls:zD}{c j:Nat}(hc:inC ls c j){s:Bool}{p:P2}:hasA s (modM ls) (offC ls c+j) p=true↔if s then ownC ls c j p else touC ls c j p:=by
 unfold hasA;rw[show (modM ls).cs.getD (offC ls c+j) Df.d=cellC ls c j from fN hc];exact has_iff hc
section
variable {ls : zD} (h : Prt ls)
include h
theorem yU6 (i:Nat):((modM ls).wl.getD i Df.d).length≤1000000:=by
 show ((wlsM ls).getD i []).length≤_;rcases zaf i (xsM ls).length with c | c
 ·rw[lJ c];have:=cR h i;omega
 ·rw[zag,zbX (by rw[lX];exact c)];simp
theorem yU7 (i:Nat):((modM ls).lv.getD i Df.d).length≤1000000:=by
 show ((lvsM ls).getD i []).length≤_;rcases zaf (i+1) (xsM ls).length with c | c
 ·rw[eZ c];have:=dE h i;omega
 ·rw[zag,zbX (by rw[iN];omega)];simp
theorem yU5:(modM ls).xs.length≤1000000:=by have:=dX h;show (xsM ls).length≤_;omega
theorem vA {c j:Nat}(hc:inC ls c j):c/2≤1000000000000∧j/2≤1000000000000:=by
 have h1:=dX h;have h2:=yE3 h c;have h3:=hc.1;have h4:=hc.2;exact⟨by omega,by omega⟩
theorem kstouchM {N n a:Nat}{p:P2}(hN:N≤300)(hn:n≤300)(ha:a<(modM ls).cs.length):CTy prog 54 [ag (mdT N (modM ls)),ag (celT N ((modM ls).cs.getD a Df.d)),ag (ptc n p)] (exP (.bool (hasA false (modM ls) a p))):=by
 obtain⟨c,j,h1,-,e⟩:=iW ha;unfold hasA;rw[show (modM ls).cs.getD a Df.d=cellC ls c j from e];exact kstouch (c:=cellC ls c j) hN hn zW3.1 (vA h h1).1 (vA h h1).2 (yU5 h) (yU6 h) (yU7 h)
end
noncomputable instance (ls:zD)(a b:Nat):Decidable (jnN ls a b):=Classical.propDecidable _
def jnI (ls:zD)(a b:Int):Prop:=0≤a∧0≤b∧jnN ls a.toNat b.toNat
noncomputable instance (ls:zD)(a b:Int):Decidable (jnI ls a b):=Classical.propDecidable _
theorem yX9 {ls:zD}{a b:Nat}(ha:a<(modM ls).cs.length)(hb:b<(modM ls).cs.length)(hn:a≠b):(hasA false (modM ls) a ((modM ls).cs.getD b Df.d).2.2.2 || hasA false (modM ls) b ((modM ls).cs.getD a Df.d).2.2.2)=decide (jnI ls a b):=by
 obtain⟨c,j,h1,rfl,e1⟩:=iW ha;obtain⟨d,k,h2,rfl,e2⟩:=iW hb;rw[show (modM ls).cs.getD (offC ls c+j) Df.d=cellC ls c j from e1,show (modM ls).cs.getD (offC ls d+k) Df.d=cellC ls d k from e2,zct,zbN,zX3 h1,zX3 h2,decide_eq_true_eq];unfold jnI;rw[Int.toNat_natCast,Int.toNat_natCast,jnN_at h1 h2];exact⟨fun w=>⟨by omega,by omega,fun q=>hn (by rw[q.1,q.2]),w⟩,fun w=>w.2.2.2⟩
theorem yY0 {ls:zD}{a b:Int}(h:a<0∨b<0∨((modM ls).cs.length:Int)≤a∨((modM ls).cs.length:Int)≤b∨a=b):decide (jnI ls a b)=false:=decide_eq_false fun k=>by
 have:=yY1 k.2.2;have:=yD1 k.2.2;have:=k.1;have:=k.2.1;rw[show (modM ls).cs.length=(celM ls).length from rfl] at h;omega
theorem rI {ls:zD}(h:Prt ls){N:Nat}{a b:Int}(hN:N≤300):CTy prog 38 [ag (mdT N (modM ls)),exP (.int .i64 a),exP (.int .i64 b)] (exP (.bool (decide (jnI ls a b)))):=by
 have hl:(modM ls).cs.length≤3460000:=dO h;have key:=fun {i:Nat} {p:P2} (hi:i<(modM ls).cs.length)=>kstouchM h hN hN (n:=N) (p:=p) hi;have hj:=@yX9 ls;have ho:=@yY0 ls;generalize modM ls=m at *;refine fw [.tmp 6] func38 fun X=>?_;repeat refine u ?_
 refine tp (fun c0=>?_) fun c0=>?_;repeat refine u ?_
 refine e ?_;refine psb ?_;rotate_left;rotate_left
 ·exact(ho (by omega)).symm
 obtain⟨i,rfl⟩:∃ i:Nat,a=i:=⟨a.toNat,by omega⟩;obtain⟨k,rfl⟩:∃ k:Nat,b=k:=⟨b.toNat,by omega⟩;have e:=hj (a:=i) (b:=k) (by omega) (by omega) (by omega);iterate 2 refine u ?_
 apply yO 2 13 12 [(10,7,0),(11,8,1),(12,1000012,0)] rfl rfl mixed rfl rfl rfl;repeat refine u ?_
 refine cN rfl rfl (cal) (cN rfl rfl (cal) (cS rfl rfl rfl (cst rfl rfl rfl) ?_));refine cE (fun b7 b8=>?_);refine fm ?_;refine u ?_;refine zR (zU (s:=7) 1 rfl rfl) ?_;refine zH 0 rfl rfl (zR (zU (s:=8) 0 rfl rfl) ?_);repeat refine u ?_
 refine zB rfl rfl (key (i:=i) (by omega)) ?_;repeat refine u ?_
 refine t1g rfl rfl (old rfl rfl) ?_;repeat refine u ?_
 refine t1g rfl rfl (oca rfl rfl fun _=>key (i:=k) (by omega)) ?_;repeat refine u ?_
 refine⟨[_],rst rfl rs0,yJ (psb (by omega))⟩
noncomputable def nearL (ls:zD)(a:Int)(n:Nat):List Nat:=(List.range n).filter fun b=>decide (jnI ls a (b:Int))
theorem xF1 {ls:zD}(h:Prt ls){N:Nat}{a:Int}(hN:N≤300):CTy prog 40 [ag (mdT N (modM ls)),exP (.int .i64 a)] (sv (sl 1 ((nearL ls a (celM ls).length).map xi))):=by
 have hl:=dO h;have hcs:(modM ls).cs.length=(celM ls).length:=rfl;have kJ:∀ b:Nat,CTy prog 38 [ag (mdT N (modM ls)),exP (.int .i64 a),zI b] (exP (.bool (decide (jnI ls a (b:Int))))):=fun b=>rI h hN;generalize modM ls=m at *;generalize (celM ls).length=n at *;refine fw [.tmp 4] func40 fun X=>?_;repeat refine u ?_
 refine t_ts (xQ 3 1) ?_;refine lp (σ:=Nat×Value) [1,2,8] (fun s=>[(4,True,exP s.2),(9,True,zI s.1)]) (fun s=>[.row s.2 3 1 ((nearL ls a s.1).map xi)]) (fun s=>s.1≤n) (fun s=>n-s.1) ((0,.slice none 0 0)) ((by simp)) fun s hJ Y _=>?_;obtain⟨i,v⟩:=s;dsimp only at hJ ⊢;have hnl:(nearL ls a i).length≤i:=by unfold nearL;have:=List.length_filter_le (fun b:Nat=>decide (jnI ls a (b:Int))) (List.range i);rw[List.length_range] at this;exact this
 repeat refine u ?_
 refine tp (fun c0=>?_) fun c0=>?_;repeat refine u ?_
 refine zB rfl rfl (kJ i) ?_;repeat refine u ?_
 refine tp (fun c1=>?_) fun c1=>?_;iterate 4 refine u ?_
 refine u fun r19=>?_;repeat refine u ?_
 rotate_left;repeat refine u ?_
 rotate_left;iterate 7 refine u ?_
 refine t_ts (yK (s:=4) 0 rfl rfl) ?_;repeat refine u ?_
 refine e ?_;rotate_left
 ·refine⟨(i+1,r19),tes ?_ ?_ ?_,(by omega),(by omega)⟩;refine zA rfl (zA rfl tn);refine zA rfl (zA rfl (zA rfl tn));unfold nearL;rw[List.range_succ,List.filter_append,List.filter_cons_of_pos (by simpa using c1)];exact List.Sublist.refl _
 ·refine⟨(i+1,v),tes ?_ ?_ ?_,(by omega),(by omega)⟩;refine zA rfl (zA rfl tn);refine zA rfl (zA rfl (zA rfl tn));unfold nearL;rw[List.range_succ,List.filter_append,List.filter_cons_of_neg (by simpa using c1),List.filter_nil,List.append_nil];exact List.Sublist.refl _
 ·rw[show i=n by omega];exact PSub.refl _
abbrev jzT (p:Int×Int):CT:=st [xc (.int .i64 p.1),xc (.int .i64 p.2)]
def lenJ (m:Mdl)(p:Int×Int):Rat:=if min p.1 p.2<0∨(m.cs.length:Int)≤max p.1 p.2 then 0 else farP (m.cs.getD p.1.toNat Df.d).2.2.2 (m.cs.getD p.2.toNat Df.d).2.2.2
instance:Df (Int×Int):=⟨(0,0)⟩
theorem yV4 {x y:Rat}{n:Nat}(hn:n≤4000):CTy prog 190 [ag (rtq n x),ag (rtq n y)] (ag (rtc (2*n+3) (absR (x-y)))):=by
 refine fw [.cell 4 29] func190 fun X=>?_;iterate 2 refine u ?_
 refine tbx (hc:=cts1) rfl fun b2=>(tbx (hc:=cts1) rfl fun b3=>(u fun b4=>?_));repeat refine u ?_
 refine zB rfl rfl (pN (by omega) (by omega)) ?_;repeat refine u ?_
 refine tp (fun c0=>?_) fun c0=>?_;repeat refine u ?_
 refine zB rfl rfl (wW (by omega) (by omega)) ?_;repeat refine u ?_
 refine e ?_;rotate_left;repeat refine u ?_
 refine zB rfl rfl (wW (by omega) (by omega)) ?_;repeat refine u ?_
 refine e ?_;rotate_left
 ·exact uT (by have:=xH.1 c0;unfold absR;rw[if_pos (by grind)];grind) (by omega)
 ·exact uT (by have:=mt xH.2 c0;unfold absR;rw[if_neg (by grind)]) (by omega)
theorem wvfar {p q:P2}{n:Nat}(hn:n≤1000):CTy prog 115 [ag (ptq n p),ag (ptq n q)] (ag (rtc (4*n+9) (farP p q))):=by
 refine fw [.cell 4 29] func115 fun X=>?_;iterate 4 refine u ?_
 refine u fun b4=>?_;iterate 2 refine u ?_
 apply yO 1 6 5 [(4,5,0),(5,1000005,0)] rfl rfl mixed rfl rfl rfl;repeat refine u ?_
 refine cx1 (oca rfl rfl fun _=>zP4) rfl ?_;repeat refine u ?_
 refine cx1 (oca rfl rfl fun _=>pT (yV4 (by omega)) (yV4 (by omega))) rfl ?_;refine cN rfl rfl (cal) (cS rfl rfl rfl (cst rfl rfl rfl) ?_);refine cE (fun b5=>?_);refine fm ?_;refine u ?_;refine zR (zU (s:=5) 0 rfl rfl) ?_;repeat refine u ?_
 refine zB rfl rfl (yV7 (by omega)) ?_;refine zH 0 rfl rfl ?_;repeat refine u ?_
 refine⟨[_],zN 0 rfl rs0,yJ ?_⟩;exact uT rfl (by omega)
theorem kvfar {Ψ Φ:PV}{p q:P2}{n:Nat}[h1:QP Ψ n p][h2:QP Φ n q](hn:n≤1000):CTy prog 115 [Ψ,Φ] (ag (rtc (4*n+9) (farP p q))):=yE (wvfar hn) (fs1 qp_q (fs1 qp_q fs0))
theorem kvfarK {Ψ Φ:PV}{p q:P2}{n K:Nat}[h1:QP Ψ n p][h2:QP Φ n q](hn:n≤1000)(hK:4*n+9≤K):CTy prog 115 [Ψ,Φ] (ag (rtc K (farP p q))):=gQ (kvfar hn) (uT rfl hK)
theorem tV {m:Mdl}{N:Nat}{js:List (Int×Int)}(hN:N≤1000)(hl:js.length≤100000000):CTy prog 43 [ag (mdT N m),sv (sl 2 (js.map jzT))] (sv (sl 3 ((js.map (lenJ m)).map (rtc (4*N+9))))):=by
 refine fw [.tmp 4] func43 fun X=>?_;repeat refine u ?_
 refine t_ts (xQ 29 3) ?_;refine lp (σ:=Nat×Value) [2,7,8] (fun s=>[(4,True,exP s.2),(9,True,zI s.1)]) (fun s=>[.row s.2 29 3 (((js.take s.1).map (lenJ m)).map (rtc (4*N+9)))]) (fun s=>s.1≤js.length) (fun s=>js.length-s.1) ((0,.slice none 0 0)) ((by simp)) fun s hJ Y _=>?_;obtain⟨i,v⟩:=s;dsimp only at hJ ⊢;repeat refine u ?_
 refine tp (fun c0=>?_) fun c0=>?_;iterate 7 refine u ?_
 refine u fun b6=>?_;refine zH 0 rfl rfl (zR (zU (s:=6) 0 rfl rfl) ?_);repeat refine u ?_
 refine tp (fun c1=>?_) fun c1=>?_;repeat refine u ?_
 refine zB rfl rfl (krof (k:=0) (K:=4*N+9) (by omega) (by omega)) ?_;repeat refine u ?_
 refine tap 0 rfl rfl rfl (by(simp;omega)) rfl fun r33=>?_;repeat refine u ?_
 rotate_left;refine u ?_;refine zL 17 mixed rfl rfl ?_;repeat refine u ?_
 refine d1 (oix (js.getD i Df.d).1.toNat rfl rfl rfl (fun g=>(by omega)) (fun g=>(by omega))) ?_;repeat refine u ?_
 refine d1 (ofa rfl rfl) ?_;repeat refine u ?_
 refine d1 (oix (js.getD i Df.d).2.toNat rfl rfl rfl (fun g=>(by omega)) (fun g=>(by omega))) ?_;repeat refine u ?_
 refine zC rfl rfl (kvfarK (K:=4*N+9) (by omega) (by omega)) ?_;repeat refine u ?_
 refine tap 0 rfl rfl rfl (by(simp;omega)) rfl fun r51=>?_;repeat refine u ?_
 refine zA1 (oad rfl rfl (by omega)) ?_;repeat refine u ?_
 rotate_left;iterate 7 refine u ?_
 refine t_ts (yK (s:=4) 0 rfl rfl) ?_;repeat refine u ?_
 refine e ?_;rotate_left
 ·refine⟨(i+1,r33),tes ?_ ?_ ?_,(by omega),(by omega)⟩;refine zA rfl (zA rfl tn);refine zA rfl (zA rfl (zA rfl tn));rw[(zP (Df.d:Int×Int) (l:=js) (s:=i) (by omega)).1,zaq,zaq,zcU,zcU,show lenJ m (js.getD i Df.d)=((0:Nat):Rat) from if_pos c1];exact zaa _
 ·refine⟨(i+1,r51),tes ?_ ?_ ?_,(by omega),(by omega)⟩;refine zA rfl (zA rfl tn);refine zA rfl (zA rfl (zA rfl tn));rw[(zP (Df.d:Int×Int) (l:=js) (s:=i) (by omega)).1,zaq,zaq,zcU,zcU,show lenJ m (js.getD i Df.d)=_ from if_neg c1];exact zaa _
 ·rw[zaw (by omega)];exact PSub.refl _
end Go.Proofs.YtalkinejknjidaaGreatDoor
namespace Go.SL
open Go.RowKit
def ex (us:List Value)(c:CT):CT:=⟨c.sz,fun M w cs=>cs=us∧c.p M w cs,fun h=>c.len h.2,fun h=>c.one h.2,fun h k=>⟨h.1,c.mono h.2 k⟩⟩
def an (v:Value)(Ψ:PV):PV:=⟨fun M w u=>u=v∧Ψ.p M w u,fun h k=>⟨h.1,Ψ.mono h.2 k⟩⟩
def frC (n:Nat)(ty:TypeId)(z:Value)(L:Nat):CT where
 sz:=1
 p M w cs:=∃ b,cs=[.slice (some ⟨b,0,none⟩) L L]∧n≤b∧¬ M b∧w.heap[b]? = some (.cells (List.replicate L z).toArray ty (0,0))
 len h:=by obtain⟨b,e,_⟩:=h;rw[e];rfl
 one h u hu:=by obtain⟨b,e,_⟩:=h;rw[e] at hu;rw[zan.1 hu];rfl
 mono h k:=by obtain⟨b,e,h1,h2,h3⟩:=h;exact⟨b,e,h1,k b _ _ _ h2 h3⟩
instance {S:List Ow}{v:Value}{Ψ:PV}{c:CT}[h:LP S Ψ c]:LP S (an v Ψ) c:=⟨fun hg h1=>h.h hg h1.2⟩
instance {us:List Value}{c c':CT}{off:Nat}[h:FA c off c']:FA (ex us c) off c':=⟨fun h1=>h.h h1.2⟩
theorem yH4 {M M':Nat→Prop}{w:World}:∀ {l us:List Value},stp (l.map xc) M w us→stp (l.map xc) M' w us
 | [],_,h=>h
 | _::_,_,⟨a,b,e,h1,h2⟩=>⟨a,b,e,h1,yH4 h2⟩
section
variable {P : Program} {r : Option Nat} {N : Nat} {X Y : Cx} {K : TK} {Γ : TE} {S : List Ow} {ops : Array Oper} {M : Nat → Prop} {p qx qy : Prop} {Ψx Ψy : PV} {d : Nat} {x y : Operand} {t t' ty : TypeId} {pos : String} {af : Array Edge} {l : List Oper} {bytes : Nat} {ki kj : IntKind} {a b : Int}
theorem ofan {al:Bool}{f off sz:Nat}{c c':CT}{v:Value}(hx:tv Γ x=some (qx,an v (pa c)))[Im p qx][ht:TFd P t f al off sz][ha:FA c off c']:Ob P r N ops M S p ⟨some d,.fieldAddr t x f,t',pos,af,none⟩ Γ (pa c') :=
 ob1 hx (by simp[Op.operands]) fun D E w u hN hg e1 ⟨_,b,o,us,e,h1,h2,h3⟩=>by
  subst e;obtain⟨fields,fd,bytes,z,k1,k2,k3,k4,k5,_⟩:=ht.h;exact qG off hN k1 k2 k3 k4 k5 e1 (fin ⟨b,o+off,_,rfl,h1,h2.sub off c'.sz,ha.h h3⟩)
theorem obmk {z:Value}(i j b2:Nat){zA2:TypeId}{cs2:List CT}(hS:S[j]? = some (.blk b2 zA2 cs2))(hx:tv Γ x=some (qx,Ψx))(hy:tv Γ y=some (qy,Ψy))[Im p qx][Im p qy][h1:VI Ψx ki a][h2:VI Ψy kj b](ha:a=(i:Int))(hb:b=(i:Int))[ht:TSl P t ty 1 bytes][hz:Z1 P ty z](hj:i≤100000000000) :
  Ob P r N ops M S p ⟨some d,.makeSlice t x y,t',pos,af,none⟩ Γ (sv (frC (b2+1) ty z i)):=fun D E w d' hd hN hg hp hT=>by
 obtain rfl:=Option.some.inj hd;obtain⟨u1,e1,k1⟩:=xE hT hx hp (by simp[Op.operands]);obtain⟨u2,e2,k2⟩:=xE hT hy hp (by simp[Op.operands]);rw[h1.h k1] at e1;rw[h2.h k2] at e2;obtain⟨by',hs1,hby,hone⟩:=hz.h;have hlt:b2<w.heap.size:=Ow.ok_lt (hg.own _ (zav hS)) rfl;refine tJ i i hN ht.u hs1 hone e1 e2 ha hb (zac _) (zab (zaY hby hj) (by decide)) (by omega) fun w' b hn=>?_;refine yZ ⟨rfl,hn.below,_,xV (by simp),b,rfl,by rw[hn.at_];omega,fun c=>?_,hn.obj⟩;have:=hg.ok b c;rw[hn.at_] at this;omega
structure Rbs (X Y:Cx)(S:List Ow)(c:CT)(v:Value)(us:List Value):Prop where
 ms:Y.ms=X.ms
 back:∀(ms:List Deferred) Γ' S' E w,St { Y with ms:=ms } Γ' S' E w→St { X with ms:=ms } Γ' S' E w
 tab:Tab (Mk S Y.M) Y.w
 z:∀ b,Y.z b→∃ o∈S,o.bk=some b
 pv:(pa c).p (Mk S Y.M) Y.w v
 cs:c.p (Mk S Y.M) Y.w us
instance {X:Cx}{ms:List Deferred}:Eqx X { X with ms:=ms }:=⟨ms,rfl⟩
theorem Rbs.bk {c:CT}{v:Value}{us:List Value}(h:Rbs X Y S c v us){Γ':TE}{S':List Ow}{E:Env}{w:World}(k:St Y Γ' S' E w):St X Γ' S' E w:=by
 have:=h.back Y.ms Γ' S' E w k;rw[h.ms] at this;exact this
theorem rbs_of {E:Env}{w:World}(h:St X Γ S E w):∃ Y,Y.w=w∧Y.M=X.M∧Y.ms=X.ms∧(∀(ms:List Deferred) Γ' S' E w,St { Y with ms:=ms } Γ' S' E w→St { X with ms:=ms } Γ' S' E w)∧(∀ b,Y.z b→∃ o∈S,o.bk=some b)∧∀ Γ',TM Γ' (Mk S X.M) E w→St Y Γ' S E w:=by
 refine⟨{ X with w:=w,z:=fun b=>∃ o∈S,o.bk=some b },rfl,rfl,rfl,fun ms Γ' S' E' w' k=>?_,fun b h=>h,fun Γ' hT=>?_⟩
 ·refine⟨⟨k.bel.os.trans h.bel.os,k.bel.tape.trans h.bel.tape,k.bel.output.trans h.bel.output,zab h.bel.size k.bel.size,fun b hb hz=>?_⟩,k.gd,fun o ho b e=>?_,k.apt,h.ok0,h.zm,⟨k.mko.m,h.mko.n,k.mko.o⟩,k.tm⟩
  ·refine(k.bel.block b (zao hb h.bel.size) fun⟨o,ho,e⟩=>?_).trans (h.bel.block b hb hz);have hb:b<X.w.heap.size:=hb;exact(h.new o ho b e).elim (fun c=>by omega) hz
  ·exact(k.new o ho b e).elim (fun c => .inl (zab h.bel.size c)) fun⟨o2,h2,e2⟩=>h.new o2 h2 b e2
 ·exact⟨⟨rfl,(xK w).tape,rfl,zac _,fun _ _ _=>rfl⟩,h.gd,fun o ho b hb => .inr ⟨o,ho,hb⟩,h.apt,fun k hk=>zao (h.ok0 k hk) h.bel.size,fun b ⟨o,ho,hb⟩ hM=>(h.new o ho b hb).elim (fun c=>by have:=h.ok0 b hM;omega) fun c=>h.zm b c hM,⟨h.mko.m,zab h.mko.n h.bel.size,h.mko.o⟩,hT⟩
theorem talY {z:Value}{s:Nat}{c:CT}[tz:TZ P t z](hd:Nat.beq d s=false)(hs:tf Γ s=some (True,pa c))
  (h:∀(b:Nat) (Y:Cx) (v:Value) (us:List Value),Y.w.heap.size=b+1→Rbs X Y (.blk b t (zc z)::S) c v us→TO P r N ops Y K l ((s,True,an v (pa (ex us c)))::(d,True,zX b 0)::Γ) (.blk b t (zc z)::S)):TO P r N ops X K (⟨some d,.alloc t,t',pos,af,none⟩::l) Γ S:=fun hN D E w hw=>by
 unfold okN at hN;simp only[zaW,zam] at hN;obtain⟨sz,bytes,hz⟩:=tz.s;refine iH hN.1 hz fun w' b hn=>?_;have k:=(hw.addb (b:=b) hn (zM2 tz.o)).put (d:=d) (q:=(True,zX b 0)) (xK _) (fun _=>rfl) (fun c=>absurd trivial c);have hsb:tf ((d,True,zX b 0)::Γ) s=some (True,pa c):=by
  unfold tf;rw[hd];exact hs
 obtain⟨v,e1,h1⟩:=(k.tm s _ hsb).1 trivial;obtain⟨b1,o,us,e2,g1,g2,g3⟩:=h1;obtain⟨Y,rfl,eM,ems,bk,hz2,hst⟩:=rbs_of k;have:=h b Y v us (by rw[hn.size,hn.at_]) ⟨ems,bk,by rw[eM];exact k.gd.tab,hz2,by rw[eM];exact⟨b1,o,us,e2,g1,g2,g3⟩,by rw[eM];exact g3⟩ hN.2 D _ _ (hst _ fun s' q hq=>?_)
 ·rw[ems] at this;exact this
 ·unfold tf at hq;cases hb:Nat.beq s s' with
  | true =>
   rw[hb] at hq;obtain rfl:=zal hb;obtain rfl:=Option.some.inj hq;exact⟨fun _=>⟨v,e1,rfl,b1,o,us,e2,g1,g2,rfl,g3⟩,fun c=>absurd trivial c⟩
  | false=>rw[hb] at hq;exact k.tm s' q hq
theorem t_unf {z v v2 v3:Value}{us:List Value}{c:CT}{b0 b3 L1 L2 s1 s2 s3:Nat}{t3:TypeId}(hR:Rbs X Y S c v us)(hn:Y.w.heap.size=b0+1)(hL:L1≠L2)(hl1:L1≤100000000000)(hl2:L2≤100000000000)(hz:z.oneCell'=true)(hS:∀ o∈S,∀ M M' w,o.ok M w→o.ok M' w)
  (h1:tf Γ s1=some (True,an v (pa (ex us c)))) (h2:tf Γ s2=some (True,exP v2)) (h3:tf Γ s3=some (True,exP v3))
  (h:∀ r1 r2,TO P r N ops X K l [(s1,True,pa c),(s2,True,exP v2),(s3,True,exP v3)] (.blk b3 t3 [c,xc r1,xc r2] :: .row r1 ty 1 (List.replicate L1 (xc z)) :: .row r2 ty 1 (List.replicate L2 (xc z))::S)) :
  TO P r N ops Y K l Γ (.blk b3 t3 [ex us c,frC (b0+1) ty z L1,frC (b0+1) ty z L2]::S):=fun hN D E w hs=>by
 obtain⟨um,k1,a,_,rfl,⟨rfl,_⟩,_,_,rfl,⟨g1,rfl,p1,p2,p3⟩,_,_,rfl,⟨g2,rfl,q1,q2,q3⟩,rfl⟩:=hs.gd.own _ zcn;have hne:g1≠g2:=fun e=>hL (by
  subst e;have e2:=congrArg (fun o=>match o with | Obj.cells cs _ _=>cs.size | _=>0) (Option.some.inj (p3.symm.trans q3));simpa using e2)
 have:=h (.slice (some ⟨g1,0,none⟩) L1 L1) (.slice (some ⟨g2,0,none⟩) L2 L2);generalize hS2:(Ow.blk b3 t3 [c,xc (.slice (some ⟨g1,0,none⟩) L1 L1),xc (.slice (some ⟨g2,0,none⟩) L2 L2)] :: .row (.slice (some ⟨g1,0,none⟩) L1 L1) ty 1 (List.replicate L1 (xc z)) :: .row (.slice (some ⟨g2,0,none⟩) L2 L2) ty 1 (List.replicate L2 (xc z))::S)=S2 at this;have hm:∀ k,Mk S2 Y.M k→k=g1∨k=g2∨Mk (.blk b3 t3 [ex a c,frC (b0+1) ty z L1,frC (b0+1) ty z L2]::S) Y.M k:=fun k hk=>by
  subst hS2;rcases hk with⟨o,ho,e⟩ | hk
  ·simp only[zae] at ho;rcases ho with rfl | rfl | rfl | ho
   ·exact .inr (.inr (.inl ⟨_,zcn,e⟩))
   ·exact .inl (Option.some.inj e).symm
   ·exact .inr (.inl (Option.some.inj e).symm)
   ·exact .inr (.inr (.inl ⟨o,zbj _ ho,e⟩))
  ·exact .inr (.inr (.inr hk))
 have hcl:Cl (Mk S Y.M) Y.w (Mk S2 Y.M) w:=fun k cur tt fz hk hw=>by
  have hlt:k<Y.w.heap.size:=(zar.1 hw).1;refine⟨fun hc=>?_,(hs.bel.block k hlt fun c=>hk (.inl (hR.z k c))).trans hw⟩;rcases hm k hc with rfl | rfl | ⟨o,ho,e⟩ | hc
  ·omega
  ·omega
  ·rcases zae.1 ho with rfl | ho
   ·rcases hs.new _ zcn k e with c | c
    ·omega
    ·exact hk (.inl (hR.z k c))
   ·exact hk (.inl ⟨o,ho,e⟩)
  ·exact hk (.inr hc)
 rw[hR.ms];refine this hN D E w (hR.bk ⟨hs.bel,⟨fun k hk=>?_,hR.tab.cl hcl,?_⟩,?_,?_,hs.ok0,hs.zm,hs.mko,fun s q hq=>?_⟩)
 ·rcases hm k hk with rfl | rfl | hk
  ·exact(zar.1 p3).1
  ·exact(zar.1 q3).1
  ·exact hs.gd.ok k hk
 ·have rw1:∀(g L:Nat),L≤100000000000→w.heap[g]? = some (.cells (List.replicate L z).toArray ty (0,0))→(Ow.row (.slice (some ⟨g,0,none⟩) L L) ty 1 (List.replicate L (xc z))).ok (Mk S2 Y.M) w:=fun g L hl hg =>
   ⟨List.replicate L z,by rw[zbE];exact⟨by simp,.inr ⟨g,L,_,rfl,zaC _,hg,zac _,zab hl (by decide),by simp,by simp⟩⟩,mH hz L,fun c hc=>by rw[List.eq_of_mem_replicate hc];rfl⟩
  intro o ho;have ho':=ho;rw[← hS2] at ho';simp only[zae] at ho';rcases ho' with rfl | rfl | rfl | ho'
  ·exact⟨_,k1,a,_,rfl,c.mono hR.cs hcl,_,_,rfl,⟨rfl,rfl⟩,_,_,rfl,⟨rfl,rfl⟩,rfl⟩
  ·exact rw1 g1 L1 hl1 p3
  ·exact rw1 g2 L2 hl2 q3
  ·exact hS o ho' _ _ _ (hs.gd.own o (zbj _ ho'))
 ·intro o ho b hb;rw[← hS2] at ho;simp only[zae] at ho;rcases ho with rfl | rfl | rfl | ho
  ·exact hs.new _ zcn b hb
  ·have e:g1=b:=Option.some.inj hb;exact .inl (by omega)
  ·have e:g2=b:=Option.some.inj hb;exact .inl (by omega)
  ·exact hs.new o (zbj _ ho) b hb
 ·rw[← hS2];obtain⟨a1,a2⟩:=hs.apt;refine⟨fun b hb o ho e=>?_,fun b hb o ho e=>?_,fun b hb o ho e=>?_,a2⟩
  ·simp only[zae] at ho;rcases ho with rfl | rfl | ho
   ·obtain rfl:=Option.some.inj e;exact p2 (.inl ⟨_,zcn,hb⟩)
   ·obtain rfl:=Option.some.inj e;exact q2 (.inl ⟨_,zcn,hb⟩)
   ·exact a1 b hb o ho e
  ·obtain rfl:=Option.some.inj hb;simp only[zae] at ho;rcases ho with rfl | ho
   ·exact hne (Option.some.inj e).symm
   ·exact p2 (.inl ⟨o,zbj _ ho,e⟩)
  ·obtain rfl:=Option.some.inj hb;exact q2 (.inl ⟨o,zbj _ ho,e⟩)
 ·simp only[tf] at hq;cases c1:Nat.beq s1 s with
  | true =>
   rw[c1] at hq;obtain rfl:=zal c1;obtain rfl:=Option.some.inj hq;obtain⟨u,e1,rfl,_⟩:=(hs.tm s1 _ h1).1 trivial;exact⟨fun _=>⟨_,e1,(pa c).mono hR.pv hcl⟩,fun c=>absurd trivial c⟩
  | false =>
   rw[c1] at hq;cases c2:Nat.beq s2 s with
   | true =>
    rw[c2] at hq;obtain rfl:=zal c2;obtain rfl:=Option.some.inj hq;obtain⟨u,e1,e2⟩:=(hs.tm s2 _ h2).1 trivial;exact⟨fun _=>⟨_,e1,e2⟩,fun c=>absurd trivial c⟩
   | false =>
    rw[c2] at hq;cases c3:Nat.beq s3 s with
    | true =>
     rw[c3] at hq;obtain rfl:=zal c3;obtain rfl:=Option.some.inj hq;obtain⟨u,e1,e2⟩:=(hs.tm s3 _ h3).1 trivial;exact⟨fun _=>⟨_,e1,e2⟩,fun c=>absurd trivial c⟩
    | false=>rw[c3] at hq;cases hq
theorem zL6 {v:Value}{k b:Nat}{tb:TypeId}{L cs cs':List CT}(i j:Nat)(hi:S[i]? = some (.row v ty k L))(hj:(S.eraseIdx i)[j]? = some (.blk b tb cs))(hc:∀ {M w us},stp cs M w us→(sl k L).p M w [v]→stp cs' M w us):Ts X Γ S Γ ((S.eraseIdx i).set j (.blk b tb cs')):=fun E w h0=>by
 have h1:=h0.frz hi;have h:=h0.sub (zch S i);generalize S.eraseIdx i=S at *;have hm:∀ q∈S.set j (.blk b tb cs'),q∈S∨q = .blk b tb cs':=fun q hq=>zbF hq;have hiS:Ow.blk b tb cs∈S:=zav hj;have hmk:Mk (S.set j (.blk b tb cs')) X.M=Mk S X.M:=funext fun c=>propext ⟨fun h=>h.imp (fun⟨q,hq,e⟩=>by
  rcases hm q hq with hq | rfl
  ·exact⟨q,hq,e⟩
  ·exact⟨_,hiS,e⟩) id,fun h=>h.imp (fun⟨q,hq,e⟩=>by
  obtain⟨m,hm⟩:=zcg.1 hq;by_cases c:j=m
  ·subst c;obtain rfl:=Option.some.inj (hm.symm.trans hj);exact⟨_,zav (zbk (zaO.1 hj).1),e⟩
  ·exact⟨q,zav (by rw[zbr c];exact hm),e⟩) id⟩
 refine⟨h.bel,⟨by rw[hmk];exact h.gd.ok,by rw[hmk];exact h.gd.tab,fun q hq=>?_⟩,fun q hq b' e=>?_,dP h.apt hj (fun b' e => .inl e),h.ok0,h.zm,h.mko,by rw[hmk];exact h.tm⟩
 ·rw[hmk];rcases hm q hq with hq | rfl
  ·exact h.gd.own q hq
  ·obtain⟨us,g1,g2⟩:=h.gd.own _ hiS;exact⟨us,g1,hc g2 h1⟩
 ·rcases hm q hq with hq | rfl
  ·exact h.new q hq b' e
  ·exact h.new _ hiS b' e
end
end Go.SL
namespace Go.Proofs.YtalkinejknjidaaGreatDoor
open Go.SL Go.RowKit Go.Proofs Tryz
noncomputable def layW (ls:zD)(cnt:Nat):List Nat:=(List.range (xsM ls).length).map fun i=>if offC ls (2*i)<cnt then offC ls (2*i) else 0
noncomputable def layS (ls:zD)(cnt:Nat):List Nat:=(List.range ((xsM ls).length-1)).map fun i=>if offC ls (2*i+1)<cnt then offC ls (2*i+1) else 0
noncomputable def woM (ls:zD):List Nat:=(List.range (xsM ls).length).map fun i=>offC ls (2*i)
noncomputable def soM (ls:zD):List Nat:=(List.range ((xsM ls).length-1)).map fun i=>offC ls (2*i+1)
theorem rset {α:Type}{f g:Nat→α}{n i:Nat}{v:α}(hi:i<n)(h:∀ k,k<n→k≠i→f k=g k)(e:g i=v):((List.range n).map f).set i v=(List.range n).map g:=by
 apply zcq
 ·simp
 ·intro k h1 h2;rw[List.getElem_set];simp only[zby,zai,zbJ] at h1;by_cases c:i=k
  ·subst c;rw[if_pos rfl];simp[e]
  ·rw[if_neg c];simp[h k h1 (fun e=>c e.symm)]
section
variable {ls : zD}
theorem nZ (hls:∀ l∈ls,∃ m,l=hullF m){c:Nat}(hc:c<2*(xsM ls).length-1):0<nC ls c:=by
 have:=(zK9 hls hc 0).1;rw[oB] at this;unfold nC;omega
theorem lay_W (hls:∀ l∈ls,∃ m,l=hullF m){i:Nat}(hc:inC ls (2*i) 0):layW ls (offC ls (2*i)+0+1)=(layW ls (offC ls (2*i)+0)).set i (offC ls (2*i)+0):=by
 unfold layW;refine(rset (by have:=hc.1;omega) (fun k hk hne=>?_) ?_).symm
 ·have hk':inC ls (2*k) 0:=⟨by omega,nZ hls (by omega)⟩;have:offC ls (2*k)≠offC ls (2*i):=fun e=>hne (by have:=(gX hk' hc (by omega)).1;omega);by_cases c:offC ls (2*k)<offC ls (2*i)
  ·rw[if_pos (by omega),if_pos (by omega)]
  ·rw[if_neg (by omega),if_neg (by omega)]
 ·rw[if_pos (by omega)];omega
theorem lay_S (hls:∀ l∈ls,∃ m,l=hullF m){i:Nat}(hc:inC ls (2*i+1) 0):layS ls (offC ls (2*i+1)+0+1)=(layS ls (offC ls (2*i+1)+0)).set i (offC ls (2*i+1)+0):=by
 unfold layS;refine(rset (by have:=hc.1;omega) (fun k hk hne=>?_) ?_).symm
 ·have hk':inC ls (2*k+1) 0:=⟨by omega,nZ hls (by omega)⟩;have:offC ls (2*k+1)≠offC ls (2*i+1):=fun e=>hne (by have:=(gX hk' hc (by omega)).1;omega);by_cases c:offC ls (2*k+1)<offC ls (2*i+1)
  ·rw[if_pos (by omega),if_pos (by omega)]
  ·rw[if_neg (by omega),if_neg (by omega)]
 ·rw[if_pos (by omega)];omega
theorem yV2 (hls:∀ l∈ls,∃ m,l=hullF m){c j:Nat}(hc:inC ls c j)(hn:c%2=1∨j≠0):layW ls (offC ls c+j+1)=layW ls (offC ls c+j):=by
 unfold layW;refine zbZ fun k hk=>?_;have hk:=zaE.1 hk;have hk':inC ls (2*k) 0:=⟨by omega,nZ hls (by omega)⟩;have:offC ls (2*k)≠offC ls c+j:=fun e=>by have:=gX hk' hc (by omega);omega
 by_cases c:offC ls (2*k)<offC ls c+j
 ·rw[if_pos (by omega),if_pos c]
 ·rw[if_neg (by omega),if_neg c]
theorem yV3 (hls:∀ l∈ls,∃ m,l=hullF m){c j:Nat}(hc:inC ls c j)(hn:c%2=0∨j≠0):layS ls (offC ls c+j+1)=layS ls (offC ls c+j):=by
 unfold layS;refine zbZ fun k hk=>?_;have hk:=zaE.1 hk;have hk':inC ls (2*k+1) 0:=⟨by omega,nZ hls (by omega)⟩;have:offC ls (2*k+1)≠offC ls c+j:=fun e=>by have:=gX hk' hc (by omega);omega
 by_cases c:offC ls (2*k+1)<offC ls c+j
 ·rw[if_pos (by omega),if_pos c]
 ·rw[if_neg (by omega),if_neg c]
theorem xE6:layW ls 0=List.replicate (xsM ls).length 0∧layS ls 0=List.replicate ((xsM ls).length-1) 0:=by
 unfold layW layS;constructor
 ·refine List.eq_replicate_iff.2 ⟨by simp,fun b hb=>?_⟩;obtain⟨k,_,rfl⟩:=zaj.1 hb;rw[if_neg (Nat.not_lt_zero _)]
 ·refine List.eq_replicate_iff.2 ⟨by simp,fun b hb=>?_⟩;obtain⟨k,_,rfl⟩:=zaj.1 hb;rw[if_neg (Nat.not_lt_zero _)]
theorem yK5 (hls:∀ l∈ls,∃ m,l=hullF m):layW ls (celM ls).length=woM ls∧layS ls (celM ls).length=soM ls:=by
 unfold layW layS woM soM;constructor
 ·refine zbZ fun k hk=>?_;have hk:=zaE.1 hk;have:=zR1 (ls:=ls) (c:=2*k) (j:=0) ⟨by omega,nZ hls (by omega)⟩;rw[if_pos (by omega)]
 ·refine zbZ fun k hk=>?_;have hk:=zaE.1 hk;have:=zR1 (ls:=ls) (c:=2*k+1) (j:=0) ⟨by omega,nZ hls (by omega)⟩;rw[if_pos (by omega)]
end
abbrev zF:Value:=.agg #[.bool false,.slice none 0 0,.slice none 0 0,.bool false,.slice none 0 0,.slice none 0 0,.bool false,.slice none 0 0,.slice none 0 0,.bool false,.slice none 0 0,.slice none 0 0,.slice none 0 0,.slice none 0 0,.slice none 0 0,.slice none 0 0,.slice none 0 0,.slice none 0 0]
instance:Z1 prog 3 (.int .i64 0):=⟨_,sz3,by decide,rfl⟩
theorem klay {ls:zD}(h:Prt ls){N:Nat}:CTy prog 103 [ag (mdT N (modM ls))] (ag (firT N (modM ls) (woM ls) (soM ls))):=by
 have hls:=h.hull;have hl:=dO h;have hxl:=dX h;have hcs:(modM ls).cs.length=(celM ls).length:=rfl;have hw:(modM ls).wl.length=(xsM ls).length:=lX ls;have hv:(modM ls).lv.length=(xsM ls).length-1:=iN ls;have hx2:=(xs_ends ls).1;have get:∀ a:Nat,a<(modM ls).cs.length→∃ c j,inC ls c j∧a=offC ls c+j∧(modM ls).cs.getD a Df.d=cellC ls c j:=fun a ha=>iW ha;generalize modM ls=m at *;refine fw [.cell 2 144] func103 fun X=>?_;iterate 3 refine u ?_
 refine talY (s:=1) rfl rfl fun b2 Y v1 us1 hY hR=>?_;iterate 2 refine u ?_
 apply yO 1 12 11 [(10,3,0),(11,1000011,0)] rfl rfl mixed rfl rfl rfl;refine u ?_;refine cx1 (old rfl rfl) rfl (cx1 (ofan rfl) rfl ?_);repeat refine u ?_
 refine cx1 (obmk m.wl.length 0 b2 rfl rfl rfl (by omega) (by omega) (by omega)) rfl (cx1 (ofan rfl) rfl ?_);repeat refine u ?_
 refine cx1 (obmk m.lv.length 0 b2 rfl rfl rfl (by omega) (by omega) (by omega)) rfl ?_;refine cx1 (obd rfl rfl rfl) rfl (cN rfl rfl (cal) (cS rfl rfl rfl (cst rfl rfl rfl) ?_));refine cE (fun b3=>?_);refine fm ?_;repeat refine u ?_
 refine zR (gH (cs':=[ex us1 (mdT N m),frC (b2+1) 3 (.int .i64 0) m.wl.length,frC (b2+1) 3 (.int .i64 0) m.lv.length]) 0 rfl cX) (t_unf (s1:=1) (s2:=2) (s3:=3) (v3:=.pointer (some ⟨b3,0,none⟩)) hR hY (by omega) (by omega) (by omega) rfl ?_ rfl rfl rfl fun r1 r2=>?_);rotate_left;rotate_left
 ·intro o ho M M' w h;obtain rfl:=zan.1 ho;obtain⟨us,h1,h2⟩:=h;exact⟨us,h1,yH4 h2⟩
 have eW:List.replicate m.wl.length (xc (.int .i64 0))=(layW ls 0).map xi:=by rw[xE6.1,List.map_replicate,hw];rfl
 have eS:List.replicate m.lv.length (xc (.int .i64 0))=(layS ls 0).map xi:=by rw[xE6.2,List.map_replicate,hv];rfl
 rw[eW,eS];repeat refine u ?_
 refine lp (σ:=Nat) [2,3,17,18] (fun n=>[(19,True,zI n)]) (fun n=>[.blk b3 144 [mdT N m,xc r1,xc r2],.row r1 3 1 ((layW ls n).map xi),.row r2 3 1 ((layS ls n).map xi),.blk b2 144 (zc zF)]) (fun n=>n≤m.cs.length) (fun n=>m.cs.length-n) (0) ((by omega)) fun n hJ Y _=>?_;have lW:(layW ls n).length=(xsM ls).length:=by unfold layW;simp
 have lS:(layS ls n).length=(xsM ls).length-1:=by unfold layS;simp
 have get':n<m.cs.length→∃ c j,inC ls c j∧n=offC ls c+j∧(m.cs.getD n Df.d).2.1=c/2∧(m.cs.getD n Df.d).1=2*(c%2)+j%2∧(m.cs.getD n Df.d).2.2.1=j/2:=fun hn=>by
  obtain⟨c,j,hc,e,eC⟩:=get n hn;exact⟨c,j,hc,e,by rw[eC];exact⟨rfl,rfl,rfl⟩⟩
 have sW:n<m.cs.length→(m.cs.getD n Df.d).2.1<((layW ls n).map xi).length:=fun hn=>by
  obtain⟨c,j,hc,e,k3,k2,k4⟩:=get' hn;have:=hc.1;rw[zai];omega
 have sS:n<m.cs.length→((((m.cs.getD n Df.d).1:Nat):Int)=2∧(((m.cs.getD n Df.d).2.2.1:Nat):Int)=0)→(m.cs.getD n Df.d).2.1<((layS ls n).map xi).length:=fun hn h=>by
  obtain⟨c,j,hc,e,k3,k2,k4⟩:=get' hn;have:=hc.1;rw[zai];omega
 repeat refine u ?_
 refine tp (fun c0=>?_) fun c0=>?_;iterate 8 refine u ?_
 refine u fun b5=>?_;repeat refine u ?_
 refine zH 0 rfl rfl (zR (zU (s:=5) 0 rfl rfl) ?_);repeat refine u ?_
 refine tp (fun c1=>?_) fun c1=>?_;repeat refine u ?_
 refine zA1 (zK 0 rfl) ?_;repeat refine u ?_
 refine zA1 (oixo 1 _ rfl rfl rfl (fun _=>rfl) (fun _=>(sW (by omega)))) ?_;refine tsr 1 _ rfl rfl rfl rfl rfl (sW (by omega)) rfl ?_;repeat refine u ?_
 rotate_left;repeat refine u ?_
 refine tp (fun c2=>?_) fun c2=>?_;repeat refine u ?_
 refine zA1 (zK 0 rfl) ?_;repeat refine u ?_
 refine zA1 (oixo 2 _ rfl rfl rfl (fun _=>rfl) (fun _=>(sS (by omega) ‹_›))) ?_;refine tsr 2 _ rfl rfl rfl rfl rfl (sS (by omega) ‹_›) rfl ?_;repeat refine u ?_
 rotate_left;repeat refine u ?_
 rotate_left;repeat refine u ?_
 rotate_left
 ·obtain⟨c,j,hc,e,k3',k2',k4'⟩:=get' (by omega);have ec:c=2*(c/2):=by omega
  have ej:j=0:=by omega
  have eW1:((layW ls n).map xi).set (m.cs.getD n Df.d).2.1 (xc (.int .i64 ((n:Nat):Int)))=(layW ls (n+1)).map xi:=by
   have:=lay_W hls (i:=c/2) (by rw[← ec,← ej];exact hc);rw[← ec,← ej,← e] at this;rw[this,List.map_set,k3']
  have eS1:layS ls n=layS ls (n+1):=by rw[e];exact(yV3 hls hc (.inl (by omega))).symm
  rw[eW1,eS1];refine⟨n+1,tes ?_ ?_ (zaa _),(by omega),(by omega)⟩;refine zA rfl tn;refine zA rfl (zA rfl (zA rfl (zA rfl tn)))
 ·obtain⟨c,j,hc,e,k3',k2',k4'⟩:=get' (by omega);have ec:c=2*(c/2)+1:=by omega
  have ej:j=0:=by omega
  have eS1:((layS ls n).map xi).set (m.cs.getD n Df.d).2.1 (xc (.int .i64 ((n:Nat):Int)))=(layS ls (n+1)).map xi:=by
   have:=lay_S hls (i:=c/2) (by rw[← ec,← ej];exact hc);rw[← ec,← ej,← e] at this;rw[this,List.map_set,k3']
  have eW1:layW ls n=layW ls (n+1):=by rw[e];exact(yV2 hls hc (.inl (by omega))).symm
  rw[eS1,eW1];refine⟨n+1,tes ?_ ?_ (zaa _),(by omega),(by omega)⟩;refine zA rfl tn;refine zA rfl (zA rfl (zA rfl (zA rfl tn)))
 ·obtain⟨c,j,hc,e,k3',k2',k4'⟩:=get' (by omega);have eS1:layS ls n=layS ls (n+1):=by rw[e];exact(yV3 hls hc (by omega)).symm
  have eW1:layW ls n=layW ls (n+1):=by rw[e];exact(yV2 hls hc (by omega)).symm
  rw[eS1,eW1];refine⟨n+1,tes ?_ ?_ (zaa _),(by omega),(by omega)⟩;refine zA rfl tn;refine zA rfl (zA rfl (zA rfl (zA rfl tn)))
 ·obtain rfl:n=(celM ls).length:=by omega
  rw[(yK5 hls).1,(yK5 hls).2];refine zR (zL6 1 0 rfl rfl (cs':=[mdT N m,sl 1 ((woM ls).map xi),xc r2]) (fun⟨a,b,e,h1,a2,b2,e2,h2,h3⟩ hv=>⟨a,b,e,h1,a2,b2,e2,by rw[h2.1];exact hv,h3⟩)) (zR (zL6 1 0 rfl rfl (cs':=[firT N m (woM ls) (soM ls)]) (fun⟨a,b,e,h1,a2,b2,e2,h2,a3,b3,e3,h3,h4⟩ hv=>⟨_,[],(zap _).symm,⟨a,b,e,h1,a2,b2,e2,h2,a3,b3,e3,by rw[h3.1];exact hv,h4⟩,rfl⟩)) (zA1 (zK 0 rfl) ?_));refine zH 1 rfl rfl ?_;repeat refine u ?_
  refine⟨[_],zN 1 rfl rs0,yJ (PSub.refl _)⟩
instance {y:Nat}:CtOf (exP (.func (.yield y) #[] #[])) (xc (.func (.yield y) #[] #[])):=⟨fun h=>⟨[_],by rw[h];rfl,rfl,rfl⟩⟩
theorem kjall {N:Nat}{m:Mdl}{wo so:List Nat}:CTy prog 104 [ag (firT N m wo so)] (fn 179 [pa (firT N m wo so)]):=by
 refine fw [.tmp 2] func104 fun X=>?_;repeat refine u ?_
 exact e
theorem seq_w {ls:zD}{i:Nat}(h:i<(xsM ls).length):∃ post,joinSeq ls=(List.range i).flatMap (wlJ ls)++wlJ ls i++post:=by
 obtain⟨p,e⟩:=yM4 (wlJ ls) h;exact⟨p++(List.range ((xsM ls).length-1)).flatMap (slJ ls),by unfold joinSeq;rw[e];simp⟩
theorem seq_s {ls:zD}{i:Nat}(h:i<(xsM ls).length-1):∃ post,joinSeq ls=(List.range (xsM ls).length).flatMap (wlJ ls)++(List.range i).flatMap (slJ ls)++(slJ ls i++post):=by
 obtain⟨p,e⟩:=yM4 (slJ ls) h;exact⟨p,by unfold joinSeq;rw[e];simp⟩
theorem yE6 {ls:zD}{i:Nat}(h:i<(xsM ls).length):(woM ls).getD i Df.d=offC ls (2*i):=by
 unfold woM;rw[List.getD_eq_getElem?_getD,List.getElem?_map,List.getElem?_range h];rfl
theorem xC5 {ls:zD}{i:Nat}(h:i<(xsM ls).length-1):(soM ls).getD i Df.d=offC ls (2*i+1):=by
 unfold soM;rw[List.getD_eq_getElem?_getD,List.getElem?_map,List.getElem?_range h];rfl
theorem ijall {ls:zD}(h:Prt ls){N:Nat}(hN:N≤40000):CIt prog 179 [pa (firT N (modM ls) (woM ls) (soM ls))] (joinSeq ls) jn2:=by
 have hw:(modM ls).wl.length=(xsM ls).length:=lX ls;have hv:(modM ls).lv.length=(xsM ls).length-1:=iN ls;have hwo:(woM ls).length=(xsM ls).length:=by unfold woM;simp
 have hso:(soM ls).length=(xsM ls).length-1:=by unfold soM;simp
 have ew:∀ i,i<(xsM ls).length→wlJ ls i=gZ ((woM ls).getD i Df.d) ((modM ls).wl.getD i Df.d).length:=fun i hi=>by rw[yE6 hi,show (modM ls).wl.getD i Df.d=wlM ls i from lJ hi];rfl
 have ev:∀ i,i<(xsM ls).length-1→slJ ls i=gZ ((soM ls).getD i Df.d) ((modM ls).lv.getD i Df.d).length++(acrS ((woM ls).getD i Df.d) ((soM ls).getD i Df.d) ((modM ls).wl.getD i Df.d) (((modM ls).lv.getD i Df.d).map fun a=>if false then a.2 else a.1)++acrS ((woM ls).getD (i+1) Df.d) ((soM ls).getD i Df.d) ((modM ls).wl.getD (i+1) Df.d) (((modM ls).lv.getD i Df.d).map fun a=>if true then a.2 else a.1)):=fun i hi=>by
  rw[yE6 (by omega),yE6 (by omega),xC5 (by omega),show (modM ls).wl.getD i Df.d=wlM ls i from lJ (by omega),show (modM ls).wl.getD (i+1) Df.d=wlM ls (i+1) from lJ (by omega),show (modM ls).lv.getD i Df.d=lvM ls i from eZ (by omega)];rfl
 have hx:(xsM ls).length≤10000:=dX h;have bw:∀ i,i<(xsM ls).length→(woM ls).getD i Df.d≤3460000∧((modM ls).wl.getD i Df.d).length≤87∧True:=fun i hi=>by
  rw[yE6 hi,show (modM ls).wl.getD i Df.d=wlM ls i from lJ hi];exact⟨by have:=zO7 h (2*i);omega,cR h i,trivial⟩
 have bv:∀ i,i<(xsM ls).length-1→(soM ls).getD i Df.d≤3460000∧((modM ls).lv.getD i Df.d).length≤29∧True:=fun i hi=>by
  rw[xC5 hi,show (modM ls).lv.getD i Df.d=lvM ls i from eZ (by omega)];exact⟨by have:=zO7 h (2*i+1);omega,dE h i,trivial⟩
 generalize modM ls=m at *;generalize woM ls=wo at *;generalize soM ls=so at *;refine cit func179 rfl rfl rfl rfl rfl fun X y YS YX hY hS=>?_;repeat refine u ?_
 refine lpy (σ:=Nat) [1,3,11,12] (fun i=>[(13,True,zI i)]) (fun i=>[]) (fun i Y=>YS ((List.range i).flatMap (wlJ ls)) Y∧i≤m.wl.length) (fun i=>m.wl.length-i) (0) (⟨hS,by omega⟩) fun i Y hG=>?_;obtain⟨hS,hi⟩:=hG;repeat refine u ?_
 refine tp (fun c0=>?_) fun c0=>?_;repeat refine u ?_
 refine zB rfl rfl yK9 ?_;rotate_left;repeat refine u ?_
 rotate_left
 ·obtain⟨post,hp⟩:=seq_w (ls:=ls) (i:=i) (by omega);obtain⟨b1,b2,b3⟩:=bw i (by omega);refine yQ9 (mid:=wlJ ls i) hY hS hp (by rw[ew i (by omega)];exact yY2 (by omega)) (fun _=>rfl) rfl rfl (fun Y hS=>?_) (fun Y hX=>?_)
  ·repeat refine u ?_
   refine xW rfl rfl ?_;repeat refine u ?_
   refine⟨i+1,tes ?_ ?_ (zaa _),?_,(by omega)⟩;refine zA rfl tn;refine zA rfl (zA rfl (zA rfl (zA rfl tn)));exact⟨by rw[gK];exact hS,by omega⟩
  ·repeat refine u ?_
   refine qC rfl rfl ?_;repeat refine u ?_
   exact .inr hX
 ·obtain rfl:i=m.wl.length:=by omega
  rw[hw] at hS;refine lpy (σ:=Nat) [1,3,32,33] (fun i=>[(34,True,zI i)]) (fun i=>[]) (fun i Y=>YS ((List.range (xsM ls).length).flatMap (wlJ ls)++(List.range i).flatMap (slJ ls)) Y∧i≤m.lv.length) (fun i=>m.lv.length-i) (0) (⟨by simpa using hS,by omega⟩) fun i Y hG=>?_;obtain⟨hS,hi⟩:=hG;repeat refine u ?_
  refine tp (fun c1=>?_) fun c1=>?_;iterate 12 refine u ?_
  apply yB4 rfl (zL8 12 11 rfl (fU 9 true rfl rfl ?m));refine d1 (omv rfl) ?_;refine d1 (ofa rfl rfl) ?_;refine d1 (old rfl rfl) ?_;refine d1 (omv rfl) ?_;refine d1 (oix _ rfl rfl rfl (fun _=>rfl) (fun _=>(by omega))) ?_;refine d1 (old rfl rfl) ?_;refine d1 (omv rfl) ?_;refine d1 (oln rfl) ?_;refine zC rfl rfl yK9 ?_;repeat refine u ?_
  rotate_left;repeat refine u ?_
  rotate_left
  ·obtain⟨post,hp⟩:=seq_s (ls:=ls) (i:=i) (by omega);have ei:=ev i (by omega);obtain⟨w1,w2,w3⟩:=bv i (by omega);obtain⟨u1,u2,u3⟩:=bw i (by omega);obtain⟨u4,u5,u6⟩:=bw (i+1) (by omega);generalize hA:gZ (so.getD i Df.d) (m.lv.getD i Df.d).length=A at ei;generalize hB:acrS (wo.getD i Df.d) (so.getD i Df.d) (m.wl.getD i Df.d) (((m.lv.getD i Df.d)).map fun a=>if false then a.2 else a.1)=B at ei;generalize hC:acrS (wo.getD (i+1) Df.d) (so.getD i Df.d) (m.wl.getD (i+1) Df.d) (((m.lv.getD i Df.d)).map fun a=>if true then a.2 else a.1)=C at ei;rw[ei] at hp;refine yQ9 (mid:=A) (post:=B++C++post) hY hS (by rw[hp];simp) (by rw[← hA];exact yY2 (by omega)) (fun _=>rfl) rfl rfl (fun Y hS=>?_) (fun Y hX=>?_)
   ·refine zA1 (ont rfl) ?_;refine zA1 (omv rfl) ?_;refine zA0 ?_;refine⟨_,_,rfl,rfl,zL8 12 11 rfl (fU 8 false rfl rfl ?_)⟩;refine d1 (omv rfl) ?_;refine d1g rfl rfl (omv rfl) ?_;refine d1g rfl rfl (old rfl rfl) ?_;refine d1g rfl rfl (omv rfl) ?_;refine d1g rfl rfl (omv rfl) ?_;refine d1g rfl rfl (omv rfl) (d1g rfl rfl (oca rfl rfl fun g=>tW (by omega)) ?_);refine d1g rfl rfl (oca rfl rfl fun g=>fD) ?_;repeat refine u ?_
    refine mF (γ:=!true) (mid:=B) (post:=C++post) hY (fun _=>hS) (by rw[hp];simp) (by rw[← hB];exact nD hN (by omega) (by omega) (by omega) (by omega) (by omega) (by omega) (by rw[zai];omega)) (fun _=>rfl) rfl rfl rfl rfl (fun hc=>absurd rfl hc) (fun _ Y hS=>?_) (fun _ Y hX=>?_)
    ·refine t1g rfl rfl (ont rfl) ?_;refine zA1 (opk rfl rfl rfl) ?_;refine zA1 (omv rfl) ?_;refine zA0 ?_;refine⟨_,_,rfl,rfl,fU 9 false rfl rfl ?_⟩;refine d1 (omv rfl) ?_;refine d1g rfl rfl (omv rfl) ?_;refine d1g rfl rfl (old rfl rfl) ?_;refine d1g rfl rfl (omv rfl) ?_;refine d1g rfl rfl (omv rfl) ?_;refine d1g rfl rfl (oad rfl rfl (by omega)) ?_;refine d1g rfl rfl (omv rfl) (d1g rfl rfl (oca rfl rfl fun g=>tW (by omega)) ?_);refine d1g rfl rfl (oca rfl rfl fun g=>fD (wall:=i+1)) ?_;repeat refine u ?_
     refine mF (γ:=!true || !true) (mid:=C) (post:=post) hY (fun _=>hS) (by rw[hp];simp) (by rw[← hC];exact nD hN (by omega) (by omega) (by omega) (by omega) (by omega) (by omega) (by rw[zai];omega)) (fun _=>rfl) rfl rfl rfl rfl (fun hc=>absurd rfl hc) (fun _ Y hS=>?_) (fun _ Y hX=>?_)
     ·refine t1g rfl rfl (ont rfl) ?_;refine zA1 (opk rfl rfl rfl) ?_;refine zA0 (xW rfl rfl ?_);repeat refine u ?_
      refine zA1 (oad rfl rfl (by omega)) ?_;repeat refine u ?_
      refine⟨i+1,tes ?_ ?_ (zaa _),?_,(by omega)⟩;refine zA rfl tn;refine zA rfl (zA rfl (zA rfl (zA rfl tn)));exact⟨by rw[gK,ei];simpa using hS,by omega⟩
     ·refine t1g rfl rfl (ont rfl) ?_;refine zA1 (opk rfl rfl rfl) ?_;refine zA0 (qC rfl rfl ?_);repeat refine u ?_
      exact .inr hX
    ·refine t1g rfl rfl (ont rfl) ?_;refine zA1 (opk rfl rfl rfl) ?_;refine zA1 (omv rfl) ?_;refine zA0 ?_;refine⟨_,_,rfl,rfl,fU 9 false rfl rfl ?_⟩;refine d1 (omv rfl) ?_;refine d1g rfl rfl (omv rfl) ?_;refine d1g rfl rfl (old rfl rfl) ?_;refine d1g rfl rfl (omv rfl) ?_;refine d1g rfl rfl (omv rfl) ?_;refine d1g rfl rfl (oad rfl rfl (by omega)) ?_;refine d1g rfl rfl (omv rfl) (d1g rfl rfl (oca rfl rfl fun g=>tW (by omega)) ?_);refine d1g rfl rfl (oca rfl rfl fun g=>fD (wall:=i+1)) ?_;repeat refine u ?_
     refine mF (γ:=!true || !false) (pre:=(List.range (xsM ls).length).flatMap (wlJ ls)++(List.range i).flatMap (slJ ls)++A++B) (mid:=C) (post:=post) hY (fun hc=>absurd hc (by decide)) (by rw[hp];simp) (by rw[← hC];exact nD hN (by omega) (by omega) (by omega) (by omega) (by omega) (by omega) (by rw[zai];omega)) (fun _=>rfl) rfl rfl rfl rfl (fun _=>?_) (fun hc=>absurd hc (by decide)) (fun hc=>absurd hc (by decide));refine t1g rfl rfl (ont rfl) ?_;refine zA1 (opk rfl rfl rfl) ?_;refine zA0 (qC rfl rfl ?_);repeat refine u ?_
     exact .inr hX
   ·refine zA1 (ont rfl) ?_;refine zA1 (omv rfl) ?_;refine zA0 ?_;refine⟨_,_,rfl,rfl,zL8 12 11 rfl (fU 8 false rfl rfl ?_)⟩;refine d1 (omv rfl) ?_;refine d1g rfl rfl (omv rfl) ?_;refine d1g rfl rfl (old rfl rfl) ?_;refine d1g rfl rfl (omv rfl) ?_;refine d1g rfl rfl (omv rfl) ?_;refine d1g rfl rfl (omv rfl) (d1g rfl rfl (oca rfl rfl fun g=>tW (by omega)) ?_);refine d1g rfl rfl (oca rfl rfl fun g=>fD) ?_;repeat refine u ?_
    refine mF (γ:=!false) (pre:=(List.range (xsM ls).length).flatMap (wlJ ls)++(List.range i).flatMap (slJ ls)++A) (mid:=B) (post:=C++post) hY (fun hc=>absurd hc (by decide)) (by rw[hp];simp) (by rw[← hB];exact nD hN (by omega) (by omega) (by omega) (by omega) (by omega) (by omega) (by rw[zai];omega)) (fun _=>rfl) rfl rfl rfl rfl (fun _=>?_) (fun hc=>absurd hc (by decide)) (fun hc=>absurd hc (by decide));refine t1g rfl rfl (ont rfl) ?_;refine zA1 (opk rfl rfl rfl) ?_;refine zA1 (omv rfl) ?_;refine zA0 ?_;refine⟨_,_,rfl,rfl,fU 9 false rfl rfl ?_⟩;refine d1 (omv rfl) ?_;refine d1g rfl rfl (omv rfl) ?_;refine d1g rfl rfl (old rfl rfl) ?_;refine d1g rfl rfl (omv rfl) ?_;refine d1g rfl rfl (omv rfl) ?_;refine d1g rfl rfl (oad rfl rfl (by omega)) ?_;refine d1g rfl rfl (omv rfl) (d1g rfl rfl (oca rfl rfl fun g=>tW (by omega)) ?_);refine d1g rfl rfl (oca rfl rfl fun g=>fD (wall:=i+1)) ?_;repeat refine u ?_
    refine mF (γ:=!false || !true) (pre:=(List.range (xsM ls).length).flatMap (wlJ ls)++(List.range i).flatMap (slJ ls)++A++B) (mid:=C) (post:=post) hY (fun hc=>absurd hc (by decide)) (by rw[hp];simp) (by rw[← hC];exact nD hN (by omega) (by omega) (by omega) (by omega) (by omega) (by omega) (by rw[zai];omega)) (fun _=>rfl) rfl rfl rfl rfl (fun _=>?_) (fun hc=>absurd hc (by decide)) (fun hc=>absurd hc (by decide));refine t1g rfl rfl (ont rfl) ?_;refine zA1 (opk rfl rfl rfl) ?_;refine zA0 (qC rfl rfl ?_);repeat refine u ?_
    exact .inr hX
  ·refine .inl ?_;have:joinSeq ls=(List.range (xsM ls).length).flatMap (wlJ ls)++(List.range i).flatMap (slJ ls):=by unfold joinSeq;rw[show (xsM ls).length-1=i by omega]
   rw[this];exact hS
instance:Df Bool:=⟨false⟩
abbrev bT (b:Bool):CT:=xc (.bool b)
theorem kisf {fs:List Bool}{n:Nat}:CTy prog 102 [zI n,pa (sl 1 (fs.map bT))] (exP (.bool (fs.getD n false))):=by
 refine fw [.tmp 3] func102 fun X=>?_;repeat refine u ?_
 refine e ?_;refine psb ?_;by_cases c:n<fs.length
 ·rw[decide_eq_true (by omega),Bool.true_and];rfl
 ·rw[decide_eq_false (by omega),Bool.false_and,zag,zbX (by omega)];rfl
def rawP (f:Nat→Bool)(l:List (Nat×Nat)):List (Nat×Nat):=(l.filter fun p=>f p.1&&f p.2).map sjn
theorem raw_nx {f:Nat→Bool}{l:List (Nat×Nat)}{x:Nat×Nat}:rawP f (l++[x])=if f x.1&&f x.2 then rawP f l++[sjn x] else rawP f l:=by
 unfold rawP;rw[zcJ,zaq];by_cases c:(f x.1&&f x.2)=true
 ·rw[if_pos c,show [x].filter (fun p=>f p.1&&f p.2)=[x] from List.filter_cons_of_pos (p:=fun p:Nat×Nat=>f p.1&&f p.2) c];rfl
 ·rw[if_neg c,show [x].filter (fun p=>f p.1&&f p.2)=[] from List.filter_cons_of_neg (p:=fun p:Nat×Nat=>f p.1&&f p.2) c];simp
theorem yS8 {f:Nat→Bool}{l:List (Nat×Nat)}:(rawP f l).length≤l.length:=by
 unfold rawP;rw[List.length_map];exact List.length_filter_le _ _
theorem ksortJ {v:Value}{l:List (Nat×Nat)}(hl:l.length≤1000000):CTo prog 105 [exP v,exP (.func (.func 106) #[] #[])] [.row v 75 2 (l.map jnT)] (fun r So=>r=tu []∧∃ l':List (Nat×Nat),l'.Perm l∧(∀ i j,i<j→j<l'.length→¬ cmpJ l'[j]! l'[i]! < 0)∧So=[.row v 75 2 (l'.map jnT)]) :=
 tsort (ρ:=sortJoin_ren) sortJoin rfl yY4 (jW sz75) (fun _=>rfl) vL.swo (bo func105) (fun x y=>kjcmp) hl
theorem yW3 {ls:zD}(h:Prt ls){N:Nat}(hN:N≤40000){fs:List Bool}:CTy prog 35 [ag (mdT N (modM ls)),sv (sl 1 (fs.map bT))] (sv (sl 2 ((allJ ls fun n=>fs.getD n false).map jnT))):=by
 have kl:=klay h (N:=N);have it:=ijall h hN;have hsl:=rA h;generalize modM ls=m at *;generalize woM ls=wo at *;generalize soM ls=so at *;refine fw [.cell 4 68] func35 fun X=>?_;iterate 4 refine u ?_
 refine u fun b4=>?_;iterate 4 refine u ?_
 refine u fun b5=>?_;refine zH 0 rfl rfl (zR (zU (s:=5) 0 rfl rfl) ?_);repeat refine u ?_
 refine zB rfl rfl kl ?_;refine zB rfl rfl kjall ?_;repeat refine u ?_
 refine t_ts (xQ 75 2) ?_;refine aK (σ:=List (Nat×Nat)×Value) (fun t=>[.row t.2 75 2 ((rawP (fun n=>fs.getD n false) t.1).map jnT),.blk b4 68 [xc t.2]]) (fun pre t=>t.1=pre) ([],.slice none 0 0) rfl it (fun _=>rfl) rfl lG (by simp[rawP];rfl) rfl (fun pre x post t hx hJ Y y hl=>?_) (fun t hJ Y _=>?_)
 ·obtain⟨pr,v1⟩:=t;obtain rfl:pr=pre:=hJ;have h1:pr.length≤500000:=by have:=congrArg List.length hx;simp at this;omega
  have h2:=yS8 (f:=fun n=>fs.getD n false) (l:=pr);have h3:=raw_nx (f:=fun n=>fs.getD n false) (l:=pr) (x:=x);repeat refine u ?_
  refine zA1 (oas rfl) ?_;repeat refine u ?_
  refine zA1 (oas rfl) ?_;repeat refine u ?_
  refine⟨rfl,fun Y hl=>?_⟩;repeat refine u ?_
  refine zA1 (old rfl rfl) ?_;repeat refine u ?_
  refine zB rfl rfl kisf ?_;repeat refine u ?_
  refine t1g rfl rfl (old rfl rfl) ?_;repeat refine u ?_
  refine t1g rfl rfl (oca rfl rfl fun g=>kisf) ?_;repeat refine u ?_
  refine tp (fun c0=>?_) fun c0=>?_;repeat refine u ?_
  refine zA1 (zK 1 rfl) ?_;iterate 2 refine u ?_
  refine zA1 (yT (omn rfl rfl) (ps_i (show _=((min x.1 x.2:Nat):Int) by omega))) ?_;iterate 2 refine u ?_
  refine zA1 (yT (omx rfl rfl) (ps_i (show _=((max x.1 x.2:Nat):Int) by omega))) ?_;repeat refine u ?_
  refine tap 0 rfl rfl rfl (by(simp only[zai,zas,zbb];omega)) rfl fun r31=>?_;refine tsw 1 0 rfl rfl rfl rfl rfl rfl rfl ?_;repeat refine u ?_
  rotate_left;repeat refine u ?_
  rotate_left
  ·rw[if_pos (by simpa using c0)] at h3;refine⟨(pr++[x],r31),?_,rfl⟩;dsimp only;rw[h3,zaq];exact zaa _
  ·rw[if_neg (by simpa using c0)] at h3;refine⟨(pr++[x],v1),?_,rfl⟩;dsimp only;rw[h3];exact zaa _
 ·obtain⟨_,v1⟩:=t;obtain rfl:_=joinSeq ls:=hJ;have h4:=yS8 (f:=fun n=>fs.getD n false) (l:=joinSeq ls);repeat refine u ?_
  refine tco [0] rfl rfl rfl (ksortJ (by dsimp only;omega)) ?_;rintro _ _ ⟨rfl,l',hp,hso,rfl⟩;rw[show l'=allJ ls fun n=>fs.getD n false from set_nod vL (zU2 ls _) hp hso];refine zR (zL6 0 0 rfl rfl (cs':=[sl 2 ((allJ ls fun n=>fs.getD n false).map jnT)]) (fun⟨a,b,e,h1,h2⟩ hv=>⟨a,b,e,by rw[h1.1];exact hv,h2⟩)) ?_;repeat refine u ?_
  refine zA1 (zK 0 rfl) ?_;refine zH 0 rfl rfl ?_;repeat refine u ?_
  refine⟨[_],zN 0 rfl rs0,yJ (PSub.refl _)⟩
theorem yE9 {c:Nat}(h:c<3):nC [] c=3:=by
 have:c=0∨c=1∨c=2:=by omega
 unfold nC ynM;rcases this with rfl | rfl | rfl
 ·rw[if_pos rfl,vV (by omega)];rfl
 ·rw[if_neg (by omega),show 1/2=0 from rfl,zS1];rfl
 ·rw[if_pos rfl,vV (by omega)];rfl
theorem sD:offC [] 0=0∧offC [] 1=3∧offC [] 2=6∧offC [] 3=9:=by
 have h0:offC [] 0=0:=rfl;have h1:offC [] 1=3:=by show offC [] 0+nC [] 0=3;rw[h0,yE9 (by omega)]
 have h2:offC [] 2=6:=by show offC [] 1+nC [] 1=6;rw[h1,yE9 (by omega)]
 exact⟨h0,h1,h2,by show offC [] 2+nC [] 2=9;rw[h2,yE9 (by omega)]⟩
theorem yQ0:(celM []).length=9:=by
 rw[rS,show kC []=3 by unfold kC;rw[sC];rfl];exact sD.2.2.2
theorem wk_seq:joinSeq []=[(0,1),(1,2),(6,7),(7,8),(3,4),(4,5),(0,3),(0,4),(1,4),(2,4),(2,5),(6,3),(6,4),(7,4),(8,4),(8,5)]:=by
 unfold joinSeq;rw[sC];show (([0,1]:List Nat).flatMap (wlJ []))++([0]:List Nat).flatMap (slJ [])=_;simp only[zbU,List.flatMap_nil,zap];unfold wlJ slJ endsM;rw[vV (by omega),vV (by omega),zS1,show 2*0=0 from rfl,show 2*(0+1)=2 from rfl,show 0+1=1 from rfl,sD.1,sD.2.1,sD.2.2.1];try rw[vV (by omega)]
 decide +kernel
def wkR:List (Nat×Nat):=[(0,1),(1,2),(6,7),(7,8),(3,4),(4,5),(0,3),(0,4),(1,4),(2,4),(2,5),(3,6),(4,6),(4,7),(4,8),(5,8)]
theorem yP8 {free:Nat→Bool}(h:∀ n,n<9→free n=true):rawJ [] free=wkR:=by
 unfold rawJ;rw[wk_seq,List.filter_eq_self.2 fun p hp=>?_]
 ·rfl
 ·have:∀ p∈[(0,1),(1,2),(6,7),(7,8),(3,4),(4,5),(0,3),(0,4),(1,4),(2,4),(2,5),(6,3),(6,4),(7,4),(8,4),(8,5)],p.1<9∧p.2<9:=by decide
  obtain⟨h1,h2⟩:=this p hp;rw[h _ h1,h _ h2];rfl
theorem set_same_len {α:Type}{cf:α→α→Int}(h:COrd cf){l:List α}(hn:l.Nodup):(setOf cf l).length=l.length:=by
 have k:=xN h l;have nd:(setOf cf l).Nodup:=k.rise.imp fun {a b} hab e=>by subst e;exact h.irr a hab
 exact Nat.le_antisymm (qZ nd fun x hx=>(k.mem x).1 hx) (qZ hn fun x hx=>(k.mem x).2 hx)
theorem wk_all {free:Nat→Bool}(h:∀ n,n<9→free n=true):(allJ [] free).length=16:=by
 unfold allJ;rw[set_same_len vL (zU2 _ _),yP8 h];rfl
theorem yP9 {a b:Nat}:jnN [] a b↔(a,b)∈wkR∨(b,a)∈wkR:=by
 have h:∀ {a b:Nat},(a,b)∈wkR↔a<b∧jnN [] a b:=fun {a b}=>by
  rw[← yP8 (free:=fun _=>true) fun _ _=>rfl,zU3 (by simp)];simp
 rw[h,h];constructor
 ·intro k;rcases zaf a b with c | c
  ·exact .inl ⟨c,k⟩
  ·have:=yD1 k;exact .inr ⟨by omega,tX k⟩
 ·rintro(k | k)
  ·exact k.2
  ·exact tX k.2
theorem xB3 {c j:Nat}(h1:c<3)(h2:j<3):inC [] c j:=⟨by rw[sC];exact h1,by have:=yE9 h1;unfold nC at this;omega⟩
theorem yP7:repC [] 0 0=(-1,-1)∧repC [] 1 1=(0,0):=by
 constructor
 ·unfold repC;rw[show (0:Nat)=2*0 from rfl,fS,zL0,vV (by omega),sC];decide +kernel
 ·unfold repC;rw[show (1:Nat)=2*0+1 from rfl,pS];unfold xcM;rw[zS1,sC];decide +kernel
theorem piece_w {r:List PX}{ts:List TX3}(h1:r.length≤6)(h2:ts.length≤3)(h3:qM r=true)(h5:∀ t∈ts,qM (trl t)=true):Prt (piecesX r ts):=by
 unfold piecesX;refine⟨by simpa using h2,fun l hl=>?_⟩;obtain⟨t',ht',rfl⟩:=zaj.1 hl;obtain⟨t,ht,rfl⟩:=zaj.1 ht';have ht3:=zX5 (h5 t ht);refine⟨⟨_,rfl⟩,?_,fun q hq=>?_⟩
 ·have:=sum_len' (t3l (px3 t)) ((r.map px).map negP);rw[zai,zai] at this;exact zab this (by show 3+_≤9;omega)
 ·obtain⟨x,hx,y,hy,rfl⟩:=oO.1 ((jI _).sub q hq);obtain⟨y',hy',rfl⟩:=zaj.1 hy;obtain⟨a,ha,rfl⟩:=zaj.1 hy';have f1:=zX5 h3 a ha;have f2:FP 27720 27692280 x:=by
   unfold t3l px3 at hx;simp only[zae,zaN,or_false] at hx;unfold trl at ht3;rcases hx with rfl | rfl | rfl
   ·exact ht3 _ (by simp)
   ·exact ht3 _ (by simp)
   ·exact ht3 _ (by simp)
  exact⟨f2.1.add f1.1.neg,f2.2.add f1.2.neg⟩
theorem iQ {l:List PX}(h:cL [l]=true):qM l=true:=by
 unfold cL at h;simp at h;exact h.2
theorem xD6 {r:List PX}{ts:List TX3}(h:vG r ts=true):Prt (piecesX r ts):=by
 obtain⟨h1,h2,h3,_,h5⟩:=iR.1 h;exact piece_w (by omega) (by omega) (iQ h3) fun t ht=>iQ (h5 t ht)
theorem k26pieces {r:List PX}{ts:List TX3}(h:vG r ts=true):CTy prog 34 [sv (pcx r),sv (sl 18 (ts.map trx))] (sv (sl 1 ((piecesX r ts).map (pcc 1)))):=by
 obtain⟨h1,h2,h3,_,h5⟩:=iR.1 h;have hP:=xD6 h;exact gQ (yE (k20pieces (n:=1) (m:=1) (l:=r.map px) (ts:=ts.map px3) (by omega) (by omega) (by rw[zai];omega) (by rw[zai];omega)) (fs1 (pcx_n (fW (iQ h3))) (fs1 (trx_n fun t ht=>fW (iQ (h5 t ht))) fs0))) (pcc_up fun l hl q hq=>nI (hP.fp l hl q hq))
theorem prt0:Prt []:=⟨zaC _,fun l hl=>by cases hl⟩
theorem kbuild0:CTy prog 33 [exP (.slice none 0 0)] (ag (mdT 65 (modM []))):=yE (zW6 prt0) (fs1 aB fs0)
theorem klenN {m:Mdl}{N:Nat}{l:List (Nat×Nat)}(hN:N≤1000)(hl:l.length≤100000000):CTy prog 43 [ag (mdT N m),sv (sl 2 (l.map jnT))] (sv (sl 3 (((l.map fun p=>((p.1:Int),(p.2:Int))).map (lenJ m)).map (rtc (4*N+9))))):=by
 have:=tV (m:=m) (N:=N) (js:=l.map fun p=>((p.1:Int),(p.2:Int))) hN (by rw[zai];exact hl);rw[List.map_map] at this;exact this
theorem klen1 {m:Mdl}{N:Nat}{a b:Int}(hN:N≤1000):CTy prog 43 [ag (mdT N m),sv (sl 2 [jzT (a,b)])] (sv (sl 3 [rtc (4*N+9) (lenJ m (a,b))])):=tV (js:=[(a,b)]) hN (by simp)
instance:Z1 prog 4 (.bool false):=⟨_,sz4,by decide,rfl⟩
def trN (n i:Nat):List Bool:=(List.range n).map fun k=>decide (k<i)
theorem trN_len (n i:Nat):(trN n i).length=n:=by unfold trN;simp
theorem rep_rng {n:Nat}:List.replicate n (xc (.bool false))=(trN n 0).map bT:=by
 unfold trN;rw[List.map_map];exact(List.eq_replicate_iff.2 ⟨by simp,fun b hb=>by obtain⟨k,_,rfl⟩:=zaj.1 hb;simp⟩).symm
theorem trN_set1 {n i:Nat}(h:i<n):(trN n i).set i true=trN n (i+1):=rset h (fun k hk hn=>decide_eq_decide.2 (by omega)) (decide_eq_true (by omega))
theorem wk_n:(modM []).cs.length=9:=yQ0
theorem wk_near:(nearL [] 4 (celM []).length).length=8:=by
 rw[yQ0];unfold nearL;rw[List.filter_congr (q:=fun b=>decide ((4,b)∈wkR∨(b,4)∈wkR)) fun b _=>decide_eq_decide.2 (by unfold jnI;rw[yP9,Int.toNat_natCast];exact⟨fun h=>h.2.2,fun h=>⟨by omega,by omega,h⟩⟩)];decide
theorem wk_j1:decide (jnI [] 0 1)=true:=decide_eq_true ⟨by omega,by omega,yP9.2 (by decide)⟩
theorem wk_j2:decide (jnI [] 0 2)=false:=decide_eq_false fun h=>absurd (yP9.1 h.2.2) (by decide)
theorem wk_l4:lenJ (modM []) (0,4)=2:=by
 unfold lenJ;rw[if_neg (by rw[wk_n];decide)];have e0:(celM []).getD 0 Df.d=cellC [] 0 0:=fN (xB3 (c:=0) (j:=0) (by omega) (by omega));have e4:(celM []).getD 4 Df.d=cellC [] 1 1:=by have:=fN (d:=Df.d) (xB3 (c:=1) (j:=1) (by omega) (by omega));rw[sD.2.1] at this;exact this
 rw[show (modM []).cs.getD (0:Int).toNat Df.d=cellC [] 0 0 from e0,show (modM []).cs.getD (4:Int).toNat Df.d=cellC [] 1 1 from e4,zW3.2.2.2.2,zW3.2.2.2.2,yP7.1,yP7.2];decide +kernel
theorem zW5:CTy prog 32 [] (exP (.bool true)):=by
 have kb:=kbuild0;have kn:=xF1 (a:=4) prt0 (N:=65) (by omega);have kj1:=rI (a:=0) (b:=1) prt0 (N:=65) (by omega);have kj2:=rI (a:=0) (b:=2) prt0 (N:=65) (by omega);rw[wk_j1] at kj1;rw[wk_j2] at kj2;obtain⟨F,hF⟩:∃ F:List Bool→List (Nat×Nat),F=fun fs=>allJ [] fun n=>fs.getD n false:=⟨_,rfl⟩;have ka:∀ fs,CTy prog 35 [ag (mdT 65 (modM [])),sv (sl 1 (fs.map bT))] (sv (sl 2 ((F fs).map jnT))):=fun fs=>by rw[hF];exact yW3 prt0 (by omega)
 have hFl:∀ fs,(F fs).length≤500000:=fun fs=>by
  rw[hF];dsimp only;exact Nat.le_trans (yY vL _) (Nat.le_trans (by unfold rawJ;rw[List.length_map];exact List.length_filter_le _ _) (rA prt0))
 obtain⟨nr,hnr⟩:∃ nr,nr=nearL [] 4 (celM []).length:=⟨_,rfl⟩;obtain⟨m,hm⟩:∃ m,m=modM []:=⟨_,rfl⟩;have hl:m.cs.length≤100:=by rw[hm,wk_n];omega
 rw[← hm] at kb ka kn kj1 kj2;rw[← hnr] at kn;have hmn:m.cs.length=9:=by rw[hm];exact wk_n
 have hL:lenJ m (0,4)=2:=by rw[hm];exact wk_l4
 have hn8:nr.length=8:=by rw[hnr];exact wk_near
 have h16:∀ fs:List Bool,(∀ n,n<9→fs.getD n false=true)→(F fs).length=16:=fun fs h=>by rw[hF];exact wk_all h
 clear hF hnr hm;refine fw [.tmp 0] func32 fun X=>?_;repeat refine u ?_
 refine zB rfl rfl kb ?_;refine u fun b1=>?_;refine zH 0 rfl rfl (zR (zU (s:=1) 0 rfl rfl) ?_);iterate 6 refine u ?_
 refine u fun r9=>?_;repeat refine u ?_
 rw[rep_rng];refine lp (σ:=Nat) [0,1,2] (fun i=>[(3,True,zI i)]) (fun i=>[.row r9 4 1 ((trN m.cs.length i).map bT)]) (fun i=>i≤m.cs.length) (fun i=>m.cs.length-i) (0) ((by omega)) fun i hJ Y _=>?_;have hti:=trN_len m.cs.length i;repeat refine u ?_
 refine tp (fun c0=>?_) fun c0=>?_;repeat refine u ?_
 rotate_left;iterate 4 refine u ?_
 rotate_left
 ·rw[trN_set1 (by omega)];refine⟨i+1,tes ?_ ?_ (zaa _),(by omega),(by omega)⟩;refine zA rfl tn;refine zA rfl (zA rfl (zA rfl tn))
 ·obtain rfl:i=m.cs.length:=by omega
  have hfs:∀ n,n<9→(trN m.cs.length m.cs.length).getD n false=true:=fun n hn=>by
   unfold trN;rw[zag,zbQ,List.getElem?_range (by omega)];exact decide_eq_true (by omega)
  generalize trN m.cs.length m.cs.length=fs at *;have hf:=hFl fs;refine zR (yK (s:=2) 0 rfl rfl) ?_;repeat refine u ?_
  refine zB rfl rfl (ka fs) ?_;iterate 3 refine u ?_
  refine zL 42 mixed rfl rfl ?_;repeat refine u ?_
  refine d1g rfl rfl (oca rfl rfl fun g=>kn) ?_;repeat refine u ?_
  refine d1g rfl rfl (oca rfl rfl fun _=>kj1) ?_;repeat refine u ?_
  refine d1g rfl rfl (oca rfl rfl fun _=>kj2) ?_;repeat refine u ?_
  refine d1g rfl rfl (old rfl rfl) ?_;repeat refine u ?_
  refine d1g rfl rfl (oca rfl rfl fun _=>klenN (by omega) (by omega)) ?_;repeat refine u ?_
  refine d1g rfl rfl (old rfl rfl) ?_;repeat refine u ?_
  refine d1g rfl rfl (oca rfl rfl fun _=>klen1 (by omega)) ?_;repeat refine u ?_
  refine d1g rfl rfl (oca rfl rfl fun g=>k7of (k:=2) (by omega)) ?_;refine d1g rfl rfl (oca rfl rfl fun g=>k7same (by omega) (by omega)) ?_;repeat refine u ?_
  refine e ?_;refine psb ?_;rw[hL,zai,zai,h16 fs hfs,hn8,hmn,show cmpR 2 ((2:Nat):Rat)=0 from xA.2 rfl];rfl
instance:Df (Nat×Nat):=⟨(0,0)⟩
theorem rep_even {y:List Rat}(k:Nat):repY y (2*k)=y.getD k 0:=by unfold repY;rw[if_pos (by omega),show 2*k/2=k by omega]
theorem clo_even {e:List Rat}{r:Nat}{x:Rat}:cloY e (2*r) x↔x=e.getD r 0:=by unfold cloY;rw[if_pos (by omega),show 2*r/2=r by omega]
theorem pos_even {e:List Rat}{r:Nat}{x:Rat}:posY e (2*r) x↔x=e.getD r 0:=by unfold posY;rw[if_pos (by omega),show 2*r/2=r by omega]
section
variable {y e : List Rat}
theorem side_lev (hy:jM y)(hs:∀ x∈e,x∈y){r:Nat}(hr:r<e.length):∃ t,t<2*y.length-1∧t%2=0∧∀ k,k<2*y.length-1→(cloY e (2*r) (repY y k)↔k=t):=by
 obtain⟨i,hi,ei⟩:=iK (hs _ (cJ hr));refine⟨2*i,by omega,by omega,fun k hk=>?_⟩;rw[clo_even];constructor
 ·intro h;exact tA hy hk (j:=2*i) (by omega) (iC hy hk) (pos_even.2 (by rw[h,ei]))
 ·rintro rfl;rw[rep_even,ei]
end
section
variable {ls : zD} (hls : ∀ l ∈ ls, ∃ m, l = hullF m)
include hls
theorem side_ok {c d:Nat}(hc:c<kC ls)(hd:d<kC ls)(mc:c%2=1)(h:d=c+1∨d+1=c):incQ (ycM ls c (xcM ls d))∧jM (ycM ls d (xcM ls d))∧(∀ x∈ycM ls c (xcM ls d),x∈ycM ls d (xcM ls d))∧2≤ynM ls c∧2≤ynM ls d∧(ycM ls c (xcM ls d)).length=ynM ls c∧(ycM ls d (xcM ls d)).length=ynM ls d∧(ycM ls c (xcM ls d)).getD 0 0=(ycM ls d (xcM ls d)).getD 0 0∧(ycM ls c (xcM ls d)).getD (ynM ls c-1) 0=(ycM ls d (xcM ls d)).getD (ynM ls d-1) 0:=by
 obtain⟨a1,a2,a3⟩:=zK9 hls hc (xcM ls d);obtain⟨b1,b2,b3⟩:=zK9 hls hd (xcM ls d);rw[oB] at a1 a3 b1 b3;refine⟨yA4 hls hc ((nS (jE ls) hc hd).2 (.inr ⟨mc,h⟩)),zR8 hls hd (iC (jE ls) hd),?_,a1,b1,oB _ _ _,oB _ _ _,by rw[a2,b2],by rw[a3,b3]⟩;unfold kC at hc hd;rcases h with rfl | e
 ·obtain⟨i,rfl⟩:∃ i,c=2*i+1:=⟨c/2,by omega⟩;rw[show 2*i+1+1=2*i+2 by omega,rX i (by omega),show 2*i+2=2*(i+1) by omega,fS];exact(iS (by omega)).2
 ·obtain⟨i,rfl⟩:∃ i,d=2*i:=⟨d/2,by omega⟩;subst e;rw[zK8 i (by omega),fS];exact(iS (by omega)).1
omit hls in
end
def rkI (k:Nat):Int:=if k=0 then 0 else if k=1∨k=2 then 1 else 2
def clI (k a:Nat):Int:=if k=0∨k=1 then 2*(a:Int) else 2*(a:Int)+1
section
variable {ls : zD} (hls : ∀ l ∈ ls, ∃ m, l = hullF m)
include hls
theorem yM1 {c j d k:Nat}(h1:inC ls c j)(h2:inC ls d k)(h:jnC ls c j d k):(c%2+j%2≠d%2+k%2)∧d≤c+1∧c≤d+1:=by
 have key:∀ {c j d k},inC ls c j→inC ls d k→lE ls c j d k→(c%2+j%2≠d%2+k%2)∧d≤c+1∧c≤d+1:=fun {c j d k} h1 h2 h=>by
  obtain⟨mc,hd,hcl⟩:=h;refine⟨fun e=>?_,by omega,by omega⟩;obtain⟨a1,a2,a3,a4,a5,a6,a7,a8,a9⟩:=side_ok hls h1.1 h2.1 mc hd.symm.symm;have hj:=h1.2;rcases zbg j with mj | mj
  ·obtain⟨r,rfl⟩:∃ r,j=2*r:=⟨j/2,by omega⟩;obtain⟨t,zA1,zA2,t3⟩:=side_lev a2 a3 (r:=r) (by omega);rw[a7] at t3;have:=(t3 k h2.2).1 hcl;omega
  ·omega
 rcases (yD0 hls h1 h2).1 h with⟨rfl,h⟩ | h | h
 ·exact⟨by omega,by omega,by omega⟩
 ·exact key h1 h2 h
 ·have:=key h2 h1 h;omega
end
theorem xC8 {c j:Nat}:rkI (2*(c%2)+j%2)=((c%2+j%2:Nat):Int):=by
 rcases zbg c with m | m<;>rcases zbg j with m2 | m2<;>rw[m,m2]<;>rfl
theorem xH1 {c j:Nat}:clI (2*(c%2)+j%2) (c/2)=(c:Int):=by
 unfold clI;rcases zbg c with m | m
 ·rw[if_pos (by omega)];omega
 ·rw[if_neg (by omega)];omega
noncomputable def preJ (ls:zD)(F:Nat→Bool)(a n:Nat):List (Nat×Nat):=((List.range n).filter fun b=>decide (a<b)&&(F a&&F b&&decide (jnN ls a b))).map (Prod.mk a)
noncomputable def outJ (ls:zD)(F:Nat→Bool)(n i:Nat):List (Nat×Nat):=(List.range i).flatMap fun a=>preJ ls F a n
theorem pre_next {ls:zD}{F:Nat→Bool}{a b:Nat}(h:a<b):preJ ls F a (b+1)=if (F a&&F b&&decide (jnN ls a b))=true then preJ ls F a b++[(a,b)] else preJ ls F a b:=by
 unfold preJ;rw[zaQ,zcJ,zaq];have e:(decide (a<b)&&(F a&&F b&&decide (jnN ls a b)))=(F a&&F b&&decide (jnN ls a b)):=by rw[decide_eq_true h,Bool.true_and]
 split
 ·rename_i c;rw[List.filter_cons_of_pos (p:=fun b=>decide (a<b)&&(F a&&F b&&decide (jnN ls a b))) (e.trans c),List.filter_nil];rfl
 ·rename_i c;rw[List.filter_cons_of_neg (p:=fun b=>decide (a<b)&&(F a&&F b&&decide (jnN ls a b))) (by rw[e];exact c),List.filter_nil,zba,zap]
theorem pre_0 {ls:zD}{F:Nat→Bool}{a:Nat}:preJ ls F a (a+1)=[]:=by
 unfold preJ;rw[List.filter_eq_nil_iff.2 fun b hb=>?_,zba];have:=zaE.1 hb;rw[decide_eq_false (by omega),Bool.false_and];simp
theorem yI6 {ls:zD}{F:Nat→Bool}{a b n:Nat}(hb:b≤n)(h:∀ k,b≤k→k<n→¬ (F a=true∧jnN ls a k)):preJ ls F a n=preJ ls F a b:=by
 obtain⟨d,rfl⟩:∃ d,n=b+d:=⟨n-b,by omega⟩
 induction d with
 | zero=>rfl
 | succ d ih =>
  rw[← ih (by omega) fun k h1 h2=>h k h1 (by omega)];show preJ ls F a (b+d+1)=_;unfold preJ;rw[zaQ,zcJ,zaq,List.filter_cons_of_neg (p:=fun b=>decide (a<b)&&(F a&&F b&&decide (jnN ls a b))),List.filter_nil,zba,zap];intro c;simp only[zam,decide_eq_true_eq] at c;exact h (b+d) (by omega) (by omega) ⟨c.2.1.1,c.2.2⟩
theorem tF {ls:zD}{F:Nat→Bool}{n i:Nat}:outJ ls F n (i+1)=outJ ls F n i++preJ ls F i n:=by
 unfold outJ;rw[List.range_succ,List.flatMap_append];simp
theorem rC {ls:zD}{F:Nat→Bool}{a n:Nat}{x:Nat×Nat}:x∈preJ ls F a n↔x.1=a∧x.2<n∧a<x.2∧F a=true∧F x.2=true∧jnN ls a x.2:=by
 obtain⟨p,q⟩:=x;unfold preJ;simp only[zaj,zbL,zaE,zam,decide_eq_true_eq,Prod.mk.injEq];constructor
 ·rintro⟨b,⟨h1,h2,⟨h3,h4⟩,h5⟩,rfl,rfl⟩;exact⟨rfl,h1,h2,h3,h4,h5⟩
 ·rintro⟨rfl,h1,h2,h3,h4,h5⟩;exact⟨q,⟨h1,h2,⟨h3,h4⟩,h5⟩,rfl,rfl⟩
theorem yO3 {p q:Nat×Nat}(h:p.1<q.1∨p.1=q.1∧p.2<q.2):cmpJ p q<0:=by
 unfold cmpJ;rcases h with h | ⟨h1,h2⟩
 ·rw[if_neg (by omega),if_pos h];decide
 ·rw[if_pos h1,if_pos h2];decide
theorem out_all {ls:zD}(hls:∀ l∈ls,∃ m,l=hullF m){F:Nat→Bool}{n:Nat}(hn:n=(celM ls).length):outJ ls F n n=allJ ls F:=by
 show _=setOf cmpJ (rawJ ls F);refine IsSet.eq vL ⟨?_,fun x=>?_⟩
 ·unfold outJ;rw[zdd];constructor
  ·intro a _;unfold preJ;rw[zcT];exact List.Pairwise.imp (fun {b c} (hbc:b<c)=>yO3 (p:=(a,b)) (q:=(a,c)) (.inr ⟨rfl,hbc⟩)) (List.pairwise_lt_range.filter _)
  ·refine List.pairwise_lt_range.imp fun {a b} hab x hx y hy=>?_;have h1:=(rC.1 hx).1;have h2:=(rC.1 hy).1;exact yO3 (.inl (by omega))
 ·obtain⟨a,b⟩:=x;rw[zU3 hls];unfold outJ;rw[zaX];constructor
  ·rintro⟨k,hk,h⟩;obtain⟨h0,h1,h2,h3,h4,h5⟩:=rC.1 h;simp only at h0 h1 h2 h3 h4 h5;subst h0;exact⟨h2,h3,h4,h5⟩
  ·rintro⟨h2,h3,h4,h5⟩;have:=yY1 h5;exact⟨a,zaE.2 (by omega),rC.2 ⟨rfl,by show b<n;omega,h2,h3,h4,h5⟩⟩
theorem k10hN {a b:P2}{x:Rat}{n m:Nat}(hn:n≤66)(hm:m≤270):CTy prog 251 [ag (ptq n a),ag (ptq n b),ag (rtq m x)] (tu [ag (rtc 1960 (zM a b x)),exP (.bool (decide (b.1-a.1≠0)))]):=by
 have e:(subP b a).1=b.1-a.1:=rfl;refine fw [.cell 6 29,.tmp 7] func251 fun X=>?_;iterate 5 refine u ?_
 refine u fun b6=>?_;repeat refine u ?_
 refine zB rfl rfl (yW7 (by omega) (by omega)) ?_;refine u fun b8=>?_;refine zH 0 rfl rfl (zR (zU (s:=8) 0 rfl rfl) ?_);iterate 2 refine u ?_
 apply yO 1 13 11 [(10,9,0),(11,1000011,0)] rfl rfl mixed rfl rfl rfl;repeat refine u ?_
 refine cx1 (oca rfl rfl fun _=>mZ (by omega) (by omega)) rfl ?_;repeat refine u ?_
 refine cx1 (oca rfl rfl fun _=>yL0 (by omega) (by omega)) rfl ?_;repeat refine u ?_
 refine cN rfl rfl (cal) (cS rfl rfl rfl (cst rfl rfl rfl) ?_);repeat refine u ?_
 refine cE (fun b9=>?_);refine fm ?_;repeat refine u ?_
 refine tp (fun c0=>?_) fun c0=>?_;repeat refine u ?_
 refine zB rfl rfl (k7of (by(simp;done))) ?_;refine zH 1 rfl rfl ?_;repeat refine u ?_
 refine⟨[_,_],zN 1 rfl (rst rfl rs0),aF ?_ ?_⟩;rotate_left;refine psb ?_;rotate_left;iterate 2 refine u ?_
 refine zL 9 mixed rfl rfl ?_;repeat refine u ?_
 refine zC rfl rfl (fE (by omega)) ?_;repeat refine u ?_
 refine zC rfl rfl (nA (by omega)) ?_;repeat refine u ?_
 refine zH 1 rfl rfl ?_;repeat refine u ?_
 refine⟨[_,_],zN 1 rfl (rst rfl rs0),aF ?_ ?_⟩;rotate_left;refine psb ?_;rotate_left
 ·have h0:b.1-a.1=0:=Classical.byContradiction fun c=>c0 (by rw[e,if_neg c]);exact uT (by unfold zM;rw[if_pos h0];rfl) (by omega)
 ·have h0:b.1-a.1=0:=Classical.byContradiction fun c=>c0 (by rw[e,if_neg c]);rw[eq_comm,decide_eq_false_iff_not];exact fun c=>c h0
 ·have h0:b.1-a.1≠0:=fun c=>c0 (by rw[e,if_pos c];decide);exact uT (by unfold zM;rw[if_neg h0];rfl) (by omega)
 ·rw[eq_comm,decide_eq_true_eq];exact fun c=>c0 (by rw[e,if_pos c];decide)
theorem k10hNc {Ψ Φ Θ:PV}{a b:P2}{x:Rat}{n m:Nat}[h1:QP Ψ n a][h2:QP Φ n b][h3:QR Θ m x](hn:n≤66)(hm:m≤270):CTy prog 251 [Ψ,Φ,Θ] (tu [ag (rtc 1960 (zM a b x)),exP (.bool (decide (b.1-a.1≠0)))]):=yE (k10hN hn hm) (fs1 qp_q (fs1 qp_q (fs1 qr_q fs0)))
theorem oT {Ψ Φ Θ:PV}{a b:P2}{x:Rat}{n m:Nat}[h1:QP Ψ n a][h2:QP Φ n b][h3:QR Θ m x](hn:n≤66)(hm:m≤270):CTy prog 195 [Ψ,Φ,Θ] (ag (rtc 1960 (zM a b x))):=by
 refine yE (σs:=[ag (ptq n a),ag (ptq n b),ag (rtq m x)]) ?_ (fs1 qp_q (fs1 qp_q (fs1 qr_q fs0)));refine fw [.cell 6 29] func195 fun X=>?_;iterate 5 refine u ?_
 refine u fun b6=>?_;repeat refine u ?_
 refine zB rfl rfl (k10hNc (by omega) (by omega)) ?_;iterate 3 refine u ?_
 refine u fun b7=>?_;refine u ?_;refine zR (zU (s:=7) 0 rfl rfl) ?_;repeat refine u ?_
 refine zH 0 rfl rfl ?_;repeat refine u ?_
 refine⟨[_],zN 0 rfl rs0,yJ (PSub.refl _)⟩
theorem yL4 {Ψ Φ Θ:PV}{p q r:Rat}{n m k:Nat}{s:Bool}[h1:QR Ψ n p][h2:QR Φ m q][h3:QR Θ k r](hn:n≤1990)(hm:m≤1990)(hk:k≤1990):CTy prog 194 [Ψ,Φ,Θ,exP (.bool s)] (exP (.bool (inB s p q r))):=by
 refine yE (σs:=[ag (rtq n p),ag (rtq m q),ag (rtq k r),exP (.bool s)]) ?_ (fs1 qr_q (fs1 qr_q (fs1 qr_q (fs1 (PSub.refl _) fs0))));refine fw [.tmp 8] func194 fun X=>?_;iterate 8 refine u ?_
 refine zL 8 mixed rfl rfl ?_;repeat refine u ?_
 refine zC rfl rfl (gO (by omega) (by omega)) ?_;repeat refine u ?_
 refine zC rfl rfl (gO (by omega) (by omega)) ?_;repeat refine u ?_
 refine tp (fun c0=>?_) fun c0=>?_;repeat refine u ?_
 refine e ?_;refine psb ?_;rotate_left;repeat refine u ?_
 refine e ?_;refine psb ?_;rotate_left
 ·rw[Bool.eq_iff_iff,zP8,if_pos (by simpa using c0),Bool.and_eq_true,decide_eq_true_eq,decide_eq_true_eq,xH,xH]
 ·rw[Bool.eq_iff_iff,zP8,if_neg (by simpa using c0),Bool.and_eq_true,decide_eq_true_eq,decide_eq_true_eq,uR,uR]
theorem tcoV {P:Program}{r:Option Nat}{N:Nat}{X:Cx}{K:TK}{Γ:TE}{S Si Sr:List Ow}{ops:Array Oper}{q qx:Prop}{Ψx:PV}{d k:Nat}{ty:TypeId}{L:List CT}{x:Operand}{t':TypeId}{pos:String}{af:Array Edge}{l:List Oper}{f:FuncId}{xs:List Operand}{ts:Array TypeId}{τs ca:List PV}(is:List Nat)(hp:qD S 0 is=(Si,Sr))(hf:tv Γ x=some (qx,Ψx))(hx:tvs Γ xs=some (q,τs))[hqx:Tr qx][hq:Tr q][hv:VF Ψx f ca](hk:CTo P f (τs++ca) Si (fun r So=>∃ v,r=exP v∧So=[.row v ty k L]))
  (h:∀ v,TO P r N ops X K l ((d,True,exP v)::Γ) (.row v ty k L::Sr)):TO P r N ops X K (⟨some d,.call ⟨.value x,xs.toArray,ts⟩,t',pos,af,none⟩::l) Γ S:=tco is hp hf hx hk fun _ _ ⟨v,e1,e2⟩=>by subst e1 e2;exact h v
theorem k8normO {l:List P2}{n:Nat}(hn:n≤1990)(hl:l.length≤1000000):CTo prog 77 [sv (sl 6 (l.map (ptc n)))] [] (fun r So=>∃ v,r=exP v∧So=[.row v 39 6 (l.map (ptc (n+1)))]):=by
 refine fwo [.tmp 2] func77 fun X=>?_;repeat refine u ?_
 refine t_ts (xQ 39 6) ?_;refine lp (σ:=Nat×Value) [0,2] (fun s=>[(3,True,exP s.2),(4,True,zI s.1)]) (fun s=>[.row s.2 39 6 ((l.take s.1).map (ptc (n+1)))]) (fun s=>s.1≤l.length) (fun s=>l.length-s.1) ((0,.slice none 0 0)) ((by simp)) fun s hJ Y _=>?_;obtain⟨i,v⟩:=s;dsimp only at hJ ⊢;repeat refine u ?_
 refine tp (fun c0=>?_) fun c0=>?_;iterate 3 refine u ?_
 refine zL 15 mixed rfl rfl ?_;repeat refine u ?_
 refine zC rfl rfl (jO (by omega)) ?_;repeat refine u ?_
 refine zC rfl rfl (jO (by omega)) ?_;iterate 4 refine u ?_
 refine u fun r26=>?_;repeat refine u ?_
 rotate_left;repeat refine u ?_
 rotate_left
 ·refine⟨(i+1,r26),tes ?_ ?_ ?_,(by omega),(by omega)⟩;refine zA rfl (zA rfl tn);refine zA rfl (zA rfl tn);rw[(zP (Df.d:P2) (l:=l) (s:=i) (by omega)).1,zaq];exact zaa _
 ·rw[zaw (by omega)];exact er ⟨_,rfl,rfl⟩
theorem k24closed0 {m:Mdl}{N K a r:Nat}{p:P2}(hN:N≤1900)(ha:a≤1000000000000)(hr:r≤1000000000000)(hx:m.xs.length≤1000000)(hw:∀ i,(m.wl.getD i Df.d).length≤1000000)(hv:∀ i,(m.lv.getD i Df.d).length≤1000000):CTy prog 192 [ag (mdT N m),ag (st [xc (.int .i8 0),xc (.int .i64 ((a:Nat):Int)),xc (.int .i64 ((r:Nat):Int)),ptc K p])] (sv (sl 6 ((clsM m 0 a r).map (ptc (N+1))))):=by
 have hwa:=hw a;have hva:=hv a;refine fw [.tmp 4] func192 fun X=>?_;repeat refine u ?_
 refine tp (fun c0=>(by omega)) fun c0=>?_;repeat refine u ?_
 refine tp (fun c1=>?_) fun c1=>(by omega);repeat refine u ?_
 refine tp (fun c2=>?_) fun c2=>(by omega);iterate 2 refine u ?_
 refine zL 38 mixed rfl rfl ?_;repeat refine u ?_
 refine d1g rfl rfl (ofa rfl rfl) ?_;repeat refine u ?_
 refine d1g rfl rfl (ofa rfl rfl) ?_;repeat refine u ?_
 refine d1g rfl rfl (ofa rfl rfl) ?_;repeat refine u ?_
 refine d1g rfl rfl (ofa rfl rfl) ?_;repeat refine u ?_
 refine d1g rfl rfl (ofa rfl rfl) ?_;repeat refine u ?_
 refine d1g rfl rfl (omv rfl) ?_;repeat refine u ?_
 refine tp (fun c3=>?_) fun c3=>?_;repeat refine u ?_
 refine e ?_;rotate_left;iterate 2 refine u ?_
 apply yO 1 15 13 [(12,6,0),(13,1000013,0)] rfl rfl mixed rfl rfl rfl;repeat refine u ?_
 refine cx1 (ofa rfl rfl) rfl ?_;repeat refine u ?_
 refine cx1 (ofa rfl rfl) rfl ?_;repeat refine u ?_
 refine cx1 (ofa rfl rfl) rfl ?_;repeat refine u ?_
 refine cx1 (ofa rfl rfl) rfl ?_;repeat refine u ?_
 refine cN rfl rfl (cal) (cS rfl rfl rfl (cst rfl rfl rfl) ?_);repeat refine u ?_
 refine cE (fun b6=>?_);refine fm ?_;repeat refine u ?_
 refine zA1 (omv rfl) ?_;repeat refine u ?_
 refine tp (fun c4=>?_) fun c4=>(by omega);refine u ?_;refine zL 10 mixed rfl rfl ?_;repeat refine u ?_
 refine d1 (ofa rfl rfl) ?_;iterate 4 refine u ?_
 refine d1 (yT (obs rfl rfl rfl rfl rfl rfl) (show PSub _ (sv (sl 6 ([(m.xs.getD a Df.d,(m.wl.getD a Df.d).getD r Df.d)].map (ptc N)))) from PSub.refl _)) (zC rfl rfl (mY (n:=N) (by omega) (by(simp;done))) ?_);repeat refine u ?_
 refine e ?_;rotate_left
 ·unfold clsM;rw[if_pos (by omega),if_neg fun c=>by omega];exact aB
 ·unfold clsM;rw[if_pos (by omega),if_pos ⟨by omega,by omega,by omega⟩,if_neg (by omega)];exact PSub.refl _
theorem k24closed1 {m:Mdl}{N K a r:Nat}{p:P2}(hN:N≤1900)(ha:a≤1000000000000)(hr:r≤1000000000000)(hx:m.xs.length≤1000000)(hw:∀ i,(m.wl.getD i Df.d).length≤1000000)(hv:∀ i,(m.lv.getD i Df.d).length≤1000000):CTy prog 192 [ag (mdT N m),ag (st [xc (.int .i8 1),xc (.int .i64 ((a:Nat):Int)),xc (.int .i64 ((r:Nat):Int)),ptc K p])] (sv (sl 6 ((clsM m 1 a r).map (ptc (N+1))))):=by
 have hwa:=hw a;have hva:=hv a;refine fw [.tmp 4] func192 fun X=>?_;repeat refine u ?_
 refine tp (fun c0=>?_) fun c0=>(by omega);repeat refine u ?_
 refine tp (fun c1=>(by omega)) fun c1=>?_;repeat refine u ?_
 refine tp (fun c2=>?_) fun c2=>(by omega);iterate 2 refine u ?_
 refine zL 38 mixed rfl rfl ?_;repeat refine u ?_
 refine d1g rfl rfl (ofa rfl rfl) ?_;repeat refine u ?_
 refine d1g rfl rfl (ofa rfl rfl) ?_;repeat refine u ?_
 refine d1g rfl rfl (ofa rfl rfl) ?_;repeat refine u ?_
 refine d1g rfl rfl (ofa rfl rfl) ?_;repeat refine u ?_
 refine d1g rfl rfl (ofa rfl rfl) ?_;repeat refine u ?_
 refine d1g rfl rfl (omv rfl) ?_;repeat refine u ?_
 refine tp (fun c3=>?_) fun c3=>?_;repeat refine u ?_
 refine e ?_;rotate_left;iterate 2 refine u ?_
 apply yO 1 15 13 [(12,6,0),(13,1000013,0)] rfl rfl mixed rfl rfl rfl;repeat refine u ?_
 refine cx1 (ofa rfl rfl) rfl ?_;repeat refine u ?_
 refine cx1 (ofa rfl rfl) rfl ?_;repeat refine u ?_
 refine cx1 (ofa rfl rfl) rfl ?_;repeat refine u ?_
 refine cx1 (ofa rfl rfl) rfl ?_;repeat refine u ?_
 refine cN rfl rfl (cal) (cS rfl rfl rfl (cst rfl rfl rfl) ?_);repeat refine u ?_
 refine cE (fun b6=>?_);refine fm ?_;repeat refine u ?_
 refine zA1 (omv rfl) ?_;repeat refine u ?_
 refine tp (fun c4=>(by omega)) fun c4=>?_;iterate 2 refine u ?_
 refine zL 18 mixed rfl rfl ?_;repeat refine u ?_
 refine d1 (ofa rfl rfl) ?_;repeat refine u ?_
 refine d1 (ofa rfl rfl) ?_;iterate 5 refine u ?_
 refine d1 (yT (obs rfl rfl rfl rfl rfl rfl) (show PSub _ (sv (sl 6 ([(m.xs.getD a Df.d,(m.wl.getD a Df.d).getD r Df.d),(m.xs.getD a Df.d,(m.wl.getD a Df.d).getD (r+1) Df.d)].map (ptc N)))) from PSub.refl _)) (zC rfl rfl (mY (n:=N) (by omega) (by(simp;done))) ?_);repeat refine u ?_
 refine e ?_;rotate_left
 ·unfold clsM;rw[if_pos (by omega),if_neg fun c=>by omega];exact aB
 ·unfold clsM;rw[if_pos (by omega),if_pos ⟨by omega,by omega,by omega⟩,if_pos rfl];exact PSub.refl _
theorem k24closed2 {m:Mdl}{N K a r:Nat}{p:P2}(hN:N≤1900)(ha:a≤1000000000000)(hr:r≤1000000000000)(hx:m.xs.length≤1000000)(hw:∀ i,(m.wl.getD i Df.d).length≤1000000)(hv:∀ i,(m.lv.getD i Df.d).length≤1000000):CTy prog 192 [ag (mdT N m),ag (st [xc (.int .i8 2),xc (.int .i64 ((a:Nat):Int)),xc (.int .i64 ((r:Nat):Int)),ptc K p])] (sv (sl 6 ((clsM m 2 a r).map (ptc (N+1))))):=by
 have hwa:=hw a;have hva:=hv a;refine fw [.tmp 4] func192 fun X=>?_;repeat refine u ?_
 refine tp (fun c0=>(by omega)) fun c0=>?_;repeat refine u ?_
 refine tp (fun c1=>(by omega)) fun c1=>?_;repeat refine u ?_
 refine tp (fun c2=>(by omega)) fun c2=>?_;repeat refine u ?_
 refine tp (fun c3=>?_) fun c3=>(by omega);repeat refine u ?_
 refine tp (fun c4=>?_) fun c4=>(by omega);iterate 2 refine u ?_
 refine zL 39 mixed rfl rfl ?_;repeat refine u ?_
 refine d1g rfl rfl (ofa rfl rfl) ?_;repeat refine u ?_
 refine d1g rfl rfl (ofa rfl rfl) ?_;repeat refine u ?_
 refine d1g rfl rfl (ofa rfl rfl) ?_;repeat refine u ?_
 refine d1g rfl rfl (ofa rfl rfl) ?_;repeat refine u ?_
 refine d1g rfl rfl (ofa rfl rfl) ?_;repeat refine u ?_
 refine d1g rfl rfl (omv rfl) ?_;repeat refine u ?_
 refine tp (fun c5=>?_) fun c5=>?_;repeat refine u ?_
 refine e ?_;rotate_left;iterate 2 refine u ?_
 apply yO 2 16 15 [(13,8,0),(14,9,1),(15,1000015,0)] rfl rfl mixed rfl rfl rfl;repeat refine u ?_
 refine cx1 (ofa rfl rfl) rfl ?_;repeat refine u ?_
 refine cx1 (ofa rfl rfl) rfl ?_;repeat refine u ?_
 refine cx1 (ofa rfl rfl) rfl ?_;repeat refine u ?_
 refine cx1 (ofa rfl rfl) rfl ?_;repeat refine u ?_
 refine cN rfl rfl (cal) (cN rfl rfl (cal) (cS rfl rfl rfl (cst rfl rfl rfl) ?_));refine cE (fun b8 b9=>?_);refine fm ?_;refine u ?_;refine zR (zU (s:=8) 1 rfl rfl) ?_;refine zH 0 rfl rfl (zR (zU (s:=9) 0 rfl rfl) ?_);iterate 2 refine u ?_
 apply yO 1 12 11 [(10,10,0),(11,1000011,0)] rfl rfl mixed rfl rfl rfl;repeat refine u ?_
 refine cx1 (ofa rfl rfl) rfl ?_;repeat refine u ?_
 refine cx1 (ofa rfl rfl) rfl ?_;repeat refine u ?_
 refine cx1 (ofa rfl rfl) rfl ?_;repeat refine u ?_
 refine cN rfl rfl (cal) (cS rfl rfl rfl (cst rfl rfl rfl) ?_);refine cE (fun b10=>?_);refine fm ?_;refine u ?_;refine zR (zU (s:=10) 0 rfl rfl) ?_;iterate 11 refine u ?_
 refine zA1 (yT (obs rfl rfl rfl rfl rfl rfl) (show PSub _ (sv (sl 6 ([(m.xs.getD a Df.d,((m.lv.getD a Df.d).getD r Df.d).1),(m.xs.getD (a+1) Df.d,((m.lv.getD a Df.d).getD r Df.d).2)].map (ptc N)))) from PSub.refl _)) (zB rfl rfl (mY (n:=N) (by omega) (by(simp;done))) ?_);repeat refine u ?_
 refine zA1 (omv rfl) ?_;repeat refine u ?_
 refine tp (fun c6=>?_) fun c6=>(by omega);repeat refine u ?_
 refine e ?_;rotate_left
 ·unfold clsM;rw[if_neg (by omega),if_neg fun c=>by omega];exact aB
 ·unfold clsM;rw[if_neg (by omega),if_pos ⟨by omega,by omega,by omega⟩,if_neg (by omega)];exact PSub.refl _
theorem k24closed3 {m:Mdl}{N K a r:Nat}{p:P2}(hN:N≤1900)(ha:a≤1000000000000)(hr:r≤1000000000000)(hx:m.xs.length≤1000000)(hw:∀ i,(m.wl.getD i Df.d).length≤1000000)(hv:∀ i,(m.lv.getD i Df.d).length≤1000000):CTy prog 192 [ag (mdT N m),ag (st [xc (.int .i8 3),xc (.int .i64 ((a:Nat):Int)),xc (.int .i64 ((r:Nat):Int)),ptc K p])] (sv (sl 6 ((clsM m 3 a r).map (ptc (N+1))))):=by
 have hwa:=hw a;have hva:=hv a;refine fw [.tmp 4] func192 fun X=>?_;repeat refine u ?_
 refine tp (fun c0=>?_) fun c0=>(by omega);repeat refine u ?_
 refine tp (fun c1=>(by omega)) fun c1=>?_;repeat refine u ?_
 refine tp (fun c2=>(by omega)) fun c2=>?_;repeat refine u ?_
 refine tp (fun c3=>(by omega)) fun c3=>?_;repeat refine u ?_
 refine tp (fun c4=>?_) fun c4=>(by omega);iterate 2 refine u ?_
 refine zL 39 mixed rfl rfl ?_;repeat refine u ?_
 refine d1g rfl rfl (ofa rfl rfl) ?_;repeat refine u ?_
 refine d1g rfl rfl (ofa rfl rfl) ?_;repeat refine u ?_
 refine d1g rfl rfl (ofa rfl rfl) ?_;repeat refine u ?_
 refine d1g rfl rfl (ofa rfl rfl) ?_;repeat refine u ?_
 refine d1g rfl rfl (ofa rfl rfl) ?_;repeat refine u ?_
 refine d1g rfl rfl (omv rfl) ?_;repeat refine u ?_
 refine tp (fun c5=>?_) fun c5=>?_;repeat refine u ?_
 refine e ?_;rotate_left;iterate 2 refine u ?_
 apply yO 2 16 15 [(13,8,0),(14,9,1),(15,1000015,0)] rfl rfl mixed rfl rfl rfl;repeat refine u ?_
 refine cx1 (ofa rfl rfl) rfl ?_;repeat refine u ?_
 refine cx1 (ofa rfl rfl) rfl ?_;repeat refine u ?_
 refine cx1 (ofa rfl rfl) rfl ?_;repeat refine u ?_
 refine cx1 (ofa rfl rfl) rfl ?_;repeat refine u ?_
 refine cN rfl rfl (cal) (cN rfl rfl (cal) (cS rfl rfl rfl (cst rfl rfl rfl) ?_));refine cE (fun b8 b9=>?_);refine fm ?_;refine u ?_;refine zR (zU (s:=8) 1 rfl rfl) ?_;refine zH 0 rfl rfl (zR (zU (s:=9) 0 rfl rfl) ?_);iterate 2 refine u ?_
 apply yO 1 12 11 [(10,10,0),(11,1000011,0)] rfl rfl mixed rfl rfl rfl;repeat refine u ?_
 refine cx1 (ofa rfl rfl) rfl ?_;repeat refine u ?_
 refine cx1 (ofa rfl rfl) rfl ?_;repeat refine u ?_
 refine cx1 (ofa rfl rfl) rfl ?_;repeat refine u ?_
 refine cN rfl rfl (cal) (cS rfl rfl rfl (cst rfl rfl rfl) ?_);refine cE (fun b10=>?_);refine fm ?_;refine u ?_;refine zR (zU (s:=10) 0 rfl rfl) ?_;iterate 11 refine u ?_
 refine zA1 (yT (obs rfl rfl rfl rfl rfl rfl) (show PSub _ (sv (sl 6 ([(m.xs.getD a Df.d,((m.lv.getD a Df.d).getD r Df.d).1),(m.xs.getD (a+1) Df.d,((m.lv.getD a Df.d).getD r Df.d).2)].map (ptc N)))) from PSub.refl _)) (tcoV [] rfl rfl rfl (k8normO (n:=N) (by omega) (by(simp;done))) fun r178=>?_);repeat refine u ?_
 refine zA1 (omv rfl) ?_;repeat refine u ?_
 refine tp (fun c6=>(by omega)) fun c6=>?_;iterate 2 refine u ?_
 apply yO 1 13 12 [(11,12,0),(12,1000012,0)] rfl rfl mixed rfl rfl rfl;repeat refine u ?_
 refine cx1 (ofa rfl rfl) rfl ?_;repeat refine u ?_
 refine cx1 (ofa rfl rfl) rfl ?_;repeat refine u ?_
 refine cx1 (ofa rfl rfl) rfl ?_;repeat refine u ?_
 refine cN rfl rfl (cal) (cS rfl rfl rfl (cst rfl rfl rfl) ?_);refine cE (fun b12=>?_);refine fm ?_;refine u ?_;refine zR (zU (s:=12) 0 rfl rfl) ?_;repeat refine u ?_
 refine zA1 (old rfl rfl) ?_;iterate 3 refine u ?_
 refine zA1 (yT (obs rfl rfl rfl rfl rfl rfl) (show PSub _ (sv (sl 6 ([(m.xs.getD (a+1) Df.d,((m.lv.getD a Df.d).getD (r+1) Df.d).2),(m.xs.getD a Df.d,((m.lv.getD a Df.d).getD (r+1) Df.d).1)].map (ptc N)))) from PSub.refl _)) (zB rfl rfl (mY (n:=N) (by omega) (by(simp;done))) ?_);refine tap 0 rfl rfl rfl (by(simp;done)) rfl fun r204=>?_;iterate 2 refine u ?_
 refine t_ts (yK (s:=4) 0 rfl rfl) ?_;repeat refine u ?_
 refine e ?_;rotate_left
 ·unfold clsM;rw[if_neg (by omega),if_neg fun c=>by omega];exact aB
 ·unfold clsM;rw[if_neg (by omega),if_pos ⟨by omega,by omega,by omega⟩,if_pos rfl];exact PSub.refl _
theorem k24cl {m:Mdl}{N K:Nat}{c:CL}(hN:N≤65)(hk:c.1<4)(ha:c.2.1≤1000000000000)(hr:c.2.2.1≤1000000000000)(hx:m.xs.length≤1000000)(hw:∀ i,(m.wl.getD i Df.d).length≤1000000)(hv:∀ i,(m.lv.getD i Df.d).length≤1000000):CTy prog 192 [ag (mdT N m),ag (celT K c)] (sv (sl 6 ((clsM m c.1 c.2.1 c.2.2.1).map (ptc (N+1))))):=by
 obtain⟨k,a,r,p⟩:=c;dsimp only at hk ha hr ⊢;have h4:k=0∨k=1∨k=2∨k=3:=by omega
 rcases h4 with rfl | rfl | rfl | rfl
 ·exact k24closed0 (by omega) ha hr hx hw hv
 ·exact k24closed1 (by omega) ha hr hx hw hv
 ·exact k24closed2 (by omega) ha hr hx hw hv
 ·exact k24closed3 (by omega) ha hr hx hw hv
theorem k24has {m:Mdl}{N K n:Nat}{c:CL}{p:P2}{s:Bool}(hN:N≤65)(hn:n≤270)(hk:c.1<4)(ha:c.2.1≤1000000000000)(hr:c.2.2.1≤1000000000000)(hx:m.xs.length≤1000000)(hw:∀ i,(m.wl.getD i Df.d).length≤1000000)(hv:∀ i,(m.lv.getD i Df.d).length≤1000000):CTy prog 119 [ag (mdT N m),ag (celT K c),ag (ptc n p),exP (.bool s)] (exP (.bool (hasB s c.1 (clsM m c.1 c.2.1 c.2.2.1) p))):=by
 have hc:=k24cl (K:=K) (c:=c) (N:=N) (m:=m) hN hk ha hr hx hw hv;rcases zJ5 m c.1 c.2.1 c.2.2.1 with e | ⟨x,e⟩ | ⟨x,y,e⟩ | ⟨x,y,z,u,e⟩
 ·rw[e] at hc ⊢;refine fw [.tmp 8] func119 fun X=>?_;repeat refine u ?_
  refine zB rfl rfl hc ?_;repeat refine u ?_
  refine xW rfl rfl ?_;repeat refine u ?_
  refine xW rfl rfl ?_;repeat refine u ?_
  refine xW rfl rfl ?_;repeat refine u ?_
  refine⟨[_],rst rfl rs0,yJ (PSub.refl _)⟩
 ·rw[e] at hc ⊢;refine fw [.tmp 8] func119 fun X=>?_;repeat refine u ?_
  refine zB rfl rfl hc ?_;repeat refine u ?_
  refine qC rfl rfl ?_;refine u ?_;refine zL 6 mixed rfl rfl ?_;repeat refine u ?_
  refine zC rfl rfl (mX (by omega) (by omega)) ?_;repeat refine u ?_
  refine⟨[_],rst rfl rs0,yJ ?_⟩;refine psb ?_;show decide (cmpP x p=0)=decide (x=p);exact decide_eq_decide.2 (uU.zero _ _)
 ·rw[e] at hc ⊢;refine fw [.tmp 8] func119 fun X=>?_;repeat refine u ?_
  refine zB rfl rfl hc ?_;repeat refine u ?_
  refine xW rfl rfl ?_;repeat refine u ?_
  refine qC rfl rfl ?_;repeat refine u ?_
  refine tp (fun c2=>?_) fun c2=>?_;refine u ?_;refine zL 23 mixed rfl rfl ?_;repeat refine u ?_
  refine zC rfl rfl (gO (by omega) (by omega)) ?_;repeat refine u ?_
  refine d1g rfl rfl (omv rfl) (d1g rfl rfl (oca rfl rfl fun g=>yL4 (by omega) (by omega) (by omega)) ?_);repeat refine u ?_
  refine⟨[_],rst rfl rs0,yJ ?_⟩;refine psb ?_;rotate_left;iterate 2 refine u ?_
  refine zL 28 mixed rfl rfl ?_;repeat refine u ?_
  refine zC rfl rfl (yL4 (by omega) (by omega) (by omega)) ?_;repeat refine u ?_
  refine d1g rfl rfl (ofa rfl rfl) ?_;repeat refine u ?_
  refine d1g rfl rfl (oca rfl rfl fun g=>oT (by omega) (by omega)) ?_;refine d1g rfl rfl (ofa rfl rfl) ?_;repeat refine u ?_
  refine d1g rfl rfl (oca rfl rfl fun g=>gO (by omega) (by omega)) ?_;repeat refine u ?_
  refine⟨[_],rst rfl rs0,yJ ?_⟩;refine psb ?_;rotate_left
  ·show _=if c.1=1 then _ else _;rw[if_pos (by omega)];show (decide (cmpR x.1 p.1=0)&&inB s x.2 p.2 y.2)=_;rw[decide_eq_decide.2 (xA (p:=x.1) (q:=p.1))]
  ·show _=if c.1=1 then _ else _;rw[if_neg (by omega)];show (inB s x.1 p.1 y.1&&decide (cmpR (zM x y p.1) p.2=0))=_;rw[decide_eq_decide.2 (xA (p:=zM x y p.1) (q:=p.2))]
 ·rw[e] at hc ⊢;refine fw [.tmp 8] func119 fun X=>?_;refine zY ?_;refine yH rfl ?_;refine zA1 (obx rfl) ?_;refine zA1 (obx rfl) ?_;refine zA1 (obx rfl) ?_;refine zA1 (oas rfl) ?_;refine zA0 ?_;refine zY ?_;refine yH rfl ?_;refine zA1 (old rfl rfl) ?_;refine zA1 (old rfl rfl) (zB rfl rfl hc ?_);refine zA1 (oas rfl) ?_;refine zA0 ?_;refine zY ?_;refine zY ?_;refine yH rfl ?_;refine zA1 (omv rfl) ?_;refine zA1 (oln rfl) ?_;refine zA0 ?_;refine bG ?_;refine zY ?_;refine yH rfl ?_;refine zA1 (oeq rfl rfl) ?_;refine zA1 (oas rfl) ?_;refine zA0 (xW rfl rfl ?_);refine zY ?_;refine yH rfl ?_;refine zA1 (oeq rfl rfl) ?_;refine zA1 (oas rfl) ?_;refine zA0 (xW rfl rfl ?_);refine zY ?_;refine yH rfl ?_;refine zA1 (oeq rfl rfl) ?_;refine zA1 (oas rfl) ?_;refine zA0 (qC rfl rfl ?_);refine zY (zL 37 mixed rfl rfl ?_);refine d1 (omv rfl) ?_;refine d1 (oix _ rfl rfl rfl (fun _=>rfl) (fun _=>(by(simp;done)))) ?_;refine d1 (ofa rfl rfl) ?_;refine d1 (old rfl rfl) ?_;refine d1 (ofa rfl rfl) ?_;refine d1 (old rfl rfl) ?_;refine d1 (omv rfl) ?_;refine d1 (oix _ rfl rfl rfl (fun _=>rfl) (fun _=>(by(simp;done)))) ?_;refine d1 (ofa rfl rfl) ?_;refine d1 (old rfl rfl) ?_;refine d1 (omv rfl) (zC rfl rfl (yL4 (by omega) (by omega) (by omega)) ?_);refine d1 (omv rfl) ?_;refine d1g rfl rfl (omv rfl) ?_;refine d1g rfl rfl (oix _ rfl rfl rfl (fun g=>rfl) (fun g=>(by(simp;done)))) ?_;refine d1g rfl rfl (old rfl rfl) ?_;refine d1g rfl rfl (omv rfl) ?_;refine d1g rfl rfl (oix _ rfl rfl rfl (fun g=>rfl) (fun g=>(by(simp;done)))) ?_;refine d1g rfl rfl (old rfl rfl) ?_;refine d1g rfl rfl (ofa rfl rfl) ?_;refine d1g rfl rfl (old rfl rfl) (d1g rfl rfl (oca rfl rfl fun g=>oT (by omega) (by omega)) ?_);refine d1g rfl rfl (ofa rfl rfl) ?_;refine d1g rfl rfl (old rfl rfl) ?_;refine d1g rfl rfl (omv rfl) ?_;refine d1g rfl rfl (oix _ rfl rfl rfl (fun g=>rfl) (fun g=>(by(simp;done)))) ?_;refine d1g rfl rfl (old rfl rfl) ?_;refine d1g rfl rfl (omv rfl) ?_;refine d1g rfl rfl (oix _ rfl rfl rfl (fun g=>rfl) (fun g=>(by(simp;done)))) ?_;refine d1g rfl rfl (old rfl rfl) ?_;refine d1g rfl rfl (ofa rfl rfl) ?_;refine d1g rfl rfl (old rfl rfl) (d1g rfl rfl (oca rfl rfl fun g=>oT (by omega) (by omega)) ?_);refine d1g rfl rfl (omv rfl) (d1g rfl rfl (oca rfl rfl fun g=>yL4 (by omega) (by omega) (by omega)) ?_);refine d1 (opk rfl rfl rfl) ?_;refine d1 (oas rfl) ?_;refine d0 ?_;refine zA0 ?_;refine kO (⟨[_],rst rfl rs0,yJ (PSub.refl _)⟩)
theorem k24touch {m:Mdl}{N K n:Nat}{c:CL}{p:P2}(hN:N≤65)(hn:n≤270)(hk:c.1<4)(ha:c.2.1≤1000000000000)(hr:c.2.2.1≤1000000000000)(hx:m.xs.length≤1000000)(hw:∀ i,(m.wl.getD i Df.d).length≤1000000)(hv:∀ i,(m.lv.getD i Df.d).length≤1000000):CTy prog 112 [ag (mdT N m),ag (celT K c),ag (ptc n p)] (exP (.bool (hasB false c.1 (clsM m c.1 c.2.1 c.2.2.1) p))):=by
 refine fw [.tmp 6] func112 fun X=>?_;repeat refine u ?_
 refine zB rfl rfl (k24has (by omega) (by omega) hk ha hr hx hw hv) ?_;repeat refine u ?_
 exact e
end Go.Proofs.YtalkinejknjidaaGreatDoor
namespace Go.Proofs.YtalkinejknjidaaGreatDoor
open Go Go.SL Go.RowKit Go.Proofs Tryz
theorem eqJ {a b c e:Int}{w:World}:(Op.equalIn 10000 75 (.agg #[.int .i64 a,.int .i64 b]) (.agg #[.int .i64 c,.int .i64 e])).run prog w = .ok (decide (a=c)&&decide (b=e)) w:=by
  rw[run_equalIn_agg w 9999 75 _ _ (by kernel_rfl) (by kernel_rfl)];have hf:(prog.fieldsOf 75).toList=[{ name:="A",type:=3,offset:=0,embedded:=false,tag:="",pkgPath:="",byteOffset:=0 },{ name:="B",type:=3,offset:=1,embedded:=false,tag:="",pkgPath:="",byteOffset:=8 }]:=by
    unfold Program.fieldsOf;rw[underlying75]
  rw[hf];have hp:∀(xs:Array Value) (i:Nat) (v:Value) (w:World),xs[i]? = some v→(part 3 xs i).run prog w = .ok v w:=fun xs i v w h=>by
    simp[part,isAgg,run_underlying underlying3,h]
  have he:∀(x y:Int) (w:World),(Op.equalIn 9999 3 (.int .i64 x) (.int .i64 y)).run prog w = .ok (x == y) w:=fun x y w=>run_equalIn_int w 9998 3 .i64 .i64 x y underlying3;simp only[Op.eqFields,Sem.run_bind,Sem.run_ite];rw[if_pos (by decide),hp _ 0 (.int .i64 a) w rfl,Result.andThen_ok,hp _ 0 (.int .i64 c) w rfl,Result.andThen_ok,he,Result.andThen_ok];by_cases h:a=c
  · subst h;rw[if_neg (by simp),if_pos (by decide),hp _ 1 (.int .i64 b) w rfl,Result.andThen_ok,hp _ 1 (.int .i64 e) w rfl,Result.andThen_ok,he,Result.andThen_ok];by_cases k:b=e
    · subst k;rw[if_neg (by simp)];simp
    · rw[if_pos (by simpa using k)];simp[k]
  · rw[if_pos (by simpa using h)];simp[h]
section
variable {r : Option Nat} {N : Nat} {all : Array Oper} {K : Pd} {D : List Deferred} {E : Env} {w : World} {rest : List Oper}
theorem ops_neJ {d:Nat}{x y:Operand}{ty t:TypeId}{pos:String}{af:Array Edge}{a b c e:Int}(hd:Nat.blt d N=true)
  (hx:ev E x=some (.agg #[.int .i64 a,.int .i64 b])) (hy:ev E y=some (.agg #[.int .i64 c,.int .i64 e]))
  (h:Ops prog r N all K rest D ((d,.bool (!(decide (a=c)&&decide (b=e))))::E) w):Ops prog r N all K (⟨some d,.binOp .neq 75 x y ty,t,pos,af,none⟩::rest) D E w :=
 yC hd (by intro c hc;cases hc) (fun ac ha=>by
  have hg:(eqGuard .neq 75 x y (.agg #[.int .i64 a,.int .i64 b]) (.agg #[.int .i64 c,.int .i64 e])).run prog w = .ok () w:=run_eqGuard_agg w .neq 75 x y _ _ (by kernel_rfl);simp only[execOp,ha.ev hx,ha.ev hy,Sem.run_bind,hg,run_neq_struct,eqJ,Result.andThen];rfl) h
end
section
variable {r : Option Nat} {N : Nat} {ops : Array Oper} {M : Nat → Prop} {S : List Ow} {p qx qy : Prop} {Γ : TE} {d : Nat} {x y : Operand} {t' ty : TypeId} {pos : String} {af : Array Edge}
theorem obneJ {a b:Nat×Nat}(hx:tv Γ x=some (qx,ag (jnT a)))(hy:tv Γ y=some (qy,ag (jnT b)))[Im p qx][Im p qy]:Ob prog r N ops M S p ⟨some d,.binOp .neq 75 x y ty,t',pos,af,none⟩ Γ (exP (.bool (!(decide (a=b))))) :=
 ob2 hx hy (by simp[Op.operands]) (by simp[Op.operands]) fun D E w u v hN _ e1 e2 h1 h2=>by
  obtain⟨us,rfl,x1,y1,rfl,⟨rfl,_⟩,x2,y2,rfl,⟨rfl,_⟩,h3⟩:=h1;obtain rfl:y2=[]:=h3;obtain⟨us,rfl,x3,y3,rfl,⟨rfl,_⟩,x4,y4,rfl,⟨rfl,_⟩,h4⟩:=h2;obtain rfl:y4=[]:=h4;refine ops_neJ hN e1 e2 ?_;rw[show (decide (((a.1:Nat):Int)=((b.1:Nat):Int))&&decide (((a.2:Nat):Int)=((b.2:Nat):Int)))=decide (a=b) by
   rw[zct,zam,decide_eq_true_eq,decide_eq_true_eq,decide_eq_true_eq];exact⟨fun h=>Prod.ext (by omega) (by omega),fun h=>by rw[h];exact⟨rfl,rfl⟩⟩]
  exact fin rfl
end
end Go.Proofs.YtalkinejknjidaaGreatDoor
namespace Go.Proofs.YtalkinejknjidaaGreatDoor
open Go.SL Go.RowKit Go.Proofs Tryz
theorem yL3 {N:Nat}{c:CL}(hk:c.1<4):CTy prog 111 [ag (celT N c)] (exP (.int .i64 (rkI c.1))):=by
 obtain⟨k,a,r,p⟩:=c;dsimp only at hk ⊢;have h4:k=0∨k=1∨k=2∨k=3:=by omega
 rcases h4 with rfl | rfl | rfl | rfl
 ·refine fw [.tmp 2] func111 fun X=>?_;repeat refine u ?_
  refine qC rfl rfl ?_;repeat refine u ?_
  exact e
 ·refine fw [.tmp 2] func111 fun X=>?_;repeat refine u ?_
  refine xW rfl rfl ?_;repeat refine u ?_
  refine qC rfl rfl ?_;repeat refine u ?_
  refine qC rfl rfl ?_;repeat refine u ?_
  exact e
 ·refine fw [.tmp 2] func111 fun X=>?_;repeat refine u ?_
  refine xW rfl rfl ?_;repeat refine u ?_
  refine xW rfl rfl ?_;repeat refine u ?_
  refine qC rfl rfl ?_;repeat refine u ?_
  exact e
 ·refine fw [.tmp 2] func111 fun X=>?_;repeat refine u ?_
  refine xW rfl rfl ?_;repeat refine u ?_
  refine xW rfl rfl ?_;repeat refine u ?_
  refine xW rfl rfl ?_;repeat refine u ?_
  exact e
theorem zI1 {N:Nat}{c:CL}(hk:c.1<4)(ha:c.2.1≤1000000000000):CTy prog 110 [ag (celT N c)] (exP (.int .i64 (clI c.1 c.2.1))):=by
 refine fw [.tmp 2] func110 fun X=>?_;repeat refine u ?_
 refine tp (fun c0=>?_) fun c0=>?_;repeat refine u ?_
 refine e ?_;refine ps_i ?_;rotate_left;repeat refine u ?_
 refine e ?_;refine ps_i ?_;rotate_left
 ·unfold clI;rw[if_pos (by omega)]
 ·unfold clI;rw[if_neg (by omega)]
theorem yL2 {fs:List Bool}{n:Nat}:CTy prog 109 [sv (sl 1 (fs.map bT)),zI n] (exP (.bool (fs.getD n false))):=by
 refine fw [.tmp 4] func109 fun X=>?_;repeat refine u ?_
 refine e ?_;refine psb ?_;by_cases c:n<fs.length
 ·rw[decide_eq_true (by omega),Bool.true_and];rfl
 ·rw[decide_eq_false (by omega),Bool.false_and,zag,zbX (by omega)];rfl
theorem k24touchM {ls:zD}(h:Prt ls){N n a:Nat}{p:P2}(hN:N≤65)(hn:n≤270)(ha:a<(modM ls).cs.length):CTy prog 112 [ag (mdT N (modM ls)),ag (celT N ((modM ls).cs.getD a Df.d)),ag (ptc n p)] (exP (.bool (hasA false (modM ls) a p))):=by
 obtain⟨c,j,h1,-,e⟩:=iW ha;unfold hasA;rw[show (modM ls).cs.getD a Df.d=cellC ls c j from e];exact k24touch (c:=cellC ls c j) hN hn zW3.1 (vA h h1).1 (vA h h1).2 (yU5 h) (yU6 h) (yU7 h)
theorem oS {ls:zD}(h:Prt ls){N:Nat}{a b:Int}(hN:N≤65):CTy prog 39 [ag (mdT N (modM ls)),exP (.int .i64 a),exP (.int .i64 b)] (exP (.bool (decide (jnI ls a b)))):=by
 have hl:(modM ls).cs.length≤3460000:=dO h;have key:=fun {i:Nat} {p:P2} (hi:i<(modM ls).cs.length)=>k24touchM h hN (by omega) (n:=N) (p:=p) hi;have hj:=@yX9 ls;have ho:=@yY0 ls;generalize modM ls=m at *;refine fw [.tmp 6] func39 fun X=>?_;repeat refine u ?_
 refine tp (fun c0=>?_) fun c0=>?_;repeat refine u ?_
 refine e ?_;refine psb ?_;rotate_left;rotate_left
 ·exact(ho (by omega)).symm
 obtain⟨i,rfl⟩:∃ i:Nat,a=i:=⟨a.toNat,by omega⟩;obtain⟨k,rfl⟩:∃ k:Nat,b=k:=⟨b.toNat,by omega⟩;have e:=hj (a:=i) (b:=k) (by omega) (by omega) (by omega);iterate 2 refine u ?_
 apply yO 2 13 12 [(10,7,0),(11,8,1),(12,1000012,0)] rfl rfl mixed rfl rfl rfl;repeat refine u ?_
 refine cN rfl rfl (cal) (cN rfl rfl (cal) (cS rfl rfl rfl (cst rfl rfl rfl) ?_));refine cE (fun b7 b8=>?_);refine fm ?_;refine u ?_;refine zR (zU (s:=7) 1 rfl rfl) ?_;refine zH 0 rfl rfl (zR (zU (s:=8) 0 rfl rfl) ?_);repeat refine u ?_
 refine zB rfl rfl (key (i:=i) (by omega)) ?_;repeat refine u ?_
 refine t1g rfl rfl (old rfl rfl) ?_;repeat refine u ?_
 refine t1g rfl rfl (oca rfl rfl fun _=>key (i:=k) (by omega)) ?_;repeat refine u ?_
 refine⟨[_],rst rfl rs0,yJ (psb (by omega))⟩
theorem k26near {ls:zD}(h:Prt ls){N:Nat}{a:Int}(hN:N≤65):CTy prog 41 [ag (mdT N (modM ls)),exP (.int .i64 a)] (sv (sl 1 ((nearL ls a (celM ls).length).map xi))):=by
 have hl:=dO h;have hcs:(modM ls).cs.length=(celM ls).length:=rfl;have kJ:∀ b:Nat,CTy prog 39 [ag (mdT N (modM ls)),exP (.int .i64 a),zI b] (exP (.bool (decide (jnI ls a (b:Int))))):=fun b=>oS h hN;generalize modM ls=m at *;generalize (celM ls).length=n at *;refine fw [.tmp 4] func41 fun X=>?_;repeat refine u ?_
 refine t_ts (xQ 3 1) ?_;refine lp (σ:=Nat×Value) [1,2,4] (fun s=>[(5,True,exP s.2),(6,True,zI s.1)]) (fun s=>[.row s.2 3 1 ((nearL ls a s.1).map xi)]) (fun s=>s.1≤n) (fun s=>n-s.1) ((0,.slice none 0 0)) ((by simp)) fun s hJ Y _=>?_;obtain⟨i,v⟩:=s;dsimp only at hJ ⊢;have hnl:(nearL ls a i).length≤i:=by unfold nearL;have:=List.length_filter_le (fun b:Nat=>decide (jnI ls a (b:Int))) (List.range i);rw[List.length_range] at this;exact this
 repeat refine u ?_
 refine tp (fun c0=>?_) fun c0=>?_;repeat refine u ?_
 refine zB rfl rfl (kJ i) ?_;repeat refine u ?_
 refine tp (fun c1=>?_) fun c1=>?_;iterate 4 refine u ?_
 refine u fun r21=>?_;repeat refine u ?_
 rotate_left;repeat refine u ?_
 rotate_left;iterate 7 refine u ?_
 refine t_ts (yK (s:=4) 0 rfl rfl) ?_;repeat refine u ?_
 refine e ?_;rotate_left
 ·refine⟨(i+1,r21),tes ?_ ?_ ?_,(by omega),(by omega)⟩;refine zA rfl (zA rfl tn);refine zA rfl (zA rfl (zA rfl tn));unfold nearL;rw[List.range_succ,List.filter_append,List.filter_cons_of_pos (by simpa using c1)];exact List.Sublist.refl _
 ·refine⟨(i+1,v),tes ?_ ?_ ?_,(by omega),(by omega)⟩;refine zA rfl (zA rfl tn);refine zA rfl (zA rfl (zA rfl tn));unfold nearL;rw[List.range_succ,List.filter_append,List.filter_cons_of_neg (by simpa using c1),List.filter_nil,List.append_nil];exact List.Sublist.refl _
 ·rw[show i=n by omega];exact PSub.refl _
theorem k8farK {Ψ Φ:PV}{a b:P2}{n m K:Nat}[h1:QP Ψ n a][h2:QP Φ m b](hn:n≤90)(hm:m≤90)(hK:2*(n+m+8)+8≤K):CTy prog 116 [Ψ,Φ] (ag (rtc K (farP a b))):=gQ (yW8 hn hm) (uT rfl hK)
theorem k26lengths {m:Mdl}{N:Nat}{js:List (Int×Int)}(hN:N≤65)(hl:js.length≤100000000):CTy prog 44 [ag (mdT N m),sv (sl 2 (js.map jzT))] (sv (sl 3 ((js.map (lenJ m)).map (rtc (4*N+24))))):=by
 refine fw [.tmp 4] func44 fun X=>?_;repeat refine u ?_
 refine t_ts (xQ 29 3) ?_;refine lp (σ:=Nat×Value) [1,2,4] (fun s=>[(5,True,exP s.2),(6,True,zI s.1)]) (fun s=>[.row s.2 29 3 (((js.take s.1).map (lenJ m)).map (rtc (4*N+24)))]) (fun s=>s.1≤js.length) (fun s=>js.length-s.1) ((0,.slice none 0 0)) ((by simp)) fun s hJ Y _=>?_;obtain⟨i,v⟩:=s;dsimp only at hJ ⊢;repeat refine u ?_
 refine tp (fun c0=>?_) fun c0=>?_;iterate 4 refine u ?_
 refine zL 12 mixed rfl rfl ?_;repeat refine u ?_
 refine t1g rfl rfl (ofa rfl rfl) ?_;repeat refine u ?_
 refine t1g rfl rfl (ofa rfl rfl) ?_;repeat refine u ?_
 refine tp (fun c1=>?_) fun c1=>?_;repeat refine u ?_
 refine zB rfl rfl (xG1 (k:=0) (K:=4*N+24) (by omega) (by omega)) ?_;refine u ?_;refine u fun r48=>?_;repeat refine u ?_
 refine zA1 (omv rfl) ?_;repeat refine u ?_
 rotate_left;refine u ?_;refine zL 15 mixed rfl rfl ?_;repeat refine u ?_
 refine d1 (ofa rfl rfl) ?_;repeat refine u ?_
 refine d1 (oix (js.getD i Df.d).1.toNat rfl rfl rfl (fun g=>(by omega)) (fun g=>(by omega))) ?_;repeat refine u ?_
 refine d1 (ofa rfl rfl) ?_;repeat refine u ?_
 refine d1 (oix (js.getD i Df.d).2.toNat rfl rfl rfl (fun g=>(by omega)) (fun g=>(by omega))) ?_;repeat refine u ?_
 refine zC rfl rfl (k8farK (K:=4*N+24) (by omega) (by omega) (by omega)) ?_;iterate 3 refine u ?_
 refine u fun r64=>?_;repeat refine u ?_
 refine zA1 (omv rfl) ?_;repeat refine u ?_
 rotate_left;iterate 7 refine u ?_
 refine t_ts (yK (s:=4) 0 rfl rfl) ?_;repeat refine u ?_
 refine e ?_;rotate_left
 ·refine⟨(i+1,r48),tes ?_ ?_ ?_,(by omega),(by omega)⟩;refine zA rfl (zA rfl tn);refine zA rfl (zA rfl (zA rfl tn));rw[(zP (Df.d:Int×Int) (l:=js) (s:=i) (by omega)).1];simp only[List.map_append,List.map_cons,List.map_nil];rw[show lenJ m (js.getD i Df.d)=((0:Nat):Rat) by unfold lenJ;rw[if_pos (by omega)];rfl];exact List.Sublist.refl _
 ·refine⟨(i+1,r64),tes ?_ ?_ ?_,(by omega),(by omega)⟩;refine zA rfl (zA rfl tn);refine zA rfl (zA rfl (zA rfl tn));rw[(zP (Df.d:Int×Int) (l:=js) (s:=i) (by omega)).1];simp only[List.map_append,List.map_cons,List.map_nil];rw[show lenJ m (js.getD i Df.d)=farP (m.cs.getD (js.getD i Df.d).1.toNat Df.d).2.2.2 (m.cs.getD (js.getD i Df.d).2.toNat Df.d).2.2.2 by unfold lenJ;rw[if_neg (by omega)]];exact List.Sublist.refl _
 ·rw[zaw (by omega)];exact PSub.refl _
theorem k26same {l k:List (Nat×Nat)}(hl:l.length≤100000000):CTy prog 36 [sv (sl 2 (l.map jnT)),sv (sl 2 (k.map jnT))] (exP (.bool (decide (l=k)))):=by
 refine fw [.tmp 4] func36 fun X=>?_;repeat refine u ?_
 refine tp (fun c0=>?_) fun c0=>?_;repeat refine u ?_
 refine e ?_;refine psb ?_;rotate_left;repeat refine u ?_
 rotate_left
 ·exact(decide_eq_false fun e=>by rw[e] at c0;exact c0 rfl).symm
 refine lp (σ:=Nat) [0,1] (fun i=>[(5,True,zI i)]) (fun i=>[]) (fun i=>i≤l.length∧∀ j,j<i→l.getD j Df.d=k.getD j Df.d) (fun i=>l.length-i) (0) (⟨by omega,fun j h=>absurd h (by omega)⟩) fun i hJ Y _=>?_;repeat refine u ?_
 refine tp (fun c1=>?_) fun c1=>?_;iterate 4 refine u ?_
 refine zL 9 mixed rfl rfl ?_;repeat refine u ?_
 refine d1 (obneJ rfl rfl) ?_;repeat refine u ?_
 refine tp (fun c2=>?_) fun c2=>?_;repeat refine u ?_
 refine e ?_;refine psb ?_;rotate_left;repeat refine u ?_
 rotate_left;repeat refine u ?_
 refine e ?_;refine psb ?_;rotate_left
 ·exact(decide_eq_false fun e=>by rw[e] at c2;simp at c2).symm
 ·refine nxt (i+1) ?_;refine⟨by omega,fun j hj=>?_⟩;rcases zaf j i with d | d
  ·exact hJ.2 j d
  ·rw[show j=i by omega];simpa using c2
 ·refine(decide_eq_true ?_).symm;refine zcq (by omega) fun j h1 h2=>?_;have:=hJ.2 j (by omega);rw[zag,zag,zah h1,zah h2] at this;exact this
noncomputable def jB (ls:zD)(a b:Nat):Bool:=decide (jnN ls a b)
theorem off_col {ls:zD}{c j d k:Nat}(h1:inC ls c j)(h2:inC ls d k)(h:offC ls c+j<offC ls d+k):c≤d:=by
 have:=(off_cmp (f:=nC ls) h1.2 h2.2).1 h;omega
theorem pre_pfx {ls:zD}{F:Nat→Bool}{a b n:Nat}(h:b≤n):(preJ ls F a b).length≤(preJ ls F a n).length:=by
 unfold preJ;rw[zai,zai];exact((List.range_sublist.2 h).filter _).length_le
theorem yI9 {ls:zD}{F:Nat→Bool}{n:Nat}:∀ {i k:Nat},i≤k→(outJ ls F n i).length≤(outJ ls F n k).length
 | i,0,h=>by rw[show i=0 by omega];exact zac _
 | i,k+1,h=>by
  rcases zaf k i with c | c
  ·rw[show i=k+1 by omega];exact zac _
  ·rw[tF,zak];have:=yI9 (ls:=ls) (F:=F) (n:=n) c;omega
theorem all_pre {ls:zD}(h:Prt ls)(F:Nat→Bool):∃(O:Nat→List (Nat×Nat)) (Pr:Nat→Nat→List (Nat×Nat)),O 0=[]∧(∀ i,O (i+1)=O i++Pr i (celM ls).length)∧(∀ a,Pr a (a+1)=[])∧(∀ a b,a<b→Pr a (b+1)=if (F a&&F b&&jB ls a b)=true then Pr a b++[(a,b)] else Pr a b)∧(∀ a b,b≤(celM ls).length→F a=false→Pr a (celM ls).length=Pr a b) ∧
  (∀ a b,a<b→b<(celM ls).length→clI ((celM ls).getD a Df.d).1 ((celM ls).getD a Df.d).2.1+1<clI ((celM ls).getD b Df.d).1 ((celM ls).getD b Df.d).2.1→Pr a (celM ls).length=Pr a b)∧O (celM ls).length=allJ ls F∧(∀ a b,a<(celM ls).length→b≤(celM ls).length→(O a++Pr a b).length≤500000) ∧
  (∀ a b,jB ls a b=true→rkI ((celM ls).getD a Df.d).1≠rkI ((celM ls).getD b Df.d).1)∧(∀ a,a<(celM ls).length→((celM ls).getD a Df.d).1<4∧((celM ls).getD a Df.d).2.1≤1000000000000):=by
 have hall:=out_all h.hull (F:=F) (n:=(celM ls).length) rfl;have hlen:(allJ ls F).length≤500000:=Nat.le_trans (yY vL _) (Nat.le_trans (by unfold rawJ;rw[List.length_map];exact List.length_filter_le _ _) (rA h));refine⟨outJ ls F (celM ls).length,preJ ls F,rfl,fun i=>tF,fun a=>pre_0,fun a b hab=>pre_next hab,fun a b hb hF=>yI6 hb fun k _ _ hk=>by rw[hF] at hk;exact absurd hk.1 (by decide),fun a b hab hb hc=>yI6 (by omega) fun k h1 h2 hk=>?_,hall,fun a b ha hb=>?_,fun a b hj=>?_,fun a ha=>?_⟩
 ·obtain⟨_,c,j,d,q,a1,a2,rfl,rfl,h3⟩:=hk;obtain⟨e,s,b1,rfl⟩:=xA5 hb;rw[fN a1,fN b1] at hc;change clI (2*(c%2)+j%2) (c/2)+1<clI (2*(e%2)+s%2) (e/2) at hc;rw[xH1,xH1] at hc;have h4:=(yM1 h.hull a1 a2 h3).2.1;rcases Nat.lt_or_eq_of_le h1 with g | g
  ·have:=off_col b1 a2 g;omega
  ·have:=(gX b1 a2 g).1;omega
 ·rw[zak];have h1:=pre_pfx (ls:=ls) (F:=F) (a:=a) hb;have h2:=yI9 (ls:=ls) (F:=F) (n:=(celM ls).length) (show a+1≤(celM ls).length from ha);rw[tF,zak,hall] at h2;omega
 ·obtain⟨c,j,d,q,a1,a2,rfl,rfl,h3⟩:=of_decide_eq_true hj;rw[fN a1,fN a2];change rkI (2*(c%2)+j%2)≠rkI (2*(d%2)+q%2);rw[xC8,xC8];have:=(yM1 h.hull a1 a2 h3).1;omega
 ·obtain⟨c,j,h1,-,e⟩:=iW ha;rw[e];exact⟨zW3.1,(vA h h1).1⟩
theorem cl_b (k a:Nat):0≤clI k a∧clI k a≤2*(a:Int)+1:=by unfold clI;split<;>omega
theorem k26all {ls:zD}(h:Prt ls){fs:List Bool}:CTy prog 37 [ag (mdT 65 (modM ls)),sv (sl 1 (fs.map bT))] (sv (sl 2 ((allJ ls fun n=>fs.getD n false).map jnT))):=by
 have hl:=dO h;have kJ:∀ a b:Nat,CTy prog 39 [ag (mdT 65 (modM ls)),zI a,zI b] (exP (.bool (jB ls a b))):=fun a b=>by
  have:=oS h (N:=65) (a:=a) (b:=b) (by omega);rw[show decide (jnI ls (a:Int) (b:Int))=jB ls a b from decide_eq_decide.2 (by unfold jnI;rw[Int.toNat_natCast,Int.toNat_natCast];exact⟨fun h=>h.2.2,fun h=>⟨by omega,by omega,h⟩⟩)] at this;exact this
 obtain⟨O,Pr,hO0,hO,hP0,hPs,hPf,hPc,hOn,hlen,hrk,hcl⟩:=all_pre h fun n=>fs.getD n false;rw[← hOn];clear hOn;obtain⟨m,hm⟩:∃ m,m=modM ls:=⟨_,rfl⟩;rw[← hm] at kJ ⊢;have hcs:celM ls=m.cs:=by rw[hm];rfl
 rw[hcs] at hl ⊢;simp only[hcs] at hO hPf hPc hlen hrk hcl;clear hm hcs;generalize jB ls=J at *;refine fw [.tmp 4] func37 fun X=>?_;repeat refine u ?_
 refine t_ts (xQ 75 2) ?_;refine yR (σ:=Nat×Value) (fun s=>[(5,True,exP s.2),(6,True,zI s.1)]) (fun s=>[.row s.2 75 2 ((O s.1).map jnT)]) (fun s=>s.1≤m.cs.length) (fun s=>m.cs.length-s.1) ((0,.slice none 0 0)) (tk 1 rfl (tk 2 rfl (tk 4 rfl tn))) ?_ (by(simp;omega)) ((by simp)) (fun s hJ Y _=>?_);refine zA rfl (zA rfl tn);obtain⟨a,v⟩:=s;dsimp only at hJ ⊢;repeat refine u ?_
 refine tp (fun c0=>?_) fun c0=>?_;repeat refine u ?_
 rotate_left;iterate 7 refine u ?_
 refine t_ts (yK (s:=4) 0 rfl rfl) ?_;repeat refine u ?_
 refine e ?_;rotate_left
 ·refine yR (σ:=Nat×Value) (fun s=>[(5,True,exP s.2),(7,True,zI s.1)]) (fun s=>[.row s.2 75 2 ((O a++Pr a s.1).map jnT)]) (fun s=>a+1≤s.1∧s.1≤m.cs.length) (fun s=>m.cs.length-s.1) ((a+1,v)) (tk 1 rfl (tk 2 rfl (tk 4 rfl (tk 6 rfl tn)))) ?_ ?_ ((by simp;omega)) (fun s hJ Y _=>?_);refine zA rfl (zA rfl tn);rotate_left;rotate_left
  ·show [Ow.row v 75 2 _]=[Ow.row v 75 2 ((O a++Pr a (a+1)).map jnT)];rw[hP0,zap]
  ·obtain⟨b,u⟩:=s;dsimp only at hJ ⊢;obtain⟨ha1,ha2⟩:=hcl a (by omega);have hcb:=hcl b;have hcc:=hPc a b (by omega);have hnx:=hPs a b (by omega);have hne:=hrk a b;have hln:=hlen a b (by omega) (by omega);have hff:=hPf a b (by omega);have hbd:=cl_b (m.cs.getD a Df.d).1 (m.cs.getD a Df.d).2.1;refine zY ?_;refine zY ?_;refine yH rfl ?_;refine zA1 (omv rfl) ?_;refine zA1 (ofa rfl rfl) ?_;refine zA1 (old rfl rfl) ?_;refine zA1 (oln rfl) ?_;refine zA1 (olt rfl rfl) ?_;refine zA1 (omv rfl) ?_;refine t1g rfl rfl (omv rfl) ?_;refine t1g rfl rfl (omv rfl) (t1g rfl rfl (oca rfl rfl fun g=>yL2) ?_);refine zA1 (opk rfl rfl rfl) ?_;refine zA0 ?_;refine tp (fun c1=>?_) fun c1=>?_;refine bO ?_;refine zY ?_;refine bG ?_;refine zY ?_;apply yO 2 13 12 [(10,8,0),(11,9,1),(12,1000012,0)] rfl rfl mixed rfl rfl rfl;refine cx1 (ofa rfl rfl) rfl ?_;refine cx1 (old rfl rfl) rfl ?_;refine cx1 (omv rfl) rfl ?_;refine cx1 (oix _ rfl rfl rfl (fun _=>rfl) (fun _=>(by omega))) rfl ?_;refine cx1 (old rfl rfl) rfl ?_;refine cx1 (ofa rfl rfl) rfl ?_;refine cx1 (old rfl rfl) rfl ?_;refine cx1 (omv rfl) rfl ?_;refine cx1 (oix _ rfl rfl rfl (fun _=>rfl) (fun _=>(by omega))) rfl ?_;refine cx1 (old rfl rfl) rfl (cN rfl rfl (cal) (cN rfl rfl (cal) (cS rfl rfl rfl (cst rfl rfl rfl) ?_)));refine cE (fun b8 b9=>?_);refine fm (zR (zU (s:=8) 1 rfl rfl) ?_);refine zH 0 rfl rfl (zR (zU (s:=9) 0 rfl rfl) ?_);refine zA0 ?_;refine zY ?_;refine zY (zL 6 mixed rfl rfl ?_);refine d1 (old rfl rfl) (zC rfl rfl (zI1 (by omega) (by omega)) ?_);refine d1 (old rfl rfl) (zC rfl rfl (zI1 (by omega) (by omega)) ?_);refine d1 (oad rfl rfl (by omega)) ?_;refine d1 (ogt rfl rfl) ?_;refine d0 ?_;refine zA0 ?_;refine tp (fun c2=>?_) fun c2=>?_;refine oF ?_;refine yH rfl ?_;refine zA1 (omv rfl) ?_;refine zA1 (oad rfl rfl (by omega)) ?_;refine zA1 (oas rfl) ?_;refine zA0 ?_;rotate_left;refine bO ?_;refine zY (zL 16 mixed rfl rfl ?_);refine d1 (omv rfl) ?_;refine d1 (omv rfl) (zC rfl rfl yL2 ?_);refine d1 (omv rfl) ?_;refine d1g rfl rfl (old rfl rfl) (d1g rfl rfl (oca rfl rfl fun g=>yL3 (by omega)) ?_);refine d1g rfl rfl (old rfl rfl) (d1g rfl rfl (oca rfl rfl fun g=>yL3 (by omega)) ?_);refine d1g rfl rfl (oni rfl rfl) ?_;refine d1 (opk rfl rfl rfl) ?_;refine d1 (omv rfl) ?_;refine d1g rfl rfl (old rfl rfl) ?_;refine d1g rfl rfl (omv rfl) ?_;refine d1g rfl rfl (omv rfl) (d1g rfl rfl (oca rfl rfl fun g=>kJ a b) ?_);refine d1 (opk rfl rfl rfl) ?_;refine d0 ?_;refine zA0 ?_;refine tp (fun c3=>?_) fun c3=>?_;refine yH rfl ?_;refine zA1 (omv rfl) ?_;refine zA1 (omv rfl) ?_;refine zA1 (omv rfl) ?_;refine zA1 (obd rfl rfl rfl) ?_;refine zA1 (obs rfl rfl rfl rfl rfl rfl) (tap 0 rfl rfl rfl (by(simp only[zai,zas,zbb];omega)) rfl fun r68=>?_);refine zA1 (oas rfl) ?_;refine zA0 ?_;refine yH rfl ?_;refine zA1 (omv rfl) ?_;refine zA1 (oad rfl rfl (by omega)) ?_;refine zA1 (oas rfl) ?_;refine zA0 ?_;rotate_left;refine bO ?_;refine yH rfl ?_;refine zA1 (omv rfl) ?_;refine zA1 (oad rfl rfl (by omega)) ?_;refine zA1 (oas rfl) ?_;refine zA0 ?_;rotate_left;refine oF ?_;refine yH rfl ?_;refine zA1 (omv rfl) ?_;refine zA1 (oad rfl rfl (by omega)) ?_;refine zA1 (oas rfl) ?_;refine zA0 ?_;rotate_left
   ·refine⟨(a+1,u),tes ?_ ?_ ?_,(by omega),(by omega)⟩;refine zA rfl (zA rfl tn);refine zA rfl (zA rfl (zA rfl tn));rw[hO,hcc (by omega) c2];exact zaa _
   ·refine⟨(b+1,r68),tes ?_ ?_ ?_,(by omega),(by omega)⟩;refine zA rfl (zA rfl tn);refine zA rfl (zA rfl (zA rfl (zA rfl tn)));rw[hnx,if_pos (by rw[c1.2,c3.1.1,c3.2];rfl),← zaB,zaq];exact zaa _
   ·refine⟨(b+1,u),tes ?_ ?_ ?_,(by omega),(by omega)⟩;refine zA rfl (zA rfl tn);refine zA rfl (zA rfl (zA rfl (zA rfl tn)));rw[hnx,if_neg fun w=>c3 (by simp only[zam] at w;exact⟨⟨w.1.2,hne w.2⟩,w.2⟩)];exact zaa _
   ·refine⟨(a+1,u),tes ?_ ?_ ?_,(by omega),(by omega)⟩;refine zA rfl (zA rfl tn);refine zA rfl (zA rfl (zA rfl tn));have e:Pr a m.cs.length=Pr a b:=by
     by_cases w:b=m.cs.length
     ·rw[w]
     ·exact hff (by cases z:fs.getD a false with | false=>rfl | true=>exact absurd ⟨by omega,z⟩ c1)
    rw[hO,e];exact zaa _
 ·rw[show a=m.cs.length by omega];exact PSub.refl _
theorem law_JoinsTells {r:List PX}{ts:List TX3}{fs:List Bool}{a b:Int}:CTy prog 4 [sv (pcx r),sv (sl 18 (ts.map trx)),sv (sl 1 (fs.map bT)),exP (.int .i64 a),exP (.int .i64 b)] (exP (.bool true)):=by
 refine fw [.tmp 10] func4 fun X=>?_;repeat refine u ?_
 refine zB rfl rfl k26few ?_;repeat refine u ?_
 refine tp (fun c0=>?_) fun c0=>?_;repeat refine u ?_
 refine zB rfl rfl zW5 ?_;repeat refine u ?_
 exact e;have hf:vG r ts=true:=by simpa using c0
 have hP:=xD6 hf;have kp:=k26pieces hf;generalize piecesX r ts=ls at *;have kb:=zW6 hP;have kA:CTy prog 35 [ag (mdT 65 (modM ls)),sv (sl 1 (fs.map bT))] _:=yW3 hP (by omega);have kB:=k26all hP (fs:=fs);have kJ:CTy prog 38 [ag (mdT 65 (modM ls)),exP (.int .i64 a),exP (.int .i64 b)] _:=rI hP (by omega);have kK:CTy prog 39 [ag (mdT 65 (modM ls)),exP (.int .i64 a),exP (.int .i64 b)] _:=oS hP (by omega);have kN:CTy prog 40 [ag (mdT 65 (modM ls)),exP (.int .i64 a)] _:=xF1 hP (by omega);have kM:CTy prog 41 [ag (mdT 65 (modM ls)),exP (.int .i64 a)] _:=k26near hP (by omega);have hLb:(allJ ls fun n=>fs.getD n false).length≤500000:=Nat.le_trans (yY vL _) (Nat.le_trans (by unfold rawJ;rw[List.length_map];exact List.length_filter_le _ _) (rA hP));have hNb:(nearL ls a (celM ls).length).length≤3460000:=by
  have:=zcK (fun x:Nat=>decide (jnI ls a (x:Int))) (List.range (celM ls).length);rw[zbJ] at this;exact zab this (dO hP)
 generalize (allJ ls fun n=>fs.getD n false)=L at *;generalize nearL ls a (celM ls).length=N at *;generalize decide (jnI ls a b)=J at *;generalize modM ls=m at *;repeat refine u ?_
 refine zB rfl rfl kp ?_;refine zB rfl rfl kb ?_;refine u fun b11=>?_;refine zH 0 rfl rfl (zR (zU (s:=11) 0 rfl rfl) ?_);repeat refine u ?_
 refine zB rfl rfl kA ?_;iterate 4 refine u ?_
 refine zL 17 mixed rfl rfl ?_;repeat refine u ?_
 refine zC rfl rfl kB ?_;refine zC rfl rfl (k26same (by omega)) ?_;repeat refine u ?_
 refine d1g rfl rfl (oca rfl rfl fun g=>kJ) ?_;repeat refine u ?_
 refine d1g rfl rfl (omv rfl) (d1g rfl rfl (oca rfl rfl fun g=>kK) ?_);repeat refine u ?_
 refine tp (fun c1=>?_) fun c1=>?_;rotate_left;iterate 2 refine u ?_
 refine zL 8 mixed rfl rfl ?_;repeat refine u ?_
 refine zC rfl rfl kN ?_;repeat refine u ?_
 refine zC rfl rfl kM ?_;repeat refine u ?_
 refine tp (fun c2=>(by omega)) fun c2=>?_;repeat refine u ?_
 rotate_left
 ·exfalso;rcases c1 with c | c
  ·exact c rfl
  ·exact c (by simp)
 refine yR (σ:=Nat) (fun k=>[(15,True,zI k)]) (fun k=>[]) (fun k=>k≤N.length) (fun k=>N.length-k) (0) (tk 3 rfl (tk 4 rfl (tk 11 rfl (tk 12 rfl (tk 13 rfl (tk 14 rfl tn)))))) ?_ rfl ((by omega)) (fun k hJ Y _=>?_);refine zA rfl tn;repeat refine u ?_
 refine tp (fun c3=>?_) fun c3=>?_;iterate 4 refine u ?_
 refine zL 9 mixed rfl rfl ?_;repeat refine u ?_
 refine tp (fun c4=>(by omega)) fun c4=>?_;repeat refine u ?_
 rotate_left;iterate 4 refine u ?_
 refine tbs0 fun r72=>?_;refine u ?_;refine u fun r74=>?_;iterate 4 refine u ?_
 refine u fun r79=>?_;rotate_left
 ·refine⟨k+1,tes ?_ ?_ (zaa _),(by omega),(by omega)⟩;refine zA rfl tn;refine zA rfl (zA rfl (zA rfl (zA rfl (zA rfl (zA rfl tn)))))
 ·refine zA1 (oas rfl) ?_;have e:L.map jnT++[st [xc (.int .i64 a),xc (.int .i64 b)]]=(L.map (fun p:Nat×Nat=>((p.1:Int),(p.2:Int)))++[(a,b)]).map jzT:=by rw[zaq,List.map_map];rfl
  rw[e];have hjs:(L.map (fun p:Nat×Nat=>((p.1:Int),(p.2:Int)))++[(a,b)]).length≤100000000:=by rw[zak,zai];simp only[zas,zbb];omega
  generalize L.map (fun p:Nat×Nat=>((p.1:Int),(p.2:Int)))++[(a,b)]=js at *;refine zR (yK (s:=16) 0 rfl rfl) ?_;iterate 2 refine u ?_
  refine zL 11 mixed rfl rfl ?_;repeat refine u ?_
  refine zC rfl rfl (tV (by omega) hjs) ?_;repeat refine u ?_
  refine zC rfl rfl (k26lengths (by omega) hjs) ?_;refine zC rfl rfl (k22alike (by omega) (by omega)) ?_;repeat refine u ?_
  refine d1g rfl rfl (oca rfl rfl fun g=>zW5) ?_;repeat refine u ?_
  refine⟨[_],rst rfl rs0,yJ (psb (by(simp;done)))⟩
end Go.Proofs.YtalkinejknjidaaGreatDoor
