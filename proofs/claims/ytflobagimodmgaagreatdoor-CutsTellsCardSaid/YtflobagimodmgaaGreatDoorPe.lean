/- Lemmas and walks of functions; no statement. -/
import Derived.Test.YtflobagimodmgaaGreatDoorPd
set_option linter.unusedVariables false
set_option linter.unusedSimpArgs false
set_option maxRecDepth 100000
namespace Go.SL
open Go.RowKit
structure Yl (P:Program) {α:Type} (xs:List α) (τ:α→List PV) (l:Nat) (YS:List α→Cx→Prop) (YX:Cx→Prop):Prop where
 y:∀ {pre:List α} {x:α} {post:List α} {X:Cx} {Γ:TE} {S:List Ow} {E:Env} {w:World} {vs:List Value},xs=pre ++ x :: post→YS pre X→St X Γ S E w→Fa (τ x) (Mk S X.M) w vs →
  X.ms=[]∧YieldV P l vs w fun b w'=>∃ Y,St Y Γ S E w'∧Y.ms=[]∧((b=true∧YS (pre ++ [x]) Y) ∨ (b=false∧YX Y))
theorem wQ {n:Nat} {X:Cx} {Γ:TE} {S:List Ow} {E:Env} {w:World} (h:St X Γ S E w) (hn:n≤X.w.heap.size):Stp n X.z X.w (bks S) w :=
 ⟨h.bel.os,h.bel.tape,h.bel.output,h.bel.size,fun k cs t fz hk hc=>(h.bel.block k (Array.getElem?_eq_some_iff.1 hc).1 hk).trans hc,fun k hk hz=>h.bel.block k (by omega) hz,fun k ⟨o,ho,e⟩=>(h.new o ho k e).elim (fun c => .inr ⟨c,h.gd.ok k (.inl ⟨o,ho,e⟩)⟩) .inl⟩
theorem St.yielded {X:Cx} {Γ:TE} {S:List Ow} {E:Env} {n l m:Nat} {w w':World} {C':Nat→Prop} (h:St X Γ S E w) (d:Rnd n l X.M w C' w') (hm:m≤w'.heap.size):St ⟨C',w',bks S,m,[],none⟩ Γ S E w':=by
 have cl:Cl (Mk S X.M) w (Mk S C') w':=fun k cur t fz hk hw=>by
  have hlt:=(Array.getElem?_eq_some_iff.1 hw).1
  refine ⟨fun c=>?_,d.cells k _ _ _ (fun c=>hk (.inr c)) hw⟩
  rcases c with c | c
  ·exact hk (.inl c)
  ·exact (d.new k c).elim (fun c=>hk (.inr c)) fun c=>by omega
 refine ⟨⟨rfl,Tp.refl _,rfl,Nat.le_refl _,fun _ _ _=>rfl⟩,⟨fun k hk=>?_,h.gd.tab.cl cl,fun o ho=>?_⟩,fun o ho b hb => .inr ⟨o,ho,hb⟩,h.apt,d.ok,fun b hb c=>?_,⟨gK,hm,fun _ e=>by cases e⟩,h.tm.mono cl⟩
 ·rcases hk with c | c
  ·exact Nat.lt_of_lt_of_le (h.gd.ok k (.inl c)) d.size
  ·exact d.ok k c
 ·refine Ow.ok_mono (h.gd.own o ho) cl fun b hb hlt=>?_
  obtain ⟨cs,t,fz,e⟩:=kD (h.gd.own o ho) b hb
  exact (d.cells b cs t fz (h.notM ⟨o,ho,hb⟩) e).trans e.symm
 ·rcases d.new b c with c | c
  ·exact h.notM hb c
  ·have:=h.gd.ok b (.inl hb); omega
theorem citF {fin:Prop} {P:Program} {f:FuncId} {fn:Func} {c:Code} {N:Nat} {caps:List PV} {α:Type} {xs:List α} {τ:α→List PV} (hf:P.funcs[f]? = some fn) (hb:fn.body=some c) (hn:fn.ntmps=N) (hN:Nat.ble (caps.length + 1) N=true)
    (hnm:(fn.name == "runtime.NumGoroutine")=false) (hrs:fn.results.toList=[]) (h:∀ (X:Cx) (l:Nat) (YS:List α→Cx→Prop) (YX:Cx→Prop),Yl P xs τ l YS YX→(fin ∨ ∀ Z,¬ YS xs Z)→YS [] X →
      TW P none N X c (fun Z _ _=>YS xs Z ∨ YX Z) (fun _ _ _ _=>False) (fun Z _ _=>YS xs Z ∨ YX Z) (par 0 (exP (.func (.yield l) #[] #[]) :: caps)) []):CItF fin P f caps xs τ:=by
  refine ⟨⟨fn,hf,by rw [hb]; rfl,hnm⟩,fun M w0 cap hM hT hc n l w J Xx h0 h1 hd hfi hJ hJd hXd hdis hy=>?_⟩
  have hmk:Mk [] M=M:=by funext k; simp [Mk]
  have hsz:w0.heap.size≤w.heap.size:=hd.size
  let X0:Cx:=⟨M,w,fun _=>False,w.heap.size,[],none⟩
  have hbk:bks []=fun _=>False:=by funext k; simp [bks]
  have hs:St X0 (par 0 (exP (.func (.yield l) #[] #[]) :: caps)) [] (env0 0 (.func (.yield l) #[] #[] :: cap)) w :=
    ⟨⟨rfl,Tp.refl _,rfl,Nat.le_refl _,fun _ _ _=>rfl⟩,⟨by rw [hmk]; exact fun k hk=>Nat.lt_of_lt_of_le (hM k hk) hsz,by rw [hmk]; exact hT.cl (aK hd),by simp⟩,by simp,trivial,fun k hk=>Nat.lt_of_lt_of_le (hM k hk) hsz,fun _ h=>h.elim,⟨gK,Nat.le_refl _,fun _ e=>by cases e⟩,by
      rw [hmk]; exact rO ⟨_,_,rfl,rfl,hc.mono (aK hd)⟩⟩
  let YS:List α→Cx→Prop:=fun pre X=>J X.M X.z pre X.w∧n≤X.w.heap.size∧w.heap.size≤X.w.heap.size∧X.ms=[]∧X.lp=none
  let YX:Cx→Prop:=fun X=>Xx X.z X.w∧n≤X.w.heap.size∧X.ms=[]∧X.lp=none
  have hYl:Yl P xs τ l YS YX:=⟨fun {pre x post X Γ S E w1 vs} hx ⟨k1,k2,k2',k3,k4⟩ st hv=>⟨k3,by
    have hst:=wQ st k2
    have hJ1:=hJd _ _ _ _ _ _ k1 k2 hst
    have hsw:X.w.heap.size≤w1.heap.size:=st.bel.size
    have hv2:Fa (τ x) (fun k=>X.M k ∨ bks S k) w1 vs:=hv.mono (Cl.less fun k hk=>hk.symm)
    refine (hy _ _ pre x vs post w1 hx hJ1 hv2 (Nat.le_trans k2 hsw)).mono ?_
    rintro b w' ⟨g1,C',g2,g3⟩
    have hs2:w.heap.size≤w'.heap.size:=Nat.le_trans (Nat.le_trans k2' hsw) g2.size
    refine ⟨⟨C',w',bks S,w.heap.size,[],none⟩,st.yielded g2 hs2,rfl,?_⟩
    rcases g3 with ⟨e,g3⟩ | ⟨e,g3⟩
    · exact .inl ⟨e,g3,g1,hs2,rfl,rfl⟩
    · exact .inr ⟨e,g3,g1,rfl,rfl⟩⟩⟩
  have h1:=h X0 l YS YX hYl (hfi.imp id fun h Z k=>h _ _ _ k.1) ⟨hJ,h1,Nat.le_refl _,rfl,rfl⟩ [] _ w hs
  have hl:(.func (.yield l) #[] #[] :: cap:List Value).length=caps.length + 1:=by simp [hc.len]
  refine jL hf hb hn (by rw [hl]; exact hN) ?_
  have hfin:∀ D E w',lf (fun Z _ _=>YS xs Z ∨ YX Z) [] D E w'→Fin P fn.results.toList (fun v w'=>(∃ C I,J C I xs w') ∨ ∃ I,Xx I w') D E w':=by
    rintro _ E w' ⟨X,Γ,S,rfl,hk,h4⟩
    rw [hrs]
    rcases hk with ⟨k1,k2,_,k3,k4⟩ | ⟨k1,k2,k3,k4⟩
    · rw [k3]; exact xF ⟨[],trivial,.inl ⟨_,_,hJd _ _ _ _ _ _ k1 k2 (wQ h4 k2)⟩⟩
    · rw [k3]; exact xF ⟨[],trivial,.inr ⟨_,hXd _ _ _ _ k1 k2 (wQ h4 k2)⟩⟩
  intro a ha hd
  refine wpIn_mono (h1 a ha hd) fun e a' w' hq=>?_
  cases e with
  | normal=>obtain ⟨E',h1,h2⟩:=hq; exact ⟨E',h1,hfin _ _ _ h2⟩
  | exit id=>obtain ⟨E',h1,_,_,_,_,h2,_⟩:=hq; exact h2.elim
  | ret=>obtain ⟨E',h1,h2⟩:=hq; exact ⟨E',h1,hfin _ _ _ h2⟩
  | goto l=>exact hq
  | panic c=>exact hq
  | outgrown=>exact hq
theorem cit {P:Program} {f:FuncId} {fn:Func} {c:Code} {N:Nat} {caps:List PV} {α:Type} {xs:List α} {τ:α→List PV} (hf:P.funcs[f]? = some fn) (hb:fn.body=some c) (hn:fn.ntmps=N) (hN:Nat.ble (caps.length + 1) N=true)
    (hnm:(fn.name == "runtime.NumGoroutine")=false) (hrs:fn.results.toList=[]) (h:∀ (X:Cx) (l:Nat) (YS:List α→Cx→Prop) (YX:Cx→Prop),Yl P xs τ l YS YX→YS [] X →
      TW P none N X c (fun Z _ _=>YS xs Z ∨ YX Z) (fun _ _ _ _=>False) (fun Z _ _=>YS xs Z ∨ YX Z) (par 0 (exP (.func (.yield l) #[] #[]) :: caps)) []):CIt P f caps xs τ :=
  citF hf hb hn hN hnm hrs fun X l YS YX a _ b=>h X l YS YX a b
section
variable {P : Program} {r : Option Nat} {N : Nat} {X : Cx} {Kn Kr : TK} {Ke : Nat → TK} {Γ : TE} {S : List Ow} {ops : Array Oper} {K : TK}
theorem t_loopY {σ:Type} {body:Code} (Γi:σ→TE) (Si:σ→List Ow) (G:σ→Cx→Prop) (μ:σ→Nat) (s0:σ) (h0:Ts X Γ S (Γi s0) (Si s0)) (hJ:G s0 X)
  (round:∀ s Y,G s Y→TW P r N Y body (fun Z Γ' S'=>∃ s',Ts Z Γ' S' (Γi s') (Si s')∧G s' Z∧μ s' < μ s) Ke Kr (Γi s) (Si s)):TW P r N X (.loop body) Kn Ke Kr Γ S:=fun D E w hs=>by
 refine sO (fun s D' E' w'=>∃ Y,D'=Y.ms ++ D∧G s Y∧St Y (Γi s) (Si s) E' w') μ s0 ⟨X,rfl,hJ,h0 E w hs⟩ fun s D' E' w' ⟨Y,hD,h1,h2⟩=>?_
 subst hD
 exact mY (round s Y h1 D E' w' h2) fun D2 E2 w2 ⟨Z,Γ2,S2,e,⟨s',k1,k2,k3⟩,k4⟩=>⟨s',⟨Z,e,k2,k1 _ _ k4⟩,k3⟩
theorem zQ4 {t:Nat}:∀ {xs:List Operand} {q:Prop} {l:List PV},tvs Γ xs=some (q,l) → .tmp t ∈ xs→t ∈ Γ.map (·.1)
 | [],_,_,_,h=>by simp at h
 | y :: ys,q,l,hy,hm=>by
  unfold tvs at hy
  cases h3:tv Γ y with
  | none=>rw [h3] at hy; cases hy
  | some a =>
   cases h4:tvs Γ ys with
   | none=>rw [h3,h4] at hy; cases hy
   | some b =>
    rcases List.mem_cons.1 hm with rfl | hm
    ·exact nF h3
    ·exact zQ4 h4 hm
theorem mE {α:Type} {xs:List α} {τ:α→List PV} {y:Nat} {YS:List α→Cx→Prop} {YX:Cx→Prop} {pre post:List α} {x:α} {d:Nat} {fo:Operand} {azz:List Operand} {ts:Array TypeId} {t':TypeId} {pos:String} {af:Array Edge} {l:List Oper} {q q':Prop} {τs:List PV} (hY:Yl P xs τ y YS YX) (hS:YS pre X) (hx:xs=pre ++ x :: post)
  (hf:tv Γ fo=some (q,exP (.func (.yield y) #[] #[]))) (ha:tvs Γ azz=some (q',τs)) [Tr q] [hq':Tr q'] (hτ:∀ M w vs,Fa τs M w vs→Fa (τ x) M w vs)
  (h1:∀ Y,YS (pre ++ [x]) Y→TO P r N ops Y K l ((d,True,exP (.bool true)) :: Γ) S) (h2:∀ Y,YX Y→TO P r N ops Y K l ((d,True,exP (.bool false)) :: Γ) S) :
  TO P r N ops X K (⟨some d,.call ⟨.value fo,azz.toArray,ts⟩,t',pos,af,none⟩ :: l) Γ S:=fun hN D E w hs=>by
 unfold okN at hN
 simp only [List.all_cons,Bool.and_eq_true] at hN
 obtain ⟨u,e1,h3⟩:=bR hs hf
 obtain rfl:u=_:=h3
 obtain ⟨vs,e2,h4⟩:=cI (hs.tm.tm (Γ.map (·.1))) ha hq'.h fun x hxm t e=>by subst e; exact zQ4 ha hxm
 obtain ⟨hms,hy⟩:=hY.y hx hS hs (hτ _ _ _ h4)
 refine kR hN.1 e1 e2 (hy.mono ?_)
 rintro b w' ⟨Y,k1,k2,⟨rfl,k3⟩ | ⟨rfl,k3⟩⟩
 ·have:=h1 Y k3 hN.2 D _ w' (k1.put (xJ _) (fun _=>rfl) (fun c=>absurd trivial c))
  rw [k2] at this; rw [hms]; exact this
 ·have:=h2 Y k3 hN.2 D _ w' (k1.put (xJ _) (fun _=>rfl) (fun c=>absurd trivial c))
  rw [k2] at this; rw [hms]; exact this
end
section
variable {P : Program} {r : Option Nat} {N : Nat} {X : Cx} {K : TK} {Γ : TE} {S : List Ow} {ops : Array Oper} {q qx qy : Prop} {x y : Operand} {t t' : TypeId} {pos : String} {af : Array Edge} {l : List Oper}
theorem tsw {b o k:Nat} {ty e:TypeId} {v:Value} {cs A B B1 B2 cr:List CT} {a:Bool} {sz:Nat} (i j:Nat) (hi:S[i]? = some (.blk b ty cs)) (hj:S[j]? = some (.row v e k cr)) (hx:tv Γ x=some (qx,exP (.pointer (some ⟨b,o,none⟩)))) (hy:tv Γ y=some (qy,exP v)) [Tr qx] [Tr qy] [ht:TLd P t a sz]
  (hs:Nat.beq 1 sz=true) (hA:cutT cs o=some (A,B)) (hB:cutT B 1=some (B1,B2)) (h:TO P r N ops X K l Γ (S.set i (.blk b ty (A ++ xc v :: B2)))) :
  TO P r N ops X K (⟨none,.store t x y,t',pos,af,none⟩ :: l) Γ S:=fun hN D E w hst=>by
 have hv:v.oneCell'=true:=by
  obtain ⟨us,⟨_,h1⟩,_⟩:=hst.gd.own _ (List.mem_of_getElem? hj)
  rcases h1 with ⟨rfl,_⟩ | ⟨g,cap,cur,rfl,_⟩ <;> rfl
 have hc:CtOf (exP v) (xc v):=⟨fun h=>⟨[v],by rw [show _=v from h]; exact cD hv,rfl,hv⟩⟩
 exact tst i hi hx hy (hc:=hc) hs hA hB h hN D E w hst
end
theorem zY5:∀ M w vs,Fa [] M w vs→(tu []).p M w (xG vs):=fun M w vs h=>by rw [show vs=[] from h]; exact ⟨[],rfl,rfl⟩
section
variable {Γ Γ' A B : TE} {S S' : List Ow} {X : Cx}
theorem tk (s:Nat) {q:Prop} {Ψ:PV} (h:tf Γ s=some (q,Ψ)) [Tr q] (k:Tsub Γ Γ'):Tsub Γ ((s,True,Ψ) :: Γ'):=tc h (PSub.refl _) k
theorem sS (h:Tsub Γ A) (k:Tsub Γ B):Tsub Γ (A ++ B):=fun s q hs=>by
 rw [cJ] at hs
 cases ha:tf A s with
 | some a=>rw [ha] at hs; exact h s q (by rw [ha]; exact hs)
 | none=>rw [ha] at hs; exact k s q hs
theorem te (h:Tsub Γ A) (k:Tsub Γ B) (e:S=S'):Ts X Γ S (A ++ B) S':=lV (sS h k) e
theorem tes (h:Tsub Γ A) (k:Tsub Γ B) (e:S'.Sublist S):Ts X Γ S (A ++ B) S':=fun E w hs=>lV (sS h k) rfl E w (hs.sub e)
variable {P : Program} {r : Option Nat} {N : Nat} {Kn Kr : TK} {Ke : Nat → TK}
theorem xL {σ:Type} {body:Code} (A:σ→TE) (Si:σ→List Ow) (J:σ→Prop) (μ:σ→Nat) (s0:σ) (hk:Tsub Γ B) (h0:Tsub Γ (A s0)) (hS:S=Si s0) (hJ:J s0)
  (round:∀ s,J s→∀ Y,(∀ {Z:Cx} [Eqx Z X],Eqx Z Y)→TW P r N Y body (fun Z Γ' S'=>Exj X Z fun s'=>Ts Z Γ' S' (A s' ++ B) (Si s')∧J s'∧μ s' < μ s) Ke Kr (A s ++ B) (Si s)):TW P r N X (.loop body) Kn Ke Kr Γ S :=
 zR0 (fun s=>A s ++ B) Si J μ s0 (te h0 hk hS) hJ round
theorem zI3 {c:Operand} {x y:Code} {q:Prop} {Ψ:PV} {b:Bool} (hx:tv Γ c=some (q,Ψ)) [Tr q] [hb:VB Ψ b] (e:b=true) (ht:TW P r N X x Kn Ke Kr Γ S):TW P r N X (.cond c x y) Kn Ke Kr Γ S:=t_if hx (fun _=>ht) fun h=>absurd h.h (by simp [e])
theorem sV {c:Operand} {x y:Code} {q:Prop} {Ψ:PV} {b:Bool} (hx:tv Γ c=some (q,Ψ)) [Tr q] [hb:VB Ψ b] (e:b=false) (ht:TW P r N X y Kn Ke Kr Γ S):TW P r N X (.cond c x y) Kn Ke Kr Γ S:=t_if hx (fun h=>absurd h.h (by simp [e])) fun _=>ht
theorem dX {σ:Type} {body:Code} (A:σ→TE) (Si:σ→List Ow) (G:σ→Cx→Prop) (μ:σ→Nat) (s0:σ) (hk:Tsub Γ B) (h0:Tsub Γ (A s0)) (hS:S=Si s0) (hG:G s0 X)
  (round:∀ s Y,G s Y→TW P r N Y body (fun Z Γ' S'=>∃ s',Ts Z Γ' S' (A s' ++ B) (Si s')∧G s' Z∧μ s' < μ s) Ke Kr (A s ++ B) (Si s)):TW P r N X (.loop body) Kn Ke Kr Γ S :=
 t_loopY (fun s=>A s ++ B) Si G μ s0 (te h0 hk hS) hG round
end
end Go.SL
namespace Go.SL
open Go.RowKit Go.Shelf Go.Proofs Go.Sort
theorem bod_enter {P:Program} {g:Nat} (h:Bod P g) (args:Array Value) (w:World):(callFunc g args).run P w = .ok (.enter g args) w:=by
  obtain ⟨fn,h1,h2,h3⟩:=h
  have h2':fn.body ≠ none:=fun c=>by rw [c] at h2; cases h2
  have h3':fn.name ≠ "runtime.NumGoroutine":=fun c=>by rw [c] at h3; simp at h3
  simp [callFunc,h1,h2',h3']
theorem zW6 {α:Type} [Inhabited α] {P:Program} {ρ:Ren} {f:α→CT} {k g fs:Nat} {ty:TypeId} {cf:α→α→Int} {v:Value} {l:List α} (L:SlLaysF0.n6 P ρ) (hfs:ρ.f 6=fs) (aE:∀ w,(isAgg (ρ.t 24)).run P w = .ok true w) (zE:∀ w,(Go.sizeOf (ρ.t 24)).run P w = .ok k w) (hsz:∀ a,(f a).sz=k) (hO:SWO (ltOf cf)) (hb:Bod P fs)
    (hc:∀ x y,CTy P g [ag (f x),ag (f y)] (exP (.int .i64 (cf x y)))) (hl:l.length≤1000000) :
    CTo P fs [exP v,exP (.func (.func g) #[] #[])] [.row v ty k (l.map f)] (fun r So=>r=tu []∧∃ l':List α,l'.Perm l∧(∀ i j,i < j→j < l'.length→¬ cf l'[j]! l'[i]! < 0)∧So=[.row v ty k (l'.map f)]):=by
  subst hfs
  refine ⟨hb,fun M w vs hG hA hZ hM hv=>?_⟩
  obtain ⟨v',_,rfl,hv1,_,_,rfl,rfl,rfl⟩:=hv
  obtain rfl:v=v':=(show v'=v from hv1).symm
  have hS:Ow.row v ty k (l.map f) ∈ [Ow.row v ty k (l.map f)]:=by simp
  obtain ⟨us,g1,g2,g3⟩:=hG.own _ hS
  rw [List.length_map] at g1
  by_cases h0:0 < l.length
  · obtain ⟨b,cap,cur,rfl,hw,hnc,hcm,hcs,htk⟩:=lF g1 h0
    have hul:us.length=l.length * k:=g1.1
    have hm:Mk [Ow.row (.slice (some ⟨b,0,none⟩) l.length cap) ty k (l.map f)] M b:=.inl ⟨_,hS,rfl⟩
    have hbk:∀ i,bks [Ow.row (.slice (some ⟨b,0,none⟩) l.length cap) ty k (l.map f)] i ↔ i=b:=fun i=>by simp [bks,Ow.bk,Value.ownBlock]; exact eq_comm
    have hE:EB (fun M w (a:α) us=>(f a).p M w us) k (Mk [Ow.row (.slice (some ⟨b,0,none⟩) l.length cap) ty k (l.map f)] M) w cur.toList l:=by
      refine ⟨by have : cur.toList.length = cap * k := by simpa using hcs
                 rw [this]; exact Nat.mul_le_mul_right k hnc,fun i a ha=>?_⟩
      have hi:=(List.getElem?_eq_some_iff.1 ha).1
      have h4:=dZ g2 (i:=i) (c:=f a) (by rw [List.getElem?_map,ha]; rfl)
      rw [bE g3 (by rw [List.length_map]; omega),hsz] at h4
      refine ⟨_,((f a).len h4).trans (hsz a),fun q u hq=>?_,h4⟩
      rw [List.getElem?_take] at hq
      split at hq
      · rw [List.getElem?_drop,← htk,List.getElem?_take] at hq
        split at hq
        · exact hq
        · cases hq
      · cases hq
    have hs:=sort_row (g:=g) (k:=k) (b:=b) (cap:=cap) (te:=ty) (Fz:=fun i=>i ≠ b) (M:=Mk [Ow.row (.slice (some ⟨b,0,none⟩) l.length cap) ty k (l.map f)] M) (w:=w) (cur:=cur.toList) (l:=l) (cf:=cf) L aE zE (bod_enter (hc default default).bod) hO
      (fun a us h=>(f a).one h) hm (fun c=>c rfl) (fun W hle a us h=>(f a).mono h hle.cl)
      (fun W hle x y us vs h1 h2=>(hc x y).run _ W [.agg us.toArray,.agg vs.toArray] (fun i hi=>Nat.lt_of_lt_of_le (hG.ok i hi) hle.size) (hG.tab.cl hle.cl) ⟨_,_,rfl,⟨us,rfl,h1⟩,_,_,rfl,⟨vs,rfl,h2⟩,rfl⟩)
      (show Blk w b ty cur.toList by unfold Blk; simpa using hw) hE h0 (by omega)
    refine hs.mono ?_
    rintro e w' ⟨rfl,cur',l',hp,hso,hcl,B',hE',hle⟩
    have hll:=hp.length_eq
    have hmk:Mk [Ow.row (.slice (some ⟨b,0,none⟩) l.length cap) ty k (l'.map f)] M=Mk [Ow.row (.slice (some ⟨b,0,none⟩) l.length cap) ty k (l.map f)] M:=by
      funext i; simp [Mk,Ow.bk]
    refine ⟨_,rfl,⟨hle.os,hle.tape,hle.output,hle.size,fun i hi hz=>hle.frz i hi fun c=>hz ((hbk i).2 c)⟩,tu [],_,⟨rfl,l',hp,hso,rfl⟩,⟨by rw [hmk]; exact fun i hi=>Nat.lt_of_lt_of_le (hG.ok i hi) hle.size,by rw [hmk]; exact hG.tab.cl hle.cl,fun o ho=>?_⟩,⟨fun _ _ p hp=>by simp at hp,trivial⟩,fun i hi => .inr (by
      obtain ⟨o,ho,e⟩:=hi
      obtain rfl:=List.mem_singleton.1 ho
      exact ⟨_,hS,e⟩),⟨[],rfl,rfl⟩⟩
    obtain rfl:=List.mem_singleton.1 ho
    rw [hmk]
    have hcl2:cur'.length=cap * k:=by rw [hcl]; simpa using hcs
    refine ⟨cur'.take (l'.length * k),?_,vZ (k:=k) (R:=fun M w (a:α) us=>(f a).p M w us) (fun a us _ h=>h) (by rw [List.length_take,hcl2]; have:=Nat.mul_le_mul_right k (show l'.length≤cap by omega); omega) (fun i a ha=>?_),fun c hc=>by obtain ⟨a,_,rfl⟩:=List.mem_map.1 hc; exact hsz a⟩
    · rw [List.length_map,hll]
      refine ⟨by rw [List.length_take,hcl2]; have:=Nat.mul_le_mul_right k hnc; omega,.inr ⟨b,cap,cur'.toArray,rfl,Nat.zero_le _,by have:=B'; unfold Blk at this; simpa using this,hnc,hcm,by simpa using hcl2,by simp⟩⟩
    · obtain ⟨vs,k1,k2,k3⟩:=hE'.at_ i a ha
      refine ⟨vs,k1,fun q u hq=>?_,k3⟩
      have hq':q < k:=k1 ▸ (List.getElem?_eq_some_iff.1 hq).1
      have:=mul_in (k:=k) (List.getElem?_eq_some_iff.1 ha).1
      rw [List.getElem?_take,if_pos (by omega)]
      exact k2 q u hq
  · have hl0:l=[]:=List.length_eq_zero_iff.1 (by omega)
    subst hl0
    obtain ⟨ad,cap,rfl⟩:∃ ad cap,v = .slice ad 0 cap:=by
      obtain ⟨_,⟨rfl,_⟩ | ⟨g,cap,cur,rfl,_⟩⟩:=g1
      · exact ⟨_,_,rfl⟩
      · exact ⟨_,_,rfl⟩
    refine (AnyF.slices_SortFunc_none L ad cap _ w).mono ?_
    rintro e w' ⟨rfl,rfl⟩
    exact ⟨_,rfl,⟨rfl,Tp.refl _,rfl,Nat.le_refl _,fun _ _ _=>rfl⟩,tu [],_,⟨rfl,[],.refl _,fun i j _ h=>by simp at h,rfl⟩,hG,hA,fun i hi => .inr hi,⟨[],rfl,rfl⟩⟩
end Go.SL
namespace Go.SL
open Go.RowKit
def sP (v:Value) (k j:Nat):PV:=⟨fun _ _ u=>∃ g n c,v = .slice (some ⟨g,0,none⟩) n c∧u = .slice (some ⟨g,j * k,none⟩) (n - j) (c - j),fun h _=>h⟩
def anyC (k:Nat):CT:=⟨k,fun _ _ cs=>cs.length=k∧∀ u ∈ cs,u.oneCell'=true,fun h=>h.1,fun h=>h.2,fun h _=>h⟩
theorem zJ5 {k:Nat} {M:Nat→Prop} {w:World}:∀ {m:Nat} {us:List Value},us.length=m * k→(∀ u ∈ us,u.oneCell'=true)→stp (List.replicate m (anyC k)) M w us
 | 0,us,h,_=>by have:us=[]:=List.length_eq_zero_iff.1 (by simpa using h); exact this
 | m + 1,us,h,h1=>by
  rw [Nat.succ_mul] at h
  exact ⟨us.take k,us.drop k,(List.take_append_drop k us).symm,⟨by rw [List.length_take]; omega,fun u hu=>h1 u (List.mem_of_mem_take hu)⟩,zJ5 (by rw [List.length_drop]; omega) fun u hu=>h1 u (List.mem_of_mem_drop hu)⟩
section
variable {P : Program} {r : Option Nat} {N : Nat} {X : Cx} {K : TK} {Γ : TE} {S : List Ow} {ops : Array Oper} {M : Nat → Prop} {p q qx qy qi : Prop} {Ψ Ψx Ψy Ψi : PV} {d : Nat} {x y ix lo : Operand} {t t' : TypeId} {pos : String} {af : Array Edge} {l : List Oper}
variable {v : Value} {ty e : TypeId} {k bytes : Nat} {cs : List CT} {c : CT}
theorem osv {ki:IntKind} {a:Int} (i j:Nat) (hi:S[i]? = some (.row v ty k cs)) (hx:tv Γ x=some (qx,exP v)) (hy:tv Γ lo=some (qy,Ψy)) [Im p qx] [Im p qy] [ht:TSl P t e k bytes] [hki:VI Ψy ki a] (hij:p→a=(j:Int)) (hj:p→j < cs.length) :
  Ob P r N ops M S p ⟨some d,.slice t x (some lo) none none,t',pos,af,none⟩ Γ (sP v k j):=fun D E w d' hd hN hg hp hT=>by
 obtain rfl:=Option.some.inj hd
 obtain ⟨u,e1,h1⟩:=qG hT hx hp (by simp [Op.operands])
 obtain rfl:u=v:=h1
 obtain ⟨u2,e2,h2⟩:=qG hT hy hp (by simp [Op.operands])
 rw [hki.h h2,hij hp] at e2
 obtain ⟨us,g1,g2,g3⟩:=hg.own _ (List.mem_of_getElem? hi)
 have hjl:=hj hp
 obtain ⟨g,cap,cur,rfl,_,hnc,_⟩:=lF g1 (by omega)
 obtain ⟨z,hz,_⟩:=ht.s
 exact ops_slicelo j hN ht.u hz e1 e2 hjl hnc (fin ⟨g,_,_,rfl,rfl⟩)
theorem olv {j:Nat} (i:Nat) (hx:tv Γ x=some (qx,sP v k j)) [Im p qx] (hi:S[i]? = some (.row v ty k cs)) [ht:TSl P t e k bytes]:Ob P r N ops M S p ⟨some d,.call ⟨.builtin .len,#[x],#[t]⟩,t',pos,af,none⟩ Γ (exP (.int .i64 ((cs.length - j:Nat):Int))) :=
 ob1 hx (by simp [Op.operands,Call.operands]) fun D E w u hN hg e1 ⟨g,n,c,h1,h2⟩=>by
  subst h1; subst h2
  obtain ⟨us,g1,_⟩:=hg.own _ (List.mem_of_getElem? hi)
  have hn:n=cs.length:=by
   obtain ⟨_,⟨h,_⟩ | ⟨_,_,_,h,_⟩⟩:=g1
   ·cases h
   ·injection h with _ h
  rw [hn] at e1
  exact iG hN ht.u e1 (fin rfl)
theorem oixv {j0:Nat} {ki:IntKind} {a:Int} (i j:Nat) (hi:S[i]? = some (.row v ty k cs)) (hx:tv Γ x=some (qx,sP v k j0)) (hix:tv Γ ix=some (qi,Ψi)) [Im p qx] [Im p qi] [ht:TSl P t e k bytes] [hki:VI Ψi ki a] (hij:p→a=(j:Int)) (hj:p→j0 + j < cs.length) :
  Ob P r N ops M S p ⟨some d,.indexAddr t x ix,t',pos,af,none⟩ Γ (eP v k (j0 + j)):=fun D E w d' hd hN hg hp hT=>by
 obtain rfl:=Option.some.inj hd
 obtain ⟨u,e1,g,n,cp,rfl,rfl⟩:=qG hT hx hp (by simp [Op.operands])
 obtain ⟨u2,e2,h2⟩:=qG hT hix hp (by simp [Op.operands])
 rw [hki.h h2] at e2
 obtain ⟨us,g1,g2,g3⟩:=hg.own _ (List.mem_of_getElem? hi)
 have hjl:=hj hp
 have hn:n=cs.length:=by
  obtain ⟨_,⟨h,_⟩ | ⟨_,_,_,h,_⟩⟩:=g1
  ·cases h
  ·injection h with _ h
 obtain ⟨z,hz,_⟩:=ht.s
 refine xD hN (by intro c hc; cases hc) (fun ac ha=>?_) (fin ⟨g,_,_,rfl,rfl⟩)
 have e3:(Instr.indexAt t (.slice (some ⟨g,j0 * k,none⟩) (n - j0) (cp - j0)) (.int ki a)).run P w = .ok (.pointer (some ⟨g,(j0 + j) * k,none⟩)) w:=by
  rw [hij hp]
  simp [Instr.indexAt,asIntOf,run_underlying ht.u,Result.andThen,qF hz,show j < n - j0 by omega,gN,Nat.add_mul]
 simp only [execOp,ha.ev e1,ha.ev e2,Sem.run_bind,e3,Result.andThen]; rfl
theorem tclr {j:Nat} {z:Value} (i:Nat) (hS:S[i]? = some (.row v e k cs)) (hx:tv Γ x=some (qx,sP v k j)) [Tr qx] [ht:TSl P t e k bytes] [tz:TZ P e z] (hj:j < cs.length)
  (h:TO P r N ops X K l Γ (S.set i (.row v e k (cs.take j ++ List.replicate (cs.length - j) (anyC k))))):TO P r N ops X K (⟨none,.call ⟨.builtin .clear,#[x],#[t]⟩,t',pos,af,none⟩ :: l) Γ S:=fun hN D E w hs=>by
 unfold okN at hN
 simp only [List.all_cons,Bool.and_eq_true] at hN
 obtain ⟨u,e1,g,n,cp,rfl,rfl⟩:=bR hs hx
 obtain ⟨us,g1,g2,g3⟩:=hs.gd.own _ (List.mem_of_getElem? hS)
 obtain ⟨g',cap,cur,e2,hb,hnc,hcm,hcs,htk⟩:=lF g1 (by omega)
 injection e2 with e2 e3 e4
 injection e2 with e2
 injection e2 with e2
 subst e2; subst e3; subst e4
 obtain ⟨z',hz',hzc⟩:=ht.s
 obtain ⟨sz2,by2,hz2⟩:=tz.s
 obtain rfl:z'=z:=by
  obtain ⟨i1,a1,a2,a3,a4⟩:=hz'
  obtain ⟨i2,b1,b2,b3,b4⟩:=hz2
  rw [a1] at b1; cases b1
  rw [a4] at b4; injection b4
 have hB:Blk w g e cur.toList:=by unfold Blk; simpa using hb
 have hcl:cur.toList.length=cp * k:=by simpa using hcs
 have hck:cs.length * k≤cp * k:=Nat.mul_le_mul_right k hnc
 have hjk:j * k≤cs.length * k:=Nat.mul_le_mul_right k (Nat.le_of_lt hj)
 have hsub:(cs.length - j) * k=cs.length * k - j * k:=Nat.sub_mul _ _ _
 refine ops_clear2 ht.u hz' hzc (fun u hu=>List.all_eq_true.1 tz.o u hu) e1 hB (by omega) (by have:=Nat.ne_of_beq_eq_false ht.n; omega) (by omega) fun w' cur' hch hB' hl' hlo hone=>?_
 have hw:Gro w w' (Value.ownBlock (.slice (some ⟨g,0,none⟩) cs.length cp)):=⟨⟨hch.os,hch.tape.eq,hch.output,by rw [hch.size]; exact Nat.le_refl _,fun b hb hne=>hch.other b fun e=>hne (by rw [e]; rfl)⟩,hch.tape.le⟩
 have hln:(cs.take j ++ List.replicate (cs.length - j) (anyC k)).length=cs.length:=by simp; omega
 have e5:cur'.take (j * k)=us.take (j * k):=by
  rw [← htk,List.take_take,Nat.min_eq_left hjk]
  apply List.ext_getElem?
  intro q
  rw [List.getElem?_take,List.getElem?_take]
  split
  ·exact hlo q (by assumption)
  ·rfl
 have h6:=hs.setr (v':=.slice (some ⟨g,0,none⟩) cs.length cp) (l':=cs.take j ++ List.replicate (cs.length - j) (anyC k)) (us:=us.take (j * k) ++ (cur'.take (cs.length * k)).drop (j * k)) hS hw
  ⟨by rw [hln,List.length_append,List.length_take,List.length_drop,List.length_take,g1.1]; omega,.inr ⟨g,cp,cur'.toArray,by rw [hln],Nat.zero_le _,by have:=hB'; unfold Blk at this; simpa using this,by rw [hln]; exact hnc,hcm,by simp; omega,by
   rw [hln,← e5]
   have:cur'.take (j * k)=(cur'.take (cs.length * k)).take (j * k):=by rw [List.take_take,Nat.min_eq_left hjk]
   rw [this,List.take_append_drop]⟩⟩ (.inl rfl)
  (dB (mI g3 g2 (Nat.le_of_lt hj)).1 (zJ5 (by rw [List.length_drop,List.length_take]; omega) fun u hu=>by
   obtain ⟨q,hq⟩:=List.mem_iff_getElem?.1 hu
   rw [List.getElem?_drop,List.getElem?_take] at hq
   split at hq
   ·exact hone (j * k + q) u (by omega) (by omega) hq
   ·cases hq))
  (fun c hc=>(List.mem_append.1 hc).elim (fun hc=>g3 c (List.mem_of_mem_take hc)) fun hc=>by rw [List.eq_of_mem_replicate hc]; rfl) (fun b hb=>by rw [← Option.some.inj hb,hch.size]; exact hB.lt)
 exact h hN.2 D _ w' h6
end
def qV {α:Type} (e:α→α→Bool) (d:α) (l:List α):Nat→List α
 | 0=>[]
 | m + 1=>qV e d l m ++ if 0 < m∧e (l.getD m d) (l.getD (m - 1) d)=true then [] else [l.getD m d]
section
variable {α : Type} {e : α → α → Bool} {d : α} {l l2 : List α} {s k m : Nat}
theorem aZ:∀ {s:Nat},s≤l.length→(∀ i,0 < i→i < s→e (l.getD i d) (l.getD (i - 1) d)=false)→qV e d l s=l.take s
 | 0,_,_=>by simp [qV]
 | s + 1,hs,h=>by
  rw [qV,aZ (by omega) fun i h1 h2=>h i h1 (by omega),(yZ d (show s < l.length by omega)).1,if_neg]
  rintro ⟨h1,h2⟩
  rw [h s h1 (by omega)] at h2; cases h2
theorem oG (h0:0 < s) (hs:s < l.length) (h:∀ i,0 < i→i < s→e (l.getD i d) (l.getD (i - 1) d)=false) (hc:e (l.getD s d) (l.getD (s - 1) d)=true):l.take s=qV e d l (s + 1):=by
 rw [qV,if_pos ⟨h0,hc⟩,aZ (by omega) h,List.append_nil]
theorem oF (h0:0 < m) (ht:l2.take k=qV e d l m) (hc:e (l.getD m d) (l.getD (m - 1) d)=true):l2.take k=qV e d l (m + 1):=by
 rw [qV,if_pos ⟨h0,hc⟩,List.append_nil,ht]
theorem pM (hk:k < l2.length) (ht:l2.take k=qV e d l m) (hc:¬ e (l.getD m d) (l.getD (m - 1) d)=true):(l2.set k (l.getD m d)).take (k + 1)=qV e d l (m + 1):=by
 rw [qV,if_neg (fun c=>hc c.2),← ht,List.take_add_one,List.getElem?_set_self hk,List.take_set_of_le (Nat.le_refl _)]; rfl
theorem iN {i:Nat} {p:α} (h:k ≠ i):(l.set k p).getD i d=l.getD i d:=by
 rw [List.getD_eq_getElem?_getD,List.getD_eq_getElem?_getD,List.getElem?_set_ne h]
end
class VU (Ψ:PV) (k:outParam IntKind) (a:outParam Nat):Prop where h:∀ {M w v},Ψ.p M w v→v = .int k (a:Int)
instance {k:IntKind} {a:Nat}:VU (exP (.int k (a:Int))) k a:=⟨id⟩
instance {k:IntKind}:VU (exP (.int k 0)) k 0:=⟨id⟩
instance {k:IntKind}:VU (exP (.int k 1)) k 1:=⟨id⟩
instance {k:IntKind}:VU (exP (.int k 2)) k 2:=⟨id⟩
instance {k:IntKind}:VU (exP (.int k 3)) k 3:=⟨id⟩
instance {k:IntKind}:VU (exP (.int k 4)) k 4:=⟨id⟩
instance {k:IntKind}:VU (exP (.int k 5)) k 5:=⟨id⟩
instance {k:IntKind}:VU (exP (.int k 6)) k 6:=⟨id⟩
instance {k:IntKind}:VU (exP (.int k 7)) k 7:=⟨id⟩
instance {k:IntKind}:VU (exP (.int k 8)) k 8:=⟨id⟩
instance {k:IntKind}:VU (exP (.int k 10)) k 10:=⟨id⟩
instance {k:IntKind}:VU (exP (.int k 15)) k 15:=⟨id⟩
instance {k:IntKind}:VU (exP (.int k 16)) k 16:=⟨id⟩
instance {k:IntKind}:VU (exP (.int k 31)) k 31:=⟨id⟩
instance {k:IntKind}:VU (exP (.int k 32)) k 32:=⟨id⟩
instance {k:IntKind}:VU (exP (.int k 33)) k 33:=⟨id⟩
instance {k:IntKind}:VU (exP (.int k 58)) k 58:=⟨id⟩
instance {k:IntKind}:VU (exP (.int k 63)) k 63:=⟨id⟩
instance {k:IntKind}:VU (exP (.int k 64)) k 64:=⟨id⟩
instance {k:IntKind}:VU (exP (.int k 127)) k 127:=⟨id⟩
instance {k:IntKind}:VU (exP (.int k 255)) k 255:=⟨id⟩
instance {k:IntKind}:VU (exP (.int k 4294967295)) k 4294967295:=⟨id⟩
class UK (k:IntKind):Prop where h:k = .u64 ∨ k = .u32
instance:UK .u64:=⟨.inl rfl⟩
instance:UK .u32:=⟨.inr rfl⟩
section
variable {P : Program} {r : Option Nat} {N : Nat} {ops : Array Oper} {M : Nat → Prop} {S : List Ow} {p qx qy : Prop} {Γ : TE} {Ψx Ψy : PV} {d : Nat} {x y : Operand} {tx ty t' : TypeId} {pos : String} {af : Array Edge} {k k' : IntKind} {a b : Nat}
theorem oquw (hx:tv Γ x=some (qx,Ψx)) (hy:tv Γ y=some (qy,Ψy)) [Im p qx] [Im p qy] [ha:VU Ψx k a] [hb:VU Ψy k b] [hk:UK k] (hs:0 < b∧a < pG k):Ob P r N ops M S p ⟨some d,.binOp .quo tx x y ty,t',pos,af,none⟩ Γ (exP (.int k ((a / b:Nat):Int))) :=
 ob2 hx hy (by simp [Op.operands]) (by simp [Op.operands]) fun D E w u v hN _ e1 e2 h1 h2=>by
  rw [ha.h h1] at e1; rw [hb.h h2] at e2
  rcases hk.h with rfl | rfl
  ·exact nU hN e1 e2 hs.1 hs.2 (fin rfl)
  ·exact ops_quo32 hN e1 e2 hs.1 hs.2 (fin rfl)
theorem ormw (hx:tv Γ x=some (qx,Ψx)) (hy:tv Γ y=some (qy,Ψy)) [Im p qx] [Im p qy] [ha:VU Ψx k a] [hb:VU Ψy k b] (hs:0 < b):Ob P r N ops M S p ⟨some d,.binOp .rem tx x y ty,t',pos,af,none⟩ Γ (exP (.int k ((a % b:Nat):Int))) :=
 ob2 hx hy (by simp [Op.operands]) (by simp [Op.operands]) fun D E w u v hN _ e1 e2 h1 h2=>by
  rw [ha.h h1] at e1; rw [hb.h h2] at e2
  exact eW hN (.inr rfl) e1 e2 (by omega) (by rw [Int.tmod_eq_emod_of_nonneg (by omega)]; rfl) (fin rfl)
end
end Go.SL
namespace Go.Proofs.YtflobagimodmgaaGreatDoor
open Go.SL Go.RowKit Go.Proofs Tryz
theorem fa1 {τ:PV} {M:Nat→Prop} {w:World} {vs:List Value} (h:Fa [τ] M w vs):∃ v,vs=[v]∧τ.p M w v:=by
 obtain ⟨v,us,e,h1,h2⟩:=h; exact ⟨v,by rw [e,show us=[] from h2],h1⟩
theorem fa2 {τ σ:PV} {M:Nat→Prop} {w:World} {vs:List Value} (h:Fa [τ,σ] M w vs):∃ v u,vs=[v,u]∧τ.p M w v∧σ.p M w u:=by
 obtain ⟨v,us,e,h1,h2⟩:=h; obtain ⟨u,e2,h3⟩:=fa1 h2; exact ⟨v,u,by rw [e,e2],h1,h3⟩
theorem zR4 {M:Nat→Prop} {w:World} {n:Nat} {q:Rat} {s:Bool} {a d:Value} (h:RC M w n q s a d):(ag (rtc n q)).p M w (.agg #[.bool s,a,d]):=⟨_,rfl,_,_,_,rfl,h⟩
def Fsub (τs σs:List PV):Prop:=∀ M w vs,Fa τs M w vs→Fa σs M w vs
theorem fs0:Fsub [] []:=fun _ _ _ h=>h
theorem fs1 {τ σ:PV} {τs σs:List PV} (h:PSub τ σ) (k:Fsub τs σs):Fsub (τ :: τs) (σ :: σs):=fun M w vs ⟨v,us,e,h1,h2⟩=>⟨v,us,e,h _ _ _ h1,k _ _ _ h2⟩
theorem gF {P:Program} {f:FuncId} {τs σs:List PV} {ρ:PV} (h:CTy P f σs ρ) (hs:Fsub τs σs):CTy P f τs ρ:=⟨h.bod,fun M w vs hM hT hv=>h.run M w vs hM hT (hs _ _ _ hv)⟩
instance dfR:Df Rat:=⟨0⟩
instance dfP:Df P2:=⟨(0,0)⟩
abbrev ptq (n:Nat) (x:P2):CT:=st [rtq n x.1,rtq n x.2]
theorem qr_q {Ψ:PV} {n:Nat} {q:Rat} [h:QR Ψ n q]:PSub Ψ (ag (rtq n q)):=fun M w v k=>by
 obtain ⟨s,a,d,rfl,g⟩:=h.h k
 exact ⟨_,rfl,s,a,d,rfl,g⟩
theorem zS4 {M:Nat→Prop} {w:World} {n:Nat} {q:P2} {s:Bool} {a d:Value} {t:Bool} {b e:Value} (h:PQ M w n q s a d t b e):(ptq n q).p M w [.bool s,a,d,.bool t,b,e]:=⟨[.bool s,a,d],[.bool t,b,e],rfl,⟨s,a,d,rfl,h.x⟩,[.bool t,b,e],[],rfl,⟨t,b,e,rfl,h.y⟩,rfl⟩
theorem qp_q {Ψ:PV} {n:Nat} {q:P2} [h:QP Ψ n q]:PSub Ψ (ag (ptq n q)):=fun M w v k=>by
 obtain ⟨s,a,d,t,b,e,rfl,g⟩:=h.h k
 exact ⟨_,rfl,zS4 g⟩
theorem vpt_q {Ψ:PV} {n:Nat} {l:List P2} [h:VPt Ψ n l]:PSub Ψ (sv (sl 6 (l.map (ptq n)))):=fun M w v k=>by
 refine cT (R:=RP n) (fun _=>rfl) (fun a us _ ⟨s,x,d,t,b,e,e0,g⟩=>by rw [e0]; exact zS4 g) (h.h k).row
theorem vq_q {Ψ:PV} {n:Nat} {l:List Rat} [h:VQ Ψ n l]:PSub Ψ (sv (sl 3 (l.map (rtq n)))):=fun M w v k=>by
 refine cT (R:=RQ n) (fun _=>rfl) (fun a us _ ⟨s,x,d,e0,g⟩=>⟨s,x,d,e0,g⟩) (h.h k).row
abbrev ptc (n:Nat) (x:P2):CT:=st [rtc n x.1,rtc n x.2]
instance vpt_p {n:Nat} {l:List P2}:VPt (sv (sl 6 (l.map (ptq n)))) n l:=⟨fun k=>⟨rG (fun _=>rfl) (fun a us h=>by
 obtain ⟨s,b,d,t,c,e,e0,g⟩:=CP.h (c:=ptq n a) h
 exact ⟨s,b,d,t,c,e,e0,by rw [Nat.max_self] at g; exact g⟩) k⟩⟩
end Go.Proofs.YtflobagimodmgaaGreatDoor
set_option maxHeartbeats 4000000
namespace Go.Proofs.YtflobagimodmgaaGreatDoor
open Go.SL Go.RowKit Go.Proofs Tryz
section
variable {M M' : Nat → Prop} {w w' : World} {n m k : Nat} {z : Int} {s : Bool} {a : Value}
theorem ZQ.cl (h:ZQ M w n z s a) (l:Cl M w M' w'):ZQ M' w' n z s a:=by obtain ⟨xs,h1,h2⟩:=h.ex; exact ⟨xs,h1.cl l,h2⟩
theorem ZC.cl (h:ZC M w n z s a) (l:Cl M w M' w'):ZC M' w' n z s a:=⟨h.sgn,h.num.cl l,h.len⟩
theorem NQ.cl (h:NQ M w n k a) (l:Cl M w M' w'):NQ M' w' n k a:=by obtain ⟨xs,h1,h2⟩:=h.ex; exact ⟨xs,h1.cl l,h2⟩
end
def ztq (n:Nat) (z:Int):CT where
 sz:=2
 p M w cs:=∃ s a,cs=[.bool s,a]∧ZQ M w n z s a
 len h:=by obtain ⟨_,_,rfl,_⟩:=h; rfl
 one h:=by obtain ⟨_,_,rfl,h⟩:=h; exact allc rfl (allc h.one.1 alln)
 mono h k:=by obtain ⟨s,a,rfl,h⟩:=h; exact ⟨s,a,rfl,h.cl k⟩
def ztc (n:Nat) (z:Int):CT where
 sz:=2
 p M w cs:=∃ s a,cs=[.bool s,a]∧ZC M w n z s a
 len h:=by obtain ⟨_,_,rfl,_⟩:=h; rfl
 one h:=by obtain ⟨_,_,rfl,h⟩:=h; exact allc rfl (allc h.gen.one.1 alln)
 mono h k:=by obtain ⟨s,a,rfl,h⟩:=h; exact ⟨s,a,rfl,h.cl k⟩
def ntq (n k:Nat):CT where
 sz:=1
 p M w cs:=∃ a,cs=[a]∧NQ M w n k a
 len h:=by obtain ⟨_,rfl,_⟩:=h; rfl
 one h:=by obtain ⟨_,rfl,h⟩:=h; exact allc h.one.1 alln
 mono h k:=by obtain ⟨a,rfl,h⟩:=h; exact ⟨a,rfl,h.cl k⟩
def ntc (n k:Nat):CT where
 sz:=1
 p M w cs:=∃ a,cs=[a]∧NQ M w n k a∧IsNat M w a (limbs k)
 len h:=by obtain ⟨_,rfl,_⟩:=h; rfl
 one h:=by obtain ⟨_,rfl,h,_⟩:=h; exact allc h.one.1 alln
 mono h k:=by obtain ⟨a,rfl,h,g⟩:=h; exact ⟨a,rfl,h.cl k,g.cl k⟩
theorem dQ {M:Nat→Prop} {w:World} {n k:Nat} {a:Value} (h:IsNat M w a (limbs k)) (hl:(limbs k).length≤n):NQ M w n k a:=⟨_,h,hl,zP k⟩
instance {n:Nat} {q:Rat}:FA (rtc n q) 0 (ztc n q.num):=⟨fun ⟨s,a,d,e,h⟩=>⟨s,a,by rw [e]; rfl,h.sgn,h.num,h.len.1⟩⟩
instance {n:Nat} {q:Rat}:FA (rtc n q) 2 (ntc n q.den):=⟨fun ⟨s,a,d,e,h⟩=>⟨d,by rw [e]; rfl,dQ h.den h.len.2,h.den⟩⟩
instance {n:Nat} {z:Int}:FA (ztc n z) 0 (xc (.bool (decide (z < 0)))):=⟨fun ⟨s,a,e,h⟩=>by rw [e,h.sgn]; exact ⟨rfl,rfl⟩⟩
instance {n:Nat} {z:Int}:FA (ztc n z) 1 (ntc n z.natAbs):=⟨fun ⟨s,a,e,h⟩=>⟨a,by rw [e]; rfl,dQ h.num h.len,h.num⟩⟩
class CZ (c:CT) (n:outParam Nat) (z:outParam Int):Prop where
 h:∀ {M w us},c.p M w us→∃ s a,us=[.bool s,a]∧ZQ M w n z s a
instance {n:Nat} {z:Int}:CZ (ztq n z) n z:=⟨id⟩
instance {n:Nat} {z:Int}:CZ (ztc n z) n z:=⟨fun ⟨s,a,e,h⟩=>⟨s,a,e,h.gen⟩⟩
class CN (c:CT) (n:outParam Nat) (k:outParam Nat):Prop where
 h:∀ {M w us},c.p M w us→∃ a,us=[a]∧NQ M w n k a
instance {n k:Nat}:CN (ntq n k) n k:=⟨id⟩
instance {n k:Nat}:CN (ntc n k) n k:=⟨fun ⟨a,e,h,_⟩=>⟨a,e,h⟩⟩
instance {b:Bool} {c:CT} {n k:Nat} [h:CN c n k]:CZ (st [xc (.bool b),c]) n (if b then -((k:Nat):Int) else ((k:Nat):Int)):=⟨fun ⟨x,y,e,k1,z,o,e2,k2,e3⟩=>by
 obtain ⟨a,rfl,g⟩:=h.h k2
 obtain rfl:x=[.bool b]:=k1.1
 obtain rfl:o=[]:=e3
 obtain ⟨xs,g1,g2,g3⟩:=g.ex
 exact ⟨b,a,by rw [e,e2]; rfl,xs,g1,g2,by unfold zv; rw [g3]⟩⟩
class VZ (Ψ:PV) (n:outParam Nat) (z:outParam Int):Prop where
 h:∀ {M w v},Ψ.p M w v→∃ s a,v = .agg #[.bool s,a]∧ZQ M w n z s a
instance {c:CT} {n:Nat} {z:Int} [h:CZ c n z]:VZ (ag c) n z:=⟨fun ⟨us,e,k⟩=>by obtain ⟨s,a,rfl,g⟩:=h.h k; exact ⟨s,a,e,g⟩⟩
class VN (Ψ:PV) (n:outParam Nat) (k:outParam Nat):Prop where
 h:∀ {M w v},Ψ.p M w v→NQ M w n k v
instance {c:CT} {n k:Nat} [h:CN c n k]:VN (sv c) n k:=⟨fun k=>by obtain ⟨a,e,g⟩:=h.h k; rw [List.singleton_inj.1 e]; exact g⟩
class VZL (Ψ:PV) (n:outParam Nat) (l:outParam (List Int)):Prop where
 h:∀ {M w v},Ψ.p M w v→ZL M w n l v
instance {c d:CT} {n m:Nat} {y z:Int} [h1:CZ c n y] [h2:CZ d m z]:VZL (sv (sl 2 [c,d])) (max n m) [y,z]:=⟨fun k=>⟨by
 obtain ⟨v,us,e,k1,k2,k3⟩:=id k
 refine sZ (cs:=[c,d]) rfl k3 (fun i a ha=>?_) k
 cases i with
 | zero=>obtain rfl:=Option.some.inj ha; exact ⟨c,rfl,fun us hu=>let ⟨s,a,e,g⟩:=h1.h hu; ⟨s,a,e,g.up (by omega)⟩⟩
 | succ i=>cases i with
  | zero=>obtain rfl:=Option.some.inj ha; exact ⟨d,rfl,fun us hu=>let ⟨s,a,e,g⟩:=h2.h hu; ⟨s,a,e,g.up (by omega)⟩⟩
  | succ i=>simp at ha⟩⟩
theorem iW {M:Nat→Prop} {w:World} {n:Nat} {z:Int} {s:Bool} {a:Value} (h:ZC M w n z s a):(ag (ztc n z)).p M w (.agg #[.bool s,a]):=⟨_,rfl,_,_,rfl,h⟩
theorem yN {Ψ ρ:PV} (h:PSub Ψ ρ):∀ M w vs,Fa [Ψ] M w vs→ρ.p M w (xG vs):=fun M w vs ⟨v,us,e,h1,h2⟩=>by
 subst e; rw [show us=[] from h2]; exact h _ _ _ h1
theorem uW {Ψ Φ ρ σ:PV} (h:PSub Ψ ρ) (k:PSub Φ σ):∀ M w vs,Fa [Ψ,Φ] M w vs→(tu [ρ,σ]).p M w (xG vs):=fun M w vs ⟨v,us,e,h1,u,us2,e2,h2,e3⟩=>by
 subst e; subst e2; rw [show us2=[] from e3]; exact ⟨[v,u],rfl,v,_,rfl,h _ _ _ h1,u,_,rfl,k _ _ _ h2,rfl⟩
theorem gC {X:Cx} {Γ:TE} {S:List Ow} {b s:Nat} {ty:TypeId} {c:CT} {q:Prop} (i:Nat) (hi:S[i]? = some (.blk b ty [c])) (hs:tf Γ s=some (q,exP (.pointer (some ⟨b,0,none⟩)))):Ts X Γ S ((s,q,pa c) :: Γ) (S.eraseIdx i):=fun E w h=>by
 have hm:Ow.blk b ty [c] ∈ S:=List.mem_of_getElem? hi
 obtain ⟨us,k3,a,o,k4,k5,k6⟩:=h.gd.own _ hm
 have h2:=h.sub (List.eraseIdx_sublist S i)
 have hn:¬ Mk (S.eraseIdx i) X.M b:=fun k=>by
  rcases k with ⟨p,hp,e⟩ | k
  ·obtain ⟨j,hj,hp⟩:=lH hp
   exact lP h.apt hi hp (fun k=>hj k.symm) rfl e
  ·rcases h.new _ hm b rfl with h4 | h4
   ·have:=h.ok0 b k; omega
   ·exact h.zm b h4 k
 obtain rfl:o=[]:=k6
 rw [List.append_nil] at k4; subst k4
 refine ⟨h2.bel,h2.gd,h2.new,h2.apt,h2.ok0,h2.zm,h2.mko,fun t q' ht=>?_⟩
 unfold tf at ht
 cases hb:Nat.beq s t with
 | true =>
  rw [hb] at ht
  obtain rfl:=Nat.eq_of_beq_eq_true hb
  obtain rfl:=Option.some.inj ht
  have h3:=h.tm s _ hs
  exact ⟨fun k=>let ⟨u,h4,h5⟩:=h3.1 k; ⟨u,h4,b,0,us,h5,hn,⟨us.toArray,ty,(0,0),k3,fun j v hj=>by simpa using hj⟩,c.mono k5 (Cl.less (eK (List.eraseIdx_sublist S i)))⟩,h3.2⟩
 | false=>rw [hb] at ht; exact h2.tm t q' ht
theorem ofo {P:Program} {r:Option Nat} {N:Nat} {ops:Array Oper} {M:Nat→Prop} {S:List Ow} {p qx:Prop} {Γ:TE} {d b o:Nat} {x:Operand} {t t':TypeId} {pos:String} {af:Array Edge} {a:Bool} {f off sz:Nat} (hx:tv Γ x=some (qx,exP (.pointer (some ⟨b,o,none⟩)))) [Im p qx] [ht:TFd P t f a off sz] :
  Ob P r N ops M S p ⟨some d,.fieldAddr t x f,t',pos,af,none⟩ Γ (exP (.pointer (some ⟨b,o + off,none⟩))) :=
 ob1 hx (by simp [Op.operands]) fun D E w u hN hg e1 h1=>by
  obtain rfl:u=_:=h1
  obtain ⟨fields,fd,bytes,z,k1,k2,k3,k4,k5,_⟩:=ht.h
  exact kZ off hN k1 k2 k3 k4 k5 e1 (fin rfl)
theorem oldf {P:Program} {r:Option Nat} {N:Nat} {ops:Array Oper} {M:Nat→Prop} {S:List Ow} {p qx:Prop} {Γ:TE} {Ψ:PV} {d b o:Nat} {x:Operand} {t ty t':TypeId} {pos:String} {af:Array Edge} {a:Bool} {sz:Nat} {c c':CT} (i o':Nat) (hx:tv Γ x=some (qx,exP (.pointer (some ⟨b,o,none⟩)))) (ho:o=o') [Im p qx] (hi:S[i]? = some (.blk b ty [c])) [ht:TLd P t a sz] [ha:FA c o' c'] (hs:Nat.beq c'.sz sz=true) [hl:LdA a c' Ψ]:Ob P r N ops M S p ⟨some d,.load t x,t',pos,af,none⟩ Γ Ψ :=
 ob1 hx (by simp [Op.operands]) fun D E w u hN hg e1 h1=>by
  obtain rfl:u=_:=h1
  subst ho
  obtain ⟨vs,k3,x1,o1,k4,k6,k7⟩:=hg.own _ (List.mem_of_getElem? hi)
  obtain rfl:o1=[]:=k7
  rw [List.append_nil] at k4; subst k4
  have h3:=ha.h k6
  have h4:=hl.h h3
  have h7:=c'.len h3
  have h6:=Nat.eq_of_beq_eq_true hs
  have h2:∀ (j:Nat) (u:Value),((vs.drop o).take c'.sz)[j]? = some u→w.cell? ⟨b,o + j,none⟩=some u:=fun j u hj=>by
   rw [k3.cell]
   rw [List.getElem?_take] at hj
   split at hj
   ·simpa using hj
   ·cases hj
  have h5:=ht.h
  cases a with
  | true =>
   obtain ⟨bytes,z,k2⟩:=ht.s
   exact kS hN h5 k2 e1 h2 (h7.trans h6) (fin h4)
  | false =>
   obtain ⟨k1,rfl⟩:=h5
   rw [h6] at h7 h2 h4
   obtain ⟨v,hv⟩:=List.length_eq_one_iff.1 h7
   rw [hv] at h2 h4
   exact yX hN k1 e1 (by have:=h2 0 v rfl; simpa using this) (fin (h4 v rfl))
theorem ts_ow {X:Cx} {Γ:TE} {S:List Ow} {o o':Ow} (i:Nat) (hi:S[i]? = some o) (hb:o'.bk=o.bk) (ho:∀ M w,o.ok M w→o'.ok M w):Ts X Γ S Γ (S.set i o'):=fun E w h=>by
 have hm:∀ q ∈ S.set i o',q ∈ S ∨ q=o':=fun q hq=>List.mem_or_eq_of_mem_set hq
 have hiS:o ∈ S:=List.mem_of_getElem? hi
 have hmk:Mk (S.set i o') X.M=Mk S X.M:=funext fun c=>propext ⟨fun h=>h.imp (fun ⟨q,hq,e⟩=>by
  rcases hm q hq with hq | rfl
  ·exact ⟨q,hq,e⟩
  ·exact ⟨_,hiS,hb ▸ e⟩) id,fun h=>h.imp (fun ⟨q,hq,e⟩=>by
  obtain ⟨m,hm⟩:=List.mem_iff_getElem?.1 hq
  by_cases c:i=m
  ·subst c
   obtain rfl:=Option.some.inj (hm.symm.trans hi)
   exact ⟨o',List.mem_of_getElem? (List.getElem?_set_self (List.getElem?_eq_some_iff.1 hi).1),hb.trans e⟩
  ·exact ⟨q,List.mem_of_getElem? (by rw [List.getElem?_set_ne c]; exact hm),e⟩) id⟩
 refine ⟨h.bel,⟨by rw [hmk]; exact h.gd.ok,by rw [hmk]; exact h.gd.tab,fun q hq=>?_⟩,fun q hq b' e=>?_,iU h.apt hi (fun b' e => .inl (hb ▸ e)),h.ok0,h.zm,h.mko,by rw [hmk]; exact h.tm⟩
 ·rw [hmk]
  rcases hm q hq with hq | rfl
  ·exact h.gd.own q hq
  ·exact ho _ _ (h.gd.own _ hiS)
 ·rcases hm q hq with hq | rfl
  ·exact h.new q hq b' e
  ·exact h.new _ hiS b' (hb ▸ e)
theorem nE {X:Cx} {Γ:TE} {S:List Ow} {b:Nat} {ty:TypeId} {cs cs':List CT} (i:Nat) (hi:S[i]? = some (.blk b ty cs)) (hc:∀ {M w us},stp cs M w us→stp cs' M w us):Ts X Γ S Γ (S.set i (.blk b ty cs')):=ts_ow i hi rfl fun M w ⟨us,h1,h2⟩=>⟨us,h1,hc h2⟩
abbrev xw (x:Nat):CT:=xc (.int .u32 (x:Int))
def ntx (xs:List Nat):CT where
 sz:=1
 p M w cs:=∃ v,cs=[v]∧IsNat M w v xs
 len h:=by obtain ⟨_,rfl,_⟩:=h; rfl
 one h u hu:=by obtain ⟨v,rfl,h⟩:=h; rw [List.mem_singleton.1 hu]; exact yQ h
 mono h k:=by obtain ⟨v,rfl,h⟩:=h; exact ⟨v,rfl,h.cl k⟩
def itx (a:Bool × List Nat):CT:=st [xc (.bool a.1),ntx a.2]
instance:Df Nat:=⟨0⟩
instance:Df Int:=⟨0⟩
theorem vX {M:Nat→Prop} {w:World}:∀ {xs:List Nat},stp (xs.map xw) M w (xs.map lw)
 | []=>rfl
 | x :: xs=>⟨[lw x],xs.map lw,rfl,⟨rfl,rfl⟩,vX⟩
instance {xs:List Nat}:VS (sv (ntx xs)) 1 (xs.map xw):=⟨fun ⟨v,e,h⟩=>⟨v,xs.map lw,e,by rw [List.length_map]; exact h.slc,vX,fun c hc=>by obtain ⟨a,_,rfl⟩:=List.mem_map.1 hc; rfl⟩⟩
instance {a:Bool × List Nat}:FA (itx a) 0 (xc (.bool a.1)):=⟨fun h=>aU (l:=[xc (.bool a.1),ntx a.2]) (o:=0) h rfl⟩
instance {a:Bool × List Nat}:FA (itx a) 1 (ntx a.2):=⟨fun h=>aU (l:=[xc (.bool a.1),ntx a.2]) (o:=1) h rfl⟩
instance {xs:List Nat}:CN (ntx xs) xs.length (val xs):=⟨fun ⟨a,e,h⟩=>⟨a,e,xs,h,Nat.le_refl _,rfl⟩⟩
theorem sD {M:Nat→Prop} {w:World} {n:Nat} {z:Int} {s:Bool} {a:Value} (h:ZQ M w n z s a):∃ b:Bool × List Nat,(∀ x ∈ b.2,x < 4294967296)∧b.2.length≤n∧zv b.1 b.2=z∧(ag (itx b)).p M w (.agg #[.bool s,a]):=by
 obtain ⟨xs,h1,h2,h3⟩:=h.ex
 exact ⟨(s,xs),h1.lt,h2,h3,[.bool s,a],rfl,[.bool s],[a],rfl,⟨rfl,rfl⟩,[a],[],rfl,⟨a,rfl,h1⟩,rfl⟩
theorem ctz1 {P:Program} {f:FuncId} {ρ Ψ:PV} {n:Nat} {z:Int} [h:VZ Ψ n z] (hb:Bod P f) (k:∀ a:Bool × List Nat,(∀ x ∈ a.2,x < 4294967296)→a.2.length≤n→zv a.1 a.2=z→CTy P f [ag (itx a)] ρ):CTy P f [Ψ] ρ:=⟨hb,fun M w vs hM hT hv=>by
 obtain ⟨v,rfl,h1⟩:=fa1 hv
 obtain ⟨s,a,rfl,g⟩:=h.h h1
 obtain ⟨b,b0,b1,b2,b3⟩:=sD g
 exact (k b b0 b1 b2).run M w _ hM hT ⟨_,_,rfl,b3,rfl⟩⟩
theorem ctz2 {P:Program} {f:FuncId} {ρ Ψ Φ:PV} {n m:Nat} {y z:Int} [h:VZ Ψ n y] [h':VZ Φ m z] (hb:Bod P f) (k:∀ a b:Bool × List Nat,(∀ x ∈ a.2,x < 4294967296)→a.2.length≤n→zv a.1 a.2=y→(∀ x ∈ b.2,x < 4294967296)→b.2.length≤m→zv b.1 b.2=z→CTy P f [ag (itx a),ag (itx b)] ρ):CTy P f [Ψ,Φ] ρ:=⟨hb,fun M w vs hM hT hv=>by
 obtain ⟨v,u,rfl,h1,h2⟩:=fa2 hv
 obtain ⟨s,a,rfl,g⟩:=h.h h1
 obtain ⟨t,b,rfl,g'⟩:=h'.h h2
 obtain ⟨b1,b0,b2,b3,b4⟩:=sD g
 obtain ⟨c1,c0,c2,c3,c4⟩:=sD g'
 exact (k b1 c1 b0 b2 b3 c0 c2 c3).run M w _ hM hT ⟨_,_,rfl,b4,_,_,rfl,c4,rfl⟩⟩
theorem ps_z {N k:Nat} {z:Int} {s:Bool} (h1:s=decide (z < 0)) (h2:k=z.natAbs) (h3:(limbs k).length≤N):PSub (ag (st [xc (.bool s),ntx (limbs k)])) (ag (ztc N z)):=fun M w v ⟨us,e,x,y,e1,k1,u,o,e2,⟨a,k2,k3⟩,e3⟩=>by
 subst h2
 obtain ⟨rfl,_⟩:=k1
 obtain rfl:o=[]:=e3
 subst k2
 exact ⟨us,e,s,a,by rw [e1,e2]; rfl,h1,k3,h3⟩
class VX (Ψ:PV) (xs:outParam (List Nat)):Prop where
 h:∀ {M w v},Ψ.p M w v→IsNat M w v xs
instance {xs:List Nat}:VX (sv (ntx xs)) xs:=⟨fun ⟨a,e,h⟩=>by rw [List.singleton_inj.1 e]; exact h⟩
instance {n k:Nat}:VX (sv (ntc n k)) (limbs k):=⟨fun ⟨a,e,_,h⟩=>by rw [List.singleton_inj.1 e]; exact h⟩
section
variable {xs ys : List Nat}
theorem sC (hl:xs.length≤1099511627776):CTy prog 76 [sv (ntx xs)] (sv (ntx (limbs (val xs)))) :=
 ⟨(bo func76),fun M w vs hM hT hv=>by
  obtain ⟨v,rfl,a,e,h1⟩:=fa1 hv
  obtain rfl:=List.singleton_inj.1 e
  exact (qC h1 hl hM).mono fun r w' ⟨hB,g⟩=>⟨hB,r,rfl,g.nat hM⟩⟩
theorem zU8 (h1:xs.length≤1000000000) (h2:ys.length≤1000000000):CTy prog 228 [sv (ntx xs),sv (ntx ys)] (tu [sv (ntx (limbs (val xs - val ys))),exP (.int .i64 (if val xs < val ys then 10 else 0))]) :=
 ⟨(bo func228),fun M w vs hM hT hv=>by
  obtain ⟨v,u,rfl,⟨a,e,k1⟩,⟨b,e2,k2⟩⟩:=fa2 hv
  obtain rfl:=List.singleton_inj.1 e
  obtain rfl:=List.singleton_inj.1 e2
  refine (zR8 k1 k2 h1 h2 hM).mono fun r w' ⟨hB,g⟩=>⟨hB,?_⟩
  rcases g with ⟨g1,rfl⟩ | ⟨g1,q,rfl,g2⟩
  ·rw [if_pos g1,show val xs - val ys=0 by omega,yW]
   exact ⟨_,rfl,_,_,rfl,⟨_,rfl,kA⟩,_,_,rfl,rfl,rfl⟩
  ·rw [if_neg (by omega)]
   exact ⟨_,rfl,_,_,rfl,⟨_,rfl,g2.nat hM⟩,_,_,rfl,rfl,rfl⟩⟩
theorem zU9 {Ψ Φ:PV} [h:VX Ψ xs] [k:VX Φ ys]:CTy prog 173 [Ψ,Φ] (exP (.bool (decide (xs=ys)))) :=
 ⟨(bo func173),fun M w vs hM hT hv=>by
  obtain ⟨v,u,rfl,k1,k2⟩:=fa2 hv
  exact same_c (h.h k1) (k.h k2) hM⟩
theorem k2mulx {Ψ Φ:PV} [h:VX Ψ xs] [k:VX Φ ys] (h1:xs.length≤1000000000) (h2:ys.length≤1000000000):CTy prog 114 [Ψ,Φ] (sv (ntx (limbs (val xs * val ys)))) :=
 ⟨(bo func114),fun M w vs hM hT hv=>by
  obtain ⟨v,u,rfl,k1,k2⟩:=fa2 hv
  exact (wF (h.h k1) (k.h k2) (by omega) (by omega) hM).mono fun r w' ⟨hB,g⟩=>⟨hB,r,rfl,g.nat hM⟩⟩
theorem yA2 {xss:List (List Nat)} (hl:∀ xs ∈ xss,xs.length≤1000000) (hn:xss.length≤1000000):CTy prog 224 [sv (sl 1 (xss.map ntx))] (sv (ntx (limbs ((xss.map val).sum)))) :=
 ⟨(bo func224),fun M w vs hM hT hv=>by
  obtain ⟨v,rfl,h1⟩:=fa1 hv
  obtain ⟨cs,k1,k2⟩:=rG (f:=ntx) (k:=1) (R:=fun M w (a:List Nat) us=>∃ u,us=[u]∧IsNat M w u a) (fun _=>rfl) (fun a us h=>h) h1
  refine (zS2 ⟨cs,k1,fun i xs hi=>?_⟩ hl hn hM).mono fun r w' ⟨hB,g⟩=>⟨hB,r,rfl,g.nat hM⟩
  obtain ⟨us,g1,g2,u,rfl,g3⟩:=k2 i xs hi
  exact ⟨u,by have:=g2 0 u rfl; simpa using this,g3⟩⟩
end
theorem xV {xs:List Nat} (h:∀ x ∈ xs,x < 4294967296):(limbs (val xs)).length≤xs.length:=yJ (jF _ h)
instance {n k:Nat}:VS (sv (ntc n k)) 1 ((limbs k).map xw):=⟨fun ⟨v,e,_,h⟩=>⟨v,_,e,by rw [List.length_map]; exact h.slc,vX,fun c hc=>by obtain ⟨a,_,rfl⟩:=List.mem_map.1 hc; rfl⟩⟩
theorem k5normx {a:Bool × List Nat} {N:Nat} {z:Int} (hx:∀ x ∈ a.2,x < 4294967296) (hl:a.2.length≤100000000) (hN:a.2.length≤N) (hz:zv a.1 a.2=z):CTy prog 135 [ag (itx a)] (ag (ztc N z)):=by
 refine ctc func135 rfl rfl rfl rfl fun X=>(zH (zJ rfl (zA1 (obx rfl) (tal fun b2=>(zA0 (zH (zJ rfl (zA1 (ofa rfl rfl) (zA1 (old rfl rfl) ?_)))))))))
 refine zA1 (oca rfl rfl fun _=>sC (by omega)) (zA1 (oas rfl) (zA0 (zH (zJ rfl (zA1 (ofa rfl rfl) (zA1 (old rfl rfl) (zA1 (omv rfl) (t1g rfl rfl (omv rfl) (t1g rfl rfl (oln rfl) ?_)))))))))
 refine t1g rfl rfl (ogt rfl rfl) (zA1 (opk rfl rfl rfl) (zA1 (omv rfl) ?_))
 refine zA1 (obd rfl rfl rfl) (tst 0 rfl rfl rfl rfl rfl rfl (zA0 (zZ (⟨[_],rsc 0 rfl rfl rfl rfl rs0,yN ?_⟩))))
 rotate_left 1
 exact (ps_z (by
  have h0:=@yH (val a.2)
  subst hz
  unfold zv
  cases h:a.1 with
  | false=>simp <;> omega
  | true =>
   simp only [Bool.true_and,if_true]
   rw [decide_eq_decide]
   omega) (by subst hz; unfold zv; split <;> omega) (Nat.le_trans (xV (by exact hx)) hN))
theorem uU {Ψ:PV} {n:Nat} {z:Int} [h:VZ Ψ n z] (hn:n≤100000000):CTy prog 135 [Ψ] (ag (ztc n z)):=ctz1 (bo func135) fun a h0 h1 h2=>k5normx h0 (by omega) h1 h2
theorem vz_q {Ψ:PV} {n:Nat} {z:Int} [h:VZ Ψ n z]:PSub Ψ (ag (ztq n z)):=fun M w v hv=>by obtain ⟨s,a,rfl,g⟩:=h.h hv; exact ⟨_,rfl,s,a,rfl,g⟩
theorem bI {n N:Nat} {y z:Int} (h:y=z) (h1:n≤N):PSub (ag (ztc n y)) (ag (ztc N z)):=fun M w v ⟨us,e,s,a,e2,g⟩=>by subst h; exact ⟨us,e,s,a,e2,g.sgn,g.num,Nat.le_trans g.len h1⟩
theorem sum_len {K:Nat} {xs ys:List Nat} (h1:val xs < 4294967296 ^ xs.length) (h2:val ys < 4294967296 ^ ys.length) (hK:max xs.length ys.length + 1≤K):(limbs (val xs + val ys)).length≤K:=by
 refine Nat.le_trans (yJ (k:=max xs.length ys.length + 1) ?_) hK
 have a1:4294967296 ^ xs.length≤4294967296 ^ (max xs.length ys.length):=Nat.pow_le_pow_right (by omega) (by omega)
 have a2:4294967296 ^ ys.length≤4294967296 ^ (max xs.length ys.length):=Nat.pow_le_pow_right (by omega) (by omega)
 rw [Nat.pow_succ]; omega
theorem zU4 {Ψ:PV} {n:Nat} {z:Int} [h:VZ Ψ n z] (hn:n≤1000000):CTy prog 77 [Ψ] (exP (.int .i64 z.sign)):=by
 refine gF (σs:=[ag (ztq n z)]) ?_ (fs1 vz_q fs0)
 refine ctc func77 rfl rfl rfl rfl fun X=>(zH (zJ rfl (tbx rfl fun b1=>(zA1 (oas rfl) (zA0 (zH (zJ rfl (zA1 (oldo 0 rfl rfl rfl rfl) (zA1 (oca rfl rfl fun _=>uU (by omega)) ?_)))))))))
 refine tst 0 rfl rfl rfl rfl rfl rfl (zA0 (zH (zT (zH (zJ rfl (zA1 (ofo rfl) (zA1 (oldf 0 1 rfl rfl rfl rfl) (zA1 (oln rfl) (zA1 (oeq rfl rfl) ?_)))))))))
 refine zA1 (oas rfl) (zA0 ?_)
 refine t_if rfl (fun c0=>?_) (fun c0=>?_)
 refine zH (zJ rfl (zA1 (oas rfl) (zA0 (zZ (⟨[_],rst rfl rs0,yN ?_⟩)))))
 refine ps_i ?_
 rotate_left 1
 refine zH (zJ rfl (zA1 (ofo rfl) (zA1 (oldf 0 0 rfl rfl rfl rfl) (zA1 (oas rfl) (zA0 ?_)))))
 refine t_if rfl (fun c1=>?_) (fun c1=>?_)
 refine zH (zJ rfl (zA1 (oas rfl) (zA0 (zZ (⟨[_],rst rfl rs0,yN ?_⟩)))))
 refine ps_i ?_
 rotate_left 1
 refine yA (zH (zJ rfl (zA1 (oas rfl) (zA0 (zZ (⟨[_],rst rfl rs0,yN ?_⟩))))))
 refine ps_i ?_
 rotate_left 1
 ·have h1:=dt c0
  have h2:=@yH z.natAbs
  rw [show z=0 by omega]; rfl
 ·have h2:=dt c1
  rw [Int.sign_eq_neg_one_of_neg h2]
 ·have h1:=df c0
  have h2:=df c1
  have h3:=@yH z.natAbs
  rw [Int.sign_eq_one_of_pos (by omega)]
theorem zU5 {Ψ:PV} {n:Nat} {z:Int} [h:VZ Ψ n z] (hn:n≤1000000):CTy prog 148 [Ψ] (ag (ztc n (-z))):=ctz1 (bo func148) fun a h0 h1 h2=>by
 refine ctc func148 rfl rfl rfl rfl fun X=>(zH (zJ rfl (zA1 (obx rfl) (tal fun b2=>(zA0 (zH (zJ rfl (zA1 (ofa rfl rfl) (zA1 (old rfl rfl) ?_)))))))))
 refine zA1 (ont rfl) (zA1 (ofa rfl rfl) (zA1 (old rfl rfl) ?_))
 refine zA1 (obd rfl rfl rfl) (zA1 (oca rfl rfl fun _=>uU (by omega)) (tst 0 rfl rfl rfl rfl rfl rfl (zA0 (zZ (⟨[_],rsc 0 rfl rfl rfl rfl rs0,yN ?_⟩)))))
 rotate_left 1
 exact bI (by subst h2; unfold zv; cases a.1 <;> simp) h1
theorem w5two {a b:Bool × List Nat} {N:Nat} {y z:Int} (la:∀ x ∈ a.2,x < 4294967296) (lb:∀ x ∈ b.2,x < 4294967296) (ha:a.2.length≤1000000) (hb:b.2.length≤1000000) (hN:max a.2.length b.2.length + 1≤N) (hy:zv a.1 a.2=y) (hz:zv b.1 b.2=z):CTy prog 203 [ag (itx a),ag (itx b)] (ag (ztc N (y + z))):=by
 have hs:(limbs (val a.2 + val b.2)).length≤max a.2.length b.2.length + 1:=sum_len (jF _ la) (jF _ lb) (Nat.le_refl _)
 have hs2:(limbs (List.map val [a.2,b.2]).sum).length≤max a.2.length b.2.length + 1:=by simpa using hs
 have hd1:(limbs (val a.2 - val b.2)).length≤max a.2.length b.2.length + 1:=Nat.le_trans (yG (by omega)) hs
 have hd2:(limbs (val b.2 - val a.2)).length≤max a.2.length b.2.length + 1:=Nat.le_trans (yG (by omega)) hs
 refine ctc func203 rfl rfl rfl rfl fun X=>(zH (zJ rfl (zA1 (obx rfl) (zA1 (obx rfl) (tal fun b4=>(zA0 (zH (zH (zJ rfl ?_)))))))))
 refine zA1 (ofa rfl rfl) (zA1 (old rfl rfl) (zA1 (ofa rfl rfl) (zA1 (old rfl rfl) (zA1 (obe rfl rfl) (zA0 ?_)))))
 refine t_if rfl (fun c0=>?_) (fun c0=>?_)
 refine zH (yR 10 mixed rfl rfl (d1 (ofa rfl rfl) (d1 (old rfl rfl) (d1 (ofa rfl rfl) (d1 (old rfl rfl) (d1 (ofa rfl rfl) (d1 (old rfl rfl) (d1 (obs rfl rfl rfl rfl rfl rfl) (d1 (oca rfl rfl fun _=>yA2 (xss:=[a.2,b.2]) (by (simp; omega)) (by (simp; done))) ?_)))))))))
 refine d1 (obd rfl rfl rfl) (d1 (oca rfl rfl fun _=>uU (by omega)) (d0 (tst 0 rfl rfl rfl rfl rfl rfl (zA0 (zZ (⟨[_],rsc 0 rfl rfl rfl rfl rs0,yN ?_⟩))))))
 rotate_left 1
 refine yA (zH (zJ rfl (zA1 (ofa rfl rfl) (zA1 (old rfl rfl) (zA1 (ofa rfl rfl) (zA1 (old rfl rfl) (zA1 (oca rfl rfl fun _=>zU8 (by omega) (by omega)) (zA1 (omv rfl) (zA1 (oex rfl rfl) ?_)))))))))
 refine zA1 (oex rfl rfl) (zA1 (oas rfl) (zA1 (oas rfl) (zA0 (zH (zH (zJ rfl (zA1 (omv rfl) (zA1 (oeq rfl rfl) (zA0 ?_)))))))))
 refine t_if rfl (fun c1=>?_) (fun c1=>?_)
 refine zH (zJ rfl (zA1 (ofa rfl rfl) (zA1 (old rfl rfl) (zA1 (omv rfl) ?_))))
 refine zA1 (obd rfl rfl rfl) (zA1 (oca rfl rfl fun _=>uU (by omega)) (tst 0 rfl rfl rfl rfl rfl rfl (zA0 (zZ (⟨[_],rsc 0 rfl rfl rfl rfl rs0,yN ?_⟩)))))
 rotate_left 1
 refine yA (zH (zJ rfl (zA1 (ofa rfl rfl) (zA1 (old rfl rfl) (zA1 (ofa rfl rfl) (zA1 (old rfl rfl) (zA1 (oca rfl rfl fun _=>zU8 (by omega) (by omega)) (zA1 (omv rfl) (zA1 (oex rfl rfl) ?_)))))))))
 refine zA1 (oex rfl rfl) (zA1 (oas rfl) (zA0 (zH (zJ rfl (zA1 (ofa rfl rfl) (zA1 (old rfl rfl) (zA1 (omv rfl) ?_)))))))
 refine zA1 (obd rfl rfl rfl) (zA1 (oca rfl rfl fun _=>uU (by omega)) (tst 0 rfl rfl rfl rfl rfl rfl (zA0 (zZ (⟨[_],rsc 0 rfl rfl rfl rfl rs0,yN ?_⟩)))))
 rotate_left 1
 ·have h0:a.1=b.1:=eq_of_beq c0.h
  exact bI (by
   subst hy hz; rw [zP]; simp only [List.map_cons,List.map_nil,List.sum_cons,List.sum_nil]; unfold zv; rw [h0]; split <;> omega) (by omega)
 ·have h0:a.1 ≠ b.1:=fun e=>by have:=c0.h; rw [e] at this; simp at this
  have h1:val b.2≤val a.2:=by have:=dt c1; split at this <;> omega
  exact bI (by
   subst hy hz; rw [zP]; unfold zv
   cases ea:a.1 <;> cases eb:b.1 <;> simp [ea,eb] at h0 ⊢ <;> omega) (by omega)
 ·have h0:a.1 ≠ b.1:=fun e=>by have:=c0.h; rw [e] at this; simp at this
  have h1:val a.2 < val b.2:=by have:=df c1; split at this <;> omega
  exact bI (by
   subst hy hz; rw [zP]; unfold zv
   cases ea:a.1 <;> cases eb:b.1 <;> simp [ea,eb] at h0 ⊢ <;> omega) (by omega)
theorem k5two {Ψ Φ:PV} {n m N:Nat} {y z:Int} [h:VZ Ψ n y] [h':VZ Φ m z] (hn:n≤1000000) (hm:m≤1000000) (hN:max n m + 1≤N):CTy prog 203 [Ψ,Φ] (ag (ztc N (y + z))):=ctz2 (bo func203) fun a b la ha hy lb hb hz=>w5two la lb (by omega) (by omega) (by omega) hy hz
theorem z0_ok {n:Nat} {M:Nat→Prop} {w:World} {us:List Value} (h:stp (zc (.agg #[.bool false,.slice none 0 0])) M w us):stp [ztc n 0] M w us:=by
 obtain ⟨x,y,rfl,⟨rfl,_⟩,z,o,rfl,⟨rfl,_⟩,h3⟩:=h
 obtain rfl:o=[]:=h3
 exact ⟨[.bool false,.slice none 0 0],[],rfl,⟨false,_,rfl,zc_zero⟩,rfl⟩
theorem w5add {l:List Int} {n:Nat} (hn:n≤390000) (hl:l.length≤2):CTy prog 147 [sv (sl 2 (l.map (ztq n)))] (ag (ztc (n + 2) l.sum)):=by
 refine ctc func147 rfl rfl rfl rfl fun X=>(zH (zJ rfl (tal fun b2=>(zA0 (zH (zJ rfl (tal fun b3=>(zA0 (zH ?_)))))))))
 refine zH (zJ rfl (zA1 (oas rfl) (zA0 (zT ?_))))
 rotate_left 1
 refine t_ts (nE (cs':=[ztc (n + 0) 0]) 0 rfl z0_ok) ?_
 refine xL (σ:=Nat) (fun s=>[(4,True,exP (.int .i64 ((s:Nat):Int)))]) (fun s=>[.blk b3 31 [ztc (n + s) (l.take s).sum],.blk b2 31 (zc (.agg #[.bool false,.slice none 0 0]))]) (fun s=>s≤l.length) (fun s=>l.length - s) (0) (tk 0 rfl (tk 2 rfl (tk 3 rfl tn))) ?_ rfl ((by simp)) (fun s hJ Y _=>?_)
 refine tc rfl (ps_r _) (tn)
 rotate_left 1
 refine zH (zH (zJ rfl (zA1 (omv rfl) (zA1 (omv rfl) (zA1 (oln rfl) (zA1 (olt rfl rfl) (zA0 ?_)))))))
 refine t_if rfl (fun c0=>?_) (fun c0=>?_)
 refine yA (zH (zT (yR 7 mixed rfl rfl (d1 (oldo 0 rfl rfl rfl rfl) (d1 (omv rfl) (d1 (omv rfl) (d1 (oix _ rfl rfl rfl (fun _=>rfl) (fun _=>(by (have e0:=dt c0; omega)))) (d1 (old rfl rfl) (d1 (oca rfl rfl fun _=>uU (by omega)) ?_)))))))))
 refine d1 (oca rfl rfl fun _=>k5two (N:=n + s + 1) (by omega) (by omega) (by omega)) (d0 (tst 0 rfl rfl rfl rfl rfl rfl (zA0 (zJ rfl (zA1 (omv rfl) (zA1 (oad rfl rfl (by omega)) (zA1 (oas rfl) (zA0 ?_))))))))
 rotate_left 1
 refine xN (zH (zJ rfl (zA1 (oldo 0 rfl rfl rfl rfl) (zA1 (oca rfl rfl fun _=>uU (by omega)) (tst 1 rfl rfl rfl rfl rfl rfl (zA0 (zZ (⟨[_],rsc 1 rfl rfl rfl rfl rs0,yN ?_⟩))))))))
 rotate_left 1
 ·refine ⟨s + 1,tes ?_ ?_ ?_,(by (have e0:=dt c0; omega)),(by (have e0:=dt c0; omega))⟩
  refine tc rfl (ps_r _) (tn)
  refine tc rfl (ps_r _) (tc rfl (ps_r _) (tc rfl (ps_r _) (tn)))
  rotate_left 1
  rw [sum_take (by have:=dt c0; omega)]; exact List.Sublist.refl _
 ·have h0:s=l.length:=by have:=df c0; omega
  subst h0
  exact bI (by rw [List.take_length]) (by omega)
theorem k5of {k N:Nat} (hk:k < 9223372036854775808) (hN:2≤N):CTy prog 149 [exP (.int .i64 ((k:Nat):Int))] (ag (ztc N ((k:Nat):Int))) :=
 ⟨(bo func149),fun M w vs hM hT hv=>by
  obtain ⟨v,rfl,h1⟩:=fa1 hv
  obtain rfl:v=_:=h1
  exact (zV3 hk hM).mono fun r w' ⟨hB,x,y,e,g⟩=>⟨hB,e ▸ iW ⟨g.sgn,g.num,Nat.le_trans g.len hN⟩⟩⟩
theorem k5normM {Ψ:PV} {n N:Nat} {y z:Int} [h:VZ Ψ n y] (hn:n≤100000000) (hN:(limbs y.natAbs).length≤N) (e:y=z):CTy prog 135 [Ψ] (ag (ztc N z)) :=
 ⟨(uU (h:=h) hn).bod,fun M w vs hM hT hv=>((uU (h:=h) hn).run M w vs hM hT hv).mono fun r w' ⟨hB,us,e1,s,a,e2,g⟩=>⟨hB,by subst e; exact ⟨us,e1,s,a,e2,g.sgn,g.num,hN⟩⟩⟩
abbrev zx (a:Bool × List Nat):Int:=zv a.1 a.2
instance:Df (Bool × List Nat):=⟨(false,[])⟩
theorem fP (a:Bool × List Nat):(zx a).natAbs=val a.2:=by unfold zx zv; split <;> omega
theorem mul_z (p:Int) (a:Bool × List Nat):(if (!(decide (p < 0) == a.1))=true then -((val (limbs (val (limbs p.natAbs) * val a.2)):Nat):Int) else ((val (limbs (val (limbs p.natAbs) * val a.2)):Nat):Int))=p * zx a:=by
 rw [zP,zP,Int.natCast_mul]
 unfold zx zv
 rcases Decidable.em (p < 0) with h | h
 ·have e:((p.natAbs:Nat):Int) = -p:=by omega
  rw [decide_eq_true h,e]; cases a.1 <;> simp [Int.neg_mul,Int.mul_neg]
 ·have e:((p.natAbs:Nat):Int)=p:=by omega
  rw [decide_eq_false (by omega),e]; cases a.1 <;> simp [Int.neg_mul,Int.mul_neg]
theorem zK3 {l:List (Bool × List Nat)} {s:Nat} (h:s < l.length):gY ((l.map zx).take (s + 1))=gY ((l.map zx).take s) * zx (l.getD s Df.d):=by
 rw [prod_take (by simpa using h)]
 simp [List.getD_eq_getElem?_getD,List.getElem?_eq_getElem h]
theorem w5mul {l:List (Bool × List Nat)} {n:Nat} (hn:n≤100000) (hl:l.length≤2) (hb:∀ a ∈ l,(∀ x ∈ a.2,x < 4294967296)∧a.2.length≤n):CTy prog 92 [sv (sl 2 (l.map itx))] (ag (ztc (2 * n + 2) (gY (l.map zx)))):=by
 refine ctc func92 rfl rfl rfl rfl fun X=>(zH (zJ rfl (tal fun b2=>(zA0 (zH (zJ rfl (zA1 (oca rfl rfl fun _=>k5of (k:=1) (N:=2 + 0 * n) (by omega) (by omega)) (tal fun b3=>(tst 0 rfl rfl rfl rfl rfl rfl ?_)))))))))
 refine zA0 (zH (zH (zJ rfl (zA1 (oas rfl) (zA0 (zT ?_))))))
 rotate_left 1
 refine xL (σ:=Nat) (fun s=>[(4,True,exP (.int .i64 ((s:Nat):Int)))]) (fun s=>[.blk b3 31 [ztc (2 + s * n) (gY ((l.map zx).take s))],.blk b2 31 (zc (.agg #[.bool false,.slice none 0 0]))]) (fun s=>s≤l.length∧(limbs (gY ((l.map zx).take s)).natAbs).length≤2 + s * n) (fun s=>l.length - s) (0) (tk 0 rfl (tk 2 rfl (tk 3 rfl tn))) ?_ rfl (⟨by simp,by simp [gY,jX]⟩) (fun s hJ Y _=>?_)
 refine tc rfl (ps_r _) (tn)
 rotate_left 1
 obtain ⟨j1,j2⟩:=hJ
 have hs2:s * n≤2 * n:=Nat.mul_le_mul_right n (by omega)
 have hs3:(s + 1) * n=s * n + n:=Nat.succ_mul _ _
 have hg:s < l.length→(∀ x ∈ (l.getD s Df.d).2,x < 4294967296)∧(l.getD s Df.d).2.length≤n:=fun h=>hb _ (by rw [List.getD_eq_getElem?_getD,List.getElem?_eq_getElem h]; exact List.getElem_mem h)
 have hm:s < l.length→(limbs (val (limbs (gY (List.take s (List.map zx l))).natAbs) * val (l.getD s Df.d).2)).length≤2 + s * n + n:=fun h=>by
  obtain ⟨g1,g2⟩:=hg h
  refine Nat.le_trans (aR (jF _ (gP _)) (jF _ g1)) ?_
  omega
 refine zH (zH (zJ rfl (zA1 (omv rfl) (zA1 (omv rfl) (zA1 (oln rfl) (zA1 (olt rfl rfl) (zA0 ?_)))))))
 refine t_if rfl (fun c0=>?_) (fun c0=>?_)
 refine yA (zH (zT (yR 18 mixed rfl rfl (d1 (ofo rfl) (d1 (oldf 0 0 rfl rfl rfl rfl) (d1 (omv rfl) (d1 (omv rfl) (d1 (oix _ rfl rfl rfl (fun _=>rfl) (fun _=>(by (have e0:=dt c0; omega)))) (d1 (ofa rfl rfl) ?_)))))))))
 refine d1 (old rfl rfl) (d1 (obn rfl rfl) (d1 (ofo rfl) (d1 (oldf 0 1 rfl rfl rfl rfl) (d1 (omv rfl) (d1 (omv rfl) (d1 (oix _ rfl rfl rfl (fun _=>rfl) (fun _=>(by (have e0:=dt c0; omega)))) (d1 (ofa rfl rfl) (d1 (old rfl rfl) (d1 (oca rfl rfl fun _=>k2mulx (by omega) (by (have e0:=dt c0; omega))) ?_)))))))))
 refine d1 (obd rfl rfl rfl) ?_
 refine d1 (oca rfl rfl fun _=>k5normM (N:=2 + (s + 1) * n) (z:=gY ((l.map zx).take (s + 1))) (by (have e0:=dt c0; omega)) ?_ ?_) ?_
 rotate_left 1
 rotate_left 1
 refine d0 (tst 0 rfl rfl rfl rfl rfl rfl (zA0 (zJ rfl (zA1 (omv rfl) (zA1 (oad rfl rfl (by omega)) (zA1 (oas rfl) (zA0 ?_)))))))
 rotate_left 1
 refine xN (zH (zJ rfl (zA1 (oldo 0 rfl rfl rfl rfl) (tst 1 rfl rfl rfl rfl rfl rfl (zA0 (zZ (⟨[_],rsc 1 rfl rfl rfl rfl rs0,yN ?_⟩)))))))
 rotate_left 1
 ·have h1:=hm (by have:=dt c0; omega)
  have e4:∀ (c:Bool) (k:Nat),(if c=true then -((k:Nat):Int) else ((k:Nat):Int)).natAbs=k:=fun c k=>by split <;> omega
  rw [e4,zP]; omega
 ·rw [zK3 (by have:=dt c0; omega),← mul_z]
 ·have h0:s < l.length:=by have:=dt c0; omega
  have h1:=hm h0
  refine ⟨s + 1,tes ?_ ?_ (List.Sublist.refl _),?_,(by omega)⟩
  refine tc rfl (ps_r _) (tn)
  refine tc rfl (ps_r _) (tc rfl (ps_r _) (tc rfl (ps_r _) (tn)))
  rotate_left 1
  refine ⟨by omega,?_⟩
  rw [zK3 h0,Int.natAbs_mul,fP]
  rw [zP] at h1
  omega
 ·have h0:s=l.length:=by have:=df c0; omega
  subst h0
  exact bI (by rw [List.take_of_length_le (by simp)]) (by omega)
theorem vU {M:Nat→Prop} {w:World} {n:Nat} {l:List Int} {v:Value} (h:ZL M w n l v):∃ ls:List (Bool × List Nat),(sl 2 (ls.map itx)).p M w [v]∧ls.map zx=l∧∀ a ∈ ls,(∀ x ∈ a.2,x < 4294967296)∧a.2.length≤n:=by
 obtain ⟨cs,h1,h2⟩:=h.row
 have h3:∀ i,i < l.length→∃ a:Bool × List Nat,zx a=l.getD i 0∧(∀ x ∈ a.2,x < 4294967296)∧a.2.length≤n∧∃ us:List Value,us.length=2∧(∀ (q:Nat) (u:Value),us[q]? = some u→cs[i * 2 + q]? = some u)∧(itx a).p M w us:=fun i hi=>by
  obtain ⟨us,g1,g2,s,a,rfl,g3⟩:=h2 i _ (List.getElem?_eq_getElem hi)
  obtain ⟨xs,k1,k2,k3⟩:=g3.ex
  exact ⟨(s,xs),by rw [List.getD_eq_getElem?_getD,List.getElem?_eq_getElem hi]; exact k3,k1.lt,k2,_,g1,g2,[.bool s],[a],rfl,⟨rfl,rfl⟩,[a],[],rfl,⟨a,rfl,k1⟩,rfl⟩
 let Y:Nat→Bool × List Nat:=fun i=>if h:i < l.length then Classical.choose (h3 i h) else (false,[])
 have hY:∀ i,i < l.length→zx (Y i)=l.getD i 0∧(∀ x ∈ (Y i).2,x < 4294967296)∧(Y i).2.length≤n∧∃ us:List Value,us.length=2∧(∀ (q:Nat) (u:Value),us[q]? = some u→cs[i * 2 + q]? = some u)∧(itx (Y i)).p M w us:=fun i hi=>by simp only [Y,dif_pos hi]; exact Classical.choose_spec (h3 i hi)
 refine ⟨(List.range l.length).map Y,?_,?_,fun a ha=>?_⟩
 ·refine cT (R:=fun M w a us=>(itx a).p M w us) (fun _=>rfl) (fun _ _ _ h=>h) ⟨cs,by simpa using h1,fun i a hi=>?_⟩
  obtain ⟨hlt,rfl⟩:=List.getElem?_eq_some_iff.1 hi
  have:=(hY i (by simpa using hlt)).2.2.2
  simpa using this
 ·apply List.ext_getElem (by simp)
  intro i h4 h5
  have:=(hY i h5).1
  simpa [List.getD_eq_getElem?_getD,List.getElem?_eq_getElem h5] using this
 ·obtain ⟨i,hi,rfl⟩:=List.mem_map.1 ha
  obtain ⟨_,g1,g2,_⟩:=hY i (List.mem_range.1 hi)
  exact ⟨g1,g2⟩
theorem iL {Ψ:PV} {n:Nat} {l:List Int} [h:VZL Ψ n l] (hn:n≤100000) (hl:l.length≤2):CTy prog 92 [Ψ] (ag (ztc (2 * n + 2) (gY l))) :=
 ⟨(bo func92),fun M w vs hM hT hv=>by
  obtain ⟨v,rfl,h1⟩:=fa1 hv
  obtain ⟨ls,k1,k2,k3⟩:=vU (h.h h1)
  subst k2
  exact (w5mul hn (by simpa using hl) k3).run M w _ hM hT ⟨_,_,rfl,k1,rfl⟩⟩
theorem zU6 {Ψ:PV} {n:Nat} {l:List Int} [h:VZL Ψ n l] (hn:n≤390000) (hl:l.length≤2):CTy prog 147 [Ψ] (ag (ztc (n + 2) l.sum)) :=
 gF (w5add hn hl) (fs1 (fun M w v hv=>cT (fun _=>rfl) (fun a us _ h=>h) (h.h hv).row) fs0)
theorem tZ {Ψ Φ:PV} {n m:Nat} {y z:Int} [h:VZ Ψ n z] [h':VZ Φ m y] (hn:n≤380000) (hm:m≤380000):CTy prog 91 [Ψ,Φ] (ag (ztc (max n m + 2) (z - y))):=by
 refine gF (σs:=[ag (ztq n z),ag (ztq m y)]) ?_ (fs1 vz_q (fs1 vz_q fs0))
 refine ctc func91 rfl rfl rfl rfl fun X=>(zH (zJ rfl (zA1 (obx rfl) (zA1 (obx rfl) (tal fun b4=>(zA0 (zH (yR 5 mixed rfl rfl (d1 (old rfl rfl) ?_)))))))))
 refine d1 (old rfl rfl) (d1 (oca rfl rfl fun _=>zU5 (by omega)) (d1 (obs rfl rfl rfl rfl rfl rfl) (d1 (oca rfl rfl fun _=>zU6 (by omega) (by (simp; done))) (d0 (tst 0 rfl rfl rfl rfl rfl rfl (zA0 (zZ (⟨[_],rsc 0 rfl rfl rfl rfl rs0,yN ?_⟩))))))))
 rotate_left 1
 exact bI (by simp; omega) (Nat.le_refl _)
theorem k5told {n m:Nat} {y z:Int}:CTy prog 172 [ag (ztc n y),ag (ztc m z)] (exP (.bool (decide (y=z)))):=by
 refine ctc func172 rfl rfl rfl rfl fun X=>(zH (zJ rfl (zA1 (obx rfl) (zA1 (obx rfl) (zA1 (oas rfl) (zA0 (zH (zJ rfl (zA1 (ofx rfl) ?_)))))))))
 refine zA1 (old rfl rfl) (zA1 (ofx rfl) (zA1 (old rfl rfl) (zA1 (obe rfl rfl) (zA1 (omv rfl) (t1g rfl rfl (ofx rfl) (t1g rfl rfl (old rfl rfl) (t1g rfl rfl (ofx rfl) (t1g rfl rfl (old rfl rfl) (t1g rfl rfl (oca rfl rfl fun g=>zU9) ?_)))))))))
 refine zA1 (opk rfl rfl rfl) (zA1 (oas rfl) (zA0 (zZ (⟨[_],rst rfl rs0,yN ?_⟩))))
 refine psb ?_
 rotate_left 1
 rw [Bool.eq_iff_iff]
 simp only [Bool.and_eq_true,beq_iff_eq,decide_eq_true_eq]
 constructor
 ·rintro ⟨h1,h2⟩
  have h3:y.natAbs=z.natAbs:=by have:=congrArg val h2; rwa [zP,zP] at this
  rw [decide_eq_decide] at h1
  omega
 ·rintro rfl; exact ⟨rfl,rfl⟩
end Go.Proofs.YtflobagimodmgaaGreatDoor
set_option maxHeartbeats 4000000
namespace Go.Proofs.YtflobagimodmgaaGreatDoor
open Go.SL Go.RowKit Go.Proofs Tryz
section
variable {Ψ Φ : PV} {n m k j : Nat} {y z : Int}
theorem zM5 {M:Nat→Prop} {w:World} {v:Value} {ls:List (Bool × List Nat)} (h:(sl 2 (ls.map itx)).p M w [v]):IsInts M w v ls :=
 ⟨rG (f:=itx) (fun _=>rfl) (fun a us ⟨x,y,e,⟨e1,_⟩,z,o,e2,⟨u,e3,g⟩,e4⟩=>⟨u,by subst e1 e3; obtain rfl:o=[]:=e4; rw [e,e2]; rfl,g⟩) h⟩
theorem zZ3 [h:VN Ψ n k] [h':VN Φ m j] (hn:n≤1000000) (hm:m≤1000000):CTy prog 230 [Ψ,Φ] (sv (ntq (n + m) (k * j))) :=
 ⟨(bo func230),fun M w vs hM hT hv=>by
  obtain ⟨v,u,rfl,h1,h2⟩:=fa2 hv
  obtain ⟨xs,g1,g2,g3⟩:=(h.h h1).ex
  obtain ⟨ys,g4,g5,g6⟩:=(h'.h h2).ex
  exact (zT2 g1 g4 (by omega) (by omega) hM).mono fun r w' ⟨hB,g⟩=>⟨hB,r,rfl,by rw [← g3,← g6]; exact dQ (g.nat hM) (Nat.le_trans (aR (jF _ g1.lt) (jF _ g4.lt)) (by omega))⟩⟩
theorem zZ5 [h:VZ Ψ n z] (hn:n≤1000000):CTy prog 210 [Ψ] (exP (.int .i64 z.sign)) :=
 ⟨(bo func210),fun M w vs hM hT hv=>by
  obtain ⟨v,rfl,h1⟩:=fa1 hv
  obtain ⟨s,a,rfl,g⟩:=h.h h1
  obtain ⟨xs,g1,g2,g3⟩:=g.ex
  subst g3
  exact (isgn_c g1 (by omega) hM).mono fun r w' ⟨hB,e⟩=>⟨hB,e⟩⟩
theorem zZ6 [h:VZ Ψ n z] (hn:n≤1000000):CTy prog 265 [Ψ] (ag (ztc n z)) :=
 ⟨(bo func265),fun M w vs hM hT hv=>by
  obtain ⟨v,rfl,h1⟩:=fa1 hv
  obtain ⟨s,a,rfl,g⟩:=h.h h1
  obtain ⟨xs,g1,g2,g3⟩:=g.ex
  subst g3
  exact (wM g1 (by omega) hM).mono fun r w' ⟨hB,q,e,g⟩=>⟨hB,e ▸ iW ⟨rfl,g,by rw [fP (s,xs)]; exact Nat.le_trans (xV g1.lt) g2⟩⟩⟩
theorem zZ7 [h:VZ Ψ n z] (hn:n≤1000000):CTy prog 246 [Ψ] (ag (ztc n (-z))) :=
 ⟨(bo func246),fun M w vs hM hT hv=>by
  obtain ⟨v,rfl,h1⟩:=fa1 hv
  obtain ⟨s,a,rfl,g⟩:=h.h h1
  obtain ⟨xs,g1,g2,g3⟩:=g.ex
  subst g3
  exact (ineg_c g1 (by omega) hM).mono fun r w' ⟨hB,q,e,g⟩=>⟨hB,e ▸ iW ⟨rfl,g,by rw [Int.natAbs_neg,fP (s,xs)]; exact Nat.le_trans (xV g1.lt) g2⟩⟩⟩
theorem kiof {N:Nat} (hk:k < 9223372036854775808) (hN:2≤N):CTy prog 183 [exP (.int .i64 ((k:Nat):Int))] (ag (ztc N ((k:Nat):Int))) :=
 ⟨(bo func183),fun M w vs hM hT hv=>by
  obtain ⟨v,rfl,h1⟩:=fa1 hv
  obtain rfl:v=_:=h1
  exact (wL hk hM).mono fun r w' ⟨hB,q,e,g⟩=>⟨hB,e ▸ iW ⟨rfl,g,Nat.le_trans (yJ (k:=2) (by rw [Int.natAbs_natCast]; omega)) hN⟩⟩⟩
theorem add_len2 {a b n:Nat} (ha:(limbs a).length≤n) (hb:(limbs b).length≤n) {z:Nat} (h:z≤a + b):(limbs z).length≤n + 2:=by
 have h1:=yP ha
 have h2:=yP hb
 refine yJ ?_
 have:4294967296 ^ (n + 2)=4294967296 ^ n * 4294967296 * 4294967296:=by rw [Nat.pow_succ,Nat.pow_succ]
 omega
theorem zP6:∀ {ls:List (Bool × List Nat)},ls.length≤2→(∀ a ∈ ls,(∀ x ∈ a.2,x < 4294967296)∧a.2.length≤n)→(limbs (zsum ls).natAbs).length≤n + 2∧(limbs (kM ls).natAbs).length≤2 * n + 2
 | [],_,_=>⟨by simp [zsum,limbs],by show (limbs 1).length≤_; rw [jX]; simp⟩
 | [a],_,h=>by
  have h1:=h a (by simp)
  have h2:(limbs (zx a).natAbs).length≤n:=by rw [fP]; exact Nat.le_trans (xV h1.1) h1.2
  have e1:zsum [a]=zx a:=by simp [zsum]
  have e2:kM [a]=zx a:=by simp [kM]
  rw [e1,e2]; omega
 | [a,b],_,h=>by
  have h1:=h a (by simp)
  have h2:=h b (by simp)
  have h3:(limbs (zx a).natAbs).length≤n:=by rw [fP]; exact Nat.le_trans (xV h1.1) h1.2
  have h4:(limbs (zx b).natAbs).length≤n:=by rw [fP]; exact Nat.le_trans (xV h2.1) h2.2
  have e1:zsum [a,b]=zx a + zx b:=by simp [zsum]
  have e2:kM [a,b]=zx a * zx b:=by simp [kM]
  rw [e1,e2]
  refine ⟨add_len2 h3 h4 (Int.natAbs_add_le _ _),?_⟩
  rw [Int.natAbs_mul]
  have h5:=yP h3
  have h6:=yP h4
  refine Nat.le_trans (yJ (k:=n + n) (jU h5 h6)) (by omega)
 | _ :: _ :: _ :: _,h,_=>by simp at h
theorem zprod_eq (ls:List (Bool × List Nat)):kM ls=gY (ls.map zx):=by
 unfold kM gY; rw [List.foldl_map]
theorem tX {l:List Int} [h:VZL Ψ n l] (hn:n≤100000) (hl:l.length≤2):CTy prog 157 [Ψ] (ag (ztc (2 * n + 2) (gY l))) :=
 ⟨(bo func157),fun M w vs hM hT hv=>by
  obtain ⟨v,rfl,h1⟩:=fa1 hv
  obtain ⟨ls,k1,k2,k3⟩:=vU (h.h h1)
  subst k2
  rw [List.length_map] at hl
  have hm:n * ls.length≤n * 2:=Nat.mul_le_mul_left n hl
  exact (zM7 (L:=n) (zM5 k1) (fun x hx=>(k3 x hx).1) (fun x hx=>(k3 x hx).2) (by omega) hM).mono fun r w' ⟨hB,q,e,g⟩=>⟨hB,by rw [← zprod_eq]; exact e ▸ iW ⟨rfl,g,(zP6 hl k3).2⟩⟩⟩
theorem zT8 {l:List Int} [h:VZL Ψ n l] (hn:n≤390000) (hl:l.length≤2):CTy prog 248 [Ψ] (ag (ztc (n + 2) l.sum)) :=
 ⟨(bo func248),fun M w vs hM hT hv=>by
  obtain ⟨v,rfl,h1⟩:=fa1 hv
  obtain ⟨ls,k1,k2,k3⟩:=vU (h.h h1)
  subst k2
  rw [List.length_map] at hl
  exact (iadds_c (L:=n) (zM5 k1) (fun x hx=>(k3 x hx).1) (fun x hx=>(k3 x hx).2) (by omega) hM).mono fun r w' ⟨hB,q,e,g⟩=>⟨hB,e ▸ iW ⟨rfl,g,(zP6 hl k3).1⟩⟩⟩
theorem kisub [h:VZ Ψ n z] [h':VZ Φ m y] (hn:n≤380000) (hm:m≤380000):CTy prog 211 [Ψ,Φ] (ag (ztc (max n m + 2) (z - y))):=by
 refine gF (σs:=[ag (ztq n z),ag (ztq m y)]) ?_ (fs1 vz_q (fs1 vz_q fs0))
 refine ctc func211 rfl rfl rfl rfl fun X=>(zH (zJ rfl (zA1 (obx rfl) (zA1 (obx rfl) (tal fun b4=>(zA0 (zH (yR 5 mixed rfl rfl (d1 (old rfl rfl) ?_)))))))))
 refine d1 (old rfl rfl) (d1 (oca rfl rfl fun _=>zZ7 (by omega)) (d1 (obs rfl rfl rfl rfl rfl rfl) (d1 (oca rfl rfl fun _=>zT8 (by omega) (by (simp; done))) (d0 (tst 0 rfl rfl rfl rfl rfl rfl (zA0 (zZ (⟨[_],rsc 0 rfl rfl rfl rfl rs0,yN ?_⟩))))))))
 rotate_left 1
 exact bI (by simp; omega) (Nat.le_refl _)
theorem kicmp [h:VZ Ψ n z] [h':VZ Φ m y] (hn:n≤380000) (hm:m≤380000):CTy prog 156 [Ψ,Φ] (exP (.int .i64 (z - y).sign)):=by
 refine gF (σs:=[ag (ztq n z),ag (ztq m y)]) ?_ (fs1 vz_q (fs1 vz_q fs0))
 refine ctc func156 rfl rfl rfl rfl fun X=>(zH (zJ rfl (zA1 (obx rfl) (zA1 (obx rfl) (zA1 (oas rfl) (zA0 (zH (zJ rfl (zA1 (old rfl rfl) ?_)))))))))
 refine zA1 (old rfl rfl) (zA1 (oca rfl rfl fun _=>kisub (by omega) (by omega)) (zA1 (oca rfl rfl fun _=>zZ5 (by omega)) (zA1 (oas rfl) (zA0 (zZ (⟨[_],rst rfl rs0,yN (PSub.refl _)⟩))))))
theorem rT [h:VN Ψ n k]:CTy prog 158 [Ψ] (ag (ztq n ((k:Nat):Int))) :=
 ⟨(bo func158),fun M w vs hM hT hv=>by
  obtain ⟨v,rfl,h1⟩:=fa1 hv
  obtain ⟨xs,g1,g2,g3⟩:=(h.h h1).ex
  refine (whole_c g1 hM).mono fun r w' hx=>⟨hx.1,?_⟩
  obtain ⟨ys,g4,g5,g6⟩:=((h.h h1).cl (Cl.bel hx.1)).ex
  rw [hx.2]
  exact ⟨_,rfl,_,_,rfl,ys,g4,g5,by rw [← g6]; rfl⟩⟩
end
end Go.Proofs.YtflobagimodmgaaGreatDoor
set_option maxHeartbeats 4000000
namespace Go.Proofs.YtflobagimodmgaaGreatDoor
open Go.SL Go.RowKit Go.Proofs Tryz
def anyV:PV:=⟨fun _ _ _=>True,fun h _=>h⟩
theorem getD_mm {α:Type} [Df α] {l:List α} {s:Nat} (h:s < l.length):l.getD s Df.d ∈ l:=by rw [List.getD_eq_getElem?_getD,List.getElem?_eq_getElem h]; exact List.getElem_mem h
def anyB:PV:=⟨fun _ _ v=>∃ γ:Bool,v = .bool γ,fun h _=>h⟩
instance {a:Option Addr}:CtOf (exP (.pointer a)) (xc (.pointer a)):=⟨fun h=>⟨[_],by rw [h]; rfl,rfl,rfl⟩⟩
theorem onco {P:Program} {r:Option Nat} {N:Nat} {ops:Array Oper} {M:Nat→Prop} {S:List Ow} {p qx:Prop} {Γ:TE} {d b o:Nat} {x:Operand} {t':TypeId} {pos:String} {af:Array Edge} (hx:tv Γ x=some (qx,exP (.pointer (some ⟨b,o,none⟩)))) [Im p qx] :
  Ob P r N ops M S p ⟨some d,.nilCheck x,t',pos,af,none⟩ Γ (exP (.pointer (some ⟨b,o,none⟩))) :=
 ob1 hx (by simp [Op.operands]) fun D E w u hN hg e1 h1=>by obtain rfl:u=_:=h1; exact zW hN e1 (fin rfl)
theorem sJ {P:Program} {f:FuncId} {τs:List PV} {b:Nat} {ty:TypeId} {cs cs':List CT} {ρ:PV} (hb:Bod P f)
  (k:∀ (M:Nat→Prop) (w:World) (vs us:List Value),Blk w b ty us→stp cs M w us→OkM M w→Tab M w→M b→Fa τs M w vs→CallsV P f vs w fun v w'=>Le (fun k=>k < w.heap.size∧k ≠ b) M w M w'∧(∃ us',Blk w' b ty us'∧stp cs' M w' us')∧ρ.p M w' v) :
  CTo P f τs [.blk b ty cs] (fun r So=>r=ρ∧So=[.blk b ty cs']):=⟨hb,fun M w vs hg hap hnb hok hv=>by
 obtain ⟨us,h1,h2⟩:=hg.own _ (List.mem_singleton.2 rfl)
 have e:Mk [.blk b ty cs'] M=Mk [.blk b ty cs] M:=by funext k; simp [Mk,Ow.bk]
 refine (k _ w vs us h1 h2 hg.ok hg.tab (.inl ⟨_,List.mem_singleton.2 rfl,rfl⟩) hv).mono fun v w' ⟨l,⟨us',g1,g2⟩,g3⟩=>⟨⟨l.os,l.tape,l.output,l.size,fun k hk hz=>l.frz k hk ⟨hk,fun c=>hz ⟨_,List.mem_singleton.2 rfl,by rw [c]; rfl⟩⟩⟩,ρ,[.blk b ty cs'],⟨rfl,rfl⟩,⟨by rw [e]; exact fun k hk=>Nat.lt_of_lt_of_le (hg.ok k hk) l.size,by rw [e]; exact hg.tab.mono l,fun o ho=>?_⟩,⟨fun _ _ _ h=>by simp at h,trivial⟩,fun b' ⟨o,ho,e1⟩ => .inr ⟨_,List.mem_singleton.2 rfl,by rw [List.mem_singleton.1 ho] at e1; exact e1⟩,by rw [e]; exact g3⟩
 rw [List.mem_singleton.1 ho,e]
 exact ⟨us',g1,g2⟩⟩
theorem tC {M:Nat→Prop} {w:World} {N:Nat} {q:Rat} {x y:Value} (h1:IsNat M w x (limbs q.num.natAbs)) (h2:IsNat M w y (limbs q.den)) (hr:rlen q N):(rtc N q).p M w [.bool (decide (q.num < 0)),x,y]:=⟨_,_,_,rfl,rfl,h1,h2,hr.1,hr.2⟩
theorem onorm {b n N:Nat} {c:CT} {q:Rat} [hc:CQ c n q] (hn:n≤10000000) (hr:rlen q N) :
  CTo prog 209 [exP (.pointer (some ⟨b,0,none⟩))] [.blk b 163 [c]] (fun r So=>r=anyB∧So=[.blk b 163 [rtc N q]]) :=
 sJ (bo func209) fun M w vs us hB hs hM hT hm hv=>by
  obtain ⟨v,rfl,e⟩:=fa1 hv
  obtain rfl:v=_:=e
  obtain ⟨x,y,rfl,h1,h2⟩:=hs
  obtain rfl:y=[]:=h2
  obtain ⟨s,a,d,rfl,g⟩:=hc.h h1
  obtain ⟨xs,ds,g1,g2,g3,g4,g5⟩:=g.ex
  subst g5
  exact (rH hT hB g1 g2 (by omega) (by omega) hm (fun c=>c.2 rfl) (fun k h=>h.1) hM).mono fun r w' ⟨e,l,c,d,k1,k2,k3⟩=>⟨l,⟨_,k1,_,[],rfl,tC k2 k3 hr,rfl⟩,_,e⟩
theorem wH {b n m k N:Nat} {z:Int} {c d:CT} [hc:CZ c n z] [hd:CN d m k] (hn:n≤10000000) (hm:m≤10000000) (hr:rlen (mkRat z k) N) :
  CTo prog 209 [exP (.pointer (some ⟨b,0,none⟩))] [.blk b 163 [c,d]] (fun r So=>r=exP (.bool (decide (k ≠ 0)))∧So=[.blk b 163 [rtc N (mkRat z k)]]) :=
 sJ (bo func209) fun M w vs us hB hs hM hT hmb hv=>by
  obtain ⟨v,rfl,e⟩:=fa1 hv
  obtain rfl:v=_:=e
  obtain ⟨x,y,rfl,h1,x2,y2,rfl,h2,h3⟩:=hs
  obtain rfl:y2=[]:=h3
  obtain ⟨s,a,rfl,g⟩:=hc.h h1
  obtain ⟨v,rfl,g'⟩:=hd.h h2
  obtain ⟨xs,g1,g2,g3⟩:=g.ex
  obtain ⟨ds,g4,g5,g6⟩:=g'.ex
  subst g3 g6
  exact (rH hT hB g1 g4 (by omega) (by omega) hmb (fun c=>c.2 rfl) (fun k h=>h.1) hM).mono fun r w' ⟨e,l,c,d,k1,k2,k3⟩=>⟨l,⟨_,k1,_,[],rfl,tC k2 k3 hr,rfl⟩,e⟩
theorem oof {n N:Nat} {p:Rat} (hn:n≤10000000) (hr:rlen p N) :
  CTo prog 155 [ag (rtq n p)] [] (fun r So=>∃ b,r=exP (.pointer (some ⟨b,0,none⟩))∧So=[.blk b 163 [rtc N p]]):=by
 refine ctd func155 rfl rfl rfl rfl (fun _ _ _ _ _ _ _ hs hp=>lD hs hp) fun X=>(zH (zJ rfl (zA1 (obx rfl) (zA1 (oas rfl) (zA0 (zH (zJ rfl (zA1 (old rfl rfl) ?_))))))))
 refine zA1 (obd rfl rfl rfl) (tbx rfl fun b6=>(zA1 (oas rfl) (zA0 (zH (zJ rfl (zA1 (omv rfl) ?_))))))
 rotate_left 1
 refine tco [0] rfl rfl rfl (onorm hn hr) ?_
 rintro _ _ ⟨rfl,rfl⟩
 refine zA0 (zH (zJ rfl (zA1 (omv rfl) (zA1 (oas rfl) (zA0 (zZ ?_))))))
 rotate_left 1
 exact ⟨[_],_,_,rst rfl rs0,List.Sublist.refl _,⟨b6,rfl,rfl⟩,yN (PSub.refl _)⟩
def pk (ty:TypeId) (c:CT):PV:=⟨fun M w v=>∃ b us,v = .pointer (some ⟨b,0,none⟩)∧KBlk M w b ty us∧c.p M w us,fun ⟨b,us,e,h,k⟩ l=>let g:=l b _ _ _ h.not h.blk; ⟨b,us,e,⟨g.2,g.1⟩,c.mono k l⟩⟩
theorem zY2 {ty:TypeId} {c:CT}:PSub (pk ty c) (pa (st [c])):=fun M w v ⟨b,x,e,h,k⟩=>⟨b,0,x,e,h.not,⟨x.toArray,ty,(0,0),h.blk,fun j v hj=>by simpa using hj⟩,x,[],(List.append_nil x).symm,k,rfl⟩
theorem fU {P:Program} {f:FuncId} {τs:List PV} {ρ σ:PV} (h:CTy P f τs ρ) (k:PSub ρ σ):CTy P f τs σ:=⟨h.bod,fun M w vs a b c=>(h.run M w vs a b c).mono fun r w' ⟨hB,g⟩=>⟨hB,k _ _ _ g⟩⟩
theorem cto_pa {P:Program} {f:FuncId} {τs:List PV} {ty:TypeId} {c:CT} (h:CTo P f τs [] (fun r So=>∃ b,r=exP (.pointer (some ⟨b,0,none⟩))∧So=[.blk b ty [c]])):CTy P f τs (pk ty c) :=
 ⟨h.bod,fun M w vs hM hT hv=>by
  have e:Mk [] M=M:=by funext k; simp [Mk]
  refine (h.run M w vs ⟨by rw [e]; exact hM,by rw [e]; exact hT,fun _ h=>by simp at h⟩ trivial (fun b ⟨o,h,_⟩=>by simp at h) hM (by rw [e]; exact hv)).mono fun v w' ⟨hb,ρ,So,⟨b,e1,e2⟩,hg,_,hn,hρ⟩=>⟨⟨hb.os,hb.tape,hb.output,hb.size,fun k hk=>hb.block k hk fun ⟨o,h,_⟩=>by simp at h⟩,?_⟩
  subst e1 e2
  obtain ⟨us,g1,x,y,rfl,g2,g3⟩:=hg.own _ (List.mem_singleton.2 rfl)
  obtain rfl:y=[]:=g3
  rw [List.append_nil] at g1
  have hb':w.heap.size≤b:=(hn b ⟨_,List.mem_singleton.2 rfl,rfl⟩).elim id fun ⟨o,h,_⟩=>by simp at h
  exact ⟨b,x,hρ,⟨g1,fun c=>by have:=hM b c; omega⟩,c.mono g2 (Cl.less fun k hk => .inr hk)⟩⟩
section
variable {Ψ Φ : PV} {n m k N : Nat} {p q : Rat} {z : Int}
instance {n:Nat} {q:Rat}:FA (rtc n q) 1 (ntc n q.num.natAbs):=⟨fun ⟨s,a,d,e,h⟩=>⟨a,by rw [e]; rfl,dQ h.num h.len.1,h.num⟩⟩
theorem kofK [h:QR Ψ n p] (hn:n≤10000000) (hr:rlen p N):CTy prog 155 [Ψ] (pk 163 (rtc N p)):=gF (cto_pa (oof hn hr)) (fs1 qr_q fs0)
theorem kofN [h:QR Ψ n p] (hn:n≤10000000) (hr:rlen p N):CTy prog 155 [Ψ] (pa (st [rtc N p])):=fU (kofK hn hr) zY2
theorem vI [h:QR Ψ n p] {P:Program} {f:FuncId} {ρ:PV} (hb:Bod P f) (hr:rlen p (n + 1)→CTy P f [ag (rtq n p)] ρ):CTy P f [Ψ] ρ :=
 ⟨hb,fun M w vs hM hT hv=>by
  obtain ⟨v,rfl,h1⟩:=fa1 hv
  obtain ⟨_,_,_,_,g1⟩:=h.h h1
  exact (hr g1.rlen).run M w _ hM hT ((fs1 (qr_q (h:=h)) fs0) _ _ _ hv)⟩
theorem oI [h:QR Ψ n p] [h':QR Φ m q] {P:Program} {f:FuncId} {ρ:PV} (hb:Bod P f) (hr:rlen p (n + 1)→rlen q (m + 1)→CTy P f [ag (rtq n p),ag (rtq m q)] ρ):CTy P f [Ψ,Φ] ρ :=
 ⟨hb,fun M w vs hM hT hv=>by
  obtain ⟨v,u,rfl,h1,h2⟩:=fa2 hv
  obtain ⟨_,_,_,_,g1⟩:=h.h h1
  obtain ⟨_,_,_,_,g2⟩:=h'.h h2
  exact (hr g1.rlen g2.rlen).run M w _ hM hT ((fs1 (qr_q (h:=h)) (fs1 (qr_q (h:=h')) fs0)) _ _ _ hv)⟩
theorem wJ [h:QR Ψ n p] (hn:n≤90000):CTy prog 120 [Ψ] (ag (rtc (n + 1) p)):=vI (bo func120) fun hr=>by
 refine ctc func120 rfl rfl rfl rfl fun X=>(zH (zJ rfl (zA1 (obx rfl) (tal fun b2=>(zA0 (zH (zJ rfl (zA1 (old rfl rfl) (zA1 (oca rfl rfl fun _=>kofN (N:=n + 1) (by omega) hr) ?_)))))))))
 refine zA1 (onc rfl) (zA1 (ofa rfl rfl) (zA1 (old rfl rfl) (tst 0 rfl rfl rfl rfl rfl rfl (zA0 (zZ (⟨[_],rsc 0 rfl rfl rfl rfl rs0,yN (PSub.refl _)⟩))))))
theorem rW [h:QR Ψ n p] (hn:n≤90000):CTy prog 178 [Ψ] (exP (.int .i64 (sgnR p))):=vI (bo func178) fun hr=>by
 refine ctc func178 rfl rfl rfl rfl fun X=>(zH (zJ rfl (zA1 (obx rfl) (zA1 (oas rfl) (zA0 (zH (zJ rfl (zA1 (old rfl rfl) (zA1 (oca rfl rfl fun _=>kofN (N:=n + 1) (by omega) hr) ?_)))))))))
 refine zA1 (onc rfl) (zA1 (ofa rfl rfl) (zA1 (ofx rfl) (zA1 (old rfl rfl) (zA1 (oca rfl rfl fun _=>zZ5 (by omega)) (zA1 (oas rfl) (zA0 (zZ (⟨[_],rst rfl rs0,yN (PSub.refl _)⟩))))))))
theorem fM [h:QR Ψ n p] [h':QR Φ m q] (hn:n≤90000) (hm:m≤90000):CTy prog 103 [Ψ,Φ] (exP (.int .i64 (cmpR p q))):=oI (bo func103) fun hr hs=>by
 refine ctc func103 rfl rfl rfl rfl fun X=>(zH (zJ rfl (zA1 (obx rfl) (zA1 (obx rfl) (zA1 (oas rfl) (zA0 (zH (yR 6 mixed rfl rfl (d1 (old rfl rfl) ?_)))))))))
 refine d1 (oca rfl rfl fun _=>kofN (N:=n + 1) (by omega) hr) (d1 (old rfl rfl) (d1 (oca rfl rfl fun _=>kofN (N:=m + 1) (by omega) hs) (d1 (oas rfl) (d1 (oas rfl) (d0 (zA0 (zH (yR 28 mixed rfl rfl (d1 (omv rfl) ?_)))))))))
 refine d1 (onc rfl) (d1 (ofa rfl rfl) (d1 (ofx rfl) (d1 (old rfl rfl) (d1 (omv rfl) (d1 (onc rfl) (d1 (ofa rfl rfl) (d1 (ofx rfl) (d1 (old rfl rfl) (d1 (oca rfl rfl fun _=>rT) ?_)))))))))
 refine d1 (obs rfl rfl rfl rfl rfl rfl) (d1 (oca rfl rfl fun _=>tX (by omega) (by (simp; done))) (d1 (omv rfl) (d1 (onc rfl) (d1 (ofa rfl rfl) (d1 (ofx rfl) (d1 (old rfl rfl) (d1 (omv rfl) (d1 (onc rfl) (d1 (ofa rfl rfl) ?_)))))))))
 refine d1 (ofx rfl) (d1 (old rfl rfl) (d1 (oca rfl rfl fun _=>rT) (d1 (obs rfl rfl rfl rfl rfl rfl) (d1 (oca rfl rfl fun _=>tX (by omega) (by (simp; done))) (d1 (oca rfl rfl fun _=>kicmp (by omega) (by omega)) (d1 (oas rfl) (d0 (zA0 (zZ ?_)))))))))
 refine ⟨[_],rst rfl rs0,yN ?_⟩
 refine ps_i ?_
 rotate_left 1
 rw [zV9]
theorem krof (hk:k < 9223372036854775808):CTy prog 128 [exP (.int .i64 ((k:Nat):Int))] (ag (rtc 2 ((k:Nat):Rat))) :=
 ⟨(bo func128),fun M w vs hM hT hv=>by
  obtain ⟨v,rfl,h1⟩:=fa1 hv
  obtain rfl:v=_:=h1
  exact (wD hk hM).mono fun r w' ⟨hB,x,y,e,g1,g2⟩=>⟨hB,e ▸ ⟨_,rfl,tC (q:=((k:Nat):Rat)) g1 (by rw [show ((k:Nat):Rat).den=1 from rfl,jX]; exact g2) ⟨yJ (k:=2) (show ((k:Nat):Rat).num.natAbs < _ by rw [show ((k:Nat):Rat).num.natAbs=k from rfl]; omega),by rw [show ((k:Nat):Rat).den=1 from rfl,jX]; simp⟩⟩⟩⟩
theorem zR6 {M:Nat→Prop} {w:World} {us:List Value} (h:stp [rtc n p] M w us):stp [ztc n p.num,ntc n p.den] M w us:=by
 obtain ⟨x,y,rfl,⟨s,a,d,rfl,g⟩,h2⟩:=h
 obtain rfl:y=[]:=h2
 exact ⟨[.bool s,a],[d],rfl,⟨s,a,rfl,g.sgn,g.num,g.len.1⟩,[d],[],rfl,⟨d,rfl,dQ g.den g.len.2,g.den⟩,rfl⟩
theorem rt_join {M:Nat→Prop} {w:World} {us:List Value} (e1:z=p.num) (e2:k=p.den) (hr:rlen p N) (h:stp [ztc n z,ntc m k] M w us):stp [rtc N p] M w us:=by
 subst e1 e2
 obtain ⟨x,y,rfl,⟨s,a,rfl,g⟩,x2,y2,rfl,⟨d,rfl,g2,g3⟩,h3⟩:=h
 obtain rfl:y2=[]:=h3
 exact ⟨[.bool s,a,d],[],rfl,by rw [g.sgn]; exact tC g.num g3 hr,rfl⟩
theorem zL8 [h:QR Ψ n p] (hn:n≤90000):CTy prog 179 [Ψ] (ag (rtc (n + 1) (-p))):=vI (bo func179) fun hr=>by
 refine ctc func179 rfl rfl rfl rfl fun X=>(zH (zJ rfl (zA1 (obx rfl) (tal fun b2=>(zA0 (zH (zJ rfl (zA1 (old rfl rfl) ?_))))))))
 rotate_left 1
 refine tco [] rfl rfl rfl (oof (N:=n + 1) (by omega) hr) ?_
 rintro _ _ ⟨b5,rfl,rfl⟩
 refine qE (nE (cs':=[ztc (n + 1) p.num,ntc (n + 1) p.den]) 0 rfl zR6) ?_
 refine zA1 (oas rfl) (zA0 (zH (zJ rfl (zA1 (omv rfl) (zA1 (omv rfl) (zA1 (onco rfl) (zA1 (ofo rfl) (zA1 (ofo rfl) (zA1 (oldo 0 rfl rfl rfl rfl) ?_)))))))))
 refine zA1 (oca rfl rfl fun _=>zZ7 (by omega)) (zA1 (onco rfl) (zA1 (ofo rfl) (zA1 (ofo rfl) (tst 0 rfl rfl rfl rfl rfl rfl (zA0 (zH (zJ rfl (zA1 (omv rfl) (zA1 (onco rfl) ?_)))))))))
 refine zA1 (ofo rfl) ?_
 rotate_left 1
 refine qE (nE (cs':=[rtc (n + 1) (-p)]) 0 rfl (rt_join (by rw [Rat.neg_num]) (by rw [Rat.neg_den]) (eC hr))) ?_
 refine zA1 (oldo 0 rfl rfl rfl rfl) (tst 1 rfl rfl rfl rfl rfl rfl (zA0 (zZ (⟨[_],rsc 1 rfl rfl rfl rfl rs0,yN (PSub.refl _)⟩))))
theorem st_flat {l:List CT} {M:Nat→Prop} {w:World} {us:List Value} (h:stp [st l] M w us):stp l M w us:=by
 obtain ⟨x,y,e,g,h2⟩:=h
 obtain rfl:y=[]:=h2
 rw [e,List.append_nil]; exact g
theorem krnewN [h:VZ Ψ n z] [h':VN Φ m k] (hn:n≤1000000) (hm:m≤1000000) (e:mkRat z k=q) (hr:rlen q N):CTy prog 229 [Ψ,Φ] (tu [ag (rtc N q),exP (.int .i64 (if k=0 then 30 else 0))]):=by
 refine gF (σs:=[ag (ztq n z),sv (ntq m k)]) ?_ (fs1 vz_q (fs1 (fun M w v g=>⟨v,rfl,h'.h g⟩) fs0))
 subst e
 refine ctc func229 rfl rfl rfl rfl fun X=>(zH (zJ rfl (zA1 (obx rfl) (tal fun b4=>(zA1 (oas rfl) (zA0 (zH (zJ rfl (zA1 (old rfl rfl) ?_)))))))))
 refine zA1 (omv rfl) ?_
 refine zA1 (obd rfl rfl rfl) ?_
 refine zA1 (obd rfl rfl rfl) (tbx rfl fun b11=>(zA1 (oas rfl) (zA0 (zH (zH (zJ rfl (zA1 (omv rfl) ?_)))))))
 rotate_left 1
 refine qE (nE (cs':=[ztq n z,ntq m k]) 0 rfl st_flat) ?_
 refine tco [0] rfl rfl rfl (wH (by omega) (by omega) hr) ?_
 rintro _ _ ⟨rfl,rfl⟩
 refine zA1 (ont rfl) (zA0 ?_)
 refine t_if rfl (fun c0=>?_) (fun c0=>?_)
 refine zH (zJ rfl (zA1 (omv rfl) (zA1 (onco rfl) (zA1 (ofo rfl) (zA1 (oldo 0 rfl rfl rfl rfl) (tst 1 rfl rfl rfl rfl rfl rfl (zA1 (oas rfl) (zA0 (zZ ?_)))))))))
 refine ⟨[_,_],rsc 1 rfl rfl rfl rfl (rst rfl rs0),uW (PSub.refl _) ?_⟩
 refine ps_i ?_
 rotate_left 1
 refine yA (zH (zJ rfl (zA1 (omv rfl) (zA1 (onco rfl) (zA1 (ofo rfl) (zA1 (oldo 0 rfl rfl rfl rfl) (tst 1 rfl rfl rfl rfl rfl rfl (zA1 (oas rfl) (zA0 ?_)))))))))
 refine zZ (⟨[_,_],rsc 1 rfl rfl rfl rfl (rst rfl rs0),uW (PSub.refl _) ?_⟩)
 refine ps_i ?_
 rotate_left 1
 ·have:=c0.h
  rw [if_pos (by simpa using this)]
 ·have:=c0.h
  rw [if_neg (by simpa using this)]
theorem zX8 (p q:Rat):mkRat (gY [p.num,if decide (q.num < 0) then -((q.den:Nat):Int) else ((q.den:Nat):Int)]) (p.den * q.num.natAbs)=p / q:=by
 rw [iB,← zS3]; unfold zv; rw [zP]
theorem zX9 (p q:Rat):(if p.den * q.num.natAbs=0 then (30:Int) else 0)=if q=0 then 30 else 0:=by
 have h:p.den * q.num.natAbs=0 ↔ q=0:=by
  rw [Nat.mul_eq_zero,Int.natAbs_eq_zero,Rat.num_eq_zero]
  exact ⟨fun h=>h.elim (fun c=>absurd c p.den_nz) id,.inr⟩
 exact ite_congr (propext h) (fun _=>rfl) fun _=>rfl
theorem krquo [h:QR Ψ n p] [h':QR Φ m q] (hn:n≤90000) (hm:m≤90000):CTy prog 169 [Ψ,Φ] (tu [ag (rtc (n + m + 3) (p / q)),exP (.int .i64 (if q=0 then 30 else 0))]):=oI (bo func169) fun hr hs=>by
 have hl:rlen (p / q) (n + m + 3):=xS (tA hr hs) (by omega)
 have hq:=zX9 p q
 refine ctc func169 rfl rfl rfl rfl fun X=>(zH (zJ rfl (zA1 (obx rfl) (zA1 (obx rfl) (tal fun b4=>(zA1 (oas rfl) (zA0 (zH (yR 6 mixed rfl rfl ?_)))))))))
 refine d1 (old rfl rfl) (d1 (oca rfl rfl fun _=>kofN (N:=n + 1) (by omega) hr) (d1 (old rfl rfl) (d1 (oca rfl rfl fun _=>kofN (N:=m + 1) (by omega) hs) (d1 (oas rfl) (d1 (oas rfl) (d0 (zA0 (zH (yR 34 mixed rfl rfl ?_)))))))))
 refine d1 (omv rfl) (d1 (onc rfl) (d1 (ofa rfl rfl) (d1 (ofx rfl) (d1 (old rfl rfl) (d1 (omv rfl) (d1 (onc rfl) (d1 (ofa rfl rfl) (d1 (ofx rfl) (d1 (ofx rfl) ?_)))))))))
 refine d1 (old rfl rfl) (d1 (omv rfl) (d1 (onc rfl) (d1 (ofa rfl rfl) (d1 (ofx rfl) (d1 (old rfl rfl) ?_)))))
 refine d1 (obd rfl rfl rfl) (d1 (obs rfl rfl rfl rfl rfl rfl) (d1 (oca rfl rfl fun _=>tX (by omega) (by (simp; done))) (d1 (omv rfl) (d1 (onc rfl) (d1 (ofa rfl rfl) (d1 (ofx rfl) (d1 (old rfl rfl) (d1 (omv rfl) (d1 (onc rfl) ?_)))))))))
 refine d1 (ofa rfl rfl) (d1 (ofx rfl) (d1 (ofx rfl) (d1 (old rfl rfl) (d1 (oca rfl rfl fun _=>zZ3 (by omega) (by omega)) (d1 (oca rfl rfl fun _=>krnewN (q:=p / q) (N:=n + m + 3) (by omega) (by omega) (zX8 p q) hl) (d1 (oex rfl rfl) (d1 (oex rfl rfl) (d0 (tst 0 rfl rfl rfl rfl rfl rfl ?_)))))))))
 refine zA1 (oas rfl) (zA0 (zZ (⟨[_,_],rsc 0 rfl rfl rfl rfl (rst rfl rs0),uW (PSub.refl _) (ps_i (by omega))⟩)))
theorem oradd {b:Nat} (hn:n≤95000) (hm:m≤95000) (hr:rlen (p + q) N) :
  CTo prog 201 [exP (.pointer (some ⟨b,0,none⟩)),pa (st [rtc m q])] [.blk b 163 [ztc n p.num,ntc n p.den]] (fun r So=>r=tu []∧So=[.blk b 163 [rtc N (p + q)]]):=by
 refine ctd func201 rfl rfl rfl rfl (fun _ _ _ _ _ _ _ hs hp=>lD hs hp) fun X=>(zH (yR 32 mixed rfl rfl (d1 (omv rfl) (d1 (omv rfl) (d1 (onco rfl) (d1 (ofo rfl) (d1 (ofo rfl) (d1 (oldo 0 rfl rfl rfl rfl) (d1 (omv rfl) ?_)))))))))
 refine d1 (onc rfl) (d1 (ofa rfl rfl) (d1 (ofx rfl) (d1 (old rfl rfl) (d1 (oca rfl rfl fun _=>rT) (d1 (obs rfl rfl rfl rfl rfl rfl) (d1 (oca rfl rfl fun _=>tX (by omega) (by (simp; done))) (d1 (omv rfl) (d1 (onc rfl) (d1 (ofa rfl rfl) ?_)))))))))
 refine d1 (ofx rfl) (d1 (old rfl rfl) (d1 (omv rfl) (d1 (onco rfl) (d1 (ofo rfl) (d1 (ofo rfl) (d1 (oldo 0 rfl rfl rfl rfl) (d1 (oca rfl rfl fun _=>rT) (d1 (obs rfl rfl rfl rfl rfl rfl) (d1 (oca rfl rfl fun _=>tX (by omega) (by (simp; done))) ?_)))))))))
 refine d1 (obs rfl rfl rfl rfl rfl rfl) (d1 (oca rfl rfl fun _=>zT8 (by omega) (by (simp; done))) (d1 (onco rfl) (d1 (ofo rfl) (d1 (ofo rfl) (d0 (tst 0 rfl rfl rfl rfl rfl rfl (zA0 (zH (yR 15 mixed rfl rfl ?_)))))))))
 refine d1 (omv rfl) (d1 (omv rfl) (d1 (onco rfl) (d1 (ofo rfl) (d1 (ofo rfl) (d1 (oldo 0 rfl rfl rfl rfl) (d1 (omv rfl) (d1 (onc rfl) (d1 (ofa rfl rfl) (d1 (ofx rfl) ?_)))))))))
 refine d1 (old rfl rfl) (d1 (oca rfl rfl fun _=>zZ3 (by omega) (by omega)) (d1 (onco rfl) (d1 (ofo rfl) (d1 (ofo rfl) (d0 (tst 0 rfl rfl rfl rfl rfl rfl (zA0 (zJ rfl (zA1 (omv rfl) ?_)))))))))
 rotate_left 1
 refine tco [0] rfl rfl rfl (wH (N:=N) (by omega) (by omega) (by rw [wR]; exact hr)) ?_
 rintro _ _ ⟨rfl,rfl⟩
 rw [wR]
 refine zA0 ?_
 rotate_left 1
 exact ⟨[],tu [],_,rs0,List.Sublist.refl _,⟨rfl,rfl⟩,zY5⟩
theorem ormul {b:Nat} (hn:n≤400000) (hm:m≤400000) (hr:rlen (p * q) N) :
  CTo prog 231 [exP (.pointer (some ⟨b,0,none⟩)),pk 163 (rtc m q)] [.blk b 163 [rtc n p]] (fun r So=>r=anyV∧So=[.blk b 163 [rtc N (p * q)]]) :=
 sJ (bo func231) fun M w vs us hB hs hM hT hmb hv=>by
  obtain ⟨v,u,rfl,e,⟨ba,us2,e2,hk,s2,a2,d2,e3,g2⟩⟩:=fa2 hv
  obtain rfl:v=_:=e
  obtain ⟨x,y,rfl,⟨s,a,d,rfl,g⟩,h2⟩:=hs
  obtain rfl:y=[]:=h2
  subst e2 e3
  rw [g.sgn] at hB
  rw [g2.sgn] at hk
  have l1:=g.len; have l2:=g2.len
  exact (rmulp_c hT hB g.num g.den hk g2.num g2.den (by have:=l1.1; omega) (by have:=l1.2; omega) (by have:=l2.1; omega) (by have:=l2.2; omega) hmb (fun c=>c.2 rfl) (fun k h=>h.1) hM).mono fun r w' ⟨l,c,d,k1,k2,k3⟩=>⟨l,⟨_,k1,_,[],rfl,tC k2 k3 hr,rfl⟩,trivial⟩
theorem iall {l:List Rat} (hn:n≤90000) (hl:∀ x ∈ l,rlen x (n + 1)) (hL:l.length≤1000000):CIt prog 262 [pa (sl 3 (l.map (rtq n)))] l (fun x=>[pk 163 (rtc (n + 1) x)]):=by
 refine cit func262 rfl rfl rfl rfl rfl fun X y YS YX hY hS=>(zH (zJ rfl (zA1 (old rfl rfl) (zA1 (oln rfl) (zA1 (omv rfl) (zA0 (zT ?_)))))))
 rotate_left 1
 refine dX (σ:=Nat) (fun i=>[(7,True,exP (.int .i64 ((i:Nat):Int)))]) (fun i=>[]) (fun i Y=>YS (l.take i) Y∧i≤l.length) (fun i=>l.length - i) (0) (tk 0 rfl (tk 5 rfl (tk 6 rfl tn))) ?_ rfl (⟨hS,by omega⟩) (fun i Y hG=>?_)
 refine tc rfl (ps_r _) (tn)
 rotate_left 1
 obtain ⟨hS,hi⟩:=hG
 refine zH (zJ rfl (zA1 (olt rfl rfl) (zA0 (zH ?_))))
 refine t_if rfl (fun c0=>?_) (fun c0=>?_)
 refine yA (zH (zT (zH (zJ rfl (zA1 (oix _ rfl rfl rfl (fun _=>rfl) (fun _=>(by (have e0:=dt c0; omega)))) (zA1 (old rfl rfl) (tal fun b4=>(tst 0 rfl rfl rfl rfl rfl rfl (qE (gC (s:=4) 0 rfl rfl) ?_)))))))))
 refine zA0 (zH (zJ rfl (zA1 (omv rfl) (zA1 (old rfl rfl) (zA1 (oca rfl rfl fun _=>kofK (N:=n + 1) (by omega) (hl _ (getD_mm (by have:=dt c0; omega)))) ?_)))))
 rotate_left 1
 refine xN ?_
 rotate_left 1
 ·have h2:i < l.length:=by have:=dt c0; omega
  have h3:=yZ (Df.d:Rat) h2
  refine mE hY hS h3.2 rfl rfl (fs1 (PSub.refl _) fs0) (fun Y hS=>?_) (fun Y hX=>?_)
  ·refine zA1 (ont rfl) (zA0 (sV rfl rfl (yA (zJ rfl (zA1 (oad rfl rfl (by omega)) (zA1 (omv rfl) (zA0 ?_)))))))
   rotate_left 1
   refine ⟨i + 1,tes ?_ ?_ (List.Sublist.refl _),?_,(by omega)⟩
   refine tc rfl (ps_r _) (tn)
   refine tc rfl (ps_r _) (tc rfl (ps_r _) (tc rfl (ps_r _) (tn)))
   rotate_left 1
   exact ⟨by rw [h3.1]; exact hS,by omega⟩
  ·refine zA1 (ont rfl) (zA0 (zI3 rfl rfl (zZ ?_)))
   rotate_left 1
   exact .inr hX
 ·have:i=l.length:=by have:=df c0; omega
  subst this
  rw [List.take_length] at hS
  exact .inl hS
theorem zZ1 {l:List Rat}:CTy prog 200 [sv (sl 3 (l.map (rtq n)))] (fn 262 [pa (sl 3 (l.map (rtq n)))]):=by
 refine ctc func200 rfl rfl rfl rfl fun X=>(zH (zJ rfl (zA1 (obx rfl) (zA1 (oas rfl) (zA0 (zH (zJ rfl (zA1 (omf rfl) (zA1 (oas rfl) ?_)))))))))
 refine zA0 (zZ (⟨[_],rst rfl rs0,yN (PSub.refl _)⟩))
theorem ctoW {P:Program} {f:FuncId} {τs σs:List PV} {Si:List Ow} {Q:PV→List Ow→Prop} (h:CTo P f σs Si Q) (k:Fsub τs σs):CTo P f τs Si Q:=⟨h.bod,fun M w vs a b c d e=>h.run M w vs a b c d (k _ _ _ e)⟩
theorem oT (t:List Rat) (x:Rat):sumR (t ++ [x])=sumR t + x:=by simp [sumR]
theorem zW3 {l:List Rat} (hn:n≤90000) (hl:l.length≤2) (h:∀ x ∈ l,rlen x (n + 1)):CTy prog 140 [sv (sl 3 (l.map (rtq n)))] (ag (rtc (l.length * (n + 2) + 2) (sumR l))):=by
 refine ctc func140 rfl rfl rfl rfl fun X=>(zH (zJ rfl (tal fun b2=>(zA0 (zH (zJ rfl (zA1 (oca rfl rfl fun _=>krof (by (simp; done))) ?_)))))))
 refine zA1 (obd rfl rfl rfl) (tbx rfl fun b7=>(tal fun b3=>(tst 0 rfl rfl rfl rfl rfl rfl (qE (gC (s:=3) 0 rfl rfl) (zA0 (zH (zH (zJ rfl (zA1 (omv rfl) ?_)))))))))
 refine zA1 (oca rfl rfl fun _=>zZ1) (zA0 (zT ?_))
 rotate_left 1
 refine fY (σ:=List Rat) (fun t=>[.blk b7 163 [rtc (t.length * (n + 2) + 2) (sumR t)],.blk b2 33 (zc (Value.agg #[.bool false,.slice none 0 0,.slice none 0 0]))]) (fun pre t=>t=pre∧rlen (sumR t) (t.length * (n + 2) + 2)) [] rfl (iall (by omega) h (by omega)) (fun _=>rfl) rfl tN (by simp [sumR]) ⟨rfl,by simp [sumR]; exact xS pA (by omega)⟩ (fun pre x post t hx hJ Y y hlp=>?_) (fun t hJ Y _=>?_)
 ·obtain ⟨rfl,hr⟩:=hJ
  have hx2:=h x (by rw [hx]; simp)
  have htl:t.length * (n + 2)≤1 * (n + 2):=Nat.mul_le_mul_right _ (by rw [hx] at hl; simp at hl; omega)
  have hr2:rlen (sumR t + x) ((t ++ [x]).length * (n + 2) + 2):=xS (uM hr hx2) (by rw [List.length_append,List.length_singleton,Nat.succ_mul]; omega)
  refine zJ rfl (zA1 (oas rfl) (zA0 (⟨rfl,fun Y hl=>(zT (zJ rfl (zA1 (old rfl rfl) (zA1 (omv rfl) ?_))))⟩)))
  rotate_left 1
  refine qE (nE (cs':=[ztc (t.length * (n + 2) + 2) (sumR t).num,ntc (t.length * (n + 2) + 2) (sumR t).den]) 0 rfl zR6) ?_
  refine tco [0] rfl rfl rfl (ctoW (oradd (m:=n + 1) (by omega) (by omega) hr2) (fs1 (PSub.refl _) (fs1 zY2 fs0))) ?_
  rintro _ _ ⟨rfl,rfl⟩
  refine zA0 ?_
  rotate_left 1
  refine ⟨t ++ [x],?_,?_⟩
  rotate_left 1
  rotate_left 1
  ·rw [oT]; exact List.Sublist.refl _
  ·exact ⟨rfl,by rw [oT]; exact hr2⟩
 ·obtain ⟨rfl,hr⟩:=hJ
  refine zH (zJ rfl (zA1 (old rfl rfl) (zA1 (onco rfl) (zA1 (ofo rfl) (zA1 (oldo 0 rfl rfl rfl rfl) (tst 1 rfl rfl rfl rfl rfl rfl (zA0 (zZ (⟨[_],rsc 1 rfl rfl rfl rfl rs0,yN (PSub.refl _)⟩)))))))))
abbrev fL (l:List Rat):Rat:=l.foldl (· * ·) 1
theorem nP (t:List Rat) (x:Rat):fL (t ++ [x])=fL t * x:=by simp [fL]
theorem wrmul {l:List Rat} (hn:n≤90000) (hl:l.length≤2) (h:∀ x ∈ l,rlen x (n + 1)):CTy prog 171 [sv (sl 3 (l.map (rtq n)))] (ag (rtc (l.length * (n + 2) + 2) (fL l))):=by
 refine ctc func171 rfl rfl rfl rfl fun X=>(zH (zJ rfl (tal fun b2=>(zA0 (zH (zJ rfl (zA1 (oca rfl rfl fun _=>krof (by (simp; done))) ?_)))))))
 refine zA1 (obd rfl rfl rfl) (tbx rfl fun b7=>(tal fun b3=>(tst 0 rfl rfl rfl rfl rfl rfl (qE (gC (s:=3) 0 rfl rfl) (zA0 (zH (zH (zJ rfl (zA1 (omv rfl) ?_)))))))))
 refine zA1 (oca rfl rfl fun _=>zZ1) (zA0 (zT ?_))
 rotate_left 1
 refine fY (σ:=List Rat) (fun t=>[.blk b7 163 [rtc (t.length * (n + 2) + 2) (fL t)],.blk b2 33 (zc (Value.agg #[.bool false,.slice none 0 0,.slice none 0 0]))]) (fun pre t=>t=pre∧rlen (fL t) (t.length * (n + 2) + 2)) [] rfl (iall (by omega) h (by omega)) (fun _=>rfl) rfl tN (by simp [fL]) ⟨rfl,by simp [fL]; exact xS (show rlen 1 1 from ⟨by rw [show (1:Rat).num.natAbs=1 from rfl,jX]; simp,by rw [show (1:Rat).den=1 from rfl,jX]; simp⟩) (by omega)⟩ (fun pre x post t hx hJ Y y hlp=>?_) (fun t hJ Y _=>?_)
 ·obtain ⟨rfl,hr⟩:=hJ
  have hx2:=h x (by rw [hx]; simp)
  have htl:t.length * (n + 2)≤1 * (n + 2):=Nat.mul_le_mul_right _ (by rw [hx] at hl; simp at hl; omega)
  have hr2:rlen (fL t * x) ((t ++ [x]).length * (n + 2) + 2):=xS (bH hr hx2) (by rw [List.length_append,List.length_singleton,Nat.succ_mul]; omega)
  refine zJ rfl (zA1 (oas rfl) (zA0 (⟨rfl,fun Y hl=>(zT (zJ rfl (zA1 (old rfl rfl) (zA1 (omv rfl) ?_))))⟩)))
  rotate_left 1
  refine tco [0] rfl rfl rfl (ormul (m:=n + 1) (by omega) (by omega) hr2) ?_
  rintro _ _ ⟨rfl,rfl⟩
  refine zA0 ?_
  rotate_left 1
  refine ⟨t ++ [x],?_,?_⟩
  rotate_left 1
  rotate_left 1
  ·rw [nP]; exact List.Sublist.refl _
  ·exact ⟨rfl,by rw [nP]; exact hr2⟩
 ·obtain ⟨rfl,hr⟩:=hJ
  refine zH (zJ rfl (zA1 (old rfl rfl) (zA1 (onco rfl) (zA1 (ofo rfl) (zA1 (oldo 0 rfl rfl rfl rfl) (tst 1 rfl rfl rfl rfl rfl rfl (zA0 (zZ (⟨[_],rsc 1 rfl rfl rfl rfl rs0,yN (PSub.refl _)⟩)))))))))
theorem vq_rl {l:List Rat} [h:VQ Ψ n l] {M:Nat→Prop} {w:World} {v:Value} (h1:Ψ.p M w v):∀ x ∈ l,rlen x (n + 1):=fun x hx=>by
 obtain ⟨cs,h3,h2⟩:=(h.h h1).row
 obtain ⟨i,hi,rfl⟩:=List.mem_iff_getElem.1 hx
 obtain ⟨us,_,_,s,a,d,_,g⟩:=h2 i _ (List.getElem?_eq_getElem hi)
 exact g.rlen
theorem zV7 {l:List Rat} [h:VQ Ψ n l] {P:Program} {f:FuncId} {ρ:PV} (hb:Bod P f) (k:(∀ x ∈ l,rlen x (n + 1))→CTy P f [sv (sl 3 (l.map (rtq n)))] ρ):CTy P f [Ψ] ρ :=
 ⟨hb,fun M w vs hM hT hv=>by
  obtain ⟨v,e,h1⟩:=fa1 hv
  subst e
  exact (k (vq_rl h1)).run M w _ hM hT (fs1 vq_q fs0 _ _ _ hv)⟩
theorem zJ9 {n N:Nat} {p q:Rat} (e:p=q) (h:rlen q N):PSub (ag (rtc n p)) (ag (rtc N q)):=fun _ _ _ ⟨us,e1,s,a,d,e2,g⟩=>⟨us,e1,s,a,d,e2,by subst e; exact g.relen h⟩
theorem kraddN [h:VQ Ψ n [p,q]] (hn:n≤90000) (hr:rlen (p + q) N):CTy prog 140 [Ψ] (ag (rtc N (p + q))):=zV7 (h:=h) (bo func140) fun k=>fU (zW3 hn (by simp) k) (zJ9 (by simp [sumR,Rat.zero_add]) hr)
theorem zZ2 [h:VQ Ψ n [p,q]] (hn:n≤90000):CTy prog 140 [Ψ] (ag (rtc (2 * n + 3) (p + q))):=zV7 (h:=h) (bo func140) fun k=>fU (zW3 hn (by simp) k) (zJ9 (by simp [sumR,Rat.zero_add]) (xS (uM (k p (by simp)) (k q (by simp))) (by omega)))
theorem zL9 [h:VQ Ψ n [p,q]] (hn:n≤90000):CTy prog 171 [Ψ] (ag (rtc (2 * n + 3) (p * q))):=zV7 (h:=h) (bo func171) fun k=>fU (wrmul hn (by simp) k) (zJ9 (by simp [fL,Rat.one_mul]) (xS (bH (k p (by simp)) (k q (by simp))) (by omega)))
theorem zT7 [h:QR Ψ n p] [h':QR Φ m q] (hn:n≤80000) (hm:m≤80000):CTy prog 170 [Ψ,Φ] (ag (rtc (n + m + 3) (p - q))):=oI (bo func170) fun hr hs=>by
 have e:p + -q=p - q:=(Rat.sub_eq_add_neg p q).symm
 refine ctc func170 rfl rfl rfl rfl fun X=>(zH (zJ rfl (zA1 (obx rfl) (zA1 (obx rfl) (tal fun b4=>(zA0 (zH (yR 5 mixed rfl rfl (d1 (old rfl rfl) ?_)))))))))
 refine d1 (old rfl rfl) (d1 (oca rfl rfl fun _=>zL8 (by omega)) (d1 (obs rfl rfl rfl rfl rfl rfl) (d1 (oca rfl rfl fun _=>kraddN (N:=n + m + 3) (by omega) (xS (uM hr (eC hs)) (by omega))) (d0 (tst 0 rfl rfl rfl rfl rfl rfl (zA0 (zZ (⟨[_],rsc 0 rfl rfl rfl rfl rs0,yN ?_⟩))))))))
 rotate_left 1
 exact zJ9 e (e ▸ xS (uM hr (eC hs)) (by omega))
theorem kqdiv {j:Nat} [h:VN Ψ n k] [h':VN Φ m j] (hn:n≤1000000) (hm:m≤1000000) (hj:j ≠ 0):CTy prog 286 [Ψ,Φ] (tu [sv (ntc n (k / j)),sv (ntc m (k % j)),exP (.int .i64 0)]) :=
 ⟨(bo func286),fun M w vs hM hT hv=>by
  obtain ⟨v,u,rfl,h1,h2⟩:=fa2 hv
  obtain ⟨xs,g1,g2,g3⟩:=(h.h h1).ex
  obtain ⟨ys,g4,g5,g6⟩:=(h'.h h2).ex
  subst g3 g6
  have l1:=xV g1.lt; have l2:=xV g4.lt
  refine (zN8 g1 g4 (by omega) (by omega) hM).mono fun r w' ⟨hB,q,s,e,k1,k2⟩=>⟨hB,_,e,?_⟩
  rw [if_neg hj] at k2 ⊢
  exact ⟨_,_,rfl,⟨_,rfl,dQ (k1.nat hM) (Nat.le_trans (yG (Nat.div_le_self _ _)) (by omega)),k1.nat hM⟩,_,_,rfl,⟨_,rfl,dQ (k2.nat hM) (Nat.le_trans (yG (Nat.le_of_lt (Nat.mod_lt _ (by omega)))) (by omega)),k2.nat hM⟩,_,_,rfl,rfl,rfl⟩⟩
theorem ntx1 {M:Nat→Prop} {w:World} {us:List Value} (h:(sl 1 [xc (.int .u32 1)]).p M w us):(ntx [1]).p M w us:=by
 obtain ⟨u,cs,rfl,h1,⟨x,y,rfl,⟨e2,_⟩,h3⟩,_⟩:=h
 obtain rfl:y=[]:=h3
 subst e2
 exact ⟨u,rfl,h1,by simp⟩
instance:CN (sl 1 [xc (.int .u32 1)]) 1 1:=⟨fun h=>by obtain ⟨a,e,g⟩:=ntx1 h; exact ⟨a,e,[1],g,by simp,rfl⟩⟩
theorem kninc (hn:n≤500000):CTy prog 279 [sv (sl 1 [ntc n k,sl 1 [xc (.int .u32 1)]])] (sv (ntq (n + 1) (k + 1))) :=
 ⟨(bo func279),fun M w vs hM hT hv=>by
  obtain ⟨v,rfl,u,us,e,k1,⟨x,y,rfl,⟨a,rfl,g1,g2⟩,x2,y2,rfl,g3,g4⟩,k3⟩:=fa1 hv
  obtain rfl:=List.singleton_inj.1 e
  obtain rfl:y2=[]:=g4
  obtain ⟨b,rfl,g5⟩:=ntx1 g3
  have hl:(limbs k).length≤n:=by obtain ⟨xs,j1,j2,j3⟩:=g1.ex; rw [← j3]; exact Nat.le_trans (xV j1.lt) j2
  refine (zW1 (xss:=[limbs k,[1]]) ⟨[a,b],k1,fun i xs hi=>?_⟩ (fun x hx=>by simp at hx; rcases hx with rfl | rfl; omega; simp) (by simp) hM).mono fun r w' ⟨hB,g⟩=>⟨hB,r,rfl,?_⟩
  ·match i with
   | 0=>simp at hi; subst hi; exact ⟨a,rfl,g2⟩
   | 1=>simp at hi; subst hi; exact ⟨b,rfl,g5⟩
   | i + 2=>simp at hi
  ·have e:(([limbs k,[1]]:List (List Nat)).map val).sum=k + 1:=by simp [zP]; rfl
   rw [e] at g
   exact dQ (g.nat hM) (yJ (by have:=yP hl; rw [Nat.pow_succ]; omega))⟩
def floorQ (p:Rat):Int:=p.num / (p.den:Int)
theorem krfloor [h:QR Ψ n p] (hn:n≤80000):CTy prog 249 [Ψ] (ag (ztc (n + 3) (floorQ p))):=vI (bo func249) fun hr=>by
 have hd:=p.den_nz
 have e0:=@yH (p.num.natAbs % p.den)
 refine ctc func249 rfl rfl rfl rfl fun X=>(zH (zJ rfl (zA1 (obx rfl) (tal fun b2=>(zA0 (zH (zJ rfl (zA1 (old rfl rfl) (zA1 (oca rfl rfl fun _=>kofN (N:=n + 1) (by omega) hr) ?_)))))))))
 refine zA1 (oas rfl) (zA0 (zH (yR 19 mixed rfl rfl (d1 (omv rfl) (d1 (onc rfl) (d1 (ofa rfl rfl) (d1 (ofx rfl) (d1 (ofx rfl) (d1 (old rfl rfl) ?_)))))))))
 refine d1 (omv rfl) (d1 (onc rfl) (d1 (ofa rfl rfl) (d1 (ofx rfl) (d1 (old rfl rfl) (d1 (oca rfl rfl fun _=>kqdiv (by omega) (by omega) (by omega)) (d1 (omv rfl) (d1 (oex rfl rfl) (d1 (oex rfl rfl) (d1 (oex rfl rfl) ?_)))))))))
 refine d1 (oas rfl) (d1 (oas rfl) (d1 (oas rfl) (d0 (zA0 (zH (zH (zJ rfl (zA1 (omv rfl) (zA1 (onc rfl) ?_)))))))))
 refine zA1 (ofa rfl rfl) (zA1 (ofx rfl) (zA1 (ofx rfl) (zA1 (old rfl rfl) (zA1 (omv rfl) (t1g rfl rfl (omv rfl) (t1g rfl rfl (oln rfl) (t1g rfl rfl (ogt rfl rfl) (zA1 (opk rfl rfl rfl) (zA0 ?_)))))))))
 refine t_if rfl (fun c0=>?_) (fun c0=>?_)
 refine zJ rfl (zA1 (omv rfl) (zA1 (obs rfl rfl rfl rfl rfl rfl) (zA1 (obs rfl rfl rfl rfl rfl rfl) (zA1 (oca rfl rfl fun _=>kninc (by omega)) (zA1 (oas rfl) (zA0 (zH (zJ rfl (zA1 (omv rfl) ?_)))))))))
 refine zA1 (onc rfl) (zA1 (ofa rfl rfl) (zA1 (ofx rfl) (zA1 (ofx rfl) (zA1 (old rfl rfl) (zA1 (omv rfl) ?_)))))
 refine zA1 (obd rfl rfl rfl) (zA1 (oca rfl rfl fun _=>zZ6 (by omega)) (tst 0 rfl rfl rfl rfl rfl rfl (zA0 (zZ (⟨[_],rsc 0 rfl rfl rfl rfl rs0,yN ?_⟩)))))
 rotate_left 1
 refine yA (zH (zJ rfl (zA1 (omv rfl) (zA1 (onc rfl) (zA1 (ofa rfl rfl) (zA1 (ofx rfl) (zA1 (ofx rfl) (zA1 (old rfl rfl) (zA1 (omv rfl) ?_)))))))))
 refine zA1 (obd rfl rfl rfl) (zA1 (oca rfl rfl fun _=>zZ6 (by omega)) (tst 0 rfl rfl rfl rfl rfl rfl (zA0 (zZ (⟨[_],rsc 0 rfl rfl rfl rfl rs0,yN ?_⟩)))))
 rotate_left 1
 ·obtain ⟨h1,h2⟩:=dand c0
  refine bI ?_ (by omega)
  have:=floor_up hd h1 (by omega)
  unfold zv at this; rw [zP] at this; exact this
 ·refine bI ?_ (by omega)
  rcases Decidable.em (p.num < 0) with h1 | h1
  ·have h2:=c0.h
   rw [decide_eq_true h1,Bool.true_and] at h2
   have h3:=of_decide_eq_false h2
   have:=floor_neg hd h1 (by omega)
   unfold zv at this; rw [zP] at this; exact this
  ·have:=floor_pos (d:=p.den) h1
   unfold zv at this; rw [zP] at this; exact this
theorem krabove [h:QR Ψ n p] (hn:n≤80000):CTy prog 181 [Ψ] (ag (ztc (n + 5) (qP p))):=vI (bo func181) fun hr=>by
 refine ctc func181 rfl rfl rfl rfl fun X=>(zH (zJ rfl (zA1 (obx rfl) (tal fun b2=>(zA0 (zH (zJ rfl (zA1 (old rfl rfl) (zA1 (oca rfl rfl fun _=>krfloor (by omega)) ?_)))))))))
 refine zA1 (oca rfl rfl fun _=>kiof (k:=1) (N:=2) (by omega) (by omega)) (zA1 (obs rfl rfl rfl rfl rfl rfl) (zA1 (oca rfl rfl fun _=>zT8 (by omega) (by (simp; done))) (tst 0 rfl rfl rfl rfl rfl rfl (zA0 (zZ (⟨[_],rsc 0 rfl rfl rfl rfl rs0,yN (PSub.refl _)⟩))))))
end
end Go.Proofs.YtflobagimodmgaaGreatDoor
set_option maxHeartbeats 4000000
namespace Go.Proofs.YtflobagimodmgaaGreatDoor
open Go.SL Go.RowKit Go.Proofs Tryz
section
variable {Ψ Φ : PV} {n m k N j : Nat} {p q : Rat} {z : Int} {M : Nat → Prop} {w : World} {us : List Value}
theorem kpup [h:VN Ψ n k] (hn:n≤1000000) (hj:j≤65536):CTy prog 182 [Ψ,exP (.int .i64 ((j:Nat):Int))] (sv (ntq (n + (j / 32 + 1)) (k * 2 ^ j))) :=
 ⟨(bo func182),fun M w vs hM hT hv=>by
  obtain ⟨v,u,rfl,h1,h2⟩:=fa2 hv
  obtain rfl:u=_:=h2
  obtain ⟨xs,g1,g2,rfl⟩:=(h.h h1).ex
  refine (up_c g1 (by omega) hM).mono fun r w' ⟨hB,g⟩=>⟨hB,r,rfl,?_⟩
  rw [show cntN ((j:Nat):Int) 65536=j by unfold cntN; omega] at g
  refine dQ (g.nat hM) (yJ (jU (yP (Nat.le_trans (xV g1.lt) g2)) ?_))
  rw [show 4294967296=2 ^ 32 by decide,← Nat.pow_mul]
  exact Nat.pow_lt_pow_right (by omega) (by omega)⟩
theorem rt_cut3 (h:stp [rtc n p] M w us):stp [xc (.bool (decide (p.num < 0))),ntc n p.num.natAbs,ntc n p.den] M w us:=by
 obtain ⟨x,y,rfl,⟨s,a,d,rfl,g⟩,h2⟩:=h
 obtain rfl:y=[]:=h2
 rw [g.sgn]
 exact ⟨[_],[a,d],rfl,⟨rfl,rfl⟩,[a],[d],rfl,⟨a,rfl,dQ g.num g.len.1,g.num⟩,[d],[],rfl,⟨d,rfl,dQ g.den g.len.2,g.den⟩,rfl⟩
theorem st_in {a b c:CT} (h:stp [a,b,c] M w us):stp [st [a,b],c] M w us:=by
 obtain ⟨x,y,rfl,h1,x2,y2,rfl,h2,x3,y3,rfl,h3,h4⟩:=h
 obtain rfl:y3=[]:=h4
 exact ⟨x ++ x2,x3,by simp,⟨x,x2,rfl,h1,x2,[],by simp,h2,rfl⟩,x3,[],by simp,h3,rfl⟩
theorem yA4 (q:Rat):mkRat (if decide (q.num < 0)=true then -((q.num.natAbs * 2 ^ 1:Nat):Int) else ((q.num.natAbs * 2 ^ 1:Nat):Int)) q.den=q * 2:=by
 have:=dbl_mk q
 unfold zv at this
 rwa [zP,zP,zP] at this
theorem idbl {S:Nat} (hn:n≤80000) (hr:rlen p (n + 1)) (hm:m≤90000) (hlen:∀ s,s≤S→rlen (p * p2 s) m) (hS0:S≤1000000):CItF False prog 247 [pa (rtq n p)] (List.range (S + 1)) (fun s=>[exP (.int .i64 ((s:Nat):Int)),ag (rtc m (p * p2 s))]):=by
 refine citF func247 rfl rfl rfl rfl rfl fun X y YS YX hY hfin hS=>?_
 have hfin:=hfin.resolve_left id
 have hp0:p * p2 0=p:=by rw [p2_zero]; exact Rat.mul_one p
 refine zH (zJ rfl (zA1 (old rfl rfl) ?_))
 rotate_left 1
 refine tco [] rfl rfl rfl (oof (N:=m) (by omega) (hp0 ▸ hlen 0 (by omega))) ?_
 rintro _ _ ⟨b6,rfl,rfl⟩
 refine zA1 (oas rfl) (zA0 (zH (zJ rfl (zA1 (oas rfl) (zA0 (zT ?_))))))
 rotate_left 1
 refine dX (σ:=Nat) (fun s=>[(4,True,exP (.int .i64 ((s:Nat):Int)))]) (fun s=>[.blk b6 163 [rtc m (p * p2 s)]]) (fun s Y=>YS ((List.range (S + 1)).take s) Y∧s≤S) (fun s=>S + 1 - s) (0) (tk 0 rfl (tk 3 rfl tn)) ?_ ?_ (⟨hS,by omega⟩) (fun s Y hG=>?_)
 refine tc rfl (ps_r _) (tn)
 rotate_left 1
 rotate_left 1
 ·rw [hp0]; rfl
 obtain ⟨hS2,hs⟩:=hG
 have hx:=yZ (0:Nat) (l:=List.range (S + 1)) (s:=s) (by simp; omega)
 have hg:(List.range (S + 1)).getD s 0=s:=by simp [List.getD_eq_getElem?_getD,List.getElem?_range (show s < S + 1 by omega)]
 rw [hg] at hx
 have hlm:=hlen s hs
 refine zH (zH (zJ rfl (zA1 (omv rfl) (zA1 (omv rfl) (zA1 (omv rfl) (zA1 (onco rfl) (zA1 (ofo rfl) (zA1 (oldo 0 rfl rfl rfl rfl) ?_))))))))
 rotate_left 1
 refine mE hY hS2 hx.2 rfl rfl (fs1 (PSub.refl _) (fs1 (PSub.refl _) fs0)) (fun Y hS=>?_) (fun Y hX=>?_)
 ·have hs3:s + 1≤S:=by
   rcases Nat.lt_or_ge s S with h | h
   ·exact h
   ·exact absurd (by rw [← hx.1,List.take_of_length_le (by simp; omega)] at hS; exact hS) (hfin _)
  have hr3:=hlen (s + 1) hs3
  rw [zK5,← Rat.mul_assoc] at hr3
  refine zA0 (zI3 rfl rfl (yA (zH (zT (zH (zJ rfl (zA1 (omv rfl) (zA1 (omv rfl) (zA1 (onco rfl) ?_)))))))))
  refine zA1 (ofo rfl) (zA1 (ofo rfl) (zA1 (ofo rfl) (zA1 (oldf 0 1 rfl rfl rfl rfl) (zA1 (oca rfl rfl fun _=>kpup (j:=1) (by omega) (by omega)) (zA1 (onco rfl) (zA1 (ofo rfl) (zA1 (ofo rfl) (zA1 (ofo rfl) ?_))))))))
  rotate_left 1
  refine qE (nE (cs':=[xc (.bool (decide ((p * p2 s).num < 0))),ntc m (p * p2 s).num.natAbs,ntc m (p * p2 s).den]) 0 rfl rt_cut3) ?_
  refine tst 0 rfl rfl rfl rfl rfl rfl (zA0 (zJ rfl (zA1 (omv rfl) ?_)))
  rotate_left 1
  refine qE (nE (cs':=[st [xc (.bool (decide ((p * p2 s).num < 0))),ntq (m + (1 / 32 + 1)) ((p * p2 s).num.natAbs * 2 ^ 1)],ntc m (p * p2 s).den]) 0 rfl st_in) ?_
  refine tco [0] rfl rfl rfl (wH (N:=m) (by omega) (by omega) (by rw [yA4]; exact hr3)) ?_
  rintro _ _ ⟨rfl,rfl⟩
  rw [yA4]
  refine zA0 (zJ rfl (zA1 (omv rfl) (zA1 (oad rfl rfl (by omega)) (zA1 (oas rfl) (zA0 ?_)))))
  rotate_left 1
  refine ⟨s + 1,tes ?_ ?_ ?_,?_,(by omega)⟩
  refine tc rfl (ps_r _) (tn)
  refine tc rfl (ps_r _) (tc rfl (ps_r _) (tn))
  rotate_left 1
  rotate_left 1
  ·rw [zK5,← Rat.mul_assoc]; exact List.Sublist.refl _
  ·exact ⟨by rw [hx.1]; exact hS,hs3⟩
 ·refine zA0 (sV rfl rfl (xN ?_))
  rotate_left 1
  exact .inr hX
theorem krdbl:CTy prog 180 [ag (rtq n p)] (fn 247 [pa (rtq n p)]):=by
 refine ctc func180 rfl rfl rfl rfl fun X=>(zH (zJ rfl (zA1 (obx rfl) (zA1 (oas rfl) (zA0 (zH (zJ rfl (zA1 (omf rfl) (zA1 (oas rfl) ?_)))))))))
 refine zA0 (zZ (⟨[_],rst rfl rs0,yN (PSub.refl _)⟩))
end
theorem obz {P:Program} {r:Option Nat} {N:Nat} {ops:Array Oper} {M:Nat→Prop} {S:List Ow} {p qx:Prop} {Γ:TE} {Ψx:PV} {c:CT} {d:Nat} {x:Operand} {t t':TypeId} {pos:String} {af:Array Edge} (hx:tv Γ x=some (qx,Ψx)) [Im p qx] [hp:TPl P t [1,1]] [tz:TZ P t (.agg #[.bool false,.slice none 0 0])] [hc:CtOf Ψx c] (hs:Nat.beq c.sz 1=true) :
  Ob P r N ops M S p ⟨some d,.build t #[(1,x)],t',pos,af,none⟩ Γ (ag (st [xc (.bool false),c])) :=
 ob1 hx (by simp [Op.operands]) fun D E w u hN hg e1 h1=>by
  obtain ⟨us,k1,k2⟩:=hc.h h1
  obtain ⟨sz,bytes,hz⟩:=tz.s
  have hl:us.length=1:=(c.len k2).trans (Nat.eq_of_beq_eq_true hs)
  refine qU (vs:=[u]) (cs:=[us]) (zs:=[.bool false,.slice none 0 0]) hN hp.h hz (by simp [evs,e1]) ⟨k1,trivial⟩ (by simp [hl]) rfl (fin ⟨[.bool false] ++ us,?_,[.bool false],us,rfl,⟨rfl,rfl⟩,us,[],by simp,k2,rfl⟩)
  simp [updC,hl]
instance {c d:CT} {n m k:Nat} {z:Int} [hc:CZ c n z] [hd:CN d m k]:CQ (st [c,d]) (max n m) (mkRat z k):=⟨fun ⟨x,y,e,k1,z,o,e2,k2,e3⟩=>by
 obtain ⟨s,a,rfl,g⟩:=hc.h k1
 obtain ⟨b,rfl,g'⟩:=hd.h k2
 obtain rfl:o=[]:=e3
 obtain ⟨xs,g1,g2,g3⟩:=g.ex
 obtain ⟨ds,g4,g5,g6⟩:=g'.ex
 exact ⟨s,a,b,by rw [e,e2]; rfl,xs,ds,g1,g4,by omega,by omega,by rw [g3,g6]⟩⟩
section
variable {Ψ Φ : PV} {n m k N K : Nat} {p q : Rat}
theorem mM [h:QR Ψ n p] (hn:n≤90000) (hm:n + 1≤m):CTy prog 120 [Ψ] (ag (rtc m p)):=fU (wJ hn) fun _ _ _ ⟨us,e,s,a,d,e2,g⟩=>⟨us,e,s,a,d,e2,g.up hm⟩
theorem tW {K:Nat} (hk:k < 9223372036854775808) (hK:2≤K):CTy prog 128 [exP (.int .i64 ((k:Nat):Int))] (ag (rtc K ((k:Nat):Rat))):=fU (krof hk) fun _ _ _ ⟨us,e,s,a,d,e2,g⟩=>⟨us,e,s,a,d,e2,g.up hK⟩
theorem range_ix {S x:Nat} {pre post:List Nat} (h:List.range (S + 1)=pre ++ x :: post):x=pre.length∧x≤S:=by
 have hl:=congrArg List.length h
 have hg:=congrArg (fun l=>l[pre.length]?) h
 simp at hl hg
 have:pre.length < S + 1:=by omega
 rw [List.getElem?_range this] at hg
 injection hg with hg
 omega
theorem zR5 {p q:Rat} (e:p=q):PSub (ag (rtc n p)) (ag (rtc n q)):=fun _ _ _ h=>e ▸ h
theorem zQ0 (hn:n≤300) (hm:m≤300) (hr:rlen p (n + 1)) (hs:rlen q (m + 1)) (hK:2 * (n + m) + 40≤K) (hq:0 < q):CTy prog 127 [ag (rtq n p),ag (rtq m q)] (tu [ag (rtc K (gQ p q)),exP (.bool (decide (p < q)))]):=by
 have hlen:∀ s,s≤32 * (n + 1 + (m + 1))→rlen (p * p2 s) (2 * n + m + 4):=fun s h=>by
  have:=p2_len (s:=s) hr.1 hr.2
  exact ⟨by omega,by omega⟩
 have hno:=@vG p q (n + 1) (m + 1)
 refine ctc func127 rfl rfl rfl rfl fun X=>(zH (zJ rfl (zA1 (obx rfl) (zA1 (obx rfl) (tal fun b4=>(zA1 (oas rfl) (zA0 (mF (zH ?_)))))))))
 refine zH (zJ rfl (zA1 (old rfl rfl) (zA1 (old rfl rfl) (zA1 (oca rfl rfl fun _=>fM (by omega) (by omega)) (zA1 (oge rfl rfl) (zA0 ?_))))))
 refine t_if rfl (fun c0=>?_) (fun c0=>?_)
 refine zH (zJ rfl (zA1 (oca rfl rfl fun _=>tW (k:=0) (K:=K) (by omega) (by omega)) (tst 0 rfl rfl rfl rfl rfl rfl (zA1 (oas rfl) (zA0 (zZ ?_))))))
 refine ⟨[_,_],rsc 0 rfl rfl rfl rfl (rst rfl rs0),uW ?_ ?_⟩
 rotate_left 1
 refine psb ?_
 rotate_left 1
 refine yA (zH (zH (zJ rfl (zA1 (old rfl rfl) (zA1 (oca rfl rfl fun _=>rW (by omega)) (zA1 (ole rfl rfl) (zA0 ?_)))))))
 refine t_if rfl (fun c1=>?_) (fun c1=>?_)
 refine zH ?_
 rotate_left 1
 refine yA (zH (zH (zJ rfl (zA1 (old rfl rfl) (zA1 (oca rfl rfl fun _=>rW (by omega)) (zA1 (olt rfl rfl) (zA0 ?_)))))))
 refine t_if rfl (fun c2=>?_) (fun c2=>?_)
 refine zH (zJ rfl (zA1 (oca rfl rfl fun _=>tW (k:=0) (K:=K) (by omega) (by omega)) (tst 0 rfl rfl rfl rfl rfl rfl (zA1 (oas rfl) (zA0 (zZ ?_))))))
 refine ⟨[_,_],rsc 0 rfl rfl rfl rfl (rst rfl rs0),uW ?_ ?_⟩
 rotate_left 1
 refine psb ?_
 rotate_left 1
 refine yA (zH (zJ rfl (zA1 (old rfl rfl) ?_)))
 rotate_left 1
 ·have h:=qL.1 (dt c0)
  exact zR5 (by unfold gQ; rw [if_neg (by grind)]; rfl)
 ·have h:=qL.1 (dt c0)
  rw [decide_eq_false (by grind)]
 ·have h:=fZ.1 (dt c1)
  grind
 ·have h:=mt qL.2 (df c0)
  have h2:=zJ7.1 (dt c2)
  exact zR5 (by unfold gQ oN; rw [if_pos (by grind),if_pos hq,if_pos h2]; rfl)
 ·have h:=mt qL.2 (df c0)
  rw [decide_eq_true (by grind)]
 have hlt:p < q:=by have h:=mt qL.2 (df c0); grind
 have hp0:¬ p < 0:=mt zJ7.2 (df c2)
 refine tco [] rfl rfl rfl (oof (N:=m + 1) (by omega) hs) ?_
 rintro _ _ ⟨bq,rfl,rfl⟩
 refine tal fun b6=>(tst 0 rfl rfl rfl rfl rfl rfl (zA0 (zH (rC (zH (zH (zJ rfl (zA1 (old rfl rfl) (zA1 (oca rfl rfl fun _=>krdbl) ?_)))))))))
 refine zA0 (zT ?_)
 rotate_left 1
 refine sU (fin:=False) (σ:=Bool) (fun t=>[.blk b6 159 [xc (.pointer (some ⟨bq,0,none⟩))],.blk bq 163 [rtc (m + 1) q],.blk b4 33 (bif t then [rtc K (gQ p q)] else zc (.agg #[.bool false,.slice none 0 0,.slice none 0 0]))]) (fun pre t=>t=false∧∀ r,r < pre.length→¬ dyOk p q r) false rfl (idbl (m:=2 * n + m + 4) (S:=32 * (n + 1 + (m + 1))) (by omega) hr (by omega) hlen (by omega)) (fun _=>rfl) rfl tN (.inr fun t hJ=>hJ.2 (32 * (n + 1 + (m + 1))) (by simp) (hno hlt (yP hr.2) (yP hs.2))) rfl ⟨rfl,by simp⟩ (fun pre x post t hx hJ Y y hl=>?_) (fun t hJ Y _=>?_)
 ·obtain ⟨rfl,hd⟩:=hJ
  obtain ⟨hx1,hx2⟩:=range_ix hx
  have e2:mkRat (if false=true then -((q.num.natAbs * 2 ^ x:Nat):Int) else ((q.num.natAbs * 2 ^ x:Nat):Int)) q.den=q * p2 x:=by
   have hq2:0≤q.num:=Rat.num_nonneg.2 (Rat.le_of_lt hq)
   rw [if_neg (by simp),← zY6,Int.natCast_mul,Int.natAbs_of_nonneg hq2]
  refine zH (zJ rfl (zA1 (oas rfl) (zA0 (zJ rfl (tal fun b8=>(tst 0 rfl rfl rfl rfl rfl rfl (qE (gC (s:=8) 0 rfl rfl) (zA0 (⟨rfl,fun Y hl=>?_⟩)))))))))
  refine zT (zH (zJ rfl (zA1 (old rfl rfl) (zA1 (oca rfl rfl fun _=>krabove (by omega)) (tal fun b9=>(tst 0 rfl rfl rfl rfl rfl rfl (qE (gC (s:=9) 0 rfl rfl) (zA0 (zH ?_)))))))))
  refine yR 20 mixed rfl rfl (d1 (old rfl rfl) (d1 (obs rfl rfl rfl rfl rfl rfl) ?_))
  refine d1 (obd rfl rfl rfl) (d1 (oldo 0 rfl rfl rfl rfl) (d1 (onco rfl) (d1 (ofo rfl) (d1 (ofo rfl) (d1 (ofo rfl) (d1 (oldf 1 1 rfl rfl rfl rfl) (d1 (omv rfl) (d1 (oca rfl rfl fun _=>kpup (j:=x) (by omega) (by omega)) (d1 (obz rfl rfl) ?_)))))))))
  refine d1 (oldo 0 rfl rfl rfl rfl) (d1 (onco rfl) (d1 (ofo rfl) (d1 (ofo rfl) (d1 (oldf 1 2 rfl rfl rfl rfl) ?_))))
  refine d1 (obd rfl rfl rfl) (d1 (oca rfl rfl fun _=>fM (by omega) (by omega)) (d1 (olt rfl rfl) (d0 (zA0 ?_))))
  refine t_if rfl (fun c3=>?_) (fun c3=>?_)
  refine zH (yR 6 mixed rfl rfl (d1 (old rfl rfl) (d1 (obs rfl rfl rfl rfl rfl rfl) (d1 (omv rfl) (d1 (oca rfl rfl fun _=>kpup (j:=x) (by omega) (by omega)) ?_)))))
  refine d1 (obd rfl rfl rfl) (d1 (oca rfl rfl fun _=>mM (m:=K) (by omega) (by omega)) (d0 (tst 2 rfl rfl rfl rfl rfl rfl (zA0 (xN ?_)))))
  rotate_left 1
  refine yA ?_
  rotate_left 1
  ·have hc:=qK.1 (dt c3)
   rw [Rat.mkRat_one,e2] at hc
   have eb:mkRat (qP (p * p2 x)) (1 * 2 ^ x)=gQ p q:=by
    unfold gQ oN; rw [if_pos hlt,if_pos hq,if_neg hp0,wN hlt hc (fun r hr=>hd r (by omega)),Nat.one_mul]; rfl
   rw [eb]
   refine ⟨true,List.Sublist.refl _,fun Y _=>?_⟩
   refine zH (zJ rfl (zA1 (oldo 2 rfl rfl rfl rfl) (tst 2 rfl rfl rfl rfl rfl rfl (zA1 (oas rfl) (zA0 (zZ (⟨[_,_],rsc 2 rfl rfl rfl rfl (rst rfl rs0),uW (PSub.refl _) (psb (by (simp; omega)))⟩)))))))
  ·have hc:=mt qK.2 (df c3)
   rw [Rat.mkRat_one,e2] at hc
   refine ⟨false,(List.Sublist.refl _),?_⟩
   rotate_left 1
   refine ⟨rfl,fun r hr=>?_⟩
   rw [List.length_append,List.length_singleton] at hr
   rcases Nat.lt_or_ge r pre.length with c | c
   ·exact hd r c
   ·obtain rfl:r=x:=by omega
    exact hc
 ·exact absurd (hno hlt (yP hr.2) (yP hs.2)) (hJ.2 _ (by simp))
theorem zZ8 (hn:n≤298) (hm:m≤298) (hK:2 * (n + m) + 50≤K) (hq:0 < q):CTy prog 127 [ag (rtq n p),ag (rtq m q)] (tu [ag (rtc K (gQ p q)),exP (.bool (decide (p < q)))]):=oI (bo func127) fun hr hs=>zQ0 (by omega) (by omega) hr hs (by omega) hq
end
end Go.Proofs.YtflobagimodmgaaGreatDoor
set_option maxHeartbeats 4000000
namespace Go.Proofs.YtflobagimodmgaaGreatDoor
open Go.SL Go.RowKit Go.Proofs Tryz
section
variable {Ψ Φ : PV} {n m k N K : Nat} {p q : Rat}
theorem kbetwc [h:QR Ψ n p] [k:QR Φ m q] (hn:n≤298) (hm:m≤298) (hK:2 * (n + m) + 50≤K) (hq:0 < q):CTy prog 127 [Ψ,Φ] (tu [ag (rtc K (gQ p q)),exP (.bool (decide (p < q)))]):=gF (zZ8 hn hm hK hq) (fs1 qr_q (fs1 qr_q fs0))
theorem wbetwn (hn:n≤290) (hm:m≤290) (hr:rlen p (n + 1)) (hs:rlen q (m + 1)) (hK:2 * (n + m) + 60≤K) (hq:q≤0):CTy prog 127 [ag (rtq n p),ag (rtq m q)] (tu [ag (rtc K (gQ p q)),exP (.bool (decide (p < q)))]):=by
 refine ctc func127 rfl rfl rfl rfl fun X=>(zH (zJ rfl (zA1 (obx rfl) (zA1 (obx rfl) (tal fun b4=>(zA1 (oas rfl) (zA0 (mF (zH ?_)))))))))
 refine zH (zJ rfl (zA1 (old rfl rfl) (zA1 (old rfl rfl) (zA1 (oca rfl rfl fun _=>fM (by omega) (by omega)) (zA1 (oge rfl rfl) (zA0 ?_))))))
 refine t_if rfl (fun c0=>?_) (fun c0=>?_)
 refine zH (zJ rfl (zA1 (oca rfl rfl fun _=>tW (k:=0) (K:=K) (by omega) (by omega)) (tst 0 rfl rfl rfl rfl rfl rfl (zA1 (oas rfl) (zA0 (zZ ?_))))))
 refine ⟨[_,_],rsc 0 rfl rfl rfl rfl (rst rfl rs0),uW ?_ ?_⟩
 rotate_left 1
 refine psb ?_
 rotate_left 1
 refine yA (zH (zH (zJ rfl (zA1 (old rfl rfl) (zA1 (oca rfl rfl fun _=>rW (by omega)) (zA1 (ole rfl rfl) (zA0 ?_)))))))
 refine t_if rfl (fun c1=>?_) (fun c1=>?_)
 refine zH ?_
 apply t_drawV 0 9 0 8 [(8,999,0)] rfl rfl rfl mixed rfl rfl rfl
 refine cx1 (old rfl rfl) rfl (cx1 (oca rfl rfl fun _=>zL8 (by omega)) rfl (cx1 (old rfl rfl) rfl (cx1 (oca rfl rfl fun _=>zL8 (by omega)) rfl (cx1 (oca rfl rfl fun _=>kbetwc (K:=2 * (n + m) + 54) (by omega) (by omega) (by omega) (by have h:=mt qL.2 (df c0); grind)) rfl (cx1 (omv rfl) rfl (cx1 (oex rfl rfl) rfl (cx1 (oex rfl rfl) rfl (cV rfl rfl (cstv rfl rfl rfl rfl) ?_))))))))
 refine cE ?_
 refine zA1 (oas rfl) (zA0 (zH (zJ rfl (zA1 (oldo 0 rfl rfl rfl rfl) (zA1 (oca rfl rfl fun _=>zL8 (by omega)) (zA1 (omv rfl) (tst 0 rfl rfl rfl rfl rfl rfl (zA1 (oas rfl) (zA0 ?_)))))))))
 refine zZ ?_
 refine ⟨[_,_],rsc 0 rfl rfl rfl rfl (rst rfl rs0),uW ?_ ?_⟩
 rotate_left 1
 refine psb (by (simp; done))
 rotate_left 1
 ·have h:=qL.1 (dt c0)
  exact zR5 (by unfold gQ; rw [if_neg (by grind)]; rfl)
 ·have h:=qL.1 (dt c0)
  rw [decide_eq_false (by grind)]
 ·have h:=mt qL.2 (df c0)
  have e:-gQ (-q) (-p)=gQ p q:=by
   unfold gQ
   rw [if_pos (show -q < -p by grind),if_pos (show 0 < -p by grind),if_pos (show p < q by grind),if_neg (by grind)]
  exact fun _ _ _ ⟨us,e1,s,a,d,e2,g⟩=>e ▸ ⟨us,e1,s,a,d,e2,g.up (by omega)⟩
 ·exact absurd (fZ.2 hq) (df c1)
theorem kbetwA (hn:n≤288) (hm:m≤288) (hK:2 * (n + m) + 64≤K):CTy prog 127 [ag (rtq n p),ag (rtq m q)] (tu [ag (rtc K (gQ p q)),exP (.bool (decide (p < q)))]):=oI (bo func127) fun hr hs=>by
 by_cases h0:0 < q
 ·exact zQ0 (by omega) (by omega) hr hs (by omega) h0
 ·exact wbetwn (by omega) (by omega) hr hs (by omega) (Rat.not_lt.1 h0)
end
end Go.Proofs.YtflobagimodmgaaGreatDoor
namespace Go.Proofs.YtflobagimodmgaaGreatDoor
open Go.SL Go.RowKit Go.Proofs Tryz
theorem k7of {k:Nat} (hk:k < 9223372036854775808):CTy prog 94 [exP (.int .i64 ((k:Nat):Int))] (ag (rtc 2 ((k:Nat):Rat))) :=
 ⟨(bo func94),fun M w vs hM hT hv=>by
  obtain ⟨v,rfl,h1⟩:=fa1 hv
  obtain rfl:v=_:=h1
  exact (rL hk hM).mono fun r w' ⟨hB,x,y,z,e,g⟩=>⟨hB,e ▸ zR4 g⟩⟩
theorem pc_ret {M:Nat→Prop} {w:World} {n:Nat} {q:P2} {s:Bool} {a d:Value} {t:Bool} {b e:Value} (h:PC M w n q s a d t b e):(ag (st [rtc n q.1,rtc n q.2])).p M w (.agg #[.bool s,a,d,.bool t,b,e]):=⟨_,rfl,[.bool s,a,d],[.bool t,b,e],rfl,⟨s,a,d,rfl,h.x⟩,[.bool t,b,e],[],rfl,⟨t,b,e,rfl,h.y⟩,rfl⟩
theorem k8of {k l:Nat} (hk:k < 9223372036854775808) (hl:l < 9223372036854775808):CTy prog 85 [exP (.int .i64 ((k:Nat):Int)),exP (.int .i64 ((l:Nat):Int))] (ag (st [rtc 2 ((k:Nat):Rat),rtc 2 ((l:Nat):Rat)])) :=
 ⟨(bo func85),fun M w vs hM hT hv=>by
  obtain ⟨v,u,rfl,h1,h2⟩:=fa2 hv
  obtain rfl:v=_:=h1
  obtain rfl:u=_:=h2
  exact (r8of_c hk hl hM).mono fun r w' ⟨hB,_,_,_,_,_,_,e,g⟩=>⟨hB,e ▸ pc_ret g⟩⟩
theorem omx {P:Program} {r:Option Nat} {N:Nat} {ops:Array Oper} {M:Nat→Prop} {S:List Ow} {p q1 q2:Prop} {Γ:TE} {Ψ Φ:PV} {d:Nat} {x y:Operand} {ts:Array TypeId} {t':TypeId} {pos:String} {af:Array Edge} {k:IntKind} {a b:Int}
  (hx:tv Γ x=some (q1,Ψ)) (hy:tv Γ y=some (q2,Φ)) [Im p q1] [Im p q2] [ha:VI Ψ k a] [hb:VI Φ k b]:Ob P r N ops M S p ⟨some d,.call ⟨.builtin .max,#[x,y],ts⟩,t',pos,af,none⟩ Γ (exP (.int k (max a b))) :=
 ob2 hx hy (by simp [Op.operands,Call.operands]) (by simp [Op.operands,Call.operands]) fun D E w u v hN _ e1 e2 h1 h2=>by rw [ha.h h1] at e1; rw [hb.h h2] at e2; exact kF hN e1 e2 (fin rfl)
theorem omn {P:Program} {r:Option Nat} {N:Nat} {ops:Array Oper} {M:Nat→Prop} {S:List Ow} {p q1 q2:Prop} {Γ:TE} {Ψ Φ:PV} {d:Nat} {x y:Operand} {ts:Array TypeId} {t':TypeId} {pos:String} {af:Array Edge} {k:IntKind} {a b:Int}
  (hx:tv Γ x=some (q1,Ψ)) (hy:tv Γ y=some (q2,Φ)) [Im p q1] [Im p q2] [ha:VI Ψ k a] [hb:VI Φ k b]:Ob P r N ops M S p ⟨some d,.call ⟨.builtin .min,#[x,y],ts⟩,t',pos,af,none⟩ Γ (exP (.int k (min a b))) :=
 ob2 hx hy (by simp [Op.operands,Call.operands]) (by simp [Op.operands,Call.operands]) fun D E w u v hN _ e1 e2 h1 h2=>by
  rw [ha.h h1] at e1; rw [hb.h h2] at e2
  refine xD hN (by intro c hc; cases hc) (fun ac ha=>?_) (fin rfl)
  have e:(Builtin.min_ ts t' #[.int k a,.int k b]).run P w = .ok (.int k (min a b)) w:=by
   have:(if b < a then b else a)=min a b:=by split <;> omega
   rw [← this]; rfl
  simp only [execOp,resolve,invoke,builtin,Sem.run_bind,Sem.run_pure,Result.andThen,List.map_toArray,List.map_cons,List.map_nil,ha.ev e1,ha.ev e2]
  rw [e]
theorem getD_in {α:Type} [Df α] {l:List α} {s:Nat} (h:s < l.length):l.getD s Df.d ∈ l:=by rw [List.getD_eq_getElem?_getD,List.getElem?_eq_getElem h]; exact List.getElem_mem h
end Go.Proofs.YtflobagimodmgaaGreatDoor
set_option maxHeartbeats 4000000
namespace Go.Proofs.YtflobagimodmgaaGreatDoor
open Go.SL Go.RowKit Go.Proofs Tryz
section
variable {xs ys : List Nat} {Ψ Φ : PV}
theorem k2down {j:Int} [h:VX Ψ xs] (hl:xs.length≤100000000):CTy prog 226 [Ψ,exP (.int .i64 j)] (sv (ntx (limbs (val xs / 2 ^ cntN j 65536)))) :=
 ⟨(bo func226),fun M w vs hM hT hv=>by
  obtain ⟨v,u,rfl,k1,k2⟩:=fa2 hv
  obtain rfl:u=_:=k2
  exact (rdown_c (h.h k1) hl hM).mono fun r w' ⟨hB,g⟩=>⟨hB,r,rfl,g.nat hM⟩⟩
theorem k2up {j:Int} [h:VX Ψ xs] (hl:xs.length≤100000000):CTy prog 186 [Ψ,exP (.int .i64 j)] (sv (ntx (limbs (val xs * 2 ^ cntN j 65536)))) :=
 ⟨(bo func186),fun M w vs hM hT hv=>by
  obtain ⟨v,u,rfl,k1,k2⟩:=fa2 hv
  obtain rfl:u=_:=k2
  exact (zX5 (h.h k1) hl hM).mono fun r w' ⟨hB,g⟩=>⟨hB,r,rfl,g.nat hM⟩⟩
theorem k1cmp [h:VX Ψ xs] [k:VX Φ ys] (hl:xs.length≤1099511627776) (hm:ys.length≤1099511627776):CTy prog 227 [Ψ,Φ] (exP (.int .i64 (cmpN (val xs) (val ys)))) :=
 ⟨(bo func227),fun M w vs hM hT hv=>by
  obtain ⟨v,u,rfl,k1,k2⟩:=fa2 hv
  exact zS1 (h.h k1) (k.h k2) hl hm hM⟩
end
theorem kplain7 {a b:Nat} (ha:a < 18446744073709551616) (hb:b < 18446744073709551616):CTy prog 165 [exP (.int .u64 (a:Int)),exP (.int .u64 (b:Int))] (exP (.int .u64 ((Nat.gcd a b:Nat):Int))):=by
 refine ctc func165 rfl rfl rfl rfl fun X=>(zH (zJ rfl (zA1 (oas rfl) (zA0 (zH (zT ?_))))))
 rotate_left 1
 refine xL (σ:=Nat × Nat) (fun s=>[(0,True,exP (.int .u64 ((s.1:Nat):Int))),(1,True,exP (.int .u64 ((s.2:Nat):Int)))]) (fun s=>[]) (fun s=>s.1 < 18446744073709551616∧s.2 < 18446744073709551616∧Nat.gcd s.1 s.2=Nat.gcd a b) (fun s=>s.2) ((a,b)) (tn) ?_ rfl (⟨ha,hb,rfl⟩) (fun s hJ Y _=>?_)
 refine tc rfl (ps_r _) (tc rfl (ps_r _) (tn))
 rotate_left 1
 obtain ⟨p,q⟩:=s
 dsimp only at hJ ⊢
 obtain ⟨hp,hq,hg⟩:=hJ
 refine zH (zH (zJ rfl (zA1 (omv rfl) (zA1 (ogt rfl rfl) (zA0 ?_)))))
 refine t_if rfl (fun c0=>?_) (fun c0=>?_)
 refine yA (zT (yR 6 mixed rfl rfl (d1 (omv rfl) (d1 (omv rfl) (d1 (omv rfl) (d1 (ormw rfl rfl (by (have e0:=dt c0; omega))) (d1 (oas rfl) (d1 (oas rfl) (d0 ?_)))))))))
 refine zA0 ?_
 rotate_left 1
 refine xN (zH (zJ rfl (zA1 (omv rfl) (zA1 (oas rfl) (zA0 (zZ (⟨[_],rst rfl rs0,yN ?_⟩)))))))
 refine ps_i ?_
 rotate_left 1
 ·have h1:0 < q:=by have:=dt c0; omega
  have hlt:=Nat.mod_lt p h1
  refine ⟨(q,p % q),tes ?_ ?_ (List.Sublist.refl _),?_,(by omega)⟩
  refine tc rfl (ps_r _) (tc rfl (ps_r _) (tn))
  refine tn
  rotate_left 1
  ·exact ⟨hq,by dsimp only; omega,by dsimp only; rw [← hg,Nat.gcd_comm,← Nat.gcd_rec,Nat.gcd_comm]⟩
 ·have h1:q=0:=by have:=df c0; omega
  rw [← hg,h1,Nat.gcd_zero_right]
theorem ktwos {xs:List Nat} (hx:∀ x ∈ xs,x < 4294967296) (h0:val xs ≠ 0) (hl:xs.length≤1000000):CTy prog 225 [sv (ntx xs)] (exP (.int .i64 ((tz (val xs):Nat):Int))):=by
 refine ctc func225 rfl rfl rfl rfl fun X=>(zH (zJ rfl (zA1 (oas rfl) (zA0 (zH (zJ rfl (zA1 (oas rfl) (zA0 (zH ?_)))))))))
 refine zH (zJ rfl (zA1 (oas rfl) (zA0 (zT ?_))))
 rotate_left 1
 refine xL (σ:=Nat) (fun s=>[(3,True,exP (.int .i64 ((32 * s:Nat):Int))),(4,True,exP (.int .i64 ((s:Nat):Int)))]) (fun s=>[]) (fun s=>s≤xs.length∧∀ j,j < s→xs.getD j 0=0) (fun s=>xs.length - s) (0) (tk 0 rfl tn) ?_ rfl (⟨by omega,by omega⟩) (fun s hJ Y _=>?_)
 refine tc rfl (ps_r _) (tc rfl (ps_r _) (tn))
 rotate_left 1
 obtain ⟨j1,j2⟩:=hJ
 have hs:s < xs.length:=by
  rcases Nat.lt_or_ge s xs.length with h | h
  ·exact h
  ·exact absurd (val_zero_all fun j hj=>j2 j (by omega)) h0
 refine zH (zH (zJ rfl (zA1 (omv rfl) (zA1 (omv rfl) (zA1 (oln rfl) (zA1 (olt rfl rfl) (zA1 (omv rfl) (t1g rfl rfl (omv rfl) (t1g rfl rfl (omv rfl) ?_)))))))))
 refine t1g rfl rfl (oix _ rfl rfl rfl (fun g=>rfl) (fun g=>(by omega))) (t1g rfl rfl (old rfl rfl) (t1g rfl rfl (oeq rfl rfl) (zA1 (opk rfl rfl rfl) (zA0 ?_))))
 refine t_if rfl (fun c0=>?_) (fun c0=>?_)
 refine yA (zH (zT (zJ rfl (zA1 (omv rfl) (zA1 (oad rfl rfl (by omega)) (zA1 (oas rfl) (zA0 (zJ rfl (zA1 (omv rfl) ?_)))))))))
 refine zA1 (oad rfl rfl (by omega)) (zA1 (oas rfl) (zA0 ?_))
 rotate_left 1
 refine xN (zH (zH (zJ rfl (zA1 (omv rfl) (zA1 (omv rfl) (zA1 (oqu rfl rfl (by omega)) (zA1 (oix s rfl rfl rfl (fun _=>(by omega)) (fun _=>(by omega))) (zA1 (old rfl rfl) (zA1 (oas rfl) ?_)))))))))
 refine zA0 (zT ?_)
 rotate_left 1
 ·have h1:=dand c0
  refine ⟨s + 1,tes ?_ ?_ (List.Sublist.refl _),?_,(by omega)⟩
  refine tc rfl (ps_r _) (tc rfl (ps_r _) (tn))
  refine tc rfl (ps_r _) (tn)
  rotate_left 1
  refine ⟨by omega,fun j hj=>?_⟩
  rcases Nat.lt_or_ge j s with c | c
  ·exact j2 j c
  ·obtain rfl:j=s:=by omega
   exact Int.natCast_eq_zero.1 h1.2
 ·have hx0:xs.getD s 0 ≠ 0:=fun e=>dor c0 ⟨by omega,Int.natCast_eq_zero.2 e⟩
  have hx2:xs.getD s 0 < 4294967296:=qB hx s
  have htz:=tz_limbs hx j2 hs hx0
  have h32:=lU (n:=32) hx0 (Nat.lt_of_lt_of_eq hx2 (by decide))
  refine xL (σ:=Nat × Nat) (fun t=>[(3,True,exP (.int .i64 ((32 * s + t.1:Nat):Int))),(5,True,exP (.int .u32 ((t.2:Nat):Int)))]) (fun t=>[]) (fun t=>t.2 ≠ 0∧t.2 < 4294967296∧tz (xs.getD s 0)=t.1 + tz t.2) (fun t=>t.2) ((0,xs.getD s 0)) (tn) ?_ rfl (⟨hx0,hx2,by simp⟩) (fun t hJ Y _=>?_)
  refine tc rfl (ps_r _) (tc rfl (ps_r _) (tn))
  rotate_left 1
  obtain ⟨n,t⟩:=t
  dsimp only at hJ ⊢
  obtain ⟨k1,k2,k3⟩:=hJ
  refine zH (zH (zJ rfl (zA1 (omv rfl) (zA1 (ormw rfl rfl (by omega)) (zA1 (oeq rfl rfl) (zA0 ?_))))))
  refine t_if rfl (fun c1=>?_) (fun c1=>?_)
  refine yA (zH (zT (zJ rfl (zA1 (omv rfl) (zA1 (oad rfl rfl (by omega)) (zA1 (oas rfl) (zA0 (zJ rfl (zA1 (omv rfl) ?_)))))))))
  refine zA1 (oquw rfl rfl (by (simp only [pG]; omega))) (zA1 (oas rfl) (zA0 ?_))
  rotate_left 1
  refine xN (zH (zJ rfl (zA1 (omv rfl) (zA1 (oas rfl) (zA0 (zZ (⟨[_],rst rfl rs0,yN ?_⟩)))))))
  refine ps_i ?_
  rotate_left 1
  ·have h2:t % 2=0:=by have:=dt c1; omega
   have:=zI0 k1 h2
   refine ⟨(n + 1,t / 2),tes ?_ ?_ (List.Sublist.refl _),(by (simp only [pG]; omega)),(by omega)⟩
   refine tc rfl (ps_r _) (tc rfl (ps_r _) (tn))
   refine tn
  ·have h2:t % 2=1:=by have:=df c1; omega
   have:=vV h2
   rw [htz,k3,this]; rfl
theorem tz_bd {x n:Nat} (h0:x ≠ 0) (h:(limbs x).length≤n) (hn:n≤2000):cntN ((tz x:Nat):Int) 65536=tz x:=by
 have:=sR h0 h
 exact mQ (m:=65536) (by omega)
theorem rV {A:Nat} (h0:A ≠ 0) (hl:(limbs A).length≤2000):CTy prog 225 [sv (ntx (limbs A))] (exP (.int .i64 ((tz A:Nat):Int))):=by
 have:=ktwos (gP A) (by rw [zP]; exact h0) (by omega)
 rwa [zP] at this
theorem kodL {A:Nat} (h0:A ≠ 0) (hl:(limbs A).length≤2000):CTy prog 226 [sv (ntx (limbs A)),exP (.int .i64 ((tz A:Nat):Int))] (sv (ntx (limbs (od A)))):=by
 have:=k2down (Ψ:=sv (ntx (limbs A))) (j:=((tz A:Nat):Int)) (show (limbs A).length≤100000000 by omega)
 rw [zP,tz_bd h0 hl (by omega)] at this
 exact this
theorem kcmpL {A B:Nat} (h1:(limbs A).length≤2000) (h2:(limbs B).length≤2000):CTy prog 227 [sv (ntx (limbs A)),sv (ntx (limbs B))] (exP (.int .i64 (cmpN A B))):=by
 have:=k1cmp (Ψ:=sv (ntx (limbs A))) (Φ:=sv (ntx (limbs B))) (by omega) (by omega)
 rwa [zP,zP] at this
theorem zZ0 {A B:Nat} (h1:(limbs A).length≤2000) (h2:(limbs B).length≤2000):CTy prog 228 [sv (ntx (limbs A)),sv (ntx (limbs B))] (tu [sv (ntx (limbs (A - B))),exP (.int .i64 (if A < B then 10 else 0))]):=by
 have:=zU8 (xs:=limbs A) (ys:=limbs B) (by omega) (by omega)
 rwa [zP,zP] at this
theorem kgcd4 {xs ys:List Nat} (hx:∀ x ∈ xs,x < 4294967296) (hy:∀ x ∈ ys,x < 4294967296) (h1:xs.length≤2000) (h2:ys.length≤2000):CTy prog 167 [sv (ntx xs),sv (ntx ys)] (sv (ntx (limbs (Nat.gcd (val xs) (val ys))))):=by
 have hlx:(limbs (val xs)).length≤2000:=Nat.le_trans (xV hx) h1
 have hly:(limbs (val ys)).length≤2000:=Nat.le_trans (xV hy) h2
 have ex:=@yH (val xs)
 have ey:=@yH (val ys)
 have hc:∀ b:Bool,(decide (((limbs (val xs)).length:Int)=0) || decide (((limbs (val ys)).length:Int)=0))=b→(b=true→val xs=0 ∨ val ys=0)∧(b=false→val xs ≠ 0∧val ys ≠ 0):=fun b h=>by
  subst h; simp only [Bool.or_eq_true,Bool.or_eq_false_iff,decide_eq_true_eq,decide_eq_false_iff_not]; omega
 refine ctc func167 rfl rfl rfl rfl fun X=>(zH (zJ rfl (zA1 (oas rfl) (zA0 (zH (zJ rfl (zA1 (omv rfl) (zA1 (oca rfl rfl fun _=>sC (by omega)) (zA1 (omv rfl) ?_)))))))))
 refine zA1 (oca rfl rfl fun _=>sC (by omega)) (zA1 (oas rfl) (zA1 (oas rfl) (zA0 (zH (zH (zJ rfl (zA1 (omv rfl) (zA1 (oln rfl) (zA1 (oeq rfl rfl) ?_)))))))))
 refine zA1 (omv rfl) (t1g rfl rfl (omv rfl) (t1g rfl rfl (oln rfl) (t1g rfl rfl (oeq rfl rfl) (zA1 (opk rfl rfl rfl) (zA0 ?_)))))
 refine t_if rfl (fun c0=>?_) (fun c0=>?_)
 refine zH (zJ rfl (zA1 (omv rfl) (zA1 (omv rfl) (zA1 (obs rfl rfl rfl rfl rfl rfl) (zA1 (oca rfl rfl fun _=>yA2 (xss:=[limbs (val xs),limbs (val ys)]) (by (simp; omega)) (by (simp; done))) (zA1 (oas rfl) (zA0 (zZ (⟨[_],rst rfl rs0,yN ?_⟩)))))))))
 rotate_left 1
 refine yA (zH (zJ rfl (zA1 (omv rfl) ?_)))
 refine zA1 (oca rfl rfl fun _=>rV ?_ (by omega)) ?_
 rotate_left 1
 refine zA1 (omv rfl) ?_
 refine zA1 (oca rfl rfl fun _=>rV ?_ (by omega)) ?_
 rotate_left 1
 refine zA1 (omn rfl rfl) (zA1 (oas rfl) (zA0 (zH (zT ?_))))
 rotate_left 1
 ·have h0:=(hc _ c0.h).1 rfl
  rw [show (List.map val [limbs (val xs),limbs (val ys)]).sum=Nat.gcd (val xs) (val ys) from by
   simp only [List.map_cons,List.map_nil,List.sum_cons,List.sum_nil,zP]
   rcases h0 with h0 | h0 <;> rw [h0] <;> simp]
  exact PSub.refl _
 ·exact ((hc _ c0.h).2 rfl).1
 ·exact ((hc _ c0.h).2 rfl).2
 obtain ⟨hx0,hy0⟩:=(hc _ c0.h).2 rfl
 have hmin:min (tz (val xs)) (tz (val ys)) < 64000:=by have:=sR hx0 hlx; omega
 refine xL (σ:=Nat × Nat) (fun s=>[(0,True,sv (ntx (limbs s.1))),(1,True,sv (ntx (limbs s.2)))]) (fun s=>[]) (fun s=>GI (Nat.gcd (od (val xs)) (od (val ys))) s.1 s.2∧(limbs s.1).length≤2000∧(limbs s.2).length≤2000) (fun s=>s.1 + s.2) ((val xs,val ys)) (tk 5 rfl tn) ?_ rfl (⟨⟨hy0,fun _=>rfl,fun h=>absurd h hx0⟩,hlx,hly⟩) (fun s hJ Y _=>?_)
 refine tc rfl (ps_r _) (tc rfl (ps_r _) (tn))
 rotate_left 1
 obtain ⟨A,B⟩:=s
 dsimp only at hJ ⊢
 obtain ⟨hg,hA,hB⟩:=hJ
 have eA:=@yH A
 have hB0:B ≠ 0:=hg.1
 have lA:=Nat.le_trans (yG (zL2 A)) hA
 have lB:=Nat.le_trans (yG (zL2 B)) hB
 refine zH (zH (zJ rfl (zA1 (omv rfl) (zA1 (oln rfl) (zA1 (ogt rfl rfl) (zA0 ?_))))))
 refine t_if rfl (fun c1=>?_) (fun c1=>?_)
 refine yA (zT (zH (zJ rfl (zA1 (omv rfl) (zA1 (omv rfl) (zA1 (oca rfl rfl fun _=>rV (by (have e0:=dt c1; omega)) (by omega)) (zA1 (oca rfl rfl fun _=>kodL (by (have e0:=dt c1; omega)) (by omega)) (zA1 (oas rfl) (zA0 ?_)))))))))
 refine zH (zJ rfl (zA1 (omv rfl) (zA1 (omv rfl) (zA1 (oca rfl rfl fun _=>rV (by omega) (by omega)) (zA1 (oca rfl rfl fun _=>kodL (by omega) (by omega)) (zA1 (oas rfl) (zA0 (zH (zH ?_)))))))))
 refine zJ rfl (zA1 (omv rfl) (zA1 (omv rfl) (zA1 (oca rfl rfl fun _=>kcmpL (by omega) (by omega)) (zA1 (olt rfl rfl) (zA0 ?_)))))
 refine t_if rfl (fun c2=>?_) (fun c2=>?_)
 refine zJ rfl (zA1 (omv rfl) (zA1 (omv rfl) (zA1 (oas rfl) (zA1 (oas rfl) (zA0 (zJ rfl (zA1 (omv rfl) (zA1 (omv rfl) (zA1 (oca rfl rfl fun _=>zZ0 (by omega) (by omega)) ?_)))))))))
 refine zA1 (omv rfl) (zA1 (oex rfl rfl) (zA1 (oex rfl rfl) (zA1 (oas rfl) (zA0 ?_))))
 rotate_left 1
 refine yA (zJ rfl (zA1 (omv rfl) (zA1 (omv rfl) (zA1 (oca rfl rfl fun _=>zZ0 (by omega) (by omega)) (zA1 (omv rfl) (zA1 (oex rfl rfl) (zA1 (oex rfl rfl) (zA1 (oas rfl) (zA0 ?_)))))))))
 rotate_left 1
 refine xN (zH (zJ rfl (zA1 (omv rfl) (zA1 (omv rfl) (zA1 (oca rfl rfl fun _=>k2up (by omega)) (zA1 (oas rfl) (zA0 (zZ (⟨[_],rst rfl rs0,yN ?_⟩)))))))))
 rotate_left 1
 ·have hA0:A ≠ 0:=by have:=dt c1; omega
  have hlt:od A < od B:=aJ.1 (dt c2)
  obtain ⟨g1,g2⟩:=(zM9 hg hA0).2 (by omega)
  refine ⟨(od B - od A,od A),tes ?_ ?_ (List.Sublist.refl _),?_,(by omega)⟩
  refine tc rfl (ps_r _) (tc rfl (ps_r _) (tn))
  refine tc rfl (ps_r _) (tn)
  rotate_left 1
  exact ⟨g1,Nat.le_trans (yG (Nat.sub_le _ _)) lB,lA⟩
 ·have hA0:A ≠ 0:=by have:=dt c1; omega
  have hlt:¬ od A < od B:=fun h=>df c2 (aJ.2 h)
  obtain ⟨g1,g2⟩:=(zM9 hg hA0).1 (by omega)
  refine ⟨(od A - od B,od B),tes ?_ ?_ (List.Sublist.refl _),?_,(by omega)⟩
  refine tc rfl (ps_r _) (tc rfl (ps_r _) (tn))
  refine tc rfl (ps_r _) (tn)
  rotate_left 1
  exact ⟨g1,Nat.le_trans (yG (Nat.sub_le _ _)) lA,lB⟩
 ·have hA0:A=0:=by have:=df c1; omega
  rw [zP,cntN_min (by omega),hg.2.2 hA0,← gcd_od hx0 hy0]
  exact PSub.refl _
end Go.Proofs.YtflobagimodmgaaGreatDoor
set_option maxHeartbeats 4000000
namespace Go.Proofs.YtflobagimodmgaaGreatDoor
open Go.SL Go.RowKit Go.Proofs Tryz
section
variable {xs ys : List Nat} {Ψ Φ : PV}
theorem k1of {n:Nat} (hn:n < 18446744073709551616):CTy prog 166 [exP (.int .u64 (n:Int))] (sv (ntx (limbs n))) :=
 ⟨(bo func166),fun M w vs hM hT hv=>by
  obtain ⟨v,rfl,h1⟩:=fa1 hv
  obtain rfl:v=_:=h1
  exact (zX7 hn hM).mono fun r w' ⟨hB,g⟩=>⟨hB,r,rfl,g.nat hM⟩⟩
theorem zM2 [h:VX Ψ xs] (hl:xs.length≤1099511627776):CTy prog 164 [Ψ] (tu [exP (.int .u64 ((qO (val xs):Nat):Int)),exP (.bool (decide (val xs < 18446744073709551616)))]) :=
 ⟨(bo func164),fun M w vs hM hT hv=>by
  obtain ⟨v,rfl,k1⟩:=fa1 hv
  exact (rsmall_c (h.h k1) hl hM).mono fun r w' ⟨hB,e⟩=>⟨hB,_,e,_,_,rfl,rfl,_,_,rfl,rfl,rfl⟩⟩
theorem zU7 [h:VX Ψ xs] [k:VX Φ ys] (hl:xs.length≤100000) (hm:ys.length≤100000) (h0:val ys ≠ 0):CTy prog 168 [Ψ,Φ] (tu [sv (ntx (limbs (val xs / val ys))),sv (ntx (limbs (val xs % val ys))),exP (.int .i64 0)]) :=
 ⟨(bo func168),fun M w vs hM hT hv=>by
  obtain ⟨v,u,rfl,k1,k2⟩:=fa2 hv
  exact (div3_c (h.h k1) (k.h k2) hl hm h0 hM).mono fun r w' ⟨hB,q,s,e,g1,g2⟩=>⟨hB,_,e,_,_,rfl,⟨_,rfl,g1⟩,_,_,rfl,⟨_,rfl,g2⟩,_,_,rfl,rfl,rfl⟩⟩
end
instance {a:Bool × List Nat}:CZ (itx a) a.2.length (zx a):=⟨fun h=>CZ.h (c:=st [xc (.bool a.1),ntx a.2]) h⟩
theorem ps_mk {N n k:Nat} {y:Int} {q:Rat} (h1:y=q.num) (h2:k=q.den) (hn:n≤N) (hk:(limbs k).length≤N):PSub (ag (st [ztc n y,ntx (limbs k)])) (ag (rtc N q)):=fun M w v ⟨us,e,x,u,e1,⟨s,a,e2,g1⟩,x2,o,e3,⟨d,e4,g2⟩,e5⟩=>by
 subst h1 h2 e2 e4
 obtain rfl:o=[]:=e5
 exact ⟨us,e,s,a,d,by rw [e1,e3]; rfl,g1.sgn,g1.num,g2,Nat.le_trans g1.len hn,hk⟩
theorem tE {n m:Nat} {p q:Rat} (h:n≤m) (e:p=q):PSub (ag (rtc n p)) (ag (rtc m q)):=fun _ _ _ ⟨us,e1,s,a,d,e2,g⟩=>⟨us,e1,s,a,d,e2,by subst e; exact g.up h⟩
theorem vx_q {Ψ:PV} {xs:List Nat} [h:VX Ψ xs]:PSub Ψ (sv (ntx xs)):=fun M w v k=>⟨v,rfl,h.h k⟩
theorem kgcd {Ψ Φ:PV} {xs ys:List Nat} [h:VX Ψ xs] [k:VX Φ ys] (hx:∀ x ∈ xs,x < 4294967296) (hy:∀ x ∈ ys,x < 4294967296) (h1:xs.length≤2000) (h2:ys.length≤2000):CTy prog 167 [Ψ,Φ] (sv (ntx (limbs (Nat.gcd (val xs) (val ys))))):=gF (kgcd4 hx hy h1 h2) (fs1 vx_q (fs1 vx_q fs0))
theorem aY {x k:Nat} (hk:k ≠ 0) (c:Tr ((decide (val (limbs x) < 18446744073709551616) && decide (k < 18446744073709551616))=true)):qO (val (limbs x))=x∧qO k=k∧0 < Nat.gcd x k∧x < 18446744073709551616∧k < 18446744073709551616:=by
 have h:=dand c
 rw [zP] at h ⊢
 exact ⟨if_pos h.1,if_pos h.2,Nat.gcd_pos_of_pos_right _ (Nat.pos_of_ne_zero hk),h.1,h.2⟩
theorem zW4 {a:Bool × List Nat} {ds:List Nat} {n m:Nat} (ha:∀ x ∈ a.2,x < 4294967296) (hd:∀ x ∈ ds,x < 4294967296) (hla:a.2.length≤n) (hld:ds.length≤m) (hn:n≤2000) (hm:m≤2000):CTy prog 113 [ag (itx a),sv (ntx ds)] (tu [ag (rtc (max n m + 2) (mkRat (zx a) (val ds))),exP (.int .i64 (if val ds=0 then 30 else 0))]):=by
 have hzl:(limbs (zx a).natAbs).length≤n:=by rw [fP a]; exact Nat.le_trans (xV ha) hla
 have hkl:(limbs (val ds)).length≤m:=Nat.le_trans (xV hd) hld
 have ek:=@yH (val ds)
 have sA:qO (val (limbs (zx a).natAbs)) < 18446744073709551616:=by unfold qO; split <;> omega
 have sB:qO (val ds) < 18446744073709551616:=by unfold qO; split <;> omega
 have hgl:val ds ≠ 0→(limbs (Nat.gcd (zx a).natAbs (val ds))).length≤m:=fun h=>Nat.le_trans (yG (Nat.gcd_le_right _ (Nat.pos_of_ne_zero h))) hkl
 have hq1:∀ g,(limbs ((zx a).natAbs / g)).length≤n:=fun g=>Nat.le_trans (yG (Nat.div_le_self _ _)) hzl
 have hq2:∀ g,(limbs (val ds / g)).length≤m:=fun g=>Nat.le_trans (yG (Nat.div_le_self _ _)) hkl
 have hz:Tr (decide (((limbs (val ds)).length:Int)=0)=false)→val ds ≠ 0:=fun c e=>df c (by omega)
 have hfin:∀ N,val ds ≠ 0→PSub (ag (st [ztc N (if decide (zx a < 0)=true then -((val (limbs ((zx a).natAbs / (zx a).natAbs.gcd (val ds))):Nat):Int) else ((val (limbs ((zx a).natAbs / (zx a).natAbs.gcd (val ds))):Nat):Int)),ntx (limbs (val ds / (zx a).natAbs.gcd (val ds)))])) (ag (rtc (max N m) (mkRat (zx a) (val ds)))):=fun N h =>
  ps_mk (num_eq h) (dJ (z:=zx a) h).2.2.symm (by omega) (Nat.le_trans (hq2 _) (by omega))
 have hup:∀ {N K:Nat} {q:Rat},N≤K→PSub (ag (rtc N q)) (ag (rtc K q)):=fun h=>tE h rfl
 refine ctc func113 rfl rfl rfl rfl fun X=>(zH (zJ rfl (tbx rfl fun b2=>(tal fun b4=>(zA1 (oas rfl) (zA0 (zH (zH (zJ rfl ?_)))))))))
 refine zA1 (omv rfl) (zA1 (oca rfl rfl fun _=>sC (by omega)) (zA1 (oln rfl) (zA1 (oeq rfl rfl) (zA0 ?_))))
 refine t_if rfl (fun c0=>?_) (fun c0=>?_)
 refine zH (zJ rfl (zA1 (oca rfl rfl fun _=>k7of (by (simp; done))) (tst 0 rfl rfl rfl rfl rfl rfl (zA1 (oas rfl) (zA0 (zZ ?_))))))
 refine ⟨[_,_],rsc 0 rfl rfl rfl rfl (rst rfl rs0),uW ?_ ?_⟩
 rotate_left 1
 refine ps_i (by (have e0:=dt c0; omega))
 refine yA (zH (zJ rfl (zA1 (oldo 1 rfl rfl rfl rfl) (zA1 (oca rfl rfl fun _=>uU (by omega)) (tst 1 rfl rfl rfl rfl rfl rfl (zA0 (zH (zJ rfl (zA1 (ofo rfl) ?_)))))))))
 refine zA1 (oldf 1 1 rfl rfl rfl rfl) (zA1 (oca rfl rfl fun _=>zM2 (by omega)) (zA1 (omv rfl) (zA1 (oex rfl rfl) (zA1 (oex rfl rfl) (zA1 (oas rfl) (zA1 (oas rfl) (zA0 (zH (zJ rfl ?_)))))))))
 refine zA1 (omv rfl) (zA1 (oca rfl rfl fun _=>zM2 (by omega)) (zA1 (omv rfl) (zA1 (oex rfl rfl) (zA1 (oex rfl rfl) (zA1 (oas rfl) (zA1 (oas rfl) (zA0 (zH (zH ?_)))))))))
 refine zJ rfl (zA1 (omv rfl) (zA1 (omv rfl) (t1g rfl rfl (omv rfl) (zA1 (opk rfl rfl rfl) (zA0 ?_)))))
 refine t_if rfl (fun c1=>?_) (fun c1=>?_)
 refine zH (zJ rfl (zA1 (omv rfl) (zA1 (omv rfl) (zA1 (oca rfl rfl fun _=>kplain7 (by omega) (by omega)) (zA1 (oas rfl) (zA0 (zH (yR 13 mixed rfl rfl (d1 (ofo rfl) ?_)))))))))
 refine d1 (oldf 1 0 rfl rfl rfl rfl) (d1 (omv rfl) (d1 (omv rfl) ?_))
 refine d1 (oquw rfl rfl ?_) ?_
 rotate_left 1
 refine d1 (oca rfl rfl fun _=>k1of ?_) ?_
 rotate_left 1
 refine d1 (obd rfl rfl rfl) ?_
 refine d1 (oca rfl rfl fun _=>uU ?_) ?_
 rotate_left 1
 refine d1 (omv rfl) (d1 (omv rfl) ?_)
 refine d1 (oquw rfl rfl ?_) ?_
 rotate_left 1
 refine d1 (oca rfl rfl fun _=>k1of ?_) ?_
 rotate_left 1
 refine d1 (obd rfl rfl rfl) (d0 (tst 0 rfl rfl rfl rfl rfl rfl (zA1 (oas rfl) (zA0 (zZ ?_)))))
 refine ⟨[_,_],rsc 0 rfl rfl rfl rfl (rst rfl rs0),uW ?_ ?_⟩
 rotate_left 1
 refine ps_i (by (have e0:=df c0; have e1:=dand c1; omega))
 refine yA (zH (zJ rfl (zA1 (ofo rfl) (zA1 (oldf 1 1 rfl rfl rfl rfl) (zA1 (omv rfl) (zA1 (oca rfl rfl fun _=>kgcd (gP _) hd (by omega) (by omega)) (zA1 (oas rfl) (zA0 (zH ?_)))))))))
 refine zJ rfl (zA1 (ofo rfl) (zA1 (oldf 1 1 rfl rfl rfl rfl) (zA1 (omv rfl) ?_)))
 refine zA1 (oca rfl rfl fun _=>zU7 (by omega) ?_ ?_) ?_
 rotate_left 1
 rotate_left 1
 refine zA1 (omv rfl) (zA1 (oex rfl rfl) (zA1 (oex rfl rfl) (zA1 (oex rfl rfl) (zA1 (oas rfl) (zA1 (oas rfl) (zA1 (oas rfl) (zA0 (zH (zJ rfl ?_)))))))))
 refine zA1 (omv rfl) (zA1 (omv rfl) ?_)
 refine zA1 (oca rfl rfl fun _=>zU7 (by omega) ?_ ?_) ?_
 rotate_left 1
 rotate_left 1
 refine zA1 (omv rfl) (zA1 (oex rfl rfl) (zA1 (oex rfl rfl) (zA1 (oex rfl rfl) (zA1 (oas rfl) (zA1 (oas rfl) (zA1 (oas rfl) (zA0 (zH (zJ rfl ?_)))))))))
 refine zA1 (ofo rfl) (zA1 (oldf 1 0 rfl rfl rfl rfl) (zA1 (omv rfl) ?_))
 refine zA1 (obd rfl rfl rfl) ?_
 refine zA1 (oca rfl rfl fun _=>uU ?_) ?_
 rotate_left 1
 refine zA1 (omv rfl) ?_
 refine zA1 (obd rfl rfl rfl) (tst 0 rfl rfl rfl rfl rfl rfl (zA1 (oas rfl) (zA0 (zZ ?_))))
 refine ⟨[_,_],rsc 0 rfl rfl rfl rfl (rst rfl rs0),uW ?_ ?_⟩
 rotate_left 1
 refine ps_i (by (have e0:=df c0; have e1:=dor c1; omega))
 ·have hk0:val ds=0:=by have:=dt c0; omega
  rw [hk0,Rat.mkRat_zero]
  exact tE (by omega) rfl
 ·obtain ⟨e1,e2,h1,h2,h3⟩:=aY (hz c0) c1
  rw [e1,e2]; exact ⟨h1,h2⟩
 ·obtain ⟨e1,e2,h1,h2,h3⟩:=aY (hz c0) c1
  rw [e1,e2]; exact Nat.lt_of_le_of_lt (Nat.div_le_self _ _) h2
 ·obtain ⟨e1,e2,h1,h2,h3⟩:=aY (hz c0) c1
  rw [e1,e2]; have:=hq1 (Nat.gcd (zx a).natAbs (val ds)); omega
 ·obtain ⟨e1,e2,h1,h2,h3⟩:=aY (hz c0) c1
  rw [e1,e2]; exact ⟨h1,h3⟩
 ·obtain ⟨e1,e2,h1,h2,h3⟩:=aY (hz c0) c1
  rw [e1,e2]; exact Nat.lt_of_le_of_lt (Nat.div_le_self _ _) h3
 ·obtain ⟨e1,e2,h1,h2,h3⟩:=aY (hz c0) c1
  rw [e1,e2]
  exact fun M w v k=>hup (by have:=hq1 (Nat.gcd (zx a).natAbs (val ds)); omega) _ _ _ (hfin _ (hz c0) M w v k)
 all_goals rw [zP (zx a).natAbs]
 ·have:=hgl (hz c0); omega
 ·rw [zP]; exact Nat.ne_of_gt (Nat.gcd_pos_of_pos_right _ (Nat.pos_of_ne_zero (hz c0)))
 ·have:=hgl (hz c0); omega
 ·rw [zP]; exact Nat.ne_of_gt (Nat.gcd_pos_of_pos_right _ (Nat.pos_of_ne_zero (hz c0)))
 ·have:=hq1 (val (limbs (Nat.gcd (zx a).natAbs (val ds)))); omega
 ·rw [zP (Nat.gcd _ _)]
  exact fun M w v k=>hup (by have:=hq1 (Nat.gcd (zx a).natAbs (val ds)); omega) _ _ _ (hfin _ (hz c0) M w v k)
theorem pN {Ψ Φ:PV} {n m k:Nat} {z:Int} [h:VZ Ψ n z] [h':VN Φ m k] (hn:n≤2000) (hm:m≤2000):CTy prog 113 [Ψ,Φ] (tu [ag (rtc (max n m + 2) (mkRat z k)),exP (.int .i64 (if k=0 then 30 else 0))]) :=
 ⟨(bo func113),fun M w vs hM hT hv=>by
  obtain ⟨v,u,rfl,h1,h2⟩:=fa2 hv
  obtain ⟨s,a,rfl,g⟩:=h.h h1
  obtain ⟨b,b0,b1,b2,b3⟩:=sD g
  obtain ⟨ds,d1,d2,d3⟩:=(h'.h h2).ex
  subst b2 d3
  exact (zW4 b0 d1.lt b1 d2 hn hm).run M w _ hM hT ⟨_,_,rfl,b3,_,_,rfl,⟨_,rfl,d1⟩,rfl⟩⟩
abbrev rxx (a:(Bool × List Nat) × List Nat):CT:=st [itx a.1,ntx a.2]
theorem qr_x {Ψ:PV} {n:Nat} {p:Rat} [h:QR Ψ n p] {M:Nat→Prop} {w:World} {v:Value} (k:Ψ.p M w v):∃ a:(Bool × List Nat) × List Nat,mkRat (zx a.1) (val a.2)=p∧(∀ x ∈ a.1.2,x < 4294967296)∧(∀ x ∈ a.2,x < 4294967296)∧a.1.2.length≤n∧a.2.length≤n∧(ag (rxx a)).p M w v:=by
 obtain ⟨s,x,d,rfl,xs,ds,h1,h2,h3,h4,h5⟩:=h.h k
 exact ⟨((s,xs),ds),h5,h1.lt,h2.lt,h3,h4,_,rfl,[.bool s,x],[d],rfl,⟨[.bool s],[x],rfl,⟨rfl,rfl⟩,[x],[],rfl,⟨x,rfl,h1⟩,rfl⟩,[d],[],rfl,⟨d,rfl,h2⟩,rfl⟩
theorem w7norm {a:(Bool × List Nat) × List Nat} {n:Nat} (ha:∀ x ∈ a.1.2,x < 4294967296) (hd:∀ x ∈ a.2,x < 4294967296) (h1:a.1.2.length≤n) (h2:a.2.length≤n) (hn:n≤1999):CTy prog 90 [ag (rxx a)] (ag (rtc (n + 2) (mkRat (zx a.1) (val a.2)))):=by
 refine ctc func90 rfl rfl rfl rfl fun X=>(zH (zJ rfl (zA1 (obx rfl) (tal fun b2=>(zA0 (zH (zJ rfl (zA1 (ofa rfl rfl) (zA1 (old rfl rfl) ?_)))))))))
 refine zA1 (ofa rfl rfl) (zA1 (old rfl rfl) (zA1 (oca rfl rfl fun _=>zW4 (n:=n) (m:=n) ha hd h1 h2 (by omega) (by omega)) (zA1 (omv rfl) (zA1 (oex rfl rfl) (zA1 (oex rfl rfl) (tal fun b3=>(tst 0 rfl rfl rfl rfl rfl rfl (qE (gC (s:=3) 0 rfl rfl) (zA1 (oas rfl) ?_)))))))))
 refine zA0 (zH (zJ rfl (zA1 (old rfl rfl) (tst 0 rfl rfl rfl rfl rfl rfl (zA0 (zZ (⟨[_],rsc 0 rfl rfl rfl rfl rs0,yN ?_⟩)))))))
 rotate_left 1
 exact tE (by omega) rfl
theorem aN {Ψ:PV} {n:Nat} {p:Rat} [h:QR Ψ n p] (hn:n≤1999):CTy prog 90 [Ψ] (ag (rtc (n + 1) p)) :=
 ⟨(bo func90),fun M w vs hM hT hv=>by
  obtain ⟨v,rfl,h1⟩:=fa1 hv
  obtain ⟨a,e1,e2,e3,e4,e5,e6⟩:=qr_x h1
  obtain ⟨s,x,d,rfl,g1⟩:=h.h h1
  subst e1
  exact ((w7norm e2 e3 e4 e5 hn).run M w _ hM hT ⟨_,_,rfl,e6,rfl⟩).mono fun r w' ⟨hB,us,k1,t,y,z,k2,g⟩=>⟨hB,us,k1,t,y,z,k2,g.relen g1.rlen⟩⟩
end Go.Proofs.YtflobagimodmgaaGreatDoor
namespace Go.Proofs.YtflobagimodmgaaGreatDoor
open Go.SL Go.RowKit Go.Proofs Tryz
section
variable {Ψ Φ : PV} {n m k j : Nat} {y z : Int}
theorem pL [h:VN Ψ n k] (hn:n≤1000000):CTy prog 93 [Ψ] (ag (ztq n ((k:Nat):Int))) :=
 ⟨(bo func93),fun M w vs hM hT hv=>by
  obtain ⟨v,rfl,h1⟩:=fa1 hv
  exact (over7_c (h.h h1) hn hM).mono fun r w' ⟨hB,x,y,e,g⟩=>⟨hB,e ▸ ⟨_,rfl,_,_,rfl,g⟩⟩⟩
theorem yA1 [h:VN Ψ n k] [h':VN Φ m j] (hn:n≤1000000000) (hm:m≤1000000000):CTy prog 114 [Ψ,Φ] (sv (ntq (n + m) (k * j))) :=
 ⟨(bo func114),fun M w vs hM hT hv=>by
  obtain ⟨v,u,rfl,h1,h2⟩:=fa2 hv
  obtain ⟨xs,g1,g2,g3⟩:=(h.h h1).ex
  obtain ⟨ys,g4,g5,g6⟩:=(h'.h h2).ex
  exact (wF g1 g4 (by omega) (by omega) hM).mono fun r w' ⟨hB,g⟩=>⟨hB,r,rfl,by rw [← g3,← g6]; exact dQ (g.nat hM) (Nat.le_trans (aR (jF _ g1.lt) (jF _ g4.lt)) (by omega))⟩⟩
end
theorem ps_num {n m N:Nat} {q:Rat} {z:Int} {k:Nat} (h1:z=q.num) (h2:k=q.den) (hn:n≤N) (hm:m≤N):PSub (ag (st [ztc n z,ntc m k])) (ag (rtc N q)):=fun M w v ⟨us,e,x,y,e1,⟨s,a,k1,g1⟩,d,o,e2,⟨b,k2,g2,g3⟩,e3⟩=>by
 subst h1; subst h2; subst k1; subst k2; obtain rfl:o=[]:=e3
 obtain ⟨xs,j1,j2,j3⟩:=g2.ex
 exact ⟨us,e,s,a,b,by rw [e1,e2]; rfl,g1.sgn,g1.num,g3,Nat.le_trans g1.len hn,Nat.le_trans (by rw [← j3]; exact yC _ j1.lt) (Nat.le_trans j2 hm)⟩
theorem nO {n m:Nat} {p q:Rat} (e:p=q) (h:rlen q m):PSub (ag (rtc n p)) (ag (rtc m q)):=fun _ _ _ ⟨us,e1,s,a,d,e2,g⟩=>⟨us,e1,s,a,d,e2,by subst e; exact g.relen h⟩
set_option maxHeartbeats 4000000 in
theorem w7neg {p:Rat} {n:Nat} (hn:n≤1990):CTy prog 115 [ag (rtq n p)] (ag (rtc (n + 1) (-p))):=by
 refine ctc func115 rfl rfl rfl rfl fun X=>(zH (zJ rfl ?_))
 refine tbx rfl fun b1=>?_
 refine tal fun b2=>?_
 refine zA0 (zH (zJ rfl (zA1 (oldo 1 rfl rfl rfl rfl) (zA1 (oca rfl rfl fun _=>aN (by omega)) (tst 1 rfl rfl rfl rfl rfl rfl (zA0 (t_ts (gC 1 rfl (s:=1) rfl) ?_)))))))
 refine zH (yR 6 mixed rfl rfl (d1 (ofx rfl) (d1 (old rfl rfl) (d1 (oca rfl rfl fun _=>zU5 (by omega)) (d1 (ofx rfl) (d1 (old rfl rfl) (d1 (obd rfl rfl rfl) ?_)))))))
 refine d0 (tst 0 rfl rfl rfl rfl rfl rfl (zA0 (zZ ?_)))
 exact ⟨[_],rsc 0 rfl rfl rfl rfl rs0,yN (ps_num (Rat.neg_num p).symm (Rat.neg_den p).symm (Nat.le_refl _) (Nat.le_refl _))⟩
theorem yA0 {Ψ:PV} {p:Rat} {n:Nat} [h:QR Ψ n p] (hn:n≤1990):CTy prog 115 [Ψ] (ag (rtc (n + 1) (-p))):=gF (w7neg hn) (fs1 qr_q fs0)
set_option maxHeartbeats 4000000 in
theorem w7two {p q:Rat} {n m:Nat} (h1:rlen p n) (h2:rlen q m) (hn:n≤990) (hm:m≤990):CTy prog 112 [ag (rtc n p),ag (rtc m q)] (ag (rtc (n + m + 1) (p + q))):=by
 refine ctc func112 rfl rfl rfl rfl fun X=>(zH (zJ rfl (zA1 (obx rfl) (zA1 (obx rfl) ?_))))
 refine tal fun b4=>?_
 refine zA0 (zH ?_)
 apply uQ 1 27 26 [(25,5,0),(26,1000026,0)] rfl rfl mixed rfl rfl rfl
 refine cx1 (ofx rfl) rfl (cx1 (old rfl rfl) rfl (cx1 (ofx rfl) rfl (cx1 (old rfl rfl) rfl (cx1 (oca rfl rfl fun _=>pL (by omega)) rfl (cx1 (obs rfl rfl rfl rfl rfl rfl) rfl (cx1 (oca rfl rfl fun _=>iL (by omega) (by simp)) rfl (cx1 (ofx rfl) rfl ?_)))))))
 refine cx1 (old rfl rfl) rfl (cx1 (ofx rfl) rfl (cx1 (old rfl rfl) rfl (cx1 (oca rfl rfl fun _=>pL (by omega)) rfl (cx1 (obs rfl rfl rfl rfl rfl rfl) rfl (cx1 (oca rfl rfl fun _=>iL (by omega) (by simp)) rfl (cx1 (obs rfl rfl rfl rfl rfl rfl) rfl (cx1 (oca rfl rfl fun _=>zU6 (by omega) (by simp)) rfl ?_)))))))
 refine cx1 (ofx rfl) rfl (cx1 (old rfl rfl) rfl (cx1 (ofx rfl) rfl (cx1 (old rfl rfl) rfl (cx1 (oca rfl rfl fun _=>yA1 (by omega) (by omega)) rfl (cx1 (oca rfl rfl fun _=>pN (by omega) (by omega)) rfl (cx1 (omv rfl) rfl (cx1 (oex rfl rfl) rfl ?_)))))))
 refine cx1 (oex rfl rfl) rfl (cN rfl rfl (cal) (cS rfl rfl rfl (cst rfl rfl rfl) ?_))
 refine cE (fun b5=>?_)
 refine zA1 (oas rfl) (zA0 (zH (zJ rfl (zA1 (oldo 0 rfl rfl rfl rfl) (tst 1 rfl rfl rfl rfl rfl rfl (zA0 (zZ ?_)))))))
 exact ⟨[_],rsc 1 rfl rfl rfl rfl rs0,yN (nO (wR p q) (uM h1 h2))⟩
set_option maxHeartbeats 4000000 in
theorem w7add {l:List Rat} {n:Nat} (hn:n≤970) (hlen:l.length≤2) (hr:∀ x ∈ l,rlen x (n + 1)):CTy prog 52 [sv (sl 3 (l.map (rtq n)))] (ag (rtc (2 * n + 8) (sumR l))):=by
 refine ctc func52 rfl rfl rfl rfl fun X=>(zH (zJ rfl ?_))
 refine tal fun b2=>?_
 refine zA0 (zH (zJ rfl (zA1 (oca rfl rfl fun _=>k7of (k:=0) (by omega)) ?_)))
 refine tal fun b3=>?_
 refine tst 0 rfl rfl rfl rfl rfl rfl (zA0 (zH (zH (zJ rfl (zA1 (oas rfl) (zA0 (zT ?_)))))))
 refine zR0 (σ:=Nat) (fun s=>[(0,True,sv (sl 3 (l.map (rtq n)))),(2,True,exP (.pointer (some ⟨b2,0,none⟩))),(3,True,exP (.pointer (some ⟨b3,0,none⟩))),(4,True,exP (.int .i64 ((s:Nat):Int)))]) (fun s=>[.blk b3 33 [rtc (2 + s * (n + 2)) (sumR (l.take s))],.blk b2 33 (zc (.agg #[.bool false,.slice none 0 0,.slice none 0 0]))]) (fun s=>s≤l.length∧rlen (sumR (l.take s)) (2 + s * (n + 2))) (fun s=>l.length - s) (0) (lV (tc rfl (ps_r _) (tc rfl (ps_r _) (tc rfl (ps_r _) (tc rfl (ps_i rfl) tn)))) (by rw [show 2 + 0 * (n + 2)=2 by omega]; rfl)) ⟨Nat.zero_le _,xS rlen_zero' (by omega)⟩ (fun s hJ Y _=>?_)
 obtain ⟨h1,h2⟩:=hJ
 refine zH (zH (zJ rfl (zA1 (omv rfl) (zA1 (omv rfl) (zA1 (oln rfl) (zA1 (olt rfl rfl) (zA0 ?_)))))))
 refine t_if rfl (fun c0=>?_) (fun c0=>?_)
 ·have hc:=dt c0
  have hg:=hr _ (getD_in (l:=l) (s:=s) (by omega))
  have hs2:s * (n + 2)≤n + 2:=by have:=Nat.mul_le_mul_right (n + 2) (show s≤1 by omega); rw [Nat.one_mul] at this; exact this
  have he:(s + 1) * (n + 2)=s * (n + 2) + (n + 2):=Nat.succ_mul _ _
  refine yA (zH (zT (yR 7 mixed rfl rfl (d1 (oldo 0 rfl rfl rfl rfl) (d1 (omv rfl) (d1 (omv rfl) (d1 (oix s rfl rfl rfl (fun _=>rfl) (fun _=>by omega)) ?_)))))))
  refine d1 (old rfl rfl) (d1 (oca rfl rfl fun _=>aN (by omega)) (d1 (oca rfl rfl fun _=>w7two h2 hg (by omega) (by omega)) (d0 (tst 0 rfl rfl rfl rfl rfl rfl (zA0 (zJ rfl (zA1 (omv rfl) ?_)))))))
  refine zA1 (oad rfl rfl (by omega)) (zA1 (oas rfl) (zA0 ?_))
  exact ⟨s + 1,lV (tc rfl (ps_r _) (tc rfl (ps_r _) (tc rfl (ps_r _) (tc rfl (ps_i (by simp)) tn)))) (by rw [oS (by omega),he,show 2 + (s * (n + 2) + (n + 2))=2 + s * (n + 2) + (n + 1) + 1 by omega]; rfl),⟨by omega,by rw [oS (by omega),he]; exact xS (uM h2 hg) (by omega)⟩,by omega⟩
 ·have hc:=df c0
  obtain rfl:s=l.length:=by omega
  have hs2:l.length * (n + 2)≤2 * (n + 2):=Nat.mul_le_mul_right _ hlen
  refine xN (zH (zJ rfl (zA1 (oldo 0 rfl rfl rfl rfl) (tst 1 rfl rfl rfl rfl rfl rfl (zA0 (zZ ?_))))))
  exact ⟨[_],rsc 1 rfl rfl rfl rfl rs0,yN (tE (by omega) (by rw [List.take_length]))⟩
theorem k7addl {Ψ:PV} {n:Nat} {l:List Rat} [h:VQ Ψ n l] (hn:n≤970) (hlen:l.length≤2):CTy prog 52 [Ψ] (ag (rtc (2 * n + 8) (sumR l))) :=
 ⟨(bo func52),fun M w vs hM hT hv=>by
  obtain ⟨v,e,h1⟩:=fa1 hv
  have hq:=h.h h1
  exact (w7add hn hlen fun x hx=>by
   obtain ⟨cs,h3,h2⟩:=hq.row
   obtain ⟨i,hi,rfl⟩:=List.mem_iff_getElem.1 hx
   obtain ⟨us,_,_,s,a,d,_,g⟩:=h2 i _ (List.getElem?_eq_getElem hi)
   exact g.rlen).run M w vs hM hT (fs1 vq_q fs0 _ _ _ hv)⟩
theorem sum2 (p q:Rat):sumR [p,q]=p + q:=by simp [sumR,Rat.zero_add]
theorem tY {Ψ:PV} {n:Nat} {p q:Rat} [h:VQ Ψ n [p,q]] (hn:n≤970):CTy prog 52 [Ψ] (ag (rtc (2 * n + 8) (p + q))):=by rw [← sum2]; exact k7addl hn (by simp)
set_option maxHeartbeats 4000000 in
theorem w7sub {p q:Rat} {n m:Nat} (h1:rlen p n) (h2:rlen q m) (hn:n≤960) (hm:m≤960):CTy prog 54 [ag (rtq n p),ag (rtq m q)] (ag (rtc (n + m + 1) (p - q))):=by
 refine ctc func54 rfl rfl rfl rfl fun X=>(zH (zJ rfl (zA1 (obx rfl) (zA1 (obx rfl) ?_))))
 refine tal fun b4=>?_
 refine zA0 (zH (yR 5 mixed rfl rfl (d1 (old rfl rfl) (d1 (old rfl rfl) (d1 (oca rfl rfl fun _=>yA0 (by omega)) (d1 (obs rfl rfl rfl rfl rfl rfl) (d1 (oca rfl rfl fun _=>tY (by omega)) ?_)))))))
 refine d0 (tst 0 rfl rfl rfl rfl rfl rfl (zA0 (zZ ?_)))
 exact ⟨[_],rsc 0 rfl rfl rfl rfl rs0,yN (nO (Rat.sub_eq_add_neg p q).symm (by rw [Rat.sub_eq_add_neg]; exact uM h1 (eC h2)))⟩
set_option maxHeartbeats 4000000 in
theorem w7quo {p q:Rat} {n m:Nat} (h1:rlen p n) (h2:rlen q m) (hn:n≤960) (hm:m≤960):CTy prog 263 [ag (rtq n p),ag (rtq m q)] (tu [ag (rtc (n + m + 1) (p / q)),exP (.int .i64 (if q=0 then 30 else 0))]):=by
 refine ctc func263 rfl rfl rfl rfl fun X=>(zH (zJ rfl ?_))
 refine tbx rfl fun b2=>?_
 refine tbx rfl fun b3=>?_
 refine tal fun b4=>?_
 refine zA1 (oas rfl) (zA0 (zH (yR 4 mixed rfl rfl (d1 (oldo 2 rfl rfl rfl rfl) (d1 (oca rfl rfl fun _=>aN (by omega)) (d1 (oldo 1 rfl rfl rfl rfl) (d1 (oca rfl rfl fun _=>aN (by omega)) ?_)))))))
 refine d0 (tst 2 rfl rfl rfl rfl rfl rfl (tst 1 rfl rfl rfl rfl rfl rfl (zA0 (t_ts (gC 2 rfl (s:=2) rfl) (t_ts (gC 1 rfl (s:=3) rfl) (zH (yR 19 mixed rfl rfl ?_)))))))
 refine d1 (ofx rfl) (d1 (old rfl rfl) (d1 (ofx rfl) (d1 (ofx rfl) (d1 (old rfl rfl) (d1 (ofx rfl) (d1 (old rfl rfl) (d1 (obd rfl rfl rfl) ?_)))))))
 refine d1 (obs rfl rfl rfl rfl rfl rfl) (d1 (oca rfl rfl fun _=>iL (by omega) (by simp)) (d1 (ofx rfl) (d1 (old rfl rfl) (d1 (ofx rfl) (d1 (ofx rfl) (d1 (old rfl rfl) (d1 (oca rfl rfl fun _=>yA1 (by omega) (by omega)) ?_)))))))
 refine d1 (oca rfl rfl fun _=>pN (by omega) (by omega)) (d1 (oex rfl rfl) (d1 (oex rfl rfl) (d0 (tst 0 rfl rfl rfl rfl rfl rfl (zA1 (oas rfl) (zA0 (zZ ?_)))))))
 exact ⟨[_,_],rsc 0 rfl rfl rfl rfl (rst rfl rs0),uW (nO (zX8 p q) (tA h1 h2)) (ps_i (zX9 p q))⟩
set_option maxHeartbeats 4000000 in
theorem nB {p q:Rat} {n m:Nat} (hn:n≤1990) (hm:m≤1990):CTy prog 41 [ag (rtq n p),ag (rtq m q)] (exP (.int .i64 (cmpR p q))):=by
 refine ct (rs:=[4]) func41 rfl rfl rfl rfl rfl iH fun X=>(zH (zJ rfl ?_))
 refine tbx rfl fun b2=>?_
 refine tbx rfl fun b3=>?_
 refine zA1 (oas rfl) (zA0 (zH (yR 4 mixed rfl rfl (d1 (oldo 1 rfl rfl rfl rfl) (d1 (oca rfl rfl fun _=>aN (by omega)) (d1 (oldo 0 rfl rfl rfl rfl) (d1 (oca rfl rfl fun _=>aN (by omega)) ?_)))))))
 refine d0 (tst 1 rfl rfl rfl rfl rfl rfl (tst 0 rfl rfl rfl rfl rfl rfl (zA0 (t_ts (gC 1 rfl (s:=2) rfl) (t_ts (gC 0 rfl (s:=3) rfl) (zH (yR 17 mixed rfl rfl ?_)))))))
 refine d1 (ofx rfl) (d1 (old rfl rfl) (d1 (ofx rfl) (d1 (old rfl rfl) (d1 (oca rfl rfl fun _=>pL (by omega)) (d1 (obs rfl rfl rfl rfl rfl rfl) (d1 (oca rfl rfl fun _=>iL (by omega) (by simp)) (d1 (ofx rfl) ?_)))))))
 refine d1 (old rfl rfl) (d1 (ofx rfl) (d1 (old rfl rfl) (d1 (oca rfl rfl fun _=>pL (by omega)) (d1 (obs rfl rfl rfl rfl rfl rfl) (d1 (oca rfl rfl fun _=>iL (by omega) (by simp)) (d1 (oca rfl rfl fun _=>tZ (by omega) (by omega)) (d1 (oca rfl rfl fun _=>zU4 (by omega)) ?_)))))))
 refine d1 (oas rfl) (d0 (zA0 (zZ ?_)))
 exact tr1 rfl (ps_i (zV9 p q))
section
variable {Ψ Φ : PV} {n m : Nat} {p q : Rat}
theorem rlen2 [h:QR Ψ n p] [k:QR Φ m q] {M:Nat→Prop} {w:World} {vs:List Value} (hv:Fa [Ψ,Φ] M w vs):rlen p (n + 1)∧rlen q (m + 1):=by
 obtain ⟨v,u,_,h1,h2⟩:=fa2 hv
 obtain ⟨_,_,_,_,g1⟩:=h.h h1
 obtain ⟨_,_,_,_,g2⟩:=k.h h2
 exact ⟨g1.rlen,g2.rlen⟩
theorem zY0 [h:QR Ψ n p]:PSub Ψ (ag (rtq (n + 1) p)):=fun _ _ _ x=>by obtain ⟨s,a,d,e,g⟩:=h.h x; exact ⟨_,e,s,a,d,rfl,g.up (Nat.le_succ n)⟩
theorem zV8 [h:QR Ψ n p] [k:QR Φ m q] {P:Program} {f:FuncId} {ρ:PV} (hb:Bod P f) (hr:rlen p (n + 1)→rlen q (m + 1)→CTy P f [ag (rtq (n + 1) p),ag (rtq (m + 1) q)] ρ):CTy P f [Ψ,Φ] ρ :=
 ⟨hb,fun M w vs hM hT hv=>by
  obtain ⟨g1,g2⟩:=rlen2 hv
  exact (hr g1 g2).run M w vs hM hT ((fs1 (zY0 (h:=h)) (fs1 (zY0 (h:=k)) fs0)) _ _ _ hv)⟩
theorem zU1 [h:QR Ψ n p] [k:QR Φ m q] (hn:n≤950) (hm:m≤950):CTy prog 54 [Ψ,Φ] (ag (rtc (n + m + 3) (p - q))):=zV8 (bo func54) fun g1 g2=>by
 rw [show n + m + 3=n + 1 + (m + 1) + 1 by omega]; exact w7sub g1 g2 (by omega) (by omega)
theorem k7quo [h:QR Ψ n p] [k:QR Φ m q] (hn:n≤950) (hm:m≤950):CTy prog 263 [Ψ,Φ] (tu [ag (rtc (n + m + 3) (p / q)),exP (.int .i64 (if q=0 then 30 else 0))]):=zV8 (bo func263) fun g1 g2=>by
 rw [show n + m + 3=n + 1 + (m + 1) + 1 by omega]; exact w7quo g1 g2 (by omega) (by omega)
theorem zM1 [h:QR Ψ n p] [k:QR Φ m q] (hn:n≤1990) (hm:m≤1990):CTy prog 41 [Ψ,Φ] (exP (.int .i64 (cmpR p q))):=gF (nB hn hm) (fs1 qr_q (fs1 qr_q fs0))
end
set_option maxHeartbeats 4000000 in
theorem w7same {p q:Rat} {n m:Nat} (hn:n≤1990) (hm:m≤1990):CTy prog 51 [ag (rtq n p),ag (rtq m q)] (exP (.bool (decide (cmpR p q=0)))):=by
 refine ct (rs:=[4]) func51 rfl rfl rfl rfl rfl iH fun X=>(zH (zJ rfl (zA1 (obx rfl) (zA1 (obx rfl) (zA1 (oas rfl) (zA0 (zH ?_)))))))
 refine zJ rfl (zA1 (old rfl rfl) (zA1 (old rfl rfl) (zA1 (oca rfl rfl fun _=>zM1 (by omega) (by omega)) (zA1 (oeq rfl rfl) (zA1 (oas rfl) (zA0 (zZ ?_)))))))
 exact tr1 rfl (psb rfl)
theorem zU2 {Ψ Φ:PV} {n m:Nat} {p q:Rat} [h:QR Ψ n p] [k:QR Φ m q] (hn:n≤1990) (hm:m≤1990):CTy prog 51 [Ψ,Φ] (exP (.bool (decide (cmpR p q=0)))):=gF (w7same hn hm) (fs1 qr_q (fs1 qr_q fs0))
section
variable {M : Nat → Prop} {w : World}
theorem x7norm_c {p:Rat} {n0:Nat} {s:Bool} {a d:Value} (hT:Tab M w) (h0:QC M w n0 p s a d) (hl0:n0≤1999) (hM:OkM M w) :
    CallsV prog 90 [.agg #[.bool s,a,d]] w fun r w'=>Bel w.heap.size w w'∧∃ xs xa xd,r = .agg #[.bool xs,xa,xd]∧RC M w' (n0 + 2) p xs xa xd :=
  ((aN (Ψ:=ag (rtq n0 p)) hl0).run M w _ hM hT ⟨_,_,rfl,⟨_,rfl,s,a,d,rfl,h0⟩,rfl⟩).mono fun r w' ⟨hB,us,e,s,a,d,e2,g⟩=>⟨hB,s,a,d,by subst e2; exact e,g.up (by omega)⟩
theorem x5mul_c {y z:Int} {n0:Nat} {xa0:Value} (hT:Tab M w) (h0:ZL M w n0 [y,z] xa0) (hl0:n0≤100000) (hlen:[y,z].length≤2) (hM:OkM M w) :
    CallsV prog 92 [xa0] w fun r w'=>Bel w.heap.size w w'∧∃ xs xa,r = .agg #[.bool xs,xa]∧ZC M w' (2 * n0 + 2) (gY [y,z]) xs xa :=
  ((iL (Ψ:=sv (sl 2 [ztq n0 y,ztq n0 z])) (by omega) (by simp)).run M w _ hM hT ⟨_,_,rfl,cT (f:=ztq n0) (xs:=[y,z]) (fun _=>rfl) (fun a us _ ⟨s,x,e,g⟩=>⟨s,x,e,g⟩) h0.row,rfl⟩).mono fun r w' ⟨hB,us,e,s,a,e2,g⟩=>⟨hB,s,a,by subst e2; exact e,g.up (by omega)⟩
theorem x7new_c {z:Int} {n0:Nat} {s:Bool} {a:Value} {k:Nat} {n1:Nat} {d:Value} (hT:Tab M w) (h0:ZQ M w n0 z s a) (h1:NQ M w n1 k d) (hl0:n0≤2000) (hl1:n1≤2000) (hM:OkM M w) :
    CallsV prog 113 [.agg #[.bool s,a],d] w fun r w'=>Bel w.heap.size w w'∧∃ xs xa xd,r = .tuple #[.agg #[.bool xs,xa,xd],.int .i64 (if k=0 then 30 else 0)]∧RC M w' (max n0 n1 + 2) (mkRat z k) xs xa xd :=
  ((pN (Ψ:=ag (ztq n0 z)) (Φ:=sv (ntq n1 k)) hl0 hl1).run M w _ hM hT ⟨_,_,rfl,⟨_,rfl,s,a,rfl,h0⟩,_,_,rfl,⟨_,rfl,h1⟩,rfl⟩).mono fun r w' ⟨hB,g⟩=>⟨hB,by
    obtain ⟨l,e,v,us,e2,⟨us2,e3,s,a,d,e4,g⟩,v2,us3,e5,h2,e6⟩:=g
    subst e2 e4 e5 e6; obtain rfl:v2=_:=h2
    exact ⟨s,a,d,by rw [e,e3],g⟩⟩
theorem x7mul_c {l:List Rat} {n0:Nat} {xa0:Value} (hT:Tab M w) (h0:QL M w n0 l xa0) (hl0:n0≤970) (hlen:l.length≤2) (hM:OkM M w) :
    CallsV prog 53 [xa0] w fun r w'=>Bel w.heap.size w w'∧∃ xsr xar xdr,r = .agg #[.bool xsr,xar,xdr]∧RC M w' (2 * n0 + 8) (uK l) xsr xar xdr:=by
 obtain ⟨oxa0,_⟩:=h0.one
 refine ci M func53 ntmps53 fun Fz hFz hF LL=>?_
 refine zF (zB (xB rfl sz33 (fun w1 b2 N2=>?_)))
 obtain ⟨_,nF2,nM2,Lw1,B2⟩:=nza hF hM N2
 obtain ⟨LL,hM,hF,hT,h0⟩:=up5 Lw1 LL hM hF hT h0
 refine zD (zF (zB (zK rfl (bo func94) rfl rfl ?_)))
 refine (rL (k:=1)  (by omega) hM).mono ?_
 rintro v6 w2 ⟨hB6,xs6,xa6,xd6,rfl,hn6⟩
 obtain ⟨LL,hM,hF,hT,h0,B2⟩:=ub6 hB6 LL hM hF hT h0 B2
 obtain ⟨oxa6,oxd6,_⟩:=hn6.one
 refine xB rfl sz33 (fun w3 b3 N3=>?_)
 obtain ⟨hBw3,nF3,nM3,Lw3,B3⟩:=nza hF hM N3
 obtain ⟨B2,ne2_3⟩:=bn B2 N3
 obtain ⟨LL,hM,hF,hT,h0,hn6⟩:=up6 Lw3 LL hM hF hT h0 hn6
 refine xH rfl rfl sz33 B3 rfl rfl (allq (allq (allq alln))) rfl (fun w4 Cw4 B3=>?_)
 obtain ⟨LL,hM,hF,hT,h0,hn6⟩:=up6 (lc LL Cw4 zO nF3) LL hM hF hT h0 hn6
 replace B2:=B2.other Cw4 ne2_3
 refine zD (zF (zF (zB (zC rfl rfl (zD (zX ?_))))))
 refine xT (σ:=Nat) [(0,_),(2,_),(3,_)] (fun s=>[(4,.int .i64 ((s:Nat):Int))]) (fun s w5=>Le Fz (Ins b3 (Ins b2 M)) w4 (Ins b3 (Ins b2 M)) w5∧s≤l.length∧Blk w5 b2 33 [.bool false,.slice none 0 0,.slice none 0 0]∧∃ xs3 xa3 xd3,Blk w5 b3 33 [.bool xs3,xa3,xd3]∧RC (Ins b3 (Ins b2 M)) w5 (s * (n0 + 3) + 2) (uK (l.take s)) xs3 xa3 xd3) (fun s=>l.length - s) (0) (zI rfl (zI rfl (zI rfl (zI rfl yB)))) ?_ (fun s w5 hJ=>?_)
 · exact ⟨Le.refl _ _ _,by omega,B2,_,_,_,B3,by simpa [uK] using hn6.up (by omega)⟩
 ·obtain ⟨LR,hk,B2,xs3,xa3,xd3,B3,hn3⟩:=hJ
  obtain ⟨oxa3,oxd3,_⟩:=hn3.one
  have hsn:s * (n0 + 3)≤2 * (n0 + 3):=Nat.mul_le_mul_right _ (by omega)
  have hsn1:s≤1→s * (n0 + 3)≤n0 + 3:=fun c=>by have:=Nat.mul_le_mul_right (n0 + 3) c; omega
  have hst:(s + 1) * (n0 + 3)=s * (n0 + 3) + (n0 + 3):=by rw [Nat.add_mul,Nat.one_mul]
  have hl3:=hn3.len
  obtain ⟨LL,hM,hF,hT,h0⟩:=up5 LR LL hM hF hT h0
  refine zF (zF (zB (zA rfl rfl (zA rfl rfl (tJ rfl underlying66 rfl h0.row (jT rfl rfl rfl (zD ?_)))))))
  refine zU rfl (fun hc0=>?_) (fun hc0=>?_)
  ·refine yE (zF (zX (zF (zB (zA rfl rfl (zA rfl rfl (tL (dflt:=(0:Rat)) (s) rfl underlying66 sz33 rfl rfl h0.row (by first | rfl | omega) (by first | omega | (simp; omega) | simp) (fun b15 o15 us15 hul15 hu15 hc15=>?_))))))))
   obtain ⟨xs15,xa15,xd15,rfl,hn15⟩:=hu15
   obtain ⟨oxa15,oxd15,_⟩:=hn15.one
   have hle:=hn15.rlen
   refine kS rfl cL sz33 rfl hc15 rfl (zK rfl (bo func90) rfl rfl ?_)
   refine (x7norm_c hT hn15 (by omega) hM).mono ?_
   rintro v17 w6 ⟨hB17,xs17,xa17,xd17,rfl,hn17⟩
   obtain ⟨LR,hM,hF,hT,h0,hn3,B2,B3⟩:=ub8 hB17 LR hM hF hT h0 hn3 B2 B3
   obtain ⟨oxa17,oxd17,_⟩:=hn17.one
   refine xB rfl sz33 (fun w7 b5 N5=>?_)
   obtain ⟨hBw7,nF5,nM5,Lw7,B5⟩:=nza hF hM N5
   obtain ⟨B2,ne2_5⟩:=bn B2 N5
   obtain ⟨B3,ne3_5⟩:=bn B3 N5
   obtain ⟨LR,hM,hT,h0,hn3,hn17⟩:=up6 Lw7 LR hM hT h0 hn3 hn17
   refine xH rfl rfl sz33 B5 rfl rfl (allq (allq (allq alln))) rfl (fun w8 Cw8 B5=>?_)
   obtain ⟨LR,hM,hT,h0,hn3,hn17⟩:=up6 (lc LR Cw8 zO nF5) LR hM hT h0 hn3 hn17
   replace B2:=B2.other Cw8 ne2_5
   replace B3:=B3.other Cw8 ne3_5
   refine zD ?_
   refine bP (R:=Rs (·=b3)) (R':=Rb) (st:=some (15,(fun w=>Blk w b3 33 [.bool xs3,xa3,xd3]),(fun w=>∃ xs3 xa3 xd3,Blk w b3 33 [.bool xs3,xa3,xd3]∧RC (Ins b5 (Ins b3 (Ins b2 M))) w (max (2 * (max ((s * (n0 + 3) + 2)) (n0 + 2)) + 2) ((s * (n0 + 3) + 2) + (n0 + 2)) + 2) (mkRat (gY ([(uK (l.take s)).num,((l.getD s 0)).num])) (((uK (l.take s)).den) * (((l.getD s 0)).den))) xs3 xa3 xd3))) mixed 16 [0,2,3,4] (by decide +kernel) bG lX (dD _) (fun _ _ _ h=>by cases h; exact ⟨by decide,B3,fun _ _ h r=>h.below r,fun _ _ ⟨xs3,xa3,xd3,B,h0⟩ r=>⟨xs3,xa3,xd3,B.below r,h0.mono (lb r)⟩,_,rfl⟩) ?_
   apply zS rfl
   ·intro wq hR hst
    refine zV rfl rfl (zG ?_)
    have Lq:=lqb (M:=(Ins b5 (Ins b3 (Ins b2 M)))) hR (.inr zO) nF3
    exact zL 0 rfl yu33 rfl rfl sz31 rfl rfl (on0 rfl)
   apply zS rfl
   ·intro wq hR hst
    refine zM rfl (zG ?_)
    have Lq:=lqb (M:=(Ins b5 (Ins b3 (Ins b2 M)))) hR (.inr zO) nF3
    replace B3:=(hst.2 (by decide +kernel))
    exact jN rfl gD sz31 rfl B3 rfl rfl (on0 rfl)
   apply zS rfl
   ·intro wq hR hst
    refine zV rfl rfl (zG ?_)
    have Lq:=lqb (M:=(Ins b5 (Ins b3 (Ins b2 M)))) hR (.inr zO) nF3
    exact zL 0 rfl yu33 rfl rfl sz31 rfl rfl (on0 rfl)
   apply zS rfl
   ·intro wq hR hst
    refine zM rfl (zG ?_)
    have Lq:=lqb (M:=(Ins b5 (Ins b3 (Ins b2 M)))) hR (.inr zO) nF3
    replace B5:=B5.rs hR ne3_5.symm
    exact jN rfl gD sz31 rfl B5 rfl rfl (on0 rfl)
   refine gI rfl (fun v w=>∃ bb xs23 xa23 xs23b xa23b,v = .slice (some ⟨bb,0,none⟩) 2 2∧KBlk (Ins b5 (Ins b3 (Ins b2 M))) w bb 31 [.bool xs23,xa23,.bool xs23b,xa23b]∧ZC (Ins b5 (Ins b3 (Ins b2 M))) w (s * (n0 + 3) + 2) ((uK (l.take s)).num) xs23 xa23∧ZC (Ins b5 (Ins b3 (Ins b2 M))) w (n0 + 2) (((l.getD s 0)).num) xs23b xa23b) (fun _ _ _ ⟨bb,xs23,xa23,xs23b,xa23b,e,hk,h0,h1⟩ r=>⟨bb,xs23,xa23,xs23b,xa23b,e,hk.mono (Fz:=fun _=>False) (Le.of_rs r (by rintro _ rfl; exact (.inr zO)) (fun _ _ h=>h)),h0.mono (Fz:=fun _=>False) (Le.of_rs r (by rintro _ rfl; exact (.inr zO)) (fun _ _ h=>h)),h1.mono (Fz:=fun _=>False) (Le.of_rs r (by rintro _ rfl; exact (.inr zO)) (fun _ _ h=>h))⟩) (fun wq hR hst=>?_) ?_
   ·refine zM rfl (zM rfl (zG ?_))
    have Lq:=lqb (M:=(Ins b5 (Ins b3 (Ins b2 M)))) hR (.inr zO) nF3
    obtain ⟨hM,hn3,hn17⟩:=up3 Lq hM hn3 hn17
    refine uR rfl underlying149 sz31 rfl rfl rfl rfl (jB rfl (jB rfl qD)) rfl rfl rfl (fun w9 b23 N23=>?_)
    have hBw9:=N23.below
    have nM23:=hM.new N23
    have B23:=N23.blk
    obtain ⟨hn3,hn17⟩:=ub2 hBw9 hn3 hn17
    have hB23:=hBw9
    exact on1 hB23 rfl ⟨b23,_,_,_,_,rfl,KBlk.mk B23 nM23,hn3.z,hn17.z⟩
   refine gI rfl (fun v w=>∃ xs24 xa24,v = .agg #[.bool xs24,xa24]∧ZC (Ins b5 (Ins b3 (Ins b2 M))) w (2 * (max ((s * (n0 + 3) + 2)) (n0 + 2)) + 2) (gY ([(uK (l.take s)).num,((l.getD s 0)).num])) xs24 xa24) (fun _ _ _ ⟨xs24,xa24,e,h0⟩ r=>⟨xs24,xa24,e,h0.mono (Fz:=fun _=>False) (Le.of_rs r (by rintro _ rfl; exact (.inr zO)) (fun _ _ h=>h))⟩) (fun wq hR hst=>?_) ?_
   ·refine xY rfl (fun v23 hp23=>?_)
    obtain ⟨bb23,xs23,xa23,xs23b,xa23b,rfl,hk23,hn23,hnb23⟩:=hp23; obtain ⟨oxa23,_⟩:=hn23.one
    refine zG ?_
    have Lq:=lqb (M:=(Ins b5 (Ins b3 (Ins b2 M)))) hR (.inr zO) nF3
    obtain ⟨hM,hT⟩:=up2 Lq hM hT
    refine zK rfl (bo func92) rfl rfl ?_
    refine (x5mul_c hT (zl2 hk23 hn23.gen hnb23.gen) (by omega) (by first | omega | simp) hM).mono ?_
    rintro v24 w10 ⟨hB24,xs24,xa24,rfl,hn24⟩
    exact on1 hB24 rfl ⟨_,_,rfl,hn24⟩
   apply zS rfl
   ·intro wq hR hst
    refine zV rfl rfl (zG ?_)
    have Lq:=lqb (M:=(Ins b5 (Ins b3 (Ins b2 M)))) hR (.inr zO) nF3
    exact zL 2 rfl yu33 rfl rfl sz29 rfl rfl (on0 rfl)
   apply zS rfl
   ·intro wq hR hst
    refine zM rfl (zG ?_)
    have Lq:=lqb (M:=(Ins b5 (Ins b3 (Ins b2 M)))) hR (.inr zO) nF3
    replace B3:=(hst.2 (by decide +kernel))
    exact zN rfl yS rfl B3 rfl (on0 rfl)
   apply zS rfl
   ·intro wq hR hst
    refine zV rfl rfl (zG ?_)
    have Lq:=lqb (M:=(Ins b5 (Ins b3 (Ins b2 M)))) hR (.inr zO) nF3
    exact zL 2 rfl yu33 rfl rfl sz29 rfl rfl (on0 rfl)
   apply zS rfl
   ·intro wq hR hst
    refine zM rfl (zG ?_)
    have Lq:=lqb (M:=(Ins b5 (Ins b3 (Ins b2 M)))) hR (.inr zO) nF3
    replace B5:=B5.rs hR ne3_5.symm
    exact zN rfl yS rfl B5 rfl (on0 rfl)
   refine gI rfl (fun v w=>∃ xa29,v=xa29∧NC (Ins b5 (Ins b3 (Ins b2 M))) w ((s * (n0 + 3) + 2) + (n0 + 2)) (((uK (l.take s)).den) * (((l.getD s 0)).den)) xa29) (fun _ _ _ ⟨xa29,e,h0⟩ r=>⟨xa29,e,h0.mono (Fz:=fun _=>False) (Le.of_rs r (by rintro _ rfl; exact (.inr zO)) (fun _ _ h=>h))⟩) (fun wq hR hst=>?_) ?_
   ·refine zM rfl (zM rfl (zG ?_))
    have Lq:=lqb (M:=(Ins b5 (Ins b3 (Ins b2 M)))) hR (.inr zO) nF3
    obtain ⟨hM,hn3,hn17⟩:=up3 Lq hM hn3 hn17
    refine zK rfl (bo func114) rfl rfl ?_
    refine (nmul_q hn3.d.gen hn17.d.gen (by omega) (by omega) hM).mono ?_
    rintro v29 w11 ⟨hB29,xa29,rfl,hn29⟩
    exact on1 hB29 rfl ⟨_,rfl,hn29⟩
   refine gI rfl (fun v w=>∃ xs30 xa30 xd30,v = .tuple #[.agg #[.bool xs30,xa30,xd30],.int .i64 (if (((uK (l.take s)).den) * (((l.getD s 0)).den))=0 then 30 else 0)]∧RC (Ins b5 (Ins b3 (Ins b2 M))) w (max (2 * (max ((s * (n0 + 3) + 2)) (n0 + 2)) + 2) ((s * (n0 + 3) + 2) + (n0 + 2)) + 2) (mkRat (gY ([(uK (l.take s)).num,((l.getD s 0)).num])) (((uK (l.take s)).den) * (((l.getD s 0)).den))) xs30 xa30 xd30) (fun _ _ _ ⟨xs30,xa30,xd30,e,h0⟩ r=>⟨xs30,xa30,xd30,e,h0.mono (Fz:=fun _=>False) (Le.of_rs r (by rintro _ rfl; exact (.inr zO)) (fun _ _ h=>h))⟩) (fun wq hR hst=>?_) ?_
   ·refine xY rfl (fun v24 hp24=>?_)
    obtain ⟨xs24,xa24,rfl,hn24⟩:=hp24
    refine xY rfl (fun v29 hp29=>?_)
    obtain ⟨xa29,rfl,hn29⟩:=hp29
    refine zG ?_
    have Lq:=lqb (M:=(Ins b5 (Ins b3 (Ins b2 M)))) hR (.inr zO) nF3
    obtain ⟨hM,hT⟩:=up2 Lq hM hT
    refine zK rfl (bo func113) rfl rfl ?_
    refine (x7new_c hT hn24.gen hn29.gen (by omega) (by omega) hM).mono ?_
    rintro v30 w12 ⟨hB30,xs30,xa30,xd30,rfl,hn30⟩
    exact on1 hB30 rfl ⟨_,_,_,rfl,hn30⟩
   refine gI rfl (fun v w=>∃ xs18 xa18 xd18,v = .tuple #[.agg #[.bool xs18,xa18,xd18],.int .i64 (if (((uK (l.take s)).den) * (((l.getD s 0)).den))=0 then 30 else 0)]∧RC (Ins b5 (Ins b3 (Ins b2 M))) w (max (2 * (max ((s * (n0 + 3) + 2)) (n0 + 2)) + 2) ((s * (n0 + 3) + 2) + (n0 + 2)) + 2) (mkRat (gY ([(uK (l.take s)).num,((l.getD s 0)).num])) (((uK (l.take s)).den) * (((l.getD s 0)).den))) xs18 xa18 xd18) (fun _ _ _ ⟨xs18,xa18,xd18,e,h0⟩ r=>⟨xs18,xa18,xd18,e,h0.mono (Fz:=fun _=>False) (Le.of_rs r (by rintro _ rfl; exact (.inr zO)) (fun _ _ h=>h))⟩) (fun wq hR hst=>?_) ?_
   ·refine xY rfl (fun v30 hp30=>?_)
    obtain ⟨xs30,xa30,xd30,rfl,hn30⟩:=hp30
    refine zG ?_
    have Lq:=lqb (M:=(Ins b5 (Ins b3 (Ins b2 M)))) hR (.inr zO) nF3
    exact zA rfl rfl (zD ⟨rfl,xJ _,_,rfl,⟨_,_,_,rfl,hn30⟩⟩)
   refine gI rfl (fun v w=>∃ xs31 xa31 xd31,v = .agg #[.bool xs31,xa31,xd31]∧RC (Ins b5 (Ins b3 (Ins b2 M))) w (max (2 * (max ((s * (n0 + 3) + 2)) (n0 + 2)) + 2) ((s * (n0 + 3) + 2) + (n0 + 2)) + 2) (mkRat (gY ([(uK (l.take s)).num,((l.getD s 0)).num])) (((uK (l.take s)).den) * (((l.getD s 0)).den))) xs31 xa31 xd31) (fun _ _ _ ⟨xs31,xa31,xd31,e,h0⟩ r=>⟨xs31,xa31,xd31,e,h0.mono (Fz:=fun _=>False) (Le.of_rs r (by rintro _ rfl; exact (.inr zO)) (fun _ _ h=>h))⟩) (fun wq hR hst=>?_) ?_
   ·refine xY rfl (fun v18 hp18=>?_)
    obtain ⟨xs18,xa18,xd18,rfl,hn18⟩:=hp18
    refine zG ?_
    have Lq:=lqb (M:=(Ins b5 (Ins b3 (Ins b2 M)))) hR (.inr zO) nF3
    exact yM rfl rfl rfl (zD ⟨rfl,xJ _,_,rfl,⟨_,_,_,rfl,hn18⟩⟩)
   refine gI rfl (Ex (.int .i64 (if (((uK (l.take s)).den) * (((l.getD s 0)).den))=0 then 30 else 0))) sG (fun wq hR hst=>?_) ?_
   ·refine xY rfl (fun v18 hp18=>?_)
    obtain ⟨xs18,xa18,xd18,rfl,hn18⟩:=hp18
    refine zG ?_
    have Lq:=lqb (M:=(Ins b5 (Ins b3 (Ins b2 M)))) hR (.inr zO) nF3
    exact yM rfl rfl rfl (on0 rfl)
   refine fD rfl (fun wq hR hp=>?_) ?_
   ·refine zV rfl rfl (xY rfl (fun v31 hp31=>?_))
    obtain ⟨xs31,xa31,xd31,rfl,hn31⟩:=hp31; obtain ⟨oxa31,oxd31,_⟩:=hn31.one
    refine zG ?_
    have Lq:=lqb (M:=(Ins b5 (Ins b3 (Ins b2 M)))) hR (.inr zO) nF3
    replace B3:=hp
    refine xH rfl rfl sz33 B3 rfl rfl (allq (allq (allq alln))) rfl (fun w13 Cw13 B3=>?_)
    have Lw13:=Le.of_chg (M:=(Ins b5 (Ins b3 (Ins b2 M)))) Cw13 (.inr zO) nF3
    replace hn31:=hn31.mono Lw13
    exact zD ⟨rfl,dE Cw13,_,_,_,B3,hn31⟩
   refine gB (fun wq6 hR6 hpost6=>?_)
   refine zV rfl rfl (zV rfl rfl (zV rfl rfl (zV rfl rfl (zG ?_))))
   simp only [qZ,qY,qX,qW]
   obtain ⟨LR,hn3⟩:=up2 (lqc LR hR6 (.inr zO) nF3) LR hn3
   replace B2:=B2.rs hR6 ne2_3
   obtain ⟨xs3,xa3,xd3,B3,hn3⟩:=hpost6 _ _ _ rfl
   refine zD (zB (zA rfl rfl (yV rfl rfl rfl (by omega) (zC rfl rfl (zD ?_)))))
   replace LR:=LR.trans (Le.less (fun k c=>(yF c)))
   replace hn3:=hn3.mono (Fz:=fun _=>False) (Le.less (fun k c=>(yF c)))
   refine ⟨rfl,s + 1,(zR rfl (by rw [Int.natCast_add]; rfl) (zI rfl (zI rfl (zI rfl yB)))),?_,?_⟩
   rw [mul_eq] at hn3
   exact ⟨LR,by omega,B2,_,_,_,B3,by rw [prodR_take (by omega)]; exact RC.relen hn3 (xS (bH hl3 hle) (by omega))⟩
   omega
  ·refine xI (xK (zF (zB (jN rfl cL sz33 rfl B3 rfl rfl (xH rfl rfl sz33 B2 rfl rfl (allq (allq (allq alln))) rfl (fun w14 Cw14 B2=>?_))))))
   obtain ⟨LL,hn3⟩:=up2 (lc LL Cw14 (.inr zO) nF2) LL hn3
   refine zD (zY ?_)
   refine lv1 ⟨⟨_,rfl,jY cL sz33 B2 rfl rfl⟩,trivial⟩ ?_
   obtain rfl:s=l.length:=by omega
   rw [List.take_length] at hn3
   subst hFz
   exact ⟨LL.b,_,_,_,rfl,(hn3.less (fun k c=>yF (yF c))).up (by omega)⟩
end
theorem lK {Ψ:PV} {n:Nat} {p q:Rat} [h:VQ Ψ n [p,q]] (hn:n≤970):CTy prog 53 [Ψ] (ag (rtc (2 * n + 8) (p * q))) :=
 ⟨(bo func53),fun M w vs hM hT hv=>by
  obtain ⟨v,rfl,h1⟩:=fa1 hv
  exact (x7mul_c hT (h.h h1) hn (by simp) hM).mono fun r w' ⟨hB,x,y,z,e,g⟩=>⟨hB,by
   have e2:uK [p,q]=p * q:=by simp [uK,Rat.one_mul]
   rw [e2] at g; exact e ▸ zR4 g⟩⟩
def fc (f:FuncId) (l:List PV):CT where
 sz:=1
 p M w cs:=∃ v,cs=[v]∧(fn f l).p M w v
 len h:=by obtain ⟨_,rfl,_⟩:=h; rfl
 one h:=by obtain ⟨_,rfl,_,rfl,_⟩:=h; exact allc rfl alln
 mono h k:=by obtain ⟨v,rfl,h⟩:=h; exact ⟨v,rfl,(fn f l).mono h k⟩
instance {f:FuncId} {l:List PV}:CtOf (fn f l) (fc f l):=⟨fun {M w v} h=>⟨[v],by obtain ⟨_,rfl,_⟩:=h; rfl,v,rfl,h⟩⟩
instance {f:FuncId}:CtOf (exP (.func (.func f) #[] #[])) (fc f []):=⟨fun {M w v} h=>⟨[v],by rw [show v=_ from h]; rfl,v,rfl,[],h,rfl⟩⟩
instance {f:FuncId} {l:List PV}:LdA false (fc f l) (fn f l):=⟨fun h u e=>by obtain ⟨v,e2,k⟩:=h; rw [e] at e2; rw [List.singleton_inj.1 e2]; exact k⟩
theorem zO0 {f:FuncId} {τs:List PV} {n N:Nat} {q:Rat} (h:CTy prog f τs (ag (rtc n q))) (hr:rlen q N):CTy prog f τs (ag (rtc N q)):=⟨h.bod,fun M w vs hM hT hv=>(h.run M w vs hM hT hv).mono fun r w' ⟨hB,k⟩=>⟨hB,nO rfl hr _ _ _ k⟩⟩
set_option maxHeartbeats 4000000 in
theorem wS {f:FuncId} {n m N:Nat} {p q r:Rat} (hf:CTy prog f [sv (sl 3 [rtq n p,rtq m q])] (ag (rtc N r))):CTy prog 199 [ag (rtq n p),ag (rtq m q),pa (fc f [])] (ag (rtc N r)):=by
 refine ctc func199 rfl rfl rfl rfl fun X=>(zH (zJ rfl (zA1 (obx rfl) (zA1 (obx rfl) ?_))))
 refine tal fun b5=>?_
 refine zA0 (zH (zJ rfl (zA1 (old rfl rfl) (zA1 (old rfl rfl) (zA1 (old rfl rfl) (zA1 (obs rfl rfl rfl rfl rfl rfl) (zA1 (oca rfl rfl fun _=>hf) ?_)))))))
 refine tst 0 rfl rfl rfl rfl rfl rfl (zA0 (zZ ?_))
 exact ⟨[_],rsc 0 rfl rfl rfl rfl rs0,yN (PSub.refl _)⟩
set_option maxHeartbeats 4000000 in
theorem wtwo {f:FuncId}:CTy prog 139 [fn f []] (fn 199 [pa (fc f [])]):=by
 refine ct (rs:=[2]) func139 rfl rfl rfl rfl rfl iH fun X=>(zH (zJ rfl (zA1 (obx rfl) (zA1 (oas rfl) (zA0 (zH (zJ rfl ?_)))))))
 refine zA1 (omf rfl) (zA1 (oas rfl) (zA0 (zZ ?_)))
 exact tr1 rfl (PSub.refl _)
set_option maxHeartbeats 4000000 in
theorem pZ {g:FuncId} {l:List PV} {n m N:Nat} {a b c d r s:Rat} (h1:CTy prog g ([ag (rtq n a),ag (rtq m c)] ++ l) (ag (rtc N r))) (h2:CTy prog g ([ag (rtq n b),ag (rtq m d)] ++ l) (ag (rtc N s))):CTy prog 198 [ag (st [rtq n a,rtq n b]),ag (st [rtq m c,rtq m d]),pa (fc g l)] (ag (st [rtc N r,rtc N s])):=by
 refine ctc func198 rfl rfl rfl rfl fun X=>(zH (zJ rfl (zA1 (obx rfl) (zA1 (obx rfl) ?_))))
 refine tal fun b5=>?_
 refine zA0 (zH (yR 13 mixed rfl rfl (d1 (old rfl rfl) (d1 (ofa rfl rfl) (d1 (old rfl rfl) (d1 (ofa rfl rfl) (d1 (old rfl rfl) ?_)))))))
 refine d1 (oca rfl rfl fun _=>h1) (d1 (old rfl rfl) (d1 (ofa rfl rfl) (d1 (old rfl rfl) (d1 (ofa rfl rfl) (d1 (old rfl rfl) (d1 (oca rfl rfl fun _=>h2) (d1 (obd rfl rfl rfl) ?_)))))))
 refine d0 (tst 0 rfl rfl rfl rfl rfl rfl (zA0 (zZ ?_)))
 exact ⟨[_],rsc 0 rfl rfl rfl rfl rs0,yN (PSub.refl _)⟩
set_option maxHeartbeats 4000000 in
theorem wparts {g:FuncId} {l:List PV}:CTy prog 138 [fn g l] (fn 198 [pa (fc g l)]):=by
 refine ct (rs:=[2]) func138 rfl rfl rfl rfl rfl iH fun X=>(zH (zJ rfl (zA1 (obx rfl) (zA1 (oas rfl) (zA0 (zH (zJ rfl ?_)))))))
 refine zA1 (omf rfl) (zA1 (oas rfl) (zA0 (zZ ?_)))
 exact tr1 rfl (PSub.refl _)
theorem ktwo {Ψ:PV} {f:FuncId} [h:VF Ψ f []]:CTy prog 139 [Ψ] (fn 199 [pa (fc f [])]):=gF wtwo (fs1 (fun _ _ _ k=>h.h k) fs0)
theorem wK {Ψ:PV} {f:FuncId} {l:List PV} [h:VF Ψ f l]:CTy prog 138 [Ψ] (fn 198 [pa (fc f l)]):=gF wparts (fs1 (fun _ _ _ k=>h.h k) fs0)
set_option maxHeartbeats 4000000 in
theorem wvadd {p q:P2} {n m:Nat} (g1:plen p (n + 1)) (g2:plen q (m + 1)) (hn:n≤30000) (hm:m≤30000):CTy prog 80 [ag (ptq n p),ag (ptq m q)] (ag (st [rtc (n + m + 3) (addP p q).1,rtc (n + m + 3) (addP p q).2])):=by
 refine ctc func80 rfl rfl rfl rfl fun X=>(zH (zJ rfl (zA1 (obx rfl) (zA1 (obx rfl) ?_))))
 refine tal fun b4=>?_
 refine zA0 (zH (yR 5 mixed rfl rfl (d1 (oca rfl rfl fun _=>ktwo) (d1 (oca rfl rfl fun _=>wK) (d1 (old rfl rfl) (d1 (old rfl rfl) (d1 (oca rfl rfl fun _=>pZ (N:=n + m + 3) (wS (zO0 (zZ2 (by omega)) (xS (uM g1.x g2.x) (by omega)))) (wS (zO0 (zZ2 (by omega)) (xS (uM g1.y g2.y) (by omega))))) ?_)))))))
 refine d0 (tst 0 rfl rfl rfl rfl rfl rfl (zA0 (zZ ?_)))
 exact ⟨[_],rsc 0 rfl rfl rfl rfl rs0,yN (PSub.refl _)⟩
set_option maxHeartbeats 4000000 in
theorem wvsub {p q:P2} {n m:Nat} (g1:plen p (n + 1)) (g2:plen q (m + 1)) (hn:n≤30000) (hm:m≤30000):CTy prog 134 [ag (ptq n p),ag (ptq m q)] (ag (st [rtc (n + m + 3) (subP p q).1,rtc (n + m + 3) (subP p q).2])):=by
 refine ctc func134 rfl rfl rfl rfl fun X=>(zH (zJ rfl (zA1 (obx rfl) (zA1 (obx rfl) ?_))))
 refine tal fun b4=>?_
 refine zA0 (zH (yR 4 mixed rfl rfl (d1 (oca rfl rfl fun _=>wK) (d1 (old rfl rfl) (d1 (old rfl rfl) (d1 (oca rfl rfl fun _=>pZ (zT7 (by omega) (by omega)) (zT7 (by omega) (by omega))) (d0 ?_)))))))
 refine tst 0 rfl rfl rfl rfl rfl rfl (zA0 (zZ ?_))
 exact ⟨[_],rsc 0 rfl rfl rfl rfl rs0,yN (PSub.refl _)⟩
set_option maxHeartbeats 4000000 in
theorem wvscale {p:P2} {q:Rat} {n m:Nat} (g1:plen p (n + 1)) (g2:rlen q (m + 1)) (hn:n≤30000) (hm:m≤30000):CTy prog 270 [ag (ptq n p),ag (rtq m q)] (ag (st [rtc (n + m + 3) (dC p q).1,rtc (n + m + 3) (dC p q).2])):=by
 refine ctc func270 rfl rfl rfl rfl fun X=>(zH (zJ rfl (zA1 (obx rfl) (zA1 (obx rfl) ?_))))
 refine tal fun b4=>?_
 refine zA0 (zH (yR 7 mixed rfl rfl (d1 (oca rfl rfl fun _=>ktwo) (d1 (oca rfl rfl fun _=>wK) (d1 (old rfl rfl) (d1 (old rfl rfl) (d1 (old rfl rfl) ?_)))))))
 refine d1 (obd rfl rfl rfl) (d1 (oca rfl rfl fun _=>pZ (N:=n + m + 3) (wS (zO0 (zL9 (by omega)) (xS (bH g1.x g2) (by omega)))) (wS (zO0 (zL9 (by omega)) (xS (bH g1.y g2) (by omega))))) (d0 (tst 0 rfl rfl rfl rfl rfl rfl (zA0 (zZ ?_)))))
 exact ⟨[_],rsc 0 rfl rfl rfl rfl rs0,yN (PSub.refl _)⟩
set_option maxHeartbeats 4000000 in
theorem wvcross {p q:P2} {n m:Nat} (g1:plen p (n + 1)) (g2:plen q (m + 1)) (hn:n≤20000) (hm:m≤20000):CTy prog 197 [ag (ptq n p),ag (ptq m q)] (ag (rtc (2 * n + 2 * m + 9) (xR p q))):=by
 refine ctc func197 rfl rfl rfl rfl fun X=>(zH (zJ rfl (zA1 (obx rfl) (zA1 (obx rfl) ?_))))
 refine tal fun b4=>?_
 refine zA0 (zH (yR 13 mixed rfl rfl (d1 (ofa rfl rfl) (d1 (old rfl rfl) (d1 (ofa rfl rfl) (d1 (old rfl rfl) (d1 (obs rfl rfl rfl rfl rfl rfl) ?_)))))))
 refine d1 (oca rfl rfl fun _=>zL9 (by omega)) (d1 (ofa rfl rfl) (d1 (old rfl rfl) (d1 (ofa rfl rfl) (d1 (old rfl rfl) (d1 (obs rfl rfl rfl rfl rfl rfl) (d1 (oca rfl rfl fun _=>zL9 (by omega)) (d1 (oca rfl rfl fun _=>zT7 (by omega) (by omega)) ?_)))))))
 refine d0 (tst 0 rfl rfl rfl rfl rfl rfl (zA0 (zZ ?_)))
 exact ⟨[_],rsc 0 rfl rfl rfl rfl rs0,yN (nO rfl (xS (rlen_sub (bH g1.x g2.y) (bH g1.y g2.x)) (by omega)))⟩
set_option maxHeartbeats 4000000 in
theorem kvof {k l:Nat} (hk:k < 9223372036854775808) (hl:l < 9223372036854775808):CTy prog 142 [exP (.int .i64 ((k:Nat):Int)),exP (.int .i64 ((l:Nat):Int))] (ag (st [rtc 2 ((k:Nat):Rat),rtc 2 ((l:Nat):Rat)])):=by
 refine ctc func142 rfl rfl rfl rfl fun X=>(zH (zJ rfl ?_))
 refine tal fun b4=>?_
 refine zA0 (zH (zJ rfl (zA1 (omv rfl) (zA1 (oca rfl rfl fun _=>krof hk) (zA1 (omv rfl) (zA1 (oca rfl rfl fun _=>krof hl) (zA1 (obd rfl rfl rfl) ?_)))))))
 refine tst 0 rfl rfl rfl rfl rfl rfl (zA0 (zZ ?_))
 exact ⟨[_],rsc 0 rfl rfl rfl rfl rs0,yN (PSub.refl _)⟩
set_option maxHeartbeats 4000000 in
theorem zW2 {p q:P2} {n m:Nat} (hn:n≤80000) (hm:m≤80000):CTy prog 69 [ag (ptq n p),ag (ptq m q)] (exP (.int .i64 (cmpP p q))):=by
 refine ct (rs:=[4]) func69 rfl rfl rfl rfl rfl iH fun X=>(zH (zJ rfl (zA1 (obx rfl) (zA1 (obx rfl) (zA1 (oas rfl) (zA0 (zH ?_)))))))
 refine zH (zJ rfl (zA1 (ofa rfl rfl) (zA1 (old rfl rfl) (zA1 (ofa rfl rfl) (zA1 (old rfl rfl) (zA1 (oca rfl rfl fun _=>fM (by omega) (by omega)) (zA1 (oas rfl) ?_)))))))
 refine zA0 (zH (zJ rfl (zA1 (omv rfl) (zA1 (oni rfl rfl) (zA0 ?_)))))
 refine t_if rfl (fun c0=>?_) (fun c0=>?_)
 ·refine zH ?_
  refine zJ rfl (zA1 (omv rfl) (zA1 (oas rfl) (zA0 (zZ ?_))))
  exact tr1 rfl (ps_i (by unfold cmpP; rw [if_pos (dt c0)]))
 ·refine yA ?_
  refine zH (zJ rfl (zA1 (ofa rfl rfl) (zA1 (old rfl rfl) (zA1 (ofa rfl rfl) (zA1 (old rfl rfl) (zA1 (oca rfl rfl fun _=>fM (by omega) (by omega)) (zA1 (oas rfl) ?_)))))))
  refine zA0 (zZ ?_)
  exact tr1 rfl (ps_i (by unfold cmpP; rw [if_neg (df c0)]))
set_option maxHeartbeats 4000000 in
theorem wvsame {p q:P2} {n m:Nat} (hn:n≤80000) (hm:m≤80000):CTy prog 71 [ag (ptq n p),ag (ptq m q)] (exP (.bool (decide (cmpP p q=0)))):=by
 refine ct (rs:=[4]) func71 rfl rfl rfl rfl rfl iH fun X=>(zH (zJ rfl (zA1 (obx rfl) (zA1 (obx rfl) (zA1 (oas rfl) (zA0 (zH ?_)))))))
 refine zJ rfl (zA1 (old rfl rfl) (zA1 (old rfl rfl) (zA1 (oca rfl rfl fun _=>zW2 hn hm) (zA1 (oeq rfl rfl) (zA1 (oas rfl) (zA0 (zZ ?_)))))))
 exact tr1 rfl (psb rfl)
section
variable {Ψ Φ : PV} {n m : Nat} {p q : P2}
theorem wO [h:QP Ψ n p] [k:QP Φ m q] {P:Program} {f:FuncId} {ρ:PV} (hb:Bod P f) (hr:plen p (n + 1)→plen q (m + 1)→CTy P f [ag (ptq n p),ag (ptq m q)] ρ):CTy P f [Ψ,Φ] ρ :=
 ⟨hb,fun M w vs hM hT hv=>by
  obtain ⟨v,u,_,h1,h2⟩:=fa2 hv
  obtain ⟨_,_,_,_,_,_,_,g1⟩:=h.h h1
  obtain ⟨_,_,_,_,_,_,_,g2⟩:=k.h h2
  exact (hr ⟨g1.x.rlen,g1.y.rlen⟩ ⟨g2.x.rlen,g2.y.rlen⟩).run M w vs hM hT ((fs1 qp_q (fs1 qp_q fs0)) _ _ _ hv)⟩
theorem kvadd [h:QP Ψ n p] [k:QP Φ m q] (hn:n≤30000) (hm:m≤30000):CTy prog 80 [Ψ,Φ] (ag (st [rtc (n + m + 3) (addP p q).1,rtc (n + m + 3) (addP p q).2])):=wO (bo func80) fun g1 g2=>wvadd g1 g2 hn hm
theorem pK [h:QP Ψ n p] [k:QP Φ m q] (hn:n≤30000) (hm:m≤30000):CTy prog 134 [Ψ,Φ] (ag (st [rtc (n + m + 3) (subP p q).1,rtc (n + m + 3) (subP p q).2])):=wO (bo func134) fun g1 g2=>wvsub g1 g2 hn hm
theorem kvscale {r:Rat} [h:QP Ψ n p] [k:QR Φ m r] (hn:n≤30000) (hm:m≤30000):CTy prog 270 [Ψ,Φ] (ag (st [rtc (n + m + 3) (dC p r).1,rtc (n + m + 3) (dC p r).2])) :=
 ⟨(bo func270),fun M w vs hM hT hv=>by
  obtain ⟨v,u,_,h1,h2⟩:=fa2 hv
  obtain ⟨_,_,_,_,_,_,_,g1⟩:=h.h h1
  obtain ⟨_,_,_,_,g2⟩:=k.h h2
  exact (wvscale ⟨g1.x.rlen,g1.y.rlen⟩ g2.rlen hn hm).run M w vs hM hT ((fs1 qp_q (fs1 qr_q fs0)) _ _ _ hv)⟩
theorem rU [h:QP Ψ n p] [k:QP Φ m q] (hn:n≤20000) (hm:m≤20000):CTy prog 197 [Ψ,Φ] (ag (rtc (2 * n + 2 * m + 9) (xR p q))):=wO (bo func197) fun g1 g2=>wvcross g1 g2 hn hm
theorem oD [h:QP Ψ n p] [k:QP Φ m q] (hn:n≤80000) (hm:m≤80000):CTy prog 69 [Ψ,Φ] (exP (.int .i64 (cmpP p q))):=gF (zW2 hn hm) (fs1 qp_q (fs1 qp_q fs0))
theorem zT4 [h:QP Ψ n p] [k:QP Φ m q] (hn:n≤80000) (hm:m≤80000):CTy prog 71 [Ψ,Φ] (exP (.bool (decide (cmpP p q=0)))):=gF (wvsame hn hm) (fs1 qp_q (fs1 qp_q fs0))
end
theorem hP {p q:P2} {n m:Nat} (e:p=q) (h:n≤m):PSub (ag (st [rtc n p.1,rtc n p.2])) (ag (st [rtc m q.1,rtc m q.2])):=fun M w v ⟨us,e1,x,y,e2,⟨s,a,d,k1,g1⟩,z,o,e3,⟨t,b,f,k2,g2⟩,e4⟩=>by
 subst e; exact ⟨us,e1,x,y,e2,⟨s,a,d,k1,g1.up h⟩,z,o,e3,⟨t,b,f,k2,g2.up h⟩,e4⟩
set_option maxHeartbeats 4000000 in
theorem wvat {p q:P2} {u:Rat} {n m k:Nat} (hn:n≤9000) (hm:m≤9000) (hk:k≤9000):CTy prog 215 [ag (ptq n p),ag (ptq m q),ag (rtq k u)] (ag (st [rtc (2 * n + m + k + 9) (atP p q u).1,rtc (2 * n + m + k + 9) (atP p q u).2])):=by
 refine ctc func215 rfl rfl rfl rfl fun X=>(zH (zJ rfl (zA1 (obx rfl) (zA1 (obx rfl) (zA1 (obx rfl) ?_)))))
 refine tal fun b6=>?_
 refine zA0 (zH (yR 7 mixed rfl rfl (d1 (old rfl rfl) (d1 (old rfl rfl) (d1 (old rfl rfl) (d1 (oca rfl rfl fun _=>pK (by omega) (by omega)) (d1 (old rfl rfl) ?_)))))))
 refine d1 (oca rfl rfl fun _=>kvscale (by omega) (by omega)) (d1 (oca rfl rfl fun _=>kvadd (by omega) (by omega)) (d0 (tst 0 rfl rfl rfl rfl rfl rfl (zA0 (zZ ?_)))))
 exact ⟨[_],rsc 0 rfl rfl rfl rfl rs0,yN (hP rfl (by omega))⟩
theorem kvat {Ψ Φ Θ:PV} {p q:P2} {u:Rat} {n m k:Nat} [h0:QP Ψ n p] [h1:QP Φ m q] [h2:QR Θ k u] (hn:n≤9000) (hm:m≤9000) (hk:k≤9000):CTy prog 215 [Ψ,Φ,Θ] (ag (st [rtc (2 * n + m + k + 9) (atP p q u).1,rtc (2 * n + m + k + 9) (atP p q u).2])):=gF (wvat hn hm hk) (fs1 qp_q (fs1 qp_q (fs1 qr_q fs0)))
theorem rY {Ψ:PV} {n:Nat} {p:Rat} [h:QR Ψ n p] (hn:n≤500000):CTy prog 16 [Ψ] (exP (.int .i64 (sgnR p))) :=
 ⟨(bo func16),fun M w vs hM hT hv=>by
  obtain ⟨v,rfl,h1⟩:=fa1 hv
  obtain ⟨s,a,d,rfl,g1⟩:=h.h h1
  exact r7sign_c g1 hn hM⟩
end Go.Proofs.YtflobagimodmgaaGreatDoor
namespace Go.Proofs.YtflobagimodmgaaGreatDoor
open Go Go.SL Go.RowKit Go.Proofs Go.ChangeShapes Go.WideShapes Go.ChangeAt Go.Deep Tryz
abbrev F0:Nat→Prop:=fun _=>False
structure Opn {H:Type} (enc:TypeId × Value→H) (P:Program) (W:World) (B:Nat) (t:TypeId) {α:Type} (sz:Nat) (f:α→CT) (Bd:α→Prop):Prop where
 c:P.cellsOf t=sz
 s:∀ a,(f a).sz=sz
 o:∀ {fuel:Nat} {cs:List Value} {x:DataW H × List MemPlace},(∀ m ∈ x.1.weights P t,m≤B)→DataW.trod enc P W 0 (fun _=>true) true fuel t cs=some x→∃ a,(f a).p F0 W cs∧Bd a
def Two (P:Program) (t zA0 zA1:TypeId) (k0 k1:Nat):Prop:=∃ fs f0 f1,P.underlying t=some (.struct fs)∧fs[0]? = some f0∧fs[1]? = some f1∧f0.type=zA0∧f1.type=zA1∧f0.offset=0∧f1.offset=k0∧P.cellsOf t=k0 + k1
section
variable {H : Type} {enc : TypeId × Value → H} {P : Program} {W : World} {B : Nat}
theorem lT {e:TypeId} {m:Nat} {d:DataW H} (hm:m ∈ d.weights P e):∀ {l:List (DataW H)},d ∈ l→m ∈ DataW.weightsAll P e l
 | c :: l,h=>by
  simp only [DataW.weightsAll,List.mem_append]
  rcases List.mem_cons.1 h with rfl | h
  ·exact .inl hm
  ·exact .inr (lT hm h)
theorem rR {α β:Type} {t zA0 zA1:TypeId} {k0 k1:Nat} {f:α→CT} {g:β→CT} {Bf:α→Prop} {Bg:β→Prop} (ht:Two P t zA0 zA1 k0 k1) (h0:Opn enc P W B zA0 k0 f Bf) (h1:Opn enc P W B zA1 k1 g Bg) :
  Opn enc P W B t (k0 + k1) (fun a:α × β=>st [f a.1,g a.2]) (fun a=>Bf a.1∧Bg a.2):=by
 obtain ⟨fs,f0,f1,u1,u2,u3,u4,u5,u6,u7,u8⟩:=ht
 refine ⟨u8,fun a=>by show (f a.1).sz + ((g a.2).sz + 0)=_; rw [h0.s,h1.s]; rfl,fun {fuel cs x} hw h=>?_⟩
 obtain ⟨xs,n,_,hxe,hl,hx,hall⟩:=DataW.trod_struct u1 h
 have l0:=(Array.getElem?_eq_some_iff.1 u2).1
 have l1:=(Array.getElem?_eq_some_iff.1 u3).1
 have e0:=hall 0 f0 u2
 have e1:=hall 1 f1 u3
 have n0:P.cellsOf f0.type=k0:=by rw [u4]; exact h0.c
 have n1:P.cellsOf f1.type=k1:=by rw [u5]; exact h1.c
 rw [u6,n0,List.drop_zero] at e0
 rw [u7,n1] at e1
 have hd:(cs.drop k0).length=k1:=by rw [List.length_drop]; omega
 rw [List.take_of_length_le (by omega)] at e1
 have hwe:∀ m ∈ DataW.weightsEach P (fs.toList.map (·.type)) (xs.map (·.1)),m≤B:=fun m hm=>hw m (by rw [hxe]; simpa [DataW.weights,u1] using hm)
 have hwi:∀ (i:Nat) (f:Field) (hi:i < xs.length),fs[i]? = some f→∀ m ∈ (xs[i]'hi).1.weights P f.type,m≤B:=fun i f hi hf m hm =>
  hwe m (DataW.weights_mem_each (j:=i) (by rw [List.getElem?_map]; simp [hf]) (by rw [List.getElem?_map,List.getElem?_eq_getElem hi]; rfl) m hm)
 have w0:=hwi 0 f0 (by omega) u2
 have w1:=hwi 1 f1 (by omega) u3
 rw [List.getElem?_eq_getElem (show 0 < xs.length by omega)] at e0
 rw [List.getElem?_eq_getElem (show 1 < xs.length by omega)] at e1
 rw [u4] at w0 e0; rw [u5] at w1 e1
 obtain ⟨a,p0,b0⟩:=h0.o w0 e0
 obtain ⟨b,p1,b1⟩:=h1.o w1 e1
 exact ⟨(a,b),⟨cs.take k0,cs.drop k0,(List.take_append_drop _ _).symm,p0,cs.drop k0,[],by simp,p1,rfl⟩,b0,b1⟩
theorem zL0 {t e:TypeId} (ht:P.underlying t=some (.slice e)) (he:P.underlying e=some (.int .u32)) (ce:P.cellsOf e=1) (c:P.cellsOf t=1) (hb:0 < P.bytesOf e):Opn enc P W B t 1 ntx (fun xs=>xs.length≤B):=by
 refine ⟨c,fun _=>rfl,fun {fuel cs x} hw h=>?_⟩
 rcases open_ints ht he ce h with ⟨h1,_⟩ | ⟨a,l,c,zs,h1,_,h3,h4,h5,h6,h7,h8⟩
 ·exact ⟨[],⟨_,h1,kA⟩,Nat.zero_le _⟩
 ·simp only [if_true] at h5
  have hn:=nat_of_cells h3 h4 (by omega) h8 (fun i hi=>h7 i (by omega))
  refine ⟨_,⟨_,h1,hn⟩,?_⟩
  obtain ⟨_,_,ad,cap,e1,_⟩:=hn.slc
  have e2:l=_:=(Value.slice.inj e1).2.1
  rw [← e2]
  have h9:=hw (((lits .u32 (zs.take l)).length + (lits (H:=H) .u32 (zs.drop l)).length) * P.bytesOf e) (by rw [h6]; simp only [DataW.weights,ht]; exact List.mem_cons_self)
  have h10:(lits (H:=H) .u32 (zs.take l)).length=l:=by simp [lits]; omega
  rw [h10] at h9
  exact Nat.le_trans (Nat.le_add_right l _) (Nat.le_trans (Nat.le_mul_of_pos_right _ hb) h9)
theorem opn_bool {t:TypeId} (ht:P.underlying t=some .bool) (hc:P.cellsOf t=1):Opn enc P W B t 1 (fun b=>xc (.bool b)) (fun _=>True):=by
 refine ⟨hc,fun _=>rfl,fun {fuel cs x} hw h=>?_⟩
 cases fuel with
 | zero=>simp [DataW.trod] at h
 | succ n =>
  unfold DataW.trod at h
  rw [ht] at h
  split at h <;> simp_all [xc,Value.oneCell']
theorem addr_add2 (a:Addr) (i j:Nat):(a.add i).add j=a.add (i + j):=by
 unfold Addr.add
 split <;> split <;> simp_all <;> omega
theorem slc_argk {w:World} {a:Addr} {n cap k:Nat} {f:Nat→Value} (hk:0 < k) (hn:n≤cap) (hc:cap≤9223372036854775807) (h:∀ i,i < n * k→w.cell? (a.add i)=some (f i)) :
  Slc (fun _=>False) w k (.slice (some a) n cap) n ((List.range (n * k)).map f):=by
 refine ⟨by simp,by omega,_,_,rfl,hn,?_⟩
 rcases Nat.eq_zero_or_pos n with h0 | h0
 ·exact .inl h0
 right
 have ha:=h 0 (Nat.mul_pos h0 hk)
 obtain ⟨b,off,spot⟩:=a
 have e0:(⟨b,off,spot⟩:Addr).add 0=⟨b,off,spot⟩:=rfl
 rw [e0] at ha
 unfold World.cell? at ha
 split at ha
 case h_2=>cases ha
 case h_1 cur t fz hb =>
  dsimp only at hb
  cases spot with
  | some s=>simp at ha
  | none =>
   refine ⟨b,off,rfl,fun h=>h,cur,t,fz,hb,fun j u hj=>?_⟩
   obtain ⟨hlt,rfl⟩:=List.getElem?_eq_some_iff.1 hj
   have hlt':j < n * k:=by simpa using hlt
   have:=h j hlt'
   rw [gN] at this
   simp only [World.cell?,hb] at this
   simpa using this
theorem opn_slicew {α:Type} {t te:TypeId} {k:Nat} {f:α→CT} {Bf:α→Prop} (ht:P.underlying t=some (.slice te)) (c:P.cellsOf t=1) (he:Opn enc P W B te k f Bf) (hk:0 < k):Opn enc P W B t 1 (fun l:List α=>sl k (l.map f)) (fun l=>l.length * P.bytesOf te≤B∧∀ a ∈ l,Bf a):=by
 refine ⟨c,fun _=>rfl,fun {fuel cs x} hw h=>?_⟩
 rcases open_slice ht h with ⟨h1,_⟩ | ⟨a,len,cap,m,n,D,Pl,h1,hb,hl,hm,hmm,hxe,hx⟩
 ·exact ⟨[],⟨_,[],h1,mJ,rfl,by simp [cF]⟩,by simp⟩
 ·simp only [if_true] at hmm
  have hde:x.1 = .slice ((List.range len).map D) ((List.range (m - len)).map fun j=>D (len + j)):=congrArg Prod.fst hxe
  have hwd:∀ i,i < len→∀ q ∈ (D i).weights P te,q≤B:=fun i hi q hq=>hw q (by
   rw [hde]
   simp only [DataW.weights,ht,List.mem_cons,List.mem_append]
   exact .inr (.inl (lT hq (List.mem_map_of_mem (List.mem_range.2 hi)))))
  have hwl:len * P.bytesOf te≤B:=by
   have h9:=hw ((((List.range len).map D).length + ((List.range (m - len)).map fun j=>D (len + j)).length) * P.bytesOf te) (by rw [hde]; simp only [DataW.weights,ht]; exact List.mem_cons_self)
   rw [List.length_map,List.length_range] at h9
   exact Nat.le_trans (Nat.mul_le_mul_right _ (Nat.le_add_right len _)) h9
  have hx':∀ i,i < len→∃ y:α × List Value,(∀ q,q < k→W.cell? (a.add (i * k + q))=some (y.2.getD q default))∧y.2.length=k∧(f y.1).p F0 W y.2∧Bf y.1:=fun i hi=>by
   obtain ⟨cs',e1,e2⟩:=hx i (by omega)
   rw [he.c] at e1
   obtain ⟨b,g1,g2⟩:=he.o (hwd i hi) e2
   have hl:=(f b).len g1
   rw [he.s] at hl
   obtain ⟨_,_,e3⟩:=World.cells?_some e1
   refine ⟨(b,cs'),fun q hq=>?_,hl,g1,g2⟩
   have:=e3 q hq
   rw [addr_add2] at this
   rw [this,List.getD_eq_getElem?_getD,List.getElem?_eq_getElem (show q < cs'.length by omega)]; rfl
  rcases Nat.eq_zero_or_pos len with h0 | h0
  ·subst h0
   exact ⟨[],⟨_,[],h1,slc_zero,rfl,by simp [cF]⟩,by simp⟩
  haveI:Inhabited (α × List Value):=⟨Classical.choose (hx' 0 h0)⟩
  obtain ⟨Y,hY⟩:=choose_lt hx'
  rw [pI] at hm
  refine ⟨(List.range len).map fun i=>(Y i).1,?_,by rw [List.length_map,List.length_range]; exact hwl,fun b hb=>by obtain ⟨i,hi,rfl⟩:=List.mem_map.1 hb; exact (hY i (List.mem_range.1 hi)).2.2.2⟩
  rw [h1]
  refine cT (R:=fun M w (b:α) us=>(f b).p M w us) he.s (fun _ _ _ h=>h) ⟨(List.range (len * k)).map fun j=>(Y (j / k)).2.getD (j % k) default,?_,fun i b hi=>?_⟩
  ·have:=slc_argk (k:=k) (f:=fun j=>(Y (j / k)).2.getD (j % k) default) hk hl hm (fun j hj=>by
    have h2:=(hY (j / k) (Nat.div_lt_of_lt_mul (by rw [Nat.mul_comm]; exact hj))).1 (j % k) (Nat.mod_lt _ hk)
    rw [Nat.mul_comm,Nat.div_add_mod] at h2
    exact h2)
   simpa using this
  ·obtain ⟨hlt,rfl⟩:=List.getElem?_eq_some_iff.1 hi
   have hlt':i < len:=by simpa using hlt
   obtain ⟨y1,y2,y3,_⟩:=hY i hlt'
   refine ⟨(Y i).2,y2,fun q u hq=>?_,by simpa using y3⟩
   have hq3:q < k:=y2 ▸ (List.getElem?_eq_some_iff.1 hq).1
   have hlt2:i * k + q < len * k:=by have:=Nat.mul_le_mul_right k (show i + 1≤len from hlt'); rw [Nat.add_mul,Nat.one_mul] at this; omega
   rw [List.getElem?_map,List.getElem?_range hlt2]
   simp only [Option.map_some]
   rw [show (i * k + q) / k=i by rw [Nat.mul_comm,Nat.mul_add_div hk,Nat.div_eq_of_lt hq3,Nat.add_zero],show (i * k + q) % k=q by rw [Nat.mul_comm,Nat.mul_add_mod,Nat.mod_eq_of_lt hq3],List.getD_eq_getElem?_getD,hq]; rfl
theorem top_struct {α:Type} {t:TypeId} {k:Nat} {f:α→CT} {Bf:α→Prop} {r:Reach} {b0:Nat} {v:Value} {d:DataW H} {ps:List MemPlace} {fs:Array Field} (ho:Opn enc P W B t k f Bf) (ht:P.underlying t=some (.struct fs)) (hval:Value.okWide P W r b0 t v) (hw:∀ m ∈ d.weights P t,m≤B) (h:DataW.Trod enc P W 0 (fun _=>true) true t v d ps) :
  ∃ a,(ag (f a)).p F0 W v∧Bf a:=by
 obtain ⟨cs,rfl,_⟩:=okWide_struct ht hval
 obtain ⟨fuel,hf⟩:=h
 obtain ⟨a,h1,h2⟩:=ho.o (x:=(d,ps)) hw hf
 exact ⟨a,⟨_,by simp [Value.cells],h1⟩,h2⟩
theorem top_slice {α:Type} {t te:TypeId} {f:α→CT} {Bf:α→Prop} {r:Reach} {b0:Nat} {v:Value} {d:DataW H} {ps:List MemPlace} (ho:Opn enc P W B t 1 f Bf) (ht:P.underlying t=some (.slice te)) (hval:Value.okWide P W r b0 t v) (hw:∀ m ∈ d.weights P t,m≤B) (h:DataW.Trod enc P W 0 (fun _=>true) true t v d ps) :
  ∃ a,(sv (f a)).p F0 W v∧Bf a:=by
 obtain ⟨a0,len,cap,rfl⟩:=okWide_slice ht hval
 obtain ⟨fuel,hf⟩:=h
 obtain ⟨a,h1,h2⟩:=ho.o (x:=(d,ps)) hw hf
 exact ⟨a,by have h3:(f a).p F0 W (Value.cells (.slice a0 len cap)).toList:=h1; show (f a).p F0 W [_]; simpa [Value.cells] using h3,h2⟩
structure NumTypes (P:Program) (tp tr ti tn tb tw:TypeId):Prop where
 p:Two P tp tr tr 3 3
 r:Two P tr ti tn 2 1
 i:Two P ti tb tn 1 1
 n:P.underlying tn=some (.slice tw)
 w:P.underlying tw=some (.int .u32)
 b:P.underlying tb=some .bool
 cn:P.cellsOf tn=1
 cw:P.cellsOf tw=1
 cb:P.cellsOf tb=1
 hb:0 < P.bytesOf tw
variable {tp tr ti tn tb tw : TypeId}
theorem reach_le:reachBytes≤200000000000000:=by decide
end
end Go.Proofs.YtflobagimodmgaaGreatDoor
namespace Go.SL
open Go.Sort Go.Shelf Go.Proofs
structure COrd {α:Type} (cf:α→α→Int):Prop where
 zero:∀ a b,cf a b=0 ↔ a=b
 anti:∀ a b,0 < cf a b ↔ cf b a < 0
 trans:∀ a b c,cf a b < 0→cf b c < 0→cf a c < 0
structure IsSet {α:Type} (cf:α→α→Int) (l m:List α):Prop where
 rise:m.Pairwise fun a b=>cf a b < 0
 mem:∀ x,x ∈ m ↔ x ∈ l
section
variable {α : Type} {cf : α → α → Int}
theorem COrd.irr (h:COrd cf) (a:α):¬ cf a a < 0:=by have:=(h.zero a a).2 rfl; omega
theorem COrd.swo (h:COrd cf):SWO (ltOf cf) :=
 ⟨fun x=>by simpa [ltOf] using Int.not_lt.1 (h.irr x),fun x y z a b=>by simp only [ltOf,decide_eq_true_eq] at *; exact h.trans _ _ _ a b,fun x y z a b=>by
  simp only [ltOf,decide_eq_false_iff_not] at *
  intro c
  have h1:=h.anti x y; have h2:=h.anti y z; have h3:=h.zero x y; have h4:=h.zero y z
  rcases Int.lt_trichotomy (cf x y) 0 with d | d | d
  ·exact a d
  ·obtain rfl:=h3.1 d; exact b c
  ·exact b (h.trans _ _ _ (h1.1 d) c)⟩
theorem nK (h:COrd cf):∀ {l m:List α},l.Pairwise (fun a b=>cf a b < 0)→m.Pairwise (fun a b=>cf a b < 0)→(∀ x,x ∈ l ↔ x ∈ m)→l=m
 | [],[],_,_,_=>rfl
 | [],b :: m,_,_,e=>absurd ((e b).2 (by simp)) (by simp)
 | a :: l,[],_,_,e=>absurd ((e a).1 (by simp)) (by simp)
 | a :: l,b :: m,h1,h2,k=>by
  obtain ⟨a1,a2⟩:=List.pairwise_cons.1 h1
  obtain ⟨b1,b2⟩:=List.pairwise_cons.1 h2
  have e:a=b:=by
   rcases List.mem_cons.1 ((k a).1 (by simp)) with c | c
   ·exact c
   rcases List.mem_cons.1 ((k b).2 (by simp)) with d | d
   ·exact d.symm
   exact absurd (h.trans _ _ _ (a1 b d) (b1 a c)) (h.irr a)
  subst e
  rw [nK h a2 b2 fun x=>⟨fun hx=>?_,fun hx=>?_⟩]
  ·rcases List.mem_cons.1 ((k x).1 (List.mem_cons_of_mem _ hx)) with c | c
   ·subst c; exact absurd (a1 x hx) (h.irr x)
   ·exact c
  ·rcases List.mem_cons.1 ((k x).2 (List.mem_cons_of_mem _ hx)) with c | c
   ·subst c; exact absurd (b1 x hx) (h.irr x)
   ·exact c
theorem IsSet.uniq (h:COrd cf) {l l' m m':List α} (a:IsSet cf l m) (b:IsSet cf l' m') (e:∀ x,x ∈ l ↔ x ∈ l'):m=m':=nK h a.rise b.rise fun x=>by rw [a.mem,b.mem,e]
theorem oE (h:COrd cf) {d:α} {l:List α} (hs:∀ i j,i < j→j < l.length→¬ cf (l.getD j d) (l.getD i d) < 0):∀ k,k≤l.length →
  (qV (fun a b=>decide (cf a b=0)) d l k).Pairwise (fun a b=>cf a b < 0)∧∀ x,x ∈ qV (fun a b=>decide (cf a b=0)) d l k ↔ x ∈ l.take k
 | 0,_=>by simp [qV]
 | k + 1,hk=>by
  obtain ⟨h1,h2⟩:=oE h hs k (by omega)
  rw [(yZ d (show k < l.length by omega)).1]
  unfold qV
  split
  ·rename_i c
   rw [List.append_nil]
   refine ⟨h1,fun x=>?_⟩
   rw [h2,List.mem_append]
   refine ⟨.inl,fun e=>e.elim id fun e=>?_⟩
   rw [List.mem_singleton.1 e,(h.zero _ _).1 (of_decide_eq_true c.2)]
   have:=(yZ d (show k - 1 < l.length by omega)).1
   rw [show k - 1 + 1=k by omega] at this
   rw [this]; simp
  ·rename_i c
   refine ⟨List.pairwise_append.2 ⟨h1,List.pairwise_singleton _ _,fun a ha b hb=>?_⟩,fun x=>by rw [List.mem_append,List.mem_append,h2]⟩
   rw [List.mem_singleton.1 hb]
   obtain ⟨i,hi,rfl⟩:=List.mem_iff_getElem.1 ((h2 a).1 ha)
   rw [List.length_take] at hi
   rw [List.getElem_take]
   have e:l[i]'(by omega)=l.getD i d:=by rw [List.getD_eq_getElem?_getD,List.getElem?_eq_getElem]; rfl
   rw [e]
   have h0:¬ cf (l.getD k d) (l.getD (k - 1) d)=0:=fun e=>c ⟨by omega,decide_eq_true e⟩
   have h3:=hs (k - 1) k (by omega) (by omega)
   have h4:cf (l.getD (k - 1) d) (l.getD k d) < 0:=by rw [← h.anti]; omega
   rcases Nat.lt_or_ge i (k - 1) with e1 | e1
   ·have h5:=hs i (k - 1) e1 (by omega)
    rcases Int.lt_trichotomy (cf (l.getD (k - 1) d) (l.getD i d)) 0 with e2 | e2 | e2
    ·exact absurd e2 h5
    ·rw [← (h.zero _ _).1 e2]; exact h4
    ·exact h.trans _ _ _ ((h.anti _ _).1 e2) h4
   ·rw [show i=k - 1 by omega]; exact h4
theorem nI [Inhabited α] (h:COrd cf) {d:α} {raw l:List α} (hp:l.Perm raw) (hs:∀ i j,i < j→j < l.length→¬ cf l[j]! l[i]! < 0):IsSet cf raw (qV (fun a b=>decide (cf a b=0)) d l l.length):=by
 have hs':∀ i j,i < j→j < l.length→¬ cf (l.getD j d) (l.getD i d) < 0:=fun i j h1 h2=>by
  have:=hs i j h1 h2
  rw [getElem!_pos l j h2,getElem!_pos l i (by omega)] at this
  simpa [List.getD_eq_getElem?_getD,List.getElem?_eq_getElem h2,List.getElem?_eq_getElem (show i < l.length by omega)] using this
 obtain ⟨h1,h2⟩:=oE h hs' l.length (Nat.le_refl _)
 exact ⟨h1,fun x=>by rw [h2,List.take_length]; exact hp.mem_iff⟩
noncomputable def setOf (cf:α→α→Int) (l:List α):List α:=Classical.epsilon fun m=>IsSet cf l m
theorem IsSet.eq (h:COrd cf) {l m:List α} (k:IsSet cf l m):m=setOf cf l:=k.uniq h (Classical.epsilon_spec (p:=fun m=>IsSet cf l m) ⟨m,k⟩) fun _ => .rfl
theorem pF {α:Type}:∀ {m l:List α},m.Nodup→(∀ x ∈ m,x ∈ l)→m.length≤l.length
 | [],_,_,_=>Nat.zero_le _
 | a :: m,l,h,k=>by
  obtain ⟨h1,h2⟩:=List.nodup_cons.1 h
  obtain ⟨s,t,rfl⟩:=List.append_of_mem (k a (by simp))
  have:=pF (l:=s ++ t) h2 fun x hx=>by
   have:=k x (List.mem_cons_of_mem _ hx)
   simp only [List.mem_append,List.mem_cons] at this ⊢
   rcases this with c | c | c
   ·exact .inl c
   ·subst c; exact absurd hx h1
   ·exact .inr c
  simp only [List.length_append,List.length_cons] at this ⊢; omega
theorem IsSet.len (h:COrd cf) {l m:List α} (k:IsSet cf l m):m.length≤l.length:=by
 have nd:m.Nodup:=k.rise.imp fun {a b} hab e=>by subst e; exact h.irr a hab
 exact pF nd fun x hx=>(k.mem x).1 hx
theorem zR3 (h:COrd cf):∀ l:List α,∃ m,IsSet cf l m
 | []=>⟨[],.nil,by simp⟩
 | a :: l=>by
  obtain ⟨m,h1,h2⟩:=zR3 h l
  refine ⟨m.filter (fun x=>decide (cf x a < 0)) ++ a :: m.filter (fun x=>decide (cf a x < 0)),?_,fun x=>?_⟩
  ·refine List.pairwise_append.2 ⟨h1.filter _,List.pairwise_cons.2 ⟨fun b hb=>by simpa using (List.mem_filter.1 hb).2,h1.filter _⟩,fun x hx y hy=>?_⟩
   have hx:cf x a < 0:=by simpa using (List.mem_filter.1 hx).2
   rcases List.mem_cons.1 hy with rfl | hy
   ·exact hx
   ·exact h.trans _ _ _ hx (by simpa using (List.mem_filter.1 hy).2)
  ·simp only [List.mem_append,List.mem_filter,List.mem_cons,decide_eq_true_eq]
   constructor
   ·rintro (⟨c,_⟩ | c | ⟨c,_⟩)
    ·exact .inr ((h2 x).1 c)
    ·exact .inl c
    ·exact .inr ((h2 x).1 c)
   ·rintro (c | c)
    ·exact .inr (.inl c)
    ·have c:=(h2 x).2 c
     rcases Int.lt_trichotomy (cf x a) 0 with e | e | e
     ·exact .inl ⟨c,e⟩
     ·exact .inr (.inl ((h.zero _ _).1 e))
     ·exact .inr (.inr ⟨c,(h.anti _ _).1 e⟩)
theorem uT (h:COrd cf) (l:List α):IsSet cf l (setOf cf l):=Classical.epsilon_spec (zR3 h l)
theorem setOf_mem (h:COrd cf) {l:List α} {x:α}:x ∈ setOf cf l ↔ x ∈ l:=(uT h l).mem x
theorem setOf_congr (h:COrd cf) {l m:List α} (e:∀ x,x ∈ l ↔ x ∈ m):setOf cf l=setOf cf m:=(uT h l).uniq h (uT h m) e
theorem kO (h:COrd cf) (l:List α):(setOf cf l).length≤l.length:=(uT h l).len h
end
end Go.SL
set_option maxHeartbeats 4000000
namespace Go.Proofs.YtflobagimodmgaaGreatDoor
open Go.SL Go.RowKit Go.Proofs Tryz
theorem wvnorm {l:List P2} {n:Nat} (hn:n≤20000) (hl:l.length≤1000000):CTy prog 67 [sv (sl 6 (l.map (ptq n)))] (sv (sl 6 (l.map (ptc (n + 1))))):=by
 refine ctc func67 rfl rfl rfl rfl fun X=>(zH (zJ rfl (zA1 (oas rfl) (zA0 (zH (zH (zJ rfl (zA1 (omv rfl) (zA1 (oln rfl) ?_)))))))))
 refine zA1 (omv rfl) (zA0 (zT ?_))
 rotate_left 1
 refine t_ts (fQ 35 6) ?_
 refine xL (σ:=Nat × Value) (fun s=>[(2,True,exP s.2),(7,True,exP (.int .i64 ((s.1:Nat):Int)))]) (fun s=>[.row s.2 35 6 ((l.take s.1).map (ptc (n + 1)))]) (fun s=>s.1≤l.length) (fun s=>l.length - s.1) ((0,.slice none 0 0)) (tk 5 rfl (tk 6 rfl tn)) ?_ rfl ((by simp)) (fun s hJ Y _=>?_)
 refine tc rfl (ps_r _) (tc rfl (ps_r _) (tn))
 rotate_left 1
 refine zH (zJ rfl (zA1 (olt rfl rfl) (zA0 (zH ?_))))
 refine t_if rfl (fun c0=>?_) (fun c0=>?_)
 refine yA (zH (zT (zH (zJ rfl (zA1 (oix _ rfl rfl rfl (fun _=>rfl) (fun _=>(by (have e0:=dt c0; omega)))) (zA1 (old rfl rfl) (tal fun b4=>(tst 0 rfl rfl rfl rfl rfl rfl (qE (gC (s:=4) 0 rfl rfl) ?_)))))))))
 refine zA0 (yR 9 mixed rfl rfl (d1 (omv rfl) (d1 (ofa rfl rfl) (d1 (old rfl rfl) (d1 (oca rfl rfl fun _=>wJ (by omega)) (d1 (ofa rfl rfl) (d1 (old rfl rfl) (d1 (oca rfl rfl fun _=>wJ (by omega)) ?_))))))))
 refine d1 (obd rfl rfl rfl) (d1 (obs rfl rfl rfl rfl rfl rfl) (d0 (tap 0 rfl rfl rfl (by (simp; omega)) rfl fun r20=>(zA1 (oas rfl) (zA0 (zJ rfl (zA1 (oad rfl rfl (by omega)) (zA1 (omv rfl) (zA0 ?_)))))))))
 rotate_left 1
 refine xN (zH (zJ rfl (zA1 (omv rfl) (zA1 (oas rfl) (zA0 (t_ts (cZ (s:=2) 0 rfl rfl) (zZ (⟨[_],rst rfl rs0,yN ?_⟩))))))))
 rotate_left 1
 ·refine ⟨(s.1 + 1,r20),tes ?_ ?_ ?_,(by (have e0:=dt c0; omega)),(by (have e0:=dt c0; omega))⟩
  refine tc rfl (ps_r _) (tc rfl (ps_r _) (tn))
  refine tc rfl (ps_r _) (tc rfl (ps_r _) (tn))
  rotate_left 1
  rw [(yZ (Df.d:P2) (show s.1 < l.length by have:=dt c0; omega)).1,List.map_append]
  exact List.Sublist.refl _
 ·have h0:=df c0
  rw [List.take_of_length_le (by omega)]
  exact PSub.refl _
theorem kvnorm {Ψ:PV} {n:Nat} {l:List P2} [h:VPt Ψ n l] (hn:n≤20000) (hl:l.length≤1000000):CTy prog 67 [Ψ] (sv (sl 6 (l.map (ptc (n + 1))))):=gF (wvnorm hn hl) (fs1 vpt_q fs0)
end Go.Proofs.YtflobagimodmgaaGreatDoor
namespace Go.Proofs.YtflobagimodmgaaGreatDoor
open Go.SL Go.RowKit Go.Proofs Tryz
theorem cts1 {Ψ:PV} {c:CT} [h:CtOf Ψ c]:CtsOf Ψ [c]:=⟨fun k=>let ⟨us,e,g⟩:=h.h k; ⟨us,e,us,[],(List.append_nil _).symm,g,rfl⟩⟩
theorem zY3 {M:Nat→Prop} {w:World} {n:Nat} {q:P2} {s:Bool} {a d:Value} {t:Bool} {b e:Value} (h:PC M w n q s a d t b e):(st [rtc n q.1,rtc n q.2]).p M w [.bool s,a,d,.bool t,b,e]:=⟨[.bool s,a,d],[.bool t,b,e],rfl,⟨s,a,d,rfl,h.x⟩,[.bool t,b,e],[],rfl,⟨t,b,e,rfl,h.y⟩,rfl⟩
abbrev sgq (n:Nat) (s:P2 × P2):CT:=st [ptq n s.1,ptq n s.2]
theorem zY1 {n m:Nat} (h:n≤m) (q:P2) {M:Nat→Prop} {w:World} {us:List Value}:(ptq n q).p M w us→(ptq m q).p M w us:=fun ⟨x,y,e,⟨s,a,d,k1,g1⟩,z,o,e2,⟨t,b,f,k2,g2⟩,e3⟩=>⟨x,y,e,⟨s,a,d,k1,g1.up h⟩,z,o,e2,⟨t,b,f,k2,g2.up h⟩,e3⟩
theorem zK2 {n m N:Nat} {a b:P2} {s:P2 × P2} (e:(a,b)=s) (h1:n≤N) (h2:m≤N):PSub (ag (st [ptq n a,ptq m b])) (ag (sgq N s)):=fun M w v ⟨us,e1,x,y,e2,k1,z,o,e3,k2,e4⟩=>by
 subst e; exact ⟨us,e1,x,y,e2,zY1 h1 _ k1,z,o,e3,zY1 h2 _ k2,e4⟩
set_option maxHeartbeats 4000000 in
theorem wfrom {p q:P2} {n m:Nat} (hn:n≤80000) (hm:m≤80000):CTy prog 233 [ag (ptq n p),ag (ptq m q)] (ag (sgq (max n m) (uO p q))):=by
 refine ctc func233 rfl rfl rfl rfl fun X=>(zH (zJ rfl ?_))
 refine tbx (hc:=cts1) rfl fun b2=>?_
 refine tbx (hc:=cts1) rfl fun b3=>?_
 refine tal fun b4=>?_
 refine zA0 (zH (zH (zJ rfl (zA1 (oldo 2 rfl rfl rfl rfl) (zA1 (oldo 1 rfl rfl rfl rfl) (zA1 (oca rfl rfl fun _=>oD (by omega) (by omega)) (zA1 (ogt rfl rfl) ?_)))))))
 refine zA0 ?_
 refine t_if rfl (fun c0=>?_) (fun c0=>?_)
 ·refine zJ rfl ?_
  refine zA1 (oldo 1 rfl rfl rfl rfl) (zA1 (oldo 2 rfl rfl rfl rfl) (tst 2 rfl rfl rfl rfl rfl rfl (tst 1 rfl rfl rfl rfl rfl rfl (zA0 (zH (zJ rfl (zA1 (oldo 2 rfl rfl rfl rfl) ?_)))))))
  refine zA1 (oldo 1 rfl rfl rfl rfl) (zA1 (obd rfl rfl rfl) (tst 0 rfl rfl rfl rfl rfl rfl (zA0 (zZ ?_))))
  exact ⟨[_],rsc 0 rfl rfl rfl rfl rs0,yN (zK2 (by unfold uO; rw [if_pos (dt c0)]) (by omega) (by omega))⟩
 ·refine yA ?_
  refine zH (zJ rfl (zA1 (oldo 2 rfl rfl rfl rfl) (zA1 (oldo 1 rfl rfl rfl rfl) (zA1 (obd rfl rfl rfl) (tst 0 rfl rfl rfl rfl rfl rfl (zA0 (zZ ?_)))))))
  exact ⟨[_],rsc 0 rfl rfl rfl rfl rs0,yN (zK2 (by unfold uO; rw [if_neg (df c0)]) (by omega) (by omega))⟩
set_option maxHeartbeats 4000000 in
theorem walong {s:P2 × P2} {n:Nat} (hn:n≤30000):CTy prog 296 [ag (sgq n s)] (ag (st [rtc (2 * n + 3) (subP s.2 s.1).1,rtc (2 * n + 3) (subP s.2 s.1).2])):=by
 refine ctc func296 rfl rfl rfl rfl fun X=>(zH (zJ rfl (zA1 (obx rfl) ?_)))
 refine tal fun b2=>?_
 refine zA0 (zH (zJ rfl (zA1 (ofa rfl rfl) (zA1 (old rfl rfl) (zA1 (ofa rfl rfl) (zA1 (old rfl rfl) (zA1 (oca rfl rfl fun _=>pK (by omega) (by omega)) ?_)))))))
 refine tst 0 rfl rfl rfl rfl rfl rfl (zA0 (zZ ?_))
 exact ⟨[_],rsc 0 rfl rfl rfl rfl rs0,yN (hP rfl (by omega))⟩
set_option maxHeartbeats 4000000 in
theorem wside {s:P2 × P2} {p:P2} {n m:Nat} (hn:n≤4000) (hm:m≤4000):CTy prog 281 [ag (sgq n s),ag (ptq m p)] (exP (.int .i64 (sgnR (bV s p)))):=by
 refine ct (rs:=[4]) func281 rfl rfl rfl rfl rfl iH fun X=>(zH (zJ rfl (zA1 (obx rfl) (zA1 (obx rfl) (zA1 (oas rfl) (zA0 (zH ?_)))))))
 refine yR 9 mixed rfl rfl (d1 (old rfl rfl) (d1 (oca rfl rfl fun _=>walong (by omega)) (d1 (old rfl rfl) (d1 (ofa rfl rfl) (d1 (old rfl rfl) (d1 (oca rfl rfl fun _=>pK (by omega) (by omega)) (d1 (oca rfl rfl fun _=>rU (by omega) (by omega)) ?_)))))))
 refine d1 (oca rfl rfl fun _=>rW (by omega)) (d1 (oas rfl) (d0 (zA0 (zZ ?_))))
 exact tr1 rfl (ps_i rfl)
set_option maxHeartbeats 4000000 in
theorem zP7 {s:P2 × P2} {p:P2} {n m:Nat} (hn:n≤80000) (hm:m≤80000):CTy prog 237 [ag (sgq n s),ag (ptq m p)] (exP (.bool (decide (kC s p)))):=by
 refine ct (rs:=[4]) func237 rfl rfl rfl rfl rfl iH fun X=>(zH (zJ rfl (zA1 (obx rfl) (zA1 (obx rfl) (zA1 (oas rfl) (zA0 (zH ?_)))))))
 refine zJ rfl (zA1 (ofa rfl rfl) (zA1 (old rfl rfl) (zA1 (old rfl rfl) (zA1 (oca rfl rfl fun _=>oD (by omega) (by omega)) (zA1 (ole rfl rfl) (zA1 (omv rfl) (t1g rfl rfl (old rfl rfl) ?_)))))))
 refine t1g rfl rfl (ofa rfl rfl) (t1g rfl rfl (old rfl rfl) (t1g rfl rfl (oca rfl rfl fun g=>oD (by omega) (by omega)) (t1g rfl rfl (ole rfl rfl) (zA1 (opk rfl rfl rfl) (zA1 (oas rfl) (zA0 (zZ ?_)))))))
 exact tr1 rfl (psb (by rw [← Bool.decide_and,decide_eq_decide]; unfold kC; rw [mS,mS]))
set_option maxHeartbeats 4000000 in
theorem whas {s:P2 × P2} {p:P2} {n m:Nat} (hn:n≤4000) (hm:m≤4000):CTy prog 235 [ag (sgq n s),ag (ptq m p)] (exP (.bool (decide (hasP s p)))):=by
 refine ct (rs:=[4]) func235 rfl rfl rfl rfl rfl iH fun X=>(zH (zJ rfl (zA1 (obx rfl) (zA1 (obx rfl) (zA1 (oas rfl) (zA0 (zH ?_)))))))
 refine zJ rfl (zA1 (old rfl rfl) (zA1 (old rfl rfl) (zA1 (oca rfl rfl fun _=>zP7 (by omega) (by omega)) (zA1 (omv rfl) (t1g rfl rfl (old rfl rfl) (t1g rfl rfl (old rfl rfl) (t1g rfl rfl (oca rfl rfl fun g=>wside hn hm) ?_)))))))
 refine t1g rfl rfl (oeq rfl rfl) (zA1 (opk rfl rfl rfl) (zA1 (oas rfl) (zA0 (zZ ?_))))
 exact tr1 rfl (psb (by rw [← Bool.decide_and,decide_eq_decide]; unfold hasP; rw [lC]))
theorem ln_z {a b c d:P2} (h:Tr (decide ((if xR (subP b a) (subP d c)=0 then (30:Int) else 0) ≠ 0)=true)):¬ jO a b c d:=fun k=>by
 have:=of_decide_eq_true h.h; rw [if_neg k] at this; exact absurd rfl this
theorem ln_n {a b c d:P2} (h:Tr (decide ((if xR (subP b a) (subP d c)=0 then (30:Int) else 0) ≠ 0)=false)):jO a b c d:=fun k=>by
 have:=of_decide_eq_false h.h; rw [if_pos k] at this; exact this (by decide)
set_option maxHeartbeats 4000000 in
theorem wlines {p q u z:P2} {a b c d:Nat} (ha:a≤400) (hb:b≤400) (hc:c≤400) (hd:d≤400):CTy prog 236 [ag (ptq a p),ag (ptq b q),ag (ptq c u),ag (ptq d z)] (tu [ag (st [rtc (8 * (a + b + c + d) + 80) (jV p q u z).1,rtc (8 * (a + b + c + d) + 80) (jV p q u z).2]),exP (.bool (decide (jO p q u z)))]):=by
 refine ctc func236 rfl rfl rfl rfl fun X=>(zH (zJ rfl (zA1 (obx rfl) (zA1 (obx rfl) (zA1 (obx rfl) (zA1 (obx rfl) ?_))))))
 refine tal fun b8=>?_
 refine zA1 (oas rfl) (zA0 (zH (zJ rfl (zA1 (old rfl rfl) (zA1 (old rfl rfl) (zA1 (oca rfl rfl fun _=>pK (by omega) (by omega)) ?_))))))
 refine tal fun b10=>?_
 refine tst 0 rfl rfl rfl rfl rfl rfl (zA0 (zH ?_))
 apply uQ 1 16 15 [(14,11,0),(15,1000015,0)] rfl rfl mixed rfl rfl rfl
 refine cx1 (old rfl rfl) rfl (cx1 (old rfl rfl) rfl (cx1 (oca rfl rfl fun _=>pK (by omega) (by omega)) rfl (cx1 (oldo 0 rfl rfl rfl rfl) rfl (cx1 (oca rfl rfl fun _=>rU (by omega) (by omega)) rfl (cx1 (old rfl rfl) rfl (cx1 (old rfl rfl) rfl (cx1 (oca rfl rfl fun _=>pK (by omega) (by omega)) rfl ?_)))))))
 refine cx1 (oldo 0 rfl rfl rfl rfl) rfl (cx1 (oca rfl rfl fun _=>rU (by omega) (by omega)) rfl (cx1 (oca rfl rfl fun _=>krquo (by omega) (by omega)) rfl (cx1 (omv rfl) rfl (cx1 (oex rfl rfl) rfl (cx1 (oex rfl rfl) rfl (cN rfl rfl (cal) (cS rfl rfl rfl (cst rfl rfl rfl) ?_)))))))
 refine cE (fun b11=>?_)
 refine zA1 (oas rfl) (zA0 (zH (zH (zJ rfl (zA1 (omv rfl) (zA1 (oni rfl rfl) (zA0 ?_)))))))
 refine t_if rfl (fun c0=>?_) (fun c0=>?_)
 ·refine zH ?_
  refine zJ rfl (zA1 (oca rfl rfl fun _=>kvof (k:=0) (l:=0) (by omega) (by omega)) (tst 2 rfl rfl rfl rfl rfl rfl (zA1 (oas rfl) (zA0 (zZ ?_)))))
  have hq:=ln_z c0
  exact ⟨[_,_],rsc 2 rfl rfl rfl rfl (rst rfl rs0),uW (hP (p:=(((0:Nat):Rat),((0:Nat):Rat))) (q:=jV p q u z) (by unfold jV; rw [if_neg hq]; rfl) (by omega)) (psb (by rw [decide_eq_false hq]))⟩
 ·refine yA ?_
  refine zH (zJ rfl (zA1 (old rfl rfl) (zA1 (old rfl rfl) (zA1 (oldo 0 rfl rfl rfl rfl) (zA1 (oca rfl rfl fun _=>kvat (by omega) (by omega) (by omega)) (tst 2 rfl rfl rfl rfl rfl rfl (zA1 (oas rfl) ?_)))))))
  refine zA0 (zZ ?_)
  have hq:=ln_n c0
  exact ⟨[_,_],rsc 2 rfl rfl rfl rfl (rst rfl rs0),uW (hP (p:=atP p q (rS p q u z)) (q:=jV p q u z) (by unfold jV; rw [if_pos hq]) (by omega)) (psb (by rw [decide_eq_true hq]))⟩
theorem zZ4:CTy prog 234 [] (ag (st [xc (.int .i8 0),st [rtc 2 (0:Rat),rtc 2 (0:Rat)],st [rtc 2 (0:Rat),rtc 2 (0:Rat)]])) :=
 ⟨(bo func234),fun M w vs hM hT hv=>by
  obtain rfl:vs=[]:=hv
  exact (mnone_c hM).mono fun r w' ⟨hB,s,a,d,t,b,e,s2,a2,d2,zA2,b2,e2,h,g1,g2⟩=>⟨hB,_,h,[_],[.bool s,a,d,.bool t,b,e,.bool s2,a2,d2,.bool zA2,b2,e2],rfl,⟨rfl,rfl⟩,[.bool s,a,d,.bool t,b,e],[.bool s2,a2,d2,.bool zA2,b2,e2],rfl,zY3 g1,[.bool s2,a2,d2,.bool zA2,b2,e2],[],rfl,zY3 g2,rfl⟩⟩
abbrev mtc (n:Nat) (m:Mt):CT:=st [xc (.int .i8 m.1),ptc n m.2.1,ptc n m.2.2]
instance vpt_2 {n:Nat} {p q:P2}:VPt (sv (sl 6 [ptq n p,ptq n q])) n [p,q]:=vpt_p (l:=[p,q])
theorem iA {k:Int} {a b N:Nat} {x y:P2} {m:Mt} (e:(k,x,y)=m) (h1:a≤N) (h2:b≤N):PSub (ag (st [xc (.int .i8 k),ptc a x,ptc b y])) (ag (mtc N m)):=fun M w v ⟨us,e1,u1,v1,e2,k1,u2,v2,e3,⟨c1,c2,f1,⟨s,a1,dz1,k3,g1⟩,c3,c4,f2,⟨t,a2,dz2,k4,g2⟩,f3⟩,u3,v3,e4,⟨c5,c6,f4,⟨s3,a3,dz3,k5,g3⟩,c7,c8,f5,⟨t4,a4,dz4,k6,g4⟩,f6⟩,e5⟩=>by
 subst e; exact ⟨us,e1,u1,v1,e2,k1,u2,v2,e3,⟨c1,c2,f1,⟨s,a1,dz1,k3,g1.up h1⟩,c3,c4,f2,⟨t,a2,dz2,k4,g2.up h1⟩,f3⟩,u3,v3,e4,⟨c5,c6,f4,⟨s3,a3,dz3,k5,g3.up h2⟩,c7,c8,f5,⟨t4,a4,dz4,k6,g4.up h2⟩,f6⟩,e5⟩
theorem zT5 {Φ:PV} {s:P2 × P2} {p:P2} {n m:Nat} [h:QP Φ m p] (hn:n≤80000) (hm:m≤80000):CTy prog 237 [ag (sgq n s),Φ] (exP (.bool (decide (kC s p)))):=gF (zP7 hn hm) (fs1 (PSub.refl _) (fs1 qp_q fs0))
theorem mt_t {a b c d:Prop} [Decidable a] [Decidable b] [Decidable c] [Decidable d] (h:Tr ((((decide a && decide b) && decide c) && decide d)=true)):a∧b∧c∧d:=by have:=h.h; simpa [and_assoc] using this
theorem mt_f {a b c d:Prop} [Decidable a] [Decidable b] [Decidable c] [Decidable d] (h:Tr ((((decide a && decide b) && decide c) && decide d)=false)):¬ (a∧b∧c∧d):=fun k=>by have:=h.h; simp [k.1,k.2.1,k.2.2.1,k.2.2.2] at this
theorem ml_t {a b c:Prop} [Decidable a] [Decidable b] [Decidable c] (h:Tr (((!decide a || !decide b) || !decide c)=true)):¬ (a∧b∧c):=fun k=>by have:=h.h; simp [k.1,k.2.1,k.2.2] at this
theorem ml_f {a b c:Prop} [Decidable a] [Decidable b] [Decidable c] (h:Tr (((!decide a || !decide b) || !decide c)=false)):a∧b∧c:=by have:=h.h; simpa [and_assoc] using this
set_option maxHeartbeats 4000000 in
theorem wmeets {s t:P2 × P2} {n:Nat} (hn:n≤400):CTy prog 176 [ag (sgq n s),ag (sgq n t)] (ag (mtc (32 * n + 80) (xE s t))):=by
 refine ctc func176 rfl rfl rfl rfl fun X=>(zH (zJ rfl (zA1 (obx rfl) (zA1 (obx rfl) ?_))))
 refine tal fun b4=>?_
 refine zA0 (zH ?_)
 apply uQ 2 7 6 [(4,5,0),(5,6,1),(6,1000006,0)] rfl rfl mixed rfl rfl rfl
 refine cx1 (ofa rfl rfl) rfl (cx1 (old rfl rfl) rfl (cx1 (ofa rfl rfl) rfl (cx1 (old rfl rfl) rfl (cN rfl rfl (cal) (cN rfl rfl (cal) (cS rfl rfl rfl (cst rfl rfl rfl) ?_))))))
 refine cE (fun b5 b6=>?_)
 refine tst 0 rfl rfl rfl rfl rfl rfl (zA0 (zH (zH (zJ rfl (zA1 (ofa rfl rfl) (zA1 (old rfl rfl) (zA1 (oldo 1 rfl rfl rfl rfl) ?_)))))))
 refine zA1 (oca rfl rfl fun _=>oD (by omega) (by omega)) (zA1 (ogt rfl rfl) (zA0 ?_))
 refine zW8 (σ:=Unit) (fun _=>[(2,True,pa (sgq n s)),(3,True,pa (sgq n t)),(4,True,exP (.pointer (some ⟨b4,0,none⟩))),(5,True,exP (.pointer (some ⟨b5,0,none⟩))),(6,True,exP (.pointer (some ⟨b6,0,none⟩)))]) (fun _=>[.blk b6 35 [ptq n s.2],.blk b5 35 [ptq n (loP s t)],.blk b4 153 (zc (.agg #[.int .i8 0,.bool false,.slice none 0 0,.slice none 0 0,.bool false,.slice none 0 0,.slice none 0 0,.bool false,.slice none 0 0,.slice none 0 0,.bool false,.slice none 0 0,.slice none 0 0]))]) (fun _=>True) ?_ fun _ _ Y _=>?_
 ·refine t_if rfl (fun c0=>?_) (fun c0=>?_)
  ·refine zJ rfl ?_
   refine zA1 (ofa rfl rfl) (zA1 (old rfl rfl) (tst 1 rfl rfl rfl rfl rfl rfl (zA0 ?_)))
   exact ⟨(),lV (tc rfl (ps_r _) (tc rfl (ps_r _) (tc rfl (ps_r _) (tc rfl (ps_r _) (tc rfl (ps_r _) tn))))) (by first | (rw [show loP s t=t.1 from if_pos (dt c0)]; done) | (rw [show loP s t=t.1 from if_pos (dt c0)]; rfl)),trivial⟩
  ·refine yA ?_
   exact ⟨(),lV (tc rfl (ps_r _) (tc rfl (ps_r _) (tc rfl (ps_r _) (tc rfl (ps_r _) (tc rfl (ps_r _) tn))))) (by first | (rw [show loP s t=s.1 from if_neg (df c0)]; done) | (rw [show loP s t=s.1 from if_neg (df c0)]; rfl)),trivial⟩
 refine zH (zH (zJ rfl (zA1 (ofa rfl rfl) (zA1 (old rfl rfl) (zA1 (oldo 0 rfl rfl rfl rfl) (zA1 (oca rfl rfl fun _=>oD (by omega) (by omega)) (zA1 (olt rfl rfl) ?_)))))))
 refine zA0 ?_
 refine zW8 (σ:=Unit) (fun _=>[(2,True,pa (sgq n s)),(3,True,pa (sgq n t)),(4,True,exP (.pointer (some ⟨b4,0,none⟩))),(5,True,exP (.pointer (some ⟨b5,0,none⟩))),(6,True,exP (.pointer (some ⟨b6,0,none⟩)))]) (fun _=>[.blk b6 35 [ptq n (hiP s t)],.blk b5 35 [ptq n (loP s t)],.blk b4 153 (zc (.agg #[.int .i8 0,.bool false,.slice none 0 0,.slice none 0 0,.bool false,.slice none 0 0,.slice none 0 0,.bool false,.slice none 0 0,.slice none 0 0,.bool false,.slice none 0 0,.slice none 0 0]))]) (fun _=>True) ?_ fun _ _ Y _=>?_
 ·refine t_if rfl (fun c1=>?_) (fun c1=>?_)
  ·refine zJ rfl ?_
   refine zA1 (ofa rfl rfl) (zA1 (old rfl rfl) (tst 0 rfl rfl rfl rfl rfl rfl (zA0 ?_)))
   exact ⟨(),lV (tc rfl (ps_r _) (tc rfl (ps_r _) (tc rfl (ps_r _) (tc rfl (ps_r _) (tc rfl (ps_r _) tn))))) (by first | (rw [show hiP s t=t.2 from if_pos (dt c1)]; done) | (rw [show hiP s t=t.2 from if_pos (dt c1)]; rfl)),trivial⟩
  ·refine yA ?_
   exact ⟨(),lV (tc rfl (ps_r _) (tc rfl (ps_r _) (tc rfl (ps_r _) (tc rfl (ps_r _) (tc rfl (ps_r _) tn))))) (by first | (rw [show hiP s t=s.2 from if_neg (df c1)]; done) | (rw [show hiP s t=s.2 from if_neg (df c1)]; rfl)),trivial⟩
 refine zH (zJ rfl (zA1 (oldo 1 rfl rfl rfl rfl) (zA1 (oldo 0 rfl rfl rfl rfl) (zA1 (oca rfl rfl fun _=>oD (by omega) (by omega)) (zA1 (oas rfl) (zA0 (zH ?_)))))))
 refine zH (zJ rfl (zA1 (omv rfl) (zA1 (ogt rfl rfl) (zA0 ?_))))
 refine t_if rfl (fun c2=>?_) (fun c2=>?_)
 ·refine zH ?_
  refine zJ rfl (zA1 (oca rfl rfl fun _=>zZ4) (tst 2 rfl rfl rfl rfl rfl rfl (zA0 (zZ ?_))))
  exact ⟨[_],rsc 2 rfl rfl rfl rfl rs0,yN (iA (x:=(0,0)) (y:=(0,0)) (by unfold xE; simp only [if_pos (dt c2)]; rfl) (by omega) (by omega))⟩
 ·refine yA ?_
  refine zH (zH (zJ rfl (zA1 (old rfl rfl) (zA1 (oldo 1 rfl rfl rfl rfl) (zA1 (oca rfl rfl fun _=>whas (by omega) (by omega)) (zA1 (omv rfl) (t1g rfl rfl (old rfl rfl) ?_)))))))
  refine t1g rfl rfl (oldo 1 rfl rfl rfl rfl) (t1g rfl rfl (oca rfl rfl fun g=>whas (by omega) (by omega)) (zA1 (opk rfl rfl rfl) (zA1 (omv rfl) (t1g rfl rfl (old rfl rfl) (t1g rfl rfl (oldo 0 rfl rfl rfl rfl) (t1g rfl rfl (oca rfl rfl fun g=>whas (by omega) (by omega)) (zA1 (opk rfl rfl rfl) ?_)))))))
  refine zA1 (omv rfl) (t1g rfl rfl (old rfl rfl) (t1g rfl rfl (oldo 0 rfl rfl rfl rfl) (t1g rfl rfl (oca rfl rfl fun g=>whas (by omega) (by omega)) (zA1 (opk rfl rfl rfl) (zA0 ?_)))))
  refine t_if rfl (fun c3=>?_) (fun c3=>?_)
  ·refine zH ?_
   refine zJ rfl (zA1 (oldo 1 rfl rfl rfl rfl) (zA1 (oldo 0 rfl rfl rfl rfl) (zA1 (obs rfl rfl rfl rfl rfl rfl) (zA1 (oca rfl rfl fun _=>kvnorm (by omega) (by simp)) (zA1 (oas rfl) (zA0 (zH ?_)))))))
   refine zH (zJ rfl (zA1 (omv rfl) (zA1 (oeq rfl rfl) (zA0 ?_))))
   refine t_if rfl (fun c4=>?_) (fun c4=>?_)
   ·refine zH ?_
    refine yR 7 mixed rfl rfl (d1 (omv rfl) (d1 (oix 0 rfl rfl rfl (fun _=>rfl) (fun _=>by simp)) (d1 (old rfl rfl) (d1 (omv rfl) (d1 (oix 1 rfl rfl rfl (fun _=>rfl) (fun _=>by simp)) (d1 (old rfl rfl) (d1 (obd rfl rfl rfl) ?_)))))))
    refine d0 (tst 2 rfl rfl rfl rfl rfl rfl (zA0 (zZ ?_)))
    exact ⟨[_],rsc 2 rfl rfl rfl rfl rs0,yN (iA (x:=loP s t) (y:=hiP s t) (by unfold xE; simp only [if_neg (df c2),if_pos (mt_t c3),if_pos (dt c4)]) (by omega) (by omega))⟩
   ·refine yA ?_
    refine zH (yR 7 mixed rfl rfl (d1 (omv rfl) (d1 (oix 0 rfl rfl rfl (fun _=>rfl) (fun _=>by simp)) (d1 (old rfl rfl) (d1 (omv rfl) (d1 (oix 1 rfl rfl rfl (fun _=>rfl) (fun _=>by simp)) (d1 (old rfl rfl) ?_)))))))
    refine d1 (obd rfl rfl rfl) (d0 (tst 2 rfl rfl rfl rfl rfl rfl (zA0 (zZ ?_))))
    exact ⟨[_],rsc 2 rfl rfl rfl rfl rs0,yN (iA (x:=loP s t) (y:=hiP s t) (by unfold xE; simp only [if_neg (df c2),if_pos (mt_t c3),if_neg (df c4)]) (by omega) (by omega))⟩
  ·refine yA ?_
   refine zH (zJ rfl (zA1 (ofa rfl rfl) (zA1 (old rfl rfl) (zA1 (ofa rfl rfl) (zA1 (old rfl rfl) (zA1 (ofa rfl rfl) (zA1 (old rfl rfl) ?_)))))))
   refine zA1 (ofa rfl rfl) (zA1 (old rfl rfl) (zA1 (oca rfl rfl fun _=>wlines (by omega) (by omega) (by omega) (by omega)) (zA1 (omv rfl) (zA1 (oex rfl rfl) (zA1 (oex rfl rfl) ?_)))))
   refine tal fun b9=>?_
   refine tst 0 rfl rfl rfl rfl rfl rfl (zA1 (oas rfl) (zA0 (zH (zH (zJ rfl (zA1 (omv rfl) (zA1 (ont rfl) ?_)))))))
   refine zA1 (omv rfl) (t1g rfl rfl (old rfl rfl) (t1g rfl rfl (oldo 0 rfl rfl rfl rfl) (t1g rfl rfl (oca rfl rfl fun g=>zT5 (by omega) (by omega)) (t1g rfl rfl (ont rfl) (zA1 (opk rfl rfl rfl) (zA1 (omv rfl) (t1g rfl rfl (old rfl rfl) ?_)))))))
   refine t1g rfl rfl (oldo 0 rfl rfl rfl rfl) (t1g rfl rfl (oca rfl rfl fun g=>zT5 (by omega) (by omega)) (t1g rfl rfl (ont rfl) (zA1 (opk rfl rfl rfl) (zA0 ?_))))
   refine t_if rfl (fun c5=>?_) (fun c5=>?_)
   ·refine zH ?_
    refine zJ rfl (zA1 (oca rfl rfl fun _=>zZ4) (tst 3 rfl rfl rfl rfl rfl rfl (zA0 (zZ ?_))))
    exact ⟨[_],rsc 3 rfl rfl rfl rfl rs0,yN (iA (x:=(0,0)) (y:=(0,0)) (by unfold xE; simp only [if_neg (df c2),if_neg (mt_f c3),if_neg (ml_t c5)]; rfl) (by omega) (by omega))⟩
   ·refine yA ?_
    refine zH (zJ rfl (zA1 (oldo 0 rfl rfl rfl rfl) (zA1 (oldo 0 rfl rfl rfl rfl) (zA1 (obd rfl rfl rfl) (tst 3 rfl rfl rfl rfl rfl rfl (zA0 (zZ ?_)))))))
    exact ⟨[_],rsc 3 rfl rfl rfl rfl rs0,yN (iA (x:=jV s.1 s.2 t.1 t.2) (y:=jV s.1 s.2 t.1 t.2) (by unfold xE; simp only [if_neg (df c2),if_neg (mt_f c3),if_pos (ml_f c5)]) (by omega) (by omega))⟩
theorem zX4 {n m:Nat} (h:n≤m) (s:P2 × P2):PSub (ag (sgq n s)) (ag (sgq m s)):=zK2 rfl h h
theorem kmeets {s t:P2 × P2} {n m:Nat} (hn:n≤400) (hm:m≤400):CTy prog 176 [ag (sgq n s),ag (sgq m t)] (ag (mtc (32 * max n m + 80) (xE s t))):=gF (wmeets (by omega)) (fs1 (zX4 (by omega) s) (fs1 (zX4 (by omega) t) fs0))
end Go.Proofs.YtflobagimodmgaaGreatDoor
set_option maxHeartbeats 4000000
namespace Go.Proofs.YtflobagimodmgaaGreatDoor
open Go.SL Go.RowKit Go.Proofs Tryz
theorem ts_frc {X:Cx} {Γ:TE} {S:List Ow} {v:Value} {ty tb:TypeId} {k b:Nat} {l:List CT} (i j:Nat) (hi:S[i]? = some (.row v ty k l)) (hj:(S.eraseIdx i)[j]? = some (.blk b tb [xc v])):Ts X Γ S Γ ((S.eraseIdx i).set j (.blk b tb [sl k l])):=fun E w h=>by
 have h1:=h.frz hi
 have h2:=h.sub (List.eraseIdx_sublist S i)
 generalize S.eraseIdx i=T at *
 have hm:∀ o ∈ T.set j (.blk b tb [sl k l]),o ∈ T ∨ o = .blk b tb [sl k l]:=fun o ho=>List.mem_or_eq_of_mem_set ho
 have hjT:Ow.blk b tb [xc v] ∈ T:=List.mem_of_getElem? hj
 have hmk:Mk (T.set j (.blk b tb [sl k l])) X.M=Mk T X.M:=funext fun c=>propext ⟨fun h=>h.imp (fun ⟨o,ho,e⟩=>by
  rcases hm o ho with ho | rfl
  ·exact ⟨o,ho,e⟩
  ·exact ⟨_,hjT,e⟩) id,fun h=>h.imp (fun ⟨o,ho,e⟩=>by
  obtain ⟨m,hm⟩:=List.mem_iff_getElem?.1 ho
  by_cases c:j=m
  ·subst c
   obtain rfl:=Option.some.inj (hm.symm.trans hj)
   exact ⟨.blk b tb [sl k l],List.mem_of_getElem? (List.getElem?_set_self (List.getElem?_eq_some_iff.1 hj).1),e⟩
  ·exact ⟨o,List.mem_of_getElem? (by rw [List.getElem?_set_ne c]; exact hm),e⟩) id⟩
 refine ⟨h2.bel,⟨by rw [hmk]; exact h2.gd.ok,by rw [hmk]; exact h2.gd.tab,fun o ho=>?_⟩,fun o ho b' e=>?_,iU h2.apt hj (fun b' e => .inl e),h2.ok0,h2.zm,h2.mko,by rw [hmk]; exact h2.tm⟩
 ·rw [hmk]
  rcases hm o ho with ho | rfl
  ·exact h2.gd.own o ho
  ·obtain ⟨us,g1,x,y,rfl,g2,g3⟩:=h2.gd.own _ hjT
   obtain ⟨rfl,_⟩:=g2
   obtain rfl:y=[]:=g3
   exact ⟨_,g1,[v],[],rfl,h1,rfl⟩
 ·rcases hm o ho with ho | rfl
  ·exact h2.new o ho b' e
  ·exact h2.new _ hjT b' e
abbrev pcs (n:Nat) (l:List P2):CT:=sl 6 (l.map (ptq n))
theorem zV1 {p:List P2} {n:Nat} (hn:n≤400) (hl:p.length≤1000000):CIt prog 232 [pa (pcs n p)] (xP p) (fun s=>[ag (sgq n s)]):=by
 refine cit func232 rfl rfl rfl rfl rfl fun X y YS YX hY hS=>(zH (zJ rfl (zA1 (old rfl rfl) (zA1 (oln rfl) (zA1 (omv rfl) (zA0 (zT ?_)))))))
 rotate_left 1
 refine dX (σ:=Nat) (fun i=>[(7,True,exP (.int .i64 ((i:Nat):Int)))]) (fun i=>[]) (fun i Y=>YS ((xP p).take i) Y∧i≤p.length) (fun i=>p.length - i) (0) (tk 0 rfl (tk 1 rfl (tk 5 rfl (tk 6 rfl tn)))) ?_ rfl (⟨hS,by omega⟩) (fun i Y hG=>?_)
 refine tc rfl (ps_r _) (tn)
 rotate_left 1
 obtain ⟨hS,hi⟩:=hG
 refine zH (zJ rfl (zA1 (olt rfl rfl) (zA0 (zH ?_))))
 refine t_if rfl (fun c0=>?_) (fun c0=>?_)
 refine yA (zH (zT (zH (zJ rfl (zA1 (omv rfl) (zA1 (oix _ rfl rfl rfl (fun _=>rfl) (fun _=>(by (have e0:=dt c0; omega)))) (zA1 (old rfl rfl) (tal fun b4=>(zA1 (oas rfl) ?_)))))))))
 refine tst 0 rfl rfl rfl rfl rfl rfl (qE (gC (s:=4) 0 rfl rfl) (zA0 (zH (yR 11 mixed rfl rfl (d1 (omv rfl) (d1 (old rfl rfl) (d1 (old rfl rfl) (d1 (omv rfl) (d1 (oad rfl rfl (by omega)) ?_)))))))))
 refine d1 (old rfl rfl) (d1 (oln rfl) (d1 (orm rfl rfl (by (have e0:=dt c0; omega))) ?_))
 refine d1 (oix _ rfl rfl rfl (fun _=>rfl) (fun _=>?_)) ?_
 rotate_left 1
 refine d1 (old rfl rfl) (d1 (oca rfl rfl fun _=>wfrom (by omega) (by omega)) (d0 ?_))
 rotate_left 1
 refine xN ?_
 rotate_left 1
 ·have:=dt c0
  exact Nat.mod_lt _ (by omega)
 ·have h2:i < p.length:=by have:=dt c0; omega
  refine mE hY hS (aI h2).1 rfl rfl (fs1 (zK2 (by unfold bZ; rfl) (by omega) (by omega)) fs0) (fun Y hS=>?_) (fun Y hX=>?_)
  ·refine zA1 (ont rfl) (zA0 (sV rfl rfl (yA (zJ rfl (zA1 (oad rfl rfl (by omega)) (zA1 (omv rfl) (zA0 ?_)))))))
   rotate_left 1
   refine ⟨i + 1,tes ?_ ?_ (List.Sublist.refl _),?_,(by omega)⟩
   refine tc rfl (ps_r _) (tn)
   refine tc rfl (ps_r _) (tc rfl (ps_r _) (tc rfl (ps_r _) (tc rfl (ps_r _) (tn))))
   rotate_left 1
   exact ⟨by rw [(aI h2).2]; exact hS,by omega⟩
  ·refine zA1 (ont rfl) (zA0 (zI3 rfl rfl (zZ ?_)))
   rotate_left 1
   exact .inr hX
 ·have:i=p.length:=by have:=df c0; omega
  subst this
  rw [List.take_of_length_le (by rw [gL]; omega)] at hS
  exact .inl hS
theorem zT9 {p:List P2} {n:Nat}:CTy prog 175 [sv (pcs n p)] (fn 232 [pa (pcs n p)]):=by
 refine ctc func175 rfl rfl rfl rfl fun X=>(zH (zJ rfl (zA1 (obx rfl) (zA1 (oas rfl) (zA0 (zH (zJ rfl (zA1 (omf rfl) (zA1 (oas rfl) ?_)))))))))
 refine zA0 (zZ (⟨[_],rst rfl rs0,yN (PSub.refl _)⟩))
theorem cC:COrd cmpP:=⟨fun a b=>pV,fun a b=>by rw [mT,fF],fun a b c h k=>cmpP_lt_trans h k⟩
theorem kvcmp2 {p q:P2} {m:Nat} (hm:m≤80000):CTy prog 69 [ag (ptc m p),ag (ptc m q)] (exP (.int .i64 (cmpP p q))):=by
 have:=oD (Ψ:=ag (ptc m p)) (Φ:=ag (ptc m q)) (show max m m≤80000 by omega) (show max m m≤80000 by omega)
 exact this
theorem ksortP {v:Value} {l:List P2} {m:Nat} (hm:m≤80000) (hl:l.length≤1000000):CTo prog 68 [exP v,exP (.func (.func 69) #[] #[])] [.row v 35 6 (l.map (ptc m))] (fun r So=>r=tu []∧∃ l':List P2,l'.Perm l∧(∀ i j,i < j→j < l'.length→¬ cmpP l'[j]! l'[i]! < 0)∧So=[.row v 35 6 (l'.map (ptc m))]) :=
 zW6 (ρ:=sortPt_ren) sortPt rfl cK (qF sz35) (fun _=>rfl) cC.swo (bo func68) (fun x y=>kvcmp2 hm) hl
abbrev eqP (a b:P2):Bool:=decide (cmpP a b=0)
theorem wcompactP {v:Value} {l:List P2} {m:Nat} (hm:m≤80000) (hl:l.length≤100000):CTo prog 70 [exP v,exP (.func (.func 71) #[] #[])] [.row v 35 6 (l.map (ptc m))] (fun ρ So=>∃ v',ρ=exP v'∧So=[.row v' 35 6 ((qV eqP Df.d l l.length).map (ptc m))]):=by
 refine ctd func70 rfl rfl rfl rfl (fun _ _ _ _ _ _ _ hs hp=>lD hs hp) fun X=>(zH (zJ rfl (zA1 (oas rfl) (zA0 (zH (zH (zJ rfl (zA1 (omv rfl) (zA1 (olno 0 rfl rfl) ?_)))))))))
 refine zA1 (olt rfl rfl) (zA0 ?_)
 refine t_if rfl (fun c0=>?_) (fun c0=>?_)
 refine zH (zJ rfl (zA1 (omv rfl) (zA1 (oas rfl) (zA0 (zZ ?_)))))
 rotate_left 1
 refine yA (zH (zH (zJ rfl (zA1 (oas rfl) (zA0 (zT ?_))))))
 rotate_left 1
 ·have h2:=dt c0
  exact ⟨[_],exP v,_,rst rfl rs0,List.Sublist.refl _,⟨v,rfl,by rw [aZ (Nat.le_refl _) fun i h1 h3=>by omega,List.take_length]⟩,yN (PSub.refl _)⟩
 have h2:=df c0
 refine xL (σ:=Nat) (fun s=>[(5,True,exP (.int .i64 ((s:Nat):Int)))]) (fun s=>[.row v 35 6 (l.map (ptc m))]) (fun s=>1≤s∧s≤l.length∧∀ i,0 < i→i < s→eqP (l.getD i Df.d) (l.getD (i - 1) Df.d)=false) (fun s=>l.length - s) (1) (tk 0 rfl (tk 1 rfl tn)) ?_ rfl (⟨by omega,by omega,fun i h1 h3=>by omega⟩) (fun s hJ Y _=>?_)
 refine tc rfl (ps_r _) (tn)
 rotate_left 1
 obtain ⟨j1,j2,j3⟩:=hJ
 refine zH (zH (zJ rfl (zA1 (omv rfl) (zA1 (omv rfl) (zA1 (olno 0 rfl rfl) (zA1 (olt rfl rfl) (zA0 ?_)))))))
 refine t_if rfl (fun c1=>?_) (fun c1=>?_)
 refine yA (zH (zT (zH (yR 11 mixed rfl rfl (d1 (omv rfl) (d1 (omv rfl) (d1 (omv rfl) (d1 (oixo 0 _ rfl rfl rfl (fun _=>rfl) (fun _=>(by (have e0:=dt c1; simp; omega)))) (d1 (oldr 0 rfl rfl (fun _=>(by (have e0:=dt c1; simp; omega))) rfl) ?_)))))))))
 refine d1 (omv rfl) (d1 (omv rfl) (d1 (osb rfl rfl (by omega)) (d1 (oixo 0 (s - 1) rfl rfl rfl (fun _=>(by omega)) (fun _=>(by (simp; omega)))) (d1 (oldr 0 rfl rfl (fun _=>(by (simp; omega))) rfl) (d1 (oca rfl rfl fun _=>zT4 (by omega) (by omega)) (d0 (zA0 ?_)))))))
 refine t_if rfl (fun c2=>?_) (fun c2=>?_)
 refine zH (zJ rfl (zA1 (omv rfl) (zA1 (omv rfl) (zA1 (osv 0 _ rfl rfl rfl (fun _=>rfl) (fun _=>(by (have e0:=df c0; have e1:=dt c1; have e2:=dt c2; simp; omega)))) (zA1 (oas rfl) (zA0 (zH (zH (zJ rfl ?_)))))))))
 refine zA1 (oas rfl) (zA0 (zT ?_))
 rotate_left 1
 refine yA (zJ rfl (zA1 (omv rfl) (zA1 (oad rfl rfl (by omega)) (zA1 (oas rfl) (zA0 ?_)))))
 rotate_left 1
 refine xN (zH (zJ rfl (zA1 (omv rfl) (zA1 (oas rfl) (zA0 (zZ ?_))))))
 rotate_left 1
 ·have h3:=dt c1
  refine xL (σ:=Nat × Nat × List P2) (fun t=>[(5,True,exP (.int .i64 ((t.1:Nat):Int))),(7,True,exP (.int .i64 ((t.2.1:Nat):Int)))]) (fun t=>[.row v 35 6 (t.2.2.map (ptc m))]) (fun t=>1≤t.2.1∧s + t.2.1≤l.length∧s≤t.1∧t.1 < s + t.2.1∧t.2.2.length=l.length∧t.2.2.take t.1=qV eqP Df.d l (s + t.2.1)∧∀ i,s + t.2.1≤i + 1→t.2.2.getD i Df.d=l.getD i Df.d) (fun t=>l.length - t.2.1) ((s,1,l)) (tk 0 rfl (tk 1 rfl (tk 6 rfl tn))) ?_ rfl (⟨by simp,by simp only; omega,by simp,by simp,rfl,oG (l:=l) (s:=s) (by omega) (by omega) j3 c2.h,fun _ _=>rfl⟩) (fun t hJ Y _=>?_)
  refine tc rfl (ps_r _) (tc rfl (ps_r _) (tn))
  rotate_left 1
  obtain ⟨kk,m',l2⟩:=t
  dsimp only at hJ ⊢
  obtain ⟨j4,j5,j6,j7,j8,j9,j10⟩:=hJ
  refine zH (zH (zJ rfl (zA1 (omv rfl) (zA1 (omv rfl) (zA1 (olv 0 rfl rfl) (zA1 (olt rfl rfl) (zA0 ?_)))))))
  refine t_if rfl (fun c3=>?_) (fun c3=>?_)
  refine yA (zH (zT (zH (yR 12 mixed rfl rfl (d1 (omv rfl) (d1 (omv rfl) (d1 (omv rfl) (d1 (oixv 0 m' rfl rfl rfl (fun _=>(by omega)) (fun _=>(by (have e0:=dt c3; omega)))) (d1 (oldr 0 rfl rfl (fun _=>(by (have e0:=dt c3; omega))) rfl) ?_)))))))))
  refine d1 (omv rfl) (d1 (omv rfl) (d1 (osb rfl rfl (by omega)) (d1 (oixv 0 (m' - 1) rfl rfl rfl (fun _=>(by omega)) (fun _=>(by (simp; omega)))) (d1 (oldr 0 rfl rfl (fun _=>(by (simp; omega))) rfl) (d1 (oca rfl rfl fun _=>zT4 (by omega) (by omega)) (d1 (ont rfl) (d0 (zA0 ?_))))))))
  refine t_if rfl (fun c4=>?_) (fun c4=>?_)
  refine zH (zJ rfl (zA1 (omv rfl) (zA1 (omv rfl) (zA1 (omv rfl) (zA1 (omv rfl) (zA1 (oixv 0 m' rfl rfl rfl (fun _=>(by omega)) (fun _=>(by (have e0:=dt c3; omega)))) (zA1 (oldr 0 rfl rfl (fun _=>(by (have e0:=dt c3; omega))) rfl) (zA1 (oixo 0 _ rfl rfl rfl (fun _=>rfl) (fun _=>(by (simp; omega)))) (tsr 0 _ rfl rfl rfl rfl rfl (by (simp; omega)) rfl ?_)))))))))
  refine zA0 (zJ rfl (zA1 (omv rfl) (zA1 (oad rfl rfl (by omega)) (zA1 (oas rfl) (zA0 (zJ rfl (zA1 (omv rfl) (zA1 (oad rfl rfl (by omega)) (zA1 (oas rfl) ?_)))))))))
  refine zA0 ?_
  rotate_left 1
  refine yA (zJ rfl (zA1 (omv rfl) (zA1 (oad rfl rfl (by omega)) (zA1 (oas rfl) (zA0 ?_)))))
  rotate_left 1
  refine xN (zH (zJ rfl (zA1 (omv rfl) (zA1 (omv rfl) (zA1 (osv 0 _ rfl rfl rfl (fun _=>rfl) (fun _=>(by (simp; omega)))) (tclr 0 rfl rfl (by (simp; omega)) (zA0 (zH (zJ rfl ?_)))))))))
  refine zA1 (omv rfl) (zA1 (omv rfl) (tsh 0 _ rfl rfl rfl rfl (by (simp; omega)) fun r64=>(zA1 (oas rfl) (zA0 (zZ ?_)))))
  rotate_left 1
  ·have h5:m' < l2.length - s:=by have:=dt c3; simp at this; omega
   have hd:l2.getD (s + m') Df.d=l.getD (s + m') Df.d:=j10 _ (by omega)
   have hd2:l2.getD (s + (m' - 1)) Df.d=l.getD (s + m' - 1) Df.d:=by rw [show s + (m' - 1)=s + m' - 1 by omega]; exact j10 _ (by omega)
   have hc:¬ eqP (l.getD (s + m') Df.d) (l.getD (s + m' - 1) Df.d)=true:=by rw [← hd,← hd2,Bool.not_eq_true]; exact (Bool.not_eq_true' _) ▸ c4.h
   refine ⟨(kk + 1,m' + 1,l2.set kk (l2.getD (s + m') Df.d)),tes ?_ ?_ (by (simp; done)),?_,(by (simp; omega))⟩
   refine tc rfl (ps_r _) (tc rfl (ps_r _) (tn))
   refine tc rfl (ps_r _) (tc rfl (ps_r _) (tc rfl (ps_r _) (tn)))
   rotate_left 1
   ·refine ⟨by simp,by simp only; omega,by simp only; omega,by simp only; omega,by simp [j8],?_,fun i hi=>?_⟩
    ·simp only [← Nat.add_assoc]; rw [hd]; exact pM (by omega) j9 hc
    ·simp only at hi ⊢; rw [iN (by omega)]; exact j10 i (by omega)
  ·have h5:m' < l2.length - s:=by have:=dt c3; simp at this; omega
   have hd:l2.getD (s + m') Df.d=l.getD (s + m') Df.d:=j10 _ (by omega)
   have hd2:l2.getD (s + (m' - 1)) Df.d=l.getD (s + m' - 1) Df.d:=by rw [show s + (m' - 1)=s + m' - 1 by omega]; exact j10 _ (by omega)
   have hc:eqP (l.getD (s + m') Df.d) (l.getD (s + m' - 1) Df.d)=true:=by rw [← hd,← hd2]; exact (Bool.not_eq_false' _) ▸ c4.h
   refine ⟨(kk,m' + 1,l2),tes ?_ ?_ (List.Sublist.refl _),?_,(by (simp; omega))⟩
   refine tc rfl (ps_r _) (tc rfl (ps_r _) (tn))
   refine tc rfl (ps_r _) (tc rfl (ps_r _) (tc rfl (ps_r _) (tn)))
   rotate_left 1
   exact ⟨by simp,by simp only; omega,j6,by simp only; omega,j8,by simp only [← Nat.add_assoc]; exact oF (by omega) j9 hc,fun i hi=>j10 i (by simp only at hi; omega)⟩
  ·have h5:¬ m' < l2.length - s:=by have:=df c3; simp at this; omega
   have e:s + m'=l.length:=by omega
   refine ⟨[_],exP r64,_,rst rfl rs0,List.Sublist.refl _,⟨r64,rfl,?_⟩,yN (PSub.refl _)⟩
   rw [← e,← j9]
   simp [List.take_append,Nat.min_eq_left (show kk≤l2.length by omega)]
 ·have h3:=dt c1
  refine ⟨s + 1,tes ?_ ?_ (List.Sublist.refl _),?_,(by omega)⟩
  refine tc rfl (ps_r _) (tn)
  refine tc rfl (ps_r _) (tc rfl (ps_r _) (tn))
  rotate_left 1
  refine ⟨by omega,by omega,fun i h1 h4=>?_⟩
  rcases Nat.lt_or_ge i s with h | h
  ·exact j3 i h1 h
  ·obtain rfl:i=s:=by omega
   exact c2.h
 ·have h3:=df c1
  exact ⟨[_],exP v,_,rst rfl rs0,List.Sublist.refl _,⟨v,rfl,by rw [aZ (Nat.le_refl _) fun i h1 h4=>j3 i h1 (by omega),List.take_length]⟩,yN (PSub.refl _)⟩
noncomputable def allOf (p q:List P2):List P2:=setOf cmpP (rawL (xP p) (xP q))
theorem allOf_set (p q:List P2):allOf p q=setOf cmpP (rawL (xP p) (xP q)):=rfl
theorem lS (p q:List P2):(allOf p q).length≤2 * q.length * p.length:=by
 rw [allOf_set]
 have h1:=kO cC (rawL (xP p) (xP q))
 have h2:=eD (xP q) (xP p)
 rw [gL,gL] at h2; omega
theorem raw_next {es fs:List (P2 × P2)} {x:P2 × P2}:rawL (es ++ [x]) fs=rawL es fs ++ fs.flatMap fun t=>qS (xE x t):=by simp [rawL]
theorem kmall {p q:List P2} {n m:Nat} (hn:n≤400) (hm:m≤400) (hp:p.length≤200) (hq:q.length≤200):CTy prog 123 [sv (pcs n p),sv (pcs m q)] (sv (sl 6 ((allOf p q).map (ptc (32 * max n m + 80))))):=by
 refine ctc func123 rfl rfl rfl rfl fun X=>(zH (zJ rfl (zA1 (obx rfl) (tal fun b4=>(zA0 (zH (zH (zJ rfl (zA1 (omv rfl) ?_)))))))))
 refine zA1 (oca rfl rfl fun _=>zT9) (zA0 (zT ?_))
 rotate_left 1
 refine t_ts (fQ 35 6) ?_
 have hrl:=eD (xP q) (xP p)
 rw [gL,gL] at hrl
 have hpq:2 * q.length * p.length≤2 * 200 * 200:=Nat.mul_le_mul (by omega) hp
 refine fY (σ:=List (P2 × P2) × Value) (fun t=>[.row t.2 35 6 ((rawL t.1 (xP q)).map (ptc (32 * max n m + 80))),.blk b4 22 [xc t.2]]) (fun pre t=>t.1=pre) ([],.slice none 0 0) rfl (zV1 hn (by omega)) (fun _=>rfl) rfl tN (by simp [rawL]; rfl) rfl (fun pre x post t hx hJ Y y hl=>?_) (fun t hJ Y _=>?_)
 ·refine zJ rfl (tal fun b5=>(tst 0 rfl rfl rfl rfl rfl rfl (qE (gC (s:=5) 0 rfl rfl) (zA0 (⟨rfl,fun Y hl=>(zT (mF (zH (rC ?_))))⟩)))))
  refine zH (zJ rfl (zA1 (old rfl rfl) (zA1 (oca rfl rfl fun _=>zT9) (zA0 (zT ?_)))))
  rotate_left 1
  obtain ⟨pr,v1⟩:=t
  obtain rfl:pr=pre:=hJ
  refine fY (σ:=List (P2 × P2) × Value) (fun t=>[.row t.2 35 6 ((rawL pr (xP q) ++ t.1.flatMap fun u=>qS (xE x u)).map (ptc (32 * max n m + 80))),.blk b4 22 [xc t.2]]) (fun pre t=>t.1=pre) ([],v1) rfl (zV1 hm (by omega)) (fun _=>rfl) rfl (fun _ h=>by cases h; exact hl) (by simp) rfl (fun pre2 x2 post2 t hx2 hJ Y y2 hl2=>?_) (fun t hJ Y _=>?_)
  ·obtain ⟨pr2,v2⟩:=t
   obtain rfl:pr2=pre2:=hJ
   have h1:(rawL pr (xP q) ++ pr2.flatMap fun u=>qS (xE x u)).length≤1000000:=by
    have a1:=eD (xP q) pr
    have a2:=hC x pr2
    have a3:=congrArg List.length hx
    have a4:=congrArg List.length hx2
    rw [gL,List.length_append] at a3 a4
    rw [gL] at a1
    have a5:2 * q.length * pr.length≤2 * 200 * 200:=Nat.mul_le_mul (by omega) (by omega)
    rw [List.length_append]; omega
   have e1:(pr2 ++ [x2]).flatMap (fun u=>qS (xE x u))=pr2.flatMap (fun u=>qS (xE x u)) ++ qS (xE x x2):=by simp
   refine zJ rfl (tal fun b6=>(tst 0 rfl rfl rfl rfl rfl rfl (qE (gC (s:=6) 0 rfl rfl) (zA0 (⟨rfl,fun Y hl=>(zT (zH (zJ rfl (zA1 (old rfl rfl) ?_))))⟩)))))
   refine zA1 (old rfl rfl) (zA1 (oca rfl rfl fun _=>kmeets (by omega) (by omega)) (tal fun b7=>(tst 0 rfl rfl rfl rfl rfl rfl (qE (gC (s:=7) 0 rfl rfl) (zA0 (zH (zH (zJ rfl (zA1 (ofa rfl rfl) ?_)))))))))
   refine zA1 (old rfl rfl) (zA1 (oeq rfl rfl) (zA0 ?_))
   refine t_if rfl (fun c0=>?_) (fun c0=>?_)
   refine xN ?_
   rotate_left 1
   refine yA (zJ rfl (zA1 (oldo 1 rfl rfl rfl rfl) (zA1 (ofa rfl rfl) (zA1 (old rfl rfl) (zA1 (ofa rfl rfl) (zA1 (old rfl rfl) (zA1 (obs rfl rfl rfl rfl rfl rfl) ?_)))))))
   refine tap 0 rfl rfl rfl ?_ rfl fun r26=>?_
   rotate_left 1
   refine tsw 1 0 rfl rfl rfl rfl rfl rfl rfl (zA0 ?_)
   rotate_left 1
   ·have e2:qS (xE x x2)=[]:=by unfold qS; rw [if_pos (dt c0)]
    refine ⟨(pr2 ++ [x2],v2),?_,rfl⟩
    rotate_left 1
    simp only [e1,e2,List.append_nil]; exact List.Sublist.refl _
   ·dsimp only; simp only [List.length_map,List.length_cons,List.length_nil]; omega
   ·have e2:qS (xE x x2)=[(xE x x2).2.1,(xE x x2).2.2]:=by unfold qS; rw [if_neg (df c0)]
    refine ⟨(pr2 ++ [x2],r26),?_,rfl⟩
    rotate_left 1
    simp only [e1,e2,← List.append_assoc,List.map_append (l₂:=[_,_])]; exact List.Sublist.refl _
  ·obtain ⟨_,v2⟩:=t
   obtain rfl:_=xP q:=hJ
   rotate_left 1
   refine ⟨(pr ++ [x],v2),?_,rfl⟩
   rotate_left 1
   simp only [raw_next]; exact List.Sublist.refl _
 ·obtain ⟨_,v2⟩:=t
  obtain rfl:_=xP p:=hJ
  refine zH (zJ rfl (zA1 (oldo 1 rfl rfl rfl rfl) ?_))
  rotate_left 1
  dsimp only
  refine tco [0] rfl rfl rfl (ksortP (by omega) (by omega)) ?_
  rintro _ _ ⟨rfl,l',hp',hso,rfl⟩
  have hll:=hp'.length_eq
  refine zA0 (zH (zJ rfl (zA1 (oldo 1 rfl rfl rfl rfl) ?_)))
  rotate_left 1
  refine tco [0] rfl rfl rfl (wcompactP (by omega) (by omega)) ?_
  rintro _ _ ⟨v3,rfl,rfl⟩
  rw [show qV eqP Df.d l' l'.length=allOf p q from (nI cC hp' hso).eq cC]
  refine tsw 1 0 rfl rfl rfl rfl rfl rfl rfl (zA0 (t_ts (ts_frc 0 0 rfl rfl) ?_))
  refine zZ (⟨[_],rsc 0 rfl rfl rfl rfl rs0,yN (PSub.refl _)⟩)
end Go.Proofs.YtflobagimodmgaaGreatDoor
set_option maxHeartbeats 4000000
namespace Go.Proofs.YtflobagimodmgaaGreatDoor
open Go.SL Go.RowKit Go.Proofs Tryz
theorem tup3 {a b c:PV}:∀ M w vs,Fa [a,b,c] M w vs→(tu [a,b,c]).p M w (xG vs):=fun M w vs h=>by
 have h0:=h
 obtain ⟨v,us,rfl,h1,u,us2,rfl,h2,z,us3,rfl,h3,e4⟩:=h
 obtain rfl:us3=[]:=e4
 exact ⟨_,rfl,h0⟩
abbrev fnd (l:List Rat) (x:Rat):PV:=tu [exP (.int .i64 ((aH l x).1:Int)),exP (.bool (aH l x).2.1),exP (.bool (aH l x).2.2)]
theorem sK {x y:Rat}:decide (cmpR x y < 0)=decide (x < y):=by rw [decide_eq_decide,qK]
def FS (l:List Rat) (x:Rat) (s:Nat) (a:Int):Prop :=
 (a = -1∧∀ j,j < s→¬ bU l x j=true) ∨ ∃ k:Nat,a=(k:Int)∧k < s∧bU l x k=true∧∀ j,j < k→¬ bU l x j=true
theorem cR {l:List Rat} {x:Rat} {s:Nat}:bU l x s=true ↔ s + 1 < l.length∧l.getD s 0 < x∧x < l.getD (s + 1) 0:=by
 unfold bU; simp only [Bool.and_eq_true,decide_eq_true_eq,and_assoc]
theorem fs_next {l:List Rat} {x:Rat} {s:Nat} {a:Int} (h:FS l x s a) (hn:0≤a ∨ ¬ bU l x s=true):FS l x (s + 1) a:=by
 rcases h with ⟨h1,h2⟩ | ⟨k,h1,h2,h3,h4⟩
 ·refine .inl ⟨h1,fun j hj=>?_⟩
  rcases Nat.lt_or_ge j s with c | c
  ·exact h2 j c
  ·obtain rfl:j=s:=by omega
   rcases hn with hn | hn
   ·omega
   ·exact hn
 ·exact .inr ⟨k,h1,by omega,h3,h4⟩
theorem fs_hit {l:List Rat} {x:Rat} {s:Nat} {a:Int} (h:FS l x s a) (ha:¬ 0≤a) (hs:bU l x s=true):FS l x (s + 1) (s:Int):=by
 rcases h with ⟨h1,h2⟩ | ⟨k,h1,h2,h3,h4⟩
 ·exact .inr ⟨s,rfl,by omega,hs,h2⟩
 ·omega
theorem fs_wall {l:List Rat} {x:Rat} {s:Nat} (hs:s < l.length) (hx:l.getD s 0=x) (hn:∀ j,j < s→l.getD j 0 ≠ x):aH l x=(s,true,true):=by
 unfold aH; rw [oP hs hx hn]
theorem fs_none {l:List Rat} {x:Rat} {a:Int} (h:FS l x l.length a) (ha:a < 0) (hn:∀ j,j < l.length→l.getD j 0 ≠ x):aH l x=(0,false,false):=by
 rcases h with ⟨h1,h2⟩ | ⟨k,h1,h2,h3,h4⟩
 ·unfold aH; rw [eS hn,oW h2]
 ·omega
theorem fs_slab {l:List Rat} {x:Rat} {a:Int} (h:FS l x l.length a) (ha:¬ a < 0) (hn:∀ j,j < l.length→l.getD j 0 ≠ x):∃ k:Nat,a=(k:Int)∧aH l x=(k,false,true):=by
 rcases h with ⟨h1,h2⟩ | ⟨k,h1,h2,h3,h4⟩
 ·omega
 ·obtain ⟨i1,i2,i3⟩:=cR.1 h3
  refine ⟨k,h1,?_⟩
  unfold aH; rw [eS hn,oV i1 i2 i3 h4]
theorem zL5 {l:List Rat} {x:Rat} {s:Nat} (h:∀ j,j < s→l.getD j 0 ≠ x) (hs:l.getD s 0 ≠ x):∀ j,j < s + 1→l.getD j 0 ≠ x:=fun j hj=>by
 rcases Nat.lt_or_ge j s with c | c
 ·exact h j c
 ·obtain rfl:j=s:=by omega
  exact hs
theorem wV {l:List Rat} {n:Nat} (hn:n≤90000) (hl:l.length≤1000000):CTy prog 65 [sv (sl 3 (l.map (rtq n)))] (exP (.bool (decide (fR l)))):=by
 refine ctc func65 rfl rfl rfl rfl fun X=>(zH (zJ rfl (zA1 (oas rfl) (zA0 (zH (zH (zJ rfl (zA1 (omv rfl) (zA1 (oln rfl) ?_)))))))))
 refine zA1 (osb rfl rfl (by omega)) (zA1 (omx rfl rfl) (zA1 (omv rfl) (zA0 (zT ?_))))
 rotate_left 1
 refine xL (σ:=Nat) (fun i=>[(8,True,exP (.int .i64 ((i:Nat):Int)))]) (fun i=>[]) (fun i=>i≤l.length - 1∧∀ j,j < i→l.getD j 0 < l.getD (j + 1) 0) (fun i=>l.length - i) (0) (tk 0 rfl (tk 7 rfl tn)) ?_ rfl (⟨by omega,by omega⟩) (fun i hJ Y _=>?_)
 refine tc rfl (ps_r _) (tn)
 rotate_left 1
 obtain ⟨hi,hs⟩:=hJ
 refine zH (zJ rfl (zA1 (olt rfl rfl) (zA0 (zH ?_))))
 refine t_if rfl (fun c0=>?_) (fun c0=>?_)
 refine yA (zH (zT (zH (zJ rfl (zA1 (omv rfl) (zA1 (oas rfl) (zA0 (zH (yR 11 mixed rfl rfl ?_)))))))))
 refine d1 (omv rfl) (d1 (omv rfl) (d1 (oix _ rfl rfl rfl (fun _=>rfl) (fun _=>(by (have e0:=dt c0; omega)))) (d1 (old rfl rfl) (d1 (omv rfl) (d1 (omv rfl) (d1 (oad rfl rfl (by omega)) (d1 (oix _ rfl rfl rfl (fun _=>rfl) (fun _=>(by (have e0:=dt c0; simp; omega)))) (d1 (old rfl rfl) (d1 (oca rfl rfl fun _=>fM (by omega) (by omega)) ?_)))))))))
 refine d1 (oge rfl rfl) (d0 (zA0 ?_))
 refine t_if rfl (fun c1=>?_) (fun c1=>?_)
 refine zH (zJ rfl (zA1 (oas rfl) (zA0 (zZ (⟨[_],rst rfl rs0,yN ?_⟩)))))
 refine psb ?_
 rotate_left 1
 refine yA (zJ rfl (zA1 (oad rfl rfl (by omega)) (zA1 (omv rfl) (zA0 ?_))))
 rotate_left 1
 refine xN (zH (zJ rfl (zA1 (oas rfl) (zA0 (zZ (⟨[_],rst rfl rs0,yN ?_⟩))))))
 refine psb ?_
 rotate_left 1
 ·have h1:=dt c1
  have h2:=dt c0
  rw [decide_eq_false fun h=>by
   have:=h i (by omega)
   rw [← qK] at this
   change 0≤cmpR (l.getD i 0) (l.getD (i + 1) 0) at h1
   omega]
 ·have h1:=df c1
  have h2:=dt c0
  refine ⟨i + 1,tes ?_ ?_ (List.Sublist.refl _),?_,(by omega)⟩
  refine tc rfl (ps_r _) (tn)
  refine tc rfl (ps_r _) (tc rfl (ps_r _) (tn))
  rotate_left 1
  refine ⟨by omega,fun j hj=>?_⟩
  rcases Nat.lt_or_ge j i with c | c
  ·exact hs j c
  ·obtain rfl:j=i:=by omega
   rw [← qK]
   change ¬ 0≤cmpR (l.getD j 0) (l.getD (j + 1) 0) at h1
   omega
 ·have h1:=df c0
  rw [decide_eq_true (show fR l from fun j hj=>hs j (by omega))]
theorem zP9 {l:List Rat} {x:Rat} {n m:Nat} (hn:n≤90000) (hm:m≤90000) (hl:l.length≤1000000):CTy prog 59 [sv (sl 3 (l.map (rtq n))),ag (rtq m x)] (fnd l x):=by
 refine ctc func59 rfl rfl rfl rfl fun X=>(zH (zJ rfl (zA1 (obx rfl) (zA1 (oas rfl) (zA1 (oas rfl) (zA1 (oas rfl) (zA0 (mF (zH ?_)))))))))
 refine zJ rfl (zA1 (oas rfl) (zA0 (zH (rC (zH (zH (zJ rfl (zA1 (omv rfl) (zA1 (oln rfl) ?_)))))))))
 refine zA1 (omv rfl) (zA0 (zT ?_))
 rotate_left 1
 refine xL (σ:=Nat × Int) (fun s=>[(4,True,exP (.int .i64 s.2)),(12,True,exP (.int .i64 ((s.1:Nat):Int)))]) (fun s=>[]) (fun s=>s.1≤l.length∧(∀ j,j < s.1→l.getD j 0 ≠ x)∧FS l x s.1 s.2) (fun s=>l.length - s.1) ((0,-1)) (tk 0 rfl (tk 3 rfl (tk 10 rfl (tk 11 rfl tn)))) ?_ rfl (⟨by simp,by simp,.inl ⟨rfl,by simp⟩⟩) (fun s hJ Y _=>?_)
 refine tc rfl (ps_r _) (tc rfl (ps_r _) (tn))
 rotate_left 1
 obtain ⟨i,a⟩:=s
 dsimp only at hJ ⊢
 obtain ⟨hi,hs,hF⟩:=hJ
 refine zH (zJ rfl (zA1 (olt rfl rfl) (zA0 (zH ?_))))
 refine t_if rfl (fun c0=>?_) (fun c0=>?_)
 refine yA (zH (zT (zH (zJ rfl (zA1 (omv rfl) (zA1 (oix _ rfl rfl rfl (fun _=>rfl) (fun _=>(by (have e0:=dt c0; omega)))) (zA1 (old rfl rfl) (tal fun b8=>(zA1 (oas rfl) ?_)))))))))
 refine tst 0 rfl rfl rfl rfl rfl rfl (qE (gC (s:=8) 0 rfl rfl) (zA0 (zH (zH (zJ rfl (zA1 (old rfl rfl) (zA1 (old rfl rfl) (zA1 (oca rfl rfl fun _=>fM (by omega) (by omega)) (zA1 (oas rfl) ?_)))))))))
 refine zA0 (zT (zH (zJ rfl (zA1 (omv rfl) (zA1 (oeq rfl rfl) (zA1 (oas rfl) (zA0 ?_)))))))
 refine t_if rfl (fun c1=>?_) (fun c1=>?_)
 refine zH (zJ rfl (zA1 (omv rfl) (zA1 (oas rfl) (zA1 (oas rfl) (zA1 (oas rfl) (zA0 (zZ (⟨[_,_,_],rst rfl (rst rfl (rst rfl rs0)),?_⟩))))))))
 rotate_left 1
 refine zH (yR 24 mixed rfl rfl (d1 (omv rfl) (d1 (oge rfl rfl) (d1 (omv rfl) (d1g rfl rfl (omv rfl) (d1g rfl rfl (oad rfl rfl (by omega)) (d1g rfl rfl (omv rfl) (d1g rfl rfl (oln rfl) (d1g rfl rfl (oge rfl rfl) ?_)))))))))
 refine d1 (opk rfl rfl rfl) (d1 (omv rfl) (d1g rfl rfl (omv rfl) (d1g rfl rfl (ogt rfl rfl) (d1 (opk rfl rfl rfl) (d1 (omv rfl) (d1g rfl rfl (old rfl rfl) (d1g rfl rfl (omv rfl) (d1g rfl rfl (omv rfl) (d1g rfl rfl (oad rfl rfl (by omega)) ?_)))))))))
 refine d1g rfl rfl (oix _ rfl rfl rfl (fun g=>rfl) (fun g=>?_)) ?_
 rotate_left 1
 refine d1g rfl rfl (old rfl rfl) (d1g rfl rfl (oca rfl rfl fun g=>fM (by omega) (by omega)) (d1g rfl rfl (oge rfl rfl) (d1 (opk rfl rfl rfl) (d1 (oas rfl) (d0 (zA0 ?_))))))
 refine t_if rfl (fun c2=>?_) (fun c2=>?_)
 refine xN (zJ rfl (zA1 (oad rfl rfl (by omega)) (zA1 (omv rfl) (zA0 ?_))))
 rotate_left 1
 refine yA (zJ rfl (zA1 (omv rfl) (zA1 (oas rfl) (zA0 (zJ rfl (zA1 (oad rfl rfl (by omega)) (zA1 (omv rfl) (zA0 ?_))))))))
 rotate_left 1
 refine xN (zH (zH (zJ rfl (zA1 (omv rfl) (zA1 (olt rfl rfl) (zA0 ?_))))))
 refine t_if rfl (fun c3=>?_) (fun c3=>?_)
 refine zH (zJ rfl (zA1 (oas rfl) (zA1 (oas rfl) (zA1 (oas rfl) (zA0 (zZ (⟨[_,_,_],rst rfl (rst rfl (rst rfl rs0)),?_⟩)))))))
 rotate_left 1
 refine yA (zH (zJ rfl (zA1 (omv rfl) (zA1 (oas rfl) (zA1 (oas rfl) (zA1 (oas rfl) (zA0 (zZ (⟨[_,_,_],rst rfl (rst rfl (rst rfl rs0)),?_⟩)))))))))
 rotate_left 1
 ·unfold fnd; rw [fs_wall (by have:=dt c0; omega) (gW.1 (dt c1)) hs]; exact tup3
 ·have:=g.2
  simp only [Bool.or_eq_false_iff,decide_eq_false_iff_not] at this
  change i + 1 < l.length
  omega
 ·have h0:=dt c0
  have h1:=c2.h
  simp only [Bool.or_eq_true,decide_eq_true_eq] at h1
  refine ⟨(i + 1,a),tes ?_ ?_ (List.Sublist.refl _),?_,(by omega)⟩
  refine tc rfl (ps_r _) (tc rfl (ps_r _) (tn))
  refine tc rfl (ps_r _) (tc rfl (ps_r _) (tc rfl (ps_r _) (tc rfl (ps_r _) (tn))))
  rotate_left 1
  refine ⟨by omega,zL5 hs fun e=>df c1 (gW.2 e),fs_next hF ?_⟩
  rcases h1 with ((h1 | h1) | h1) | h1
  ·exact .inl h1
  ·exact .inr fun c=>by have:=(cR.1 c).1; omega
  ·refine .inr fun c=>?_
   have:=(cR.1 c).2.1
   rw [← qK] at this
   change 0 < cmpR (l.getD i 0) x at h1
   omega
  ·refine .inr fun c=>?_
   have:=(cR.1 c).2.2
   rw [← qK] at this
   change 0≤cmpR x (l.getD (i + 1) 0) at h1
   omega
 ·have h0:=dt c0
  have h1:=c2.h
  simp only [Bool.or_eq_false_iff,decide_eq_false_iff_not] at h1
  obtain ⟨⟨⟨h1,h2⟩,h3⟩,h4⟩:=h1
  refine ⟨(i + 1,(i:Int)),tes ?_ ?_ (List.Sublist.refl _),?_,(by omega)⟩
  refine tc rfl (ps_r _) (tc rfl (ps_r _) (tn))
  refine tc rfl (ps_r _) (tc rfl (ps_r _) (tc rfl (ps_r _) (tc rfl (ps_r _) (tn))))
  rotate_left 1
  have hne:l.getD i 0 ≠ x:=fun e=>df c1 (gW.2 e)
  refine ⟨by omega,zL5 hs hne,fs_hit hF h1 (cR.2 ⟨by omega,?_,?_⟩)⟩
  ·rw [← qK]
   have:cmpR (l.getD i 0) x ≠ 0:=fun e=>hne (gW.1 e)
   change ¬ 0 < cmpR (l.getD i 0) x at h3
   omega
  ·rw [← qK]
   change ¬ 0≤cmpR x (l.getD (i + 1) 0) at h4
   omega
 ·have hi2:i=l.length:=by have:=df c0; omega
  subst hi2
  unfold fnd; rw [fs_none hF (dt c3) hs]; exact tup3
 ·have hi2:i=l.length:=by have:=df c0; omega
  subst hi2
  obtain ⟨k,rfl,e⟩:=fs_slab hF (df c3) hs
  unfold fnd; rw [e]; exact tup3
theorem wmids {l:List Rat} {n:Nat} (hn:n≤298) (hl:l.length≤1000000) (hp:∀ i,i + 1 < l.length→0 < l.getD (i + 1) 0):CTy prog 63 [sv (sl 3 (l.map (rtq n)))] (sv (sl 3 ((gT l).map (rtc (4 * n + 50))))):=by
 refine ctc func63 rfl rfl rfl rfl fun X=>(zH (zJ rfl (zA1 (oas rfl) (zA0 (zH (zH (zJ rfl (zA1 (omv rfl) (zA1 (oln rfl) ?_)))))))))
 refine zA1 (osb rfl rfl (by omega)) (zA1 (omx rfl rfl) (zA1 (omv rfl) (zA0 (zT ?_))))
 rotate_left 1
 refine t_ts (fQ 33 3) ?_
 refine xL (σ:=Nat × Value) (fun s=>[(2,True,exP s.2),(10,True,exP (.int .i64 ((s.1:Nat):Int)))]) (fun s=>[.row s.2 33 3 (((gT l).take s.1).map (rtc (4 * n + 50)))]) (fun s=>s.1≤l.length - 1) (fun s=>l.length - s.1) ((0,.slice none 0 0)) (tk 0 rfl (tk 9 rfl tn)) ?_ rfl ((by simp)) (fun s hJ Y _=>?_)
 refine tc rfl (ps_r _) (tc rfl (ps_r _) (tn))
 rotate_left 1
 refine zH (zJ rfl (zA1 (olt rfl rfl) (zA0 (zH ?_))))
 refine t_if rfl (fun c0=>?_) (fun c0=>?_)
 refine yA (zH (zT (zH (zJ rfl (zA1 (omv rfl) (zA1 (oas rfl) (zA0 (zH ?_))))))))
 apply uQ 1 16 14 [(13,4,0),(14,1000014,0)] rfl rfl mixed rfl rfl rfl
 refine cx1 (omv rfl) rfl (cx1 (omv rfl) rfl (cx1 (oix _ rfl rfl rfl (fun _=>rfl) (fun _=>(by (have e0:=dt c0; omega)))) rfl (cx1 (old rfl rfl) rfl (cx1 (omv rfl) rfl (cx1 (omv rfl) rfl (cx1 (oad rfl rfl (by omega)) rfl (cx1 (oix _ rfl rfl rfl (fun _=>rfl) (fun _=>(by (have e0:=dt c0; simp; omega)))) rfl (cx1 (old rfl rfl) rfl (cx1 (oca rfl rfl fun _=>zZ8 (K:=4 * n + 50) (by omega) (by omega) (by omega) (hp _ (by have:=dt c0; omega))) rfl ?_)))))))))
 refine cx1 (omv rfl) rfl (cx1 (oex rfl rfl) rfl (cx1 (oex rfl rfl) rfl (cN rfl rfl (cal) (cS rfl rfl rfl (cst rfl rfl rfl) (cx1 (oas rfl) rfl ?_)))))
 refine cE (fun b4=>?_)
 refine zA0 (zH (zH (zJ rfl (zA1 (omv rfl) (zA1 (ont rfl) (zA0 ?_))))))
 refine t_if rfl (fun c1=>?_) (fun c1=>?_)
 refine zJ rfl (zA1 (oca rfl rfl fun _=>tW (k:=0) (K:=4 * n + 50) (by omega) (by omega)) (tst 0 rfl rfl rfl rfl rfl rfl (zA0 (zJ rfl (zA1 (omv rfl) (zA1 (oldo 0 rfl rfl rfl rfl) (zA1 (obs rfl rfl rfl rfl rfl rfl) (tap 1 rfl rfl rfl (by (simp; omega)) rfl fun r32=>(zA1 (oas rfl) ?_)))))))))
 refine zA0 (zJ rfl (zA1 (oad rfl rfl (by omega)) (zA1 (omv rfl) (zA0 ?_))))
 rotate_left 1
 refine yA (zJ rfl (zA1 (omv rfl) (zA1 (oldo 0 rfl rfl rfl rfl) (zA1 (obs rfl rfl rfl rfl rfl rfl) (tap 1 rfl rfl rfl (by (simp; omega)) rfl fun r32=>(zA1 (oas rfl) (zA0 (zJ rfl (zA1 (oad rfl rfl (by omega)) ?_)))))))))
 refine zA1 (omv rfl) (zA0 ?_)
 rotate_left 1
 refine xN (zH (zJ rfl (zA1 (omv rfl) (zA1 (oas rfl) (zA0 (t_ts (cZ (s:=2) 0 rfl rfl) (zZ (⟨[_],rst rfl rs0,yN ?_⟩))))))))
 rotate_left 1
 ·have h0:=dt c0
  have h1:¬ l.getD s.1 0 < l.getD (s.1 + 1) 0:=of_decide_eq_false (by have:=c1.h; rw [Bool.not_eq_true'] at this; exact this)
  refine ⟨(s.1 + 1,r32),tes ?_ ?_ ?_,(by omega),(by omega)⟩
  refine tc rfl (ps_r _) (tc rfl (ps_r _) (tn))
  refine tc rfl (ps_r _) (tc rfl (ps_r _) (tn))
  rotate_left 1
  rw [(yZ (Df.d:Rat) (l:=gT l) (s:=s.1) (by rw [uI]; omega)).1]
  rw [show (gT l).getD s.1 Df.d=((0:Nat):Rat) by rw [show (gT l).getD s.1 Df.d=gQ (l.getD s.1 0) (l.getD (s.1 + 1) 0) from kV (by omega)]; unfold gQ; rw [if_neg h1]; rfl,List.map_append]
  exact List.sublist_cons_self _ _
 ·have h0:=dt c0
  refine ⟨(s.1 + 1,r32),tes ?_ ?_ ?_,(by omega),(by omega)⟩
  refine tc rfl (ps_r _) (tc rfl (ps_r _) (tn))
  refine tc rfl (ps_r _) (tc rfl (ps_r _) (tn))
  rotate_left 1
  rw [(yZ (Df.d:Rat) (l:=gT l) (s:=s.1) (by rw [uI]; omega)).1]
  rw [show (gT l).getD s.1 Df.d=gQ (l.getD s.1 0) (l.getD (s.1 + 1) 0) from kV (by omega),List.map_append]
  exact List.sublist_cons_self _ _
 ·have h0:=df c0
  rw [List.take_of_length_le (by rw [uI]; omega)]
  exact PSub.refl _
section
variable {Ψ Φ : PV} {n m : Nat} {x : Rat} {l : List Rat}
theorem kcrises [h:VQ Ψ n l] (hn:n≤90000) (hl:l.length≤1000000):CTy prog 65 [Ψ] (exP (.bool (decide (fR l)))):=gF (wV hn hl) (fs1 vq_q fs0)
theorem zU0 [h:VQ Ψ n l] [k:QR Φ m x] (hn:n≤90000) (hm:m≤90000) (hl:l.length≤1000000):CTy prog 59 [Ψ,Φ] (fnd l x):=gF (zP9 hn hm hl) (fs1 vq_q (fs1 qr_q fs0))
theorem kmids [h:VQ Ψ n l] (hn:n≤298) (hl:l.length≤1000000) (hp:∀ i,i + 1 < l.length→0 < l.getD (i + 1) 0):CTy prog 63 [Ψ] (sv (sl 3 ((gT l).map (rtc (4 * n + 50))))):=gF (wmids hn hl hp) (fs1 vq_q fs0)
end
abbrev ntl (l:List Nat):List Rat:=l.map fun k=>((k:Nat):Rat)
theorem k22of {l:List Nat} (hl:l.length≤1000000) (hb:∀ k ∈ l,k < 9223372036854775808):CTy prog 118 [sv (sl 1 (l.map fun k=>xc (.int .i64 ((k:Nat):Int))))] (sv (sl 3 ((ntl l).map (rtc 2)))):=by
 refine ctc func118 rfl rfl rfl rfl fun X=>(zH (zJ rfl (zA1 (oas rfl) (zA0 (zH (zJ rfl (zA1 (oas rfl) (zA0 (zH ?_)))))))))
 refine zH (zJ rfl (zA1 (oas rfl) (zA0 (zT ?_))))
 rotate_left 1
 refine t_ts (fQ 33 3) ?_
 refine xL (σ:=Nat × Value) (fun s=>[(3,True,exP s.2),(4,True,exP (.int .i64 ((s.1:Nat):Int)))]) (fun s=>[.row s.2 33 3 ((ntl (l.take s.1)).map (rtc 2))]) (fun s=>s.1≤l.length) (fun s=>l.length - s.1) ((0,.slice none 0 0)) (tk 0 rfl tn) ?_ rfl ((by simp)) (fun s hJ Y _=>?_)
 refine tc rfl (ps_r _) (tc rfl (ps_r _) (tn))
 rotate_left 1
 refine zH (zH (zJ rfl (zA1 (omv rfl) (zA1 (omv rfl) (zA1 (oln rfl) (zA1 (olt rfl rfl) (zA0 ?_)))))))
 refine t_if rfl (fun c0=>?_) (fun c0=>?_)
 refine yA (zH (zT (zJ rfl (zA1 (omv rfl) (zA1 (omv rfl) (zA1 (omv rfl) (zA1 (oix _ rfl rfl rfl (fun _=>rfl) (fun _=>(by (have e0:=dt c0; omega)))) (zA1 (old rfl rfl) ?_))))))))
 refine zA1 (oca rfl rfl fun _=>k7of (k:=l.getD s.1 Df.d) ?_) ?_
 rotate_left 1
 refine zA1 (obs rfl rfl rfl rfl rfl rfl) (tap 0 rfl rfl rfl (by (simp; omega)) rfl fun r18=>(zA1 (oas rfl) (zA0 (zJ rfl (zA1 (omv rfl) (zA1 (oad rfl rfl (by omega)) (zA1 (oas rfl) (zA0 ?_))))))))
 rotate_left 1
 refine xN (zH (zJ rfl (zA1 (omv rfl) (zA1 (oas rfl) (zA0 (t_ts (cZ (s:=2) 0 rfl rfl) (zZ (⟨[_],rst rfl rs0,yN ?_⟩))))))))
 rotate_left 1
 ·exact hb _ (by rw [List.getD_eq_getElem?_getD,List.getElem?_eq_getElem (show s.1 < l.length by have:=dt c0; omega)]; exact List.getElem_mem _)
 ·refine ⟨(s.1 + 1,r18),tes ?_ ?_ ?_,(by (have e0:=dt c0; omega)),(by (have e0:=dt c0; omega))⟩
  refine tc rfl (ps_r _) (tc rfl (ps_r _) (tn))
  refine tc rfl (ps_r _) (tn)
  rotate_left 1
  rw [(yZ (Df.d:Nat) (show s.1 < l.length by have:=dt c0; omega)).1,ntl,List.map_append,List.map_append]
  exact List.Sublist.refl _
 ·have h0:=df c0
  rw [List.take_of_length_le (by omega)]
  exact PSub.refl _
theorem tV:CTy prog 58 [] (exP (.bool true)):=by
 have e0:aH (ntl [0,1,3]) ((1:Nat):Rat)=(1,true,true):=by decide
 have e1:aH (ntl [0,1,3]) ((2:Nat):Rat)=(1,false,true):=by decide
 have e2:(gT (ntl [0,1,3])).length=2:=by decide
 have e3:cmpR ((gT (ntl [0,1,3])).getD 1 Df.d) ((2:Nat):Rat)=0:=by decide +kernel
 have e4:fR (ntl [0,1,3]):=by decide
 have e5:cmpR ((gT (ntl [0,1,3])).getD 0 Df.d + (gT (ntl [0,1,3])).getD 0 Df.d) ((1:Nat):Rat)=0:=by decide +kernel
 have e6:∀ i,i + 1 < (ntl [0,1,3]).length→0 < (ntl [0,1,3]).getD (i + 1) 0
  | 0,_=>by decide
  | 1,_=>by decide
  | i + 2,h=>by simp at h; omega
 refine ctc func58 rfl rfl rfl rfl fun X=>(zH (zJ rfl (zA1 (oas rfl) (zA0 (zH (zJ rfl (zA1 (obs rfl rfl rfl rfl rfl rfl) (zA1 (oca rfl rfl fun _=>k22of (l:=[0,1,3]) (by (simp; done)) (by (simp; done))) (zA1 (oas rfl) ?_)))))))))
 refine zA0 (zH (zJ rfl (zA1 (omv rfl) (zA1 (oca rfl rfl fun _=>k7of (by (simp; done))) (zA1 (oca rfl rfl fun _=>zU0 (by omega) (by omega) (by (simp; done))) (zA1 (omv rfl) (zA1 (oex rfl rfl) (zA1 (oex rfl rfl) (zA1 (oex rfl rfl) ?_)))))))))
 refine zA1 (oas rfl) (zA1 (oas rfl) (zA1 (oas rfl) (zA0 (zH (zJ rfl (zA1 (omv rfl) (zA1 (oca rfl rfl fun _=>k7of (by (simp; done))) (zA1 (oca rfl rfl fun _=>zU0 (by omega) (by omega) (by (simp; done))) (zA1 (omv rfl) ?_)))))))))
 refine zA1 (oex rfl rfl) (zA1 (oex rfl rfl) (zA1 (oex rfl rfl) (zA1 (oas rfl) (zA1 (oas rfl) (zA1 (oas rfl) (zA0 (zH (zJ rfl (zA1 (omv rfl) ?_)))))))))
 refine zA1 (oca rfl rfl fun _=>kmids (by omega) (by (simp; done)) e6) (zA1 (oas rfl) (zA0 (zH (yR 48 mixed rfl rfl (d1 (omv rfl) (d1 (oeq rfl rfl) (d1 (omv rfl) (d1g rfl rfl (omv rfl) (d1 (opk rfl rfl rfl) ?_)))))))))
 refine d1 (omv rfl) (d1g rfl rfl (omv rfl) (d1 (opk rfl rfl rfl) (d1 (omv rfl) (d1g rfl rfl (omv rfl) (d1g rfl rfl (oeq rfl rfl) (d1 (opk rfl rfl rfl) (d1 (omv rfl) (d1g rfl rfl (omv rfl) (d1g rfl rfl (ont rfl) ?_)))))))))
 refine d1 (opk rfl rfl rfl) (d1 (omv rfl) (d1g rfl rfl (omv rfl) (d1 (opk rfl rfl rfl) (d1 (omv rfl) (d1g rfl rfl (omv rfl) (d1g rfl rfl (oln rfl) (d1g rfl rfl (oeq rfl rfl) (d1 (opk rfl rfl rfl) (d1 (omv rfl) ?_)))))))))
 refine d1g rfl rfl (omv rfl) (d1g rfl rfl (oix _ rfl rfl rfl (fun g=>rfl) (fun g=>(by (simp only [pG]; omega)))) (d1g rfl rfl (old rfl rfl) (d1g rfl rfl (oca rfl rfl fun g=>k7of (by (simp; done))) (d1g rfl rfl (oca rfl rfl fun g=>zU2 (by omega) (by omega)) (d1 (opk rfl rfl rfl) (d1 (omv rfl) (d1g rfl rfl (omv rfl) (d1g rfl rfl (oca rfl rfl fun g=>kcrises (by omega) (by (simp; done))) (d1 (opk rfl rfl rfl) ?_)))))))))
 refine d1 (omv rfl) (d1g rfl rfl (omv rfl) (d1g rfl rfl (oix _ rfl rfl rfl (fun g=>rfl) (fun g=>(by (simp only [pG]; omega)))) (d1g rfl rfl (old rfl rfl) (d1g rfl rfl (omv rfl) (d1g rfl rfl (oix _ rfl rfl rfl (fun g=>rfl) (fun g=>(by (simp only [pG]; omega)))) (d1g rfl rfl (old rfl rfl) (d1g rfl rfl (obs rfl rfl rfl rfl rfl rfl) (d1g rfl rfl (oca rfl rfl fun g=>tY (by omega)) (d1g rfl rfl (oca rfl rfl fun g=>k7of (by (simp; done))) ?_)))))))))
 refine d1g rfl rfl (oca rfl rfl fun g=>zU2 (by omega) (by omega)) (d1 (opk rfl rfl rfl) (d1 (oas rfl) (d0 (zA0 (zZ (⟨[_],rst rfl rs0,yN ?_⟩))))))
 refine psb ?_
 rotate_left 1
 rw [e0,e1,e2,e3,e5,decide_eq_true e4]; rfl
end Go.Proofs.YtflobagimodmgaaGreatDoor
set_option maxHeartbeats 4000000
namespace Go.Proofs.YtflobagimodmgaaGreatDoor
open Go.SL Go.RowKit Go.Proofs Tryz
instance:Df (List P2):=⟨[]⟩
def gR (ls:List (List P2)) (i:Nat):List (List P2 × List P2):=(List.range i).flatMap fun k=>(ls.take k).map fun p=>(p,ls.getD k [])
def xQ (ls:List (List P2)):List (List P2 × List P2):=gR ls ls.length
theorem dF {ls:List (List P2)} {i:Nat}:gR ls (i + 1)=gR ls i ++ (ls.take i).map fun p=>(p,ls.getD i []):=by
 unfold gR; rw [List.range_succ,List.flatMap_append]; simp
theorem tF {ls:List (List P2)} {i:Nat}:∀ {k:Nat},∃ post,gR ls (i + k)=gR ls i ++ post
 | 0=>⟨[],by simp⟩
 | k + 1=>let ⟨p,h⟩:=@tF ls i k; ⟨p ++ (ls.take (i + k)).map fun p=>(p,ls.getD (i + k) []),by rw [← Nat.add_assoc,dF,h,List.append_assoc]⟩
theorem pairs_at {ls:List (List P2)} {i j:Nat} (hi:i < ls.length) (hj:j < i):∃ post,xQ ls=(gR ls i ++ ((ls.take i).take j).map fun p=>(p,ls.getD i [])) ++ (((ls.take i).getD j []),ls.getD i []) :: post:=by
 obtain ⟨p,h⟩:=@tF ls (i + 1) (ls.length - (i + 1))
 have e:i + 1 + (ls.length - (i + 1))=ls.length:=by omega
 rw [e] at h
 have hj2:j < (ls.take i).length:=by simp; omega
 refine ⟨((ls.take i).drop (j + 1)).map (fun p=>(p,ls.getD i [])) ++ p,?_⟩
 unfold xQ
 rw [h,dF]
 have h2:ls.take i=(ls.take i).take j ++ (ls.take i).getD j [] :: (ls.take i).drop (j + 1):=by
  rw [List.getD_eq_getElem?_getD,List.getElem?_eq_getElem hj2,Option.getD_some,List.getElem_cons_drop,List.take_append_drop]
 conv=>lhs; rw [h2]
 simp [List.map_append,List.append_assoc]
theorem pairs_in {ls:List (List P2)} {i j:Nat} (hj:j < (ls.take i).length):((ls.take i).take (j + 1)).map (fun p=>(p,ls.getD i []))=((ls.take i).take j).map (fun p=>(p,ls.getD i [])) ++ [((ls.take i).getD j [],ls.getD i [])]:=by
 rw [List.take_succ_eq_append_getElem hj]; simp [List.getElem?_eq_getElem hj]
theorem ipairs {ls:List (List P2)} {n:Nat} (hl:ls.length≤1000000):CIt prog 174 [pa (sl 1 (ls.map (pcs n)))] (xQ ls) (fun x=>[sv (pcs n x.1),sv (pcs n x.2)]):=by
 refine cit func174 rfl rfl rfl rfl rfl fun X y YS YX hY hS=>(zH (zJ rfl (zA1 (old rfl rfl) (zA1 (oln rfl) (zA1 (omv rfl) (zA0 (zT ?_)))))))
 rotate_left 1
 refine dX (σ:=Nat) (fun i=>[(9,True,exP (.int .i64 ((i:Nat):Int)))]) (fun i=>[]) (fun i Y=>YS (gR ls i) Y∧i≤ls.length) (fun i=>ls.length - i) (0) (tk 0 rfl (tk 1 rfl (tk 7 rfl (tk 8 rfl tn)))) ?_ rfl (⟨hS,by omega⟩) (fun i Y hG=>?_)
 refine tc rfl (ps_r _) (tn)
 rotate_left 1
 obtain ⟨hS,hi⟩:=hG
 refine zH (zJ rfl (zA1 (olt rfl rfl) (zA0 (zH ?_))))
 refine t_if rfl (fun c0=>?_) (fun c0=>?_)
 refine yA (zH (zT (zH (zJ rfl (zA1 (omv rfl) (zA1 (oix _ rfl rfl rfl (fun _=>rfl) (fun _=>(by (have e0:=dt c0; omega)))) (zA1 (old rfl rfl) (zA1 (oas rfl) (zA1 (oas rfl) ?_)))))))))
 refine zA0 (zH (zJ rfl (zA1 (old rfl rfl) (zA1 (omv rfl) (zA1 (osl 0 _ rfl rfl ⟨_,_,_,_,rfl,fun _=>trivial,inferInstance,fun _=>rfl⟩ (fun _=>(by omega)) (fun _=>(by (simp; omega)))) (zA1 (oln rfl) (zA1 (omv rfl) (zA0 (zT ?_)))))))))
 rotate_left 1
 refine xN ?_
 rotate_left 1
 ·have hi':=dt c0
  refine dX (σ:=Nat) (fun j=>[(18,True,exP (.int .i64 ((j:Nat):Int)))]) (fun j=>[]) (fun j Y=>YS (gR ls i ++ ((ls.take i).take j).map fun p=>(p,ls.getD i [])) Y∧j≤(ls.take i).length) (fun j=>(ls.take i).length - j) (0) (tk 0 rfl (tk 1 rfl (tk 4 rfl (tk 7 rfl (tk 8 rfl (tk 9 rfl (tk 16 rfl (tk 17 rfl tn)))))))) ?_ rfl (⟨by simpa using hS,by omega⟩) (fun j Y hG=>?_)
  refine tc rfl (ps_r _) (tn)
  rotate_left 1
  obtain ⟨hS,hj⟩:=hG
  refine zH (zJ rfl (zA1 (olt rfl rfl) (zA0 (zH ?_))))
  refine t_if rfl (fun c1=>?_) (fun c1=>?_)
  refine yA (zH (zT (zH (zJ rfl (zA1 (oix _ rfl rfl rfl (fun _=>rfl) (fun _=>(by (have e0:=dt c1; omega)))) (zA1 (old rfl rfl) (zA1 (oas rfl) (zA0 (zH ?_)))))))))
  refine zJ rfl (zA1 (omv rfl) (zA1 (omv rfl) (zA1 (omv rfl) ?_)))
  rotate_left 1
  refine xN (zJ rfl (zA1 (oad rfl rfl (by omega)) (zA1 (omv rfl) (zA0 ?_))))
  rotate_left 1
  ·obtain ⟨post,hx⟩:=pairs_at (ls:=ls) (i:=i) (j:=j) (by omega) (by have:=dt c1; simp at this; omega)
   refine mE hY hS hx rfl rfl (fun _ _ _ h=>h) (fun Y hS=>?_) (fun Y hX=>?_)
   ·have hj2:j < (ls.take i).length:=by have:=dt c1; simp at this ⊢; omega
    have hj3:(ls.take i).length≤ls.length:=by simp; omega
    refine zA1 (ont rfl) (zA0 (sV rfl rfl (yA (zJ rfl (zA1 (oad rfl rfl (by omega)) (zA1 (omv rfl) (zA0 ?_)))))))
    rotate_left 1
    refine ⟨j + 1,tes ?_ ?_ (List.Sublist.refl _),?_,(by omega)⟩
    refine tc rfl (ps_r _) (tn)
    refine tc rfl (ps_r _) (tc rfl (ps_r _) (tc rfl (ps_r _) (tc rfl (ps_r _) (tc rfl (ps_r _) (tc rfl (ps_r _) (tc rfl (ps_r _) (tc rfl (ps_r _) (tn))))))))
    rotate_left 1
    exact ⟨by rw [pairs_in hj2,← List.append_assoc]; exact hS,by omega⟩
   ·refine zA1 (ont rfl) (zA0 (zI3 rfl rfl (zZ ?_)))
    rotate_left 1
    exact .inr hX
  ·have hj2:j=(ls.take i).length:=by have:=df c1; simp at this hj ⊢; omega
   refine ⟨i + 1,tes ?_ ?_ (List.Sublist.refl _),?_,(by omega)⟩
   refine tc rfl (ps_r _) (tn)
   refine tc rfl (ps_r _) (tc rfl (ps_r _) (tc rfl (ps_r _) (tc rfl (ps_r _) (tn))))
   rotate_left 1
   exact ⟨by rw [dF]; rw [hj2,List.take_length] at hS; exact hS,by omega⟩
 ·have:i=ls.length:=by have:=df c0; omega
  subst this; exact .inl hS
theorem kpairs {ls:List (List P2)} {n:Nat}:CTy prog 122 [sv (sl 1 (ls.map (pcs n)))] (fn 174 [pa (sl 1 (ls.map (pcs n)))]):=by
 refine ctc func122 rfl rfl rfl rfl fun X=>(zH (zJ rfl (zA1 (obx rfl) (zA1 (oas rfl) (zA0 (zH (zJ rfl (zA1 (omf rfl) (zA1 (oas rfl) ?_)))))))))
 refine zA0 (zZ (⟨[_],rst rfl rs0,yN (PSub.refl _)⟩))
theorem kcsame {p q:Rat} {n m:Nat} (hn:n≤90000) (hm:m≤90000):CTy prog 126 [ag (rtq n p),ag (rtq m q)] (exP (.bool (decide (cmpR p q=0)))):=by
 refine ctc func126 rfl rfl rfl rfl fun X=>(zH (zJ rfl (zA1 (obx rfl) (zA1 (obx rfl) (zA1 (oas rfl) (zA0 (zH (zJ rfl (zA1 (old rfl rfl) ?_)))))))))
 refine zA1 (old rfl rfl) (zA1 (oca rfl rfl fun _=>fM (by omega) (by omega)) (zA1 (oeq rfl rfl) (zA1 (oas rfl) (zA0 (zZ (⟨[_],rst rfl rs0,yN (PSub.refl _)⟩))))))
theorem yA6 {ps:List P2} {n m:Nat} {xs:List Rat} {v:Value} {bx:Nat} (hn:n + 1≤m) (hm:m≤90000) (hl:xs.length + ps.length≤100000):CTo prog 121 [sv (pcs n ps),exP (.pointer (some ⟨bx,0,none⟩))] [.blk bx 66 [xc v],.row v 33 3 (xs.map (rtc m))] (fun ρ So=>ρ=tu []∧∃ v',So=[.blk bx 66 [xc v'],.row v' 33 3 ((xs ++ ps.map (·.1)).map (rtc m))]):=by
 refine ctd func121 rfl rfl rfl rfl (fun _ _ _ _ _ _ _ hs hp=>lD hs hp) fun X=>(zH (zJ rfl (zA1 (omv rfl) (zA1 (oln rfl) (zA1 (omv rfl) (zA0 (zT ?_)))))))
 rotate_left 1
 refine xL (σ:=Nat × Value) (fun s=>[(7,True,exP (.int .i64 ((s.1:Nat):Int)))]) (fun s=>[.blk bx 66 [xc s.2],.row s.2 33 3 ((xs ++ (ps.take s.1).map (·.1)).map (rtc m))]) (fun s=>s.1≤ps.length) (fun s=>ps.length - s.1) ((0,v)) (tk 1 rfl (tk 5 rfl (tk 6 rfl tn))) ?_ (by (simp; done)) ((by simp)) (fun s hJ Y _=>?_)
 refine tc rfl (ps_r _) (tn)
 rotate_left 1
 refine zH (zJ rfl (zA1 (olt rfl rfl) (zA0 (zH ?_))))
 refine t_if rfl (fun c0=>?_) (fun c0=>?_)
 refine yA (zH (zT (zH (zJ rfl (zA1 (oix _ rfl rfl rfl (fun _=>rfl) (fun _=>(by (have e0:=dt c0; omega)))) (zA1 (old rfl rfl) (tal fun b4=>(tst 0 rfl rfl rfl rfl rfl rfl (qE (gC (s:=4) 0 rfl rfl) ?_)))))))))
 refine zA0 (yR 5 mixed rfl rfl (d1 (oldo 0 rfl rfl rfl rfl) (d1 (ofa rfl rfl) (d1 (old rfl rfl) (d1 (oca rfl rfl fun _=>mM (m:=m) (by omega) (by omega)) (d1 (obs rfl rfl rfl rfl rfl rfl) (d0 (tap 1 rfl rfl rfl (by (simp; omega)) rfl fun r16=>(tsw 0 1 rfl rfl rfl rfl rfl rfl rfl ?_)))))))))
 refine zA0 (zJ rfl (zA1 (oad rfl rfl (by omega)) (zA1 (omv rfl) (zA0 ?_))))
 rotate_left 1
 refine xN ?_
 rotate_left 1
 ·refine ⟨(s.1 + 1,r16),tes ?_ ?_ ?_,(by (have e0:=dt c0; omega)),(by (have e0:=dt c0; omega))⟩
  refine tc rfl (ps_r _) (tn)
  refine tc rfl (ps_r _) (tc rfl (ps_r _) (tc rfl (ps_r _) (tn)))
  rotate_left 1
  simp only [(yZ (Df.d:P2) (show s.1 < ps.length by have:=dt c0; omega)).1,List.map_append,← List.append_assoc]
  exact List.Sublist.refl _
 ·have hs:s.1=ps.length:=by have:=df c0; omega
  refine ⟨[],tu [],_,rs0,List.Sublist.refl _,⟨rfl,s.2,?_⟩,zY5⟩
  rw [hs,List.take_length]
end Go.Proofs.YtflobagimodmgaaGreatDoor
