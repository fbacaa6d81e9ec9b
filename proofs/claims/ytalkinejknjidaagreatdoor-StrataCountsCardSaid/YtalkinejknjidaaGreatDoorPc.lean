/- Lemmas and walks of functions; no statement. -/
import Derived.Test.YtalkinejknjidaaGreatDoorPb
set_option linter.unusedVariables false
set_option linter.unusedSimpArgs false
set_option maxRecDepth 100000
set_option maxHeartbeats 4000000
namespace Go.SL
open Go.Sort Go.Shelf Go.Proofs
structure COrd {α:Type}(cf:α→α→Int):Prop where
 zero:∀ a b,cf a b=0↔a=b
 anti:∀ a b,0<cf a b↔cf b a<0
 trans:∀ a b c,cf a b<0→cf b c<0→cf a c<0
structure IsSet {α:Type}(cf:α→α→Int)(l m:List α):Prop where
 rise:m.Pairwise fun a b=>cf a b<0
 mem:∀ x,x∈m↔x∈l
section
variable {α : Type} {cf : α → α → Int}
theorem COrd.irr (h:COrd cf)(a:α):¬ cf a a<0:=by have:=(h.zero a a).2 rfl;omega
theorem COrd.swo (h:COrd cf):SWO (ltOf cf) :=
 ⟨fun x=>by simpa [ltOf] using Int.not_lt.1 (h.irr x),fun x y z a b=>by simp only[ltOf,decide_eq_true_eq] at *; exact h.trans _ _ _ a b,fun x y z a b=>by
  simp only[ltOf,decide_eq_false_iff_not] at *;intro c;have h1:=h.anti x y;have h2:=h.anti y z;have h3:=h.zero x y;have h4:=h.zero y z;rcases Int.lt_trichotomy (cf x y) 0 with d | d | d
  ·exact a d
  ·obtain rfl:=h3.1 d;exact b c
  ·exact b (h.trans _ _ _ (h1.1 d) c)⟩
theorem oN (h:COrd cf):∀ {l m:List α},l.Pairwise (fun a b=>cf a b<0)→m.Pairwise (fun a b=>cf a b<0)→(∀ x,x∈l↔x∈m)→l=m
 | [],[],_,_,_=>rfl
 | [],b::m,_,_,e=>absurd ((e b).2 (by simp)) (by simp)
 | a::l,[],_,_,e=>absurd ((e a).1 (by simp)) (by simp)
 | a::l,b::m,h1,h2,k=>by
  obtain⟨a1,a2⟩:=zav.1 h1;obtain⟨b1,b2⟩:=zav.1 h2;have e:a=b:=by
   rcases zad.1 ((k a).1 (by simp)) with c | c
   ·exact c
   rcases zad.1 ((k b).2 (by simp)) with d | d
   ·exact d.symm
   exact absurd (h.trans _ _ _ (a1 b d) (b1 a c)) (h.irr a)
  subst e;rw[oN h a2 b2 fun x=>⟨fun hx=>?_,fun hx=>?_⟩]
  ·rcases zad.1 ((k x).1 (zbE _ hx)) with c | c
   ·subst c;exact absurd (a1 x hx) (h.irr x)
   ·exact c
  ·rcases zad.1 ((k x).2 (zbE _ hx)) with c | c
   ·subst c;exact absurd (b1 x hx) (h.irr x)
   ·exact c
theorem IsSet.uniq (h:COrd cf){l l' m m':List α}(a:IsSet cf l m)(b:IsSet cf l' m')(e:∀ x,x∈l↔x∈l'):m=m':=oN h a.rise b.rise fun x=>by rw[a.mem,b.mem,e]
theorem pL (h:COrd cf){d:α}{l:List α}(hs:∀ i j,i<j→j<l.length→¬ cf (l.getD j d) (l.getD i d)<0):∀ k,k≤l.length →
  (jE (fun a b=>decide (cf a b=0)) d l k).Pairwise (fun a b=>cf a b<0)∧∀ x,x∈jE (fun a b=>decide (cf a b=0)) d l k↔x∈l.take k
 | 0,_=>by simp[jE]
 | k+1,hk=>by
  obtain⟨h1,h2⟩:=pL h hs k (by omega);rw[(zT d (show k<l.length by omega)).1];unfold jE;split
  ·rename_i c;rw[zas];refine⟨h1,fun x=>?_⟩;rw[h2,zae];refine⟨.inl,fun e=>e.elim id fun e=>?_⟩;rw[zak.1 e,(h.zero _ _).1 (of_decide_eq_true c.2)];have:=(zT d (show k-1<l.length by omega)).1;rw[show k-1+1=k by omega] at this;rw[this];simp
  ·rename_i c;refine⟨zck.2 ⟨h1,List.pairwise_singleton _ _,fun a ha b hb=>?_⟩,fun x=>by rw[zae,zae,h2]⟩;rw[zak.1 hb];obtain⟨i,hi,rfl⟩:=zbg.1 ((h2 a).1 ha);rw[zaE] at hi;rw[List.getElem_take];have e:l[i]'(by omega)=l.getD i d:=by rw[zah,zag];rfl
   rw[e];have h0:¬ cf (l.getD k d) (l.getD (k-1) d)=0:=fun e=>c ⟨by omega,decide_eq_true e⟩;have h3:=hs (k-1) k (by omega) (by omega);have h4:cf (l.getD (k-1) d) (l.getD k d)<0:=by rw[← h.anti];omega
   rcases zaf i (k-1) with e1 | e1
   ·have h5:=hs i (k-1) e1 (by omega);rcases Int.lt_trichotomy (cf (l.getD (k-1) d) (l.getD i d)) 0 with e2 | e2 | e2
    ·exact absurd e2 h5
    ·rw[← (h.zero _ _).1 e2];exact h4
    ·exact h.trans _ _ _ ((h.anti _ _).1 e2) h4
   ·rw[show i=k-1 by omega];exact h4
theorem bR [Inhabited α](h:COrd cf){d:α}{raw l:List α}(hp:l.Perm raw)(hs:∀ i j,i<j→j<l.length→¬ cf l[j]! l[i]! < 0):IsSet cf raw (jE (fun a b=>decide (cf a b=0)) d l l.length):=by
 have hs':∀ i j,i<j→j<l.length→¬ cf (l.getD j d) (l.getD i d)<0:=fun i j h1 h2=>by
  have:=hs i j h1 h2;rw[getElem!_pos l j h2,getElem!_pos l i (by omega)] at this;simpa [List.getD_eq_getElem?_getD,List.getElem?_eq_getElem h2,List.getElem?_eq_getElem (show i<l.length by omega)] using this
 obtain⟨h1,h2⟩:=pL h hs' l.length (zab _);exact⟨h1,fun x=>by rw[h2,zaF];exact hp.mem_iff⟩
noncomputable def setOf (cf:α→α→Int)(l:List α):List α:=Classical.epsilon fun m=>IsSet cf l m
theorem IsSet.eq (h:COrd cf){l m:List α}(k:IsSet cf l m):m=setOf cf l:=k.uniq h (zcT (p:=fun m=>IsSet cf l m) ⟨m,k⟩) fun _ => .rfl
theorem bE {α:Type}:∀ {m l:List α},m.Nodup→(∀ x∈m,x∈l)→m.length≤l.length
 | [],_,_,_=>zaD _
 | a::m,l,h,k=>by
  obtain⟨h1,h2⟩:=List.nodup_cons.1 h;obtain⟨s,t,rfl⟩:=List.append_of_mem (k a (by simp));have:=bE (l:=s++t) h2 fun x hx=>by
   have:=k x (zbE _ hx);simp only[zae,zad] at this ⊢;rcases this with c | c | c
   ·exact .inl c
   ·subst c;exact absurd hx h1
   ·exact .inr c
  simp only[zal,zaw] at this ⊢; omega
theorem IsSet.len (h:COrd cf){l m:List α}(k:IsSet cf l m):m.length≤l.length:=by
 have nd:m.Nodup:=k.rise.imp fun {a b} hab e=>by subst e;exact h.irr a hab
 exact bE nd fun x hx=>(k.mem x).1 hx
theorem yE2 (h:COrd cf):∀ l:List α,∃ m,IsSet cf l m
 | []=>⟨[],.nil,by simp⟩
 | a::l=>by
  obtain⟨m,h1,h2⟩:=yE2 h l;refine⟨m.filter (fun x=>decide (cf x a<0))++a::m.filter (fun x=>decide (cf a x<0)),?_,fun x=>?_⟩
  ·refine List.pairwise_append.2 ⟨h1.filter _,List.pairwise_cons.2 ⟨fun b hb=>by simpa using (List.mem_filter.1 hb).2,h1.filter _⟩,fun x hx y hy=>?_⟩;have hx:cf x a<0:=by simpa using (List.mem_filter.1 hx).2
   rcases zad.1 hy with rfl | hy
   ·exact hx
   ·exact h.trans _ _ _ hx (by simpa using (List.mem_filter.1 hy).2)
  ·simp only[zae,zcs,zad,decide_eq_true_eq];constructor
   ·rintro(⟨c,_⟩ | c | ⟨c,_⟩)
    ·exact .inr ((h2 x).1 c)
    ·exact .inl c
    ·exact .inr ((h2 x).1 c)
   ·rintro(c | c)
    ·exact .inr (.inl c)
    ·have c:=(h2 x).2 c;rcases Int.lt_trichotomy (cf x a) 0 with e | e | e
     ·exact .inl ⟨c,e⟩
     ·exact .inr (.inl ((h.zero _ _).1 e))
     ·exact .inr (.inr ⟨c,(h.anti _ _).1 e⟩)
theorem gE (h:COrd cf)(l:List α):IsSet cf l (setOf cf l):=zcT (yE2 h l)
theorem yM (h:COrd cf){l:List α}{x:α}:x∈setOf cf l↔x∈l:=(gE h l).mem x
theorem kL (h:COrd cf)(l:List α):(setOf cf l).length≤l.length:=(gE h l).len h
end
end Go.SL
namespace Go.SL
open Go.Proofs Go.Proofs.YtalkinejknjidaaGreatDoor
instance tz3:TZ Tryz.prog 3 (.int .i64 0):=⟨⟨_,_,sz3⟩,rfl⟩
instance tld3:TLd Tryz.prog 3 false 1:=⟨⟨_,_,sz3⟩,yK4,rfl⟩
instance tld4:TLd Tryz.prog 4 false 1:=⟨⟨_,_,sz4⟩,yS0,rfl⟩
instance tbo4:TBo Tryz.prog 4:=⟨Tryz.underlying4⟩
instance tz22:TZ Tryz.prog 22 (.slice none 0 0):=⟨⟨_,_,sz22⟩,rfl⟩
instance tld22:TLd Tryz.prog 22 false 1:=⟨⟨_,_,sz22⟩,flat22,rfl⟩
instance tsl22:TSl Tryz.prog 22 39 6 112:=⟨Tryz.underlying22,rfl,_,sz39,rfl⟩
instance tsl23:TSl Tryz.prog 23 100 18 336:=⟨Tryz.underlying23,rfl,_,yD8,rfl⟩
instance tz25:TZ Tryz.prog 25 (.slice none 0 0):=⟨⟨_,_,sz25⟩,rfl⟩
instance tld25:TLd Tryz.prog 25 false 1:=⟨⟨_,_,sz25⟩,pR,rfl⟩
instance tsl25:TSl Tryz.prog 25 155 1 4:=⟨Tryz.underlying25,rfl,_,yD6,rfl⟩
instance tz27:TZ Tryz.prog 27 (.agg #[(.bool false),(.slice none 0 0)]):=⟨⟨_,_,sz27⟩,rfl⟩
instance tld27:TLd Tryz.prog 27 true 2:=⟨⟨_,_,sz27⟩,zP9⟩
instance tfd27_0:TFd Tryz.prog 27 0 false 0 1:=⟨_,_,_,_,Tryz.underlying27,rfl,rfl,sz4,rfl,yS0,rfl⟩
instance tfd27_1:TFd Tryz.prog 27 1 false 1 1:=⟨_,_,_,_,Tryz.underlying27,rfl,rfl,sz25,rfl,pR,rfl⟩
instance tpl27:TPl Tryz.prog 27 [1,1]:=⟨plc27⟩
instance tz29:TZ Tryz.prog 29 (.agg #[(.bool false),(.slice none 0 0),(.slice none 0 0)]):=⟨⟨_,_,sz29⟩,rfl⟩
instance tld29:TLd Tryz.prog 29 true 3:=⟨⟨_,_,sz29⟩,iA⟩
instance tfd29_0:TFd Tryz.prog 29 0 true 0 2:=⟨_,_,_,_,Tryz.underlying29,rfl,rfl,sz27,rfl,zP9⟩
instance tfd29_1:TFd Tryz.prog 29 1 false 2 1:=⟨_,_,_,_,Tryz.underlying29,rfl,rfl,sz25,rfl,pR,rfl⟩
instance tpl29:TPl Tryz.prog 29 [2,1]:=⟨plc29⟩
instance tld30:TLd Tryz.prog 30 false 1:=⟨⟨_,_,sz30⟩,flat30,rfl⟩
instance tsl30:TSl Tryz.prog 30 22 1 24:=⟨Tryz.underlying30,rfl,_,sz22,rfl⟩
instance tz39:TZ Tryz.prog 39 (.agg #[(.bool false),(.slice none 0 0),(.slice none 0 0),(.bool false),(.slice none 0 0),(.slice none 0 0)]):=⟨⟨_,_,sz39⟩,rfl⟩
instance tld39:TLd Tryz.prog 39 true 6:=⟨⟨_,_,sz39⟩,kX⟩
instance tfd39_0:TFd Tryz.prog 39 0 true 0 3:=⟨_,_,_,_,Tryz.underlying39,rfl,rfl,sz29,rfl,iA⟩
instance tfd39_1:TFd Tryz.prog 39 1 true 3 3:=⟨_,_,_,_,Tryz.underlying39,rfl,rfl,sz29,rfl,iA⟩
instance tpl39:TPl Tryz.prog 39 [3,3]:=⟨plc39⟩
instance tz41:TZ Tryz.prog 41 (.agg #[(.bool false),(.slice none 0 0),(.slice none 0 0),(.bool false),(.slice none 0 0),(.slice none 0 0),(.bool false),(.slice none 0 0),(.slice none 0 0),(.bool false),(.slice none 0 0),(.slice none 0 0)]):=⟨⟨_,_,sz41⟩,rfl⟩
instance tld41:TLd Tryz.prog 41 true 12:=⟨⟨_,_,sz41⟩,yJ9⟩
instance tfd41_0:TFd Tryz.prog 41 0 true 0 6:=⟨_,_,_,_,Tryz.underlying41,rfl,rfl,sz39,rfl,kX⟩
instance tfd41_1:TFd Tryz.prog 41 1 true 6 6:=⟨_,_,_,_,Tryz.underlying41,rfl,rfl,sz39,rfl,kX⟩
instance tpl41:TPl Tryz.prog 41 [6,6]:=⟨plc41⟩
instance tz43:TZ Tryz.prog 43 (.slice none 0 0):=⟨⟨_,_,sz43⟩,rfl⟩
instance tld43:TLd Tryz.prog 43 false 1:=⟨⟨_,_,sz43⟩,yK3,rfl⟩
instance tsl43:TSl Tryz.prog 43 29 3 56:=⟨Tryz.underlying43,rfl,_,sz29,rfl⟩
instance tld45:TLd Tryz.prog 45 false 1:=⟨⟨_,_,sz45⟩,flat45,rfl⟩
instance tsl45:TSl Tryz.prog 45 109 12 224:=⟨Tryz.underlying45,rfl,_,yD7,rfl⟩
instance tld47:TLd Tryz.prog 47 false 1:=⟨⟨_,_,sz47⟩,yK2,rfl⟩
instance tsl47:TSl Tryz.prog 47 49 1 24:=⟨Tryz.underlying47,rfl,_,sz49,rfl⟩
instance tld49:TLd Tryz.prog 49 false 1:=⟨⟨_,_,sz49⟩,flat49,rfl⟩
instance tsl49:TSl Tryz.prog 49 55 6 112:=⟨Tryz.underlying49,rfl,_,sz55,rfl⟩
instance tz55:TZ Tryz.prog 55 (.agg #[(.bool false),(.slice none 0 0),(.slice none 0 0),(.bool false),(.slice none 0 0),(.slice none 0 0)]):=⟨⟨_,_,sz55⟩,rfl⟩
instance tld55:TLd Tryz.prog 55 true 6:=⟨⟨_,_,sz55⟩,yJ8⟩
instance tfd55_0:TFd Tryz.prog 55 0 true 0 3:=⟨_,_,_,_,Tryz.underlying55,rfl,rfl,sz29,rfl,iA⟩
instance tfd55_1:TFd Tryz.prog 55 1 true 3 3:=⟨_,_,_,_,Tryz.underlying55,rfl,rfl,sz29,rfl,iA⟩
instance tpl55:TPl Tryz.prog 55 [3,3]:=⟨plc55⟩
instance tld56:TLd Tryz.prog 56 false 1:=⟨⟨_,_,sz56⟩,flat56,rfl⟩
instance tld57:TLd Tryz.prog 57 false 1:=⟨⟨_,_,sz57⟩,flat57,rfl⟩
instance tld62:TLd Tryz.prog 62 false 1:=⟨⟨_,_,sz62⟩,yK1,rfl⟩
instance tsl62:TSl Tryz.prog 62 43 1 24:=⟨Tryz.underlying62,rfl,_,sz43,rfl⟩
instance tld63:TLd Tryz.prog 63 false 1:=⟨⟨_,_,sz63⟩,yK0,rfl⟩
instance tsl63:TSl Tryz.prog 63 85 9 136:=⟨Tryz.underlying63,rfl,_,sz85,rfl⟩
instance tz65:TZ Tryz.prog 65 (.agg #[(.bool false),(.slice none 0 0),(.slice none 0 0),(.bool false),(.slice none 0 0),(.slice none 0 0),(.bool false),(.slice none 0 0),(.slice none 0 0),(.bool false),(.slice none 0 0),(.slice none 0 0),(.slice none 0 0),(.slice none 0 0),(.slice none 0 0),(.slice none 0 0)]):=⟨⟨_,_,sz65⟩,rfl⟩
instance tld65:TLd Tryz.prog 65 true 16:=⟨⟨_,_,sz65⟩,fold65⟩
instance tfd65_0:TFd Tryz.prog 65 0 true 0 12:=⟨_,_,_,_,Tryz.underlying65,rfl,rfl,sz41,rfl,yJ9⟩
instance tfd65_1:TFd Tryz.prog 65 1 false 12 1:=⟨_,_,_,_,Tryz.underlying65,rfl,rfl,sz43,rfl,yK3,rfl⟩
instance tfd65_2:TFd Tryz.prog 65 2 false 13 1:=⟨_,_,_,_,Tryz.underlying65,rfl,rfl,sz47,rfl,yK2,rfl⟩
instance tfd65_3:TFd Tryz.prog 65 3 false 14 1:=⟨_,_,_,_,Tryz.underlying65,rfl,rfl,sz62,rfl,yK1,rfl⟩
instance tfd65_4:TFd Tryz.prog 65 4 false 15 1:=⟨_,_,_,_,Tryz.underlying65,rfl,rfl,sz63,rfl,yK0,rfl⟩
instance tld83:TLd Tryz.prog 83 false 1:=⟨⟨_,_,sz83⟩,zQ0,rfl⟩
instance tz85:TZ Tryz.prog 85 (.agg #[(.int .i8 0),(.int .i64 0),(.int .i64 0),(.bool false),(.slice none 0 0),(.slice none 0 0),(.bool false),(.slice none 0 0),(.slice none 0 0)]):=⟨⟨_,_,sz85⟩,rfl⟩
instance tld85:TLd Tryz.prog 85 true 9:=⟨⟨_,_,sz85⟩,fold85⟩
instance tfd85_0:TFd Tryz.prog 85 0 false 0 1:=⟨_,_,_,_,Tryz.underlying85,rfl,rfl,sz83,rfl,zQ0,rfl⟩
instance tfd85_1:TFd Tryz.prog 85 1 false 1 1:=⟨_,_,_,_,Tryz.underlying85,rfl,rfl,sz3,rfl,yK4,rfl⟩
instance tfd85_2:TFd Tryz.prog 85 2 false 2 1:=⟨_,_,_,_,Tryz.underlying85,rfl,rfl,sz3,rfl,yK4,rfl⟩
instance tfd85_3:TFd Tryz.prog 85 3 true 3 6:=⟨_,_,_,_,Tryz.underlying85,rfl,rfl,sz39,rfl,kX⟩
instance tpl85:TPl Tryz.prog 85 [1,1,1,6]:=⟨plc85⟩
instance tld100:TLd Tryz.prog 100 true 18:=⟨⟨_,_,yD8⟩,fold100⟩
instance tz109:TZ Tryz.prog 109 (.agg #[(.bool false),(.slice none 0 0),(.slice none 0 0),(.bool false),(.slice none 0 0),(.slice none 0 0),(.bool false),(.slice none 0 0),(.slice none 0 0),(.bool false),(.slice none 0 0),(.slice none 0 0)]):=⟨⟨_,_,yD7⟩,rfl⟩
instance tld109:TLd Tryz.prog 109 true 12:=⟨⟨_,_,yD7⟩,fold109⟩
instance tfd109_0:TFd Tryz.prog 109 0 true 0 6:=⟨_,_,_,_,Tryz.underlying109,rfl,rfl,sz39,rfl,kX⟩
instance tfd109_1:TFd Tryz.prog 109 1 true 6 6:=⟨_,_,_,_,Tryz.underlying109,rfl,rfl,sz39,rfl,kX⟩
instance tpl109:TPl Tryz.prog 109 [6,6]:=⟨plc109⟩
instance tz131:TZ Tryz.prog 131 .nilFunc:=⟨⟨_,_,yN3⟩,rfl⟩
instance tld131:TLd Tryz.prog 131 false 1:=⟨⟨_,_,yN3⟩,flat131,rfl⟩
instance tld155:TLd Tryz.prog 155 false 1:=⟨⟨_,_,yD6⟩,flat155,rfl⟩
instance tld176:TLd Tryz.prog 176 false 1:=⟨⟨_,_,sz176⟩,flat176,rfl⟩
instance tsl176:TSl Tryz.prog 176 27 2 32:=⟨Tryz.underlying176,rfl,_,sz27,rfl⟩
instance tz178:TZ Tryz.prog 178 (.agg #[(.int .i8 0),(.bool false),(.slice none 0 0),(.slice none 0 0),(.bool false),(.slice none 0 0),(.slice none 0 0),(.bool false),(.slice none 0 0),(.slice none 0 0),(.bool false),(.slice none 0 0),(.slice none 0 0)]):=⟨⟨_,_,yN2⟩,rfl⟩
instance tld178:TLd Tryz.prog 178 true 13:=⟨⟨_,_,yN2⟩,fold178⟩
instance tfd178_0:TFd Tryz.prog 178 0 false 0 1:=⟨_,_,_,_,Tryz.underlying178,rfl,rfl,sz83,rfl,zQ0,rfl⟩
instance tfd178_1:TFd Tryz.prog 178 1 true 1 6:=⟨_,_,_,_,Tryz.underlying178,rfl,rfl,sz39,rfl,kX⟩
instance tfd178_2:TFd Tryz.prog 178 2 true 7 6:=⟨_,_,_,_,Tryz.underlying178,rfl,rfl,sz39,rfl,kX⟩
instance tpl178:TPl Tryz.prog 178 [1,6,6]:=⟨plc178⟩
instance tz185:TZ Tryz.prog 185 (.pointer none):=⟨⟨_,_,yN1⟩,rfl⟩
instance tld185:TLd Tryz.prog 185 false 1:=⟨⟨_,_,yN1⟩,flat185,rfl⟩
instance tfd189_0:TFd Tryz.prog 189 0 true 0 3:=⟨_,_,_,_,Tryz.underlying189,rfl,rfl,sz29,rfl,iA⟩
instance tpl189:TPl Tryz.prog 189 [3]:=⟨plc189⟩
instance tz196:TZ Tryz.prog 196 (.int .u64 0):=⟨⟨_,_,yN0⟩,rfl⟩
instance tld196:TLd Tryz.prog 196 false 1:=⟨⟨_,_,yN0⟩,flat196,rfl⟩
instance tz219:TZ Tryz.prog 219 .nilFunc:=⟨⟨_,_,yM9⟩,rfl⟩
instance tld219:TLd Tryz.prog 219 false 1:=⟨⟨_,_,yM9⟩,flat219,rfl⟩
instance tz233:TZ Tryz.prog 233 (.pointer none):=⟨⟨_,_,yM8⟩,rfl⟩
instance tld233:TLd Tryz.prog 233 false 1:=⟨⟨_,_,yM8⟩,flat233,rfl⟩
instance tfd240_0:TFd Tryz.prog 240 0 true 0 2:=⟨_,_,_,_,Tryz.underlying240,rfl,rfl,sz27,rfl,zP9⟩
instance tpl240:TPl Tryz.prog 240 [2]:=⟨plc240⟩
instance tz277:TZ Tryz.prog 277 (.agg #[(.bool false),(.slice none 0 0),(.slice none 0 0),(.bool false),(.slice none 0 0),(.slice none 0 0),(.bool false),(.slice none 0 0),(.slice none 0 0),(.bool false),(.slice none 0 0),(.slice none 0 0)]):=⟨⟨_,_,yM7⟩,rfl⟩
instance tld277:TLd Tryz.prog 277 true 12:=⟨⟨_,_,yM7⟩,fold277⟩
instance tfd277_0:TFd Tryz.prog 277 0 true 0 6:=⟨_,_,_,_,Tryz.underlying277,rfl,rfl,sz39,rfl,kX⟩
instance tfd277_1:TFd Tryz.prog 277 1 true 6 6:=⟨_,_,_,_,Tryz.underlying277,rfl,rfl,sz39,rfl,kX⟩
instance tpl277:TPl Tryz.prog 277 [6,6]:=⟨plc277⟩
instance tsl298:TSl Tryz.prog 298 25 1 24:=⟨Tryz.underlying298,rfl,_,sz25,rfl⟩
instance tld303:TLd Tryz.prog 303 false 1:=⟨⟨_,_,zT3⟩,nL,rfl⟩
instance tz304:TZ Tryz.prog 304 (.agg #[(.pointer none),(.pointer none),(.pointer none)]):=⟨⟨_,_,yD5⟩,rfl⟩
instance tld304:TLd Tryz.prog 304 true 3:=⟨⟨_,_,yD5⟩,fold304⟩
instance tfd304_0:TFd Tryz.prog 304 0 false 0 1:=⟨_,_,_,_,Tryz.underlying304,rfl,rfl,zT3,rfl,nL,rfl⟩
instance tfd304_1:TFd Tryz.prog 304 1 false 1 1:=⟨_,_,_,_,Tryz.underlying304,rfl,rfl,zT3,rfl,nL,rfl⟩
instance tfd304_2:TFd Tryz.prog 304 2 false 2 1:=⟨_,_,_,_,Tryz.underlying304,rfl,rfl,zT3,rfl,nL,rfl⟩
instance tpl304:TPl Tryz.prog 304 [1,1,1]:=⟨plc304⟩
instance tz320:TZ Tryz.prog 320 (.agg #[(.int .i64 0),(.int .i64 0),(.int .i64 0)]):=⟨⟨_,_,yD4⟩,rfl⟩
instance tld320:TLd Tryz.prog 320 true 3:=⟨⟨_,_,yD4⟩,fold320⟩
instance tld353:TLd Tryz.prog 353 false 1:=⟨⟨_,_,sz353⟩,flat353,rfl⟩
instance tfd355_0:TFd Tryz.prog 355 0 false 0 1:=⟨_,_,_,_,Tryz.underlying355,rfl,rfl,sz25,rfl,pR,rfl⟩
instance tfd355_1:TFd Tryz.prog 355 1 false 1 1:=⟨_,_,_,_,Tryz.underlying355,rfl,rfl,sz25,rfl,pR,rfl⟩
instance tpl355:TPl Tryz.prog 355 [1,1]:=⟨plc355⟩
end Go.SL
namespace Go.SL
open Go.RowKit
class VU (Ψ:PV)(k:outParam IntKind)(a:outParam Nat):Prop where h:∀ {M w v},Ψ.p M w v→v = .int k (a:Int)
instance {k:IntKind}{a:Nat}:VU (exP (.int k (a:Int))) k a:=⟨id⟩
instance {k:IntKind}:VU (exP (.int k 0)) k 0:=⟨id⟩
instance {k:IntKind}:VU (exP (.int k 1)) k 1:=⟨id⟩
instance {k:IntKind}:VU (exP (.int k 2)) k 2:=⟨id⟩
instance {k:IntKind}:VU (exP (.int k 3)) k 3:=⟨id⟩
instance {k:IntKind}:VU (exP (.int k 4)) k 4:=⟨id⟩
instance {k:IntKind}:VU (exP (.int k 5)) k 5:=⟨id⟩
instance {k:IntKind}:VU (exP (.int k 6)) k 6:=⟨id⟩
instance {k:IntKind}:VU (exP (.int k 7)) k 7:=⟨id⟩
instance {k:IntKind}:VU (exP (.int k 8)) k 8:=⟨id⟩
instance {k:IntKind}:VU (exP (.int k 10)) k 10:=⟨id⟩
instance {k:IntKind}:VU (exP (.int k 15)) k 15:=⟨id⟩
instance {k:IntKind}:VU (exP (.int k 16)) k 16:=⟨id⟩
instance {k:IntKind}:VU (exP (.int k 31)) k 31:=⟨id⟩
instance {k:IntKind}:VU (exP (.int k 32)) k 32:=⟨id⟩
instance {k:IntKind}:VU (exP (.int k 33)) k 33:=⟨id⟩
instance {k:IntKind}:VU (exP (.int k 58)) k 58:=⟨id⟩
instance {k:IntKind}:VU (exP (.int k 63)) k 63:=⟨id⟩
instance {k:IntKind}:VU (exP (.int k 64)) k 64:=⟨id⟩
instance {k:IntKind}:VU (exP (.int k 127)) k 127:=⟨id⟩
instance {k:IntKind}:VU (exP (.int k 255)) k 255:=⟨id⟩
instance {k:IntKind}:VU (exP (.int k 4294967295)) k 4294967295:=⟨id⟩
class UK (k:IntKind):Prop where h:k = .u64∨k = .u32
instance:UK .u64:=⟨.inl rfl⟩
instance:UK .u32:=⟨.inr rfl⟩
section
variable {P : Program} {r : Option Nat} {N : Nat} {ops : Array Oper} {M : Nat → Prop} {S : List Ow} {p qx qy : Prop} {Γ : TE} {Ψx Ψy : PV} {d : Nat} {x y : Operand} {tx ty t' : TypeId} {pos : String} {af : Array Edge} {k k' : IntKind} {a b : Nat}
theorem oadv (hx:tv Γ x=some (qx,Ψx))(hy:tv Γ y=some (qy,Ψy))[Im p qx][Im p qy][ha:VU Ψx .u64 a][hb:VU Ψy .u64 b](hs:a+b<18446744073709551616):Ob P r N ops M S p ⟨some d,.binOp .add tx x y ty,t',pos,af,none⟩ Γ (exP (.int .u64 ((a+b:Nat):Int))) :=
 ob2 hx hy (by simp[Op.operands]) (by simp[Op.operands]) fun D E w u v hN _ e1 e2 h1 h2=>by rw[ha.h h1] at e1;rw[hb.h h2] at e2;exact ops_addv hN e1 e2 hs (fin rfl)
theorem osbw (hx:tv Γ x=some (qx,Ψx))(hy:tv Γ y=some (qy,Ψy))[Im p qx][Im p qy][ha:VU Ψx .u64 a][hb:VU Ψy .u64 b](hs:b≤18446744073709551616):Ob P r N ops M S p ⟨some d,.binOp .sub tx x y ty,t',pos,af,none⟩ Γ (exP (.int .u64 (((a+(18446744073709551616-b))%18446744073709551616:Nat):Int))) :=
 ob2 hx hy (by simp[Op.operands]) (by simp[Op.operands]) fun D E w u v hN _ e1 e2 h1 h2=>by rw[ha.h h1] at e1;rw[hb.h h2] at e2;exact ops_subu hN e1 e2 hs (fin rfl)
theorem osbv (hx:tv Γ x=some (qx,Ψx))(hy:tv Γ y=some (qy,Ψy))[Im p qx][Im p qy][ha:VU Ψx .u64 a][hb:VU Ψy .u64 b](hs:b≤a∧a<18446744073709551616):Ob P r N ops M S p ⟨some d,.binOp .sub tx x y ty,t',pos,af,none⟩ Γ (exP (.int .u64 ((a-b:Nat):Int))) :=
 ob2 hx hy (by simp[Op.operands]) (by simp[Op.operands]) fun D E w u v hN _ e1 e2 h1 h2=>by rw[ha.h h1] at e1;rw[hb.h h2] at e2;exact ops_subv hN e1 e2 hs.1 hs.2 (fin rfl)
theorem omlv (hx:tv Γ x=some (qx,Ψx))(hy:tv Γ y=some (qy,Ψy))[Im p qx][Im p qy][ha:VU Ψx .u64 a][hb:VU Ψy .u64 b](hs:a*b<18446744073709551616):Ob P r N ops M S p ⟨some d,.binOp .mul tx x y ty,t',pos,af,none⟩ Γ (exP (.int .u64 ((a*b:Nat):Int))) :=
 ob2 hx hy (by simp[Op.operands]) (by simp[Op.operands]) fun D E w u v hN _ e1 e2 h1 h2=>by rw[ha.h h1] at e1;rw[hb.h h2] at e2;exact ops_mulv hN e1 e2 hs (fin rfl)
theorem oquw (hx:tv Γ x=some (qx,Ψx))(hy:tv Γ y=some (qy,Ψy))[Im p qx][Im p qy][ha:VU Ψx k a][hb:VU Ψy k b][hk:UK k](hs:0<b∧a<xX k):Ob P r N ops M S p ⟨some d,.binOp .quo tx x y ty,t',pos,af,none⟩ Γ (exP (.int k ((a/b:Nat):Int))) :=
 ob2 hx hy (by simp[Op.operands]) (by simp[Op.operands]) fun D E w u v hN _ e1 e2 h1 h2=>by
  rw[ha.h h1] at e1;rw[hb.h h2] at e2;rcases hk.h with rfl | rfl
  ·exact ops_quou hN e1 e2 hs.1 hs.2 (fin rfl)
  ·exact ops_quo32 hN e1 e2 hs.1 hs.2 (fin rfl)
theorem ormw (hx:tv Γ x=some (qx,Ψx))(hy:tv Γ y=some (qy,Ψy))[Im p qx][Im p qy][ha:VU Ψx k a][hb:VU Ψy k b](hs:0<b):Ob P r N ops M S p ⟨some d,.binOp .rem tx x y ty,t',pos,af,none⟩ Γ (exP (.int k ((a%b:Nat):Int))) :=
 ob2 hx hy (by simp[Op.operands]) (by simp[Op.operands]) fun D E w u v hN _ e1 e2 h1 h2=>by
  rw[ha.h h1] at e1;rw[hb.h h2] at e2;exact iN hN (.inr rfl) e1 e2 (by omega) (by rw[Int.tmod_eq_emod_of_nonneg (by omega)];rfl) (fin rfl)
theorem oshr (hx:tv Γ x=some (qx,Ψx))(hy:tv Γ y=some (qy,Ψy))[Im p qx][Im p qy][ha:VU Ψx k a][hb:VU Ψy k' b](hs:b<k.bits):Ob P r N ops M S p ⟨some d,.binOp .shr tx x y ty,t',pos,af,none⟩ Γ (exP (.int k ((a/2^b:Nat):Int))) :=
 ob2 hx hy (by simp[Op.operands]) (by simp[Op.operands]) fun D E w u v hN _ e1 e2 h1 h2=>by
  rw[ha.h h1] at e1;rw[hb.h h2] at e2;exact zJ2 hN e1 e2 ⟨by omega,by omega⟩ (fin rfl)
theorem oshl (hx:tv Γ x=some (qx,Ψx))(hy:tv Γ y=some (qy,Ψy))[Im p qx][Im p qy][ha:VU Ψx k a][hb:VU Ψy k' b][hk:UK k](hs:b<k.bits):Ob P r N ops M S p ⟨some d,.binOp .shl tx x y ty,t',pos,af,none⟩ Γ (exP (.int k ((a*2^b%xX k:Nat):Int))) :=
 ob2 hx hy (by simp[Op.operands]) (by simp[Op.operands]) fun D E w u v hN _ e1 e2 h1 h2=>by
  rw[ha.h h1] at e1;rw[hb.h h2] at e2;exact ops_shlu (m:=xX k) hN e1 e2 ⟨by omega,by omega⟩ (by rcases hk.h with rfl | rfl<;>rfl) hk.h (fin rfl)
theorem oor (hx:tv Γ x=some (qx,Ψx))(hy:tv Γ y=some (qy,Ψy))[Im p qx][Im p qy][ha:VU Ψx k a][hb:VU Ψy k b][hk:UK k](hs:a<xX k∧b<xX k):Ob P r N ops M S p ⟨some d,.binOp .or tx x y ty,t',pos,af,none⟩ Γ (exP (.int k ((a ||| b:Nat):Int))) :=
 ob2 hx hy (by simp[Op.operands]) (by simp[Op.operands]) fun D E w u v hN _ e1 e2 h1 h2=>by
  rw[ha.h h1] at e1;rw[hb.h h2] at e2;have e:2^k.bits=xX k:=by rcases hk.h with rfl | rfl<;>rfl
  exact ops_oru hN e1 e2 (e ▸ hs.1) (e ▸ hs.2) hk.h (fin rfl)
theorem oan (hx:tv Γ x=some (qx,Ψx))(hy:tv Γ y=some (qy,Ψy))[Im p qx][Im p qy][ha:VU Ψx k a][hb:VU Ψy k b][hk:UK k](hs:a<xX k∧b<xX k):Ob P r N ops M S p ⟨some d,.binOp .and tx x y ty,t',pos,af,none⟩ Γ (exP (.int k ((a &&& b:Nat):Int))) :=
 ob2 hx hy (by simp[Op.operands]) (by simp[Op.operands]) fun D E w u v hN _ e1 e2 h1 h2=>by
  rw[ha.h h1] at e1;rw[hb.h h2] at e2;have e:2^k.bits=xX k:=by rcases hk.h with rfl | rfl<;>rfl
  exact zJ6 hN e1 e2 (e ▸ hs.1) (e ▸ hs.2) hk.h (fin rfl)
class TI (P:Program)(t:TypeId)(k:outParam IntKind):Prop where h:P.underlying t=some (.int k)
theorem ocv32 [ht:TI P ty k'][ht':TI P tx .u32](hx:tv Γ x=some (qx,Ψx))[Im p qx][ha:VU Ψx k a]:Ob P r N ops M S p ⟨some d,.convert ty tx x,t',pos,af,none⟩ Γ (exP (.int .u32 ((a%4294967296:Nat):Int))) :=
 ob1 hx (by simp[Op.operands]) fun D E w u hN _ e1 h1=>by rw[ha.h h1] at e1;exact ops_to32 hN ht.h ht'.h e1 (fin rfl)
theorem ocv64 [ht:TI P ty k'][ht':TI P tx .u64](hx:tv Γ x=some (qx,Ψx))[Im p qx][ha:VU Ψx k a](hs:a<18446744073709551616):Ob P r N ops M S p ⟨some d,.convert ty tx x,t',pos,af,none⟩ Γ (exP (.int .u64 (a:Int))) :=
 ob1 hx (by simp[Op.operands]) fun D E w u hN _ e1 h1=>by rw[ha.h h1] at e1;exact ops_to64 hN ht.h ht'.h e1 hs (fin rfl)
theorem ocvi [ht:TI P ty k'][ht':TI P tx .i64](hx:tv Γ x=some (qx,Ψx))[Im p qx][ha:VU Ψx k a](hs:a<9223372036854775808):Ob P r N ops M S p ⟨some d,.convert ty tx x,t',pos,af,none⟩ Γ (exP (.int .i64 (a:Int))) :=
 ob1 hx (by simp[Op.operands]) fun D E w u hN _ e1 h1=>by rw[ha.h h1] at e1;exact uS hN ht.h ht'.h e1 (IntWalk.i64_in _ (by omega)) (fin rfl)
end
class Au (G:Prop)(A G':outParam Prop):Prop where h:A→G'→G
theorem u {G A G':Prop}[s:Au G A G'](h:G')(ha:A:=by first | exact True.intro | exact(rfl:(_:Bool)=_) | exact⟨(rfl:(_:Bool)=_),True.intro⟩ | exact⟨(rfl:(_:List _)=_),rfl⟩ | exact⟨(rfl:(_:List _)=_),rfl,rfl,rfl,rfl⟩ | exact⟨(rfl:(_:Bool)=_),rfl⟩ | omega | exact⟨(rfl:(_:Bool)=_),by omega⟩ | (intro _;omega) | (intro g;simp at g;omega) | (simp;done) | (simp;omega) | (simp only[IntKind.bits,xX];omega)):G:=s.h ha h
class Ae (G:Prop)(A:outParam Prop):Prop where h:A→G
theorem e {G A:Prop}[s:Ae G A](ha:A:=by first | exact PSub.refl _ | exact psb (by assumption) | exact ps_i (by omega) | exact psb (by simp) | exact⟨PSub.refl _,PSub.refl _⟩):G:=s.h ha
class An (a b:Prop)(c:outParam Prop):Prop where h:c→a∧b
instance {b:Prop}:An True b b:=⟨fun h=>⟨trivial,h⟩⟩
instance {a:Prop}:An a True a:=⟨fun h=>⟨h,trivial⟩⟩
instance (priority:=low){a b:Prop}:An a b (a∧b):=⟨id⟩
class Gt (k s t:Nat):Prop where h:t=k→Nat.beq k s=false
instance {k s d:Nat}:Gt k s (d+s+1):=⟨fun e=>by
 cases h:Nat.beq k s with
 | true=>have:=zaj h;omega
 | false=>rfl⟩
class Lt (k s t:Nat):Prop where h:t=s→Nat.beq k s=false
instance {k s d:Nat}:Lt k s (d+k+1):=⟨fun e=>by
 cases h:Nat.beq k s with
 | true=>have:=zaj h;omega
 | false=>rfl⟩
class NbE (k s:Nat):Prop where h:Nat.beq k s=false
instance {k s:Nat}[a:Gt k s k]:NbE k s:=⟨a.h rfl⟩
instance (priority:=low){k s:Nat}[a:Lt k s s]:NbE k s:=⟨a.h rfl⟩
class TF (Γ:TE)(s:Nat)(q:outParam Prop)(Ψ:outParam PV):Prop where h:tf Γ s=some (q,Ψ)
instance {s:Nat}{q:Prop}{Ψ:PV}{Γ:TE}:TF ((s,q,Ψ)::Γ) s q Ψ:=⟨by simp[tf]⟩
instance (priority:=low){k s:Nat}{a:Prop×PV}{q:Prop}{Ψ:PV}{Γ:TE}[n:NbE k s][h:TF Γ s q Ψ]:TF ((k,a)::Γ) s q Ψ:=⟨by unfold tf;rw[n.h];exact h.h⟩
class TV (Γ:TE)(x:Operand)(q:outParam Prop)(Ψ:outParam PV):Prop where h:tv Γ x=some (q,Ψ)
section
variable {Γ : TE} {s : Nat} {q q' : Prop} {Ψ : PV} {x : Operand} {xs : List Operand} {l : List PV}
instance [h:TF Γ s q Ψ]:TV Γ (.tmp s) q Ψ:=⟨h.h⟩
instance {v:Value}:TV Γ (.const v) True (exP v):=⟨rfl⟩
instance:TV Γ (.func s) True (exP (.func (.func s) #[] #[])):=⟨rfl⟩
instance:TV Γ (.global s) True (zU s 0):=⟨rfl⟩
class TVs (Γ:TE)(xs:List Operand)(q:outParam Prop)(l:outParam (List PV)):Prop where h:tvs Γ xs=some (q,l)
instance:TVs Γ [] True []:=⟨rfl⟩
instance [h:TV Γ x q Ψ][k:TVs Γ xs q' l]:TVs Γ (x::xs) (q∧q') (Ψ::l):=⟨by unfold tvs;rw[h.h,k.h]⟩
end
class T2 (Γ:TE)(p:Prop)(x y:Operand)(Ψ Φ:outParam PV):Prop where h:∃ q q',tv Γ x=some (q,Ψ)∧tv Γ y=some (q',Φ)∧(p→q)∧(p→q')
instance {Γ:TE}{p q q':Prop}{x y:Operand}{Ψ Φ:PV}[a:TV Γ x q Ψ][b:TV Γ y q' Φ][c:Im p q][d:Im p q']:T2 Γ p x y Ψ Φ:=⟨_,_,a.h,b.h,c.h,d.h⟩
class Dj (l:List Oper)(j:Nat)(d:outParam Nat):Prop where h:(l[j]?).bind (·.dst)=some d
instance {d:Nat}{o:Op}{t:TypeId}{p:String}{af:Array Edge}{g:Option (Nat×Bool)}{l:List Oper}:Dj (⟨some d,o,t,p,af,g⟩::l) 0 d:=⟨rfl⟩
instance {o:Oper}{l:List Oper}{j d:Nat}[h:Dj l j d]:Dj (o::l) (j+1) d:=⟨by simpa using h.h⟩
class OB (P:Program)(r:Option Nat)(N:Nat)(ops:Array Oper)(S:List Ow)(p:Prop)(op:Op)(t':TypeId)(Γ:TE)(Ψ:outParam PV)(A:outParam Prop):Prop where
 h:A→∀ {M:Nat→Prop} {d:Nat} {pos:String} {af:Array Edge},Ob P r N ops M S p ⟨some d,op,t',pos,af,none⟩ Γ Ψ
section ops
variable {P : Program} {r : Option Nat} {N : Nat} {ops : Array Oper} {S : List Ow} {p q qx qy qc : Prop} {Γ : TE} {Ψx Ψy Ψc Ψ : PV} {x y c : Operand} {t t' tx ty : TypeId} {k k' : IntKind} {a b : Int} {m n : Nat} {γ δ : Bool}
instance [h:TV Γ x q Ψ][Im p q]:OB P r N ops S p (.move x) t' Γ Ψ True:=⟨fun _=>omv h.h⟩
instance [h:TV Γ x q Ψ][Im p q]:OB P r N ops S p (.assign x) t' Γ Ψ True:=⟨fun _=>oas h.h⟩
instance [h:TV Γ x q Ψ][Im p q][VB Ψ γ]:OB P r N ops S p (.unOp .not t x) t' Γ (exP (.bool (!γ))) True:=⟨fun _=>ont h.h⟩
instance [hc:TV Γ c qc Ψc][hx:TV Γ x qx Ψx][hy:TV Γ y qy Ψy][Im p qc][VB Ψc γ][Im (p∧γ=true) qx][Im (p∧γ=false) qy][Pk γ Ψx Ψy Ψ]:OB P r N ops S p (.pick c x y) t' Γ Ψ True:=⟨fun _=>opk hc.h hx.h hy.h⟩
instance [h:T2 Γ p x y Ψx Ψy][VI Ψx k a][VI Ψy k b]:OB P r N ops S p (.binOp .lss tx x y ty) t' Γ (exP (.bool (decide (a<b)))) True:=⟨fun _=>let ⟨_,_,h1,h2,h3,h4⟩:=h.h;have:=Im.mk h3;have:=Im.mk h4;olt h1 h2⟩
instance [h:T2 Γ p x y Ψx Ψy][VI Ψx k a][VI Ψy k b]:OB P r N ops S p (.binOp .leq tx x y ty) t' Γ (exP (.bool (decide (a≤b)))) True:=⟨fun _=>let ⟨_,_,h1,h2,h3,h4⟩:=h.h;have:=Im.mk h3;have:=Im.mk h4;ole h1 h2⟩
instance [h:T2 Γ p x y Ψx Ψy][VI Ψx k a][VI Ψy k b]:OB P r N ops S p (.binOp .gtr tx x y ty) t' Γ (exP (.bool (decide (b<a)))) True:=⟨fun _=>let ⟨_,_,h1,h2,h3,h4⟩:=h.h;have:=Im.mk h3;have:=Im.mk h4;ogt h1 h2⟩
instance [h:T2 Γ p x y Ψx Ψy][VI Ψx k a][VI Ψy k b]:OB P r N ops S p (.binOp .geq tx x y ty) t' Γ (exP (.bool (decide (b≤a)))) True:=⟨fun _=>let ⟨_,_,h1,h2,h3,h4⟩:=h.h;have:=Im.mk h3;have:=Im.mk h4;oge h1 h2⟩
instance [h:T2 Γ p x y Ψx Ψy][VI Ψx k a][VI Ψy k b]:OB P r N ops S p (.binOp .eql tx x y ty) t' Γ (exP (.bool (decide (a=b)))) True:=⟨fun _=>let ⟨_,_,h1,h2,h3,h4⟩:=h.h;have:=Im.mk h3;have:=Im.mk h4;oeq h1 h2⟩
instance [h:T2 Γ p x y Ψx Ψy][VI Ψx k a][VI Ψy k b]:OB P r N ops S p (.binOp .neq tx x y ty) t' Γ (exP (.bool (decide (a≠b)))) True:=⟨fun _=>let ⟨_,_,h1,h2,h3,h4⟩:=h.h;have:=Im.mk h3;have:=Im.mk h4;oni h1 h2⟩
instance [h:T2 Γ p x y Ψx Ψy][VI Ψx .i64 a][VI Ψy .i64 b]:OB P r N ops S p (.binOp .add tx x y ty) t' Γ (exP (.int .i64 (a+b))) (-9223372036854775808≤a+b∧a+b≤9223372036854775807):=⟨fun g=>let ⟨_,_,h1,h2,h3,h4⟩:=h.h;have:=Im.mk h3;have:=Im.mk h4;oad h1 h2 g⟩
instance [h:T2 Γ p x y Ψx Ψy][VI Ψx .i64 a][VI Ψy .i64 b]:OB P r N ops S p (.binOp .sub tx x y ty) t' Γ (exP (.int .i64 (a-b))) (-9223372036854775808≤a-b∧a-b≤9223372036854775807):=⟨fun g=>let ⟨_,_,h1,h2,h3,h4⟩:=h.h;have:=Im.mk h3;have:=Im.mk h4;osb h1 h2 g⟩
instance [h:T2 Γ p x y Ψx Ψy][VI Ψx .i64 a][VI Ψy .i64 b]:OB P r N ops S p (.binOp .mul tx x y ty) t' Γ (exP (.int .i64 (a*b))) (-9223372036854775808≤a*b∧a*b≤9223372036854775807):=⟨fun g=>let ⟨_,_,h1,h2,h3,h4⟩:=h.h;have:=Im.mk h3;have:=Im.mk h4;oml h1 h2 g⟩
class Li {α:Type}(l:List α)(i:Nat)(a:outParam α):Prop where h:l[i]? = some a
instance {α:Type}{a:α}{l:List α}:Li (a::l) 0 a:=⟨rfl⟩
instance {α:Type}{a b:α}{l:List α}{i:Nat}[h:Li l i a]:Li (b::l) (i+1) a:=⟨by simpa using h.h⟩
instance {i:Nat}{l:List PV}[h:TV Γ x q (tu l)][k:Li l i Ψ][Im p q]:OB P r N ops S p (.extract x i) t' Γ Ψ True:=⟨fun _=>oex h.h k.h⟩
instance {f:FuncId}{ca:List Operand}{l:List PV}[h:TVs Γ ca q l][Im p q]:OB P r N ops S p (.makeFunc (.func f) #[] ca.toArray) t' Γ (fn f l) True:=⟨fun _=>omf h.h⟩
instance {e:TypeId}{sz bytes:Nat}{l:List CT}[h:TV Γ x q Ψ][Im p q][TSl P t e sz bytes][VS Ψ m l][LL l n]:OB P r N ops S p (.call ⟨.builtin .len,#[x],#[t]⟩) t' Γ (exP (.int .i64 (n:Int))) True:=⟨fun _=>oln h.h⟩
instance {c:CT}[h:TV Γ x q Ψ][Im p q][CtOf Ψ c]:OB P r N ops S p (.box t x) t' Γ (pa c) True:=⟨fun _=>obx h.h⟩
end ops
section steps
variable {P : Program} {r : Option Nat} {N : Nat} {X : Cx} {Kn Kr K : TK} {Ke : Nat → TK} {Γ : TE} {S : List Ow} {ops : Array Oper} {l : List Oper} {x y : Code} {i j d dj : Nat} {op : Op} {t' : TypeId} {pos : String} {af : Array Edge} {p q A : Prop} {Ψ Φ : PV} {γ b : Bool} {F : TE → Prop}
instance:Au (TW P r N X (.seq x y) Kn Ke Kr Γ S) True (TW P r N X x (fun X=>TW P r N X y Kn Ke Kr) Ke Kr Γ S):=⟨fun _=>zR⟩
instance:Au (TW P r N X .skip Kn Ke Kr Γ S) True (Kn X Γ S):=⟨fun _=>qT⟩
instance:Au (TW P r N X .ret Kn Ke Kr Γ S) True (Kr X Γ S):=⟨fun _=>xJ⟩
instance:Au (TW P r N X (.exit i) Kn Ke Kr Γ S) True (Ke i X Γ S):=⟨fun _=>zO5⟩
instance:Au (TW P r N X (.block i x) Kn Ke Kr Γ S) True (TW P r N X x Kn (updT Ke i Kn) Kr Γ S):=⟨fun _=>iG⟩
instance:Au (TW P r N X (.scope x) Kn Ke Kr Γ S) True (TW P r N X x Kn Ke Kr Γ S):=⟨fun _=>zS6⟩
instance:Au (TW P r N X (.label i) Kn Ke Kr Γ S) True (Kn X Γ S):=⟨fun _=>zS7⟩
instance:Au (updT Ke i K i X Γ S) True (K X Γ S):=⟨fun _ h=>by unfold updT;rw[Nat.beq_refl];exact h⟩
instance (priority:=low)[n:NbE j i]:Au (updT Ke i K j X Γ S) True (Ke j X Γ S):=⟨fun _ h=>by unfold updT;rw[n.h];exact h⟩
instance:Au (TW P r N X (.region i l.toArray false) Kn Ke Kr Γ S) (okN N l=true) (TO P r N l.toArray X Kn l Γ S):=⟨zZ⟩
instance:Au (TO P r N ops X K [] Γ S) True (K X Γ S):=⟨fun _=>zA0⟩
instance [h:OB P r N ops S True op t' Γ Ψ A]:Au (TO P r N ops X K (⟨some d,op,t',pos,af,none⟩::l) Γ S) A (TO P r N ops X K l ((d,True,Ψ)::Γ) S):=⟨fun a=>zA1 (h.h a)⟩
instance {L:List Oper}[g:Dj L j dj][k:TF Γ dj q Φ][VB Φ γ][h:OB P r N L.toArray S (q∧γ=b) op t' Γ Ψ A]:Au (TO P r N L.toArray X K (⟨some d,op,t',pos,af,some (j,b)⟩::l) Γ S) A (TO P r N L.toArray X K l ((d,q∧γ=b,Ψ)::Γ) S):=⟨fun a=>t1g (by simpa using g.h) k.h (h.h a)⟩
instance:Au (TD P r N ops S F [] Γ) True (F Γ):=⟨fun _=>d0⟩
instance [h:OB P r N ops S True op t' Γ Ψ A]:Au (TD P r N ops S F (⟨some d,op,t',pos,af,none⟩::l) Γ) A (TD P r N ops S F l ((d,True,Ψ)::Γ)):=⟨fun a=>d1 (h.h a)⟩
instance {L:List Oper}[g:Dj L j dj][k:TF Γ dj q Φ][VB Φ γ][h:OB P r N L.toArray S (q∧γ=b) op t' Γ Ψ A]:Au (TD P r N L.toArray S F (⟨some d,op,t',pos,af,some (j,b)⟩::l) Γ) A (TD P r N L.toArray S F l ((d,q∧γ=b,Ψ)::Γ)):=⟨fun a=>d1g (by simpa using g.h) k.h (h.h a)⟩
theorem onec {Ψ ρ:PV}(h:PSub Ψ ρ):∀ M w vs,Fa [Ψ] M w vs→ρ.p M w (gW vs):=fun M w vs ⟨v,us,e,h1,h2⟩=>by
 subst e;rw[show us=[] from h2];exact h _ _ _ h1
theorem twor {Ψ Φ ρ σ:PV}(h:PSub Ψ ρ)(k:PSub Φ σ):∀ M w vs,Fa [Ψ,Φ] M w vs→(tu [ρ,σ]).p M w (gW vs):=fun M w vs ⟨v,us,e,h1,u,us2,e2,h2,e3⟩=>by
 subst e;subst e2;rw[show us2=[] from e3];exact⟨[v,u],rfl,v,_,rfl,h _ _ _ h1,u,_,rfl,k _ _ _ h2,rfl⟩
class RsT (P:Program)(Γ:TE)(S:List Ow)(rs:List ResultVar)(l:outParam (List PV)):Prop where h:rsT P Γ S rs l
instance:RsT P Γ S [] []:=⟨rs0⟩
instance {t:Nat}{rs:List ResultVar}{l:List PV}[h:TF Γ t q Ψ][Tr q][k:RsT P Γ S rs l]:RsT P Γ S (.tmp t::rs) (Ψ::l):=⟨rst h.h k.h⟩
instance {X0:Cx}{rs:List ResultVar}{ρ:PV}[Eqx X0 X][h:RsT P Γ S rs [Ψ]]:Ae (TRc X0 P rs ρ X Γ S) (PSub Ψ ρ):=⟨fun a=>⟨[_],h.h,onec a⟩⟩
instance {X0:Cx}{rs:List ResultVar}{ρ σ:PV}[Eqx X0 X][h:RsT P Γ S rs [Ψ,Φ]]:Ae (TRc X0 P rs (tu [ρ,σ]) X Γ S) (PSub Ψ ρ∧PSub Φ σ):=⟨fun a=>⟨[_,_],h.h,twor a.1 a.2⟩⟩
end steps
class Pa (i:Nat)(τs:List PV)(Γ:outParam TE):Prop where h:par i τs=Γ
instance {i:Nat}:Pa i [] []:=⟨rfl⟩
instance {i:Nat}{τ:PV}{τs:List PV}{Γ:TE}[h:Pa (i+1) τs Γ]:Pa i (τ::τs) ((i,True,τ)::Γ):=⟨by unfold par;rw[h.h]⟩
class SzC (c:CT)(k:outParam Nat):Prop where h:c.sz=k
class SzL (l:List CT)(k:outParam Nat):Prop where h:szs l=k
instance {v:Value}:SzC (xc v) 1:=⟨rfl⟩
instance {k:Nat}{l:List CT}:SzC (sl k l) 1:=⟨rfl⟩
instance:SzL [] 0:=⟨rfl⟩
instance {c:CT}{l:List CT}{a b:Nat}[h:SzC c a][k:SzL l b]:SzL (c::l) (a+b):=⟨by unfold szs;rw[h.h,k.h]⟩
instance {l:List CT}{a:Nat}[h:SzL l a]:SzC (st l) a:=⟨h.h⟩
class Sb (k t:Nat)(d:outParam Nat):Prop where h:t=d+k+1
instance {k d:Nat}:Sb k (d+k+1) d:=⟨rfl⟩
class AO (cs:List CT)(o:Nat)(c:outParam CT):Prop where h:∀ {M w us},stp cs M w us→c.p M w ((us.drop o).take c.sz)
instance {c:CT}{r:List CT}:AO (c::r) 0 c:=⟨fun⟨a,b,e,h1,h2⟩=>by rw[e,← c.len h1,List.drop_zero,zcB];exact h1⟩
instance (priority:=low){c d:CT}{r:List CT}{o o' k:Nat}[h:SzC c k][s:Sb k (o+1) o'][h2:AO r o' d]:AO (c::r) o d:=⟨fun⟨a,b,e,h1,h3⟩=>by
 have e2:o=a.length+o':=by have:=s.h;have:=h.h;have:=c.len h1;omega
 rw[e,e2,← zbW,zbI];exact h2.h h3⟩
instance (priority:=90){c d:CT}{r:List CT}{o:Nat}[h:FA c o d]:AO (c::r) o d:=⟨fun {M w us} ⟨a,b,e,h1,h3⟩=>by
 have h4:=h.h h1;have h5:=d.len h4;rw[zaE,zaV] at h5;rcases zbi d.sz with h0 | h0
 ·rw[h0] at h4 ⊢; simpa using h4
 ·have e2:((us.drop o).take d.sz)=((a.drop o).take d.sz):=by
   rw[e,List.drop_append_of_le_length (by omega),List.take_append_of_le_length (by rw[zaV];omega)]
  rw[e2];exact h4⟩
instance {l:List CT}{o:Nat}{c:CT}[h:AO l o c]:FA (st l) o c:=⟨h.h⟩
class SBi (S:List Ow)(b:Nat)(i:outParam Nat)(ty:outParam TypeId)(cs:outParam (List CT)):Prop where h:S[i]? = some (.blk b ty cs)
instance {S:List Ow}{b:Nat}{ty:TypeId}{cs:List CT}:SBi (.blk b ty cs::S) b 0 ty cs:=⟨rfl⟩
instance (priority:=low){S:List Ow}{o:Ow}{b i:Nat}{ty:TypeId}{cs:List CT}[h:SBi S b i ty cs]:SBi (o::S) b (i+1) ty cs:=⟨by simpa using h.h⟩
class SRi (S:List Ow)(v:Value)(i:outParam Nat)(ty:outParam TypeId)(k:outParam Nat)(l:outParam (List CT)):Prop where h:S[i]? = some (.row v ty k l)
instance {S:List Ow}{v:Value}{ty:TypeId}{k:Nat}{l:List CT}:SRi (.row v ty k l::S) v 0 ty k l:=⟨rfl⟩
instance (priority:=low){S:List Ow}{o:Ow}{v:Value}{i:Nat}{ty:TypeId}{k:Nat}{l:List CT}[h:SRi S v i ty k l]:SRi (o::S) v (i+1) ty k l:=⟨by simpa using h.h⟩
class IJ (i:Int)(j:outParam Nat)(C:outParam Prop):Prop where h:C→i=(j:Int)
instance {j:Nat}:IJ (j:Int) j True:=⟨fun _=>rfl⟩
class LitZ (i:Int)(k:outParam Nat):Prop where h:i=(k:Int)
instance:LitZ 0 0:=⟨rfl⟩
instance:LitZ 1 1:=⟨rfl⟩
instance:LitZ 2 2:=⟨rfl⟩
instance:LitZ 3 3:=⟨rfl⟩
instance:LitZ 4 4:=⟨rfl⟩
instance:LitZ 8 8:=⟨rfl⟩
instance:LitZ 31 31:=⟨rfl⟩
instance:LitZ 32 32:=⟨rfl⟩
instance:LitZ 33 33:=⟨rfl⟩
instance:LitZ 64 64:=⟨rfl⟩
instance (priority:=low){i:Int}{k:Nat}[h:LitZ i k]:IJ i k True:=⟨fun _=>h.h⟩
instance {i i':Int}{j k:Nat}{C D G:Prop}[h:IJ i j C][h':IJ i' k D][g:An C D G]:IJ (i+i') (j+k) G:=⟨fun c=>by rw[h.h (g.h c).1,h'.h (g.h c).2];rfl⟩
instance {i i':Int}{j k:Nat}{C D G G':Prop}[h:IJ i j C][h':IJ i' k D][g:An C D G][g':An (k≤j) G G']:IJ (i-i') (j-k) G':=⟨fun c=>by rw[h.h (g.h (g'.h c).2).1,h'.h (g.h (g'.h c).2).2,Int.ofNat_sub (g'.h c).1]⟩
instance {i i':Int}{j k:Nat}{C D G G':Prop}[h:IJ i j C][h':IJ i' k D][g:An C D G][g':An (0<k) G G']:IJ (i/i') (j/k) G':=⟨fun c=>by rw[h.h (g.h (g'.h c).2).1,h'.h (g.h (g'.h c).2).2];rfl⟩
section ops
variable {P : Program} {r : Option Nat} {N : Nat} {ops : Array Oper} {M : Nat → Prop} {S : List Ow} {p q qx qy qi : Prop} {Γ : TE} {Ψx Ψy Ψi Ψ : PV} {d : Nat} {x y ix : Operand} {t t' e : TypeId} {pos : String} {af : Array Edge} {a : Bool} {sz bytes n j : Nat} {l : List CT} {c c' : CT} {v : Value}
theorem oflx {f off:Nat}(hx:tv Γ x=some (qx,ag c))[Im p qx][ht:TFd P t f a off sz][ha:FA c off c'](hs:Nat.beq c'.sz sz=true)[hl:LdA a c' Ψ]:Ob P r N ops M S p ⟨some d,.field t x f,t',pos,af,none⟩ Γ Ψ :=
 ob1 hx (by simp[Op.operands]) fun D E w u hN hg e1 ⟨us,e,h1⟩=>by
  subst e;obtain⟨fields,fd,bytes,z,k1,k2,k3,k4,k5,k6⟩:=ht.h;have h2:=ha.h h1;have h3:=hl.h h2;have h4:=c'.len h2;have h6:=zaj hs;subst h6;subst k3;cases a with
  | true =>
   refine ops_fielda hN k1 k2 k4 k6 e1 ?_ rfl (fin h3);rw[Nat.ble_eq];have h7:=zby k5;simp only[zaE,zaV] at h4;omega
  | false =>
   obtain⟨k6,k7⟩:=k6;rw[k7] at h4 k4;obtain⟨v,hv⟩:=zcC.1 h4;rw[k7] at h3;have h8:us[fd.offset]? = some v:=by
    have:=congrArg (fun l:List Value=>l[0]?) hv;simpa using this
   exact ops_fieldc hN k1 k2 k4 k6 e1 h8 (fin (h3 v hv))
theorem oldw {b o:Nat}{ty:TypeId}{cs:List CT}(hx:tv Γ x=some (qx,zU b o))[Im p qx]{i:Nat}(hi:S[i]? = some (.blk b ty cs))[ht:TLd P t a sz][ha:AO cs o c](hs:Nat.beq c.sz sz=true)[hl:LdA a c Ψ]:Ob P r N ops M S p ⟨some d,.load t x,t',pos,af,none⟩ Γ Ψ :=
 ob1 hx (by simp[Op.operands]) fun D E w u hN hg e1 h1=>by
  obtain rfl:u=_:=h1;obtain⟨vs,k3,k4⟩:=hg.own _ (zam hi);have h3:=ha.h k4;have h4:=hl.h h3;have h7:=c.len h3;have h6:=zaj hs;have h2:∀(j:Nat) (u:Value),((vs.drop o).take c.sz)[j]? = some u→w.cell? ⟨b,o+j,none⟩=some u:=fun j u hj=>by
   rw[k3.cell];rw[zaN] at hj;split at hj
   ·simpa using hj
   ·cases hj
  have h5:=ht.h;cases a with
  | true =>
   obtain⟨bytes,z,k2⟩:=ht.s;exact bC hN h5 k2 e1 h2 (h7.trans h6) (fin h4)
  | false =>
   obtain⟨k1,rfl⟩:=h5;rw[h6] at h7 h2 h4;obtain⟨v,hv⟩:=zcC.1 h7;rw[hv] at h2 h4;exact bD hN k1 e1 (by have:=h2 0 v rfl;simpa using this) (fin (h4 v rfl))
theorem ofow {b o f off:Nat}(hx:tv Γ x=some (qx,zU b o))[Im p qx][ht:TFd P t f a off sz]:Ob P r N ops M S p ⟨some d,.fieldAddr t x f,t',pos,af,none⟩ Γ (exP (.pointer (some ⟨b,o+off,none⟩))) :=
 ob1 hx (by simp[Op.operands]) fun D E w u hN hg e1 h1=>by
  obtain rfl:u=_:=h1;obtain⟨fields,fd,bytes,z,k1,k2,k3,k4,k5,_⟩:=ht.h;exact uN off hN k1 k2 k3 k4 k5 e1 (fin rfl)
theorem onca {b o:Nat}(hx:tv Γ x=some (qx,zU b o))[Im p qx]:Ob P r N ops M S p ⟨some d,.nilCheck x,t',pos,af,none⟩ Γ (zU b o) :=
 ob1 hx (by simp[Op.operands]) fun D E w u hN hg e1 h1=>by obtain rfl:u=_:=h1;exact rY hN e1 (fin rfl)
instance {f off:Nat}[h:TV Γ x qx (pa c)][Im p qx][TFd P t f a off sz][FA c off c']:OB P r N ops S p (.fieldAddr t x f) t' Γ (pa c') True:=⟨fun _=>ofx h.h⟩
instance {b o f off:Nat}[h:TV Γ x qx (zU b o)][Im p qx][TFd P t f a off sz]:OB P r N ops S p (.fieldAddr t x f) t' Γ (exP (.pointer (some ⟨b,o+off,none⟩))) True:=⟨fun _=>ofow h.h⟩
instance {b o:Nat}[h:TV Γ x qx (zU b o)][Im p qx]:OB P r N ops S p (.nilCheck x) t' Γ (zU b o) True:=⟨fun _=>onca h.h⟩
instance [h:TV Γ x qx (pa c)][Im p qx]:OB P r N ops S p (.nilCheck x) t' Γ (pa c) True:=⟨fun _=>onc h.h⟩
instance {f off:Nat}[h:TV Γ x qx (ag c)][Im p qx][TFd P t f a off sz][FA c off c'][LdA a c' Ψ]:OB P r N ops S p (.field t x f) t' Γ Ψ (Nat.beq c'.sz sz=true):=⟨fun g=>oflx h.h g⟩
instance [h:TV Γ x qx Ψx][Im p qx][TLd P t a sz][LP S Ψx c][LdA a c Ψ]:OB P r N ops S p (.load t x) t' Γ Ψ (Nat.beq c.sz sz=true):=⟨fun g=>old h.h g⟩
instance {b o i:Nat}{ty:TypeId}{cs:List CT}[h:TV Γ x qx (zU b o)][Im p qx][k:SBi S b i ty cs][TLd P t a sz][AO cs o c][LdA a c Ψ]:OB P r N ops S p (.load t x) t' Γ Ψ (Nat.beq c.sz sz=true):=⟨fun g=>oldw h.h k.h g⟩
instance {k:IntKind}{i:Int}{C D:Prop}[h:TV Γ x qx Ψx][g:TV Γ ix qi Ψi][Im p qx][Im p qi][TSl P t e sz bytes][VS Ψx sz l][VI Ψi k i][ij:IJ i j C][LL l n][LA l j c][an:An C (j<n) D]:OB P r N ops S p (.indexAddr t x ix) t' Γ (pa c) (p→D):=⟨fun b=>oix j h.h g.h (zcq _) (fun q=>ij.h (an.h (b q)).1) fun q=>(an.h (b q)).2⟩
instance {i:Nat}[h:TV Γ x qx (exP v)][Im p qx][g:SRi S v i e sz l][TSl P t e sz bytes][LL l n]:OB P r N ops S p (.call ⟨.builtin .len,#[x],#[t]⟩) t' Γ (exP (.int .i64 (n:Int))) True:=⟨fun _=>olno i h.h g.h⟩
end ops
section steps
variable {P : Program} {r : Option Nat} {N : Nat} {X : Cx} {K : TK} {Γ : TE} {S : List Ow} {ops : Array Oper} {l l' : List Oper} {i d dj j m : Nat} {op : Op} {t' : TypeId} {pos : String} {af : Array Edge} {q A : Prop} {Ψ Φ : PV} {γ b : Bool} {F : TE → Prop} {G : List Pv → TE → Prop} {th : Nat → Option (World × Gh → Prop)} {ps : List Pv} {cs : List (Nat × Nat × Nat)}
class Dr (l:List Oper)(m:Nat)(l':outParam (List Oper)):Prop where h:l.drop m=l'
instance:Dr l 0 l:=⟨rfl⟩
instance {o:Oper}[h:Dr l m l']:Dr (o::l) (m+1) l':=⟨by simpa using h.h⟩
class Tk (l:List Oper)(m:Nat)(l':outParam (List Oper)):Prop where h:l.take m=l'
instance:Tk l 0 []:=⟨rfl⟩
instance {o:Oper}[h:Tk l m l']:Tk (o::l) (m+1) (o::l'):=⟨by rw[List.take_succ_cons,h.h]⟩
instance [h:Tk l m l']:Au (TD P r N ops S F (l.take m) Γ) True (TD P r N ops S F l' Γ):=⟨fun _ k=>by rw[h.h];exact k⟩
instance [h:Tk l m l']:Au (TDC P r N ops S th G (l.take m) i ps cs Γ) True (TDC P r N ops S th G l' i ps cs Γ):=⟨fun _ k=>by rw[h.h];exact k⟩
instance [h:Dr l m l']:Au (TO P r N ops X K (l.drop m) Γ S) True (TO P r N ops X K l' Γ S):=⟨fun _ k=>by rw[h.h];exact k⟩
instance:Au (FinM P r N ops X K m [] Γ S) True (TO P r N ops X K (ops.toList.drop m) Γ S):=⟨fun _ k=>k⟩
theorem fm (h:TO P r N ops X K (ops.toList.drop m) Γ S):FinM P r N ops X K m [] Γ S:=h
instance [h:OB P r N ops S True op t' Γ Ψ A]:Au (TDC P r N ops S th G (⟨some d,op,t',pos,af,none⟩::l) i ps cs Γ) ((cs.all fun c=>!Nat.beq c.1 i)=true∧A) (TDC P r N ops S th G l (i+1) ps cs ((d,True,Ψ)::Γ)):=⟨fun a=>cx1 (h.h a.2) a.1⟩
end steps
section
variable {Γ Γ' A B A' : TE} {i s k : Nat} {q p : Prop} {Ψ Φ τ : PV} {τs : List PV}
instance:TF (par i (τ::τs)) i True τ:=⟨by simp[par,tf]⟩
instance (priority:=low)[n:NbE i s][h:TF (par (i+1) τs) s q Ψ]:TF (par i (τ::τs)) s q Ψ:=⟨by unfold par tf;rw[n.h];exact h.h⟩
class TN (A:TE)(s:Nat):Prop where h:tf A s=none
instance:TN [] s:=⟨rfl⟩
instance {a:Prop×PV}[n:NbE k s][h:TN A s]:TN ((k,a)::A) s:=⟨by unfold tf;rw[n.h];exact h.h⟩
instance [h:TF A s q Ψ]:TF (A++B) s q Ψ:=⟨by rw[qC,h.h]⟩
instance (priority:=low)[n:TN A s][h:TF B s q Ψ]:TF (A++B) s q Ψ:=⟨by rw[qC,n.h];exact h.h⟩
class PSa (Ψ Φ:PV)(A:outParam Prop):Prop where h:A→PSub Ψ Φ
instance (priority:=low):PSa Ψ Φ (PSub Ψ Φ):=⟨id⟩
instance (priority:=200){k:IntKind}{a b:Int}:PSa (exP (.int k a)) (exP (.int k b)) (a=b):=⟨ps_i⟩
instance (priority:=200){a b:Bool}:PSa (exP (.bool a)) (exP (.bool b)) (a=b):=⟨psb⟩
instance:PSa Ψ Ψ True:=⟨fun _=>PSub.refl _⟩
class TS (Γ Γ':TE)(C:outParam Prop):Prop where h:C→Tsub Γ Γ'
instance:TS Γ [] True:=⟨fun _=>tn⟩
instance {a b c:Prop}[h:TF Γ s q Ψ][Tr q][h1:PSa Ψ Φ a][h2:TS Γ Γ' b][h3:An a b c]:TS Γ ((s,True,Φ)::Γ') c:=⟨fun k=>tc h.h (h1.h (h3.h k).1) (h2.h (h3.h k).2)⟩
instance {a b c:Prop}[h1:TS Γ A a][h2:TS Γ B b][h3:An a b c]:TS Γ (A++B) c:=⟨fun k=>oC (h1.h (h3.h k).1) (h2.h (h3.h k).2)⟩
class Kp (Γ:TE)(ks:List Nat)(B:outParam TE):Prop where h:Tsub Γ B
instance:Kp Γ [] []:=⟨tn⟩
instance {ks:List Nat}[h:TF Γ s q Ψ][Tr q][k:Kp Γ ks B]:Kp Γ (s::ks) ((s,True,Ψ)::B):=⟨tk s h.h k.h⟩
end
section
variable {P : Program} {r : Option Nat} {N : Nat} {X Z : Cx} {Kn Kr K : TK} {Ke : Nat → TK} {Γ Γ' A B : TE} {S S' : List Ow} {ops : Array Oper} {x y : Code} {i s : Nat} {q : Prop} {Ψ Φ : PV} {b : Bool}
class BP (b:Bool)(p:outParam Prop):Prop where h:b=true↔p
instance (priority:=low):BP b (b=true):=⟨.rfl⟩
instance {p:Prop}[Decidable p]:BP (decide p) p:=⟨by simp⟩
instance {p:Prop}[h:BP b p]:BP (!b) (¬ p):=⟨by rw[← h.h];simp⟩
instance {c:Bool}{p q:Prop}[h:BP b p][k:BP c q]:BP (b&&c) (p∧q):=⟨by rw[← h.h,← k.h];simp⟩
instance {c:Bool}{p q:Prop}[h:BP b p][k:BP c q]:BP (b || c) (p∨q):=⟨by rw[← h.h,← k.h];simp⟩
theorem ti {c:Operand}[h:TV Γ c q Ψ][Tr q][VB Ψ b](ht:Tr (b=true)→TW P r N X x Kn Ke Kr Γ S)(hf:Tr (b=false)→TW P r N X y Kn Ke Kr Γ S):TW P r N X (.cond c x y) Kn Ke Kr Γ S:=t_if h.h ht hf
theorem tp {c:Operand}{p:Prop}[h:TV Γ c q Ψ][Tr q][VB Ψ b][k:BP b p](ht:p→TW P r N X x Kn Ke Kr Γ S)(hf:¬ p→TW P r N X y Kn Ke Kr Γ S):TW P r N X (.cond c x y) Kn Ke Kr Γ S:=t_if h.h (fun e=>ht (k.h.1 e.h)) fun e=>hf fun c=>by have:=k.h.2 c;rw[e.h] at this;cases this
theorem fw {f:FuncId} {fn:Func} {c:Code} {τs:List PV} {ρ:PV} (rs:List ResultVar) (hf:P.funcs[f]? = some fn) [pa:Pa 0 τs Γ] (h:∀ X,TW P none N X c (TRc X P rs ρ) (fun _ _ _ _=>False) (TRc X P rs ρ) Γ []) (hb:fn.body=some c:=by rfl) (hn:fn.ntmps=N:=by rfl) (hN:Nat.ble τs.length N=true:=by rfl) (hnm:(fn.name == "runtime.NumGoroutine")=false:=by rfl) (hr:fn.results.toList=rs:=by rfl):CTy P f τs ρ :=
  ctc hf hb hn hN hnm fun X=>by rw[hr,pa.h];exact h X
theorem fwo {f:FuncId} {fn:Func} {c:Code} {τs:List PV} {Si:List Ow} {Q:PV→List Ow→Prop} (rs:List ResultVar) (hf:P.funcs[f]? = some fn) [pa:Pa 0 τs Γ] (h:∀ X,TW P none N X c (TRd X P rs Q) (fun _ _ _ _=>False) (TRd X P rs Q) Γ Si) (hb:fn.body=some c:=by rfl) (hn:fn.ntmps=N:=by rfl) (hN:Nat.ble τs.length N=true:=by rfl) (hnm:(fn.name == "runtime.NumGoroutine")=false:=by rfl) (hr:fn.results.toList=rs:=by rfl):CTo P f τs Si Q :=
  ctd hf hb hn hN hnm (fun _ _ _ _ _ _ _ hs hp=>yE5 hs hp) fun X=>by rw[hr,pa.h];exact h X
theorem er {X0:Cx}{rs:List ResultVar}{Q:PV→List Ow→Prop}{So:List Ow}[Eqx X0 X][h:RsT P Γ S rs [Ψ]](hQ:Q Ψ So)(hs:So.Sublist S:=by exact zaa _):TRd X0 P rs Q X Γ S:=⟨[_],_,_,h.h,hs,hQ,onec (PSub.refl _)⟩
theorem lp {σ:Type}{C:Prop}(ks:List Nat)(A:σ→TE)(Si:σ→List Ow)(J:σ→Prop)(μ:σ→Nat)(s0:σ)[k:Kp Γ ks B][t:TS Γ (A s0) C](hJ:J s0)
  (round:∀ s,J s→∀ Y,(∀ {Z:Cx} [Eqx Z X],Eqx Z Y)→TW P r N Y x (fun Z Γ' S'=>Exj X Z fun s'=>Ts Z Γ' S' (A s'++B) (Si s')∧J s'∧μ s'<μ s) Ke Kr (A s++B) (Si s)) (hS:S=Si s0:=by rfl) (hC:C:=by first | exact True.intro | omega | simp):TW P r N X (.loop x) Kn Ke Kr Γ S :=
 yZ A Si J μ s0 k.h (t.h hC) hS hJ round
theorem lpy {σ:Type}{C:Prop}(ks:List Nat)(A:σ→TE)(Si:σ→List Ow)(G:σ→Cx→Prop)(μ:σ→Nat)(s0:σ)[k:Kp Γ ks B][t:TS Γ (A s0) C](hG:G s0 X)
  (round:∀ s Y,G s Y→TW P r N Y x (fun Z Γ' S'=>∃ s',Ts Z Γ' S' (A s'++B) (Si s')∧G s' Z∧μ s'<μ s) Ke Kr (A s++B) (Si s)) (hS:S=Si s0:=by rfl) (hC:C:=by first | exact True.intro | omega | simp):TW P r N X (.loop x) Kn Ke Kr Γ S :=
 dI A Si G μ s0 k.h (t.h hC) hS hG round
theorem nxt {σ:Type}{A:σ→TE}{Si:σ→List Ow}{J:σ→Prop}{m:σ→Nat}{n:Nat}{C:Prop}[Eqx X Z](s':σ)[t:TS Γ' (A s'++B) C](hJ:J s')(hm:m s'<n:=by omega)(hC:C:=by first | exact True.intro | omega | simp)(hS:(Si s').Sublist S':=by exact zaa _):Exj X Z fun s'=>Ts Z Γ' S' (A s'++B) (Si s')∧J s'∧m s'<n :=
 ⟨s',fun E w hs=>fN (t.h hC) rfl E w (hs.sub hS),hJ,hm⟩
end
section ops
variable {P : Program} {r : Option Nat} {N : Nat} {ops : Array Oper} {S : List Ow} {p q qx qy : Prop} {Γ : TE} {Ψx Ψy Ψ : PV} {x y : Operand} {t' tx ty : TypeId} {k k' : IntKind} {a b : Nat} {i j : Int} {γ δ : Bool}
instance [h:T2 Γ p x y Ψx Ψy][VU Ψx .u64 a][VU Ψy .u64 b]:OB P r N ops S p (.binOp .add tx x y ty) t' Γ (exP (.int .u64 ((a+b:Nat):Int))) (a+b<18446744073709551616):=⟨fun g=>let ⟨_,_,h1,h2,h3,h4⟩:=h.h;have:=Im.mk h3;have:=Im.mk h4;oadv h1 h2 g⟩
instance [h:T2 Γ p x y Ψx Ψy][VU Ψx .u64 a][VU Ψy .u64 b]:OB P r N ops S p (.binOp .sub tx x y ty) t' Γ (exP (.int .u64 ((a-b:Nat):Int))) (b≤a∧a<18446744073709551616):=⟨fun g=>let ⟨_,_,h1,h2,h3,h4⟩:=h.h;have:=Im.mk h3;have:=Im.mk h4;osbv h1 h2 g⟩
instance [h:T2 Γ p x y Ψx Ψy][VU Ψx .u64 a][VU Ψy .u64 b]:OB P r N ops S p (.binOp .mul tx x y ty) t' Γ (exP (.int .u64 ((a*b:Nat):Int))) (a*b<18446744073709551616):=⟨fun g=>let ⟨_,_,h1,h2,h3,h4⟩:=h.h;have:=Im.mk h3;have:=Im.mk h4;omlv h1 h2 g⟩
instance [h:T2 Γ p x y Ψx Ψy][VU Ψx k a][VU Ψy k b][UK k]:OB P r N ops S p (.binOp .quo tx x y ty) t' Γ (exP (.int k ((a/b:Nat):Int))) (0<b∧a<xX k):=⟨fun g=>let ⟨_,_,h1,h2,h3,h4⟩:=h.h;have:=Im.mk h3;have:=Im.mk h4;oquw h1 h2 g⟩
instance [h:T2 Γ p x y Ψx Ψy][VU Ψx k a][VU Ψy k b]:OB P r N ops S p (.binOp .rem tx x y ty) t' Γ (exP (.int k ((a%b:Nat):Int))) (0<b):=⟨fun g=>let ⟨_,_,h1,h2,h3,h4⟩:=h.h;have:=Im.mk h3;have:=Im.mk h4;ormw h1 h2 g⟩
instance [h:T2 Γ p x y Ψx Ψy][VI Ψx .i64 i][VI Ψy .i64 j]:OB P r N ops S p (.binOp .quo tx x y ty) t' Γ (exP (.int .i64 (i/j))) (0≤i∧i≤9223372036854775807∧1≤j):=⟨fun g=>let ⟨_,_,h1,h2,h3,h4⟩:=h.h;have:=Im.mk h3;have:=Im.mk h4;oqu h1 h2 g⟩
instance [h:T2 Γ p x y Ψx Ψy][VU Ψx k a][VU Ψy k' b][UK k]:OB P r N ops S p (.binOp .shl tx x y ty) t' Γ (exP (.int k ((a*2^b%xX k:Nat):Int))) (b<k.bits):=⟨fun g=>let ⟨_,_,h1,h2,h3,h4⟩:=h.h;have:=Im.mk h3;have:=Im.mk h4;oshl h1 h2 g⟩
instance [h:T2 Γ p x y Ψx Ψy][VU Ψx k a][VU Ψy k' b]:OB P r N ops S p (.binOp .shr tx x y ty) t' Γ (exP (.int k ((a/2^b:Nat):Int))) (b<k.bits):=⟨fun g=>let ⟨_,_,h1,h2,h3,h4⟩:=h.h;have:=Im.mk h3;have:=Im.mk h4;oshr h1 h2 g⟩
instance [h:T2 Γ p x y Ψx Ψy][VU Ψx k a][VU Ψy k b][UK k]:OB P r N ops S p (.binOp .or tx x y ty) t' Γ (exP (.int k ((a ||| b:Nat):Int))) (a<xX k∧b<xX k):=⟨fun g=>let ⟨_,_,h1,h2,h3,h4⟩:=h.h;have:=Im.mk h3;have:=Im.mk h4;oor h1 h2 g⟩
instance [h:T2 Γ p x y Ψx Ψy][VU Ψx k a][VU Ψy k b][UK k]:OB P r N ops S p (.binOp .and tx x y ty) t' Γ (exP (.int k ((a &&& b:Nat):Int))) (a<xX k∧b<xX k):=⟨fun g=>let ⟨_,_,h1,h2,h3,h4⟩:=h.h;have:=Im.mk h3;have:=Im.mk h4;oan h1 h2 g⟩
instance [TI P ty k'][TI P tx .u32][h:TV Γ x q Ψ][Im p q][VU Ψ k a]:OB P r N ops S p (.convert ty tx x) t' Γ (exP (.int .u32 ((a%4294967296:Nat):Int))) True:=⟨fun _=>ocv32 h.h⟩
instance [TI P ty k'][TI P tx .u64][h:TV Γ x q Ψ][Im p q][VU Ψ k a]:OB P r N ops S p (.convert ty tx x) t' Γ (exP (.int .u64 (a:Int))) (a<18446744073709551616):=⟨fun g=>ocv64 h.h g⟩
instance [TI P ty k'][TI P tx .i64][h:TV Γ x q Ψ][Im p q][VU Ψ k a]:OB P r N ops S p (.convert ty tx x) t' Γ (exP (.int .i64 (a:Int))) (a<9223372036854775808):=⟨fun g=>ocvi h.h g⟩
instance [h:T2 Γ p x y Ψx Ψy][VB Ψx γ][VB Ψy δ][TBo P tx]:OB P r N ops S p (.binOp .eql tx x y ty) t' Γ (exP (.bool (γ == δ))) True:=⟨fun _=>let ⟨_,_,h1,h2,h3,h4⟩:=h.h;have:=Im.mk h3;have:=Im.mk h4;obe h1 h2⟩
instance [h:T2 Γ p x y Ψx Ψy][VB Ψx γ][VB Ψy δ][TBo P tx]:OB P r N ops S p (.binOp .neq tx x y ty) t' Γ (exP (.bool (!(γ == δ)))) True:=⟨fun _=>let ⟨_,_,h1,h2,h3,h4⟩:=h.h;have:=Im.mk h3;have:=Im.mk h4;obn h1 h2⟩
end ops
class Ln {α:Type}(l:List α)(n:outParam Nat):Prop where h:l.length=n
instance {α:Type}:Ln ([]:List α) 0:=⟨rfl⟩
instance {α:Type}{a:α}{l:List α}{n:Nat}[h:Ln l n]:Ln (a::l) (n+1):=⟨by rw[zaw,h.h]⟩
theorem yD3:∀ l:List Value,szs (l.map xc)=l.length
 | []=>rfl
 | a::l=>by rw[zaG,szs,yD3 l,zaw];show 1+l.length=_;omega
instance {vs:List Value}{n:Nat}[h:Ln vs n]:SzL (zc (.agg vs.toArray)) n:=⟨by unfold zc;rw[yD3];exact h.h⟩
instance {b:Bool}:SzL (zc (.bool b)) 1:=⟨rfl⟩
instance {k:IntKind}{b:Int}:SzL (zc (.int k b)) 1:=⟨rfl⟩
instance {a:Option Addr}{i j:Nat}:SzL (zc (.slice a i j)) 1:=⟨rfl⟩
class Ct (cs:List CT)(k:Nat)(r:outParam (List CT)):Prop where h:∃ B,cs=B++r∧szs B=k
instance {cs:List CT}:Ct cs 0 cs:=⟨[],rfl,rfl⟩
instance (priority:=low){c:CT}{cs r:List CT}{k k' j:Nat}[h:SzC c j][s:Sb j (k+1) k'][t:Ct cs k' r]:Ct (c::cs) k r:=⟨let ⟨B,e1,e2⟩:=t.h;⟨c::B,by rw[e1];rfl,by rw[szs,e2,h.h];have:=s.h;omega⟩⟩
class UpC (cs:List CT)(o:Nat)(c:CT)(k:Nat)(cs':outParam (List CT)):Prop where h:∃ A B1 B2,cs=A++(B1++B2)∧szs A=o∧szs B1=k∧cs'=A++c::B2
instance {cs r:List CT}{c:CT}{k:Nat}[t:Ct cs k r]:UpC cs 0 c k (c::r):=⟨let ⟨B,e1,e2⟩:=t.h;⟨[],B,r,by simpa using e1,rfl,e2,rfl⟩⟩
instance (priority:=low){d c:CT}{cs cs':List CT}{o o' j k:Nat}[h:SzC d j][s:Sb j (o+1) o'][t:UpC cs o' c k cs']:UpC (d::cs) o c k (d::cs'):=⟨let ⟨A,B1,B2,e1,e2,e3,e4⟩:=t.h;⟨d::A,B1,B2,by rw[e1];rfl,by rw[szs,e2,h.h];have:=s.h;omega,e3,by rw[e4];rfl⟩⟩
instance {z:Value}{c:CT}{k:Nat}[h:SzL (zc z) k]:UpC (zc z) 0 c k [c]:=⟨[],zc z,[],by simp,rfl,h.h,rfl⟩
class LSet (S:List Ow)(i:Nat)(o:Ow)(S':outParam (List Ow)):Prop where h:S.set i o=S'
instance {a o:Ow}{S:List Ow}:LSet (a::S) 0 o (o::S):=⟨rfl⟩
instance {a o:Ow}{S S':List Ow}{i:Nat}[h:LSet S i o S']:LSet (a::S) (i+1) o (a::S'):=⟨by rw[List.set_cons_succ,h.h]⟩
class TPs (Γ:TE)(ps:List (Nat×Operand))(q:outParam Prop)(l:outParam (List PV)):Prop where h:tvs Γ (ps.map (·.2))=some (q,l)
instance {Γ:TE}:TPs Γ [] True []:=⟨rfl⟩
instance {Γ:TE}{i:Nat}{x:Operand}{ps:List (Nat×Operand)}{q q':Prop}{Ψ:PV}{l:List PV}[h:TV Γ x q Ψ][k:TPs Γ ps q' l]:TPs Γ ((i,x)::ps) (q∧q') (Ψ::l):=⟨by rw[List.map_cons];unfold tvs;rw[h.h,k.h]⟩
section
variable {P : Program} {r : Option Nat} {N : Nat} {X : Cx} {K : TK} {Γ : TE} {S S' : List Ow} {ops : Array Oper} {M : Nat → Prop} {p q qx qy : Prop} {Ψ Ψx Ψy : PV} {d : Nat} {x y : Operand} {t t' e : TypeId} {pos : String} {af : Array Edge} {l : List Oper} {v : Value} {k bytes sz i : Nat} {cs m : List CT} {c : CT}
theorem tstu {b o:Nat}{ty:TypeId}{cs':List CT}{a:Bool}(hi:S[i]? = some (.blk b ty cs))(hx:tv Γ x=some (qx,zU b o))(hy:tv Γ y=some (qy,Ψy))[Tr qx][Tr qy][hc:CtOf Ψy c][ht:TLd P t a sz][hs:SzC c sz][up:UpC cs o c sz cs']
  (h:TO P r N ops X K l Γ (S.set i (.blk b ty cs'))):TO P r N ops X K (⟨none,.store t x y,t',pos,af,none⟩::l) Γ S:=fun hN D E w hst=>by
 unfold okN at hN;simp only[zaX,zaq] at hN;obtain⟨u,e1,h1⟩:=gR hst hx;obtain rfl:u=_:=h1;obtain⟨v,e2,h2⟩:=gR hst hy;obtain⟨us,k1,k2⟩:=hc.h h2;obtain⟨vs,k3,k4⟩:=hst.gd.own _ (zam hi);obtain⟨A,B1,B2,rfl,f2,f4,rfl⟩:=up.h;obtain⟨va,vb,rfl,g1,g2⟩:=jS k4;obtain⟨vc,vd,rfl,g3,g4⟩:=jS g2;have hl1:=jN g1;have hl3:=jN g3;have hl:=c.len k2;have hsz:=hs.h;obtain⟨bytes,z,hz⟩:=ht.s;refine uG e1 e2 hz k3 (by rw[k1];simp;omega) (by simp;omega) (by rw[k1];exact fun u hu=>c.one k2 u (by simpa using hu)) fun w' hch hB'=>?_;refine h hN.2 D E w' (hst.setb hi hch hB' ?_);rw[k1];have e3:(va++(vc++vd)).take o=va:=by rw[← f2,← hl1,zcB]
 have e4:(va++(vc++vd)).drop (o+sz)=vd:=by rw[← f4,← hl3,← f2,← hl1,← zbW,zbI,zbI]
 rw[e3,e4,zaA];exact uM g1 ⟨us,vd,rfl,k2,g4⟩
instance {b o:Nat}{ty:TypeId}{cs':List CT}{a:Bool}[hx:TV Γ x qx (zU b o)][hy:TV Γ y qy Ψy][Tr qx][Tr qy][CtOf Ψy c][TLd P t a sz][SzC c sz][hi:SBi S b i ty cs][UpC cs o c sz cs'][hs:LSet S i (.blk b ty cs') S'] :
  Au (TO P r N ops X K (⟨none,.store t x y,t',pos,af,none⟩::l) Γ S) True (TO P r N ops X K l Γ S'):=⟨fun _ h=>tstu hi.h hx.h hy.h (by rw[hs.h];exact h)⟩
instance {z:Value}[TZ P t z]:Au (TO P r N ops X K (⟨some d,.alloc t,t',pos,af,none⟩::l) Γ S) True (∀ b,TO P r N ops X K l ((d,True,zU b 0)::Γ) (.blk b t (zc z)::S)):=⟨fun _=>tal⟩
class ApC (a b:List CT)(c:outParam (List CT)):Prop where h:a++b=c
instance (priority:=low){a b:List CT}:ApC a b (a++b):=⟨rfl⟩
instance {b:List CT}:ApC [] b b:=⟨rfl⟩
instance {α:Type}{f:α→CT}{xs ys:List α}:ApC (xs.map f) (ys.map f) ((xs++ys).map f):=⟨List.map_append.symm⟩
instance {α:Type}{f:α→CT}{xs:List α}{a:α}:ApC (xs.map f) [f a] ((xs++[a]).map f):=⟨by simp⟩
instance {n j:Nat}{m':List CT}{T:Value→List Ow}[hx:TV Γ x qx (exP v)][hy:TV Γ y qy Ψy][Tr qx][Tr qy][TSl P t e k bytes][VS Ψy k m][hi:SRi S v i e k cs][ln:LL cs n][lm:LL m j][am:ApC cs m m'][hs:∀ v',LSet S i (.row v' e k m') (T v')] :
  Au (TO P r N ops X K (⟨some d,.call ⟨.builtin .append,#[x,y],#[t,t]⟩,t',pos,af,none⟩::l) Γ S) (Nat.ble bytes 1000=true∧n+j≤1000000000) (∀ v',TO P r N ops X K l ((d,True,exP v')::Γ) (T v')) :=
 ⟨fun g h=>tap i hi.h hx.h hy.h (by rw[ln.h,lm.h];exact g.2) g.1 (by rw[am.h];exact fun v'=>by rw[(hs v').h];exact h v')⟩
instance {parts:List (Nat×Operand)}{τs:List PV}{cs:List CT}{szs':List Nat}[h:TPs Γ parts q τs][Im p q][TPl P t szs'][CtL τs cs]:OB P r N ops S p (.build t parts.toArray) t' Γ (ag (st cs)) (parts.map (·.1)=List.range szs'.length∧cs.map CT.sz=szs'):=⟨fun g=>obd h.h g.1 g.2⟩
instance {len:Nat}{parts:List (Nat×Operand)}{τs:List PV}{cs:List CT}[h:TPs Γ parts q τs][Im p q][TSl P t e sz bytes][CtL τs cs]:OB P r N ops S p (.buildSlice t len parts.toArray) t' Γ (sv (sl sz cs)) (parts.map (·.1)=List.range len∧(cs.all fun c=>Nat.beq c.sz sz)=true∧Nat.ble (len*sz) 1000=true∧Nat.beq len 0=false∧cs.length=len):=⟨fun⟨g1,g2,g3,g4,g5⟩=>obs h.h g1 g2 g3 g4 g5⟩
instance {a b:Nat}{ty:TypeId}{f:Bool}{rs:List ResultVar}{L:List PV}{r:List CT}[h:TF Γ a q (zU b 0)][Tr q][hi:SBi S b i ty (c::r)][TLd P t f sz][hs:SzC c sz][LdA f c Ψ][k:RsT P Γ S rs L]:RsT P Γ S (.cell a t::rs) (Ψ::L):=⟨rsc i h.h hi.h rfl (by rw[hs.h];exact zcq _) k.h⟩
end
theorem omx {P:Program}{r:Option Nat}{N:Nat}{ops:Array Oper}{M:Nat→Prop}{S:List Ow}{p q1 q2:Prop}{Γ:TE}{Ψ Φ:PV}{d:Nat}{x y:Operand}{ts:Array TypeId}{t':TypeId}{pos:String}{af:Array Edge}{k:IntKind}{a b:Int}
  (hx:tv Γ x=some (q1,Ψ)) (hy:tv Γ y=some (q2,Φ)) [Im p q1] [Im p q2] [ha:VI Ψ k a] [hb:VI Φ k b]:Ob P r N ops M S p ⟨some d,.call ⟨.builtin .max,#[x,y],ts⟩,t',pos,af,none⟩ Γ (exP (.int k (max a b))) :=
 ob2 hx hy (by simp[Op.operands,Call.operands]) (by simp[Op.operands,Call.operands]) fun D E w u v hN _ e1 e2 h1 h2=>by rw[ha.h h1] at e1;rw[hb.h h2] at e2;exact ops_max hN e1 e2 (fin rfl)
theorem omn {P:Program}{r:Option Nat}{N:Nat}{ops:Array Oper}{M:Nat→Prop}{S:List Ow}{p q1 q2:Prop}{Γ:TE}{Ψ Φ:PV}{d:Nat}{x y:Operand}{ts:Array TypeId}{t':TypeId}{pos:String}{af:Array Edge}{k:IntKind}{a b:Int}
  (hx:tv Γ x=some (q1,Ψ)) (hy:tv Γ y=some (q2,Φ)) [Im p q1] [Im p q2] [ha:VI Ψ k a] [hb:VI Φ k b]:Ob P r N ops M S p ⟨some d,.call ⟨.builtin .min,#[x,y],ts⟩,t',pos,af,none⟩ Γ (exP (.int k (min a b))) :=
 ob2 hx hy (by simp[Op.operands,Call.operands]) (by simp[Op.operands,Call.operands]) fun D E w u v hN _ e1 e2 h1 h2=>by
  rw[ha.h h1] at e1;rw[hb.h h2] at e2;refine yB hN (by intro c hc;cases hc) (fun ac ha=>?_) (fin rfl);have e:(Builtin.min_ ts t' #[.int k a,.int k b]).run P w = .ok (.int k (min a b)) w:=by
   have:(if b<a then b else a)=min a b:=by split<;>omega
   rw[← this];rfl
  simp only[execOp,resolve,invoke,builtin,Sem.run_bind,Sem.run_pure,Result.andThen,zbL,zaG,zbe,ha.ev e1,ha.ev e2];rw[e]
section
variable {P : Program} {r : Option Nat} {N : Nat} {ops : Array Oper} {S : List Ow} {p : Prop} {Γ : TE} {Ψx Ψy : PV} {x y : Operand} {ts : Array TypeId} {t' : TypeId} {k : IntKind} {a b : Int}
instance [h:T2 Γ p x y Ψx Ψy][VI Ψx k a][VI Ψy k b]:OB P r N ops S p (.call ⟨.builtin .max,#[x,y],ts⟩) t' Γ (exP (.int k (max a b))) True:=⟨fun _=>let ⟨_,_,h1,h2,h3,h4⟩:=h.h;have:=Im.mk h3;have:=Im.mk h4;omx h1 h2⟩
instance [h:T2 Γ p x y Ψx Ψy][VI Ψx k a][VI Ψy k b]:OB P r N ops S p (.call ⟨.builtin .min,#[x,y],ts⟩) t' Γ (exP (.int k (min a b))) True:=⟨fun _=>let ⟨_,_,h1,h2,h3,h4⟩:=h.h;have:=Im.mk h3;have:=Im.mk h4;omn h1 h2⟩
end
end Go.SL
namespace Go.Proofs.YtalkinejknjidaaGreatDoor
open Go.SL Go.RowKit Go.Proofs Tryz
section
variable {M M' : Nat → Prop} {w w' : World} {n m : Nat} {q : Rat} {s : Bool} {a d : Value}
theorem QC.cl (h:QC M w n q s a d)(l:Cl M w M' w'):QC M' w' n q s a d:=by obtain⟨xs,ds,h1,h2,h3⟩:=h.ex;exact⟨xs,ds,h1.cl l,h2.cl l,h3⟩
theorem RC.cl (h:RC M w n q s a d)(l:Cl M w M' w'):RC M' w' n q s a d:=⟨h.sgn,h.num.cl l,h.den.cl l,h.len⟩
end
def rtq (n:Nat)(q:Rat):CT where
 sz:=3
 p M w cs:=∃ s a d,cs=[.bool s,a,d]∧QC M w n q s a d
 len h:=by obtain⟨_,_,_,rfl,_⟩:=h;rfl
 one h:=by obtain⟨_,_,_,rfl,h⟩:=h;exact allc rfl (allc h.one.1 (allc h.one.2.1 alln))
 mono h k:=by obtain⟨s,a,d,rfl,h⟩:=h;exact⟨s,a,d,rfl,h.cl k⟩
def rtc (n:Nat)(q:Rat):CT where
 sz:=3
 p M w cs:=∃ s a d,cs=[.bool s,a,d]∧RC M w n q s a d
 len h:=by obtain⟨_,_,_,rfl,_⟩:=h;rfl
 one h:=by obtain⟨_,_,_,rfl,h⟩:=h;exact allc rfl (allc h.one.1 (allc h.one.2.1 alln))
 mono h k:=by obtain⟨s,a,d,rfl,h⟩:=h;exact⟨s,a,d,rfl,h.cl k⟩
instance {n:Nat}{q:Rat}:SzC (rtq n q) 3:=⟨rfl⟩
instance {n:Nat}{q:Rat}:SzC (rtc n q) 3:=⟨rfl⟩
class CQ (c:CT)(n:outParam Nat)(q:outParam Rat):Prop where
 h:∀ {M w us},c.p M w us→∃ s a d,us=[.bool s,a,d]∧QC M w n q s a d
instance {n:Nat}{q:Rat}:CQ (rtq n q) n q:=⟨id⟩
instance {n:Nat}{q:Rat}:CQ (rtc n q) n q:=⟨fun⟨s,a,d,e,h⟩=>⟨s,a,d,e,h.gen⟩⟩
class CP (c:CT)(n:outParam Nat)(q:outParam P2):Prop where
 h:∀ {M w us},c.p M w us→∃ s a d t b e,us=[.bool s,a,d,.bool t,b,e]∧PQ M w n q s a d t b e
instance {c d:CT}{n m:Nat}{p q:Rat}[h1:CQ c n p][h2:CQ d m q]:CP (st [c,d]) (max n m) (p,q):=⟨fun⟨x,y,e,k1,z,o,e2,k2,e3⟩=>by
 obtain⟨s,a,d,rfl,g1⟩:=h1.h k1;obtain⟨t,b,f,rfl,g2⟩:=h2.h k2;obtain rfl:o=[]:=e3;exact⟨s,a,d,t,b,f,by rw[e,e2];rfl,g1.up (by omega),g2.up (by omega)⟩⟩
class QR (Ψ:PV)(n:outParam Nat)(q:outParam Rat):Prop where
 h:∀ {M w v},Ψ.p M w v→∃ s a d,v = .agg #[.bool s,a,d]∧QC M w n q s a d
instance {c:CT}{n:Nat}{q:Rat}[h:CQ c n q]:QR (ag c) n q:=⟨fun⟨us,e,k⟩=>by obtain⟨s,a,d,rfl,g⟩:=h.h k;exact⟨s,a,d,e,g⟩⟩
class QP (Ψ:PV)(n:outParam Nat)(q:outParam P2):Prop where
 h:∀ {M w v},Ψ.p M w v→∃ s a d t b e,v = .agg #[.bool s,a,d,.bool t,b,e]∧PQ M w n q s a d t b e
instance {c:CT}{n:Nat}{q:P2}[h:CP c n q]:QP (ag c) n q:=⟨fun⟨us,e,k⟩=>by obtain⟨s,a,d,t,b,f,rfl,g⟩:=h.h k;exact⟨s,a,d,t,b,f,e,g⟩⟩
theorem tZ {α:Type}{R:RelV α}{f:α→CT}{k:Nat}{M:Nat→Prop}{w:World}{v:Value}{xs:List α}(hsz:∀ a,(f a).sz=k)(hR:∀ a us,(f a).p M w us→R M w a us)(h:(sl k (xs.map f)).p M w [v]):tL R k M w v xs:=by
 obtain⟨u,us,e,h1,h2,h3⟩:=h;obtain rfl:=zbp.1 e;rw[zar] at h1;refine⟨us,h1,fun i a ha=>?_⟩;have hi:=(zaL.1 ha).1;have h4:=fR h2 (i:=i) (c:=f a) (by rw[zbQ,ha];rfl);rw[uQ h3 (by rw[zar];omega),hsz] at h4;refine⟨_,((f a).len h4).trans (hsz a),fun q u hq=>?_,hR _ _ h4⟩;rw[zaN] at hq;split at hq
 ·simpa using hq
 ·cases hq
theorem aY {α:Type}{R:RelV α}{f:α→CT}{k:Nat}{M:Nat→Prop}{w:World}{v:Value}{xs:List α}(hsz:∀ a,(f a).sz=k)(hR:∀ a us,us.length=k→R M w a us→(f a).p M w us)(h:tL R k M w v xs):(sl k (xs.map f)).p M w [v]:=by
 obtain⟨cs,h1,h2⟩:=h;exact⟨v,cs,rfl,by rw[zar];exact h1,zO8 hR h1.1 h2,fun c hc=>by obtain⟨a,_,rfl⟩:=zai.1 hc;exact hsz a⟩
class CsQ (cs:List CT)(n:outParam Nat)(qs:outParam (List Rat)):Prop where
 h:∀ c∈cs,c.sz=3
 l:cs.length=qs.length
 e:∀(i:Nat) (q:Rat),qs[i]? = some q→∃ c,cs[i]? = some c∧∀ {M w us},c.p M w us→∃ s a d,us=[.bool s,a,d]∧QC M w n q s a d
instance:CsQ [] 0 []:=⟨by simp,rfl,by simp⟩
class C3 (c:CT):Prop where
 h:c.sz=3
instance {n:Nat}{q:Rat}:C3 (rtq n q):=⟨rfl⟩
instance {n:Nat}{q:Rat}:C3 (rtc n q):=⟨rfl⟩
instance {c:CT}{cs:List CT}{n m:Nat}{q:Rat}{qs:List Rat}[h1:CQ c n q][h3:C3 c][h2:CsQ cs m qs]:CsQ (c::cs) (max n m) (q::qs) :=
 ⟨fun x hx=>by rcases zad.1 hx with rfl | hx;exact h3.h;exact h2.h x hx,by simp[h2.l],fun i p hi=>by
  cases i with
  | zero=>simp at hi;subst hi;exact⟨c,rfl,fun k=>let ⟨s,a,d,e,g⟩:=h1.h k;⟨s,a,d,e,g.up (by omega)⟩⟩
  | succ i=>obtain⟨x,g1,g2⟩:=h2.e i p (by simpa using hi);exact⟨x,by simpa using g1,fun k=>let ⟨s,a,d,e,g⟩:=g2 k;⟨s,a,d,e,g.up (by omega)⟩⟩⟩
theorem zI2 {α:Type}{R:RelV α}{k:Nat}{M:Nat→Prop}{w:World}{v:Value}{cs:List CT}{xs:List α}(hl:cs.length=xs.length)(h3:∀ c∈cs,c.sz=k)(hR:∀(i:Nat) (a:α),xs[i]? = some a→∃ c,cs[i]? = some c∧∀ us,c.p M w us→R M w a us)(h:(sl k cs).p M w [v]):tL R k M w v xs:=by
 obtain⟨u,us,e,h1,h2,_⟩:=h;obtain rfl:=zbp.1 e;rw[hl] at h1;refine⟨us,h1,fun i a ha=>?_⟩;have hi:=(zaL.1 ha).1;obtain⟨c,k1,k2⟩:=hR i a ha;have h4:=fR h2 (i:=i) (c:=c) k1;have hc:=h3 c (zam k1);rw[uQ h3 (by omega),hc] at h4;refine⟨_,(c.len h4).trans hc,fun q u hq=>?_,k2 _ h4⟩;rw[zaN] at hq;split at hq
 ·simpa using hq
 ·cases hq
class VQ (Ψ:PV)(n:outParam Nat)(l:outParam (List Rat)):Prop where
 h:∀ {M w v},Ψ.p M w v→QL M w n l v
instance {cs:List CT}{n:Nat}{l:List Rat}[h:CsQ cs n l]:VQ (sv (sl 3 cs)) n l:=⟨fun k=>⟨zI2 h.l h.h (fun i a ha=>let ⟨c,g1,g2⟩:=h.e i a ha;⟨c,g1,fun us hu=>g2 hu⟩) k⟩⟩
instance {n:Nat}{l:List Rat}:VQ (sv (sl 3 (l.map (rtc n)))) n l:=⟨fun k=>⟨tZ (fun _=>rfl) (fun a us h=>(CQ.h h:_)) k⟩⟩
class VPt (Ψ:PV)(n:outParam Nat)(l:outParam (List P2)):Prop where
 h:∀ {M w v},Ψ.p M w v→PL M w n l v
instance:Df (N4×P2):=⟨((0,0,0,0),(0,0))⟩
theorem omx4 {P:Program}{r:Option Nat}{N:Nat}{ops:Array Oper}{M:Nat→Prop}{S:List Ow}{p q1 q2 q3 q4:Prop}{Γ:TE}{d:Nat}{x y z u:Operand}{ts:Array TypeId}{t':TypeId}{pos:String}{af:Array Edge}{k:IntKind}{a b c e:Nat}
  (hx:tv Γ x=some (q1,exP (.int k (a:Int)))) (hy:tv Γ y=some (q2,exP (.int k (b:Int)))) (hz:tv Γ z=some (q3,exP (.int k (c:Int)))) (hu:tv Γ u=some (q4,exP (.int k (e:Int)))) [Im p q1] [Im p q2] [Im p q3] [Im p q4] :
  Ob P r N ops M S p ⟨some d,.call ⟨.builtin .max,#[x,y,z,u],ts⟩,t',pos,af,none⟩ Γ (exP (.int k ((m4 (a,b,c,e):Nat):Int))):=fun D E w d' hd hN hg hp hT=>by
 obtain rfl:=Option.some.inj hd;obtain⟨v1,e1,rfl⟩:=yL hT hx hp (by simp[Op.operands,Call.operands]);obtain⟨v2,e2,rfl⟩:=yL hT hy hp (by simp[Op.operands,Call.operands]);obtain⟨v3,e3,rfl⟩:=yL hT hz hp (by simp[Op.operands,Call.operands]);obtain⟨v4,e4,rfl⟩:=yL hT hu hp (by simp[Op.operands,Call.operands]);exact ops_max4 hN e1 e2 e3 e4 (fin rfl)
theorem dand {a b:Prop}[Decidable a][Decidable b](h:Tr ((decide a&&decide b)=true)):a∧b:=by simpa using h.h
theorem dor {a b:Prop}[Decidable a][Decidable b](h:Tr ((decide a&&decide b)=false)):¬ (a∧b):=by have:=h.h;simpa using this
theorem dt {a:Prop}[Decidable a](h:Tr (decide a=true)):a:=of_decide_eq_true h.h
theorem df {a:Prop}[Decidable a](h:Tr (decide a=false)):¬ a:=of_decide_eq_false h.h
end Go.Proofs.YtalkinejknjidaaGreatDoor
namespace Go.SL
open Go.RowKit Go.Shelf Go.Proofs Go.Sort
def svx (k:Nat)(cs:List CT):PV:=⟨fun M w v=>(∃ ad,v = .slice ad cs.length cs.length)∧(sl k cs).p M w [v],fun h l=>⟨h.1,(sl k cs).mono h.2 l⟩⟩
instance {k:Nat}{cs:List CT}:VS (svx k cs) k cs:=⟨fun h=>h.2⟩
section
variable {P : Program} {r : Option Nat} {N : Nat} {X : Cx} {K : TK} {Γ : TE} {S : List Ow} {ops : Array Oper} {M : Nat → Prop} {p q qx qy qi qz : Prop} {Ψ Ψx Ψy Ψi Ψz : PV} {d : Nat} {x y ix lo hi mx : Operand} {t t' : TypeId} {pos : String} {af : Array Edge} {l : List Oper}
variable {v : Value} {ty e tx : TypeId} {k bytes : Nat} {cs : List CT} {c : CT}
theorem osl3 {ki kj:IntKind}{i j:Int}{cs':List CT}(b:Nat)(hx:tv Γ x=some (qx,Ψx))(hy:tv Γ hi=some (qy,Ψy))(hz:tv Γ mx=some (qz,Ψz))[Im p qx][Im p qy][Im p qz][ht:TSl P t e k bytes][hv:VS Ψx k cs][hd':DT cs 0 b cs'][h1:VI Ψy ki i][h2:VI Ψz kj j](hi':p→i=(b:Int))(hj:p→j=(b:Int))(hb:p→b≤cs.length) :
  Ob P r N ops M S p ⟨some d,.slice t x none (some hi) (some mx),t',pos,af,none⟩ Γ (svx k cs'):=fun D E w d' hd hN hg hp hT=>by
 obtain rfl:=Option.some.inj hd;obtain⟨u,e1,k1⟩:=yL hT hx hp (by simp[Op.operands]);obtain⟨u1,e2,k2⟩:=yL hT hy hp (by simp[Op.operands]);obtain⟨u2,e3,k3⟩:=yL hT hz hp (by simp[Op.operands]);rw[h1.h k2,hi' hp] at e2;rw[h2.h k3,hj hp] at e3;obtain⟨u3,us,e4,g1,g2,g3⟩:=hv.h k1;obtain rfl:=zbp.1 e4;obtain⟨z,hz',_⟩:=ht.s;have hbl:=hb hp;obtain⟨f1,f2,ad,cap,rfl,f3,f4⟩:=g1;refine qO 0 b b hN ht.u hz' e1 rfl ⟨ki,e2⟩ ⟨rfl,kj,e3⟩ (zaD _) (zab _) (by omega) (fin ?_);have hif:(if b=0 then ad else ad.map (·.add (0*k)))=ad:=by
  split
  ·rfl
  ·rcases ad with _ | ⟨b1,o1,f1⟩<;>simp[Addr.add]
 rw[hif];have e5:cs'.length=b:=by rw[← hd'.h,zaE,zaV];omega
 have e6:cs'=cs.take b:=by rw[← hd'.h];simp
 have hc:=iH g3 g2 hbl;refine⟨⟨ad,by rw[e5];simp⟩,.slice ad b b,us.take (b*k),by simp,⟨?_,by omega,ad,b,by rw[e5],by omega,?_⟩,?_,?_⟩
 ·rw[e5,zaE,f1];have:=zaU k hbl;omega
 ·rw[e5];rcases f4 with f4 | ⟨bb,off,f5,f6,f7⟩
  ·exact .inl (by omega)
  ·refine .inr ⟨bb,off,f5,f6,?_⟩;obtain⟨cur,zA0,fz,h8,h9⟩:=f7;exact⟨cur,zA0,fz,h8,fun j u hj=>h9 j u (by rw[zaN] at hj;split at hj;exact hj;cases hj)⟩
 ·rw[e6];exact hc.1
 ·rw[e6];exact fun c hc=>g3 c (zbc hc)
end
section
variable {P : Program} {r : Option Nat} {N : Nat} {Γ : TE} {S : List Ow} {ops : Array Oper} {q qx qy : Prop} {Ψx Ψy : PV} {d : Nat} {x y : Operand} {t t' : TypeId} {pos : String} {af : Array Edge}
variable {ty : TypeId} {k bytes : Nat} {cs m : List CT}
end
section
variable {P : Program} {r : Option Nat} {N : Nat} {X : Cx} {Γ : TE} {S : List Ow} {ops : Array Oper} {K : TK}
theorem wT {α:Type}{xs:List α}{τ:α→List PV}{y:Nat}{YS:List α→Cx→Prop}{YX:Cx→Prop}{pre:List α}{x:α}{d:Nat}{fo:Operand}{ys:List Operand}{ts:Array TypeId}{t':TypeId}{pos:String}{af:Array Edge}{l:List Oper}{q q' qj:Prop}{Φ:PV}{γ b:Bool}{j dj:Nat}{τs:List PV}(hY:Yl P xs τ y YS YX)(hS:YS pre X)
  (hj:(ops[j]?).bind (·.dst)=some dj) (hΓ:tf Γ dj=some (qj,Φ)) [hb:VB Φ γ] [hqj:Tr qj] (hx:γ=b→∃ post,xs=pre++x::post)
  (hf:tv Γ fo=some (q,exP (.func (.yield y) #[] #[]))) (ha:tvs Γ ys=some (q',τs)) [hq:Im (γ=b) q] [hq':Im (γ=b) q'] (hτ:∀ M w vs,Fa τs M w vs→Fa (τ x) M w vs)
  (h0:γ≠b→TO P r N ops X K l ((d,γ=b,exP (.bool true))::Γ) S)
  (h1:γ=b→∀ Y,YS (pre++[x]) Y→TO P r N ops Y K l ((d,γ=b,exP (.bool true))::Γ) S) (h2:γ=b→∀ Y,YX Y→TO P r N ops Y K l ((d,γ=b,exP (.bool false))::Γ) S) :
  TO P r N ops X K (⟨some d,.call ⟨.value fo,ys.toArray,ts⟩,t',pos,af,some (j,b)⟩::l) Γ S:=fun hN D E w hs=>by
 unfold okN at hN;simp only[zaX,zaq] at hN;obtain⟨v,e0,h6⟩:=(hs.tm dj _ hΓ).1 hqj.h;obtain rfl:=hb.h h6;by_cases hγ:γ=b
 ·obtain⟨u,e1,h3⟩:=oD (hs.tm.tm (Γ.map (·.1))) hf (fun t e=>by subst e;exact dG hf) (hq.h hγ);obtain rfl:u=_:=h3;obtain⟨post,hx⟩:=hx hγ;obtain⟨vs,e2,h4⟩:=gU (hs.tm.tm (Γ.map (·.1))) ha (hq'.h hγ) fun x hxm t e=>by subst e;exact tT ha hxm
  obtain⟨hms,hy⟩:=hY.y hx hS hs (hτ _ _ _ h4);subst hγ;refine mL hj e0 (rW hN.1 e1 e2 (hy.mono ?_));rintro b w' ⟨Y,k1,k2,⟨rfl,k3⟩ | ⟨rfl,k3⟩⟩
  ·have:=h1 rfl Y k3 hN.2 D _ w' (k1.put (q:=(γ=γ,exP (.bool true))) (xI _) (fun _=>rfl) (fun c=>absurd rfl c));rw[k2] at this;rw[hms];exact this
  ·have:=h2 rfl Y k3 hN.2 D _ w' (k1.put (q:=(γ=γ,exP (.bool false))) (xI _) (fun _=>rfl) (fun c=>absurd rfl c));rw[k2] at this;rw[hms];exact this
 ·exact mM hN.1 hj e0 (by simpa using hγ) (h0 hγ hN.2 D _ w (hs.put (xI _) (q:=(γ=b,exP (.bool true))) (fun c=>absurd c hγ) (fun _=>rfl)))
end
section
variable {X : Cx} {w w' : World} {Γ : TE} {S : List Ow} {E : Env}
theorem St.addrN (h:St X Γ S E w){b kk len:Nat}{ty:TypeId}{us:List Value}{cs:List CT}(hn:New w w' b (.cells us.toArray ty (0,0)))(hl:us.length=len*kk)(hm:len≤1000)(hcl:cs.length=len)(hst:stp cs (Mk S X.M) w us)(hall:uB kk cs):St X Γ (.row (.slice (some ⟨b,0,none⟩) len len) ty kk cs::S) E w':=by
 have hb:=hn.below;have hbs:w.heap.size≤b:=by rw[hn.at_];exact zab _
 have cl:Cl (Mk S X.M) w (Mk (.row (.slice (some ⟨b,0,none⟩) len len) ty kk cs::S) X.M) w':=Cl.new hb hbs fun k hk=>(bY.1 hk).imp (fun e=>(Option.some.inj e).symm) id;refine⟨h.bel.bel hb,⟨fun k hk=>?_,h.gd.tab.cl cl,fun o ho=>?_⟩,fun o ho k hk=>?_,⟨fun k hk p hp e=>?_,h.apt⟩,h.ok0,h.zm,h.mko.nc (.rb hb),h.tm.mono cl⟩
 ·rcases bY.1 hk with e | hk
  ·rw[← Option.some.inj (show some b=some k from e),hn.size,hn.at_];omega
  ·exact zan (h.gd.ok k hk) hb.size
 ·rcases zad.1 ho with rfl | ho
  ·exact⟨us,by rw[hcl];exact yF6 hn hl hm,yX hst cl,hall⟩
  ·exact Ow.ok_mono (h.gd.own o ho) cl fun k _ hlt=>hb.block k hlt
 ·rcases zad.1 ho with rfl | ho
  ·rw[← Option.some.inj (show some b=some k from hk)];exact .inl (zac h.bel.size hbs)
  ·exact h.new o ho k hk
 ·have:=h.okS p hp k e;rw[← Option.some.inj (show some b=some k from hk)] at this;omega
end
theorem tbs {P:Program}{r:Option Nat}{N:Nat}{ops:Array Oper}{X:Cx}{K:TK}{S:List Ow}{Γ:TE}{d k bytes len:Nat}{ty t t':TypeId}{pos:String}{af:Array Edge}{l:List Oper}{q:Prop}{parts:List (Nat×Operand)}{τs:List PV}{cs:List CT}(hx:tvs Γ (parts.map (·.2))=some (q,τs))[hi:Tr q][ht:TSl P t ty k bytes][hc:CtL τs cs](hp:parts.map (·.1)=List.range len)(hs:(cs.all fun c=>Nat.beq c.sz k)=true)(hl:Nat.ble (len*k) 1000=true)(h0:Nat.beq len 0=false)(hn:cs.length=len)
  (h:∀ v',TO P r N ops X K l ((d,True,exP v')::Γ) (.row v' ty k cs::S)):TO P r N ops X K (⟨some d,.buildSlice t len parts.toArray,t',pos,af,none⟩::l) Γ S:=fun hN D E w hst=>by
 unfold okN at hN;simp only[zaX,zaq] at hN;obtain⟨vs,e1,h1⟩:=gU (hst.tm.tm (Γ.map (·.1))) hx hi.h fun x hxm t e=>by subst e;exact tT hx hxm
 obtain⟨uss,g1,g2,g3⟩:=hc.h h1;have hall:uB k cs:=fun c hc=>zaj (zaC.1 hs c hc);have hlen:=jN g2;rw[eN hall,hn] at hlen;obtain⟨z,hz,hzc⟩:=ht.s;have hle:len≤1000:=by
  have:=zbZ hl;have h0:=zby ht.n;exact zac (zci _ (zaW h0)) this
 refine qB hN.1 ht.u hz hzc ht.n (by simpa using hp) (by simpa using e1) g1 ?_ hl h0 fun w' b hw=>?_
 ·refine zaC.2 fun c hc=>?_;have:c.length∈uss.map List.length:=zcj hc;rw[g3] at this;obtain⟨c',h5,h6⟩:=zai.1 this;rw[← h6];exact zaC.1 hs c' h5
 ·exact h _ hN.2 D _ w' ((hst.addrN hw hlen hle hn g2 hall).put (xI _) (fun _=>rfl) (fun c=>absurd trivial c))
end Go.SL
namespace Go.SL
open Go.RowKit
section
variable {P : Program} {r : Option Nat} {N : Nat} {X : Cx} {K : TK} {Γ : TE} {S : List Ow} {ops : Array Oper} {M : Nat → Prop} {p q qx qy qz qi : Prop} {Ψ Ψx Ψy Ψz Ψi : PV} {d : Nat} {x y z ix : Operand} {t t' e : TypeId} {tx ty : TypeId} {pos : String} {af : Array Edge} {l : List Oper} {v : Value} {k bytes sz i j n m : Nat} {cs cs' : List CT} {c : CT} {ki kj : IntKind} {a b : Int} {C D G G' : Prop}
theorem tqn [hx:TV Γ x qx Ψx][Tr qx][ht:TSl P tx e k bytes][hv:VS Ψx k cs](h:∀ b:Bool,(b=true→cs.length=0)→TO P r N ops X K l ((d,True,exP (.bool b))::Γ) S):TO P r N ops X K (⟨some d,.binOp .eql tx x (.const (.slice none 0 0)) ty,t',pos,af,none⟩::l) Γ S:=fun hN D E w hs=>by
 unfold okN at hN;simp only[zaX,zaq] at hN;obtain⟨u,e1,k1⟩:=gR hs hx.h;obtain⟨u3,us,e4,g1,g2,g3⟩:=hv.h k1;obtain rfl:=zbp.1 e4;obtain⟨f1,f2,ad,cap,rfl,f3,f4⟩:=g1;refine ops_eqnil hN.1 ⟨e,ht.u⟩ e1 rfl (h ad.isNone (fun hn=>?_) hN.2 D _ w (hs.put (xI _) (fun _=>rfl) (fun c=>absurd trivial c)));rcases f4 with f4 | ⟨bb,off,f5,_⟩
 ·exact f4
 ·subst f5;cases hn
instance {hi:Operand}[h:TV Γ x qx Ψx][g:TV Γ hi qi Ψi][Im p qx][hq:Im p qi][TSl P t e k bytes][VS Ψx k cs][vi:VI Ψi ki a][ij:IJ a j C][DT cs 0 j cs'][ll:LL cs n][an:An C (j≤n) G]:OB P r N ops S p (.slice t x none (some hi) none) t' Γ (sv (sl k cs')) (p→G) :=
 ⟨fun A=>osl 0 j h.h rfl ⟨_,_,_,_,g.h,hq.h,vi,fun q=>ij.h (an.h (A q)).1⟩ (fun _=>zaD _) fun q=>by rw[ll.h];exact(an.h (A q)).2⟩
instance {lo:Operand}[h:TV Γ x qx Ψx][g:TV Γ lo qi Ψi][Im p qx][hq:Im p qi][TSl P t e k bytes][VS Ψx k cs][vi:VI Ψi ki a][ij:IJ a j C][ll:LL cs n][DT cs j n cs'][an:An C (j≤n) G]:OB P r N ops S p (.slice t x (some lo) none none) t' Γ (sv (sl k cs')) (p→G) :=
 ⟨fun A=>osl j n h.h ⟨_,_,_,_,g.h,hq.h,vi,fun q=>ij.h (an.h (A q)).1⟩ (fun _=>ll.h.symm) (fun q=>(an.h (A q)).2) fun _=>zcp ll.h.symm⟩
instance {lo hi:Operand}[h:TV Γ x qx Ψx][g:TV Γ lo qi Ψi][g':TV Γ hi qy Ψy][Im p qx][hq:Im p qi][hq':Im p qy][TSl P t e k bytes][VS Ψx k cs][vi:VI Ψi ki a][ij:IJ a j C][vi':VI Ψy kj b][ij':IJ b m D][ll:LL cs n][DT cs j m cs'][an:An C D G][an':An G (j≤m∧m≤n) G']:OB P r N ops S p (.slice t x (some lo) (some hi) none) t' Γ (sv (sl k cs')) (p→G') :=
 ⟨fun A=>osl j m h.h ⟨_,_,_,_,g.h,hq.h,vi,fun q=>ij.h (an.h (an'.h (A q)).1).1⟩ ⟨_,_,_,_,g'.h,hq'.h,vi',fun q=>ij'.h (an.h (an'.h (A q)).1).2⟩ (fun q=>(an'.h (A q)).2.1) fun q=>by rw[ll.h];exact(an'.h (A q)).2.2⟩
instance [h:TV Γ x qx Ψx][Im p qx][TSl P t e k bytes][VS Ψx k cs][ll:LL cs n][DT cs 0 n cs']:OB P r N ops S p (.slice t x none none none) t' Γ (sv (sl k cs')) True :=
 ⟨fun _=>osl 0 n h.h rfl (fun _=>ll.h.symm) (fun _=>zaD _) fun _=>zcp ll.h.symm⟩
instance {hi mx:Operand}[h:TV Γ x qx Ψx][g:TV Γ hi qi Ψi][g':TV Γ mx qy Ψy][Im p qx][Im p qi][Im p qy][TSl P t e k bytes][VS Ψx k cs][VI Ψi ki a][ij:IJ a j C][VI Ψy kj b][ij':IJ b m D][ll:LL cs n][DT cs 0 j cs'][an:An C D G][an':An G (m=j∧j≤n) G']:OB P r N ops S p (.slice t x none (some hi) (some mx)) t' Γ (svx k cs') (p→G') :=
 ⟨fun A=>osl3 j h.h g.h g'.h (fun q=>ij.h (an.h (an'.h (A q)).1).1) (fun q=>by rw[ij'.h (an.h (an'.h (A q)).1).2,(an'.h (A q)).2.1]) fun q=>by rw[ll.h];exact(an'.h (A q)).2.2⟩
instance [h:TV Γ x qx (exP v)][g:TV Γ ix qi Ψi][Im p qx][Im p qi][s:SRi S v i e k cs][TSl P t e k bytes][VI Ψi ki a][ij:IJ a j C][ll:LL cs n][an:An C (j<n) G]:OB P r N ops S p (.indexAddr t x ix) t' Γ (eP v k j) (p→G) :=
 ⟨fun A=>oixo i j s.h h.h g.h (fun q=>ij.h (an.h (A q)).1) fun q=>by rw[ll.h];exact(an.h (A q)).2⟩
instance {f:Bool}[h:TV Γ x qx (eP v k j)][Im p qx][s:SRi S v i e k cs][TLd P t f k][LA cs j c][ll:LL cs n][LdA f c Ψ]:OB P r N ops S p (.load t x) t' Γ Ψ (p→j<n) :=
 ⟨fun A=>oldr i s.h h.h (fun q=>by rw[ll.h];exact A q) (zcq _)⟩
class ST (cs:List CT)(j:Nat)(c:CT)(cs':outParam (List CT)):Prop where h:cs.set j c=cs'
instance {α:Type}{f:α→CT}{xs:List α}{a:α}:ST (xs.map f) j (f a) ((xs.set j a).map f):=⟨by rw[List.map_set]⟩
instance {f:Bool}{S':List Ow}[h:TV Γ x qx (eP v k j)][g:TV Γ y qy Ψy][Tr qx][Tr qy][CtOf Ψy c][TLd P t f k][hz:SzC c k][s:SRi S v i e k cs][ll:LL cs n][st:ST cs j c cs'][ls:LSet S i (.row v e k cs') S'] :
  Au (TO P r N ops X K (⟨none,.store t x y,t',pos,af,none⟩::l) Γ S) (j<n) (TO P r N ops X K l Γ S') :=
 ⟨fun A h'=>tsr i j s.h h.h g.h (by rw[hz.h];exact zcq _) (zcq _) (by rw[ll.h];exact A) st.h (by rw[ls.h];exact h')⟩
end
section
variable {X : Cx} {w w' : World} {Γ : TE} {S : List Ow} {E : Env}
theorem St.addrv (h:St X Γ S E w){b kk:Nat}{ty:TypeId}{v:Value}{cur:Array Value}{cs:List CT}{us:List Value}(hn:New w w' b (.cells cur ty (0,0)))(hv:v.ownBlock=some b)(ho':w'.ownsRow 0 ty kk v cs.length us)(hst:stp cs (Mk S X.M) w us)(hall:uB kk cs):St X Γ (.row v ty kk cs::S) E w':=by
 have hb:=hn.below;have hbs:w.heap.size≤b:=by rw[hn.at_];exact zab _
 have cl:Cl (Mk S X.M) w (Mk (.row v ty kk cs::S) X.M) w':=Cl.new hb hbs fun k hk=>(bY.1 hk).imp (fun e=>(Option.some.inj (hv.symm.trans e)).symm) id;refine⟨h.bel.bel hb,⟨fun k hk=>?_,h.gd.tab.cl cl,fun o ho=>?_⟩,fun o ho k hk=>?_,⟨fun k hk p hp e=>?_,h.apt⟩,h.ok0,h.zm,h.mko.nc (.rb hb),h.tm.mono cl⟩
 ·rcases bY.1 hk with e | hk
  ·rw[← Option.some.inj (hv.symm.trans e),hn.size,hn.at_];omega
  ·exact zan (h.gd.ok k hk) hb.size
 ·rcases zad.1 ho with rfl | ho
  ·exact⟨us,ho',yX hst cl,hall⟩
  ·exact Ow.ok_mono (h.gd.own o ho) cl fun k _ hlt=>hb.block k hlt
 ·rcases zad.1 ho with rfl | ho
  ·rw[← Option.some.inj (hv.symm.trans hk)];exact .inl (zac h.bel.size hbs)
  ·exact h.new o ho k hk
 ·have:=h.okS p hp k e;rw[← Option.some.inj (hv.symm.trans hk)] at this;omega
theorem St.addr0 (h:St X Γ S E w){b kk:Nat}{ty:TypeId}(hn:New w w' b (.cells #[] ty (0,0))):St X Γ (.row (.slice (some ⟨b,0,none⟩) 0 0) ty kk []::S) E w' :=
 h.addrv hn rfl (own_bs0 hn) (us:=[]) rfl (by simp[uB])
end
theorem tbs0 {P:Program}{r:Option Nat}{N:Nat}{ops:Array Oper}{X:Cx}{K:TK}{S:List Ow}{Γ:TE}{d k bytes:Nat}{t e t':TypeId}{pos:String}{af:Array Edge}{l:List Oper}[ht:TSl P t e k bytes](h:∀ v',TO P r N ops X K l ((d,True,exP v')::Γ) (.row v' e k []::S)):TO P r N ops X K (⟨some d,.buildSlice t 0 #[],t',pos,af,none⟩::l) Γ S:=fun hN D E w hs=>by
 unfold okN at hN;simp only[zaX,zaq] at hN;obtain⟨z,hz,_⟩:=ht.s;refine ops_bs0 hN.1 ht.u ⟨z,hz⟩ fun w' b hn=>?_;exact h _ hN.2 D _ w' ((hs.addr0 hn).put (xI _) (fun _=>rfl) (fun c=>absurd trivial c))
section
variable {P : Program} {r : Option Nat} {N : Nat} {X : Cx} {K : TK} {Γ : TE} {S : List Ow} {ops : Array Oper} {qx qy : Prop} {Ψx Ψy : PV} {d : Nat} {x y : Operand} {t t' e : TypeId} {pos : String} {af : Array Edge} {l : List Oper} {k bytes i j : Nat} {ki kj : IntKind} {a b : Int} {C D G G' : Prop}
instance [TSl P t e k bytes]:Au (TO P r N ops X K (⟨some d,.buildSlice t 0 [].toArray,t',pos,af,none⟩::l) Γ S) True (∀ v',TO P r N ops X K l ((d,True,exP v')::Γ) (.row v' e k []::S)):=⟨fun _ h=>tbs0 h⟩
theorem yF5 {w w':World}{b n c:Nat}{z:Value}{ty:TypeId}(h:New w w' b (.cells (List.replicate c z).toArray ty (0,0)))(hn:n≤c)(hc:c≤maxLen):w'.ownsRow 0 ty 1 (.slice (some ⟨b,0,none⟩) n c) n (List.replicate n z) :=
 ⟨by simp,.inr ⟨b,c,_,rfl,zaD _,h.obj,hn,hc,by simp,by simp[zaS hn]⟩⟩
theorem nA {M:Nat→Prop}{w:World}{z:Value}(hz:z.oneCell'=true):∀ n,stp (List.replicate n (xc z)) M w (List.replicate n z)
 | 0=>rfl
 | n+1=>⟨[z],List.replicate n z,rfl,⟨rfl,hz⟩,nA hz n⟩
class Z1 (P:Program)(e:TypeId)(z:outParam Value):Prop where h:∃ bytes,Sz P e 1 bytes z∧bytes≤1000∧z.oneCell'=true
theorem tmk {z:Value}[ht:TSl P t e 1 bytes][hz:Z1 P e z][h1:TV Γ x qx Ψx][h2:TV Γ y qy Ψy][Tr qx][Tr qy][v1:VI Ψx ki a][v2:VI Ψy kj b](i j:Nat)(ha:a=(i:Int))(hb:b=(j:Int))(hij:i≤j)(hj:j≤100000000000)
  (h:∀ v',TO P r N ops X K l ((d,True,exP v')::Γ) (.row v' e 1 (List.replicate i (xc z))::S)):TO P r N ops X K (⟨some d,.makeSlice t x y,t',pos,af,none⟩::l) Γ S:=fun hN D E w hs=>by
 unfold okN at hN;simp only[zaX,zaq] at hN;obtain⟨u1,e1,k1⟩:=gR hs h1.h;obtain⟨u2,e2,k2⟩:=gR hs h2.h;rw[v1.h k1] at e1;rw[v2.h k2] at e2;obtain⟨by',hs1,hby,hone⟩:=hz.h;refine zJ4 i j hN.1 ht.u hs1 hone e1 e2 ha hb hij (zac (zaT hby hj) (by decide)) (by omega) fun w' b hn=>?_;refine h _ hN.2 D _ w' ((hs.addrv hn rfl (by rw[zbA];exact yF5 hn hij (zac hj (by decide))) (nA hone i) (fun c hc=>by rw[zcV hc];rfl)).put (xI _) (fun _=>rfl) (fun c=>absurd trivial c))
instance {z:Value}[ht:TSl P t e 1 bytes][hz:Z1 P e z][h1:TV Γ x qx Ψx][h2:TV Γ y qy Ψy][Tr qx][Tr qy][v1:VI Ψx ki a][v2:VI Ψy kj b][p1:IJ a i C][p2:IJ b j D][an:An C D G][an':An G (i≤j∧j≤100000000000) G']:Au (TO P r N ops X K (⟨some d,.makeSlice t x y,t',pos,af,none⟩::l) Γ S) G' (∀ v',TO P r N ops X K l ((d,True,exP v')::Γ) (.row v' e 1 (List.replicate i (xc z))::S)) :=
 ⟨fun A h=>tmk i j (p1.h (an.h (an'.h A).1).1) (p2.h (an.h (an'.h A).1).2) (an'.h A).2.1 (an'.h A).2.2 h⟩
end
def Fsub (τs σs:List PV):Prop:=∀ M w vs,Fa τs M w vs→Fa σs M w vs
theorem fs0:Fsub [] []:=fun _ _ _ h=>h
theorem fs1 {τ σ:PV}{τs σs:List PV}(h:PSub τ σ)(k:Fsub τs σs):Fsub (τ::τs) (σ::σs):=fun M w vs ⟨v,us,e,h1,h2⟩=>⟨v,us,e,h _ _ _ h1,k _ _ _ h2⟩
theorem yI {P:Program}{f:FuncId}{τs σs:List PV}{ρ:PV}(h:CTy P f σs ρ)(hs:Fsub τs σs):CTy P f τs ρ:=⟨h.bod,fun M w vs hM hT hv=>h.run M w vs hM hT (hs _ _ _ hv)⟩
end Go.SL
namespace Go.Proofs.YtalkinejknjidaaGreatDoor
open Go.SL Tryz
instance:TI prog 2 .i64:=⟨underlying2⟩
instance:TI prog 3 .i64:=⟨underlying3⟩
instance:TI prog 5 .u8:=⟨underlying5⟩
instance:TI prog 6 .u8:=⟨underlying6⟩
instance:TI prog 12 .u64:=⟨underlying12⟩
instance:TI prog 21 .i32:=⟨underlying21⟩
instance:TI prog 79 .i64:=⟨underlying79⟩
instance:TI prog 83 .i8:=⟨underlying83⟩
instance:TI prog 155 .u32:=⟨underlying155⟩
instance:TI prog 195 .u64:=⟨underlying195⟩
instance:TI prog 196 .u64:=⟨underlying196⟩
instance:TI prog 242 .i64:=⟨underlying242⟩
instance:TI prog 291 .u64:=⟨underlying291⟩
instance:TI prog 373 .u8:=⟨underlying373⟩
instance:TI prog 374 .u8:=⟨underlying374⟩
instance:TI prog 377 .i32:=⟨underlying377⟩
instance:TI prog 378 .i32:=⟨underlying378⟩
end Go.Proofs.YtalkinejknjidaaGreatDoor
namespace Go.Proofs.YtalkinejknjidaaGreatDoor
open Go.SL Go.RowKit Go.Proofs Tryz
abbrev xw (x:Nat):CT:=xc (.int .u32 (x:Int))
def ntx (xs:List Nat):CT where
 sz:=1
 p M w cs:=∃ v,cs=[v]∧IsNat M w v xs
 len h:=by obtain⟨_,rfl,_⟩:=h;rfl
 one h u hu:=by obtain⟨v,rfl,h⟩:=h;rw[zak.1 hu];exact vK h
 mono h k:=by obtain⟨v,rfl,h⟩:=h;exact⟨v,rfl,h.cl k⟩
def itx (a:Bool×List Nat):CT:=st [xc (.bool a.1),ntx a.2]
instance {xs:List Nat}:SzC (ntx xs) 1:=⟨rfl⟩
instance {a:Bool×List Nat}:SzC (itx a) 2:=⟨rfl⟩
instance:Df Nat:=⟨0⟩
instance:Df Int:=⟨0⟩
theorem tV {M:Nat→Prop}{w:World}:∀ {xs:List Nat},stp (xs.map xw) M w (xs.map lw)
 | []=>rfl
 | x::xs=>⟨[lw x],xs.map lw,rfl,⟨rfl,rfl⟩,tV⟩
instance {xs:List Nat}:VS (sv (ntx xs)) 1 (xs.map xw):=⟨fun⟨v,e,h⟩=>⟨v,xs.map lw,e,by rw[zar];exact h.slc,tV,fun c hc=>by obtain⟨a,_,rfl⟩:=zai.1 hc;rfl⟩⟩
instance {a:Bool×List Nat}:FA (itx a) 0 (xc (.bool a.1)):=⟨fun h=>gQ (l:=[xc (.bool a.1),ntx a.2]) (o:=0) h rfl⟩
instance {a:Bool×List Nat}:FA (itx a) 1 (ntx a.2):=⟨fun h=>gQ (l:=[xc (.bool a.1),ntx a.2]) (o:=1) h rfl⟩
class VX (Ψ:PV)(xs:outParam (List Nat)):Prop where
 h:∀ {M w v},Ψ.p M w v→IsNat M w v xs
instance {xs:List Nat}:VX (sv (ntx xs)) xs:=⟨fun⟨a,e,h⟩=>by rw[zbp.1 e];exact h⟩
theorem osn {P:Program}{r:Option Nat}{N:Nat}{Γ:TE}{S:List Ow}{ops:Array Oper}{M:Nat→Prop}{p qx:Prop}{d:Nat}{x:Operand}{t e t':TypeId}{pos:String}{af:Array Edge}{xs:List Nat}{bytes:Nat}{lo hi:Option Operand}(a b:Nat)(hx:tv Γ x=some (qx,sv (ntx xs)))[hq:Im p qx][ht:TSl P t e 1 bytes]
  (hlo:match lo with | none=>a=0 | some o=>∃ q Ψ ki i,tv Γ o=some (q,Ψ)∧(p→q)∧VI Ψ ki i∧(p→i=(a:Int))) (hhi:match hi with | none=>p→b=xs.length | some o=>∃ q Ψ ki i,tv Γ o=some (q,Ψ)∧(p→q)∧VI Ψ ki i∧(p→i=(b:Int))) (hab:p→a≤b) (hbl:p→b≤xs.length) :
  Ob P r N ops M S p ⟨some d,.slice t x lo hi none,t',pos,af,none⟩ Γ (sv (ntx ((xs.drop a).take (b-a)))):=fun D E w d' hd hN hg hp hT=>by
 obtain rfl:=Option.some.inj hd;obtain⟨u,e1,u',e2,h2⟩:=yL hT hx hp (by simp[Op.operands]);obtain rfl:=zbp.1 e2;obtain⟨z,hz,_⟩:=ht.s;refine oU a b hN ht.u hz e1 h2.slc ?_ ?_ trivial (hab hp) (hbl hp) fun u hu=>fin ⟨u,rfl,h2.sub (hbl hp) hu⟩
 ·cases lo with
  | none=>exact hlo
  | some o =>
   obtain⟨q,Ψ,ki,i,g1,g2,g3,g4⟩:=hlo;obtain⟨v,g5,g6⟩:=oD hT g1 (fun s e=>by subst e;exact gA (o:=⟨some d,.slice t x (some (.tmp s)) hi none,t',pos,af,none⟩) (by cases hi<;>simp[Op.operands]) s rfl) (g2 hp);exact⟨ki,by rw[g5,g3.h g6,g4 hp]⟩
 ·cases hi with
  | none=>exact hhi hp
  | some o =>
   obtain⟨q,Ψ,ki,i,g1,g2,g3,g4⟩:=hhi;obtain⟨v,g5,g6⟩:=oD hT g1 (fun s e=>by subst e;exact gA (o:=⟨some d,.slice t x lo (some (.tmp s)) none,t',pos,af,none⟩) (by cases lo<;>simp[Op.operands]) s rfl) (g2 hp);exact⟨ki,by rw[g5,g3.h g6,g4 hp]⟩
section
variable {P : Program} {r : Option Nat} {N : Nat} {X : Cx} {K : TK} {Γ : TE} {S : List Ow} {ops : Array Oper} {p qx qy qi : Prop} {Ψx Ψy Ψi : PV} {d i j m bytes : Nat} {x y lo hi : Operand} {t t' e : TypeId} {pos : String} {af : Array Edge} {l : List Oper} {xs : List Nat} {ki kj : IntKind} {a b : Int} {C D G G' : Prop}
instance (priority:=high)[h:TV Γ x qx (sv (ntx xs))][g:TV Γ hi qi Ψi][Im p qx][hq:Im p qi][TSl P t e 1 bytes][vi:VI Ψi ki a][ij:IJ a j C][an:An C (j≤xs.length) G]:OB P r N ops S p (.slice t x none (some hi) none) t' Γ (sv (ntx (xs.take j))) (p→G) :=
 ⟨fun A=>osn 0 j h.h rfl ⟨_,_,_,_,g.h,hq.h,vi,fun q=>ij.h (an.h (A q)).1⟩ (fun _=>zaD _) fun q=>(an.h (A q)).2⟩
instance (priority:=high)[h:TV Γ x qx (sv (ntx xs))][g:TV Γ lo qi Ψi][Im p qx][hq:Im p qi][TSl P t e 1 bytes][vi:VI Ψi ki a][ij:IJ a j C][an:An C (j≤xs.length) G]:OB P r N ops S p (.slice t x (some lo) none none) t' Γ (sv (ntx (xs.drop j))) (p→G) :=
 ⟨fun A=>by
  intro M d pos af;have:=osn (P:=P) (r:=r) (N:=N) (S:=S) (ops:=ops) (M:=M) (p:=p) (d:=d) (t:=t) (t':=t') (pos:=pos) (af:=af) (bytes:=bytes) (lo:=some lo) (hi:=none) j xs.length h.h ⟨_,_,_,_,g.h,hq.h,vi,fun q=>ij.h (an.h (A q)).1⟩ (fun _=>rfl) (fun q=>(an.h (A q)).2) fun _=>zab _;rwa [zaz (by simp)] at this⟩
instance (priority:=high)[ht:TSl P t e 1 bytes][hz:Z1 P e (.int .u32 0)][h1:TV Γ x qx Ψx][h2:TV Γ y qy Ψy][Tr qx][Tr qy][v1:VI Ψx ki a][v2:VI Ψy kj b][p1:IJ a i C][p2:IJ b j D][an:An C D G][an':An G (i≤j∧j≤100000000000) G']:Au (TO P r N ops X K (⟨some d,.makeSlice t x y,t',pos,af,none⟩::l) Γ S) G' (∀ v',TO P r N ops X K l ((d,True,exP v')::Γ) (.row v' e 1 ((List.replicate i 0).map xw)::S)) :=
 ⟨fun A h=>tmk i j (p1.h (an.h (an'.h A).1).1) (p2.h (an.h (an'.h A).1).2) (an'.h A).2.1 (an'.h A).2.2 (by rw[List.map_replicate] at h;exact h)⟩
end
instance {x:Nat}:SzC (xw x) 1:=⟨rfl⟩
theorem gG {xs ys:List Nat}(h:∀ x∈xs,x<4294967296)(e:xs=ys):PSub (sv (sl 1 (xs.map xw))) (sv (ntx ys)):=fun M w v ⟨u,us,e1,h1,h2,h3⟩=>by
 subst e;have e2:us=xs.map lw:=by
  have:∀ {xs:List Nat} {us:List Value},stp (xs.map xw) M w us→us=xs.map lw:=by
   intro xs
   induction xs with
   | nil=>intro us h;exact h
   | cons x xs ih=>rintro us ⟨a,b,rfl,⟨rfl,_⟩,h⟩;rw[ih h];rfl
  exact this h2
 subst e2;rw[zar] at h1;exact⟨u,e1,h1,h⟩
class XW (τs:List PV)(xs:outParam (List Nat))(C:outParam Prop):Prop where
 h:C→(∀ x∈xs,x<4294967296)
 e:∀ {M w vs},Fa τs M w vs→Fa (xs.map fun(x:Nat)=>exP (.int .u32 (x:Int))) M w vs
instance:XW [] [] True:=⟨fun _=>by simp,id⟩
instance {Ψ:PV}{τs:List PV}{x:Nat}{xs:List Nat}{C D:Prop}[v:VU Ψ .u32 x][h:XW τs xs C][g:An (x<4294967296) C D]:XW (Ψ::τs) (x::xs) D :=
 ⟨fun c y hy=>(zad.1 hy).elim (fun e=>e ▸ (g.h c).1) (h.h (g.h c).2 y),fun⟨u,us,e,k1,k2⟩=>⟨u,us,e,v.h k1,h.e k2⟩⟩
theorem yL0:∀ {xs:List Nat},CtL (xs.map fun(x:Nat)=>exP (.int .u32 (x:Int))) (xs.map xw)
 | []=>(inferInstance:CtL [] [])
 | x::xs=>have:=@yL0 xs;(inferInstance:CtL (exP (.int .u32 (x:Int))::xs.map fun(x:Nat)=>exP (.int .u32 (x:Int))) (xw x::xs.map xw))
theorem xE {P:Program}{r:Option Nat}{N:Nat}{ops:Array Oper}{M:Nat→Prop}{S:List Ow}{p:Prop}{o:Oper}{Γ:TE}{Ψ Φ:PV}(h:Ob P r N ops M S p o Γ Ψ)(hs:PSub Ψ Φ):Ob P r N ops M S p o Γ Φ:=fun D E w d hd hN hg hp hT =>
 iL (h D E w d hd hN hg hp hT) fun D' E' w' ⟨e1,e2,v,e3,e4⟩=>⟨e1,e2,v,e3,hs _ _ _ e4⟩
theorem obsn {P:Program}{r:Option Nat}{N:Nat}{ops:Array Oper}{M:Nat→Prop}{S:List Ow}{p q:Prop}{Γ:TE}{d:Nat}{t t' e:TypeId}{pos:String}{af:Array Edge}{bytes len:Nat}{parts:List (Nat×Operand)}{τs:List PV}{xs:List Nat}{C:Prop}(hx:tvs Γ (parts.map (·.2))=some (q,τs))[hi:Im p q][ht:TSl P t e 1 bytes][hw:XW τs xs C](hp:parts.map (·.1)=List.range len)(hl:Nat.ble len 1000=true)(h0:Nat.beq len 0=false)(hn:xs.length=len)(hC:C) :
  Ob P r N ops M S p ⟨some d,.buildSlice t len parts.toArray,t',pos,af,none⟩ Γ (sv (ntx xs)):=fun D E w d' hd hN hg hp' hT=>by
 obtain rfl:=Option.some.inj hd;obtain⟨vs,e1,h1⟩:=gU hT hx (hi.h hp') fun x hx=>gA (by simpa [Op.operands] using hx);obtain⟨uss,g1,g2,g3⟩:=yL0.h (hw.e h1);have hall:uB 1 (xs.map xw):=fun c hc=>by obtain⟨a,_,rfl⟩:=zai.1 hc;rfl
 have hlen:=jN g2;rw[eN hall,zar,hn] at hlen;obtain⟨z,hz,hzc⟩:=ht.s;have hle:=zbZ hl;refine qB hN ht.u hz hzc ht.n (by simpa using hp) (by simpa using e1) g1 ?_ (by simpa using hl) h0 fun w' b hw'=>?_
 ·refine zaC.2 fun c hc=>?_;have:c.length∈uss.map List.length:=zcj hc;rw[g3] at this;obtain⟨ct,h3,h4⟩:=zai.1 this;rw[← h4,hall ct h3];rfl
 ·refine xH ⟨rfl,hw'.below,_,xO (by simp),gG (hw.h hC) rfl M w' _ ⟨_,uss.flatten,rfl,?_,yX g2 (Cl.bel hw'.below),hall⟩⟩;rw[zar,hn];exact hw'.blk.slc (hg.ok.new hw') (by simpa using hlen) (fun j u hj=>by simpa using hj) (by omega) (Nat.le_refl _)
instance (priority:=high){P:Program}{r:Option Nat}{N:Nat}{ops:Array Oper}{S:List Ow}{p q:Prop}{Γ:TE}{t t' e:TypeId}{bytes len:Nat}{parts:List (Nat×Operand)}{τs:List PV}{xs:List Nat}{C:Prop}[hx:TPs Γ parts q τs][Im p q][TSl P t e 1 bytes][XW τs xs C]:OB P r N ops S p (.buildSlice t len parts.toArray) t' Γ (sv (ntx xs)) ((decide (parts.map (·.1)=List.range len)&&Nat.ble len 1000 && !Nat.beq len 0&&Nat.beq xs.length len)=true∧C) :=
 ⟨fun⟨A,c⟩=>by
  simp only[zaq,decide_eq_true_eq,zct] at A;exact obsn hx.h A.1.1.1 A.1.1.2 A.1.2 (zaj A.2) c⟩
instance (priority:=high){xs:List Nat}{j:Nat}:LA (xs.map xw) j (xw (xs.getD j 0)):=⟨fun h=>by
 have h:j<xs.length:=by simpa using h
 simp[zag h]⟩
instance (priority:=high){α:Type}{f:α→CT}{xs:List α}{b:Nat}:DT (xs.map f) 0 b ((xs.take b).map f):=⟨by simp[List.map_take]⟩
instance {i i':Int}{j k:Nat}{C D G:Prop}[h:IJ i j C][h':IJ i' k D][g:An C D G]:IJ (max i i') (max j k) G:=⟨fun c=>by rw[h.h (g.h c).1,h'.h (g.h c).2];omega⟩
instance {i i':Int}{j k:Nat}{C:Prop}[h:IJ i j C][h':LitZ i' k]:IJ (i/i') (j/k) C:=⟨fun c=>by rw[h.h c,h'.h];rfl⟩
instance {i i':Int}{j k:Nat}{C:Prop}[h:IJ i j C][h':LitZ i' k]:IJ (i'*i) (k*j) C:=⟨fun c=>by rw[h.h c,h'.h];rfl⟩
instance {i i':Int}{j k:Nat}{C D G:Prop}[h:IJ i j C][h':IJ i' k D][g:An C D G]:IJ (min i i') (min j k) G:=⟨fun c=>by rw[h.h (g.h c).1,h'.h (g.h c).2];omega⟩
theorem nlt {P:Program}{f:FuncId}{τs:List PV}{ρ:PV}{xs:List Nat}(i:Nat)(hi:τs[i]? = some (sv (ntx xs)))(hb:Bod P f)(h:(∀ x∈xs,x<4294967296)→CTy P f τs ρ):CTy P f τs ρ :=
 ⟨hb,fun M w vs hM hT hv=>by
  obtain⟨v,_,u,e,h1⟩:=hv.at_ hi;exact(h h1.lt).run M w vs hM hT hv⟩
theorem nlo {P:Program}{f:FuncId}{τs:List PV}{Si:List Ow}{Q:PV→List Ow→Prop}{xs:List Nat}(i:Nat)(hi:τs[i]? = some (sv (ntx xs)))(hb:Bod P f)(h:(∀ x∈xs,x<4294967296)→CTo P f τs Si Q):CTo P f τs Si Q :=
 ⟨hb,fun M w vs hG hA hZ hM hv=>by
  obtain⟨v,_,u,e,h1⟩:=hv.at_ hi;exact(h h1.lt).run M w vs hG hA hZ hM hv⟩
instance:Z1 prog 155 (.int .u32 0):=⟨_,yD6,by decide,rfl⟩
theorem uE {xs ys:List Nat}(h:xs=ys):PSub (sv (ntx xs)) (sv (ntx ys)):=fun M w v k=>h ▸ k
theorem sH {xs:List Nat}{i:Int}(j:Nat)(h:i=(j:Int)):CTy prog 366 [sv (ntx xs),exP (.int .i64 i)] (exP (.int .u32 ((xs.getD j 0:Nat):Int))):=by
 subst h;refine fw [.tmp 4] func366 fun X=>?_;repeat refine u ?_
 refine tp (fun c0=>?_) fun c0=>?_;repeat refine u ?_
 exact e;repeat refine u ?_
 refine e ?_;refine ps_i ?_;rw[yR (by omega)];rfl
abbrev ownN (xs:List Nat):PV→List Ow→Prop:=fun r So=>∃ v,r=exP v∧So=[.row v 155 1 (xs.map xw)]
theorem yG4 {xs:List Nat}(hl:xs.length≤1000000000):CTo prog 333 [sv (sl 1 (xs.map xw))] [] (ownN xs):=by
 refine fwo [.tmp 2] func333 fun X=>?_;repeat refine u ?_
 refine tqn fun b4 hb=>?_;repeat refine u ?_
 refine tp (fun c0=>?_) fun c0=>?_;rotate_left;iterate 3 refine u ?_
 refine u fun r5=>?_;refine u ?_;refine u fun r7=>?_;repeat refine u ?_
 exact er ⟨_,rfl,rfl⟩;have h0:xs=[]:=List.length_eq_zero_iff.1 (by simpa using hb (by simpa using c0));subst h0;refine t_ts (jG 155 1) ?_;repeat refine u ?_
 exact er ⟨_,rfl,rfl⟩
theorem yO5 {P:Program}{f:FuncId}{τs:List PV}{xs:List Nat}(h:CTo P f τs [] (ownN xs))(hx:∀ x∈xs,x<4294967296):CTy P f τs (sv (ntx xs)) :=
 ⟨h.bod,fun M w vs hM hT hv=>by
  have e:Mk [] M=M:=by funext k;simp[Mk]
  refine(h.run M w vs ⟨by rw[e];exact hM,by rw[e];exact hT,fun _ h=>by simp at h⟩ trivial (fun b ⟨o,h,_⟩=>by simp at h) hM (by rw[e];exact hv)).mono fun v w' ⟨hb,ρ,So,⟨b,e1,e2⟩,hg,_,hn,hρ⟩=>⟨⟨hb.os,hb.tape,hb.output,hb.size,fun k hk=>hb.block k hk fun⟨o,h,_⟩=>by simp at h⟩,?_⟩;subst e1 e2;obtain rfl:v=b:=hρ;obtain⟨us,g1,g2,g3⟩:=hg.own _ (zak.2 rfl);have hm:∀ b,v.ownBlock=some b→¬ M b:=fun b hb' hmb=>by
   have:=hM b hmb;rcases hn b ⟨_,zak.2 rfl,hb'⟩ with c | ⟨o,h,_⟩
   ·omega
   ·simp at h
  refine gG hx rfl M w' _ ⟨v,us,rfl,vF g1 hm,yX g2 (Cl.less fun k hk => .inr hk),g3⟩⟩
theorem yK8 {P:Program}{f:FuncId}{τs σs:List PV}{Si:List Ow}{Q:PV→List Ow→Prop}(h:CTo P f σs Si Q)(k:Fsub τs σs):CTo P f τs Si Q:=⟨h.bod,fun M w vs a b c d e=>h.run M w vs a b c d (k _ _ _ e)⟩
theorem tcoN {P:Program}{r:Option Nat}{N:Nat}{X:Cx}{K:TK}{Γ:TE}{S Si Sr:List Ow}{ops:Array Oper}{q qx:Prop}{Ψx:PV}{d:Nat}{x:Operand}{t':TypeId}{pos:String}{af:Array Edge}{l:List Oper}{f:FuncId}{xs:List Operand}{ts:Array TypeId}{τs ca:List PV}{ys:List Nat}(is:List Nat)(hp:qN S 0 is=(Si,Sr))(hf:tv Γ x=some (qx,Ψx))(hx:tvs Γ xs=some (q,τs))[hqx:Tr qx][hq:Tr q][hv:VF Ψx f ca](hk:CTo P f (τs++ca) Si (ownN ys))
  (h:∀ v,TO P r N ops X K l ((d,True,exP v)::Γ) (.row v 155 1 (ys.map xw)::Sr)):TO P r N ops X K (⟨some d,.call ⟨.value x,xs.toArray,ts⟩,t',pos,af,none⟩::l) Γ S:=tco is hp hf hx hk fun _ _ ⟨v,e1,e2⟩=>by subst e1 e2;exact h v
theorem yO6 {xs:List Nat}(hl:xs.length≤1000000000):CTo prog 283 [sv (ntx xs)] [] (ownN (limbs (val xs))):=by
 refine nlo 0 rfl (bo func283) fun hx=>?_;refine fwo [.tmp 2] func283 fun X=>?_;repeat refine u ?_
 refine lp (σ:=Nat) [0,2] (fun n=>[(3,True,zJ n)]) (fun n=>[]) (fun n=>n≤xs.length∧∀ j,n≤j→xs.getD j 0=0) (fun n=>n) (xs.length) (⟨by omega,fun j h=>yR h⟩) fun n hJ Y _=>?_;repeat refine u ?_
 refine tp (fun c0=>?_) fun c0=>?_;repeat refine u ?_
 rotate_left;repeat refine u ?_
 refine tcoN [] rfl rfl rfl (yK8 (yG4 (xs:=xs.take n) (by(simp;omega))) (fs1 (fun M w v h=>h.2) fs0)) fun r22=>?_;repeat refine u ?_
 rotate_left
 ·refine nxt (n-1) ?_;refine⟨by omega,fun j hj=>?_⟩;rcases zaf j n with c | c
  ·rw[show j=n-1 by omega];omega
  ·exact hJ.2 j c
 ·rw[oH hx hJ.1 hJ.2 (by omega)];exact er ⟨_,rfl,rfl⟩
theorem kE {xs:List Nat}(hl:xs.length≤1000000000):CTy prog 283 [sv (ntx xs)] (sv (ntx (limbs (val xs)))):=yO5 (yO6 hl) (yF _)
theorem mK:PSub (exP (.slice none 0 0)) (sv (ntx [])):=fun M w v h=>by
 obtain rfl:v=_:=h;exact⟨_,rfl,fF⟩
theorem kof {n:Nat}(hn:n<18446744073709551616):CTy prog 267 [exP (.int .u64 ((n:Nat):Int))] (sv (ntx (limbs n))):=by
 refine fw [.tmp 2] func267 fun X=>?_;repeat refine u ?_
 refine zB rfl rfl (kE (by(simp;done))) ?_;repeat refine u ?_
 refine e ?_;exact uE (by congr 1;simp only[val];omega)
theorem zX1 {xs:List Nat}(hl:xs.length≤1000000000):CTy prog 360 [sv (ntx xs)] (tu [exP (.int .u64 ((qF (val xs):Nat):Int)),exP (.bool (decide (val xs<18446744073709551616)))]):=by
 refine nlt 0 rfl (bo func360) fun hx=>?_;refine fw [.tmp 2,.tmp 3] func360 fun X=>?_;repeat refine u ?_
 refine lp (σ:=Nat) [0,6,7] (fun n=>[(8,True,zJ n)]) (fun n=>[]) (fun n=>n≤xs.length∧∀ j,2≤j→j<n→xs.getD j 0=0) (fun n=>xs.length-n) (0) (⟨by omega,by omega⟩) fun n hJ Y _=>?_;have h0:=yC hx 0;have h1:=yC hx 1;have h2:1<n→xs.getD n 0≠0→¬ val xs<18446744073709551616:=fun a b=>eQ hx a b;repeat refine u ?_
 refine tp (fun c0=>?_) fun c0=>?_;repeat refine u ?_
 refine tp (fun c1=>?_) fun c1=>?_;repeat refine u ?_
 refine e ⟨?_,?_⟩;refine ps_i ?_;rotate_left;refine psb (by(simp;omega));repeat refine u ?_
 rotate_left;repeat refine u ?_
 refine zB rfl rfl (sH 1 rfl) ?_;repeat refine u ?_
 refine zB rfl rfl (sH 0 rfl) ?_;repeat refine u ?_
 refine e ⟨?_,?_⟩;refine ps_i ?_;rotate_left;refine psb ?_;rotate_left
 ·obtain⟨c2,c3⟩:=c1;rw[qF,if_neg (h2 (by omega) (by omega))];rfl
 ·refine⟨n+1,tes ?_ ?_ (zaa _),?_,(by omega)⟩;refine zA rfl tn;refine zA rfl (zA rfl (zA rfl tn));refine⟨by omega,fun j h3 h4=>?_⟩;rcases zaf j n with c | c
  ·exact hJ.2 j h3 c
  ·rw[show j=n by omega];omega
 ·have h3:=rL hx fun j hj=>(zaf j n).elim (hJ.2 j hj) fun c=>yR (by omega);rw[qF,if_pos h3.1,h3.2,show xs.getD 1 0*2^32%xX .u64=xs.getD 1 0*4294967296 by simp only[xX];omega,yF7 _ _ h0];omega
 ·have h3:=rL hx fun j hj=>(zaf j n).elim (hJ.2 j hj) fun c=>yR (by omega);exact(decide_eq_true h3.1).symm
theorem yQ3 {xs ys:List Nat}(hl:xs.length≤1000000000)(hm:ys.length≤1000000000):CTy prog 364 [sv (ntx xs),sv (ntx ys)] (exP (.int .i64 (cmpN (val xs) (val ys)))):=by
 refine nlt 0 rfl (bo func364) fun hx=>nlt 1 rfl (bo func364) fun hy=>?_;refine fw [.tmp 4] func364 fun X=>?_;repeat refine u ?_
 refine lp (σ:=Nat) [0,1] (fun n=>[(4,True,exP (.int .i64 0)),(5,True,exP (.int .i64 ((n:Nat)-1:Int)))]) (fun n=>[]) (fun n=>n≤max xs.length ys.length∧∀ j,n≤j→xs.getD j 0=ys.getD j 0) (fun n=>n) (max xs.length ys.length) (⟨by omega,fun j h=>by rw[yR (by omega),yR (by omega)]⟩) fun n hJ Y _=>?_;repeat refine u ?_
 refine tp (fun c0=>?_) fun c0=>?_;repeat refine u ?_
 refine zB rfl rfl (sH (n-1) (by omega)) ?_;repeat refine u ?_
 refine zB rfl rfl (sH (n-1) (by omega)) ?_;repeat refine u ?_
 refine tp (fun c1=>?_) fun c1=>?_;repeat refine u ?_
 refine e ?_;refine ps_i ?_;rotate_left;repeat refine u ?_
 refine tp (fun c2=>?_) fun c2=>?_;repeat refine u ?_
 refine e ?_;refine ps_i ?_;rotate_left;repeat refine u ?_
 rotate_left;repeat refine u ?_
 refine e ?_;refine ps_i ?_;rotate_left
 ·rw[yA0 (aV hx hy (j:=n-1) (by omega) fun i hi=>hJ.2 i (by omega))]
 ·rw[yA1 (aV hy hx (j:=n-1) (by omega) fun i hi=>(hJ.2 i (by omega)).symm)]
 ·refine⟨n-1,tes ?_ ?_ (zaa _),?_,(by omega)⟩;refine zA rfl (tc rfl (ps_i (by omega)) (tn));refine zA rfl (zA rfl tn);refine⟨by omega,fun j hj=>?_⟩;rcases zaf j n with c | c
  ·rw[show j=n-1 by omega];omega
  ·exact hJ.2 j c
 ·rw[yA2 (aW fun j=>hJ.2 j (by omega))]
theorem zL3 {xs ys:List Nat}(hx:∀ x∈xs,x<4294967296)(hy:∀ x∈ys,x<4294967296)(hl:xs.length≤1000000000)(hm:ys.length≤1000000000):CIt prog 365 [pa (ntx xs),pa (ntx ys)] (yH xs ys) (fun p=>[exP (.int .u64 ((p.1:Nat):Int)),exP (.int .u64 ((p.2:Nat):Int))]):=by
 refine cit func365 rfl rfl rfl rfl rfl fun X y YS YX hY hS=>?_;repeat refine u ?_
 refine lpy (σ:=Nat) [0,1,2,9] (fun i=>[(10,True,zJ i)]) (fun i=>[]) (fun i Y=>YS ((yH xs ys).take i) Y∧i≤max xs.length ys.length) (fun i=>max xs.length ys.length-i) (0) (⟨hS,by omega⟩) fun i Y hG=>?_;obtain⟨hS,hi⟩:=hG;have h0:=yC hx i;have h1:=yC hy i;repeat refine u ?_
 refine tp (fun c0=>?_) fun c0=>?_;iterate 9 refine u ?_
 refine zK 9 mixed rfl rfl ?_;repeat refine u ?_
 refine zC rfl rfl (sH i (by omega)) ?_;repeat refine u ?_
 refine zC rfl rfl (sH i (by omega)) ?_;repeat refine u ?_
 rotate_left;repeat refine u ?_
 rotate_left
 ·have h2:=oR (xs:=xs) (ys:=ys) (s:=i) (by omega);refine gM (x:=(xs.getD i 0,ys.getD i 0)) hY hS h2.2 rfl rfl (fs1 (PSub.refl _) (fs1 (PSub.refl _) fs0)) (fun Y hS=>?_) (fun Y hX=>?_)
  ·repeat refine u ?_
   refine gZ rfl rfl ?_;repeat refine u ?_
   refine⟨i+1,tes ?_ ?_ (zaa _),?_,(by omega)⟩;refine zA rfl tn;refine zA rfl (zA rfl (zA rfl (zA rfl tn)));exact⟨by rw[h2.1];exact hS,by omega⟩
  ·repeat refine u ?_
   refine kD rfl rfl ?_;repeat refine u ?_
   exact .inr hX
 ·rw[rU (by omega)] at hS;exact .inl hS
theorem zX2 {xs ys:List Nat}:CTy prog 340 [sv (ntx xs),sv (ntx ys)] (fn 365 [pa (ntx xs),pa (ntx ys)]):=by
 refine fw [.tmp 4] func340 fun X=>?_;repeat refine u ?_
 exact e
instance:Df (List Nat):=⟨[]⟩
theorem yM0 {k:Nat}{xss:List (List Nat)}(hk:k<xss.length):((xss.take (k+1)).map val).sum=((xss.take k).map val).sum+val (xss.getD k Df.d):=by
 rw[(zT (Df.d:List Nat) hk).1,zay,List.sum_append];simp
theorem yQ4 {xss:List (List Nat)}(hl:∀ xs∈xss,xs.length≤100000000∧∀ x∈xs,x<4294967296)(hn:xss.length≤100000000):CTy prog 304 [sv (sl 1 (xss.map ntx))] (sv (ntx (limbs ((xss.map val).sum)))):=by
 refine fw [.tmp 2] func304 fun X=>?_;repeat refine u ?_
 refine t_ts (qL (s:=2) rfl mK) ?_;refine lp (σ:=Nat×List Nat) [9,10] (fun s=>[(2,True,sv (ntx s.2)),(11,True,zJ s.1)]) (fun s=>[]) (fun s=>s.1≤xss.length∧val s.2=((xss.take s.1).map val).sum∧s.2.length≤100000000+s.1∧∀ x∈s.2,x<4294967296) (fun s=>xss.length-s.1) ((0,[])) (⟨by simp,by simp[val],by simp,by simp⟩) fun s hJ Y _=>?_;obtain⟨k,zs⟩:=s;dsimp only at hJ ⊢;obtain⟨hk,hv,hzl,hz⟩:=hJ;have hxs:k<xss.length→(xss.getD k Df.d).length≤100000000∧∀ x∈xss.getD k Df.d,x<4294967296:=fun h=>hl _ (by rw[zah,zag h];exact zaP h);repeat refine u ?_
 refine tp (fun c0=>?_) fun c0=>?_;rotate_left;repeat refine u ?_
 refine zB rfl rfl (kE (by omega)) ?_;repeat refine u ?_
 refine e ?_;rotate_left
 ·have hk2:k<xss.length:=by omega
  obtain⟨h5,h6⟩:=hxs hk2;have h7:=yM0 hk2;iterate 11 refine u ?_
  refine u fun b5=>?_;iterate 10 refine u ?_
  refine u fun r21=>(u fun b6=>?_);refine tsw 0 1 rfl rfl rfl rfl rfl rfl rfl ?_;repeat refine u ?_
  refine zB rfl rfl zX2 ?_;repeat refine u ?_
  have hpl:=qX zs (xss.getD k Df.d);refine jZ (σ:=List Nat×Nat×Value) (fun t=>[.blk b6 25 [xc t.2.2],.row t.2.2 155 1 (t.1.map xw),.blk b5 196 [xc (.int .u64 ((t.2.1:Nat):Int))]]) (fun pre t=>t.1.length=pre.length∧val t.1+4294967296^t.1.length*t.2.1=val (pre.map (·.1))+val (pre.map (·.2))∧t.2.1≤1∧∀ z∈t.1,z<4294967296) ([],0,r21) rfl (zL3 hz h6 (by omega) (by omega)) (fun _=>rfl) rfl kR rfl ⟨rfl,by simp[val],by simp,by simp⟩ (fun pre x post t hp hJ Y y hl=>?_) (fun t hJ Y _=>?_)
  ·obtain⟨ws,c,v⟩:=t;dsimp only at hJ ⊢;obtain⟨j1,j2,j3,j4⟩:=hJ;have hxb:=zJ0 hz h6 x (by rw[hp];simp);have h8:pre.length<200000001:=by have:=congrArg List.length hp;rw[qX] at this;simp only[zal,zaw] at this;omega
   repeat refine u ?_
   refine zA1 (oas rfl) ?_;repeat refine u ?_
   refine zA1 (oas rfl) ?_;repeat refine u ?_
   refine⟨rfl,fun Y hl=>?_⟩;repeat refine u ?_
   refine zA1 (zG 2 rfl) ?_;repeat refine u ?_
   refine zD 2 rfl rfl ?_;repeat refine u ?_
   refine zA1 (zG 0 rfl) ?_;refine zA1 (zG 2 rfl) ?_;repeat refine u ?_
   refine tap 1 rfl rfl rfl (by(simp;omega)) rfl fun r36=>?_;refine tsw 0 1 rfl rfl rfl rfl rfl rfl rfl ?_;repeat refine u ?_
   refine zA1 (zG 2 rfl) ?_;repeat refine u ?_
   refine zD 2 rfl rfl ?_;repeat refine u ?_
   refine⟨(ws++[(c+(x.1+x.2))%4294967296],(c+(x.1+x.2))/4294967296,r36),(by(simp;done)),?_⟩;refine⟨by simp[j1],zN8 j1 j2,by simp only;omega,fun z hz=>(zae.1 hz).elim (j4 z) fun h=>by rw[zak.1 h];omega⟩
  ·obtain⟨ws,c,v⟩:=t;dsimp only at hJ ⊢;obtain⟨j1,j2,j3,j4⟩:=hJ;have h9:∀ x∈ws++[c%4294967296],x<4294967296:=fun x hx=>(zae.1 hx).elim (j4 x) fun h=>by rw[zak.1 h];omega
   rw[aO,aN] at j2;iterate 5 refine u ?_
   refine u fun r43=>(zO (yV (s:=43) 1 rfl rfl) (zA1 (xE (oas rfl) (gG h9 rfl)) ?_));repeat refine u ?_
   refine⟨(k+1,ws++[c%4294967296]),tes ?_ ?_ (by(simp;done)),?_,(by omega)⟩;refine zA rfl (zA rfl tn);refine zA rfl (zA rfl tn);refine⟨by simp only;omega,?_,by simp only[zal,zaw,zbk];omega,h9⟩;simp only[gY];rw[h7,← hv,← j2,show c%4294967296=c by omega]
 ·exact uE (by rw[hv,zaz (by omega)])
theorem yH8 {xs ys:List Nat}(hl:xs.length≤500000000)(hm:ys.length≤500000000):CTy prog 339 [sv (ntx xs),sv (ntx ys)] (tu [sv (ntx (limbs (val xs-val ys))),exP (.int .i64 (if val xs<val ys then 10 else 0))]):=by
 refine nlt 0 rfl (bo func339) fun hx=>nlt 1 rfl (bo func339) fun hy=>?_;refine fw [.tmp 4,.tmp 5] func339 fun X=>?_;repeat refine u ?_
 refine zB rfl rfl (yQ3 (by omega) (by omega)) ?_;repeat refine u ?_
 refine tp (fun c0=>?_) fun c0=>?_;repeat refine u ?_
 refine e ⟨?_,?_⟩;rotate_left;refine ps_i ?_;rotate_left;iterate 3 refine u ?_
 refine u fun b6=>?_;iterate 3 refine u ?_
 refine u fun b7=>?_;repeat refine u ?_
 refine zB rfl rfl zX2 ?_;repeat refine u ?_
 rotate_left
 ·rw[show val xs-val ys=0 by have:=qA.1 c0;omega,yG];exact mK
 ·rw[if_pos (qA.1 c0)]
 have hle:val ys≤val xs:=zcu fun c=>c0 (qA.2 c);refine t_ts (jG 155 1) ?_;have hpl:=qX xs ys;refine jZ (σ:=List Nat×Nat×Value) (fun t=>[.row t.2.2 155 1 (t.1.map xw),.blk b7 196 [xc (.int .u64 ((t.2.1:Nat):Int))],.blk b6 25 [xc t.2.2]]) (fun pre t=>t.1.length=pre.length∧val t.1+val (pre.map (·.2))+4294967296^t.1.length*t.2.1=val (pre.map (·.1))+4294967296^t.1.length*(2*t.2.1)∧t.2.1≤1∧∀ z∈t.1,z<4294967296) ([],0,.slice none 0 0) rfl (zL3 hx hy (by omega) (by omega)) (fun _=>rfl) rfl kR rfl ⟨rfl,by simp[val],by simp,by simp⟩ (fun pre x post t hp hJ Y y hl=>?_) (fun t hJ Y _=>?_)
 ·obtain⟨zs,c,v⟩:=t;dsimp only at hJ ⊢;obtain⟨j1,j2,j3,j4⟩:=hJ;have hxb:=zJ0 hx hy x (by rw[hp];simp);have h8:pre.length<500000000:=by have:=congrArg List.length hp;rw[qX] at this;simp only[zal,zaw] at this;omega
  have hD:=zT9 (x:=x.1) (y:=x.2) (c:=c) hxb.1 hxb.2 j3;repeat refine u ?_
  refine zA1 (oas rfl) ?_;repeat refine u ?_
  refine zA1 (oas rfl) ?_;repeat refine u ?_
  refine⟨rfl,fun Y hl=>?_⟩;repeat refine u ?_
  refine zA1 (osbw rfl rfl (by omega)) ?_;refine zA1 (zG 1 rfl) (zA1 (osbw rfl rfl (by omega)) ?_);repeat refine u ?_
  refine zA1 (zG 2 rfl) ?_;iterate 3 refine u ?_
  refine u fun r29=>?_;refine tsw 2 0 rfl rfl rfl rfl rfl rfl rfl ?_;repeat refine u ?_
  refine zD 1 rfl rfl ?_;repeat refine u ?_
  refine⟨(zs++[subD x.1 x.2 c%4294967296],subD x.1 x.2 c/9223372036854775808,r29),(zaa _),?_⟩;refine⟨by simp[j1],sub_step j1 j2 hD.1,hD.2.1,fun z hz=>(zae.1 hz).elim (j4 z) fun h=>by rw[zak.1 h];omega⟩
 ·obtain⟨zs,c,v⟩:=t;dsimp only at hJ ⊢;obtain⟨j1,j2,j3,j4⟩:=hJ;rw[aO,aN] at j2;repeat refine u ?_
  refine zO (yV (s:=32) 0 rfl rfl) (zO (qL (s:=32) rfl (gG j4 rfl)) (zB rfl rfl (kE (by omega)) ?_));repeat refine u ?_
  refine e ⟨?_,?_⟩;rotate_left;refine ps_i (by omega);exact uE (by rw[zT8 j4 j2 j3 hle])
theorem ilimbs {xs:List Nat}(hx:∀ x∈xs,x<4294967296)(hl:xs.length≤1000000000):CIt prog 363 [pa (ntx xs)] (lsOf xs xs.length) (fun p=>[zJ p.1,exP (.int .u64 ((p.2:Nat):Int))]):=by
 refine cit func363 rfl rfl rfl rfl rfl fun X y YS YX hY hS=>?_;repeat refine u ?_
 refine lpy (σ:=Nat) [0,5,6] (fun i=>[(7,True,zJ i)]) (fun i=>[]) (fun i Y=>YS (lsOf xs i) Y∧i≤xs.length) (fun i=>xs.length-i) (0) (⟨hS,by omega⟩) fun i Y hG=>?_;obtain⟨hS,hi⟩:=hG;have h0:=yC hx i;repeat refine u ?_
 refine tp (fun c0=>?_) fun c0=>?_;repeat refine u ?_
 rotate_left;repeat refine u ?_
 rotate_left
 ·refine wT (x:=(i,xs.getD i 0)) hY hS rfl rfl (fun e=>ls_at (by omega) (by have:=of_decide_eq_true e;omega)) rfl rfl (fs1 (PSub.refl _) (fs1 (PSub.refl _) fs0)) (fun e=>?_) (fun e Y hS=>?_) (fun e Y hX=>?_)
  ·have h0:xs.getD i 0=0:=by have:=of_decide_eq_false (Bool.eq_false_iff.2 e);omega
   repeat refine u ?_
   refine tp (fun c1=>?_) fun c1=>?_;repeat refine u ?_
   rotate_left;repeat refine u ?_
   rotate_left
   ·omega
   ·refine⟨i+1,tes ?_ ?_ (zaa _),?_,(by omega)⟩;refine zA rfl tn;refine zA rfl (zA rfl (zA rfl tn));exact⟨by rw[ls_skip h0];exact hS,by omega⟩
  ·have h0:=of_decide_eq_true e;repeat refine u ?_
   refine tp (fun c1=>?_) fun c1=>?_;repeat refine u ?_
   rotate_left;repeat refine u ?_
   rotate_left
   ·simp at c1
   ·refine⟨i+1,tes ?_ ?_ (zaa _),?_,(by omega)⟩;refine zA rfl tn;refine zA rfl (zA rfl (zA rfl tn));exact⟨by rw[zV9 (by omega)];exact hS,by omega⟩
  ·have h0:=of_decide_eq_true e;repeat refine u ?_
   refine tp (fun c1=>?_) fun c1=>?_;repeat refine u ?_
   rotate_left;repeat refine u ?_
   rotate_left
   ·exact .inr hX
   ·exact absurd e (by simpa using c1)
 ·rw[show i=xs.length by omega] at hS;exact .inl hS
theorem kplimbs {xs:List Nat}:CTy prog 338 [sv (ntx xs)] (fn 363 [pa (ntx xs)]):=by
 refine fw [.tmp 2] func338 fun X=>?_;repeat refine u ?_
 exact e
theorem kplain {xs ys:List Nat}(hl:xs.length≤100000000)(hm:ys.length≤100000000):CTy prog 302 [sv (ntx xs),sv (ntx ys)] (sv (ntx (limbs (val xs*val ys)))):=by
 refine nlt 0 rfl (bo func302) fun hx=>nlt 1 rfl (bo func302) fun hy=>?_;refine fw [.tmp 4] func302 fun X=>?_;iterate 12 refine u ?_
 refine u fun r16=>(u fun b5=>?_);refine tsw 0 1 rfl rfl rfl rfl rfl rfl rfl ?_;repeat refine u ?_
 refine zB rfl rfl kplimbs ?_;repeat refine u ?_
 refine jZ (σ:=List Nat) (fun zs=>[.blk b5 25 [xc r16],.row r16 155 1 (zs.map xw)]) (fun pre zs=>zs.length=xs.length+ys.length∧(∀ z∈zs,z<4294967296)∧val zs=psum pre*val ys∧∀ j,(∀ p∈pre,p.1+ys.length<j)→zs.getD j 0=0) (List.replicate (xs.length+ys.length) 0) rfl (ilimbs hx (by omega)) (fun _=>rfl) rfl kR rfl ⟨by simp,by intro z hz;have:=(zbP.1 hz).2;omega,by simp[gL,psum],fun j _=>by simp[zah,zcU];split<;>rfl⟩ (fun pre x post zs hp hJ Y y hl=>?_) (fun zs hJ Y _=>?_)
 ·obtain⟨j1,j2,j3,j4⟩:=hJ;obtain⟨hi,hxe,hpre⟩:=pB hp;have hxb:x.2<4294967296:=by rw[hxe];exact yC hx _
  repeat refine u ?_
  refine zA1 (oas rfl) ?_;repeat refine u ?_
  refine zA1 (oas rfl) ?_;repeat refine u ?_
  refine⟨rfl,fun Y hl=>?_⟩;repeat refine u ?_
  refine zA1 (old rfl rfl) ?_;repeat refine u ?_
  refine yZ (σ:=Nat×Nat×List Nat) (fun s=>[(8,True,exP (.int .u64 ((s.2.1:Nat):Int))),(23,True,zJ s.1)]) (fun s=>[.blk b5 25 [xc r16],.row r16 155 1 (s.2.2.map xw)]) (fun s=>s.1≤ys.length∧s.2.1<4294967296∧s.2.2.length=xs.length+ys.length∧(∀ z∈s.2.2,z<4294967296)∧(∀ j,x.1+ys.length≤j→s.2.2.getD j 0=0)∧val s.2.2+4294967296^(x.1+s.1)*s.2.1=psum pre*val ys+4294967296^x.1*(x.2*val (ys.take s.1))) (fun s=>ys.length-s.1) ((0,0,zs)) (tk 0 rfl (tk 3 rfl (tk 4 rfl (tk 5 rfl (tk 6 rfl (tk 7 rfl (tk 11 rfl (tk 12 rfl (tk 13 rfl (tk 14 rfl (tk 15 rfl (tk 16 rfl (tk 17 rfl (tk 18 rfl (tk 21 rfl (tk 22 rfl tn)))))))))))))))) ?_ rfl (⟨by simp,by simp,j1,j2,fun j hj=>j4 j fun p hp=>by have:=hpre p hp;omega,by simp[val,j3]⟩) (fun s hJ Y _=>?_);refine zA rfl (zA rfl tn);obtain⟨k,c,zs⟩:=s;dsimp only at hJ ⊢;obtain⟨k1,k2,k3,k4,k5,k6⟩:=hJ;have hby:=yC hy k;have hbz:=yC k4 (x.1+k);have hxy:x.2*ys.getD k 0≤4294967295*4294967295:=zaT (by omega) (by omega);repeat refine u ?_
  refine tp (fun c0=>?_) fun c0=>?_;repeat refine u ?_
  rotate_left;repeat refine u ?_
  rotate_left
  ·refine⟨(k+1,(c+(x.2*ys.getD k 0+zs.getD (x.1+k) 0))/4294967296,zs.set (x.1+k) ((c+(x.2*ys.getD k 0+zs.getD (x.1+k) 0))%4294967296)),tes ?_ ?_ (zaa _),?_,(by omega)⟩;refine zA rfl (zA rfl tn);refine zA rfl (zA rfl (zA rfl (zA rfl (zA rfl (zA rfl (zA rfl (zA rfl (zA rfl (zA rfl ?_)))))))));refine zA rfl (zA rfl (zA rfl (zA rfl (zA rfl (zA rfl tn)))));refine⟨by simp only;omega,by simp only;omega,by simp[k3],aP k4 (by omega),fun j hj=>by rw[jL (by omega)];exact k5 j hj,?_⟩;simp only;rw[show x.1+(k+1)=x.1+k+1 from rfl,mul_step2 (by omega) rfl k6,mul_row2]
  ·have e:k=ys.length:=by omega
   subst e;refine⟨zs.set (x.1+ys.length) (c%4294967296),(zaa _),?_⟩;refine⟨by simp[k3],aP k4 (by omega),?_,fun j hj=>?_⟩
   ·have:=aF (zs:=zs) (j:=x.1+ys.length) (c%4294967296) (by omega);rw[k5 _ (zab _),zao k2] at this;rw[zaF] at k6;rw[zao k2,← psum_snoc];omega
   ·have:=hj x (by simp);rw[jL (by omega)];exact k5 j (by omega)
 ·obtain⟨j1,j2,j3,j4⟩:=hJ;have h1:val zs=val xs*val ys:=by rw[j3,zV0,zaF]
  repeat refine u ?_
  refine zO (yV (s:=60) 1 rfl rfl) (zO (qL (s:=60) rfl (gG j2 rfl)) (zB rfl rfl (kE (by omega)) ?_));repeat refine u ?_
  refine e ?_;rw[h1];exact PSub.refl _
theorem kless {xs ys:List Nat}(hl:xs.length≤500000000)(hm:ys.length≤500000000):CTy prog 303 [sv (ntx xs),sv (ntx ys)] (sv (ntx (limbs (val xs-val ys)))):=by
 refine fw [.tmp 4] func303 fun X=>?_;repeat refine u ?_
 refine zB rfl rfl (yH8 (by omega) (by omega)) ?_;repeat refine u ?_
 exact e
theorem yI5 {xs:List Nat}{n:Nat}{j:Int}(hj:j=(n:Int))(hn:n≤100000000)(hl:xs.length≤100000000):CTy prog 305 [sv (ntx xs),exP (.int .i64 j)] (sv (ntx (List.replicate n 0++xs))):=by
 subst hj;refine nlt 0 rfl (bo func305) fun hx=>?_;refine fw [.tmp 4] func305 fun X=>?_;iterate 7 refine u ?_
 refine u fun r6=>?_;refine u ?_;refine u fun r8=>?_;iterate 2 refine u ?_
 refine t_ts (yV (s:=4) 0 rfl rfl) ?_;repeat refine u ?_
 refine e ?_;refine gG (fun x h=>?_) rfl;rcases zae.1 h with h | h
 ·rw[(zbP.1 h).2];omega
 ·exact hx x h
theorem pJ {xs ys:List Nat}(hl:xs.length≤100000000∧∀ x∈xs,x<4294967296)(hm:ys.length≤100000000∧∀ x∈ys,x<4294967296):CTy prog 304 [sv (sl 1 [ntx xs,ntx ys])] (sv (ntx (limbs (val xs+val ys)))):=by
 have:=yQ4 (xss:=[xs,ys]) (fun zs h=>by simp at h;rcases h with rfl | rfl;exact hl;exact hm) (by simp);simpa using this
theorem knadd3 {xs ys zs:List Nat}(hl:xs.length≤100000000∧∀ x∈xs,x<4294967296)(hm:ys.length≤100000000∧∀ x∈ys,x<4294967296)(hn:zs.length≤100000000∧∀ x∈zs,x<4294967296):CTy prog 304 [sv (sl 1 [ntx xs,ntx ys,ntx zs])] (sv (ntx (limbs (val xs+(val ys+val zs))))):=by
 have:=yQ4 (xss:=[xs,ys,zs]) (fun zs h=>by simp at h;rcases h with rfl | rfl | rfl;exact hl;exact hm;exact hn) (by simp);simpa using this
def fc (f:FuncId)(l:List PV):CT where
 sz:=1
 p M w cs:=∃ v,cs=[v]∧(fn f l).p M w v
 len h:=by obtain⟨_,rfl,_⟩:=h;rfl
 one h:=by obtain⟨_,rfl,_,rfl,_⟩:=h;exact allc rfl alln
 mono h k:=by obtain⟨v,rfl,h⟩:=h;exact⟨v,rfl,(fn f l).mono h k⟩
instance {f:FuncId}{l:List PV}:CtOf (fn f l) (fc f l):=⟨fun {M w v} h=>⟨[v],by obtain⟨_,rfl,_⟩:=h;rfl,v,rfl,h⟩⟩
instance {f:FuncId}:CtOf (exP (.func (.func f) #[] #[])) (fc f []):=⟨fun {M w v} h=>⟨[v],by rw[show v=_ from h];rfl,v,rfl,[],h,rfl⟩⟩
instance {f:FuncId}{l:List PV}:LdA false (fc f l) (fn f l):=⟨fun h u e=>by obtain⟨v,e2,k⟩:=h;rw[e] at e2;rw[zbp.1 e2];exact k⟩
def zU5 (f:FuncId)(ty:TypeId):PV:=⟨fun M w v=>∃ b,v = .pointer (some ⟨b,0,none⟩)∧KBlk M w b ty [.func (.func f) #[] #[.pointer (some ⟨b,0,none⟩)]],fun⟨b,e,h⟩ l=>let g:=l b _ _ _ h.not h.blk;⟨b,e,⟨g.2,g.1⟩⟩⟩
theorem zU4 {f:FuncId}{ty:TypeId}:PSub (zU5 f ty) (pa (fc f [zU5 f ty])):=fun M w v ⟨b,e,h⟩ =>
 ⟨b,0,[.func (.func f) #[] #[v]],e,h.not,⟨#[.func (.func f) #[] #[v]],ty,(0,0),by subst e;exact h.blk,fun j v hj=>by simpa using hj⟩,_,rfl,[v],rfl,v,[],rfl,⟨b,e,h⟩,rfl⟩
theorem wI {n:Nat}{xs:List Nat}(hx:∀ x∈xs,x<4294967296):∀ x∈List.replicate n 0++xs,x<4294967296:=fun x h=>by
 rcases zae.1 h with h | h
 ·rw[(zbP.1 h).2];omega
 ·exact hx x h
theorem kmul1:∀(K:Nat),K≤1000000→∀ {xs ys:List Nat},max xs.length ys.length≤K→CTy prog 301 [sv (ntx xs),sv (ntx ys),zU5 301 131] (sv (ntx (limbs (val xs*val ys)))):=fun K=>by
 induction K using Nat.strongRecOn with
 | _ K ih =>
 intro hK xs ys hxy;refine nlt 0 rfl (bo func301) fun hx=>nlt 1 rfl (bo func301) fun hy=>?_;refine fw [.tmp 5] func301 fun X=>?_;repeat refine u ?_
 refine tp (fun c0=>?_) fun c0=>?_;repeat refine u ?_
 refine zB rfl rfl (kplain (by omega) (by omega)) ?_;repeat refine u ?_
 exact e;refine t_ts (qL (s:=2) rfl zU4) ?_;obtain⟨n,hn⟩:∃ n,n=max xs.length ys.length/2:=⟨_,rfl⟩;refine t_ts (qL (s:=6) rfl (ps_i (show _=((n:Nat):Int) by omega))) ?_;have l1:(xs.take n).length=min n xs.length:=zaE;have l2:(xs.drop n).length=xs.length-n:=zaV;have l3:(ys.take n).length=min n ys.length:=zaE;have l4:(ys.drop n).length=ys.length-n:=zaV;have w1:∀ x∈xs.take n,x<4294967296:=fun x h=>hx x (zbc h);have w2:∀ x∈xs.drop n,x<4294967296:=fun x h=>hx x (zbB h);have w3:∀ x∈ys.take n,x<4294967296:=fun x h=>hy x (zbc h);have w4:∀ x∈ys.drop n,x<4294967296:=fun x h=>hy x (zbB h);have e1:val xs=val (xs.take n)+4294967296^n*val (xs.drop n):=by
  have:=jM (xs.take n) (xs.drop n);rwa [zbb,l1,zaS (by omega)] at this
 have e2:val ys=val (ys.take n)+4294967296^n*val (ys.drop n):=by
  have:=jM (ys.take n) (ys.drop n);rwa [zbb,l3,zaS (by omega)] at this
 have s1:=lH (xS w1 (k:=max xs.length ys.length-n) (by omega)) (xS w2 (k:=max xs.length ys.length-n) (by omega));have s2:=lH (xS w3 (k:=max xs.length ys.length-n) (by omega)) (xS w4 (k:=max xs.length ys.length-n) (by omega));have s3:=kF (yJ _ w1) (yJ _ w3);have s4:=kF (yJ _ w2) (yJ _ w4);have s5:=kF (yJ _ (yF (val (xs.take n)+val (xs.drop n)))) (yJ _ (yF (val (ys.take n)+val (ys.drop n))));have s6:=lH (xS (yF (val (xs.take n)*val (ys.take n))) (k:=2*K) (by omega)) (xS (yF (val (xs.drop n)*val (ys.drop n))) (k:=2*K) (by omega));have hm:∀ a b c d:Nat,limbs (val (limbs (val (limbs (a+b))*val (limbs (c+d))))-val (limbs (val (limbs (a*c))+val (limbs (b*d)))))=limbs (a*d+b*c):=fun a b c d=>by simp only[zI];rw[kara_mid]
 have s7:=lH (xS (yF (val (xs.take n)*val (ys.drop n))) (k:=2*K) (by have:=kF (yJ _ w1) (yJ _ w4);omega)) (xS (yF (val (xs.drop n)*val (ys.take n))) (k:=2*K) (by have:=kF (yJ _ w2) (yJ _ w3);omega));rw[zI,zI] at s7;iterate 2 refine u ?_
 refine zK 18 mixed rfl rfl ?_;repeat refine u ?_
 refine zC rfl rfl (ih (K-1) (by omega) (by omega) (by omega)) ?_;repeat refine u ?_
 refine zC rfl rfl (ih (K-1) (by omega) (by omega) (by omega)) ?_;iterate 6 refine u ?_
 refine zK 24 mixed rfl rfl ?_;repeat refine u ?_
 refine zC rfl rfl (pJ (⟨by omega,by assumption⟩) (⟨by omega,by assumption⟩)) ?_;refine d1 (omv rfl) ?_;repeat refine u ?_
 refine d1 (omv rfl) ?_;repeat refine u ?_
 refine zC rfl rfl (pJ (⟨by omega,by assumption⟩) (⟨by omega,by assumption⟩)) ?_;refine zC rfl rfl (ih (K-1) (by omega) (by omega) (by omega)) ?_;repeat refine u ?_
 refine zC rfl rfl (pJ (⟨by omega,yF _⟩) (⟨by omega,yF _⟩)) ?_;refine zC rfl rfl (kless (by omega) (by omega)) ?_;iterate 7 refine u ?_
 refine zO (qL (s:=9) rfl (uE (hm (val (xs.take n)) (val (xs.drop n)) (val (ys.take n)) (val (ys.drop n))))) (zA1 (omv rfl) ?_);refine zA1 (omv rfl) (zB rfl rfl (yI5 (n:=n) rfl (by omega) (by omega)) ?_);repeat refine u ?_
 refine zA1 (omv rfl) ?_;repeat refine u ?_
 refine zB rfl rfl (yI5 (n:=2*n) (by omega) (by omega) (by omega)) ?_;repeat refine u ?_
 refine zB rfl rfl (knadd3 (⟨by omega,yF _⟩) ?_ ?_) ?_;rotate_left;rotate_left;repeat refine u ?_
 refine e ?_;rotate_left
 ·exact⟨by simp;omega,wI (yF _)⟩
 ·exact⟨by simp;omega,wI (yF _)⟩
 ·refine uE ?_;rw[jM,jM,gL,gL,zbA,zbA,zba,zba,zI,zI,zI,show 2*n=n+n by omega,zaJ,kara,← e1,← e2]
theorem kmulself {b:Nat}{X:Cx}{Γ:TE}{S:List Ow}{s:Nat}{q:Prop}(i:Nat){f:FuncId}{ty:TypeId}(hi:S[i]? = some (.blk b ty [fc f [zU b 0]]))(hs:tf Γ s=some (q,zU b 0)):Ts X Γ S ((s,q,zU5 f ty)::Γ) (S.eraseIdx i):=fun E w h=>by
 have hm:Ow.blk b ty [fc f [zU b 0]]∈S:=zam hi;obtain⟨us,k3,a,o,k4,⟨v,e0,cs,e1,u,us2,e2,e3,e4⟩,k6⟩:=h.gd.own _ hm;obtain rfl:us2=[]:=e4;obtain rfl:u=_:=e3;have h2:=h.sub (zca S i);have hn:¬ Mk (S.eraseIdx i) X.M b:=fun k=>by
  rcases k with⟨p,hp,e⟩ | k
  ·obtain⟨j,hj,hp⟩:=bF hp;exact eG h.apt hi hp (fun k=>hj k.symm) rfl e
  ·rcases h.new _ hm b rfl with h4 | h4
   ·have:=h.ok0 b k;omega
   ·exact h.zm b h4 k
 obtain rfl:o=[]:=k6;rw[zas] at k4;subst k4 e0 e1 e2;refine⟨h2.bel,h2.gd,h2.new,h2.apt,h2.ok0,h2.zm,h2.mko,fun t q' ht=>?_⟩;unfold tf at ht;cases hb:Nat.beq s t with
 | true =>
  rw[hb] at ht;obtain rfl:=zaj hb;obtain rfl:=Option.some.inj ht;have h3:=h.tm s _ hs;exact⟨fun k=>let ⟨u,h4,h5⟩:=h3.1 k;⟨u,h4,b,h5,⟨k3,hn⟩⟩,h3.2⟩
 | false=>rw[hb] at ht;exact h2.tm t q' ht
theorem yH6 {xs ys:List Nat}(hl:xs.length≤1000000)(hm:ys.length≤1000000):CTy prog 246 [sv (ntx xs),sv (ntx ys)] (sv (ntx (limbs (val xs*val ys)))):=by
 refine nlt 0 rfl (bo func246) fun hx=>nlt 1 rfl (bo func246) fun hy=>?_;have s1:=zW xs hx;have s2:=zW ys hy;refine fw [.tmp 4] func246 fun X=>?_;iterate 6 refine u ?_
 refine u fun b5=>?_;repeat refine u ?_
 refine zD 0 rfl rfl (zO (kmulself (s:=5) 0 rfl rfl) (zO (qL (s:=5) rfl zU4) ?_));iterate 2 refine u ?_
 refine zK 7 mixed rfl rfl ?_;repeat refine u ?_
 refine zC rfl rfl (kE (by omega)) ?_;repeat refine u ?_
 refine zC rfl rfl (kE (by omega)) ?_;refine zC rfl rfl (kmul1 1000000 (zab _) (by omega)) ?_;repeat refine u ?_
 refine e ?_;rw[zI,zI];exact PSub.refl _
theorem yI4 {k m:Int}{q:Nat}(hq:cntN k m=q)(hm:0≤m):CTy prog 331 [exP (.int .i64 k),exP (.int .i64 m)] (zJ q):=by
 subst hq;refine fw [.tmp 4] func331 fun X=>?_;repeat refine u ?_
 refine e ?_;refine ps_i ?_;exact(fJ hm).2.1
theorem kmul32 {x y:Nat}(hx:x<4294967296)(hy:y<4294967296)(hxy:x*y<18446744073709551616):CTy prog 332 [exP (.int .u32 ((x:Nat):Int)),exP (.int .u32 ((y:Nat):Int))] (tu [exP (.int .u32 ((x*y/4294967296:Nat):Int)),exP (.int .u32 ((x*y%4294967296:Nat):Int))]):=by
 refine fw [.tmp 4,.tmp 5] func332 fun X=>?_;repeat refine u ?_
 refine e ⟨?_,?_⟩;refine ps_i (by omega);refine ps_r _
theorem oup {xs:List Nat}{j:Int}(hl:xs.length≤100000000):CTo prog 281 [sv (ntx xs),exP (.int .i64 j)] [] (ownN (limbs (val xs*2^cntN j 65536))):=by
 have hqq:=(fJ (k:=j) (m:=65536) (by omega)).2.2;generalize hq:cntN j 65536=q at hqq ⊢;refine nlo 0 rfl (bo func281) fun hx=>?_;refine fwo [.tmp 4] func281 fun X=>?_;repeat refine u ?_
 refine zB rfl rfl (yI4 hq (by omega)) ?_;iterate 12 refine u ?_
 refine u fun r21=>?_;repeat refine u ?_
 refine lp (σ:=Nat×Nat×List Nat×Value) [1,4,22,23] (fun s=>[(5,True,exP s.2.2.2),(6,True,exP (.int .u32 ((s.2.1:Nat):Int))),(24,True,zJ s.1)]) (fun s=>[.row s.2.2.2 155 1 (s.2.2.1.map xw)]) (fun s=>s.1≤xs.length∧s.2.1<2^(q%32)∧s.2.2.1.length=q/32+s.1∧(∀ z∈s.2.2.1,z<4294967296)∧val s.2.2.1+4294967296^(q/32+s.1)*s.2.1=4294967296^(q/32)*(val (xs.take s.1)*2^(q%32))) (fun s=>xs.length-s.1) ((0,0,List.replicate (q/32) 0,r21)) (⟨by simp,yK _,by simp,by intro z hz;have:=(zbP.1 hz).2;omega,by simp[gL,val]⟩) fun s hJ Y _=>?_;obtain⟨i,l,zs,v⟩:=s;dsimp only at hJ ⊢;obtain⟨h1,h2,h3,h4,h5⟩:=hJ;have hbx:=yC hx i;have hsl:=yE1 hbx (show q%32<32 by omega);have htl:=bO (r:=q%32) (by omega);have hpp:1*2^(q%32)%4294967296=2^(q%32):=by rw[zbm];exact zao (zcn (a:=2) (m:=q%32) (n:=32) (by omega) (by omega))
 have h6:∀ z∈zs++[l],z<4294967296:=fun z hz=>(zae.1 hz).elim (h4 z) fun h=>by rw[zak.1 h];omega
 repeat refine u ?_
 refine tp (fun c0=>?_) fun c0=>?_;iterate 13 refine u ?_
 refine zA1 (xE (orm rfl rfl (by omega)) (ps_i (show _=((q%32:Nat):Int) by omega))) (zA1 (xE (oshl rfl rfl (by(simp only[IntKind.bits];omega))) (ps_i (show _=((2^(q%32):Nat):Int) from congrArg (fun n:Nat=>(n:Int)) hpp))) (zB rfl rfl (kmul32 hbx (by omega) hsl) ?_));repeat refine u ?_
 refine zA1 (obs rfl rfl rfl rfl rfl rfl) (u fun r41=>?_);repeat refine u ?_
 rotate_left;iterate 7 refine u ?_
 refine u fun r47=>(zO (yV (s:=47) 0 rfl rfl) (zO (qL (s:=47) rfl (gG h6 rfl)) (tcoN [] rfl rfl rfl (yO6 (by(simp;omega))) fun r48=>?_)));repeat refine u ?_
 rotate_left
 ·have hor:=zS0 (x:=xs.getD i 0) (by omega) h2;refine⟨(i+1,xs.getD i 0*2^(q%32)/4294967296,zs++[xs.getD i 0*2^(q%32)%4294967296 ||| l],r41),tes ?_ ?_ (zaa _),?_,(by omega)⟩;refine zA rfl (zA rfl (zA rfl tn));refine zA rfl (zA rfl (zA rfl (zA rfl tn)));refine⟨by simp only;omega,wN hbx,by simp[h3];omega,fun z hz=>(zae.1 hz).elim (h4 z) fun h=>by rw[zak.1 h,hor.1];exact hor.2,?_⟩;simp only;rw[← zaO,zR9 h3 (by omega) h2 h5,yC1]
 ·rw[show i=xs.length by omega,zaF,yC2] at h5;rw[gY,h3,show i=xs.length by omega,h5];exact er ⟨_,rfl,rfl⟩
theorem kup {xs:List Nat}{j:Int}(hl:xs.length≤100000000):CTy prog 281 [sv (ntx xs),exP (.int .i64 j)] (sv (ntx (limbs (val xs*2^cntN j 65536)))):=yO5 (oup hl) (yF _)
theorem ntx_row {xs:List Nat}:PSub (sv (ntx xs)) (sv (sl 1 (xs.map xw))):=fun M w v ⟨u,e,h⟩ =>
 ⟨u,xs.map lw,e,by rw[zar];exact h.slc,tV,fun c hc=>by obtain⟨a,_,rfl⟩:=zai.1 hc;rfl⟩
theorem kdown {xs:List Nat}{j:Int}(hl:xs.length≤100000000):CTy prog 377 [sv (ntx xs),exP (.int .i64 j)] (sv (ntx (limbs (val xs/2^cntN j 65536)))):=by
 have hqq:=(fJ (k:=j) (m:=65536) (by omega)).2.2;generalize hq:cntN j 65536=q at hqq ⊢;refine nlt 0 rfl (bo func377) fun hx=>?_;refine fw [.tmp 4] func377 fun X=>?_;repeat refine u ?_
 refine zB rfl rfl (yI4 hq (by omega)) ?_;repeat refine u ?_
 refine tp (fun c0=>?_) fun c0=>?_;rotate_left;repeat refine u ?_
 rotate_left
 ·have h0:val xs/2^q=0:=by
   have h1:=xS hx (show xs.length≤q/32 by omega);have h2:2^(32*(q/32))≤2^q:=zbj (by omega) (by omega);rw[eF] at h1;exact zcw (by omega)
  repeat refine u ?_
  refine e ?_;rw[h0,yG];exact mK
 have hdl:(xs.drop (q/32)).length=xs.length-q/32:=zaV;refine tco [] rfl rfl rfl (yK8 (yG4 (xs:=xs.drop (q/32)) (by omega)) (fs1 ntx_row fs0)) ?_;rintro _ _ ⟨v,rfl,rfl⟩;repeat refine u ?_
 refine zA1 (olno 0 rfl rfl) ?_;repeat refine u ?_
 refine lp (σ:=Nat×List Nat) [1,4,5,20] (fun s=>[(21,True,zJ s.1)]) (fun s=>[.row v 155 1 (s.2.map xw)]) (fun s=>s.1≤xs.length-q/32∧s.2.length=xs.length-q/32∧(∀ z∈s.2,z<4294967296)∧s.2.drop s.1=xs.drop (q/32+s.1)∧val (s.2.take s.1)+4294967296^s.1*(val (xs.drop (q/32+s.1))/2^(q%32))=val (xs.drop (q/32))/2^(q%32)) (fun s=>xs.length-q/32-s.1) ((0,xs.drop (q/32))) (⟨by simp,hdl,fun z h=>hx z (zbB h),by simp,by simp[val]⟩) fun s hJ Y _=>?_;obtain⟨i,zs⟩:=s;dsimp only at hJ ⊢;obtain⟨h1,h2,h3,h4,h5⟩:=hJ;repeat refine u ?_
 refine tp (fun c1=>?_) fun c1=>?_;rotate_left;repeat refine u ?_
 refine zO (yV (s:=58) 0 rfl rfl) (zO (qL (s:=58) rfl (gG h3 rfl)) (zB rfl rfl (kE (by omega)) ?_));repeat refine u ?_
 refine e ?_;rotate_left
 ·have hil:i<zs.length:=by omega
  have e0:zs.getD i 0=xs.getD (q/32+i) 0:=sU h4 0;have e1:zs.getD (i+1) 0=xs.getD (q/32+i+1) 0:=sU h4 1;have hbx:=yC hx (q/32+i);have hby:=yC hx (q/32+i+1);have hd1:=uV (xs:=xs) (s:=q/32+i) (by omega);have hms:=mod_self_of (q%32) hbx;have hle:=zbh (xs.getD (q/32+i) 0) (2^(q%32));have g1:(zs.set i (zs.getD i 0/2^(q%32))).getD i 0=zs.getD i 0/2^(q%32):=by simp[zah,hil]
  iterate 15 refine u ?_
  refine zA1 (xE (orm rfl rfl (by omega)) (ps_i (show _=((q%32:Nat):Int) by omega))) ?_;repeat refine u ?_
  refine tp (fun c2=>?_) fun c2=>?_;repeat refine u ?_
  rotate_left;refine u ?_;refine zK 15 mixed rfl rfl ?_;iterate 11 refine u ?_
  refine d1 (xE (orm rfl rfl (by omega)) (ps_i (show _=((q%32:Nat):Int) by omega))) (d1 (xE (osb rfl rfl (by omega)) (ps_i (show _=((32-q%32:Nat):Int) by omega))) ?_);repeat refine u ?_
  refine d1 (oor rfl rfl ?_) ?_;rotate_left;repeat refine u ?_
  rotate_left
  ·rw[zbx] at c2;have hev:zs.getD i 0/2^(q%32)=val (xs.drop (q/32+i))/2^(q%32)%4294967296:=by
    rcases c2 with c2 | c2
    ·rw[e0,hd1,show val (xs.drop (q/32+i+1))=0 by rw[List.drop_of_length_le (by omega)];rfl];simpa using hms.symm
    ·rw[e0,hd1,show q%32=0 by omega,Nat.pow_zero,Nat.div_one,Nat.div_one];omega
   have hin:=zZ5 (r:=q%32) hil (by omega) hx h4 h5 hev;refine⟨(i+1,zs.set i (zs.getD i 0/2^(q%32))),tes ?_ ?_ (zaa _),?_,(by omega)⟩;refine zA rfl tn;refine zA rfl (zA rfl (zA rfl (zA rfl tn)));exact⟨by simp only;omega,by simp[h2],aP h3 (by rw[e0];omega),hin.1,hin.2⟩
  ·exact⟨by rw[g1,e0];simp only[xX];omega,zaH _ (by decide)⟩
  ·rw[zbx,not_or] at c2;have hd2:=uV (xs:=xs) (s:=q/32+i+1) (by omega);have hev:((zs.set i (zs.getD i 0/2^(q%32))).getD i 0 ||| (zs.set i (zs.getD i 0/2^(q%32))).getD (i+1) 0*2^(32-q%32)%4294967296)=val (xs.drop (q/32+i))/2^(q%32)%4294967296:=by
    rw[g1,jL (by omega),e0,e1,hd1,hd2,sV (by omega),down_or hbx (by omega) (by omega)]
   have hin:=zZ5 (r:=q%32) hil (by omega) hx h4 h5 hev;refine⟨(i+1,zs.set i ((zs.set i (zs.getD i 0/2^(q%32))).getD i 0 ||| (zs.set i (zs.getD i 0/2^(q%32))).getD (i+1) 0*2^(32-q%32)%4294967296)),tes ?_ ?_ ?_,?_,(by omega)⟩;refine zA rfl tn;refine zA rfl (zA rfl (zA rfl (zA rfl tn)));rotate_left;rotate_left
   ·rw[List.set_set];exact zaa _
   ·exact⟨by simp only;omega,by simp[h2],aP h3 (by rw[hev];exact zaH _ (by omega)),hin.1,hin.2⟩
 ·have hd0:val (xs.drop (q/32+i))=0:=by rw[zcN (by omega)];rfl
  rw[hd0,Nat.zero_div,Nat.mul_zero,zbM,zM8 hx,zaz (by omega)] at h5;rw[h5];exact PSub.refl _
instance {k:IntKind}:VU (exP (.int k 4294967296)) k 4294967296:=⟨id⟩
theorem jW {xs:List Nat}(hl:xs.length≤1000000000):CTy prog 62 [sv (ntx xs)] (sv (ntx (limbs (val xs)))):=by
 refine nlt 0 rfl (bo func62) fun hx=>?_;refine fw [.tmp 2] func62 fun X=>?_;repeat refine u ?_
 refine lp (σ:=Nat) [0,2] (fun n=>[(3,True,zJ n)]) (fun n=>[]) (fun n=>n≤xs.length∧∀ j,n≤j→xs.getD j 0=0) (fun n=>n) (xs.length) (⟨by omega,fun j h=>yR h⟩) fun n hJ Y _=>?_;repeat refine u ?_
 refine tp (fun c0=>?_) fun c0=>?_;repeat refine u ?_
 rotate_left;iterate 4 refine u ?_
 refine u fun r18=>?_;iterate 3 refine u ?_
 refine u fun r22=>?_;iterate 2 refine u ?_
 refine t_ts (yV (s:=2) 0 rfl rfl) ?_;repeat refine u ?_
 refine e ?_;rotate_left
 ·refine nxt (n-1) ?_;obtain⟨c1,c2⟩:=c0;refine⟨by omega,fun j hj=>?_⟩;rcases zaf j n with c | c
  ·rw[show j=n-1 by omega];omega
  ·exact hJ.2 j c
 ·rw[not_and] at c0;exact gG (fun x h=>hx x (zbc h)) (oH hx hJ.1 hJ.2 (by omega))
theorem dY {xs:List Nat}{i:Int}(j:Nat)(h:i=(j:Int))(hx:∀ x∈xs,x<4294967296):CTy prog 300 [sv (ntx xs),exP (.int .i64 i)] (exP (.int .u64 ((xs.getD j 0:Nat):Int))):=by
 subst h;have:=yC hx j;refine fw [.tmp 4] func300 fun X=>?_;repeat refine u ?_
 refine tp (fun c0=>?_) fun c0=>?_;repeat refine u ?_
 refine e ?_;refine ps_i ?_;rotate_left;repeat refine u ?_
 exact e;rw[yR (by omega)];rfl
theorem k1of {n:Nat}(hn:n<18446744073709551616):CTy prog 167 [exP (.int .u64 ((n:Nat):Int))] (sv (ntx (limbs n))):=by
 refine fw [.tmp 2] func167 fun X=>?_;repeat refine u ?_
 refine zB rfl rfl (jW (by(simp;done))) ?_;repeat refine u ?_
 refine e ?_;exact uE (by congr 1;simp only[val];omega)
theorem yJ3 {xs ys:List Nat}(hl:xs.length≤1000000000)(hm:ys.length≤1000000000):CTy prog 242 [sv (ntx xs),sv (ntx ys)] (exP (.int .i64 (cmpN (val xs) (val ys)))):=by
 refine nlt 0 rfl (bo func242) fun hx=>nlt 1 rfl (bo func242) fun hy=>?_;refine fw [.tmp 4] func242 fun X=>?_;repeat refine u ?_
 refine lp (σ:=Nat) [0,1] (fun n=>[(4,True,exP (.int .i64 0)),(5,True,exP (.int .i64 ((n:Nat)-1:Int)))]) (fun n=>[]) (fun n=>n≤max xs.length ys.length∧∀ j,n≤j→xs.getD j 0=ys.getD j 0) (fun n=>n) (max xs.length ys.length) (⟨by omega,fun j h=>by rw[yR (by omega),yR (by omega)]⟩) fun n hJ Y _=>?_;repeat refine u ?_
 refine tp (fun c0=>?_) fun c0=>?_;repeat refine u ?_
 refine zB rfl rfl (dY (n-1) (by omega) (by omega)) ?_;repeat refine u ?_
 refine zB rfl rfl (dY (n-1) (by omega) (by omega)) ?_;repeat refine u ?_
 refine tp (fun c1=>?_) fun c1=>?_;repeat refine u ?_
 refine e ?_;refine ps_i ?_;rotate_left;repeat refine u ?_
 refine zB rfl rfl (dY (n-1) (by omega) (by omega)) ?_;repeat refine u ?_
 refine zB rfl rfl (dY (n-1) (by omega) (by omega)) ?_;repeat refine u ?_
 refine tp (fun c2=>?_) fun c2=>?_;repeat refine u ?_
 refine e ?_;refine ps_i ?_;rotate_left;repeat refine u ?_
 rotate_left;repeat refine u ?_
 refine e ?_;refine ps_i ?_;rotate_left
 ·rw[yA0 (aV hx hy (j:=n-1) (by omega) fun i hi=>hJ.2 i (by omega))]
 ·rw[yA1 (aV hy hx (j:=n-1) (by omega) fun i hi=>(hJ.2 i (by omega)).symm)]
 ·refine⟨n-1,tes ?_ ?_ (zaa _),?_,(by omega)⟩;refine zA rfl (tc rfl (ps_i (by omega)) (tn));refine zA rfl (zA rfl tn);refine⟨by omega,fun j hj=>?_⟩;rcases zaf j n with c | c
  ·rw[show j=n-1 by omega];omega
  ·exact hJ.2 j c
 ·rw[yA2 (aW fun j=>hJ.2 j (by omega))]
theorem k1two {xs ys:List Nat}(hl:xs.length≤500000000)(hm:ys.length≤500000000):CTy prog 298 [sv (ntx xs),sv (ntx ys)] (sv (ntx (limbs (val xs+val ys)))):=by
 refine nlt 0 rfl (bo func298) fun hx=>nlt 1 rfl (bo func298) fun hy=>?_;refine fw [.tmp 4] func298 fun X=>?_;repeat refine u ?_
 refine t_ts (jG 155 1) ?_;refine lp (σ:=Nat×Nat×List Nat×Value) [0,1,4] (fun s=>[(5,True,exP s.2.2.2),(6,True,exP (.int .u64 ((s.2.1:Nat):Int))),(7,True,zJ s.1)]) (fun s=>[.row s.2.2.2 155 1 (s.2.2.1.map xw)]) (fun s=>s.1≤max xs.length ys.length∧s.2.2.1.length=s.1∧s.2.1≤1∧(∀ z∈s.2.2.1,z<4294967296)∧val s.2.2.1+4294967296^s.2.2.1.length*s.2.1=val (((yH xs ys).take s.1).map (·.1))+val (((yH xs ys).take s.1).map (·.2))) (fun s=>max xs.length ys.length-s.1) ((0,0,[],.slice none 0 0)) (⟨by simp,by simp,by simp,by simp,by simp[val]⟩) fun s hJ Y _=>?_;obtain⟨i,c,zs,v⟩:=s;dsimp only at hJ ⊢;obtain⟨h1,h2,h3,h4,h5⟩:=hJ;have hb1:=yC hx i;have hb2:=yC hy i;have hpl:=qX xs ys;have h6:∀ x∈zs++[c%4294967296],x<4294967296:=fun x hx=>(zae.1 hx).elim (h4 x) fun h=>by rw[zak.1 h];omega
 repeat refine u ?_
 refine tp (fun c0=>?_) fun c0=>?_;repeat refine u ?_
 refine zB rfl rfl (dY i (by omega) (by omega)) ?_;repeat refine u ?_
 refine zB rfl rfl (dY i (by omega) (by omega)) ?_;iterate 11 refine u ?_
 refine u fun r31=>?_;repeat refine u ?_
 rotate_left;iterate 8 refine u ?_
 refine u fun r38=>(zO (yV (s:=38) 0 rfl rfl) (zO (qL (s:=38) rfl (gG h6 rfl)) (zB rfl rfl (jW (by(simp;omega))) ?_)));repeat refine u ?_
 refine e ?_;rotate_left
 ·have hp:=oR (xs:=xs) (ys:=ys) (s:=i) (by omega);have e:xs.getD i 0+ys.getD i 0+c=c+(xs.getD i 0+ys.getD i 0):=by omega
  refine⟨(i+1,(xs.getD i 0+ys.getD i 0+c)/4294967296,zs++[(xs.getD i 0+ys.getD i 0+c)%4294967296],r31),tes ?_ ?_ (zaa _),?_,(by omega)⟩;refine zA rfl (zA rfl (zA rfl tn));refine zA rfl (zA rfl (zA rfl tn));exact⟨by simp only;omega,by simp[h2],by simp only;omega,fun z hz=>(zae.1 hz).elim (h4 z) fun h=>by rw[zak.1 h];omega,by simp only;rw[hp.1,e];exact zN8 (by simp[h2,hpl];omega) h5⟩
 ·rw[rU (by omega),aO,aN] at h5;rw[gY,show c%4294967296=c by omega,h5];exact PSub.refl _
theorem to_lt {P:Program}{r:Option Nat}{N:Nat}{X:Cx}{K:TK}{Γ:TE}{S:List Ow}{ops:Array Oper}{l:List Oper}{xs:List Nat}(s:Nat)(hs:tv Γ (.tmp s)=some (True,sv (ntx xs)))(h:(∀ x∈xs,x<4294967296)→TO P r N ops X K l Γ S):TO P r N ops X K l Γ S:=fun hN D E w hst=>by
 obtain⟨v,_,a,e,h2⟩:=gR hst hs;exact h h2.lt hN D E w hst
theorem yJ4 {xss:List (List Nat)}(hl:∀ xs∈xss,xs.length≤1000000)(hn:xss.length≤1000000):CTy prog 239 [sv (sl 1 (xss.map ntx))] (sv (ntx (limbs ((xss.map val).sum)))):=by
 refine fw [.tmp 2] func239 fun X=>?_;repeat refine u ?_
 refine t_ts (qL (s:=3) rfl mK) ?_;refine yZ (σ:=Nat) (fun k=>[(3,True,sv (ntx (limbs ((xss.take k).map val).sum))),(4,True,zJ k)]) (fun k=>[]) (fun k=>k≤xss.length∧(limbs ((xss.take k).map val).sum).length≤1000000+k) (fun k=>xss.length-k) (0) (tk 0 rfl (tk 2 rfl tn)) ?_ rfl (⟨by simp,by simp[yG]⟩) (fun k hJ Y _=>?_);refine tc rfl ?_ ?_;rotate_left;refine zA rfl tn;rotate_left
 ·exact uE (by simp[yG])
 obtain⟨h1,h2⟩:=hJ;have hxs:k<xss.length→(xss.getD k Df.d).length≤1000000:=fun h=>hl _ (by rw[zah,zag h];exact zaP h);repeat refine u ?_
 refine tp (fun c0=>?_) fun c0=>?_;rotate_left;repeat refine u ?_
 refine zB rfl rfl (jW (by omega)) ?_;repeat refine u ?_
 refine e ?_;rotate_left
 ·have h3:=hxs (by omega);have h4:=yM0 (xss:=xss) (k:=k) (by omega);repeat refine u ?_
  refine to_lt 15 rfl fun hx=>zB rfl rfl (k1two (by omega) (by omega)) ?_;repeat refine u ?_
  have h5:=lH (xS (yF ((xss.take k).map val).sum) h2) (xS hx (k:=1000000+k) (by omega));have e:limbs (val (limbs ((xss.take k).map val).sum)+val (xss.getD k Df.d))=limbs ((xss.take (k+1)).map val).sum:=by rw[zI,h4]
  rw[e] at h5;refine⟨k+1,tes ?_ ?_ (zaa _),(by omega),(by omega)⟩;refine tc rfl ?_ ?_;rotate_left;refine zA rfl tn;refine zA rfl (zA rfl tn);all_goals first | exact uE e | exact⟨by omega,by omega⟩
 ·exact uE (by rw[zI,zaz (by omega)])
theorem zL1 {xs ys:List Nat}(hl:xs.length≤500000000)(hm:ys.length≤500000000):CTy prog 243 [sv (ntx xs),sv (ntx ys)] (tu [sv (ntx (limbs (val xs-val ys))),exP (.int .i64 (if val xs<val ys then 10 else 0))]):=by
 refine nlt 0 rfl (bo func243) fun hx=>nlt 1 rfl (bo func243) fun hy=>?_;refine fw [.tmp 4,.tmp 5] func243 fun X=>?_;repeat refine u ?_
 refine zB rfl rfl (yJ3 (by omega) (by omega)) ?_;repeat refine u ?_
 refine tp (fun c0=>?_) fun c0=>?_;repeat refine u ?_
 refine e ⟨?_,?_⟩;rotate_left;refine ps_i ?_;rotate_left;repeat refine u ?_
 rotate_left
 ·rw[show val xs-val ys=0 by have:=qA.1 c0;omega,yG];exact mK
 ·rw[if_pos (qA.1 c0)]
 have hle:val ys≤val xs:=zcu fun c=>c0 (qA.2 c);refine t_ts (jG 155 1) ?_;refine lp (σ:=Nat×Nat×List Nat×Value) [0,1,4,5] (fun s=>[(6,True,exP s.2.2.2),(7,True,exP (.int .u64 ((s.2.1:Nat):Int))),(8,True,zJ s.1)]) (fun s=>[.row s.2.2.2 155 1 (s.2.2.1.map xw)]) (fun s=>s.1≤xs.length∧s.2.2.1.length=s.1∧s.2.1≤1∧(∀ z∈s.2.2.1,z<4294967296)∧val s.2.2.1+val (ys.take s.1)+4294967296^s.2.2.1.length*s.2.1=val (xs.take s.1)+4294967296^s.2.2.1.length*(2*s.2.1)) (fun s=>xs.length-s.1) ((0,0,[],.slice none 0 0)) (⟨by simp,by simp,by simp,by simp,by simp[val]⟩) fun s hJ Y _=>?_;obtain⟨i,c,zs,v⟩:=s;dsimp only at hJ ⊢;obtain⟨h1,h2,h3,h4,h5⟩:=hJ;have hb1:=yC hx i;have hb2:=yC hy i;repeat refine u ?_
 refine tp (fun c1=>?_) fun c1=>?_;repeat refine u ?_
 refine zB rfl rfl (dY i (by omega) (by omega)) ?_;repeat refine u ?_
 refine zB rfl rfl (dY i (by omega) (by omega)) ?_;iterate 11 refine u ?_
 refine u fun r34=>?_;repeat refine u ?_
 rotate_left;repeat refine u ?_
 refine zO (yV (s:=38) 0 rfl rfl) (zO (qL (s:=38) rfl (gG h4 rfl)) (zB rfl rfl (jW (by omega)) ?_));repeat refine u ?_
 refine e ⟨?_,?_⟩;rotate_left;refine ps_i (by omega)
 ·refine⟨(i+1,1-(xs.getD i 0+4294967296-ys.getD i 0-c)/4294967296,zs++[(xs.getD i 0+4294967296-ys.getD i 0-c)%4294967296],r34),tes ?_ ?_ (zaa _),?_,(by omega)⟩;refine zA rfl (zA rfl (zA rfl tn));refine zA rfl (zA rfl (zA rfl (zA rfl tn)));refine⟨by simp only;omega,by simp[h2],by simp only;omega,fun z hz=>(List.mem_append.1 hz).elim (h4 z) fun h=>by rw[List.mem_singleton.1 h];omega,rsub_step h2 h5 (by dsimp only;omega) (by dsimp only;omega)⟩
 ·have e:i=xs.length:=by omega
  subst e;rw[zaF,val_take_le hx hle] at h5;rw[zT8 h4 h5 h3 hle];exact PSub.refl _
theorem nll {P:Program}{f:FuncId}{τs:List PV}{ρ:PV}{xs:List Nat}(i:Nat)(hi:τs[i]? = some (sv (ntx xs)))(hb:Bod P f)(h:xs.length≤9223372036854775807→CTy P f τs ρ):CTy P f τs ρ :=
 ⟨hb,fun M w vs hM hT hv=>by
  obtain⟨v,_,u,e,h1⟩:=hv.at_ hi;exact(h h1.len).run M w vs hM hT hv⟩
theorem k1samex {xs ys:List Nat}:CTy prog 187 [sv (ntx xs),sv (ntx ys)] (exP (.bool (decide (xs=ys)))):=by
 refine nll 0 rfl (bo func187) fun hl=>?_;refine fw [.tmp 4] func187 fun X=>?_;repeat refine u ?_
 refine tp (fun c0=>?_) fun c0=>?_;repeat refine u ?_
 refine e ?_;refine psb ?_;rotate_left;repeat refine u ?_
 rotate_left
 ·exact(decide_eq_false fun e=>by subst e;exact c0 rfl).symm
 refine lp (σ:=Nat) [0,1] (fun i=>[(5,True,zJ i)]) (fun i=>[]) (fun i=>i≤xs.length∧∀ j,j<i→xs.getD j 0=ys.getD j 0) (fun i=>xs.length-i) (0) (⟨by omega,by omega⟩) fun i hJ Y _=>?_;repeat refine u ?_
 refine tp (fun c1=>?_) fun c1=>?_;iterate 4 refine u ?_
 refine zK 9 mixed rfl rfl ?_;repeat refine u ?_
 refine tp (fun c2=>?_) fun c2=>?_;repeat refine u ?_
 refine e ?_;refine psb ?_;rotate_left;repeat refine u ?_
 rotate_left;repeat refine u ?_
 refine e ?_;refine psb ?_;rotate_left
 ·exact(decide_eq_false fun e=>by subst e;exact c2 rfl).symm
 ·refine nxt (i+1) ?_;refine⟨by omega,fun j hj=>?_⟩;rcases zaf j i with c | c
  ·exact hJ.2 j c
  ·rw[show j=i by omega];omega
 ·exact(decide_eq_true (eq_of_getD (by omega) fun j hj=>hJ.2 j (by omega))).symm
theorem k1smallx {xs:List Nat}(hl:xs.length≤1000000000):CTy prog 165 [sv (ntx xs)] (tu [exP (.int .u64 ((qF (val xs):Nat):Int)),exP (.bool (decide (val xs<18446744073709551616)))]):=by
 refine nlt 0 rfl (bo func165) fun hx=>?_;have h0:=zW xs hx;refine fw [.tmp 2,.tmp 3] func165 fun X=>?_;repeat refine u ?_
 refine zB rfl rfl (jW (by omega)) ?_;repeat refine u ?_
 refine tp (fun c0=>?_) fun c0=>?_;repeat refine u ?_
 refine e ⟨?_,?_⟩;refine ps_i ?_;rotate_left;refine psb ?_;rotate_left;repeat refine u ?_
 rotate_left
 ·rw[qF,if_neg (yA7 (by omega))];rfl
 ·exact(decide_eq_false (yA7 (by omega))).symm
 have h1:=small_len (xs:=xs) (by omega);refine yZ (σ:=Nat) (fun s=>[(5,True,exP (.int .u64 ((val ((limbs (val xs)).drop s):Nat):Int))),(6,True,exP (.int .i64 ((s:Nat)-1:Int)))]) (fun s=>[]) (fun s=>s≤(limbs (val xs)).length) (fun s=>s) ((limbs (val xs)).length) (tk 2 rfl (tk 3 rfl (tk 4 rfl tn))) ?_ rfl ((by omega)) (fun s hJ Y _=>?_);refine tc rfl ?_ ?_;rotate_left;refine zA rfl tn;rotate_left
 ·exact ps_i (by simp[val])
 have hlt:=yF (val xs);have hdb:0<s→val ((limbs (val xs)).drop s)<4294967296:=fun h=>by
  have h1:=yJ ((limbs (val xs)).drop s) (fun x hx=>hlt x (zbB hx));have h2:4294967296^((limbs (val xs)).drop s).length≤4294967296^1:=zbj (by omega) (by simp;omega);omega
 have hg:=yC hlt (s-1);have hstep:0<s→val ((limbs (val xs)).drop (s-1))=(limbs (val xs)).getD (s-1) 0+4294967296*val ((limbs (val xs)).drop s):=fun h=>by rw[uV (by omega),show s-1+1=s by omega]
 repeat refine u ?_
 refine tp (fun c1=>?_) fun c1=>?_;rotate_left;repeat refine u ?_
 refine e ⟨?_,?_⟩;refine ps_i ?_;rotate_left;refine psb (by(simp;omega))
 ·have h3:=hdb (by omega);have h4:=hstep (by omega);repeat refine u ?_
  refine⟨s-1,tes ?_ ?_ (zaa _),(by omega),(by omega)⟩;refine tc rfl (ps_i (by(simp only[xX];omega))) (tc rfl (ps_i (by omega)) (tn));refine zA rfl (zA rfl (zA rfl tn));all_goals first | omega | exact ps_i (by rw[h4,show 4294967296=2^32 from rfl];simp only[xX];omega)
 ·rw[show s=0 by omega,List.drop_zero,zI,qF,if_pos h1]
theorem zY0 {k m:Int}{q:Nat}(hq:cntN k m=q)(hm:0≤m):CTy prog 299 [exP (.int .i64 k),exP (.int .i64 m)] (zJ q):=by
 subst hq;refine fw [.tmp 4] func299 fun X=>?_;repeat refine u ?_
 refine e ?_;refine ps_i ?_;exact(fJ hm).1
theorem yR6 {xs:List Nat}{j:Int}(hl:xs.length≤100000000):CTy prog 244 [sv (ntx xs),exP (.int .i64 j)] (sv (ntx (limbs (val xs*2^cntN j 65536)))):=by
 have hqq:=(fJ (k:=j) (m:=65536) (by omega)).2.2;generalize hq:cntN j 65536=q at hqq ⊢;refine nlt 0 rfl (bo func244) fun hx=>?_;refine fw [.tmp 4] func244 fun X=>?_;repeat refine u ?_
 refine zB rfl rfl (zY0 hq (by omega)) ?_;iterate 6 refine u ?_
 refine u fun r13=>?_;repeat refine u ?_
 refine lp (σ:=Nat×Nat×List Nat×Value) [0,1,4] (fun s=>[(5,True,exP s.2.2.2),(6,True,exP (.int .u32 ((s.2.1:Nat):Int))),(7,True,zJ s.1)]) (fun s=>[.row s.2.2.2 155 1 (s.2.2.1.map xw)]) (fun s=>s.1≤xs.length∧s.2.1<2^(q%32)∧s.2.2.1.length=q/32+s.1∧(∀ z∈s.2.2.1,z<4294967296)∧val s.2.2.1+4294967296^(q/32+s.1)*s.2.1=4294967296^(q/32)*(val (xs.take s.1)*2^(q%32))) (fun s=>xs.length-s.1) ((0,0,List.replicate (q/32) 0,r13)) (⟨by simp,yK _,by simp,by intro z hz;have:=(zbP.1 hz).2;omega,by simp[gL,val]⟩) fun s hJ Y _=>?_;obtain⟨i,l,zs,v⟩:=s;dsimp only at hJ ⊢;obtain⟨h1,h2,h3,h4,h5⟩:=hJ;have hbx:=yC hx i;have hsl:=yE1 hbx (show q%32<32 by omega);have htl:=bO (r:=q%32) (by omega);have hcy:=wN (r:=q%32) hbx;have hor:=zS0 (x:=xs.getD i 0) (r:=q%32) (l:=l) (by omega) h2;have h6:∀ z∈zs++[l],z<4294967296:=fun z hz=>(zae.1 hz).elim (h4 z) fun h=>by rw[zak.1 h];omega
 repeat refine u ?_
 refine tp (fun c0=>?_) fun c0=>?_;iterate 11 refine u ?_
 refine zA1 (xE (orm rfl rfl (by omega)) (ps_i (show _=((q%32:Nat):Int) by omega))) ?_;refine u ?_;refine zA1 (xE (oshl rfl rfl (by(simp only[IntKind.bits];omega))) (ps_i (show _=((xs.getD i 0*2^(q%32):Nat):Int) from congrArg (fun n:Nat=>(n:Int)) (zao hsl)))) ?_;iterate 10 refine u ?_
 refine u fun r35=>?_;repeat refine u ?_
 rotate_left;iterate 7 refine u ?_
 refine u fun r42=>(zO (yV (s:=42) 0 rfl rfl) (zO (qL (s:=42) rfl (gG h6 rfl)) (zB rfl rfl (jW (by(simp;omega))) ?_)));repeat refine u ?_
 refine e ?_;rotate_left
 ·refine⟨(i+1,xs.getD i 0*2^(q%32)/4294967296,zs++[xs.getD i 0*2^(q%32)%4294967296 ||| l],r35),tes ?_ ?_ (zaa _),?_,(by omega)⟩;refine zA rfl (tc rfl (ps_i (by(simp only[xX];omega))) (zA rfl tn));refine zA rfl (zA rfl (zA rfl tn))
  ·refine⟨by simp only;omega,hcy,by simp[h3];omega,fun z hz=>(zae.1 hz).elim (h4 z) fun h=>by rw[zak.1 h,hor.1];exact hor.2,?_⟩;simp only;rw[← zaO,zR9 h3 (by omega) h2 h5,yC1]
 ·rw[show i=xs.length by omega,zaF,yC2] at h5;rw[gY,h3,show i=xs.length by omega,h5];exact PSub.refl _
theorem k2downx {xs:List Nat}{j:Int}(hl:xs.length≤100000000):CTy prog 241 [sv (ntx xs),exP (.int .i64 j)] (sv (ntx (limbs (val xs/2^cntN j 65536)))):=by
 have hqq:=(fJ (k:=j) (m:=65536) (by omega)).2.2;generalize hq:cntN j 65536=q at hqq ⊢;refine nlt 0 rfl (bo func241) fun hx=>?_;refine fw [.tmp 4] func241 fun X=>?_;repeat refine u ?_
 refine zB rfl rfl (zY0 hq (by omega)) ?_;repeat refine u ?_
 refine t_ts (jG 155 1) ?_;refine lp (σ:=Nat×List Nat×Value) [0,1,4] (fun s=>[(5,True,exP s.2.2),(6,True,exP (.int .i64 ((q/32+s.1:Nat):Int)))]) (fun s=>[.row s.2.2 155 1 (s.2.1.map xw)]) (fun s=>s.1≤xs.length∧s.2.1.length=s.1∧(∀ z∈s.2.1,z<4294967296)∧val s.2.1+4294967296^s.1*(val (xs.drop (q/32+s.1))/2^(q%32))=val (xs.drop (q/32))/2^(q%32)) (fun s=>xs.length-(q/32+s.1)) ((0,[],.slice none 0 0)) (⟨by simp,by simp,by simp,by simp[val]⟩) fun s hJ Y _=>?_;obtain⟨k,zs,v⟩:=s;dsimp only at hJ ⊢;obtain⟨h1,h2,h3,h4⟩:=hJ;have hbx:=yC hx (q/32+k);have hby:=yC hx (q/32+k+1);repeat refine u ?_
 refine tp (fun c0=>?_) fun c0=>?_;rotate_left;repeat refine u ?_
 refine zO (yV (s:=46) 0 rfl rfl) (zO (qL (s:=46) rfl (gG h3 rfl)) (zB rfl rfl (jW (by omega)) ?_));repeat refine u ?_
 refine e ?_;rotate_left
 ·have hd1:=uV (xs:=xs) (s:=q/32+k) (by omega);have hoe:=or_up hbx hby;repeat refine u ?_
  refine tp (fun c1=>?_) fun c1=>?_;rotate_left;iterate 5 refine u ?_
  refine zA1 (xE (orm rfl rfl (by omega)) (ps_i (show _=((q%32:Nat):Int) by omega))) ?_;iterate 4 refine u ?_
  refine u fun r45=>?_;repeat refine u ?_
  rotate_left
  ·have hd2:=uV (xs:=xs) (s:=q/32+k+1) (by omega);have he:(xs.getD (q/32+k) 0 ||| xs.getD (q/32+k+1) 0*4294967296%18446744073709551616)/2^(q%32)%4294967296=val (xs.drop (q/32+k))/2^(q%32)%4294967296:=by
    rw[hoe,hd1,hd2,sV (by omega)]
   have hst:=mC h2 he h4;rw[hd1,mD hbx] at hst;iterate 16 refine u ?_
   refine zA1 (xE (orm rfl rfl (by omega)) (ps_i (show _=((q%32:Nat):Int) by omega))) ?_;iterate 4 refine u ?_
   refine u fun r45=>?_;repeat refine u ?_
   refine⟨(k+1,zs++[(xs.getD (q/32+k) 0 ||| xs.getD (q/32+k+1) 0*4294967296%18446744073709551616)/2^(q%32)%4294967296],r45),tes ?_ ?_ (zaa _),?_,(by omega)⟩;refine zA rfl (zA rfl tn);refine zA rfl (zA rfl (zA rfl tn));exact⟨by simp only;omega,by simp[h2],fun z hz=>(zae.1 hz).elim (h3 z) fun h=>by rw[zak.1 h];omega,hst⟩
  ·have he:xs.getD (q/32+k) 0/2^(q%32)%4294967296=val (xs.drop (q/32+k))/2^(q%32)%4294967296:=by
    rw[hd1,show val (xs.drop (q/32+k+1))=0 by rw[zcN (by omega)];rfl];simp
   have hst:=mC h2 he h4;rw[hd1,mD hbx] at hst;refine⟨(k+1,zs++[xs.getD (q/32+k) 0/2^(q%32)%4294967296],r45),tes ?_ ?_ (zaa _),?_,(by omega)⟩;refine zA rfl (zA rfl tn);refine zA rfl (zA rfl (zA rfl tn));exact⟨by simp only;omega,by simp[h2],fun z hz=>(zae.1 hz).elim (h3 z) fun h=>by rw[zak.1 h];omega,hst⟩
 ·have hd0:val (xs.drop (q/32+k))=0:=by rw[zcN (by omega)];rfl
  rw[hd0,Nat.zero_div,Nat.mul_zero,zbM,zM8 hx] at h4;rw[h4];exact PSub.refl _
theorem yR7 {xs ys:List Nat}(hl:xs.length≤100000000)(hm:ys.length≤100000000):CTy prog 91 [sv (ntx xs),sv (ntx ys)] (sv (ntx (limbs (val xs*val ys)))):=by
 refine nlt 0 rfl (bo func91) fun hx=>nlt 1 rfl (bo func91) fun hy=>?_;refine fw [.tmp 4] func91 fun X=>?_;iterate 11 refine u ?_
 refine u fun r15=>?_;repeat refine u ?_
 refine lp (σ:=Nat×List Nat) [0,1,4,5] (fun s=>[(6,True,zJ s.1)]) (fun s=>[.row r15 155 1 (s.2.map xw)]) (fun s=>s.1≤xs.length∧s.2.length=xs.length+ys.length∧(∀ z∈s.2,z<4294967296)∧(∀ j,s.1+ys.length≤j→s.2.getD j 0=0)∧val s.2=val (xs.take s.1)*val ys) (fun s=>xs.length-s.1) ((0,List.replicate (xs.length+ys.length) 0)) (⟨by simp,by simp,by intro z hz;have:=(zbP.1 hz).2;omega,fun j _=>by simp[zah,zcU];split<;>rfl,by simp[gL,val]⟩) fun s hJ Y _=>?_;obtain⟨i,zs⟩:=s;dsimp only at hJ ⊢;obtain⟨h1,h2,h3,h4,h5⟩:=hJ;repeat refine u ?_
 refine tp (fun c0=>?_) fun c0=>?_;rotate_left;repeat refine u ?_
 refine zO (yV (s:=66) 0 rfl rfl) (zO (qL (s:=66) rfl (gG h3 rfl)) (zB rfl rfl (jW (by omega)) ?_));repeat refine u ?_
 refine e ?_;rotate_left
 ·repeat refine u ?_
  have hbx:=yC hx i;refine yZ (σ:=Nat×Nat×List Nat) (fun s=>[(7,True,exP (.int .u64 ((s.2.1:Nat):Int))),(8,True,zJ s.1)]) (fun s=>[.row r15 155 1 (s.2.2.map xw)]) (fun s=>s.1≤ys.length∧s.2.1<4294967296∧s.2.2.length=xs.length+ys.length∧(∀ z∈s.2.2,z<4294967296)∧(∀ j,i+ys.length≤j→s.2.2.getD j 0=0)∧val s.2.2+4294967296^(i+s.1)*s.2.1=val (xs.take i)*val ys+4294967296^i*(xs.getD i 0*val (ys.take s.1))) (fun s=>ys.length-s.1) ((0,0,zs)) (tk 0 rfl (tk 1 rfl (tk 4 rfl (tk 5 rfl (tk 6 rfl tn))))) ?_ rfl (⟨by simp,by simp,h2,h3,h4,by simp[val,h5]⟩) (fun s hJ Y _=>?_);refine zA rfl (zA rfl tn);obtain⟨k,c,zs⟩:=s;dsimp only at hJ ⊢;obtain⟨k1,k2,k3,k4,k5,k6⟩:=hJ;have hby:=yC hy k;have hbz:=yC k4 (i+k);have hxy:xs.getD i 0*ys.getD k 0≤4294967295*4294967295:=zaT (by omega) (by omega);repeat refine u ?_
  refine tp (fun c1=>?_) fun c1=>?_;iterate 4 refine u ?_
  refine zK 22 mixed rfl rfl ?_;repeat refine u ?_
  rotate_left;repeat refine u ?_
  rotate_left
  ·refine⟨(k+1,(xs.getD i 0*ys.getD k 0+zs.getD (i+k) 0+c)/4294967296,zs.set (i+k) ((xs.getD i 0*ys.getD k 0+zs.getD (i+k) 0+c)%4294967296)),tes ?_ ?_ (zaa _),?_,(by omega)⟩;refine zA rfl (zA rfl tn);refine zA rfl (zA rfl (zA rfl (zA rfl (zA rfl tn))));refine⟨by simp only;omega,by simp only;omega,by simp[k3],aP k4 (by omega),fun j hj=>by rw[jL (by omega)];exact k5 j hj,?_⟩;simp only;rw[← zaO,zJ9 (by omega) rfl k6,mul_row]
  ·have e:k=ys.length:=by omega
   subst e;refine⟨(i+1,zs.set (i+ys.length) (c%4294967296)),tes ?_ ?_ (zaa _),?_,(by omega)⟩;refine zA rfl tn;refine zA rfl (zA rfl (zA rfl (zA rfl tn)));refine⟨by simp only;omega,by simp[k3],aP k4 (by omega),fun j hj=>by rw[jL (by simp only at hj;omega)];exact k5 j (by simp only at hj;omega),?_⟩;have:=aF (zs:=zs) (j:=i+ys.length) (c%4294967296) (by omega);rw[k5 _ (zab _),zao k2] at this;rw[zaF] at k6;simp only;rw[zao k2,← mul_rows];omega
 ·rw[h5,show i=xs.length by omega,zaF];exact PSub.refl _
theorem tupq {ρ σ τ:PV}:∀ M w vs,Fa [ρ,σ,τ] M w vs→(tu [ρ,σ,τ]).p M w (gW vs):=fun M w vs ⟨v,us,e,h1,u,us2,e2,h2,x,us3,e3,h3,e4⟩=>by
 subst e e2 e3 e4;exact⟨_,rfl,_,_,rfl,h1,_,_,rfl,h2,_,_,rfl,h3,rfl⟩
theorem k3divx {xs ys:List Nat}(hl:xs.length≤100000)(hm:ys.length≤100000)(h0:val ys≠0):CTy prog 169 [sv (ntx xs),sv (ntx ys)] (tu [sv (ntx (limbs (val xs/val ys))),sv (ntx (limbs (val xs%val ys))),exP (.int .i64 0)]):=by
 refine nlt 0 rfl (bo func169) fun hx=>nlt 1 rfl (bo func169) fun hy=>?_;have hyl:=zW ys hy;have hyp:(limbs (val ys)).length≠0:=fun c=>h0 (zP.1 c);obtain⟨f,hf⟩:∃ f:Nat,f=xs.length+1-(limbs (val ys)).length:=⟨_,rfl⟩;have hst:=di_start (f:=f) hx (by omega) h0;have hd:∀ x∈xs.drop f,x<4294967296:=fun x h=>hx x (zbB h);refine fw [.tmp 4,.tmp 5,.tmp 6] func169 fun X=>?_;repeat refine u ?_
 refine zB rfl rfl (jW (by omega)) ?_;repeat refine u ?_
 refine tp (fun c0=>?_) fun c0=>?_;repeat refine u ?_
 refine⟨[_,_,_],rst rfl (rst rfl (rst rfl rs0)),?_⟩;rotate_left;iterate 5 refine u ?_
 refine u fun r19=>?_;repeat refine u ?_
 refine zB rfl rfl (jW (by omega)) ?_;iterate 4 refine u ?_
 refine zA1 (xE (oas rfl) (ps_i (show _=((f:Nat):Int) by omega))) ?_;iterate 3 refine u ?_
 refine u fun r28=>?_;iterate 3 refine u ?_
 refine u fun r32=>(zO (yV (s:=32) 0 rfl rfl) (zO (qL (s:=32) rfl (gG hd rfl)) (zB rfl rfl (jW (by(simp;omega))) ?_)));repeat refine u ?_
 rotate_left
 ·omega
 refine yZ (σ:=Nat×Nat×List Nat) (fun s=>[(9,True,sv (ntx (limbs s.2.1))),(10,True,exP (.int .i64 ((s.1:Nat)-1:Int)))]) (fun s=>[.row r19 155 1 (s.2.2.map xw)]) (fun s=>s.1≤32*xs.length∧s.2.2.length=xs.length∧(∀ z∈s.2.2,z<4294967296)∧DI (val xs) (val ys) (val s.2.2) s.2.1 s.1) (fun s=>s.1) ((32*f,val (xs.drop f),List.replicate xs.length 0)) (tk 0 rfl (tk 1 rfl (tk 4 rfl (tk 5 rfl (tk 6 rfl (tk 7 rfl tn)))))) ?_ rfl (⟨by simp only;omega,by simp,by intro z hz;have:=(zbP.1 hz).2;omega,by rw[gL];exact hst⟩) (fun s hJ Y _=>?_);refine zA rfl (zA rfl tn);obtain⟨t,R,zs⟩:=s;dsimp only at hJ ⊢;obtain⟨h1,h2,h3,h4⟩:=hJ;have hRl:=zX (zbU h4.lt);repeat refine u ?_
 refine tp (fun c1=>?_) fun c1=>?_;rotate_left;repeat refine u ?_
 refine zO (yV (s:=81) 0 rfl rfl) (zO (qL (s:=81) rfl (gG h3 rfl)) (zB rfl rfl (jW (by omega)) ?_));repeat refine u ?_
 refine zB rfl rfl (jW (by omega)) ?_;repeat refine u ?_
 refine⟨[_,_,_],rst rfl (rst rfl (rst rfl rs0)),?_⟩;rotate_left
 ·obtain⟨i,rfl⟩:∃ i,t=i+1:=⟨t-1,by omega⟩;have hbit:=bit_of hx i;have hbx:=yC hx (i/32);have hki:i%32<32:=zaH _ (by omega);obtain⟨cv,hcv⟩:=h4.dv;have horb0:=or_bit h3 hcv;have hp2:2^(i%32)<4294967296:=show 2^(i%32)<2^32 from zcn (by omega) hki;have horb:zs.getD (i/32) 0 ||| 1*2^(i%32)%4294967296=zs.getD (i/32) 0+2^(i%32):=by rw[zbm,zao hp2];exact horb0
  have horlt:zs.getD (i/32) 0+2^(i%32)<4294967296:=by rw[← horb0];exact or_lt32 (yC h3 _) hki
  have hsb:=set_bit (zs:=zs) (i:=i) (by omega);have hs1:=wB h4 rfl 1;have hs0:=wB h4 rfl 0;have hU:val (limbs R)*2^cntN 1 65536=2*R:=by rw[zI,show cntN 1 65536=1 from by decide,Nat.pow_one,zat]
  have hS:(List.map val [limbs (val (limbs R)*2^cntN 1 65536),[1]]).sum=2*R+1:=by rw[hU];simp[zI,val]
  have hR2:(limbs (2*R+1)).length≤ys.length+1:=zS (by have:=yJ ys hy;have:=h4.lt;rw[zax];omega);have hR1:(limbs (2*R)).length≤ys.length+1:=zac (zX (zbt _)) hR2;have hset:∀ z∈zs.set (i/32) (zs.getD (i/32) 0+2^(i%32)),z<4294967296:=fun z hz=>by
   rcases zbC hz with h | h
   ·exact h3 z h
   ·rw[h];exact horlt
  have hpp:1*2^(i%32)%4294967296=2^(i%32):=by rw[zbm];exact zao hp2
  refine t_ts (qL (s:=10) rfl (ps_i (show _=((i:Nat):Int) by omega))) ?_;repeat refine u ?_
  refine zB rfl rfl (yR6 (by omega)) ?_;iterate 11 refine u ?_
  refine zA1 (xE (orm rfl rfl (by omega)) (ps_i (show _=((i%32:Nat):Int) by omega))) ?_;repeat refine u ?_
  refine zA1 (oan rfl rfl ?_) ?_;rotate_left;repeat refine u ?_
  refine tp (fun c2=>?_) fun c2=>?_;repeat refine u ?_
  refine zB rfl rfl (yJ4 (xss:=[_,_]) ?_ (by(simp;done))) ?_;rotate_left;repeat refine u ?_
  refine zB rfl rfl (zL1 ?_ (by omega)) ?_;rotate_left;repeat refine u ?_
  refine tp (fun c3=>?_) fun c3=>?_;repeat refine u ?_
  refine zA1 (omv rfl) ?_;repeat refine u ?_
  refine zA1 (omv rfl) ?_;iterate 5 refine u ?_
  refine zA1 (xE (orm rfl rfl (by omega)) (ps_i (show _=((i%32:Nat):Int) by omega))) ?_;refine u ?_;refine zA1 (xE (oshl rfl rfl (by assumption)) (ps_i (show _=((2^(i%32):Nat):Int) from congrArg (fun n:Nat=>(n:Int)) hpp))) ?_;repeat refine u ?_
  refine zA1 (omv rfl) ?_;repeat refine u ?_
  rotate_left;repeat refine u ?_
  rotate_left;repeat refine u ?_
  refine zB rfl rfl (zL1 ?_ (by omega)) ?_;rotate_left;repeat refine u ?_
  refine tp (fun c4=>?_) fun c4=>?_;iterate 15 refine u ?_
  refine zA1 (xE (orm rfl rfl (by omega)) (ps_i (show _=((i%32:Nat):Int) by omega))) ?_;refine u ?_;refine zA1 (xE (oshl rfl rfl (by assumption)) (ps_i (show _=((2^(i%32):Nat):Int) from congrArg (fun n:Nat=>(n:Int)) hpp))) ?_;repeat refine u ?_
  rotate_left;repeat refine u ?_
  rotate_left
  ·exact⟨zbr (zbh _ _) hbx,by decide⟩
  ·intro q hq;rcases zad.1 hq with rfl | hq
   ·rw[hU];omega
   ·rw[zak.1 hq];decide
  ·rw[hS];omega
  ·rw[hS,zI] at c3;have hge:val ys≤2*R+1:=by split at c3<;>omega
   have hb1:val xs/2^i%2=1:=by rw[← hbit];have:=c2;rw[Nat.and_one_is_mod] at this;omega
   refine⟨(i,2*R+1-val ys,zs.set (i/32) (zs.getD (i/32) 0+2^(i%32))),tes ?_ ?_ ?_,?_,(by omega)⟩;refine tc rfl ?_ ?_;rotate_left;refine zA rfl tn;refine zA rfl (zA rfl (zA rfl (zA rfl (zA rfl (zA rfl tn)))));rotate_left;rotate_left
   ·exact uE (by rw[hS,zI])
   ·dsimp only;rw[horb0];exact List.Sublist.refl _
   ·exact⟨by simp only;omega,by simp[h2],hset,by simp only;rw[hsb];exact(hs1 hb1).1 hge⟩
  ·rw[hS,zI] at c3;have hge:2*R+1<val ys:=by split at c3<;>omega
   have hb1:val xs/2^i%2=1:=by rw[← hbit];have:=c2;rw[Nat.and_one_is_mod] at this;omega
   refine⟨(i,2*R+1,zs),tes ?_ ?_ (zaa _),?_,(by omega)⟩;refine tc rfl ?_ ?_;rotate_left;refine zA rfl tn;refine zA rfl (zA rfl (zA rfl (zA rfl (zA rfl (zA rfl tn)))));rotate_left
   ·exact uE (by rw[hS])
   ·exact⟨by simp only;omega,h2,h3,((wB h4 rfl 1) hb1).2 hge⟩
  ·rw[hU];omega
  ·rw[hU,zI] at c4;have hge:val ys≤2*R+0:=by split at c4<;>omega
   have hb0:val xs/2^i%2=0:=by rw[← hbit];have:=c2;rw[Nat.and_one_is_mod] at this;omega
   refine⟨(i,2*R+0-val ys,zs.set (i/32) (zs.getD (i/32) 0+2^(i%32))),tes ?_ ?_ ?_,?_,(by omega)⟩;refine tc rfl ?_ ?_;rotate_left;refine zA rfl tn;refine zA rfl (zA rfl (zA rfl (zA rfl (zA rfl (zA rfl tn)))));rotate_left;rotate_left
   ·exact uE (by rw[hU,zI];rfl)
   ·dsimp only;rw[horb0];exact List.Sublist.refl _
   ·exact⟨by simp only;omega,by simp[h2],hset,by simp only;rw[hsb];exact(hs0 hb0).1 hge⟩
  ·rw[hU,zI] at c4;have hge:2*R+0<val ys:=by split at c4<;>omega
   have hb0:val xs/2^i%2=0:=by rw[← hbit];have:=c2;rw[Nat.and_one_is_mod] at this;omega
   refine⟨(i,2*R+0,zs),tes ?_ ?_ (zaa _),?_,(by omega)⟩;refine tc rfl ?_ ?_;rotate_left;refine zA rfl tn;refine zA rfl (zA rfl (zA rfl (zA rfl (zA rfl (zA rfl tn)))));rotate_left
   ·exact uE (by rw[hU];rfl)
   ·exact⟨by simp only;omega,h2,h3,(hs0 hb0).2 hge⟩
 ·have ht:t=0:=by omega
  subst ht;obtain⟨e1,e2⟩:=di_end h4;rw[← e1,← e2,zI];exact tupq
end Go.Proofs.YtalkinejknjidaaGreatDoor
namespace Go.SL
open Go.RowKit
section
variable {P : Program} {r : Option Nat} {N : Nat} {ops : Array Oper} {S S' : List Ow} {X : Cx} {Γ : TE} {Kn Kr : TK} {Ke : Nat → TK} {rid : Nat} {o0 o1 : Ow} {D : List Deferred} {E : Env} {M : Nat → Prop} {w w' : World}
def TDX (P:Program)(r:Option Nat)(N:Nat)(ops:Array Oper)(S S':List Ow)(o0 o1:Ow)(F:TE→Prop):List Oper→List Nat→TE→Prop
 | [],_,Γ=>F Γ
 | o::l,0::fl,Γ=>TD P r N ops S (fun Γ'=>TDX P r N ops S S' o0 o1 F l fl Γ') [o] Γ
 | o::l,1::fl,Γ=>TD P r N ops S' (fun Γ'=>TDX P r N ops S S' o0 o1 F l fl Γ') [o] Γ
 | o::l,_::fl,Γ=>o.dst=none∧CkV P r N ops S' o Γ o0 o1∧TDX P r N ops S S' o0 o1 F l fl Γ
 | _::_,[],_=>False
def zW1 (ops:Array Oper)(m i0:Nat)(fl:List Nat):Bool:=xR ops m&&Nat.blt i0 m&&Nat.beq fl.length m&&(match ops[i0]? with | some o=>o.dst.isNone | none=>false)&&(let an:=(eI ops.toList []).getD i0 [];fl.zipIdx.all fun(f,j)=>if Nat.beq j i0 then Nat.beq f 2 else(Nat.beq f 1 || (Nat.beq f 0&&an.contains j)))
def vpx (M:Nat→Prop)(q:Prop×PV):VP:=fun v w=>(q.1→q.2.p M w v)∧(¬ q.1→v=undef)
def RelX (M:Nat→Prop)(Γ0:List (Nat×VP))(dr:TE):Prop:=∀ s,match Γ0.find? (fun p=>Nat.beq p.1 s) with
 | some p=>∃ q,tf dr s=some q∧p.2=vpx M q
 | none=>tf dr s=none
theorem oW {Γ0:List (Nat×VP)}{dr:TE}{body:Env→Prop}(hR:RelX M Γ0 dr)(hE:TM Γ M E w):∀(ss:List Nat) (F:Env) (done:List Nat),Tm (dr++Γ) done M F w→(∀ F',Tm (dr++Γ) (ss++done) M F' w→body F')→Obl Γ0 E w body ss F
 | [],F,done,h,hb=>hb F (by simpa using h)
 | s::ss,F,done,h,hb=>by
  have next:∀ v,(∀ q,tf (dr++Γ) s=some q→(q.1→q.2.p M w v)∧(¬ q.1→v=undef))→Obl Γ0 E w body ss ((s,v)::F):=fun v hv=>by
   refine oW hR hE ss _ (s::done) (fun i hi q hq=>?_) (fun F' hF=>hb F' fun i hi=>hF i (by simp only[zae,zad] at hi ⊢; rcases hi with(h1 | h1) | h1<;>simp[h1]));cases hbq:Nat.beq s i with
   | true =>
    obtain rfl:=zaj hbq;exact zS5 (xO (by simp)) (hv q hq)
   | false =>
    rcases zad.1 hi with rfl | hi
    ·simp at hbq
    ·have:=h i hi q hq;exact⟨fun c=>by rw[kV hbq];exact this.1 c,fun c=>by rw[kV hbq];exact this.2 c⟩
  have hr:=hR s;unfold Obl;cases hf:Γ0.find? (fun p=>Nat.beq p.1 s) with
  | some p =>
   rw[hf] at hr;obtain⟨q,h1,h2⟩:=hr;intro v hv;refine next v fun Φ hΦ=>?_
   rw[qC,h1] at hΦ;obtain rfl:=Option.some.inj hΦ;rw[h2] at hv;exact hv
  | none =>
   rw[hf] at hr;have hdr:∀ q,tf (dr++Γ) s=some q→tf Γ s=some q:=fun q hq=>by rw[qC,hr] at hq;exact hq
   cases hg:get E s with
   | some v =>
    refine next v fun Φ hΦ=>?_
    have h2:=hE s Φ (hdr Φ hΦ);refine⟨fun c=>?_,fun c=>?_⟩
    ·obtain⟨u,h3,h4⟩:=h2.1 c;rw[hg] at h3;rw[Option.some.inj h3];exact h4
    ·have h3:=h2.2 c;rw[hg] at h3;exact Option.some.inj h3
   | none =>
    refine oW hR hE ss _ (s::done) (fun i hi q hq=>?_) (fun F' hF=>hb F' fun i hi=>hF i (by simp only[zae,zad] at hi ⊢; rcases hi with(h1 | h1) | h1<;>simp[h1]));rcases zad.1 hi with rfl | hi
    ·have h2:=hE _ q (hdr q hq);by_cases c:q.1
     ·obtain⟨u,h3,_⟩:=h2.1 c;rw[hg] at h3;cases h3
     ·have:=h2.2 c;rw[hg] at this;cases this
    ·exact h i hi q hq
theorem lD {w0:World}{R R':World→World→Prop}{st:Option (Nat×(World→Prop)×(World→Prop))}{F H:List (Nat×VP)→Prop}(hF:∀ Γ,F Γ→H Γ):∀(l:List Oper) (i:Nat) (Γ:List (Nat×VP)),DRs P r N ops D E w0 R R' st F l i Γ→DRs P r N ops D E w0 R R' st H l i Γ
 | [],_,Γ,h=>hF Γ h
 | _::l,i,_,⟨Ψ,h1,h2⟩=>⟨Ψ,h1,lD hF l (i+1) _ h2⟩
theorem yJ7 {o:Option Nat}(h:Rb w w'):Gro w w' o:=⟨⟨h.os,h.tape.eq,h.output,h.size,fun k hk _=>h.block k hk⟩,h.tape.le⟩
theorem gro_tr {o:Option Nat}{a b c:World}(h:Gro a b o)(k:Gro b c o):Gro a c o:=⟨⟨k.os.trans h.os,k.tape.eq.trans h.tape.eq,k.output.trans h.output,zac h.size k.size,fun i hi hn=>(k.block i (zan hi h.size) hn).trans (h.block i hi hn)⟩,zac h.le k.le⟩
theorem zP8 {o:Option Nat}(h:Gro w w' o)(hm:∀ b,o=some b→M b):Cl M w M w':=fun k cur t fz hk hw=>⟨hk,(h.block k (zaB.1 hw).1 fun e=>hk (hm k e.symm)).trans hw⟩
theorem tU (hT:TM Γ M E w)(hG:Gd M S w)(hS:∀ o∈S,o=o0∨o∈S')(hS':∀ o∈S',o∈S)(hap:∀ o∈S',∀ b,o.bk=some b→o0.bk≠some b)(hm:∀ b,o0.bk=some b→M b)(i0:Nat){F:TE→Prop}:∀(l:List Oper) (fl:List Nat) (j:Nat) (dr:TE) (Γ0:List (Nat×VP)),okN N l=true →
  TDX P r N ops S S' o0 o1 F l fl (dr++Γ)→RelX M Γ0 dr→(∀ k f,fl[k]? = some f→if j+k=i0 then f=2 else f=1∨(f=0∧j+k∈(ancs ops.toList).getD i0 [])) →
  DRs P r N ops D E w (fun a b=>Gro a b o0.bk) Rb (some (i0,fun x=>o0.ok M x,fun x=>o1.ok M x)) (fun Γ1=>∃ dr',RelX M Γ1 dr'∧(∀ s,s∈dr'.map (·.1)→s∈(l.filterMap (·.dst))++dr.map (·.1))∧F (dr'++Γ)) l j Γ0
 | [],fl,j,dr,Γ0,_,h,hR,_=>⟨dr,hR,by simp,h⟩
 | o::l,[],j,dr,Γ0,_,h,_,_=>h.elim
 | o::l,f::fl,j,dr,Γ0,hN,h,hR,hf=>by
  unfold okN at hN;simp only[zaX,zaq] at hN;have hx:∀ x,Gro w x o0.bk→TM Γ M E x∧Gd M S' x∧(o0.ok M x→Gd M S x):=fun x hr=>by
   have cl:=zP8 hr hm;have hok:∀ b,M b→b<x.heap.size:=fun b hb=>zan (hG.ok b hb) hr.size;have hown:∀ q∈S',q.ok M x:=fun q hq=>Ow.ok_mono (hG.own q (hS' q hq)) cl fun b hb hlt=>hr.block b hlt fun e=>hap q hq b hb e.symm;exact⟨hT.mono cl,⟨hok,hG.tab.cl cl,hown⟩,fun h0=>⟨hok,hG.tab.cl cl,fun q hq=>(hS q hq).elim (fun e=>e ▸ h0) (hown q)⟩⟩
  have hf0:=hf 0 f rfl;rw[zbM] at hf0;have hfl:∀ k g,fl[k]? = some g→if j+1+k=i0 then g=2 else g=1∨(g=0∧j+1+k∈(ancs ops.toList).getD i0 []):=fun k g hk=>by
   have:=hf (k+1) g (by simpa using hk);rwa [show j+(k+1)=j+1+k by omega] at this
  -- one that looks
  have look:∀(U:List Ow),(∀ x,Gro w x o0.bk→StI (some (i0,fun x=>o0.ok M x,fun x=>o1.ok M x)) (ancs ops.toList) j x→Gd M U x)→j≠i0→(∃ d q,o.dst=some d∧(∀ M,O2 P r N ops M U o (dr++Γ) q)∧TDX P r N ops S S' o0 o1 F l fl ((d,q)::(dr++Γ))) →
    DRs P r N ops D E w (fun a b=>Gro a b o0.bk) Rb (some (i0,fun x=>o0.ok M x,fun x=>o1.ok M x)) (fun Γ1=>∃ dr',RelX M Γ1 dr'∧(∀ s,s∈dr'.map (·.1)→s∈((o::l).filterMap (·.dst))++dr.map (·.1))∧F (dr'++Γ)) (o::l) j Γ0:=fun U hU hj ⟨d,q,ho,h1,h2⟩=>by
   have hdN:Nat.blt d N=true:=by have:=hN.1;rw[ho] at this;exact this
   refine⟨vpx M q,?_,?_⟩
   ·unfold yB0;rw[ho];refine .inl ⟨fun k pre post e=>by obtain⟨rfl,_⟩:=Prod.mk.inj (Option.some.inj e);exact hj,fun v a b hv hr=>⟨fun c=>q.2.mono (hv.1 c) (zP8 hr hm),hv.2⟩,fun x hr hst=>?_⟩;refine oW hR (hx x hr).1 _ [] [] (fun i hi=>by simp at hi) fun F' hF'=>?_;intro a Q ha hD hk;exact h1 M D F' x d ho hdN (hU x hr hst) (by simpa using hF') a Q ha hD fun a' w' E' g1 ⟨g2,g3,v,g4,g5⟩=>hk a' w' E' g1 ⟨g2,g3,v,g4,g5⟩
   ·unfold gam1;rw[ho];have h3:=tU hT hG hS hS' hap hm i0 l fl (j+1) ((d,q)::dr) ((d,vpx M q)::Γ0) hN.2 h2 (fun s=>by
     rw[zbK];show match (match Nat.beq d s with | true=>some (d,vpx M q) | false=>Γ0.find? fun p=>Nat.beq p.1 s) with | some p=>∃ q',(bif Nat.beq d s then some q else tf dr s)=some q'∧p.2=vpx M q' | none=>(bif Nat.beq d s then some q else tf dr s)=none
     cases hb:Nat.beq d s with
     | true=>exact⟨q,rfl,rfl⟩
     | false=>exact hR s) hfl
    refine lD (fun Γ1 ⟨dr',g1,g2,g3⟩=>⟨dr',g1,fun s hs=>?_,g3⟩) _ _ _ h3;have:=g2 s hs;simp only[zae,zcJ,ho,zad,zaG] at this ⊢;rcases this with c | c | c
    ·exact .inl (.inr c)
    ·exact .inl (.inl c)
    ·exact .inr c
  match f,h,hf0 with
  | 0,h,hf0 =>
   have hj:j≠i0:=fun e=>by rw[if_pos e] at hf0;cases hf0
   rw[if_neg hj] at hf0;exact look S (fun x hr hst=>(hx x hr).2.2 (hst.2 (hf0.elim (fun c=>by cases c) (·.2)))) hj h
  | 1,h,hf0 =>
   have hj:j≠i0:=fun e=>by rw[if_pos e] at hf0;cases hf0
   exact look S' (fun x hr _=>(hx x hr).2.1) hj h
  | f+2,⟨ho,h1,h2⟩,hf0 =>
   have hj:j=i0:=Decidable.byContradiction fun e=>by rw[if_neg e] at hf0;omega
   subst hj;refine⟨fun _ _=>True,?_,?_⟩
   ·unfold yB0;rw[ho];refine⟨_,_,rfl,fun x hr hp=>?_⟩;obtain⟨k1,k2,k3⟩:=hx x hr;refine oW hR k1 _ [] [] (fun i hi=>by simp at hi) fun F' hF'=>?_;intro a Q ha hD hk;exact h1.2 M D F' x k2 (by simpa using hF') hp hm a Q ha hD fun a' w' E' g1 ⟨g2,g3,g4⟩=>hk a' w' E' g1 ⟨g2,g3,g4⟩
   ·unfold gam1;rw[ho];have h3:=tU hT hG hS hS' hap hm j l fl (j+1) dr Γ0 hN.2 h2 hR hfl;refine lD (fun Γ1 ⟨dr',g1,g2,g3⟩=>⟨dr',g1,fun s hs=>?_,g3⟩) _ _ _ h3;have:=g2 s hs;simp only[zae,zcJ,ho] at this ⊢;exact this
theorem zS8 (m i i0:Nat)(fl:List Nat)(hi:S[i]? = some o0)(hb:o1.bk=o0.bk)(hm:P.follows .mixedOrders=true)(hlook:zW1 ops m i0 fl=true)(hN:okN N ops.toList=true)
  (h:TDX P r N ops S (S.eraseIdx i) o0 o1 (fun Γ'=>TO P r N ops X Kn (ops.toList.drop m) Γ' (S.set i o1)) (ops.toList.take m) fl Γ):TW P r N X (.region rid ops true) Kn Ke Kr Γ S:=fun D E w hs=>by
 unfold zW1 at hlook;simp only[zaq] at hlook;obtain⟨⟨⟨⟨l1,l2⟩,l3⟩,l4⟩,l5⟩:=hlook;have hN1:okN N (ops.toList.take m)=true:=zaC.2 fun o ho=>zaC.1 hN o (zbc ho);have hN2:okN N (ops.toList.drop m)=true:=zaC.2 fun o ho=>zaC.1 hN o (zbB ho);have hm':o0∈S:=zam hi;have hback:∀ p,p∈S→p=o0∨p∈S.eraseIdx i:=fun p ho=>by
  obtain⟨j,hj⟩:=zbR.1 ho;by_cases e:j=i
  ·subst e;rw[hi] at hj;exact .inl (Option.some.inj hj).symm
  ·exact .inr (zcX.2 ⟨j,e,hj⟩)
 have hne:∀ o∈S.eraseIdx i,∀ b,o.bk=some b→o0.bk≠some b:=fun p hp b hb' e=>by
  obtain⟨j,hj,hp⟩:=bF hp;exact eG hs.apt hi hp (fun c=>hj c.symm) e hb'
 have hM:∀ b,o0.bk=some b→Mk S X.M b:=fun b e => .inl ⟨o0,hm',e⟩;have heq:∀ j,((eI ops.toList []).getD i0 []).contains j=true→j∈(ancs ops.toList).getD i0 []:=fun j hj=>(wH ops.toList [] [] rfl (fun _ _=>Iff.rfl) i0 j).2 (List.contains_iff_mem.1 hj);have h1:=tU (D:=X.ms++D) hs.tm hs.gd hback (fun o ho=>(zca S i).subset ho) hne hM i0 (ops.toList.take m) fl 0 [] [] hN1 h (fun s=>rfl) (fun k f hk=>by
  rw[zaC] at l5;have:=l5 (f,k) (by rw[List.mem_zipIdx_iff_getElem?];exact hk);rw[zba];by_cases e:k=i0
  ·rw[if_pos e];subst e;simp only[zcq,if_true] at this;exact zaj this
  ·rw[if_neg e];have hb:Nat.beq k i0=false:=by cases hc:Nat.beq k i0 with | true=>exact absurd (zaj hc) e | false=>rfl
   simp only[hb,Bool.false_eq_true,if_false,zcf,zaq] at this;exact this.imp zaj fun c=>⟨zaj c.1,heq k c.2⟩)
 refine wp_draw (R:=fun a b=>Gro a b o0.bk) (R':=Rb) (st:=some (i0,fun x=>o0.ok (Mk S X.M) x,fun x=>o1.ok (Mk S X.M) x)) hm m ((ops.toList.take m).filterMap (·.dst)++Γ.map (·.1)) (mR l1) (fun _ _ _ a b=>gro_tr a b) (fun _ _ a=>yJ7 a) (yJ7 (vD _)) (fun k pre post e=>?_) ?_
 ·obtain⟨rfl,e2⟩:=Prod.mk.inj (Option.some.inj e);obtain⟨rfl,rfl⟩:=Prod.mk.inj e2;have mono:∀(o:Ow) (a b:World),o.ok (Mk S X.M) a→Rb a b→o.ok (Mk S X.M) b:=fun o a b ha r=>Ow.ok_mono ha (Cl.bel r) fun c _ hlt=>r.block c hlt;refine⟨by simpa using l2,mono _ _ _ (hs.gd.own _ hm') (vD _),fun a b=>mono _ a b,fun a b=>mono _ a b,?_⟩;cases ho:ops[i0]? with
  | some o=>exact⟨o,rfl⟩
  | none=>rw[ho] at l4;cases l4
 refine lD (fun Γ1 ⟨dr',hR,hkeys,hF⟩=>?_) _ _ _ h1;intro x hr hpo;have hpost:o1.ok (Mk S X.M) x:=hpo _ _ _ rfl;have cl:=zP8 hr hM;refine oW hR (hs.tm.mono cl) _ [] [] (fun i hi=>by simp at hi) fun F' hF'=>?_;have hmk:Mk (S.set i o1) X.M=Mk S X.M:=funext fun c=>propext ⟨fun h=>h.imp (fun⟨q,hq,e⟩=>by
  rcases zbC hq with hq | rfl
  ·exact⟨q,hq,e⟩
  ·exact⟨_,hm',hb ▸ e⟩) id,fun h=>h.imp (fun⟨q,hq,e⟩=>by
  obtain⟨k,hk⟩:=zbR.1 hq;by_cases c:i=k
  ·subst c;obtain rfl:=Option.some.inj (hk.symm.trans hi);exact⟨o1,zam (zbf (zaL.1 hi).1),hb.trans e⟩
  ·exact⟨q,zam (by rw[zbl c];exact hk),e⟩) id⟩
 have hbz:∀ b,o0.bk=some b→X.w.heap.size≤b∨X.z b:=fun b e=>hs.new _ hm' b e;have hown:∀ q∈S.set i o1,q.ok (Mk S X.M) x:=fun q hq=>by
  obtain⟨k,hk⟩:=zbR.1 hq;by_cases c:i=k
  ·subst c;rw[zbf (zaL.1 hi).1] at hk;rw[← Option.some.inj hk];exact hpost
  ·rw[zbl c] at hk;exact Ow.ok_mono (hs.gd.own q (zam hk)) cl fun b hb' hlt=>hr.block b hlt fun e=>hne q (zcX.2 ⟨k,fun e=>c e.symm,hk⟩) b hb' e.symm
 refine hF hN2 D F' x ⟨⟨hr.os.trans hs.bel.os,hr.tape.trans hs.bel.tape,hr.output.trans hs.bel.output,zac hs.bel.size hr.size,fun b hb' hz=>?_⟩,⟨?_,?_,?_⟩,fun q hq b e=>?_,cO hs.apt hi (fun b' e => .inl (hb ▸ e)),hs.ok0,hs.zm,hs.mko.nc (.but (z:=fun b=>o0.bk=some b) (fun b hb' k=>hr.block b hb' fun e=>k e.symm) fun b e=>jQ (hs.gd.own _ hm') b e),?_⟩
 ·exact(hr.block b (zan hb' hs.bel.size) fun e=>(hbz b e.symm).elim (fun c=>by omega) hz).trans (hs.bel.block b hb' hz)
 ·rw[hmk];exact fun b hb'=>zan (hs.gd.ok b hb') hr.size
 ·rw[hmk];exact hs.gd.tab.cl cl
 ·rw[hmk];exact hown
 ·rcases zbC hq with hq | rfl
  ·exact hs.new q hq b e
  ·exact hbz b (hb ▸ e)
 ·rw[hmk];intro s q hq;have h3:tf (dr'++Γ) s=some q:=hq;refine hF' s ?_ q h3;rw[qC] at h3;simp only[zas,zae];cases h4:tf dr' s with
  | some Φ =>
   have:=hkeys s (dG h4);simp only[zbe,zas] at this;exact .inl this
  | none=>rw[h4] at h3;exact .inr (dG h3)
variable {F : TE → Prop} {p q qx qy : Prop} {Ψ Ψx Ψy : PV} {d : Nat} {x y : Operand} {t t' : TypeId} {pos : String} {af : Array Edge} {l l' : List Oper} {fl : List Nat} {sz : Nat} {cs cs' : List CT} {c : CT} {op : Op} {A : Prop} {b : Nat} {ty : TypeId} {m : Nat} {o : Oper}
theorem tdx0 (h:TD P r N ops S (fun Γ'=>TDX P r N ops S S' o0 o1 F l fl Γ') [o] Γ):TDX P r N ops S S' o0 o1 F (o::l) (0::fl) Γ:=h
theorem tdx1 (h:TD P r N ops S' (fun Γ'=>TDX P r N ops S S' o0 o1 F l fl Γ') [o] Γ):TDX P r N ops S S' o0 o1 F (o::l) (1::fl) Γ:=h
theorem ckvu {o:Nat}{a:Bool}(hx:tv Γ x=some (qx,zU b o))(hy:tv Γ y=some (qy,Ψy))[hqx:Tr qx][hqy:Tr qy][hc:CtOf Ψy c][ht:TLd P t a sz][hs:SzC c sz][up:UpC cs o c sz cs']:CkV P r N ops S ⟨none,.store t x y,t',pos,af,none⟩ Γ (.blk b ty cs) (.blk b ty cs'):=⟨rfl,fun M D E w hg hT hok hm=>by
 obtain⟨u,e1,h1⟩:=yL (p:=True) hT hx trivial (by simp[Op.operands]);obtain rfl:u = .pointer (some ⟨b,o,none⟩):=h1;obtain⟨v,e2,h2⟩:=yL (p:=True) hT hy trivial (by simp[Op.operands]);obtain⟨us,k1,k2⟩:=hc.h h2;obtain⟨vs,k3,k4⟩:=hok;obtain⟨A,B1,B2,rfl,f2,f4,rfl⟩:=up.h;obtain⟨va,vb,rfl,g1,g2⟩:=jS k4;obtain⟨vc,vd,rfl,g3,g4⟩:=jS g2;have hl1:=jN g1;have hl3:=jN g3;have hl:=c.len k2;have hsz:=hs.h;obtain⟨bytes,z,hz⟩:=ht.s;refine uG e1 e2 hz k3 (by rw[k1];simp;omega) (by simp;omega) (by rw[k1];exact fun u hu=>c.one k2 u (by simpa using hu)) fun w' hch hB'=>?_;have cl:Cl M w M w':=fun k cur t fz hk hw=>⟨hk,(hch.other k fun e=>hk (e ▸ hm b rfl)).trans hw⟩;have e3:(va++(vc++vd)).take o=va:=by rw[← f2,← hl1,zcB]
 have e4:(va++(vc++vd)).drop (o+sz)=vd:=by rw[← f4,← hl3,← f2,← hl1,← zbW,zbI,zbI]
 rw[k1,e3,e4,zaA] at hB';exact xH ⟨rfl,⟨⟨hch.os,hch.tape.eq,hch.output,zcp hch.size.symm,fun k _ hk=>hch.other k fun e=>hk (e ▸ rfl)⟩,hch.tape.le⟩,_,hB',yX (uM g1 ⟨us,vd,rfl,k2,g4⟩) cl⟩⟩
theorem ckvt {o:Nat}{a:Bool}{A B B1 B2:List CT}(hx:tv Γ x=some (qx,zU b o))(hy:tv Γ y=some (qy,Ψy))[hqx:Tr qx][hqy:Tr qy][hc:CtOf Ψy c][ht:TLd P t a sz](hs:Nat.beq c.sz sz=true)(hA:cutT cs o=some (A,B))(hB:cutT B c.sz=some (B1,B2))(he:A++c::B2=cs'):CkV P r N ops S ⟨none,.store t x y,t',pos,af,none⟩ Γ (.blk b ty cs) (.blk b ty cs'):=by
 subst he;obtain⟨rfl,f2⟩:=aB hA;obtain⟨rfl,f4⟩:=aB hB
 haveI:SzC c sz:=⟨zaj hs⟩
 haveI:UpC (A++(B1++B2)) o c sz (A++c::B2):=⟨A,B1,B2,rfl,f2,f4.trans (zaj hs),rfl⟩
 exact ckvu hx hy
theorem tdx2 (ho:o.dst=none)(h1:CkV P r N ops S' o Γ o0 o1)(h:TDX P r N ops S S' o0 o1 F l fl Γ):TDX P r N ops S S' o0 o1 F (o::l) (2::fl) Γ:=⟨ho,h1,h⟩
theorem aX (m i i0:Nat)(fl:List Nat)(cs':List CT)(hi:S[i]? = some (.blk b ty cs))(hm:P.follows .mixedOrders=true)(hlook:zW1 ops m i0 fl=true)(hN:okN N ops.toList=true)
  (h:TDX P r N ops S (S.eraseIdx i) (.blk b ty cs) (.blk b ty cs') (fun Γ'=>TO P r N ops X Kn (ops.toList.drop m) Γ' (S.set i (.blk b ty cs'))) (ops.toList.take m) fl Γ):TW P r N X (.region rid ops true) Kn Ke Kr Γ S:=zS8 (o1:=.blk b ty cs') m i i0 fl hi rfl hm hlook hN h
instance:Au (TDX P r N ops S S' o0 o1 F [] fl Γ) True (F Γ):=⟨fun _ h=>by unfold TDX;exact h⟩
instance [h:Tk l m l']:Au (TDX P r N ops S S' o0 o1 F (l.take m) fl Γ) True (TDX P r N ops S S' o0 o1 F l' fl Γ):=⟨fun _ k=>by rw[h.h];exact k⟩
instance [h:OB P r N ops S True op t' Γ Ψ A]:Au (TDX P r N ops S S' o0 o1 F (⟨some d,op,t',pos,af,none⟩::l) (0::fl) Γ) A (TDX P r N ops S S' o0 o1 F l fl ((d,True,Ψ)::Γ)):=⟨fun a k=>tdx0 (d1 (h.h a) k)⟩
instance [h:OB P r N ops S' True op t' Γ Ψ A]:Au (TDX P r N ops S S' o0 o1 F (⟨some d,op,t',pos,af,none⟩::l) (1::fl) Γ) A (TDX P r N ops S S' o0 o1 F l fl ((d,True,Ψ)::Γ)):=⟨fun a k=>tdx1 (d1 (h.h a) k)⟩
variable {Si Sr S1 : List Ow} {K : TK} {ρ Ψf : PV} {xs : List Operand} {ts : Array TypeId} {τs ca : List PV} {f : FuncId}
theorem tcoR (is:List Nat)(hp:qN S 0 is=(Si,Sr))(hf:tv Γ x=some (qx,Ψf))(hx:tvs Γ xs=some (q,τs))[hqx:Tr qx][hq:Tr q][hv:VF Ψf f ca](hk:CTo P f (τs++ca) Si (fun r So=>r=ρ∧So=S1))
  (h:TO P r N ops X K l ((d,True,ρ)::Γ) (S1++Sr)):TO P r N ops X K (⟨some d,.call ⟨.value x,xs.toArray,ts⟩,t',pos,af,none⟩::l) Γ S:=tco is hp hf hx hk fun _ _ ⟨e1,e2⟩=>by subst e1 e2;exact h
theorem tcoB (is:List Nat)(hp:qN S 0 is=(Si,Sr))(hf:tv Γ x=some (qx,Ψf))(hx:tvs Γ xs=some (q,τs))[hqx:Tr qx][hq:Tr q][hv:VF Ψf f ca](hk:CTo P f (τs++ca) Si (fun r So=>∃ b,r=zU b 0∧So=[.blk b ty cs]))
  (h:∀ b,TO P r N ops X K l ((d,True,zU b 0)::Γ) (.blk b ty cs::Sr)):TO P r N ops X K (⟨some d,.call ⟨.value x,xs.toArray,ts⟩,t',pos,af,none⟩::l) Γ S:=tco is hp hf hx hk fun _ _ ⟨b,e1,e2⟩=>by subst e1 e2;exact h b
end
section arr
variable {P : Program} {r : Option Nat} {N : Nat} {all : Array Oper} {K : Pd} {D : List Deferred} {E : Env} {w : World} {rest : List Oper}
theorem ops_idxarr {d len sz bytes b o:Nat}{x ix:Operand}{t e t':TypeId}{pos:String}{af:Array Edge}{z:Value}{k:IntKind}{i:Int}(j:Nat)(hd:Nat.blt d N=true)(ht:P.underlying t=some (.array len e))(he:Sz P e sz bytes z)
  (hx:ev E x=some (.pointer (some ⟨b,o,none⟩))) (hi:ev E ix=some (.int k i)) (hij:i=(j:Int)) (hj:j<len) (h:Ops P r N all K rest D ((d,.pointer (some ⟨b,o+j*sz,none⟩))::E) w) :
  Ops P r N all K (⟨some d,.indexAddr t x ix,t',pos,af,none⟩::rest) D E w:=by
 refine yB hd (by intro c hc;cases hc) (fun a ha=>?_) h;have e1:(Instr.indexAt t (.pointer (some ⟨b,o,none⟩)) (.int k i)).run P w = .ok (.pointer (some ⟨b,o+j*sz,none⟩)) w:=by
  subst hij;simp[Instr.indexAt,Instr.sureAddr,asIntOf,run_underlying ht,Result.andThen,xK he,hj,xV]
 simp only[execOp,ha.ev hx,ha.ev hi,Sem.run_bind,e1,Result.andThen];rfl
theorem ops_builda {d len sz bytes bytes':Nat}{t e t':TypeId}{pos:String}{af:Array Edge}{z z':Value}{parts:Array (Nat×Operand)}{vs:List Value}{cs:List (List Value)}(hd:Nat.blt d N=true)
  (ht:P.underlying t=some (.array len e)) (hz:Sz P t (len*sz) bytes' z') (hzz:z'.cells.size=len*sz) (he:Sz P e sz bytes z) (hi:parts.toList.map (·.1)=List.range len) (hx:evs E (parts.toList.map (·.2))=some vs) (hc:Cls vs cs) (hsz:∀ c∈cs,c.length=sz)
  (h:Ops P r N all K rest D ((d,.agg cs.flatten.toArray)::E) w):Ops P r N all K (⟨some d,.build t parts,t',pos,af,none⟩::rest) D E w:=by
 refine yB hd (by intro c hc;cases hc) (fun a ha=>?_) h;have hlen:∀(vs:List Value) (cs:List (List Value)),Cls vs cs→vs.length=cs.length:=by
  intro vs
  induction vs with
  | nil=>intro cs h;cases cs with
   | nil=>rfl
   | cons=>exact h.elim
  | cons v vs ih=>intro cs h;cases cs with
   | nil=>exact h.elim
   | cons c cs=>simp[ih cs h.2]
 have hvl:vs.length=len:=by
  have:=congrArg List.length (ha.evs hx);have h2:=congrArg List.length hi;simp at this h2;omega
 have hparts:parts.toList.map (fun x=>(x.1,a.eval x.2))=vs.zipIdx.map fun x=>(x.2,x.1):=by
  have h3:=ha.evs hx;apply List.ext_getElem
  ·have h2:=congrArg List.length hi;simp at h2;simp;omega
  ·intro n hn1 hn2;simp at hn1 hn2;have e1:(parts.toList.map (·.1))[n]'(by simpa using hn1)=n:=by simp[hi]
   have e2:((parts.toList.map (·.2)).map a.eval)[n]'(by simpa using hn1)=vs[n]'(by omega):=by simp[h3]
   simp at e1 e2;simp[e1,e2]
 obtain⟨q,q1,q2,q3,q4⟩:=he;obtain⟨q',p1,p2,p3,p4⟩:=hz;have hf:=pS (pl:=fun i=>some (i*sz,sz)) (sz:=sz) (fun _=>rfl) vs cs [] z'.cells.toList 0 hc hsz (by simp) (by rw[← hlen _ _ hc,hvl];simpa using hzz);simp only[zcm,Array.toArray_toList] at hf;have e1:(Instr.build t (parts.map fun(i,x)=>(i,a.eval x))).run P w = .ok (.agg cs.flatten.toArray) w:=by
  refine run_build (P:=P) w t _ _ ?_;unfold Program.built;rw[p1,ht];simp only[p4,q1,q2];rw[Array.toList_map,show (List.map (fun(x:Nat×Operand)=>match x with | (i,x)=>(i,a.eval x)) parts.toList)=vs.zipIdx.map fun x=>(x.2,x.1) from hparts];exact hf
 simp only[execOp,Sem.run_bind,e1,Result.andThen];rfl
end arr
class TAr (P:Program)(t:TypeId)(len sz:outParam Nat):Prop where
 h:∃ e z z' bytes bytes',P.underlying t=some (.array len e)∧Sz P e sz bytes z∧Sz P t (len*sz) bytes' z'∧z'.cells.size=len*sz
theorem oia {P:Program}{r:Option Nat}{N:Nat}{Γ:TE}{S:List Ow}{ops:Array Oper}{M:Nat→Prop}{p qx qi:Prop}{Ψi:PV}{d len sz:Nat}{x ix:Operand}{t t':TypeId}{pos:String}{af:Array Edge}{l:List CT}{c:CT}{ki:IntKind}{i:Int}(j:Nat)(hx:tv Γ x=some (qx,pa (st l)))(hi:tv Γ ix=some (qi,Ψi))[Im p qx][Im p qi]
  [ht:TAr P t len sz] [hki:VI Ψi ki i] (hij:i=(j:Int)) (hj:Nat.blt j len=true) (ha:dA l (j*sz)=some c):Ob P r N ops M S p ⟨some d,.indexAddr t x ix,t',pos,af,none⟩ Γ (pa c) :=
 ob2 hx hi (by simp[Op.operands]) (by simp[Op.operands]) fun D E w u v hN hg e1 e2 ⟨b,o,us,e,h1,h2,h3⟩ h4=>by
  subst e;obtain⟨el,z,z',bytes,bytes',k1,k2,k3,k4⟩:=ht.h;rw[hki.h h4] at e2;exact ops_idxarr j hN k1 k2 e1 e2 hij (by simpa [Nat.blt_eq] using hj) (fin ⟨b,o+j*sz,_,rfl,h1,h2.sub (j*sz) c.sz,gQ h3 ha⟩)
theorem oba {P:Program}{r:Option Nat}{N:Nat}{Γ:TE}{S:List Ow}{ops:Array Oper}{M:Nat→Prop}{p q:Prop}{d len sz:Nat}{t t':TypeId}{pos:String}{af:Array Edge}{parts:List (Nat×Operand)}{τs:List PV}{cs:List CT}(hx:tvs Γ (parts.map (·.2))=some (q,τs))[hi:Im p q][ht:TAr P t len sz][hc:CtL τs cs]
  (hp:parts.map (·.1)=List.range len) (hs:(cs.all fun c=>Nat.beq c.sz sz)=true):Ob P r N ops M S p ⟨some d,.build t parts.toArray,t',pos,af,none⟩ Γ (ag (st cs)):=fun D E w d' hd hN hg hp' hT=>by
 obtain rfl:=Option.some.inj hd;obtain⟨vs,e1,h1⟩:=gU hT hx (hi.h hp') fun x hx=>gA (by simpa [Op.operands] using hx);obtain⟨uss,g1,g2,g3⟩:=hc.h h1;obtain⟨el,z,z',bytes,bytes',k1,k2,k3,k4⟩:=ht.h;refine ops_builda hN k1 k3 k4 k2 (by simpa using hp) (by simpa using e1) g1 (fun c hc=>?_) (fin ⟨_,rfl,g2⟩);have:c.length∈uss.map List.length:=zcj hc;rw[g3] at this;obtain⟨c',h5,h6⟩:=zai.1 this;rw[← h6];exact zaj (zaC.1 hs c' h5)
instance {a:Option Addr}:CtOf (exP (.pointer a)) (xc (.pointer a)):=⟨fun h=>⟨[_],by rw[h];rfl,rfl,rfl⟩⟩
def sQ (v:Value)(k j m:Nat):PV:=⟨fun _ _ u=>∃ g n c,v = .slice (some ⟨g,0,none⟩) n c∧u = .slice (some ⟨g,j*k,none⟩) m (c-j),fun h _=>h⟩
section
variable {P : Program} {r : Option Nat} {N : Nat} {X : Cx} {K : TK} {Γ : TE} {S : List Ow} {ops : Array Oper} {M : Nat → Prop} {p q qx qy qz qi : Prop} {Ψ Ψx Ψy Ψz Ψi : PV} {d : Nat} {x y ix lo hi : Operand} {t tz t' : TypeId} {pos : String} {af : Array Edge}
variable {v : Value} {ty e : TypeId} {k bytes : Nat} {cs l : List CT} {ki kj : IntKind} {a b : Int}
theorem osq (i j m:Nat)(hi':S[i]? = some (.row v ty k cs))(hx:tv Γ x=some (qx,exP v))(hy:tv Γ lo=some (qy,Ψy))(hz:tv Γ hi=some (qz,Ψz))[Im p qx][Im p qy][Im p qz][ht:TSl P t e k bytes][h1:VI Ψy ki a][h2:VI Ψz kj b](ha:p→a=(j:Int))(hb:p→b=((j+m:Nat):Int))(hm:p→0<m)(hj:p→j+m≤cs.length) :
  Ob P r N ops M S p ⟨some d,.slice t x (some lo) (some hi) none,t',pos,af,none⟩ Γ (sQ v k j m):=fun D E w d' hd hN hg hp hT=>by
 obtain rfl:=Option.some.inj hd;obtain⟨u,e1,g1⟩:=yL hT hx hp (by simp[Op.operands]);obtain rfl:u=v:=g1;obtain⟨u2,e2,g2⟩:=yL hT hy hp (by simp[Op.operands]);obtain⟨u3,e3,g3⟩:=yL hT hz hp (by simp[Op.operands]);rw[h1.h g2,ha hp] at e2;rw[h2.h g3,hb hp] at e3;obtain⟨us,k1,k2,k3⟩:=hg.own _ (zam hi');have hjl:=hj hp;have hm:=hm hp;obtain⟨g,cap,cur,rfl,_,hnc,_⟩:=dR k1 (by omega);obtain⟨z,hz,_⟩:=ht.s;refine qO j (j+m) cap hN ht.u hz e1 ⟨_,e2⟩ ⟨_,e3⟩ rfl (by omega) (by omega) (zab _) ?_;rw[if_neg (by omega)];exact fin ⟨g,_,_,rfl,by simp[xV]⟩
theorem olq {j m:Nat}(hx:tv Γ x=some (qx,sQ v k j m))[Im p qx][ht:TSl P t e k bytes]:Ob P r N ops M S p ⟨some d,.call ⟨.builtin .len,#[x],#[t]⟩,t',pos,af,none⟩ Γ (zJ m) :=
 ob1 hx (by simp[Op.operands,Call.operands]) fun D E w u hN hg e1 ⟨g,n,c,h1,h2⟩=>by
  subst h2;exact nD hN ht.u e1 (fin rfl)
theorem oixq {j0 m:Nat}(j:Nat)(hx:tv Γ x=some (qx,sQ v k j0 m))(hix:tv Γ ix=some (qi,Ψi))[Im p qx][Im p qi][ht:TSl P t e k bytes][hki:VI Ψi ki a](hij:p→a=(j:Int))(hj:p→j<m) :
  Ob P r N ops M S p ⟨some d,.indexAddr t x ix,t',pos,af,none⟩ Γ (eP v k (j0+j)):=fun D E w d' hd hN hg hp hT=>by
 obtain rfl:=Option.some.inj hd;obtain⟨u,e1,g,n,cp,rfl,rfl⟩:=yL hT hx hp (by simp[Op.operands]);obtain⟨u2,e2,h2⟩:=yL hT hix hp (by simp[Op.operands]);rw[hki.h h2] at e2;have hjl:=hj hp;obtain⟨z,hz,_⟩:=ht.s;refine yB hN (by intro c hc;cases hc) (fun ac ha=>?_) (fin ⟨g,_,_,rfl,rfl⟩);have e3:(Instr.indexAt t (.slice (some ⟨g,j0*k,none⟩) m (cp-j0)) (.int ki a)).run P w = .ok (.pointer (some ⟨g,(j0+j)*k,none⟩)) w:=by
  rw[hij hp];simp[Instr.indexAt,asIntOf,run_underlying ht.u,Result.andThen,xK hz,hjl,xV,zaQ]
 simp only[execOp,ha.ev e1,ha.ev e2,Sem.run_bind,e3,Result.andThen];rfl
theorem cap00 {v0 z:Value}(m:Nat)(hx:tv Γ x=some (qx,exP v0))[hqx:Tr qx](hy:tv Γ y=some (qy,Ψy))[hq:Tr qy][h1:VI Ψy .i64 a](ha:a=(m:Int))[ht:TSl P t ty 1 bytes][hz:Z1 P ty z](htz:P.underlying tz=some (.int .i64))(hm:m≤1000000)(hn:l.length+m≤1000000000) :
  CkA P r N ops S ⟨some d,.call ⟨.builtin .append,#[x,y],#[t,tz]⟩,t',pos,af,none⟩ Γ (fun _ v=>v=v0) (fun v ob=>v=v0∧ob = .row v0 ty 1 l) (rowS ty 1 (l++List.replicate m (xc z))):=fun M D E w d' v ob hd hN hg hT he ho hok hmo=>by
 obtain rfl:=Option.some.inj hd;obtain⟨rfl,rfl⟩:=ho;obtain⟨us,g1,g2,g3⟩:=hok;obtain⟨u1,e1,k1⟩:=yL (p:=True) hT hx trivial (by simp[Op.operands,Call.operands]);obtain rfl:u1=v:=k1;obtain⟨u2,e2,k2⟩:=yL (p:=True) hT hy trivial (by simp[Op.operands,Call.operands]);rw[h1.h k2] at e2;obtain⟨by',hs1,hby,hone⟩:=hz.h;refine ops_append0 hN ht.u htz hs1 hone e1 e2 ha g1 hm (by omega) (zac (zaT hn hby) (by omega)) fun v' w' k1 k2 k3=>?_;refine xH ⟨rfl,k2,v',xO (by simp),k3,_,by rw[zal,zbA];exact k1,yX (uM g2 (nA hone m)) fun b cur ty' fz hk hw=>?_,fun c hc=>(zae.1 hc).elim (g3 c) fun hc=>by rw[zcV hc];rfl⟩;have hlt:b<w.heap.size:=(zaB.1 hw).1;refine⟨fun c=>?_,(k2.block b hlt fun e=>hk (hmo b e.symm)).trans hw⟩;rcases c with c | c
 ·rcases k3 with e | e
  ·exact hk (hmo b (e.symm.trans c))
  ·have:=Option.some.inj (e.symm.trans c);omega
 ·exact hk c
theorem cmk {z:Value}(i:Nat)(hx:tv Γ x=some (qx,Ψx))(hy:tv Γ y=some (qy,Ψy))[hqx:Tr qx][hqy:Tr qy][h1:VI Ψx ki a][h2:VI Ψy kj b](ha:a=(i:Int))(hb:b=(i:Int))[ht:TSl P t ty 1 bytes][hz:Z1 P ty z](hj:i≤100000000000) :
  CkN P r N ops S ⟨some d,.makeSlice t x y,t',pos,af,none⟩ Γ (rowS ty 1 (List.replicate i (xc z))):=fun M D E w d' hd hN hg hT=>by
 obtain rfl:=Option.some.inj hd;obtain⟨u1,e1,k1⟩:=yL (p:=True) hT hx trivial (by simp[Op.operands]);obtain⟨u2,e2,k2⟩:=yL (p:=True) hT hy trivial (by simp[Op.operands]);rw[h1.h k1] at e1;rw[h2.h k2] at e2;obtain⟨by',hs1,hby,hone⟩:=hz.h;refine zJ4 i i hN ht.u hs1 hone e1 e2 ha hb (zab _) (zac (zaT hby hj) (by decide)) (by omega) fun w' b hn=>?_;refine xH ⟨rfl,hn.below,.slice (some ⟨b,0,none⟩) i i,xO (by simp),fun c hc=>?_,List.replicate i z,by rw[zbA];exact yF5 hn (zab _) (zac hj (by decide)),nA hone i,fun c hc=>by rw[zcV hc];rfl⟩;rw[← Option.some.inj (show some b=some c from hc),hn.at_];exact zab _
theorem yP1 {f:FuncId}{xs:List Operand}{ts:Array TypeId}{τs:List PV}{a b c:Nat}(hf:ExtF P f add64Entry)(hx:tvs Γ xs=some (q,τs))[hi:Im p q](h:∀ M w vs,Fa τs M w vs→vs=[.int .u64 (a:Int),.int .u64 (b:Int),.int .u64 (c:Int)])(hc:c≤1) :
  Ob P r N ops M S p ⟨some d,.call ⟨.value (.func f),xs.toArray,ts⟩,t',pos,af,none⟩ Γ (tu [exP (.int .u64 (((a+b+c)%18446744073709551616:Nat):Int)),exP (.int .u64 (((a+b+c)/18446744073709551616:Nat):Int))]):=fun D E w d' hd hN hg hp hT=>by
 obtain rfl:=Option.some.inj hd;obtain⟨vs,e2,h2⟩:=gU hT hx (hi.h hp) fun x hx=>gA (by simp[Op.operands,Call.operands,hx]);rw[h _ _ _ h2] at e2;exact ops_add64' hN hf e2 hc (fin ⟨_,rfl,_,_,rfl,rfl,_,_,rfl,rfl,rfl⟩)
theorem ckvr {j:Nat}{a:Bool}{sz:Nat}{cs':List CT}{c:CT}(hx:tv Γ x=some (qx,eP v k j))(hy:tv Γ y=some (qy,Ψy))[hqx:Tr qx][hqy:Tr qy][hc:CtOf Ψy c][ht:TLd P t a sz](hsz:Nat.beq c.sz sz=true)(hsk:Nat.beq k sz=true)(hj:j<cs.length)(he:cs.set j c=cs') :
  CkV P r N ops S ⟨none,.store t x y,t',pos,af,none⟩ Γ (.row v ty k cs) (.row v ty k cs'):=⟨rfl,fun M D E w hg hT hok hm=>by
 subst he;obtain⟨u,e1,g,n,cc,hve,rfl⟩:=yL (p:=True) hT hx trivial (by simp[Op.operands]);obtain⟨u2,e2,h2⟩:=yL (p:=True) hT hy trivial (by simp[Op.operands]);obtain⟨us,g1,g2,g3⟩:=hok;obtain⟨vs,k1,k2⟩:=hc.h h2;obtain⟨by2,z,hz⟩:=ht.s;have h7:=c.len k2;have hsz:=zaj hsz;have hsk:=zaj hsk;have hul:=g1.1;obtain⟨g',cap,cur,rfl,hg,hnc,hcm,hcs,htk⟩:=dR g1 (by omega);injection hve with e3 e4 e5;injection e3 with e3;injection e3 with e3;subst e3;have hB:Blk w g' ty cur.toList:=by unfold Blk;simpa using hg
 have hcl:cur.toList.length=cap*k:=by simpa using hcs
 have hjk:j*k+k≤cs.length*k:=by have:=zaU k (show j+1≤cs.length from hj);rw[zaQ,zbm] at this;exact this
 have hck:cs.length*k≤cap*k:=zaU k hnc;refine uG e1 e2 hz hB (by rw[k1];simp;omega) (by omega) (by rw[k1];exact fun u hu=>c.one k2 u (by simpa using hu)) fun w' hch hB'=>?_;rw[k1] at hB';have cl:Cl M w M w':=fun b cur t fz hk hw=>⟨hk,(hch.other b fun e=>hk (e ▸ hm g' rfl)).trans hw⟩;have hst:stp (cs.set j c) M w (us.take (j*k)++vs++us.drop (j*k+k)):=by
  have hjc:cs[j]? = some cs[j]:=zag hj;have h8:=tW (d:=c) g2 hjc k2 (by rw[g3 _ (zaP hj)];omega);rwa [uQ g3 (by omega),g3 _ (zaP hj)] at h8
 refine xH ⟨rfl,⟨⟨hch.os,hch.tape.eq,hch.output,by rw[hch.size];exact zab _,fun b hb hne=>hch.other b fun e=>hne (by rw[e];rfl)⟩,hch.tape.le⟩,us.take (j*k)++vs++us.drop (j*k+k),⟨by simp[zbx];omega,.inr ⟨g',cap,_,by rw[zbx],zaD _,hB',by rw[zbx];exact hnc,hcm,by simp;omega,?_⟩⟩,yX hst cl,fun x hx=>(zbC hx).elim (g3 x) fun e=>by rw[e];omega⟩;rw[zbx,← htk];simp only[zaA];have h1:(cur.toList.take (j*k)).length=j*k:=by rw[zaE];omega
 have h2:(cur.toList.take (cs.length*k)).take (j*k)=cur.toList.take (j*k):=by rw[List.take_take,zaS (by omega)]
 have h3:(cur.toList.take (j*k)).take (cs.length*k)=cur.toList.take (j*k):=zaz (by omega);rw[h2,List.drop_take];simp only[zcx,h1,h3];rw[zaz (show vs.length≤cs.length*k-j*k by omega),show cs.length*k-j*k-vs.length=cs.length*k-(j*k+k) by omega,show j*k+sz=j*k+k by omega]⟩
theorem zO4 {X:Cx}{Γ:TE}{S:List Ow}{v:Value}{ty tb:TypeId}{k b:Nat}{l cs cs2:List CT}(i j:Nat)(hi:S[i]? = some (.row v ty k l))(hj:(S.eraseIdx i)[j]? = some (.blk b tb cs))(hc:∀ {M:Nat→Prop} {w:World} {us:List Value},(sl k l).p M w [v]→stp cs M w us→stp cs2 M w us):Ts X Γ S Γ ((S.eraseIdx i).set j (.blk b tb cs2)):=fun E w h=>by
 have h1:=h.frz hi;have h2:=h.sub (zca S i);generalize S.eraseIdx i=T at *;have hm:∀ o∈T.set j (.blk b tb cs2),o∈T∨o = .blk b tb cs2:=fun o ho=>zbC ho;have hjT:Ow.blk b tb cs∈T:=zam hj;have hmk:Mk (T.set j (.blk b tb cs2)) X.M=Mk T X.M:=funext fun c=>propext ⟨fun h=>h.imp (fun⟨o,ho,e⟩=>by
  rcases hm o ho with ho | rfl
  ·exact⟨o,ho,e⟩
  ·exact⟨_,hjT,e⟩) id,fun h=>h.imp (fun⟨o,ho,e⟩=>by
  obtain⟨m,hm⟩:=zbR.1 ho;by_cases c:j=m
  ·subst c;obtain rfl:=Option.some.inj (hm.symm.trans hj);exact⟨.blk b tb cs2,zam (zbf (zaL.1 hj).1),e⟩
  ·exact⟨o,zam (by rw[zbl c];exact hm),e⟩) id⟩
 refine⟨h2.bel,⟨by rw[hmk];exact h2.gd.ok,by rw[hmk];exact h2.gd.tab,fun o ho=>?_⟩,fun o ho b' e=>?_,cO h2.apt hj (fun b' e => .inl e),h2.ok0,h2.zm,h2.mko,by rw[hmk];exact h2.tm⟩
 ·rw[hmk];rcases hm o ho with ho | rfl
  ·exact h2.gd.own o ho
  ·obtain⟨us,g1,g2⟩:=h2.gd.own _ hjT;exact⟨_,g1,hc h1 g2⟩
 ·rcases hm o ho with ho | rfl
  ·exact h2.new o ho b' e
  ·exact h2.new _ hjT b' e
theorem zS4 {X:Cx}{Γ:TE}{S A B:List Ow}(is:List Nat)(hp:qN S 0 is=(A,B)):Ts X Γ S Γ (A++B):=fun E w h=>by
 have hm:∀ o,o∈A++B↔o∈S:=fun o=>by have:=@dQ S 0 is o;rw[hp] at this;rw[zae];exact this.symm
 have hap:=@iK S 0 is h.apt;rw[hp] at hap;have hmk:Mk (A++B) X.M=Mk S X.M:=funext fun k=>propext ⟨fun c=>c.imp (fun⟨o,ho,e⟩=>⟨o,(hm o).1 ho,e⟩) (fun c=>c),fun c=>c.imp (fun⟨o,ho,e⟩=>⟨o,(hm o).2 ho,e⟩) (fun c=>c)⟩;exact⟨h.bel,⟨by rw[hmk];exact h.gd.ok,by rw[hmk];exact h.gd.tab,fun o ho=>by rw[hmk];exact h.gd.own o ((hm o).1 ho)⟩,fun o ho=>h.new o ((hm o).1 ho),nQ hap.1 hap.2.1 hap.2.2,h.ok0,h.zm,h.mko,by rw[hmk];exact h.tm⟩
theorem yC5 {L:List Oper}(j:Nat)(hj:S[j]? = some (.row v ty k cs))(h:CtOf (exP v) (xc v)→TO P r N ops X K L Γ S):TO P r N ops X K L Γ S:=fun hN D E w hst=>by
 have hv:v.oneCell'=true:=by
  obtain⟨us,⟨_,h1⟩,_⟩:=hst.gd.own _ (zam hj);rcases h1 with⟨rfl,_⟩ | ⟨g,cap,cur,rfl,_⟩<;>rfl
 exact h ⟨fun h=>⟨[v],by rw[show _=v from h];exact yL4 hv,rfl,hv⟩⟩ hN D E w hst
theorem to_len {L:List Oper}(j:Nat)(hj:S[j]? = some (.row v ty k cs))(h:∀ a c,v = .slice a cs.length c→TO P r N ops X K L Γ S):TO P r N ops X K L Γ S:=fun hN D E w hst=>by
 obtain⟨us,⟨g0,h1⟩,h2,h3⟩:=hst.gd.own _ (zam hj);rcases h1 with⟨h4,h5⟩ | ⟨g,cap,cur,h4,_⟩
 ·exact h none 0 (by rw[h5];exact h4) hN D E w hst
 ·exact h _ _ h4 hN D E w hst
theorem olx {a:Option Addr}{n c:Nat}(hx:tv Γ x=some (qx,exP (.slice a n c)))[Im p qx][ht:TSl P t e k bytes]:Ob P r N ops M S p ⟨some d,.call ⟨.builtin .len,#[x],#[t]⟩,t',pos,af,none⟩ Γ (zJ n) :=
 ob1 hx (by simp[Op.operands,Call.operands]) fun D E w u hN hg e1 h1=>by
  obtain rfl:u=_:=h1;exact nD hN ht.u e1 (fin rfl)
theorem t_drawXr {rid:Nat}{Kn Kr:TK}{Ke:Nat→TK}(m i i0:Nat)(fl:List Nat)(cs':List CT)(hi:S[i]? = some (.row v ty k cs))(hm:P.follows .mixedOrders=true)(hlook:zW1 ops m i0 fl=true)(hN:okN N ops.toList=true)
  (h:TDX P r N ops S (S.eraseIdx i) (.row v ty k cs) (.row v ty k cs') (fun Γ'=>TO P r N ops X Kn (ops.toList.drop m) Γ' (S.set i (.row v ty k cs'))) (ops.toList.take m) fl Γ):TW P r N X (.region rid ops true) Kn Ke Kr Γ S:=zS8 (o1:=.row v ty k cs') m i i0 fl hi rfl hm hlook hN h
instance {f:Bool}{S':List Ow}{F:TE→Prop}{j n:Nat}{c:CT}{cs':List CT}{l:List Oper}{fl:List Nat}[hx:TV Γ x qx (eP v k j)][hy:TV Γ y qy Ψy][Tr qx][Tr qy][CtOf Ψy c][TLd P t f k][hz:SzC c k][ll:LL cs n][st:ST cs j c cs'] :
  Au (TDX P r N ops S S' (.row v ty k cs) (.row v ty k cs') F (⟨none,.store t x y,t',pos,af,none⟩::l) (2::fl) Γ) (j<n) (TDX P r N ops S S' (.row v ty k cs) (.row v ty k cs') F l fl Γ) :=
 ⟨fun A h=>tdx2 rfl (ckvr hx.h hy.h (by rw[hz.h];exact zcq _) (zcq _) (by rw[ll.h];exact A) st.h) h⟩
theorem zV6 {s:ByteArray}{j:Nat}(ht:P.underlying t=some .string)(hs:((List.range 256).all fun j=>(s[j]?.map (·.toNat)) == some (yU j))=true)(hy:tv Γ ix=some (qi,Ψi))[Im p qi][h1:VU Ψi .u8 j](hj:p→j<256) :
  Ob P r N ops M S p ⟨some d,.index t (.const (.string s)) ix,t',pos,af,none⟩ Γ (exP (.int .u8 ((yU j:Nat):Int))) :=
 fun D E w d' hd hN hg hp hT=>by
 obtain rfl:=Option.some.inj hd;obtain⟨u2,e2,h2⟩:=yL hT hy hp (by simp[Op.operands]);rw[h1.h h2] at e2;exact ops_len8 hN ht rfl hs e2 (hj hp) fun _=>fin rfl
theorem ocv8 {k':IntKind}{a:Nat}{tx ty:TypeId}[ht:TI P ty k'][ht':TI P tx .u8](hx:tv Γ x=some (qx,Ψx))[Im p qx][ha:VU Ψx k' a](hs:a<256):Ob P r N ops M S p ⟨some d,.convert ty tx x,t',pos,af,none⟩ Γ (exP (.int .u8 (a:Int))) :=
 ob1 hx (by simp[Op.operands]) fun D E w u hN _ e1 h1=>by rw[ha.h h1] at e1;exact ops_to8 hN ht.h ht'.h e1 hs (fin rfl)
end
end Go.SL
namespace Go.Proofs.YtalkinejknjidaaGreatDoor
open Go.SL Go.RowKit Go.Proofs Tryz
theorem zY9:ExtF prog 387 add64Entry:=⟨_,func387,by kernel_rfl,by kernel_rfl,by kernel_rfl,by kernel_rfl⟩
theorem klen32 {x:Nat}(hx:x<4294967296):CTy prog 235 [exP (.int .u32 ((x:Nat):Int))] (exP (.int .i64 ((yU x:Nat):Int))):=by
 have e1:65536≤x→yU x=16+yU (x/2^16):=fun h=>mF h;have e2:256≤x→yU x=8+yU (x/2^8):=fun h=>mF h;have e3:256≤x/2^16→yU (x/2^16)=8+yU (x/2^16/2^8):=fun h=>mF h;have w1:=qI (n:=x) hx;have w2:=qI (n:=x/2^16) (by omega);have w3:=qI (n:=x/2^8) (by omega);have w4:=qI (n:=x/2^16/2^8) (by omega);refine fw [.tmp 2] func235 fun X=>?_;repeat refine u ?_
 refine tp (fun c0=>?_) fun c0=>?_;repeat refine u ?_
 refine tp (fun c1=>?_) fun c1=>?_;repeat refine u ?_
 refine zA1 (ocv8 rfl (by omega)) (zA1 (zV6 underlying9 (by decide +kernel) rfl (fun g=>(by omega))) ?_);repeat refine u ?_
 exact e;repeat refine u ?_
 refine zA1 (ocv8 rfl (by omega)) (zA1 (zV6 underlying9 (by decide +kernel) rfl (fun g=>(by omega))) ?_);repeat refine u ?_
 exact e;repeat refine u ?_
 refine tp (fun c2=>?_) fun c2=>?_;repeat refine u ?_
 refine zA1 (ocv8 rfl (by omega)) (zA1 (zV6 underlying9 (by decide +kernel) rfl (fun g=>(by omega))) ?_);repeat refine u ?_
 exact e;repeat refine u ?_
 refine zA1 (ocv8 rfl (by omega)) (zA1 (zV6 underlying9 (by decide +kernel) rfl (fun g=>(by omega))) ?_);repeat refine u ?_
 exact e
theorem klz32 {x:Nat}(hx:x<4294967296):CTy prog 375 [exP (.int .u32 ((x:Nat):Int))] (exP (.int .i64 (32-(yU x:Int)))):=by
 have w1:=qI (n:=x) hx;refine fw [.tmp 2] func375 fun X=>?_;repeat refine u ?_
 refine zB rfl rfl (klen32 hx) ?_;repeat refine u ?_
 exact e
theorem yH9 {a b:Nat}(ha:a<4294967296)(hb:b<4294967296):CTy prog 386 [exP (.int .u64 ((a:Nat):Int)),exP (.int .u64 ((b:Nat):Int))] (tu [exP (.int .u64 0),exP (.int .u64 ((a*b:Nat):Int))]):=by
 have hab:a*b≤4294967295*4294967295:=zaT (by omega) (by omega);have h1:(a &&& 4294967295)=a:=by rw[lG];omega
 have h2:(b &&& 4294967295)=b:=by rw[lG];omega
 have h3:a/2^32=0:=by omega
 have h4:b/2^32=0:=by omega
 have h5:(a*b/2^32 &&& 4294967295)=a*b/2^32:=by rw[lG];omega
 refine fw [.tmp 4,.tmp 5] func386 fun X=>?_;repeat refine u ?_
 refine zA1 (omlv rfl rfl ?_) ?_;rotate_left;repeat refine u ?_
 refine zA1 (omlv rfl rfl ?_) ?_;rotate_left;repeat refine u ?_
 refine zA1 (oadv rfl rfl ?_) ?_;rotate_left;repeat refine u ?_
 refine zA1 (oan rfl rfl ?_) ?_;rotate_left;repeat refine u ?_
 refine zA1 (omlv rfl rfl ?_) ?_;rotate_left;refine zA1 (oadv rfl rfl ?_) ?_;rotate_left;repeat refine u ?_
 refine zA1 (omlv rfl rfl ?_) ?_;rotate_left;repeat refine u ?_
 refine zA1 (oadv rfl rfl ?_) ?_;rotate_left;repeat refine u ?_
 refine zA1 (oadv rfl rfl ?_) ?_;rotate_left;repeat refine u ?_
 refine zA1 (omv rfl) ?_;refine zA1 (omv rfl) ?_;repeat refine u ?_
 refine e ⟨?_,?_⟩;refine ps_i ?_;rotate_left;refine ps_r _;all_goals (simp only[h1,h2,h3,h4,h5,Nat.zero_mul,Nat.mul_zero,zba,zbM,Nat.zero_div];first | decide | omega | exact⟨by show _<18446744073709551616;omega,by decide⟩)
abbrev lgO (bd:Nat)(v:Value)(ys rs:List Nat):List Ow:=[.blk bd 355 [xc v,ntx ys],.row v 155 1 (rs.map xw)]
theorem kguess {bd p:Nat}{v:Value}{ys rs:List Nat}(hy:∀ y∈ys,y<4294967296)(hr:∀ x∈rs,x<4294967296)(hn:0<ys.length)(ht:0<ys.getD (ys.length-1) 0)(hat:p+ys.length<rs.length)(hrl:rs.length≤1000000000) :
  CTo prog 382 [zU bd 0,zJ p] (lgO bd v ys rs) (fun ρ So=>ρ=exP (.int .u64 ((min ((rs.getD (p+ys.length) 0*4294967296+rs.getD (p+ys.length-1) 0)/ys.getD (ys.length-1) 0) 4294967295:Nat):Int))∧So=lgO bd v ys rs):=by
 have b1:=yC hr (p+ys.length);have b2:=yC hr (p+ys.length-1);have b3:=yC hy (ys.length-1);have hov:(rs.getD (p+ys.length) 0*2^32%xX IntKind.u64 ||| rs.getD (p+ys.length-1) 0)=rs.getD (p+ys.length) 0*4294967296+rs.getD (p+ys.length-1) 0:=by
  rw[show xX IntKind.u64=18446744073709551616 from rfl,zao (by omega),yF7 _ _ (by omega)]
 refine fwo [.tmp 4] func382 fun X=>?_;iterate 14 refine u ?_
 refine zK 24 mixed rfl rfl ?_;repeat refine u ?_
 refine d1 (zG 0 rfl) ?_;repeat refine u ?_
 refine d1 (zG 0 rfl) ?_;repeat refine u ?_
 refine zA1 (oquw rfl rfl ?_) ?_;rotate_left;repeat refine u ?_
 rotate_left
 ·rw[hov];exact⟨ht,by show _<18446744073709551616;omega⟩
 ·rw[hov];exact er ⟨by congr 2;omega,rfl⟩
theorem kless2 {bd p m:Nat}{v:Value}{ys rs:List Nat}(hy:∀ y∈ys,y<4294967296)(hr:∀ x∈rs,x<4294967296)(hm:m<4294967296)(hat:p+ys.length<rs.length)(hrl:rs.length≤1000000000) :
  CTo prog 383 [zU bd 0,zJ p,exP (.int .u64 ((m:Nat):Int))] (lgO bd v ys rs) (fun ρ So=>∃(u:Nat) (zs:List Nat),ρ=exP (.bool (decide (u=0)))∧So=lgO bd v ys zs∧zs.length=rs.length∧(∀ z∈zs,z<4294967296)∧u≤1∧(∀ j,p+ys.length<j→zs.getD j 0=rs.getD j 0)∧val zs+4294967296^p*(m*val ys)=val rs+4294967296^(p+(ys.length+1))*u):=by
 refine fwo [.tmp 6] func383 fun X=>?_;iterate 5 refine u ?_
 refine zK 16 mixed rfl rfl ?_;repeat refine u ?_
 refine d1 (zG 0 rfl) ?_;repeat refine u ?_
 refine d1 (osq 1 p (ys.length+1) rfl rfl rfl rfl (fun g=>rfl) (fun g=>(by omega)) (fun g=>(by omega)) (fun g=>(by(simp;omega)))) ?_;repeat refine u ?_
 refine zA1 (olq rfl) ?_;repeat refine u ?_
 refine yZ (σ:=Nat×Nat×Nat×List Nat) (fun s=>[(8,True,exP (.int .u64 ((s.2.1:Nat):Int))),(9,True,exP (.int .u64 ((s.2.2.1:Nat):Int))),(32,True,zJ s.1)]) (fun s=>[.blk bd 355 [xc v,ntx ys],.row v 155 1 (s.2.2.2.map xw)]) (fun s=>s.1≤ys.length+1∧s.2.1<4294967296∧s.2.2.1≤1∧(s.1≤ys.length∨s.2.1=0)∧s.2.2.2.length=rs.length∧(∀ z∈s.2.2.2,z<4294967296)∧(∀ j,p+ys.length<j→s.2.2.2.getD j 0=rs.getD j 0)∧val s.2.2.2+4294967296^p*(m*val (ys.take s.1))=val rs+4294967296^(p+s.1)*(s.2.1+s.2.2.1)) (fun s=>ys.length+1-s.1) ((0,0,0,rs)) (tk 0 rfl (tk 2 rfl (tk 6 rfl (tk 7 rfl (tk 31 rfl tn))))) ?_ rfl (⟨zaD _,Nat.zero_lt_succ _,zaD _,.inl (zaD _),rfl,hr,fun _ _=>rfl,by simp[val]⟩) (fun s hJ Y _=>?_);refine zA rfl (zA rfl (zA rfl tn));obtain⟨i,oo,uu,zs⟩:=s;dsimp only at hJ ⊢;obtain⟨hi,ho,hu,hi0,hzl,hzlt,hzh,hzv⟩:=hJ;have hby:=yC hy i;have hbz:=yC hzlt (p+i);have hxy:ys.getD i 0*m≤4294967295*4294967295:=zaT (by omega) (by omega);have hlo:ys.getD i 0*m+oo<18446744073709551616:=by omega
 have hsd:=zT9 hbz (zaH (ys.getD i 0*m+oo) (show 0<4294967296 by omega)) hu;have hend:p+i<zs.length→i<ys.length+1→i+1≤ys.length+1∧(ys.getD i 0*m+oo)/4294967296<4294967296∧subD (zs.getD (p+i) 0) ((ys.getD i 0*m+oo)%4294967296) uu/9223372036854775808≤1∧(i+1≤ys.length∨(ys.getD i 0*m+oo)/4294967296=0)∧(zs.set (p+i) (subD (zs.getD (p+i) 0) ((ys.getD i 0*m+oo)%4294967296) uu%4294967296)).length=rs.length∧(∀ z∈zs.set (p+i) (subD (zs.getD (p+i) 0) ((ys.getD i 0*m+oo)%4294967296) uu%4294967296),z<4294967296)∧(∀ j,p+ys.length<j→(zs.set (p+i) (subD (zs.getD (p+i) 0) ((ys.getD i 0*m+oo)%4294967296) uu%4294967296)).getD j 0=rs.getD j 0)∧val (zs.set (p+i) (subD (zs.getD (p+i) 0) ((ys.getD i 0*m+oo)%4294967296) uu%4294967296))+4294967296^p*(m*val (ys.take (i+1)))=val rs+4294967296^(p+(i+1))*((ys.getD i 0*m+oo)/4294967296+subD (zs.getD (p+i) 0) ((ys.getD i 0*m+oo)%4294967296) uu/9223372036854775808):=fun h1 h2=>by
  refine⟨by omega,by omega,hsd.2.1,?_,by rw[zbx,hzl],aP hzlt (zaH _ (by omega)),fun j hj=>by rw[jL (by omega)];exact hzh j hj,?_⟩
  ·rcases zaf i ys.length with h | h
   ·exact .inl (by omega)
   ·right;rw[yR h];omega
  ·have:=less_step (zs:=zs) (p:=p) (i:=i) (x:=ys.getD i 0) h1 hzv (Nat.mod_add_div (ys.getD i 0*m+oo) 4294967296).symm hsd.1 rfl;rw[yS];exact this
 repeat refine u ?_
 refine tp (fun c0=>?_) fun c0=>?_;repeat refine u ?_
 refine tp (fun c1=>?_) fun c1=>?_;repeat refine u ?_
 refine zB rfl rfl (yH9 (by omega) (by omega)) ?_;iterate 4 refine u ?_
 refine zA1 (xE (oas rfl) (ps_i (show _=((ys.getD i 0*m:Nat):Int) by first | rfl | rw[yR (by omega)]))) ?_;repeat refine u ?_
 refine zA1 (yP1 (a:=ys.getD i 0*m) (b:=oo) (c:=0) zY9 rfl (fun M w vs h=>by obtain⟨_,_,rfl,rfl,_,_,rfl,rfl,_,_,rfl,rfl,rfl⟩:=h;rfl) (zaD _)) ?_;iterate 3 refine u ?_
 refine zA1 (xE (oas rfl) (ps_i (show _=((ys.getD i 0*m+oo:Nat):Int) by omega))) (zA1 (xE (oas rfl) (ps_i (show _=((0:Nat):Int) by omega))) ?_);iterate 10 refine u ?_
 refine zA1 (xE (oas rfl) (ps_i (show _=(((ys.getD i 0*m+oo)/4294967296:Nat):Int) by simp))) ?_;repeat refine u ?_
 refine zA1 (omv rfl) ?_;refine zA1 (omv rfl) (zA1 (oixq i rfl rfl (fun g=>rfl) (fun g=>(by omega))) ?_);iterate 3 refine u ?_
 refine zA1 (xE (oan rfl rfl (by(simp only[xX];omega))) (ps_i (show _=(((ys.getD i 0*m+oo)%4294967296:Nat):Int) by rw[lG]))) (zA1 (osbw rfl rfl (by omega)) ?_);refine zA1 (omv rfl) (zA1 (osbw rfl rfl (by omega)) (zA1 (xE (oas rfl) (ps_i (show _=((subD (zs.getD (p+i) 0) ((ys.getD i 0*m+oo)%4294967296) uu:Nat):Int) from rfl))) ?_));repeat refine u ?_
 refine zA1 (omv rfl) ?_;refine zA1 (omv rfl) ?_;repeat refine u ?_
 refine zA1 (oixq i rfl rfl (fun g=>rfl) (fun g=>(by omega))) ?_;repeat refine u ?_
 refine zA1 (oad rfl rfl (by omega)) ?_;repeat refine u ?_
 rotate_left;repeat refine u ?_
 refine zB rfl rfl (yH9 (by(simp;done)) (by omega)) ?_;iterate 4 refine u ?_
 refine zA1 (xE (oas rfl) (ps_i (show _=((ys.getD i 0*m:Nat):Int) by first | rfl | rw[yR (by omega)]))) ?_;repeat refine u ?_
 refine zA1 (yP1 (a:=ys.getD i 0*m) (b:=oo) (c:=0) zY9 rfl (fun M w vs h=>by obtain⟨_,_,rfl,rfl,_,_,rfl,rfl,_,_,rfl,rfl,rfl⟩:=h;rfl) (zaD _)) ?_;iterate 3 refine u ?_
 refine zA1 (xE (oas rfl) (ps_i (show _=((ys.getD i 0*m+oo:Nat):Int) by omega))) (zA1 (xE (oas rfl) (ps_i (show _=((0:Nat):Int) by omega))) ?_);iterate 10 refine u ?_
 refine zA1 (xE (oas rfl) (ps_i (show _=(((ys.getD i 0*m+oo)/4294967296:Nat):Int) by simp))) ?_;repeat refine u ?_
 refine zA1 (omv rfl) ?_;repeat refine u ?_
 refine zA1 (oixq i rfl rfl (fun g=>rfl) (fun g=>(by omega))) ?_;iterate 3 refine u ?_
 refine zA1 (xE (oan rfl rfl (by(simp only[xX];omega))) (ps_i (show _=(((ys.getD i 0*m+oo)%4294967296:Nat):Int) by rw[lG]))) (zA1 (osbw rfl rfl (by omega)) ?_);refine zA1 (omv rfl) (zA1 (osbw rfl rfl (by omega)) (zA1 (xE (oas rfl) (ps_i (show _=((subD (zs.getD (p+i) 0) ((ys.getD i 0*m+oo)%4294967296) uu:Nat):Int) from rfl))) ?_));repeat refine u ?_
 refine zA1 (omv rfl) ?_;refine zA1 (omv rfl) ?_;repeat refine u ?_
 refine zA1 (oixq i rfl rfl (fun g=>rfl) (fun g=>(by omega))) ?_;repeat refine u ?_
 refine zA1 (oad rfl rfl (by omega)) ?_;repeat refine u ?_
 rotate_left;repeat refine u ?_
 rotate_left
 ·refine⟨(i+1,(ys.getD i 0*m+oo)/4294967296,subD (zs.getD (p+i) 0) ((ys.getD i 0*m+oo)%4294967296) uu/9223372036854775808,zs.set (p+i) (subD (zs.getD (p+i) 0) ((ys.getD i 0*m+oo)%4294967296) uu%4294967296)),tes ?_ ?_ (zaa _),?_,(by omega)⟩;refine zA rfl (zA rfl (zA rfl tn));refine zA rfl (zA rfl (zA rfl (zA rfl (zA rfl tn))));exact hend (by omega) (by omega)
 ·refine⟨(i+1,(ys.getD i 0*m+oo)/4294967296,subD (zs.getD (p+i) 0) ((ys.getD i 0*m+oo)%4294967296) uu/9223372036854775808,zs.set (p+i) (subD (zs.getD (p+i) 0) ((ys.getD i 0*m+oo)%4294967296) uu%4294967296)),tes ?_ ?_ (zaa _),?_,(by omega)⟩;refine zA rfl (zA rfl (zA rfl tn));refine zA rfl (zA rfl (zA rfl (zA rfl (zA rfl tn))));exact hend (by omega) (by omega)
 ·obtain rfl:i=ys.length+1:=by omega
  obtain rfl:oo=0:=by omega
  rw[zaz (by omega),zba] at hzv;exact er ⟨uu,zs,congrArg (fun b=>exP (.bool b)) (decide_eq_decide.2 (by omega)),rfl,hzl,hzlt,hu,hzh,hzv⟩
theorem kmore {bd p:Nat}{v:Value}{ys rs:List Nat}(hy:∀ y∈ys,y<4294967296)(hr:∀ x∈rs,x<4294967296)(hat:p+ys.length<rs.length)(hrl:rs.length≤1000000000) :
  CTo prog 384 [zU bd 0,zJ p] (lgO bd v ys rs) (fun ρ So=>∃(u:Nat) (zs:List Nat),ρ=exP (.bool (decide (u=1)))∧So=lgO bd v ys zs∧zs.length=rs.length∧(∀ z∈zs,z<4294967296)∧u≤1∧(∀ j,p+ys.length<j→zs.getD j 0=rs.getD j 0)∧val zs+4294967296^(p+(ys.length+1))*u=val rs+4294967296^p*val ys):=by
 refine fwo [.tmp 4] func384 fun X=>?_;repeat refine u ?_
 refine lp (σ:=Nat×Nat×List Nat) [0,1,4,12] (fun s=>[(5,True,exP (.int .u64 ((s.2.1:Nat):Int))),(13,True,zJ s.1)]) (fun s=>[.blk bd 355 [xc v,ntx ys],.row v 155 1 (s.2.2.map xw)]) (fun s=>s.1≤ys.length+1∧s.2.1≤1∧s.2.2.length=rs.length∧(∀ z∈s.2.2,z<4294967296)∧(∀ j,p+ys.length<j→s.2.2.getD j 0=rs.getD j 0)∧val s.2.2+4294967296^(p+s.1)*s.2.1=val rs+4294967296^p*val (ys.take s.1)) (fun s=>ys.length+1-s.1) ((0,0,rs)) (⟨zaD _,zaD _,rfl,hr,fun _ _=>rfl,by simp[val]⟩) fun s hJ Y _=>?_;obtain⟨i,oo,zs⟩:=s;dsimp only at hJ ⊢;obtain⟨hi,ho,hzl,hzlt,hzh,hzv⟩:=hJ;have hby:=yC hy i;have hbz:=yC hzlt (p+i);have hend:p+i<zs.length→i<ys.length+1→i+1≤ys.length+1∧(oo+ys.getD i 0+zs.getD (p+i) 0)/4294967296≤1∧(zs.set (p+i) ((oo+ys.getD i 0+zs.getD (p+i) 0)%4294967296)).length=rs.length∧(∀ z∈zs.set (p+i) ((oo+ys.getD i 0+zs.getD (p+i) 0)%4294967296),z<4294967296)∧(∀ j,p+ys.length<j→(zs.set (p+i) ((oo+ys.getD i 0+zs.getD (p+i) 0)%4294967296)).getD j 0=rs.getD j 0)∧val (zs.set (p+i) ((oo+ys.getD i 0+zs.getD (p+i) 0)%4294967296))+4294967296^(p+(i+1))*((oo+ys.getD i 0+zs.getD (p+i) 0)/4294967296)=val rs+4294967296^p*val (ys.take (i+1)):=fun h1 h2=>by
  refine⟨by omega,by omega,by rw[zbx,hzl],aP hzlt (zaH _ (by omega)),fun j hj=>by rw[jL (by omega)];exact hzh j hj,?_⟩;have:=more_step (zs:=zs) (p:=p) (i:=i) (x:=ys.getD i 0) h1 hzv rfl rfl;rw[yS];exact this
 repeat refine u ?_
 refine tp (fun c0=>?_) fun c0=>?_;repeat refine u ?_
 refine tp (fun c1=>?_) fun c1=>?_;repeat refine u ?_
 refine zA1 (zG 0 rfl) ?_;iterate 7 refine u ?_
 refine zA1 (xE (oas rfl) (ps_i (show _=((oo+ys.getD i 0+zs.getD (p+i) 0:Nat):Int) by first | rfl | rw[yR (xs:=ys) (by omega)];omega))) ?_;repeat refine u ?_
 refine zA1 (zG 0 rfl) ?_;refine zA1 (omv rfl) ?_;repeat refine u ?_
 refine zA1 (oad rfl rfl (by omega)) ?_;repeat refine u ?_
 rotate_left;repeat refine u ?_
 refine zA1 (zG 0 rfl) ?_;iterate 7 refine u ?_
 refine zA1 (xE (oas rfl) (ps_i (show _=((oo+ys.getD i 0+zs.getD (p+i) 0:Nat):Int) by first | rfl | rw[yR (xs:=ys) (by omega)];omega))) ?_;repeat refine u ?_
 refine zA1 (zG 0 rfl) ?_;repeat refine u ?_
 rotate_left;repeat refine u ?_
 rotate_left
 ·refine⟨(i+1,(oo+ys.getD i 0+zs.getD (p+i) 0)/4294967296,zs.set (p+i) ((oo+ys.getD i 0+zs.getD (p+i) 0)%4294967296)),tes ?_ ?_ (zaa _),?_,(by omega)⟩;refine zA rfl (zA rfl tn);refine zA rfl (zA rfl (zA rfl (zA rfl tn)));exact hend (by omega) (by omega)
 ·refine⟨(i+1,(oo+ys.getD i 0+zs.getD (p+i) 0)/4294967296,zs.set (p+i) ((oo+ys.getD i 0+zs.getD (p+i) 0)%4294967296)),tes ?_ ?_ (zaa _),?_,(by omega)⟩;refine zA rfl (zA rfl tn);refine zA rfl (zA rfl (zA rfl (zA rfl tn)));exact hend (by omega) (by omega)
 ·obtain rfl:i=ys.length+1:=by omega
  rw[zaz (by omega)] at hzv;exact er ⟨oo,zs,congrArg (fun b=>exP (.bool b)) (decide_eq_decide.2 (by omega)),rfl,hzl,hzlt,ho,hzh,hzv⟩
abbrev qfQ (R V m j:Nat):Nat×Nat:=(m-j-1,R/(4294967296^(m-j-1)*V)%4294967296)
theorem kqlimbs {bd:Nat}:CTy prog 376 [zU bd 0] (fn 381 [pa (xc (.pointer (some ⟨bd,0,none⟩)))]):=by
 refine fw [.tmp 2] func376 fun X=>?_;repeat refine u ?_
 exact e
theorem iqlimbs {bd m:Nat}{v:Value}{ys rs:List Nat}(hy:∀ y∈ys,y<4294967296)(hr:∀ x∈rs,x<4294967296)(hy0:0<ys.length)(ht:0<ys.getD (ys.length-1) 0)(hrm:rs.length=m+ys.length)(hQ:val rs<4294967296^m*val ys)(hrl:rs.length≤1000000000) :
  CItS True prog 381 [pa (xc (.pointer (some ⟨bd,0,none⟩)))] (lgO bd v ys rs) ((List.range m).map (qfQ (val rs) (val ys) m)) (fun x=>[zJ x.1,exP (.int .u32 ((x.2:Nat):Int))]) (fun So=>∃ zs,So=lgO bd v ys zs∧zs.length=rs.length∧(∀ z∈zs,z<4294967296)∧val zs=val rs%val ys):=by
 have hV:0<val ys:=uX ys (by intro e;subst e;simp at hy0) (by omega);refine citS func381 rfl rfl rfl rfl rfl fun X y YS YX hY hfin hS=>?_;clear hfin;refine u ?_;refine zK 13 mixed rfl rfl ?_;repeat refine u ?_
 refine d1 (zG 0 rfl) ?_;repeat refine u ?_
 refine lpy (σ:=Nat×List Nat) [0,1] (fun s=>[(3,True,exP (.int .i64 (((m-s.1:Nat):Int)-1)))]) (fun s=>[.blk bd 355 [xc v,ntx ys],.row v 155 1 (s.2.map xw)]) (fun s Y=>YS ((List.range s.1).map (qfQ (val rs) (val ys) m)) Y∧s.1≤m∧s.2.length=rs.length∧(∀ z∈s.2,z<4294967296)∧val s.2=val rs%(4294967296^(m-s.1)*val ys)) (fun s=>m-s.1) ((0,rs)) (⟨hS,zaD _,rfl,hr,by rw[Nat.sub_zero,zao hQ]⟩) fun s Y hG=>?_;obtain⟨s,zs⟩:=s;dsimp only at hG ⊢;obtain⟨hS,hs,hzl,hzlt,hzv⟩:=hG;repeat refine u ?_
 refine tp (fun c0=>?_) fun c0=>?_;rotate_left;repeat refine u ?_
 rotate_left
 ·have hs2:s<m:=by omega
  obtain⟨p,hpe⟩:∃ p,p=m-s-1:=⟨_,rfl⟩;have hat:((m-s:Nat):Int)-1=(p:Int):=by omega
  have hzv':val zs=val rs%(4294967296^p*val ys*4294967296):=by rw[hzv,show m-s=p+1 by omega,zax,zbV]
  have hS2:val zs<4294967296^(p+1)*val ys:=by rw[hzv,show m-s=p+1 by omega];exact zaH _ (Nat.mul_pos (zbO (by omega)) hV)
  have hhi:∀ j,p+ys.length<j→zs.getD j 0=0:=fun j hj=>high_zero (n:=p+1+ys.length) (zan hS2 (by
   rw[zaJ _ (p+1)];exact zbo _ (zbU (yJ ys hy)))) j (by omega)
  have hgu:=guess_ok hzlt hhi hS2 hy0 ht;have hgb:min ((zs.getD (p+ys.length) 0*4294967296+zs.getD (p+ys.length-1) 0)/ys.getD (ys.length-1) 0) 4294967295<4294967296:=zbr (Nat.min_le_right _ _) (by decide);obtain⟨g,hge⟩:∃ g,min ((zs.getD (p+ys.length) 0*4294967296+zs.getD (p+ys.length-1) 0)/ys.getD (ys.length-1) 0) 4294967295=g:=⟨_,rfl⟩;rw[hge] at hgu hgb;refine t_ts (qL (s:=3) (Φ:=zJ p) rfl (ps_i hat)) ?_;repeat refine u ?_
  refine tcoR [0,1] rfl rfl rfl (kguess hy hzlt hy0 ht (by omega) (by omega)) (zA1 (xE (oas rfl) (ps_i (show _=((g:Nat):Int) by rw[hge]))) ?_);repeat refine u ?_
  refine tco [0,1] rfl rfl rfl (kless2 hy hzlt hgb (by omega) (by omega)) ?_;rintro _ _ ⟨u1,z1,rfl,rfl,hl1,hz1,hu1,hh1,hv1⟩;repeat refine u ?_
  refine lpy (σ:=Nat×Nat×List Nat) [0,1,3] (fun r=>[(4,True,exP (.int .u64 ((r.1:Nat):Int))),(5,True,exP (.bool (decide (r.2.1=0))))]) (fun r=>[.blk bd 355 [xc v,ntx ys],.row v 155 1 (r.2.2.map xw)]) (fun r Y=>YS ((List.range s).map (qfQ (val rs) (val ys) m)) Y∧r.1<4294967296∧r.2.1≤1∧r.2.2.length=rs.length∧(∀ z∈r.2.2,z<4294967296)∧(∀ j,p+ys.length<j→r.2.2.getD j 0=0)∧val r.2.2+4294967296^p*val ys*r.1=val zs+4294967296^(p+(ys.length+1))*r.2.1∧val zs<4294967296^p*val ys*(r.1+1)) (fun r=>r.1) ((g,u1,z1)) (⟨hS,hgb,hu1,hl1.trans hzl,hz1,fun j hj=>by rw[hh1 j hj];exact hhi j hj,by rw[← zau,zbV] at hv1;exact hv1,hgu⟩) fun r Y hG=>?_;obtain⟨q,u2,zq⟩:=r;dsimp only at hG ⊢;obtain⟨hS3,hqb,hu2,hql,hqlt,hqh,hqv,hqu⟩:=hG;have hyl:∀(a:Nat) (l:List Nat),val l+4294967296^p*val ys*a=val zs→val zs<4294967296^p*val ys*(a+1)→∀ M w vs,Fa [zJ p,exP (.int .u32 ((a%4294967296:Nat):Int))] M w vs→Fa [exP (.int .i64 (((qfQ (val rs) (val ys) m s).1:Nat):Int)),exP (.int .u32 (((qfQ (val rs) (val ys) m s).2:Nat):Int))] M w vs:=fun a l h1 h2=>by
   obtain⟨hq,_⟩:=sW h1 h2;have e1:a%4294967296=val rs/(4294967296^(m-s-1)*val ys)%4294967296:=by rw[hq,← hpe,hzv',Nat.mod_mul_right_div_self,Nat.mod_mod]
   show ∀ M w vs,_→Fa [exP (.int .i64 ((m-s-1:Nat):Int)),exP (.int .u32 ((val rs/(4294967296^(m-s-1)*val ys)%4294967296:Nat):Int))] M w vs;rw[← e1,← hpe];exact fun _ _ _ h=>h
  have hzn:∀(a:Nat) (l:List Nat),val l+4294967296^p*val ys*a=val zs→val zs<4294967296^p*val ys*(a+1)→val l=val rs%(4294967296^(m-(s+1))*val ys):=fun a l h1 h2=>by
   obtain⟨_,hz⟩:=sW h1 h2;rw[hz,hzv',Nat.mod_mul_right_mod,hpe,show m-s-1=m-(s+1) by omega]
  repeat refine u ?_
  refine tp (fun c1=>?_) fun c1=>?_;rotate_left;rotate_left
  ·have hu1':u2=1:=by omega
   subst hu1';rw[Nat.mul_one] at hqv;have hlt:=val_high (n:=p+(ys.length+1)) hqlt (fun j hj=>hqh j (by omega));have hq1:1≤q:=by
    rcases zbi q with h | h
    ·subst h;omega
    ·exact h
   have hq2:val zs<4294967296^p*val ys*(q-1+1):=by
    rw[Nat.sub_add_cancel hq1];omega
   have hqn:4294967296^p*val ys*q=4294967296^p*val ys*(q-1)+4294967296^p*val ys:=by
    have:q=(q-1)+1:=by omega
    conv=>lhs;rw[this,zap,Nat.mul_one]
   repeat refine u ?_
   refine tco [0,1] rfl rfl rfl (kmore hy hqlt (by omega) (by omega)) ?_;rintro _ _ ⟨u3,z3,rfl,rfl,hl3,hz3,hu3,hh3,hv3⟩;repeat refine u ?_
   refine tp (fun c2=>?_) fun c2=>?_;rotate_left;rotate_left
   ·subst c2;have hqe:val z3+4294967296^p*val ys*(q-1)=val zs:=by omega
    repeat refine u ?_
    refine gM hY hS3 (oK _ hs2).choose_spec rfl rfl (hyl (q-1) z3 hqe hq2) (fun Y hS=>?_) (fun Y hX=>?_)
    ·repeat refine u ?_
     refine gZ rfl rfl ?_;repeat refine u ?_
     refine⟨(s+1,z3),tes ?_ ?_ (zaa _),?_,(by omega)⟩;refine tc rfl (ps_i (by omega)) (tn);refine zA rfl (zA rfl tn);exact⟨by rw[dK];exact hS,hs2,hl3.trans hql,hz3,hzn (q-1) z3 hqe hq2⟩
    ·repeat refine u ?_
     refine kD rfl rfl ?_;repeat refine u ?_
     exact .inr hX
   ·have hu0:u3=0:=by omega
    subst hu0;repeat refine u ?_
    refine⟨(q-1,1,z3),tes ?_ ?_ (zaa _),?_,(by omega)⟩;refine zA rfl (zA rfl tn);refine zA rfl (zA rfl (zA rfl tn));exact⟨hS3,by omega,by omega,hl3.trans hql,hz3,fun j hj=>by rw[hh3 j hj];exact hqh j hj,by show val z3+4294967296^p*val ys*(q-1)=val zs+4294967296^(p+(ys.length+1))*1;omega,hq2⟩
  ·have hu0:u2=0:=by omega
   subst hu0;rw[Nat.mul_zero,zbM] at hqv;repeat refine u ?_
   refine gM hY hS3 (oK _ hs2).choose_spec rfl rfl (hyl q zq hqv hqu) (fun Y hS=>?_) (fun Y hX=>?_)
   ·repeat refine u ?_
    refine gZ rfl rfl ?_;repeat refine u ?_
    refine⟨(s+1,zq),tes ?_ ?_ (zaa _),?_,(by omega)⟩;refine tc rfl (ps_i (by omega)) (tn);refine zA rfl (zA rfl tn);exact⟨by rw[dK];exact hS,hs2,hql,hqlt,hzn q zq hqv hqu⟩
   ·repeat refine u ?_
    refine kD rfl rfl ?_;repeat refine u ?_
    exact .inr hX
 ·obtain rfl:s=m:=by omega
  exact .inl ⟨hS,_,⟨zs,rfl,hzl,hzlt,by rw[hzv,Nat.sub_self,Nat.pow_zero,zbm]⟩,fN tn rfl⟩
theorem zP1 {M:Nat→Prop}{w:World}{us:List Value}{v:Value}{zs:List Nat}{r:List CT}(hz:∀ z∈zs,z<4294967296)(h:(sl 1 (zs.map xw)).p M w [v])(k:stp (xc v::r) M w us):stp (ntx zs::r) M w us:=by
 obtain⟨x,y,rfl,g1,g2⟩:=k;obtain⟨rfl,_⟩:=g1;exact⟨[v],y,rfl,gG hz rfl M w v h,g2⟩
theorem mY {a b c:PV}:∀ M w vs,Fa [a,b,c] M w vs→(tu [a,b,c]).p M w (gW vs):=fun M w vs h=>⟨vs,by obtain⟨_,_,rfl,_,_,_,rfl,_,_,_,rfl,_,rfl⟩:=h;rfl,h⟩
abbrev bkL (xs:List Nat)(j:Nat):Nat×Nat:=(xs.length-1-j,xs.getD (xs.length-1-j) 0)
theorem ibackN {xs:List Nat}(hl:xs.length≤1000000000):CIt prog 385 [pa (ntx xs)] ((List.range xs.length).map (bkL xs)) (fun p=>[zJ p.1,exP (.int .u32 ((p.2:Nat):Int))]):=by
 refine cit func385 rfl rfl rfl rfl rfl fun X y YS YX hY hS=>?_;repeat refine u ?_
 refine lpy (σ:=Nat) [0,1] (fun i=>[(3,True,exP (.int .i64 (((xs.length-i:Nat):Int)-1)))]) (fun i=>[]) (fun i Y=>YS ((List.range i).map (bkL xs)) Y∧i≤xs.length) (fun i=>xs.length-i) (0) (⟨hS,by omega⟩) fun i Y hG=>?_;obtain⟨hS,hi⟩:=hG;repeat refine u ?_
 refine tp (fun c0=>?_) fun c0=>?_;rotate_left;repeat refine u ?_
 rotate_left 1 
 ·have hi2:i<xs.length:=by omega
  refine t_ts (qL (s:=3) (Φ:=exP (.int .i64 ((xs.length-1-i:Nat):Int))) rfl (ps_i (by omega))) ?_;repeat refine u ?_
  refine gM hY hS (oK _ hi2).choose_spec rfl rfl (fs1 (PSub.refl _) (fs1 (PSub.refl _) fs0)) (fun Y hS=>?_) (fun Y hX=>?_)
  ·repeat refine u ?_
   refine gZ rfl rfl ?_;repeat refine u ?_
   refine⟨i+1,tes ?_ ?_ (zaa _),?_,(by omega)⟩;refine tc rfl (ps_i (by omega)) (tn);refine zA rfl (zA rfl tn);exact⟨by rw[dK];exact hS,hi2⟩
  ·repeat refine u ?_
   refine kD rfl rfl ?_;repeat refine u ?_
   exact .inr hX
 ·rw[show i=xs.length by omega] at hS;exact .inl hS
theorem kbackN {xs:List Nat}:CTy prog 380 [sv (ntx xs)] (fn 385 [pa (ntx xs)]):=by
 refine fw [.tmp 2] func380 fun X=>?_;repeat refine u ?_
 exact e
theorem kshort {xs:List Nat}{n:Nat}(hl:xs.length≤100000000)(hn:n<4294967296)(hn0:0<n):CTy prog 374 [sv (ntx xs),exP (.int .u32 ((n:Nat):Int))] (tu [sv (ntx (limbs (val xs/n))),exP (.int .u32 ((val xs%n:Nat):Int)),exP (.int .i64 0)]):=by
 refine nlt 0 rfl (bo func374) fun hx=>?_;refine fw [.cell 4 25,.tmp 5,.tmp 6] func374 fun X=>?_;iterate 3 refine u ?_
 refine u fun b4=>?_;repeat refine u ?_
 refine tp (fun c0=>(by omega)) fun c0=>?_;iterate 5 refine u ?_
 refine u fun r14=>?_;refine tsw 1 0 rfl rfl rfl rfl rfl rfl rfl ?_;iterate 3 refine u ?_
 refine u fun b7=>?_;repeat refine u ?_
 refine zB rfl rfl kbackN ?_;repeat refine u ?_
 refine jZ (σ:=Nat×List Nat) (fun z=>[.blk b7 196 [xc (.int .u64 ((z.1:Nat):Int))],.row r14 155 1 (z.2.map xw),.blk b4 25 [xc r14]]) (fun pre z=>z.2.length=xs.length∧(∀ y∈z.2,y<4294967296)∧z.1=val (xs.drop (xs.length-pre.length))%n∧val z.2=4294967296^(xs.length-pre.length)*(val (xs.drop (xs.length-pre.length))/n)∧∀ j,j<xs.length-pre.length→z.2.getD j 0=0) (0,List.replicate xs.length 0) rfl (ibackN (by omega)) (fun _=>rfl) rfl kR rfl ⟨by simp,by intro z hz;have:=(zbP.1 hz).2;omega,by simp[val],by simp[val,gL],fun j _=>by simp[zah,zcU];split<;>rfl⟩ (fun pre x post z hp hJ Y y hl=>?_) (fun z hJ Y _=>?_)
 ·obtain⟨oo,zs⟩:=z;obtain⟨hzl,hzlt,ho,hzv,hz0⟩:=hJ;dsimp only at hzl hzlt ho hzv hz0 ⊢;obtain⟨hk,hxe⟩:=rO hp;have hx1:x.1=xs.length-1-pre.length:=by rw[hxe]
  have hx2:x.2=xs.getD x.1 0:=by rw[hx1,hxe]
  have hxb:x.2<4294967296:=by rw[hx2];exact yC hx _
  have hon:oo<n:=by rw[ho];exact zaH _ hn0
  have hov:(oo*2^32%xX IntKind.u64 ||| x.2)=oo*4294967296+x.2:=by
   rw[show xX IntKind.u64=18446744073709551616 from rfl,zao (by omega),yF7 _ _ (by omega)]
  rw[show xs.length-pre.length=x.1+1 by omega] at ho hzv hz0;have hst:=short_step hn0 hxb ho hzv;rw[show x.2+4294967296*val (xs.drop (x.1+1))=val (xs.drop x.1) by rw[uV (show x.1<xs.length by omega),hx2]] at hst;repeat refine u ?_
  refine zA1 (oas rfl) ?_;repeat refine u ?_
  refine zA1 (oas rfl) ?_;repeat refine u ?_
  refine⟨rfl,fun Y hl=>?_⟩;repeat refine u ?_
  refine zA1 (zG 0 rfl) ?_;iterate 3 refine u ?_
  refine zA1 (xE (oor rfl rfl (by(simp only[xX];omega))) (ps_i (show _=((oo*4294967296+x.2:Nat):Int) by rw[hov]))) ?_;refine zD 0 rfl rfl ?_;refine u ?_;apply t_drawXr 13 1 12 [0,0,0,0,0,0,0,1,1,1,1,0,2] ((zs.set x.1 ((oo*4294967296+x.2)/n%4294967296)).map xw) rfl mixed rfl rfl;repeat refine u ?_
  refine tdx0 ?_;refine d1 (zG 2 rfl) ?_;repeat refine u ?_
  refine tdx0 ?_;refine d1 (zG 0 rfl) ?_;repeat refine u ?_
  refine tdx0 ?_;refine d1 (old rfl rfl) ?_;repeat refine u ?_
  refine tdx1 ?_;refine d1 (zG 0 rfl) ?_;repeat refine u ?_
  refine tdx1 ?_;refine d1 (old rfl rfl) ?_;repeat refine u ?_
  refine tdx0 ?_;refine d1 (oixo 1 _ rfl rfl rfl (fun _=>rfl) (fun _=>(by(simp;omega)))) ?_;repeat refine u ?_
  refine zD 0 rfl rfl ?_;repeat refine u ?_
  have hvs:=aF (zs:=zs) (j:=x.1) ((oo*4294967296+x.2)/n%4294967296) (by omega);rw[hz0 x.1 (by omega),zao hst.2.2] at hvs;refine⟨((oo*4294967296+x.2)%n,zs.set x.1 ((oo*4294967296+x.2)/n%4294967296)),(zaa _),?_⟩;dsimp only;rw[zal,zcr,show xs.length-(pre.length+1)=x.1 by omega];exact⟨by rw[zbx,hzl],aP hzlt (zaH _ (by omega)),hst.2.1,by rw[← hst.1,zao hst.2.2];omega,fun j hj=>by rw[jL (by omega)];exact hz0 j (by omega)⟩
 ·obtain⟨oo,zs⟩:=z;obtain⟨hzl,hzlt,ho,hzv,hz0⟩:=hJ;dsimp only at hzl hzlt ho hzv hz0 ⊢;simp only[zar,zcD,Nat.sub_self,List.drop_zero,Nat.pow_zero,zbm] at ho hzv;have hob:oo<4294967296:=by rw[ho];exact Nat.lt_trans (zaH _ hn0) hn
  refine t_ts (zO4 1 1 rfl rfl (cs2:=[ntx zs]) (zP1 hzlt)) ?_;refine u ?_;apply aX 5 1 4 [0,0,1,1,2] [ntx (limbs (val zs))] rfl mixed rfl rfl;repeat refine u ?_
  refine tdx0 ?_;refine d1 (zG 1 rfl) ?_;repeat refine u ?_
  refine tdx0 (zC rfl rfl (kE (by omega)) ?_);repeat refine u ?_
  refine tdx1 ?_;refine d1 (zG 0 rfl) ?_;repeat refine u ?_
  refine tdx2 rfl (ckvt rfl rfl rfl rfl rfl rfl) ?_;repeat refine u ?_
  refine⟨[_,_,_],zL 1 rfl (rst rfl (rst rfl rs0)),?_⟩;rw[hzv,ho,zao (ho ▸ hob)];exact mY
theorem zP6 {xs ys:List Nat}(hl:xs.length≤10000000)(hm:ys.length≤10000000)(h0:val ys≠0):CTy prog 359 [sv (ntx xs),sv (ntx ys)] (tu [sv (ntx (limbs (val xs/val ys))),sv (ntx (limbs (val xs%val ys))),exP (.int .i64 0)]):=by
 refine nlt 0 rfl (bo func359) fun hx=>nlt 1 rfl (bo func359) fun hy=>?_;have hal:=zW xs hx;have hbl:=zW ys hy;have hyp:=zaW h0;have hb0:(limbs (val ys)).length≠0:=fun c=>h0 (zP.1 c);refine fw [.cell 4 25,.tmp 5,.tmp 6] func359 fun X=>?_;iterate 2 refine u ?_
 refine u fun b4=>?_;repeat refine u ?_
 refine zB rfl rfl (kE (by omega)) ?_;repeat refine u ?_
 refine zB rfl rfl (kE (by omega)) ?_;repeat refine u ?_
 refine tp (fun c0=>(by omega)) fun c0=>?_;repeat refine u ?_
 refine zB rfl rfl (yQ3 (by omega) (by omega)) ?_;repeat refine u ?_
 refine tp (fun c1=>?_) fun c1=>?_;repeat refine u ?_
 refine⟨[_,_,_],zL 0 rfl (rst rfl (rst rfl rs0)),?_⟩;rotate_left;repeat refine u ?_
 refine tp (fun c2=>?_) fun c2=>?_;rotate_left;rotate_left
 ·rw[zI,zI] at c1;have hxy:=qA.1 c1;rw[zcw hxy,zao hxy,yG];exact fun M w vs h=>mY M w vs (fs1 mK (fs1 (PSub.refl _) (fs1 (PSub.refl _) fs0)) M w vs h)
 ·have hy1:val ys=(limbs (val ys)).getD 0 0:=by
   have:=tR (zs:=limbs (val ys)) (n:=0) (fun j hj=>yR (by omega));rw[zI] at this;simpa [val] using this
  have hyb:(limbs (val ys)).getD 0 0<4294967296:=yC (yF _) 0;have hmb:=zaH (val (limbs (val xs))) (hy1 ▸ hyp);repeat refine u ?_
  refine zB rfl rfl (kshort (by omega) (by omega) (by omega)) ?_;repeat refine u ?_
  refine zB rfl rfl (kof (by omega)) ?_;repeat refine u ?_
  refine zD 0 rfl rfl ?_;repeat refine u ?_
  refine⟨[_,_,_],zL 0 rfl (rst rfl (rst rfl rs0)),?_⟩;rw[zI,← hy1];exact mY
 ·have hyl:=yC (yF (val ys)) ((limbs (val ys)).length-1);have hbw:=qI hyl;have hbt:yU ((limbs (val ys)).getD ((limbs (val ys)).length-1) 0)≠0:=fun c=>cF (fun e=>by simp[e] at hb0) (bitsN_eq_zero.1 c);obtain⟨k,hk⟩:∃ k:Nat,(32:Int)-(yU ((limbs (val ys)).getD ((limbs (val ys)).length-1) 0):Int)=(k:Int):=⟨32-yU ((limbs (val ys)).getD ((limbs (val ys)).length-1) 0),by omega⟩;have hxy:¬ val xs<val ys:=fun c=>c1 (by rw[zI,zI];exact qA.2 c);have hx0:val xs≠0:=by omega
  have hkc:cntN (k:Int) 65536=k:=cntN_nat (m:=65536) (by omega);have hnb:=norm_by h0 (k:=k) (by omega);have hul:=up_lens hx0 (show k<32 by omega);have hlm:=zX (zcu hxy);have hrm:=div_room (k:=k) (X:=val xs) (Y:=val ys) (m:=(limbs (val xs)).length+1-(limbs (val ys)).length) h0 (by omega);have eX:limbs (val (limbs (val xs))*2^cntN (k:Int) 65536)=limbs (val xs*2^k):=by rw[zI,hkc]
  have eY:limbs (val (limbs (val ys))*2^cntN (k:Int) 65536)=limbs (val ys*2^k):=by rw[zI,hkc]
  have oX:=oup (xs:=limbs (val xs)) (j:=(k:Int)) (by omega);have kY:=kup (xs:=limbs (val ys)) (j:=(k:Int)) (by omega);rw[eX] at oX;rw[eY] at kY;repeat refine u ?_
  refine zB rfl rfl (klz32 (by omega)) ?_;refine zA1 (xE (oas rfl) (ps_i hk)) ?_;repeat refine u ?_
  refine tcoN [] rfl rfl rfl oX fun r55=>?_;repeat refine u ?_
  refine zB rfl rfl kY ?_;refine yC5 0 rfl fun i55=>to_len 0 rfl fun ad cp hr55=>?_;subst hr55;rw[zar] at i55 ⊢;refine zA1 (obd rfl rfl rfl) ?_;refine tbx rfl fun b60=>?_;iterate 3 refine u ?_
  refine zT2 0 17 1 [(14,75,0)] rfl rfl rfl mixed rfl rfl ?_;repeat refine u ?_
  refine cx1 (zG 0 rfl) rfl ?_;repeat refine u ?_
  refine cx1 (zG 0 rfl) rfl (cx1 (olx rfl) rfl ?_);repeat refine u ?_
  refine cB rfl rfl (cap00 ((limbs (val xs)).length+1-(limbs (val xs*2^k)).length) rfl rfl (by omega) underlying3 (by omega) (by(simp;omega))) ?_;repeat refine u ?_
  refine cE (fun r75=>?_);refine fm ?_;repeat refine u ?_
  refine tsw 1 0 rfl rfl rfl rfl rfl rfl rfl ?_;iterate 2 refine u ?_
  refine mZ 1 12 [(11,89,0)] rfl rfl mixed rfl rfl ?_;repeat refine u ?_
  refine cx1 (zG 1 rfl) rfl ?_;refine cx1 (olno 0 rfl rfl) rfl ?_;repeat refine u ?_
  refine cx1 (zG 1 rfl) rfl ?_;repeat refine u ?_
  refine cx1 (osb rfl rfl (by(simp;omega))) rfl (cN rfl rfl (cmk ((limbs (val xs)).length+1-(limbs (val ys)).length) rfl rfl (by(simp;omega)) (by(simp;omega)) (by omega)) ?_);refine cE (fun r89=>?_);refine fm ?_;repeat refine u ?_
  refine tsw 3 0 rfl rfl rfl rfl rfl rfl rfl ?_;repeat refine u ?_
  refine zB rfl rfl kqlimbs ?_;repeat refine u ?_
  obtain⟨rs,hrs⟩:∃ rs,rs=limbs (val xs*2^k)++List.replicate ((limbs (val xs)).length+1-(limbs (val xs*2^k)).length) 0:=⟨_,rfl⟩;obtain⟨Q,hQ⟩:∃ Q,Q=(limbs (val xs)).length+1-(limbs (val ys)).length:=⟨_,rfl⟩;have e1:List.map xw (limbs (val xs*2^k))++List.replicate ((limbs (val xs)).length+1-(limbs (val xs*2^k)).length) (xc (.int .u32 0))=rs.map xw:=by rw[hrs,zay,List.map_replicate];rfl
  have e2:List.replicate Q (xc (.int .u32 0))=(List.replicate Q 0).map xw:=by rw[List.map_replicate];rfl
  have hrl:rs.length=(limbs (val xs)).length+1:=by rw[hrs,zal,zbA];omega
  have hvs:val rs=val xs*2^k:=by rw[hrs];exact val_pad _ _
  have hvy:val (limbs (val ys*2^k))=val ys*2^k:=zI _;have hrt:∀ x∈rs,x<4294967296:=fun x hx=>by
   rw[hrs] at hx;rcases zae.1 hx with h | h
   ·exact yF _ x h
   ·have:=(zbP.1 h).2;omega
  have hvr:val rs<4294967296^Q*val (limbs (val ys*2^k)):=by rw[hvs,hvy,hQ];exact hrm
  rw[← hQ,e1,e2];refine wU (σ:=List Nat) (fun zs=>[.row r89 155 1 (zs.map xw),.blk b4 25 [xc r89]]) (fun pre zs=>zs.length=Q∧(∀ z∈zs,z<4294967296)∧∀ j,j<pre.length→zs.getD (Q-j-1) 0=val rs/(4294967296^(Q-j-1)*val (limbs (val ys*2^k)))%4294967296) (List.replicate Q 0) rfl (iqlimbs (v:=r75) (m:=Q) (yF _) hrt (by omega) hnb.2 (by omega) hvr (by omega)) (fun _=>rfl) rfl kR (.inl trivial) (Ts.trans (zS4 [2] rfl) (zS4 [0,2] rfl)) ⟨by simp,by intro z hz;have:=(zbP.1 hz).2;omega,fun j hj=>by simp at hj⟩ (fun pre x post zs hp hJ Y y hl=>?_) (fun zs hJ So hSo Y _=>?_)
  ·obtain⟨hzl,hzlt,hzd⟩:=hJ;obtain⟨hk',hxe⟩:=rO hp;have hx1:x.1=Q-pre.length-1:=by rw[hxe]
   have hx2:x.2=val rs/(4294967296^(Q-pre.length-1)*val (limbs (val ys*2^k)))%4294967296:=by rw[hxe]
   have hxb:x.2<4294967296:=by rw[hx2];exact zaH _ (by omega)
   repeat refine u ?_
   refine zA1 (oas rfl) ?_;repeat refine u ?_
   refine zA1 (oas rfl) ?_;repeat refine u ?_
   refine⟨rfl,fun Y hl=>?_⟩;repeat refine u ?_
   refine zA1 (zG 1 rfl) ?_;repeat refine u ?_
   refine⟨zs.set x.1 x.2,(zaa _),?_⟩;exact⟨by rw[zbx,hzl],aP hzlt hxb,fun j hj=>by
    rw[zal,zcr] at hj;by_cases e:j=pre.length
    ·subst e;rw[← hx1,zah,zbf (by omega),hx1];exact hx2
    ·rw[jL (by omega)];exact hzd j (by omega)⟩
  ·obtain⟨hzl,hzlt,hzd⟩:=hJ;obtain⟨zr,rfl,hzrl,hzrt,hzrv⟩:=hSo;simp only[zar,zcD] at hzd;have hzq:val zs=val xs/val ys:=by
    rw[quot_digits hzl (by rw[hvy];exact Nat.mul_pos hyp (yK k)) hvr hzd,hvy,hvs,Nat.mul_div_mul_right _ _ (yK k)]
   rw[hvy,hvs] at hzrv;have hzk:=zW zr hzrt;refine t_ts (zO4 1 0 rfl rfl (cs2:=[ntx zr,ntx (limbs (val ys*2^k))]) (zP1 hzrt)) ?_;refine t_ts (zO4 1 1 rfl rfl (cs2:=[ntx zs]) (zP1 hzlt)) ?_;refine u ?_;apply aX 10 1 9 [0,0,0,0,0,0,0,0,0,2] [ntx (limbs (val zs))] rfl mixed rfl rfl;repeat refine u ?_
   refine tdx0 ?_;refine d1 (zG 1 rfl) ?_;repeat refine u ?_
   refine tdx0 (zC rfl rfl (kE (by omega)) ?_);repeat refine u ?_
   refine tdx0 ?_;refine d1 (zG 0 rfl) ?_;repeat refine u ?_
   refine tdx0 (zC rfl rfl (kE (by omega)) ?_);repeat refine u ?_
   refine tdx0 ?_;refine d1 (omv rfl) ?_;repeat refine u ?_
   refine tdx0 (zC rfl rfl (kdown (by omega)) ?_);repeat refine u ?_
   refine tdx2 rfl (ckvt rfl rfl rfl rfl rfl rfl) ?_;repeat refine u ?_
   refine⟨[_,_,_],zL 1 rfl (rst rfl (rst rfl rs0)),?_⟩;rw[zI,hkc,hzrv,rest_down hyp,hzq];exact mY
theorem fa1 {τ:PV}{M:Nat→Prop}{w:World}{vs:List Value}(h:Fa [τ] M w vs):∃ v,vs=[v]∧τ.p M w v:=by
 obtain⟨v,us,e,h1,h2⟩:=h;exact⟨v,by rw[e,show us=[] from h2],h1⟩
theorem fa2 {τ σ:PV}{M:Nat→Prop}{w:World}{vs:List Value}(h:Fa [τ,σ] M w vs):∃ v u,vs=[v,u]∧τ.p M w v∧σ.p M w u:=by
 obtain⟨v,us,e,h1,h2⟩:=h;obtain⟨u,e2,h3⟩:=fa1 h2;exact⟨v,u,by rw[e,e2],h1,h3⟩
theorem fa4 {τ σ ρ θ:PV}{M:Nat→Prop}{w:World}{vs:List Value}(h:Fa [τ,σ,ρ,θ] M w vs):∃ v u x y,vs=[v,u,x,y]∧τ.p M w v∧σ.p M w u∧ρ.p M w x∧θ.p M w y:=by
 obtain⟨v,us,e,h1,u,us2,e2,h2,h3⟩:=h;obtain⟨x,y,e3,h4,h5⟩:=fa2 h3;exact⟨v,u,x,y,by rw[e,e2,e3],h1,h2,h4,h5⟩
theorem ktz {x:Nat}(h0:x≠0)(hx:x<18446744073709551616):CTy prog 378 [exP (.int .u64 ((x:Nat):Int))] (exP (.int .i64 ((tz x:Nat):Int))) :=
 ⟨(bo func378),fun M w vs hM hT hv=>by
  obtain⟨v,rfl,h1⟩:=fa1 hv;obtain rfl:v=_:=h1;exact(tz_c hT h0 hx hM).mono fun r w' ⟨hB,e⟩=>⟨hB,e⟩⟩
theorem pQ {a b:Nat}(h:a≤b):Nat.gcd a (b-a)=Nat.gcd a b:=by
 obtain⟨c,rfl⟩:∃ c,b=c+a:=⟨b-a,by omega⟩;rw[Nat.add_sub_cancel,Nat.gcd_add_self_right]
theorem kword {a b:Nat}(ha:a<18446744073709551616)(hb:b<18446744073709551616):CTy prog 361 [exP (.int .u64 ((a:Nat):Int)),exP (.int .u64 ((b:Nat):Int))] (exP (.int .u64 ((Nat.gcd a b:Nat):Int))):=by
 refine fw [.tmp 4] func361 fun X=>?_;repeat refine u ?_
 refine tp (fun c0=>?_) fun c0=>?_;repeat refine u ?_
 refine e ?_;refine ps_i ?_;rotate_left;rotate_left
 ·rcases c0 with c0 | c0
  ·rw[show a=0 by omega];simp
  ·rw[show b=0 by omega];simp
 rw[not_or] at c0;have ha0:a≠0:=by omega
 have hb0:b≠0:=by omega
 have hab:a ||| b<18446744073709551616:=Nat.or_lt_two_pow (n:=64) ha hb;have hab0:a ||| b≠0:=fun c=>ha0 (by have h0:a≤a ||| b:=Nat.left_le_or;omega);have hka:=mH (n:=64) ha0 (zcA ha (by decide));have hkk:=mH (n:=64) hab0 (zcA hab (by decide));have hgw:=gcd_word (a:=a) (b:=b) ha0 rfl rfl;have hAle:a/2^tz a≤a:=zbh _ _;repeat refine u ?_
 refine zB rfl rfl (ktz (by omega) (by omega)) ?_;repeat refine u ?_
 refine zB rfl rfl (ktz (by omega) (by omega)) ?_;repeat refine u ?_
 refine lp (σ:=Nat×Nat) [4,5] (fun s=>[(0,True,exP (.int .u64 ((s.1:Nat):Int))),(1,True,exP (.int .u64 ((s.2:Nat):Int)))]) (fun s=>[]) (fun s=>s.1%2=1∧s.1<18446744073709551616∧s.2<18446744073709551616∧Nat.gcd s.1 s.2=Nat.gcd (a/2^tz a) b) (fun s=>s.1+s.2) ((a/2^tz a,b)) (⟨hgw.2,by simp only;omega,hb,rfl⟩) fun s hJ Y _=>?_;obtain⟨p,q⟩:=s;dsimp only at hJ ⊢;obtain⟨h1,h2,h3,h4⟩:=hJ;repeat refine u ?_
 refine tp (fun c1=>?_) fun c1=>?_;rotate_left;repeat refine u ?_
 refine e ?_;refine ps_i ?_;rotate_left
 ·have hq:q≠0:=by omega
  have hkq:=mH (n:=64) hq (zcA h3 (by decide));obtain⟨q1,hq1⟩:∃ q1,q1=q/2^tz q:=⟨_,rfl⟩;have hqs:=eM q hq;rw[← hq1] at hqs;have hqle:q1≤q:=by rw[hq1];exact zbh _ _
  have hgq:Nat.gcd p q=Nat.gcd p q1:=by conv=>lhs;rw[hqs.1,gO h1]
  repeat refine u ?_
  refine zB rfl rfl (ktz (by omega) (by omega)) ?_;refine zA1 (xE (oshr rfl rfl (by assumption)) (ps_i (show _=((q1:Nat):Int) by rw[hq1]))) ?_;repeat refine u ?_
  refine tp (fun c2=>?_) fun c2=>?_;repeat refine u ?_
  rotate_left;repeat refine u ?_
  rotate_left
  ·refine⟨(p,q1-p),tes ?_ ?_ (zaa _),?_,(by omega)⟩;refine zA rfl (zA rfl tn);refine zA rfl (zA rfl tn);all_goals first | exact⟨h1,h2,by simp only;omega,by simp only;rw[pQ (by omega),← hgq,h4]⟩ | (simp only;omega)
  ·refine⟨(q1,p-q1),tes ?_ ?_ (zaa _),?_,(by omega)⟩;refine zA rfl (zA rfl tn);refine zA rfl (zA rfl tn);all_goals first | exact⟨hqs.2,by simp only;omega,by simp only;omega,by simp only;rw[pQ (by omega),zbX,← hgq,h4]⟩ | (simp only;omega)
 ·rw[show q=0 by omega,Nat.gcd_zero_right] at h4;have hle:Nat.gcd a b≤a:=Nat.gcd_le_left _ (zaW ha0);have hfin:p*2^tz (a ||| b)%18446744073709551616=Nat.gcd a b:=by rw[h4,hgw.1,zat];exact zao (by rw[← hgw.1];omega)
  exact congrArg (fun n:Nat=>(n:Int)) hfin
theorem kggcd {xs ys:List Nat}(hl:xs.length≤10000000)(hm:ys.length≤10000000):CTy prog 334 [sv (ntx xs),sv (ntx ys)] (sv (ntx (limbs (Nat.gcd (val xs) (val ys))))):=by
 refine nlt 0 rfl (bo func334) fun hx=>nlt 1 rfl (bo func334) fun hy=>?_;have hxl:=zW xs hx;have hyl:=zW ys hy;refine fw [.tmp 4] func334 fun X=>?_;repeat refine u ?_
 refine zB rfl rfl (kE (by omega)) ?_;repeat refine u ?_
 refine zB rfl rfl (kE (by omega)) ?_;repeat refine u ?_
 refine lp (σ:=Nat×Nat) [] (fun s=>[(0,True,sv (ntx (limbs s.1))),(1,True,sv (ntx (limbs s.2)))]) (fun s=>[]) (fun s=>Nat.gcd s.1 s.2=Nat.gcd (val xs) (val ys)∧(limbs s.1).length≤10000000∧(limbs s.2).length≤10000000) (fun s=>s.2) ((val xs,val ys)) (⟨rfl,by simp only;omega,by simp only;omega⟩) fun s hJ Y _=>?_;obtain⟨x,y⟩:=s;dsimp only at hJ ⊢;obtain⟨h1,h2,h3⟩:=hJ;repeat refine u ?_
 refine tp (fun c0=>?_) fun c0=>?_;rotate_left;repeat refine u ?_
 refine e ?_;rotate_left
 ·have hy0:y≠0:=fun c=>by rw[c,yG] at c0;simp at c0
  repeat refine u ?_
  refine zB rfl rfl (zX1 (by omega)) ?_;repeat refine u ?_
  refine zB rfl rfl (zX1 (by omega)) ?_;repeat refine u ?_
  refine tp (fun c1=>?_) fun c1=>?_;rotate_left;repeat refine u ?_
  refine zB rfl rfl (zP6 (by omega) (by omega) (by rw[zI];exact hy0)) ?_;repeat refine u ?_
  rotate_left
  ·obtain⟨c2,c3⟩:=c1;rw[zI] at c2 c3;have e1:qF (val (limbs x))=x:=by rw[zI];exact if_pos c2
   have e2:qF (val (limbs y))=y:=by rw[zI];exact if_pos c3
   have hg:=Nat.gcd_le_right x (zaW hy0);rw[e1,e2];repeat refine u ?_
   refine zB rfl rfl (kword c2 c3) ?_;refine zB rfl rfl (kof (by omega)) ?_;repeat refine u ?_
   refine e ?_;rw[h1];exact PSub.refl _
  ·rw[zI,zI];have hm:=zX (zbU (zaH x (zaW hy0)));have hlt:=zaH x (zaW hy0);refine nxt ((y,x%y)) ?_;all_goals first | exact⟨by simp only;rw[← h1,zbX,← Nat.gcd_rec,zbX],h3,by simp only;omega⟩ | (simp only;omega)
 ·rw[← h1,show y=0 from zP.1 (by omega),Nat.gcd_zero_right];exact PSub.refl _
theorem kgby {xs:List Nat}:CTy prog 335 [sv (ntx xs)] (fn 362 [pa (ntx xs)]):=by
 refine fw [.tmp 2] func335 fun X=>?_;repeat refine u ?_
 exact e
theorem yQ8 {xs ys:List Nat}(hl:xs.length≤10000000)(hm:ys.length≤10000000)(h0:val ys≠0):CTy prog 362 [sv (ntx xs),pa (ntx ys)] (sv (ntx (limbs (val xs/val ys)))):=by
 refine fw [.tmp 3] func362 fun X=>?_;repeat refine u ?_
 refine zB rfl rfl (zP6 (by omega) (by omega) h0) ?_;repeat refine u ?_
 exact e
theorem kreduce {xs ys:List Nat}(hl:xs.length≤10000000)(hm:ys.length≤10000000):CTy prog 285 [sv (ntx xs),sv (ntx ys)] (tu [sv (ntx (limbs (val xs/Nat.gcd (val xs) (val ys)))),sv (ntx (limbs (val ys/Nat.gcd (val xs) (val ys))))]):=by
 refine nlt 0 rfl (bo func285) fun hx=>nlt 1 rfl (bo func285) fun hy=>?_;have hxl:=zW xs hx;have hyl:=zW ys hy;have hgl:(limbs (Nat.gcd (val xs) (val ys))).length≤10000000:=by
  rcases zbi (val xs) with h | h
  ·rw[h,Nat.gcd_zero_left];omega
  ·have:=zX (Nat.gcd_le_left (val ys) h);omega
 have h0:(limbs (Nat.gcd (val xs) (val ys))).length=0↔Nat.gcd (val xs) (val ys)=0:=zP;refine fw [.tmp 4,.tmp 5] func285 fun X=>?_;repeat refine u ?_
 refine zB rfl rfl (kggcd (by omega) (by omega)) ?_;repeat refine u ?_
 refine tp (fun c0=>?_) fun c0=>?_;repeat refine u ?_
 refine e ⟨?_,?_⟩;rotate_left;rotate_left;repeat refine u ?_
 refine zB rfl rfl kgby ?_;repeat refine u ?_
 refine zB rfl rfl (yQ8 (by omega) (by omega) ?_) ?_;rotate_left;repeat refine u ?_
 refine zB rfl rfl (yQ8 (by omega) (by omega) ?_) ?_;rotate_left;repeat refine u ?_
 refine e ⟨?_,?_⟩;rotate_left;rotate_left
 ·rw[h0.1 (by omega),Nat.div_zero,yG];exact mK
 ·rw[h0.1 (by omega),Nat.div_zero,yG];exact mK
 all_goals first | exact hgl | (rw[zI];first | exact PSub.refl _ | exact fun e=>c0 (by rw[h0.2 e];rfl))
instance dfR:Df Rat:=⟨0⟩
instance dfP:Df P2:=⟨(0,0)⟩
abbrev ptq (n:Nat)(x:P2):CT:=st [rtq n x.1,rtq n x.2]
theorem qr_q {Ψ:PV}{n:Nat}{q:Rat}[h:QR Ψ n q]:PSub Ψ (ag (rtq n q)):=fun M w v k=>by
 obtain⟨s,a,d,rfl,g⟩:=h.h k;exact⟨_,rfl,s,a,d,rfl,g⟩
theorem yF1 {M:Nat→Prop}{w:World}{n:Nat}{q:P2}{s:Bool}{a d:Value}{t:Bool}{b e:Value}(h:PQ M w n q s a d t b e):(ptq n q).p M w [.bool s,a,d,.bool t,b,e]:=⟨[.bool s,a,d],[.bool t,b,e],rfl,⟨s,a,d,rfl,h.x⟩,[.bool t,b,e],[],rfl,⟨t,b,e,rfl,h.y⟩,rfl⟩
theorem qp_q {Ψ:PV}{n:Nat}{q:P2}[h:QP Ψ n q]:PSub Ψ (ag (ptq n q)):=fun M w v k=>by
 obtain⟨s,a,d,t,b,e,rfl,g⟩:=h.h k;exact⟨_,rfl,yF1 g⟩
theorem rD {Ψ:PV}{n:Nat}{l:List P2}[h:VPt Ψ n l]:PSub Ψ (sv (sl 6 (l.map (ptq n)))):=fun M w v k=>by
 refine aY (R:=RP n) (fun _=>rfl) (fun a us _ ⟨s,x,d,t,b,e,e0,g⟩=>by rw[e0];exact yF1 g) (h.h k).row
theorem vq_q {Ψ:PV}{n:Nat}{l:List Rat}[h:VQ Ψ n l]:PSub Ψ (sv (sl 3 (l.map (rtq n)))):=fun M w v k=>by
 refine aY (R:=RQ n) (fun _=>rfl) (fun a us _ ⟨s,x,d,e0,g⟩=>⟨s,x,d,e0,g⟩) (h.h k).row
abbrev ptc (n:Nat)(x:P2):CT:=st [rtc n x.1,rtc n x.2]
instance vpt_c {n:Nat}{l:List P2}:VPt (sv (sl 6 (l.map (ptc n)))) n l:=⟨fun k=>⟨tZ (fun _=>rfl) (fun a us h=>by
 obtain⟨s,b,d,t,c,e,e0,g⟩:=CP.h (c:=ptc n a) h;exact⟨s,b,d,t,c,e,e0,by rw[zcl] at g;exact g⟩) k⟩⟩
instance vpt_p {n:Nat}{l:List P2}:VPt (sv (sl 6 (l.map (ptq n)))) n l:=⟨fun k=>⟨tZ (fun _=>rfl) (fun a us h=>by
 obtain⟨s,b,d,t,c,e,e0,g⟩:=CP.h (c:=ptq n a) h;exact⟨s,b,d,t,c,e,e0,by rw[zcl] at g;exact g⟩) k⟩⟩
end Go.Proofs.YtalkinejknjidaaGreatDoor
