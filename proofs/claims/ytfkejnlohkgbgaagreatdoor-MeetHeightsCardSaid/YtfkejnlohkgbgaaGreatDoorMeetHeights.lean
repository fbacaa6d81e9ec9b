/- PROVED: the tied card of the statement 'straitlaw10.MeetHeights' of the seat: the height at an end's x is the end's y, and at any x the point there is on the line: for every input the law returns true and its arguments read as before. Its conditions: those of the row (the package-level table math/bits.deBruijn64tab holds what the program's text lays), and none else. -/
import Derived.Test.YtfkejnlohkgbgaaGreatDoorRows
import Derived.Test.YtfkejnlohkgbgaaGreatDoorCards
import Derived.Test.YtfkejnlohkgbgaaGreatDoorTie
import Derived.Test.YtfkejnlohkgbgaaGreatDoorPf
import Derived.ChangeSame
import Derived.ChangeVars
import Derived.JoinedOf
import Derived.RowKit
import Derived.Lay
import Derived.MakeChecks
import Derived.Lib.LaidTab
import Derived.SevenTiedAt
set_option linter.unusedVariables false
namespace Go.Proofs.YtfkejnlohkgbgaaGreatDoor
open Go.ChangeShapes Go.WideShapes Go.ChangeAt Go.RowKit Go.SL
namespace meetHeightsCard
theorem own : ownKnob Tryz.prog.godebug = none := by kernel_rfl
theorem laidOut : laidOutB Tryz.prog = true := by kernel_rfl
theorem rowed : ∀ t ∈ Tryz.f6.params.toList, Tryz.prog.readableRec t = true ∧ t < Tryz.prog.types.size := by
  have h : Tryz.f6.params.toList.all (fun t => Tryz.prog.readableRec t && decide (t < Tryz.prog.types.size)) = true := by kernel_rfl
  intro t ht
  have := List.all_eq_true.1 h t ht
  simpa using this
theorem told : Tryz.f6.resultTypes = #[4] := by kernel_rfl
theorem pts : PtTypes Tryz.prog 39 33 31 29 4 107 where
  p := ⟨_, _, _, Tryz.underlying39, by rfl, by rfl, rfl, rfl, rfl, rfl⟩
  r := ⟨_, _, _, Tryz.underlying33, by rfl, by rfl, rfl, rfl, rfl, rfl⟩
  i := ⟨_, _, _, Tryz.underlying31, by rfl, by rfl, rfl, rfl, rfl, rfl⟩
  n := Tryz.underlying29
  w := Tryz.underlying107
  b := Tryz.underlying4
  cp := by kernel_rfl
  cr := by kernel_rfl
  ci := by kernel_rfl
  cn := by kernel_rfl
  cw := by kernel_rfl
  cb := by kernel_rfl
theorem slice_of {M : Nat → Prop} {w : World} {v : Value} {xs : List Nat} (h : IsNat M w v xs) : ∃ p c, v = .slice p xs.length c := by
  obtain ⟨_, _, ad, cap, e, _⟩ := h.slc
  exact ⟨ad, cap, by simpa using e⟩
section
variable {W : World} {s t : Bool} {a d b e : Value} {xs ds ys es : List Nat}
theorem qc_of (i : IsNat (fun _ => False) W a xs) (j : IsNat (fun _ => False) W d ds) : QC (fun _ => False) W (max xs.length ds.length) (mkRat (zv s xs) (val ds)) s a d := ⟨xs, ds, i, j, by omega, by omega, rfl⟩
theorem pq_of (i : IsNat (fun _ => False) W a xs) (j : IsNat (fun _ => False) W d ds) (k : IsNat (fun _ => False) W b ys) (l : IsNat (fun _ => False) W e es) :
    PQ (fun _ => False) W (m4 (xs.length, ds.length, ys.length, es.length)) (mkRat (zv s xs) (val ds), mkRat (zv t ys) (val es)) s a d t b e :=
  ⟨⟨xs, ds, i, j, by unfold m4; simp only; omega, by unfold m4; simp only; omega, rfl⟩, ⟨ys, es, k, l, by unfold m4; simp only; omega, by unfold m4; simp only; omega, rfl⟩⟩
theorem q4_of (i : IsNat (fun _ => False) W a xs) (j : IsNat (fun _ => False) W d ds) (k : IsNat (fun _ => False) W b ys) (l : IsNat (fun _ => False) W e es) : Q4 (fun _ => False) W 0 (xs.length, ds.length, ys.length, es.length) s a d t b e :=
  ⟨slice_of i, slice_of j, slice_of k, slice_of l⟩
end
theorem tab_of {W : World} (h : laidMetH Tryz.prog Rows.meetHeightsRow.laid W) : Tab (fun _ => False) W := by
  rw [MakeChecks.laidMetH_plain _ _ _ (by kernel_rfl)] at h
  have h1 : laidMet Tryz.prog (("math/bits.deBruijn64tab", Lib.tabData .u8 (fV.map fun (x : Nat) => (x : Int))) :: []) W := h
  have ht := Lib.tabIs_of_head (g := 0) (t := 299) (e := 5) (n := 64) (by kernel_rfl) (by kernel_rfl) (by kernel_rfl) (by kernel_rfl) (by kernel_rfl) (by kernel_rfl) h1
  have hg : Tryz.prog.globalNamed "math/bits.deBruijn64tab" = some 0 := by kernel_rfl
  have hc := World.var?_cell hg ht
  refine ⟨id, ?_⟩
  have h0 := hc 0
  simp only [World.cell?] at h0
  split at h0
  · rename_i cur t fz hb
    refine ⟨cur, t, fz, hb, fun j u hj => ?_⟩
    have hj2 : W.cell? ⟨0, j, none⟩ = cur[j]? := by simp [World.cell?, hb]
    rw [Nat.zero_add, ← hj2, hc j]
    simpa [tabV, List.map_map, Function.comp_def] using hj
  · simp [fV] at h0
set_option maxRecDepth 100000 in
theorem lifted (os : Os) (started : os.Started) (H : Type) (enc : TypeId × Value → H) :
    ReturnsInHanded {} Tryz.checked os 6 .any (fun w args => (Rows.meetHeightsSpec.pre enc Tryz.prog Tryz.f6 Rows.meetHeightsRow.domain false w args ∧ laidMetH Tryz.prog Rows.meetHeightsRow.laid w) ∧ sizedMet enc Tryz.prog Tryz.f6 (OpenSpec.ofChange Rows.meetHeightsSpec) false w args)
      (Rows.meetHeightsSpec.post enc Tryz.prog Tryz.f6 false true false false) := by
  refine returnsInHanded_of_change_and (C := Tryz.checked) (X := fun w _ => laidMetH Tryz.prog Rows.meetHeightsRow.laid w) (fun _ _ _ hh h => h.of_heap hh) own started (by kernel_rfl) Tryz.func6
    (ChangeSpec.witness_shaped (enc := enc) (C := Tryz.checked) (os := os) (X := fun w _ => laidMetH Tryz.prog Rows.meetHeightsRow.laid w) false (World.laidAll Tryz.prog os Rows.meetHeightsRow.laid) #[.agg #[.bool false, .slice none 0 0, .slice none 0 0, .bool false, .slice none 0 0, .slice none 0 0], .agg #[.bool false, .slice none 0 0, .slice none 0 0, .bool false, .slice none 0 0, .slice none 0 0], .agg #[.bool false, .slice none 0 0, .slice none 0 0]] 8 (World.laidAll_os _ _ _)
      (World.shaped_of_ZipB (by kernel_rfl) (by kernel_rfl)) (by kernel_rfl) (by kernel_rfl) (by kernel_rfl)
      (by rw [MakeChecks.laidMetH_plain _ _ _ (by kernel_rfl)]; exact laidMet_laidAll _ (by kernel_rfl) (by kernel_rfl))) ?_
  intro W base args ds gs before hval0 hW hcnd _ hL _
  have hval : ∀ (j : Nat) t v, Tryz.f6.params[j]? = some t → args[j]? = some v → Value.okWide Tryz.prog W .any base t v := hval0
  have hW' := hW
  obtain ⟨p, q, hA0, hV, rfl, hfz, hnd⟩ := hW
  have hA : DataW.TrodAll enc Tryz.prog W 0 (fun _ => true) true Tryz.f6.params.toList args.toList ds p := hA0
  rw [Tryz.params6] at hA hval
  obtain ⟨v0, r0, d0, s0, p0, q0, hargs, rfl, rfl, h0, hA0⟩ := trodAll_cons hA
  obtain ⟨v1, r1, d1, s1, p1, q1, rfl, rfl, rfl, h1, hA1⟩ := trodAll_cons hA0
  obtain ⟨v2, r2, d2, s2, p2, q2, rfl, rfl, rfl, h2, hA2⟩ := trodAll_cons hA1
  obtain ⟨rfl, rfl, rfl⟩ := trodAll_nil hA2
  obtain rfl : args = #[v0, v1, v2] := by cases args; simp_all
  obtain ⟨ws0, wa0, wd0, wt0, wb0, we0, xs0, ds0, ys0, es0, rfl, i0, j0, k0, l0⟩ := open_pt pts (hval 0 39 v0 rfl rfl) h0
  obtain ⟨ws1, wa1, wd1, wt1, wb1, we1, xs1, ds1, ys1, es1, rfl, i1, j1, k1, l1⟩ := open_pt pts (hval 1 39 v1 rfl rfl) h1
  obtain ⟨ws2, wa2, wd2, xs2, ds2, rfl, i2, j2⟩ := open_rat pts (hval 2 33 v2 rfl rfl) h2
  have hM : OkM (fun _ => False) W := fun _ h => h.elim
  have hc := law_MeetHeights (M := fun _ => False) (tab_of hL) (pq_of (s := ws0) (t := wt0) i0 j0 k0 l0) (pq_of (s := ws1) (t := wt1) i1 j1 k1 l1) (qc_of (s := ws2) i2 j2) (q4_of i0 j0 k0 l0) (Nat.le_refl _) (q4_of i1 j1 k1 l1) (Nat.le_refl _) (slice_of i2) (slice_of j2) (Nat.le_refl _) hM
  unfold CallsV at hc
  refine Calls.mono hc fun e W' he => ?_
  obtain ⟨v, rfl, hB, rfl⟩ := he
  exact ⟨_, rfl, law_post (P := Tryz.prog) (f := Tryz.f6) (s := Rows.meetHeightsSpec) (tb := 4) laidOut rowed Tryz.underlying4 told rfl hW' rfl rfl rfl hB⟩
set_option maxHeartbeats 4000000 in
set_option maxRecDepth 100000 in
theorem facts : joinedFacts Tryz.prog 6 Tryz.f6 Rows.meetHeightsSpec Rows.meetHeightsRow = true := by
  unfold joinedFacts
  simp only [Bool.and_eq_true]
  repeat' apply And.intro
  all_goals (as_aux_lemma => kernel_rfl)
theorem proved : Rows.MeetHeightsSaid :=
  OpenClaim.holds_of_wide 6 Tryz.f6 rfl rfl rfl rfl rfl rfl rfl ⟨rfl, rfl, rfl, rfl, rfl⟩ rfl rfl rfl rfl rfl (by kernel_rfl) Tryz.func6 facts
    (of_decide_eq_true (by kernel_rfl)) (by unfold Func.isWrapper; first | (rw [if_pos (by decide +kernel)]; kernel_rfl) | (rw [if_neg (by decide +kernel)]; exact ⟨rfl, rfl⟩))
    (fun os started H enc _ => lifted os started H enc)
theorem card : Rows.MeetHeightsCardSaid :=
  Claim7.holds_tied_plain_at .later [] [.data] true (true, "6b072769c8bef9739bddd2be616c1b8b409e6737b899805b608e370b1a17cde9") false
    proved (fun _ h => by cases h) (by kernel_rfl) (fun _ h => by cases h) meetHeights_row_tie rfl ⟨rfl, rfl⟩ (by kernel_rfl) rfl
    (fun f fn hf hfn => by
      obtain rfl : f = 6 := Option.some.inj ((show Tryz.prog.funcNamed "strait/straitlaw10.MeetHeights" = some 6 by kernel_rfl).symm.trans hf) |>.symm
      obtain rfl : fn = Tryz.f6 := (Option.some.inj (Tryz.func6.symm.trans hfn)).symm
      exact ⟨by kernel_rfl, fun j t ht => by
        rw [Tryz.params6] at ht
        have hm : t ∈ [39, 33] := by
          have := Array.mem_of_getElem? ht
          simp at this
          simp [this]
        have hall : ([39, 33].all fun u => !Tryz.prog.wantsStandIn u) = true := by kernel_rfl
        exact (show Tryz.prog.wantsStandIn t = false by simpa using List.all_eq_true.1 hall t hm)⟩)
    (by kernel_rfl)
end meetHeightsCard
theorem meetHeightsCardProved : Rows.MeetHeightsCardSaid := meetHeightsCard.card
#print axioms meetHeightsCardProved
end Go.Proofs.YtfkejnlohkgbgaaGreatDoor
