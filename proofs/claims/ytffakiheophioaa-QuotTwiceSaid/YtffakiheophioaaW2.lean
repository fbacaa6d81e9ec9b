import Derived.Test.YtffakiheophioaaW1
import Derived.Test.YtffakiheophioaaSLn
set_option linter.unusedVariables false
set_option linter.unusedSimpArgs false
set_option maxRecDepth 100000
namespace Go.Proofs.Ytffakiheophioaa
open Go.SL Go.RowKit Go.Proofs

theorem sub_c {M : Nat → Prop} {w : World} {v u : Value} {xs ys : List Nat} (h1 : IsNat M w v xs) (h2 : IsNat M w u ys) (hl1 : xs.length ≤ 1000000000) (hl2 : ys.length ≤ 1000000000) (hM : OkM M w) :
    CallsV Try.prog 20 [v, u] w fun r w' => Below w.heap.size w w' ∧ ((val xs < val ys ∧ r = .tuple #[.slice none 0 0, .int .i64 10]) ∨ (val ys ≤ val xs ∧ ∃ q, r = .tuple #[q, .int .i64 0] ∧ Fresh 43 w w' q (limbs (val xs - val ys)))) := by
  obtain ⟨Fz, hFz⟩ : ∃ Fz : Nat → Prop, Fz = (· < w.heap.size) := ⟨_, rfl⟩
  have hF : FOk Fz w := by subst hFz; exact fun _ h => h
  have LL := Le.refl Fz M w; have hM0 := hM
  have Mk : Marks M w.heap.size [] w := marks_nil
  refine calls_intro Try.func20 rfl Try.ntmps20 rfl ?_
  refine SL.wp_seq ?_
  refine SL.wp_region ?_
  refine ops_assign rfl rfl ?_
  refine ops_assign rfl rfl ?_
  refine ops_nil ?_
  refine SL.wp_seq ?_
  refine SL.wp_seq ?_
  refine SL.wp_region ?_
  refine ops_move rfl rfl ?_
  refine ops_move rfl rfl ?_
  refine ops_callv rfl bod23 rfl rfl ?_
  refine (cmp_c (M := M) (by assumption) (by assumption) (by omega) (by omega) hM).mono ?_
  rintro v13 w1 ⟨hB13, rfl⟩
  have Lw1 := Le.of_below (Fz := Fz) (M := M) hB13
  replace LL := LL.trans Lw1
  replace hM := hM.mono Lw1
  replace hF := hF.mono Lw1
  replace h1 := h1.mono Lw1
  replace h2 := h2.mono Lw1
  replace Mk := Mk.mono Lw1
  refine ops_lt rfl rfl rfl ?_
  refine ops_nil ?_
  refine SL.wp_cond_d rfl (fun hc0 => ?_) (fun hc0 => ?_)
  · refine SL.wp_seq ?_
    refine SL.wp_region ?_
    refine ops_assign rfl rfl ?_
    refine ops_assign rfl rfl ?_
    refine ops_nil ?_
    refine SL.wp_ret ?_
    refine leave_marks Mk (fun wz hz => ⟨[_, _], ⟨rfl, rfl, trivial⟩, ?_⟩)
    dsimp only [resVal]
    subst hFz
    exact ⟨SL.Below.drift (LL.below (Nat.le_refl _)) hz (Nat.le_refl _), .inl ⟨cmpN_neg.1 hc0, rfl⟩⟩
  · refine SL.wp_skip ?_
    refine SL.wp_seq ?_
    refine SL.wp_region ?_
    refine ops_alloc rfl sz23 (fun w2 b6 N6 => ?_)
    have hBw2 := N6.below
    have nF6 := hF.new N6; have nM6 := hM.new N6
    have Lw2 := Le.of_new (Fz := Fz) (M := M) N6
    replace LL := LL.trans Lw2
    replace hM := hM.mono Lw2
    replace hF := hF.mono Lw2
    replace h1 := h1.mono Lw2
    replace h2 := h2.mono Lw2
    replace Mk := Mk.mono Lw2
    have B6 := N6.blk
    refine ops_nil ?_
    refine SL.wp_seq ?_
    refine SL.wp_region ?_
    refine ops_alloc rfl sz25 (fun w3 b7 N7 => ?_)
    have hBw3 := N7.below
    have nF7 := hF.new N7; have nM7 := hM.new N7
    have Lw3 := Le.of_new (Fz := Fz) (M := (Ins b6 M)) N7
    have lt6_7 := B6.lt; replace B6 := B6.below hBw3; have ne6_7 : b6 ≠ b7 := by have := N7.at_; omega
    replace LL := LL.trans Lw3
    replace hM := hM.mono Lw3
    replace hF := hF.mono Lw3
    replace h1 := h1.mono Lw3
    replace h2 := h2.mono Lw3
    replace Mk := Mk.mono Lw3
    have B7 := N7.blk
    refine ops_store1 rfl rfl sz25 B7 (by first | rfl | exact own_one (by assumption) | exact nat_one (by assumption)) (fun w4 Cw4 Bw4 => ?_)
    have Lw4 := Le.of_chg (Fz := Fz) (M := (Ins b7 (Ins b6 M))) Cw4 ins_here nF7
    replace LL := LL.trans Lw4
    replace hM := hM.mono Lw4
    replace hF := hF.mono Lw4
    replace h1 := h1.mono Lw4
    replace h2 := h2.mono Lw4
    replace Mk := Mk.mono Lw4
    replace B6 := B6.other Cw4 ne6_7
    clear B7; have B7 := Bw4; clear Bw4
    refine ops_nil ?_
    refine SL.wp_seq ?_
    refine SL.wp_seq ?_
    refine SL.wp_region ?_
    have Ow := own_nil (w := w4) (e := 43)
    have Of : ∀ k, (Value.slice none 0 0).ownBlock = some k → ¬ Fz k := nil_own
    have Om : ∀ k, (Value.slice none 0 0).ownBlock = some k → ¬ (Ins b7 (Ins b6 M)) k := nil_own
    have Ln := Le.mo_nil (Fz := Fz) (M := (Ins b7 (Ins b6 M))) (w := w4)
    replace LL := LL.trans Ln
    replace hM := hM.mono Ln
    replace hF := hF.mono Ln
    replace h1 := h1.mono Ln
    replace h2 := h2.mono Ln
    replace Mk := Mk.mono Ln
    clear Ln
    refine ops_move rfl rfl ?_
    refine ops_move rfl rfl ?_
    refine ops_callv rfl bod56 rfl rfl ?_
    refine (pairs_c (M := (Mo (.slice none 0 0) (Ins b7 (Ins b6 M)))) (by assumption) (by assumption) (by omega) (by omega) hM).mono ?_
    rintro v17 w5 ⟨hB17, cap17, rfl, hit17⟩
    have Lw5 := Le.of_below (Fz := Fz) (M := (Mo (.slice none 0 0) (Ins b7 (Ins b6 M)))) hB17
    replace LL := LL.trans Lw5
    replace hM := hM.mono Lw5
    replace hF := hF.mono Lw5
    replace h1 := h1.mono Lw5
    replace h2 := h2.mono Lw5
    replace Mk := Mk.mono Lw5
    replace B6 := B6.below hB17
    replace B7 := B7.below hB17
    replace Ow := own_below Ow hB17
    refine ops_nil ?_
    refine SL.wp_block ?_
    have hszLL := LL.size
    have Mold0 := Mk.old (Nat.le_refl _)
    refine SL.wp_range (M := (Mo (.slice none 0 0) (Ins b7 (Ins b6 M)))) (T := NoT) (pairsOf xs ys) (encP) rfl bod73 (hit17) noT (trivial) (fun _ => rfl) rfl [(6, _), (7, _)] (sub_cons rfl (sub_cons rfl sub_nil)) (fun pre w6 => ∃ v zs c, Le Fz (Mo (.slice none 0 0) (Ins b7 (Ins b6 M))) w5 (Mo v (Ins b7 (Ins b6 M))) w6 ∧ Blk w6 b6 23 [v] ∧ Blk w6 b7 25 [.int .u64 ((c : Nat) : Int)] ∧ w6.ownsRow 0 43 1 v zs.length (zs.map lw) ∧ (∀ k, v.ownBlock = some k → ¬ Fz k) ∧ (∀ k, v.ownBlock = some k → ¬ Ins b7 (Ins b6 M) k) ∧
      zs.length = pre.length ∧ val zs + val (pre.map (·.2)) + 4294967296 ^ zs.length * c = val (pre.map (·.1)) + 4294967296 ^ zs.length * (2 * c) ∧ c ≤ 1 ∧ (∀ z ∈ zs, z < 4294967296)) (fun _ _ => False) (fun _ => False) (⟨_, [], 0, Le.refl _ _ _, B6, B7, by simpa using Ow, Of, Om, rfl, by simp [val], by omega, by simp⟩) (fun pre w h => (by obtain ⟨_, _, _, h, _⟩ := h; exact h.keep)) (fun pre w1 w2 hJ hd => (by obtain ⟨v, zs, c, h1, h2, h3, h4, h5⟩ := hJ; exact ⟨v, zs, c, h1.drift0 hd (Nat.le_refl _), h2.drift hd (fun c => c), h3.drift hd (fun c => c), own_drift h4 hd (fun _ _ c => c), h5⟩)) (fun _ _ _ h _ => h) (fun _ _ h _ => h) (fun _ _ _ _ => trivial) ?_ ?_ (fun _ _ h _ => h.elim) (fun _ h _ => h.elim)
    · intro pre x post l b w6 ρ δ hx hJ hnl hnb hl hb hbc
      obtain ⟨q, zs, c, LS0, B6, B7, Ow, Of, Om, hzl, hzv, hc, hzlt⟩ := hJ
      replace LL := LL.trans LS0
      replace hM := hM.mono LS0
      replace hF := hF.mono LS0
      replace h1 := h1.mono LS0
      replace h2 := h2.mono LS0
      replace Mk := Mk.mono LS0
      have RL : Rec (Mo q (Ins b7 (Ins b6 M))) w6 l (.loop ρ) := ⟨hl, (not_mo (own_ne_rec Ow hl (by simp)) (not_ins (Rec.ne hl B7 (by simp)) (not_ins (Rec.ne hl B6 (by simp)) (not_old hM0 (by omega)))))⟩
      have RB : Rec (Mo q (Ins b7 (Ins b6 M))) w6 b δ := ⟨hb, (not_mo (own_ne_rec Ow hb hbc) (not_ins (Rec.ne hb B7 hbc) (not_ins (Rec.ne hb B6 hbc) (not_old hM0 (by omega)))))⟩
      have hs1 : w6.heap.size ≤ w6.heap.size := Nat.le_refl _
      have hxb := pairs_lt h1.lt h2.lt x (by rw [hx]; simp)
      have hpl : pre.length < max xs.length ys.length := by have := congrArg List.length hx; rw [pairs_length] at this; simp only [List.length_append, List.length_cons] at this; omega
      have hD := subD_eq (x := x.1) (y := x.2) (c := c) hxb.1 hxb.2 hc
      refine SL.wp_seq ?_
      refine SL.wp_region ?_
      refine ops_assign rfl rfl ?_
      refine ops_nil ?_
      refine SL.wp_region ?_
      refine ops_assign rfl rfl ?_
      refine ops_nil ?_
      refine ⟨RL.at_, RB.at_, rfl, fun w7 ρ' δ' hdr hl' hb' hbc' => ?_⟩
      replace LL := LL.drift0 hdr hszLL
      replace LS0 := LS0.drift0 hdr (Nat.le_refl _)
      replace hM := hM.drift hdr; replace hF := hF.drift hdr; replace hs1 := Nat.le_trans hs1 hdr.size
      replace h1 := h1.drift hdr noT
      replace h2 := h2.drift hdr noT
      replace RL : Rec (Mo q (Ins b7 (Ins b6 M))) w7 l (.loop ρ') := ⟨hl', RL.not⟩; replace RB : Rec (Mo q (Ins b7 (Ins b6 M))) w7 b δ' := ⟨hb', RB.not⟩
      replace B6 := B6.drift hdr (fun c => c)
      replace B7 := B7.drift hdr (fun c => c)
      replace Ow := own_drift Ow hdr (fun _ _ c => c)
      refine SL.wp_block ?_
      refine SL.wp_seq ?_
      refine SL.wp_region ?_
      refine ops_move rfl rfl ?_
      refine ops_move rfl rfl ?_
      refine ops_subu rfl rfl rfl (by omega) ?_
      refine ops_loadb rfl flat25 rfl B7 rfl ?_
      refine ops_subu rfl rfl rfl (by omega) ?_
      refine ops_assign rfl rfl ?_
      refine ops_nil ?_
      refine SL.wp_seq ?_
      refine SL.wp_region ?_
      refine ops_loadb rfl flat23 rfl B6 rfl ?_
      refine ops_move rfl rfl ?_
      refine ops_to32 rfl Try.underlying25 Try.underlying43 rfl ?_
      refine ops_buildSlice rfl Try.underlying23 sz43 rfl rfl rfl (by simp [Value.oneCell', lw]) rfl (fun w8 b28 N28 => ?_)
      have hBw8 := N28.below
      have nM28 := hM.new N28; have B28 := N28.blk
      have Lw8 := Le.of_below (Fz := Fz) (M := (Mo q (Ins b7 (Ins b6 M)))) hBw8
      replace LL := LL.trans Lw8
      replace LS0 := LS0.trans Lw8
      replace hM := hM.mono Lw8
      replace hF := hF.mono Lw8
      replace h1 := h1.mono Lw8
      replace h2 := h2.mono Lw8
      replace RL := RL.mono Lw8
      replace RB := RB.mono Lw8
      replace hs1 := Nat.le_trans hs1 Lw8.size
      replace B6 := B6.below hBw8
      replace B7 := B7.below hBw8
      replace Ow := own_below Ow hBw8
      refine ops_append rfl Try.underlying23 sz43 rfl rfl rfl Ow (B28.slc nM28 rfl (fun _ _ h => h) (by omega) (Nat.le_refl _)) (by simp [Value.oneCell']) (by omega) (by omega) (fun v29 w9 A29 G29 S29 => ?_)
      have Lw9 := Le.of_grown (Fz := Fz) (M := (Ins b7 (Ins b6 M))) G29 S29 A29 Of
      have Omo29 := Om
      replace Of := own_step_f (w' := w9) Of hF S29; replace Om := own_step_m (w' := w9) Om (fun k hk => hM k (.inr hk)) S29
      replace B6 := B6.grown G29 (fun h => Omo29 _ h (.inr ins_here))
      replace B7 := B7.grown G29 (fun h => Omo29 _ h ins_here)
      replace LL := LL.trans Lw9
      replace LS0 := LS0.trans Lw9
      replace hM := hM.mono Lw9
      replace hF := hF.mono Lw9
      replace h1 := h1.mono Lw9
      replace h2 := h2.mono Lw9
      replace RL := RL.mono Lw9
      replace RB := RB.mono Lw9
      replace hs1 := Nat.le_trans hs1 Lw9.size
      clear Ow; have Ow := A29
      refine ops_store1 rfl rfl sz23 B6 (by first | rfl | exact own_one (by assumption) | exact nat_one (by assumption)) (fun w10 Cw10 Bw10 => ?_)
      have Lw10 := Le.of_chg (Fz := Fz) (M := (Mo v29 (Ins b7 (Ins b6 M)))) Cw10 (.inr (.inr ins_here)) nF6
      replace LL := LL.trans Lw10
      replace LS0 := LS0.trans Lw10
      replace hM := hM.mono Lw10
      replace hF := hF.mono Lw10
      replace h1 := h1.mono Lw10
      replace h2 := h2.mono Lw10
      replace RL := RL.mono Lw10
      replace RB := RB.mono Lw10
      replace hs1 := Nat.le_trans hs1 Lw10.size
      replace B7 := B7.other Cw10 ne6_7.symm
      replace Ow := own_chg Ow Cw10 (fun h => Om _ h (.inr ins_here))
      clear B6; have B6 := Bw10; clear Bw10
      refine ops_nil ?_
      refine SL.wp_region ?_
      refine ops_move rfl rfl ?_
      refine ops_shru rfl rfl rfl (by simp only [IntKind.bits]; omega) ?_
      refine ops_store1 rfl rfl sz25 B7 (by first | rfl | exact own_one (by assumption) | exact nat_one (by assumption)) (fun w11 Cw11 Bw11 => ?_)
      have Lw11 := Le.of_chg (Fz := Fz) (M := (Mo v29 (Ins b7 (Ins b6 M)))) Cw11 (.inr ins_here) nF7
      replace LL := LL.trans Lw11
      replace LS0 := LS0.trans Lw11
      replace hM := hM.mono Lw11
      replace hF := hF.mono Lw11
      replace h1 := h1.mono Lw11
      replace h2 := h2.mono Lw11
      replace RL := RL.mono Lw11
      replace RB := RB.mono Lw11
      replace hs1 := Nat.le_trans hs1 Lw11.size
      replace B6 := B6.other Cw11 ne6_7
      replace Ow := own_chg Ow Cw11 (fun h => Om _ h ins_here)
      clear B7; have B7 := Bw11; clear Bw11
      refine ops_nil ?_
      refine ⟨RL.at_, RB.at_, hs1, fun _ c => c.elim, ?_⟩
      refine ⟨v29, zs ++ [subD x.1 x.2 c % 4294967296], subD x.1 x.2 c / 9223372036854775808, LS0, B6, B7, by simpa [lw, subD] using Ow, Of, Om, by simp [hzl], sub_step hzl hzv hD.1, hD.2.1, ?_⟩
      intro z hz
      rcases List.mem_append.1 hz with hz | hz
      · exact hzlt z hz
      · simp at hz; omega
    · intro w12 hJ hZ hDd
      obtain ⟨q, zs, c, LS0, B6, B7, Ow, Of, Om, hzl, hzv, hc, hzlt⟩ := hJ
      replace LL := LL.trans LS0
      replace hM := hM.mono LS0
      replace hF := hF.mono LS0
      replace h1 := h1.mono LS0
      replace h2 := h2.mono LS0
      replace Mk := Mk.mono LS0
      have hdd := hDd _ rfl rfl
      have RD : Rec (Mo q (Ins b7 (Ins b6 M))) w12 w5.heap.size (.deferred (some [])) := ⟨hdd, (not_mo (own_ne_rec Ow hdd (by simp)) (not_ins (Rec.ne hdd B7 (by simp)) (not_ins (Rec.ne hdd B6 (by simp)) (not_old hM0 (by omega)))))⟩
      replace Mk := Mk.cons hszLL RD Mold0
      have hpl := pairs_length xs ys
      refine SL.wp_seq ?_
      refine SL.wp_region ?_
      refine ops_loadb rfl flat23 rfl B6 rfl ?_
      refine ops_callv rfl bod25 rfl rfl ?_
      refine (trim_c (M := M) (xs := zs) ⟨own_slc Ow (fun k hk c => Om k hk (.inr (.inr c))) (by omega), hzlt⟩ (by omega) (fun k hk => hM k (.inr (.inr (.inr hk))))).mono ?_
      rintro v33 w13 ⟨hB33, hf33⟩
      have hS33 := LL.size
      have Lw13 := Le.of_below (Fz := Fz) (M := (Mo q (Ins b7 (Ins b6 M)))) hB33
      replace LL := LL.trans Lw13
      replace LS0 := LS0.trans Lw13
      replace hM := hM.mono Lw13
      replace hF := hF.mono Lw13
      replace h1 := h1.mono Lw13
      replace h2 := h2.mono Lw13
      replace Mk := Mk.mono Lw13
      replace B6 := B6.below hB33
      replace B7 := B7.below hB33
      replace Ow := own_below Ow hB33
      replace hf33 := hf33.less hS33
      refine ops_assign rfl rfl ?_
      refine ops_assign rfl rfl ?_
      refine ops_nil ?_
      refine SL.wp_ret ?_
      refine leave_marks Mk (fun wz hz => ⟨[_, _], ⟨rfl, rfl, trivial⟩, ?_⟩)
      dsimp only [resVal]
      subst hFz
      rw [val_pairs_fst, val_pairs_snd] at hzv
      have hle : val ys ≤ val xs := Nat.le_of_not_lt fun c => hc0 (cmpN_neg.2 c)
      rw [sub_end hzlt hzv hc hle] at hf33
      exact ⟨SL.Below.drift (LL.below (Nat.le_refl _)) hz (Nat.le_refl _), .inr ⟨hle, _, rfl, hf33.drift hz⟩⟩


theorem least_c {M : Nat → Prop} {w : World} {v : Value} {xss : List (List Nat)} (h : IsNats M w v xss) (hl : ∀ xs ∈ xss, xs.length ≤ 1000000000) (hn : xss.length ≤ 1000000000) (hM : OkM M w) :
    CallsV Try.prog 31 [v] w fun r w' => Below w.heap.size w w' ∧ r = .int .i64 (lst (xss.map val) xss.length) := by
  obtain ⟨Fz, hFz⟩ : ∃ Fz : Nat → Prop, Fz = (· < w.heap.size) := ⟨_, rfl⟩
  have hF : FOk Fz w := by subst hFz; exact fun _ h => h
  have LL := Le.refl Fz M w; have hM0 := hM
  refine calls_intro Try.func31 rfl Try.ntmps31 rfl ?_
  refine SL.wp_seq ?_
  refine SL.wp_region ?_
  refine ops_assign rfl rfl ?_
  refine ops_nil ?_
  refine SL.wp_seq ?_
  refine SL.wp_region ?_
  refine ops_assign rfl rfl ?_
  refine ops_nil ?_
  refine SL.wp_seq ?_
  refine SL.wp_seq ?_
  refine SL.wp_region ?_
  refine ops_move rfl rfl ?_
  first | refine ops_len rfl Try.underlying24 rfl ?_ | refine ops_lens rfl Try.underlying24 rfl (IsNat.slc (by assumption)) ?_ | refine ops_lenn rfl Try.underlying24 rfl (by assumption) ?_ | refine ops_leno rfl Try.underlying24 rfl (by assumption) ?_
  refine ops_move rfl rfl ?_
  refine ops_nil ?_
  refine SL.wp_block ?_
  refine SL.wp_loopc (σ := Nat) [(0, _), (6, _), (7, _)] (fun s => [(3, .int .i64 (lst (xss.map val) s)), (8, .int .i64 ((s : Nat) : Int))]) (fun s w1 => Le Fz M w M w1 ∧ s ≤ xss.length) (fun s => xss.length - s) (0) (sub_cons rfl (sub_cons rfl (sub_cons rfl (sub_cons rfl (sub_cons rfl sub_nil))))) ?_ (fun s w1 hJ => ?_)
  · exact ⟨Le.refl _ _ _, by omega⟩
  · obtain ⟨LR, hs⟩ := hJ
    have hlb := lst_bound (xss.map val) s
    have hll : ∀ k, k < xss.length → (xss.getD k []).length ≤ 1000000000 := fun k hk => hl _ (by simp [List.getElem?_eq_getElem hk])
    replace LL := LL.trans LR
    replace hM := hM.mono LR
    replace hF := hF.mono LR
    replace h := h.mono LR
    refine SL.wp_seq ?_
    refine SL.wp_region ?_
    refine ops_lt rfl rfl rfl ?_
    refine ops_nil ?_
    refine SL.wp_seq ?_
    refine SL.wp_cond_d rfl (fun hc0 => ?_) (fun hc0 => ?_)
    · refine SL.wp_skip ?_
      refine SL.wp_seq ?_
      refine SL.wp_block ?_
      refine SL.wp_seq ?_
      refine SL.wp_region ?_
      refine ops_move rfl rfl ?_
      refine ops_idxs (s) rfl Try.underlying24 sz23 rfl rfl (by assumption) (by omega) (by omega) (fun b11 o11 u11 hc11 hu11 => ?_)
      refine ops_load rfl flat23 rfl hc11 ?_
      refine ops_assign rfl rfl ?_
      refine ops_assign rfl rfl ?_
      refine ops_nil ?_
      refine SL.wp_seq ?_
      refine SL.wp_region ?_
      refine ops_move rfl rfl ?_
      refine ops_lt rfl rfl rfl ?_
      refine ops_move rfl rfl ?_
      refine ops_dcase (d := 15) rfl (fun hg5_2 => ?_) (fun hg5_2 => ?_)
      · refine ops_guard_f rfl rfl rfl rfl ?_
        refine ops_guard_f rfl rfl rfl rfl ?_
        refine ops_guard_f rfl rfl rfl rfl ?_
        refine ops_guard_f rfl rfl rfl rfl ?_
        refine ops_guard_f rfl rfl rfl rfl ?_
        refine ops_guard_f rfl rfl rfl rfl ?_
        refine ops_guard_f rfl rfl rfl rfl ?_
        refine ops_pick rfl rfl rfl ?_
        refine ops_nil ?_
        refine SL.wp_cond_t rfl ?_
        refine SL.wp_region ?_
        refine ops_move rfl rfl ?_
        refine ops_assign rfl rfl ?_
        refine ops_nil ?_
        refine SL.wp_region ?_
        refine ops_add rfl rfl rfl (by omega) ?_
        refine ops_move rfl rfl ?_
        refine ops_nil ?_
        refine ⟨rfl, s + 1, (sub_cons' rfl (by rw [lst_new (.inl hg5_2)]) (sub_cons' rfl (rfl) (sub_cons rfl (sub_cons rfl (sub_cons rfl sub_nil))))), ?_, ?_⟩
        exact ⟨LR, by omega⟩
        omega
      · refine ops_guard_t rfl rfl ?_
        refine ops_move rfl rfl ?_
        refine ops_guard_t rfl rfl ?_
        refine ops_move rfl rfl ?_
        refine ops_guard_t rfl rfl ?_
        refine ops_move rfl rfl ?_
        refine ops_guard_t rfl rfl ?_
        refine ops_idxs ((lst (xss.map val) s).toNat) rfl Try.underlying24 sz23 rfl rfl (by assumption) (by omega) (by omega) (fun b19 o19 u19 hc19 hu19 => ?_)
        refine ops_guard_t rfl rfl ?_
        refine ops_load rfl flat23 rfl hc19 ?_
        refine ops_guard_t rfl rfl ?_
        refine ops_callv rfl bod23 rfl rfl ?_
        refine (cmp_c (M := M) hu11 hu19 (by have := hll s (by omega); omega) (by have := hll (lst (xss.map val) s).toNat (by omega); omega) hM).mono ?_
        rintro v21 w2 ⟨hB21, rfl⟩
        have Lw2 := Le.of_below (Fz := Fz) (M := M) hB21
        replace LL := LL.trans Lw2
        replace LR := LR.trans Lw2
        replace hM := hM.mono Lw2
        replace hF := hF.mono Lw2
        replace h := h.mono Lw2
        replace hu11 := hu11.mono Lw2
        replace hu19 := hu19.mono Lw2
        refine ops_guard_t rfl rfl ?_
        refine ops_lt rfl rfl rfl ?_
        refine ops_pick rfl rfl rfl ?_
        refine ops_nil ?_
        refine SL.wp_cond_d rfl (fun hc1 => ?_) (fun hc1 => ?_)
        · refine SL.wp_region ?_
          refine ops_move rfl rfl ?_
          refine ops_assign rfl rfl ?_
          refine ops_nil ?_
          refine SL.wp_region ?_
          refine ops_add rfl rfl rfl (by omega) ?_
          refine ops_move rfl rfl ?_
          refine ops_nil ?_
          refine ⟨rfl, s + 1, (sub_cons' rfl (by rw [lst_new (.inr (by rw [map_val_getD, map_val_getD]; exact cmpN_neg.1 hc1))]) (sub_cons' rfl (rfl) (sub_cons rfl (sub_cons rfl (sub_cons rfl sub_nil))))), ?_, ?_⟩
          exact ⟨LR, by omega⟩
          omega
        · refine SL.wp_skip ?_
          refine SL.wp_region ?_
          refine ops_add rfl rfl rfl (by omega) ?_
          refine ops_move rfl rfl ?_
          refine ops_nil ?_
          refine ⟨rfl, s + 1, (sub_cons' rfl (by rw [lst_old hg5_2 (by rw [map_val_getD, map_val_getD]; exact fun c => hc1 (cmpN_neg.2 c))]) (sub_cons' rfl (rfl) (sub_cons rfl (sub_cons rfl (sub_cons rfl sub_nil))))), ?_, ?_⟩
          exact ⟨LR, by omega⟩
          omega
    · refine SL.wp_exit ?_
      refine upd_hit ?_
      refine SL.wp_seq ?_
      refine SL.wp_region ?_
      refine ops_move rfl rfl ?_
      refine ops_assign rfl rfl ?_
      refine ops_nil ?_
      refine SL.wp_ret ?_
      refine leave_nil ⟨[_], ⟨rfl, trivial⟩, ?_⟩
      dsimp only [resVal]
      subst hFz
      obtain rfl : s = xss.length := by omega
      exact ⟨LL.below (Nat.le_refl _), rfl⟩


theorem rtrim_c {M : Nat → Prop} {w : World} {v : Value} {xs : List Nat} (h : IsNat M w v xs) (hl : xs.length ≤ 1099511627776) (hM : OkM M w) :
    CallsV Try.prog 26 [v] w fun r w' => Below w.heap.size w w' ∧ Fresh 43 w w' r (limbs (val xs)) := by
  obtain ⟨Fz, hFz⟩ : ∃ Fz : Nat → Prop, Fz = (· < w.heap.size) := ⟨_, rfl⟩
  have hF : FOk Fz w := by subst hFz; exact fun _ h => h
  have LL := Le.refl Fz M w; have hM0 := hM
  refine calls_intro Try.func26 rfl Try.ntmps26 rfl ?_
  refine SL.wp_seq ?_
  refine SL.wp_region ?_
  refine ops_assign rfl rfl ?_
  refine ops_nil ?_
  refine SL.wp_seq ?_
  refine SL.wp_region ?_
  refine ops_move rfl rfl ?_
  first | refine ops_len rfl Try.underlying23 rfl ?_ | refine ops_lens rfl Try.underlying23 rfl (IsNat.slc (by assumption)) ?_ | refine ops_lenn rfl Try.underlying23 rfl (by assumption) ?_ | refine ops_leno rfl Try.underlying23 rfl (by assumption) ?_
  refine ops_assign rfl rfl ?_
  refine ops_nil ?_
  refine SL.wp_seq ?_
  refine SL.wp_block ?_
  refine SL.wp_loopc (σ := Nat) [(0, _)] (fun s => [(3, .int .i64 ((s : Nat) : Int))]) (fun s w1 => w1 = w ∧ s ≤ xs.length ∧ ∀ j, s ≤ j → xs.getD j 0 = 0) (fun s => s) (xs.length) (sub_cons rfl (sub_cons rfl sub_nil)) ?_ (fun s w1 hJ => ?_)
  · exact ⟨rfl, Nat.le_refl _, fun j hj => getD_out hj⟩
  · obtain ⟨rfl, hs, hz⟩ := hJ
    refine SL.wp_seq ?_
    refine SL.wp_seq ?_
    refine SL.wp_region ?_
    refine ops_move rfl rfl ?_
    refine ops_gt rfl rfl rfl ?_
    refine ops_move rfl rfl ?_
    refine ops_dcase (d := 8) rfl (fun hg2_2 => ?_) (fun hg2_2 => ?_)
    · refine ops_guard_t rfl rfl ?_
      refine ops_move rfl rfl ?_
      refine ops_guard_t rfl rfl ?_
      refine ops_move rfl rfl ?_
      refine ops_guard_t rfl rfl ?_
      refine ops_sub rfl rfl rfl (by omega) ?_
      refine ops_guard_t rfl rfl ?_
      refine ops_idxn (s - 1) rfl Try.underlying23 sz43 rfl rfl (by assumption) (by omega) (by omega) (fun b12 o12 hc12 hb12 => ?_)
      refine ops_guard_t rfl rfl ?_
      refine ops_load rfl flat43 rfl hc12 ?_
      refine ops_guard_t rfl rfl ?_
      refine ops_eq rfl rfl rfl ?_
      refine ops_pick rfl rfl rfl ?_
      refine ops_nil ?_
      refine SL.wp_cond_d rfl (fun hc0 => ?_) (fun hc0 => ?_)
      · refine SL.wp_skip ?_
        refine SL.wp_block ?_
        refine SL.wp_region ?_
        refine ops_move rfl rfl ?_
        refine ops_sub rfl rfl rfl (by omega) ?_
        refine ops_assign rfl rfl ?_
        refine ops_nil ?_
        refine ⟨rfl, s - 1, (sub_cons' rfl (by congr 1; omega) (sub_cons rfl sub_nil)), ?_, ?_⟩
        exact ⟨rfl, by omega, fun j hj => by
          rcases Nat.lt_or_ge j s with h1 | h1
          · obtain rfl : j = s - 1 := by omega
            omega
          · exact hz j h1⟩
        omega
      · refine SL.wp_exit ?_
        refine upd_hit ?_
        refine SL.wp_seq ?_
        refine SL.wp_region ?_
        refine ops_buildSlice rfl Try.underlying23 sz43 rfl rfl rfl (by simp) rfl (fun w2 b18 N18 => ?_)
        have nF18 := hF.new N18; have nM18 := hM.new N18; have hBw2 := N18.below
        have Lw2 := Le.of_new_mo (Fz := Fz) (M := M) (v := Value.slice (some ⟨b18, 0, none⟩) 0 0) N18 rfl
        replace LL := LL.trans Lw2
        replace hM := hM.mono Lw2
        replace hF := hF.mono Lw2
        replace h := h.mono Lw2
        have Of : ∀ k, (Value.slice (some ⟨b18, 0, none⟩) 0 0).ownBlock = some k → ¬ Fz k := slice_own nF18
        have Om : ∀ k, (Value.slice (some ⟨b18, 0, none⟩) 0 0).ownBlock = some k → ¬ M k := slice_own nM18
        have Ow := own_blk (n := 0) (c := 0) N18.blk rfl (Nat.le_refl _) (by omega)
        refine ops_move rfl rfl ?_
        refine ops_move rfl rfl ?_
        refine ops_slices (M := (Mo (Value.slice (some ⟨b18, 0, none⟩) 0 0) M)) 0 s rfl Try.underlying23 sz43 rfl h.slc rfl ⟨_, rfl⟩ trivial (Nat.zero_le _) hs (fun v21 hv21 => ?_)
        have hn21 : IsNat (Mo (Value.slice (some ⟨b18, 0, none⟩) 0 0) M) w2 v21 (xs.take s) := ⟨by simpa [List.map_take, hs] using hv21, fun x hx => h.lt x (List.mem_of_mem_take hx)⟩
        refine ops_append rfl Try.underlying23 sz43 rfl rfl rfl Ow hn21.slc (lw_one _) (by simp only [List.length_take]; omega) (by simp only [List.length_take]; omega) (fun v22 w3 A22 G22 S22 => ?_)
        have Lw3 := Le.of_grown (Fz := Fz) (M := M) G22 S22 A22 Of
        have Omo22 := Om
        replace Of := own_step_f (w' := w3) Of hF S22; replace Om := own_step_m (w' := w3) Om (fun k hk => hM k (.inr hk)) S22
        replace LL := LL.trans Lw3
        replace hM := hM.mono Lw3
        replace hF := hF.mono Lw3
        replace h := h.mono Lw3
        replace hn21 := hn21.mono Lw3
        clear Ow; have Ow := A22
        refine ops_assign rfl rfl ?_
        refine ops_nil ?_
        refine SL.wp_ret ?_
        refine leave_nil ⟨[_], ⟨rfl, trivial⟩, ?_⟩
        dsimp only [resVal]
        have e : xs.take s = limbs (val xs) := take_limbs h.lt hs hz (by first | (left; omega) | (right; omega))
        subst hFz
        refine ⟨LL.below (Nat.le_refl _), ?_⟩
        rw [← e]
        exact fresh_of (by simpa using Ow) Of hn21.lt (by simp only [List.length_take]; omega)
    · refine ops_guard_f rfl rfl rfl rfl ?_
      refine ops_guard_f rfl rfl rfl rfl ?_
      refine ops_guard_f rfl rfl rfl rfl ?_
      refine ops_guard_f rfl rfl rfl rfl ?_
      refine ops_guard_f rfl rfl rfl rfl ?_
      refine ops_guard_f rfl rfl rfl rfl ?_
      refine ops_pick rfl rfl rfl ?_
      refine ops_nil ?_
      refine SL.wp_cond_f rfl ?_
      refine SL.wp_exit ?_
      refine upd_hit ?_
      refine SL.wp_seq ?_
      refine SL.wp_region ?_
      refine ops_buildSlice rfl Try.underlying23 sz43 rfl rfl rfl (by simp) rfl (fun w4 b18 N18 => ?_)
      have nF18 := hF.new N18; have nM18 := hM.new N18; have hBw4 := N18.below
      have Lw4 := Le.of_new_mo (Fz := Fz) (M := M) (v := Value.slice (some ⟨b18, 0, none⟩) 0 0) N18 rfl
      replace LL := LL.trans Lw4
      replace hM := hM.mono Lw4
      replace hF := hF.mono Lw4
      replace h := h.mono Lw4
      have Of : ∀ k, (Value.slice (some ⟨b18, 0, none⟩) 0 0).ownBlock = some k → ¬ Fz k := slice_own nF18
      have Om : ∀ k, (Value.slice (some ⟨b18, 0, none⟩) 0 0).ownBlock = some k → ¬ M k := slice_own nM18
      have Ow := own_blk (n := 0) (c := 0) N18.blk rfl (Nat.le_refl _) (by omega)
      refine ops_move rfl rfl ?_
      refine ops_move rfl rfl ?_
      refine ops_slices (M := (Mo (Value.slice (some ⟨b18, 0, none⟩) 0 0) M)) 0 s rfl Try.underlying23 sz43 rfl h.slc rfl ⟨_, rfl⟩ trivial (Nat.zero_le _) hs (fun v21 hv21 => ?_)
      have hn21 : IsNat (Mo (Value.slice (some ⟨b18, 0, none⟩) 0 0) M) w4 v21 (xs.take s) := ⟨by simpa [List.map_take, hs] using hv21, fun x hx => h.lt x (List.mem_of_mem_take hx)⟩
      refine ops_append rfl Try.underlying23 sz43 rfl rfl rfl Ow hn21.slc (lw_one _) (by simp only [List.length_take]; omega) (by simp only [List.length_take]; omega) (fun v22 w5 A22 G22 S22 => ?_)
      have Lw5 := Le.of_grown (Fz := Fz) (M := M) G22 S22 A22 Of
      have Omo22 := Om
      replace Of := own_step_f (w' := w5) Of hF S22; replace Om := own_step_m (w' := w5) Om (fun k hk => hM k (.inr hk)) S22
      replace LL := LL.trans Lw5
      replace hM := hM.mono Lw5
      replace hF := hF.mono Lw5
      replace h := h.mono Lw5
      replace hn21 := hn21.mono Lw5
      clear Ow; have Ow := A22
      refine ops_assign rfl rfl ?_
      refine ops_nil ?_
      refine SL.wp_ret ?_
      refine leave_nil ⟨[_], ⟨rfl, trivial⟩, ?_⟩
      dsimp only [resVal]
      have e : xs.take s = limbs (val xs) := take_limbs h.lt hs hz (by first | (left; omega) | (right; omega))
      subst hFz
      refine ⟨LL.below (Nat.le_refl _), ?_⟩
      rw [← e]
      exact fresh_of (by simpa using Ow) Of hn21.lt (by simp only [List.length_take]; omega)


theorem rof_c {M : Nat → Prop} {w : World} {n : Nat} (hn : n < 18446744073709551616) (hM : OkM M w) :
    CallsV Try.prog 28 [.int .u64 (n : Int)] w fun r w' => Below w.heap.size w w' ∧ Fresh 43 w w' r (limbs n) := by
  obtain ⟨Fz, hFz⟩ : ∃ Fz : Nat → Prop, Fz = (· < w.heap.size) := ⟨_, rfl⟩
  have hF : FOk Fz w := by subst hFz; exact fun _ h => h
  have LL := Le.refl Fz M w; have hM0 := hM
  refine calls_intro Try.func28 rfl Try.ntmps28 rfl ?_
  refine SL.wp_seq ?_
  refine SL.wp_region ?_
  refine ops_assign rfl rfl ?_
  refine ops_nil ?_
  refine SL.wp_seq ?_
  refine SL.wp_region ?_
  refine ops_move rfl rfl ?_
  refine ops_to32 rfl Try.underlying25 Try.underlying43 rfl ?_
  refine ops_move rfl rfl ?_
  refine ops_shru rfl rfl rfl (by simp only [IntKind.bits]; omega) ?_
  refine ops_to32 rfl Try.underlying25 Try.underlying43 rfl ?_
  refine ops_buildSlice rfl Try.underlying23 sz43 rfl rfl rfl (by simp [Value.oneCell']) rfl (fun w1 b8 N8 => ?_)
  have hBw1 := N8.below
  have nM8 := hM.new N8; have B8 := N8.blk
  have Lw1 := Le.of_below (Fz := Fz) (M := M) hBw1
  replace LL := LL.trans Lw1
  replace hM := hM.mono Lw1
  replace hF := hF.mono Lw1
  have hn8 : IsNat M w1 (.slice (some ⟨b8, 0, none⟩) 2 2) [n % 4294967296, n / 4294967296 % 4294967296] :=
    ⟨B8.slc (M := M) nM8 (n := 2) (c := 2) (ds := [n % 4294967296, n / 4294967296 % 4294967296].map lw) rfl (fun j u hj => hj) (by omega) (Nat.le_refl _), by intro x hx; simp at hx; omega⟩
  refine ops_callv rfl bod26 rfl rfl ?_
  refine (rtrim_c (M := M) hn8 (by simp) hM).mono ?_
  rintro v9 w2 ⟨hB9, hf9⟩
  have hM9 := hM; have hS9 := LL.size
  have Lw2 := Le.of_below (Fz := Fz) (M := M) hB9
  replace LL := LL.trans Lw2
  replace hM := hM.mono Lw2
  replace hF := hF.mono Lw2
  replace hn8 := hn8.mono Lw2
  replace hf9 := hf9.less hS9
  refine ops_assign rfl rfl ?_
  refine ops_nil ?_
  refine SL.wp_ret ?_
  refine leave_nil ⟨[_], ⟨rfl, trivial⟩, ?_⟩
  dsimp only [resVal]
  have e : val [n % 4294967296, n / 4294967296 % 4294967296] = n := by simp only [val]; omega
  rw [e] at hf9
  subst hFz
  exact ⟨LL.below (Nat.le_refl _), hf9⟩


theorem rsmall_c {M : Nat → Prop} {w : World} {v : Value} {xs : List Nat} (h : IsNat M w v xs) (hl : xs.length ≤ 1099511627776) (hM : OkM M w) :
    CallsV Try.prog 19 [v] w fun r w' => Below w.heap.size w w' ∧ r = .tuple #[.int .u64 ((smallN (val xs) : Nat) : Int), .bool (decide (val xs < 18446744073709551616))] := by
  obtain ⟨Fz, hFz⟩ : ∃ Fz : Nat → Prop, Fz = (· < w.heap.size) := ⟨_, rfl⟩
  have hF : FOk Fz w := by subst hFz; exact fun _ h => h
  have LL := Le.refl Fz M w; have hM0 := hM
  refine calls_intro Try.func19 rfl Try.ntmps19 rfl ?_
  refine SL.wp_seq ?_
  refine SL.wp_region ?_
  refine ops_assign rfl rfl ?_
  refine ops_assign rfl rfl ?_
  refine ops_nil ?_
  refine SL.wp_seq ?_
  refine SL.wp_region ?_
  refine ops_move rfl rfl ?_
  refine ops_callv rfl bod26 rfl rfl ?_
  refine (rtrim_c (M := M) (by assumption) (by omega) hM).mono ?_
  rintro v8 w1 ⟨hB8, hf8⟩
  have hM8 := hM; have hS8 := LL.size
  have Lw1 := Le.of_below (Fz := Fz) (M := M) hB8
  replace LL := LL.trans Lw1
  replace hM := hM.mono Lw1
  replace hF := hF.mono Lw1
  replace h := h.mono Lw1
  have hn8 := hf8.nat hM8; replace hf8 := hf8.less hS8
  refine ops_assign rfl rfl ?_
  refine ops_nil ?_
  refine SL.wp_seq ?_
  refine SL.wp_seq ?_
  refine SL.wp_region ?_
  have hts := hn8.len
  refine ops_move rfl rfl ?_
  first | refine ops_len rfl Try.underlying23 rfl ?_ | refine ops_lens rfl Try.underlying23 rfl (IsNat.slc (by assumption)) ?_ | refine ops_lenn rfl Try.underlying23 rfl (by assumption) ?_ | refine ops_leno rfl Try.underlying23 rfl (by assumption) ?_
  refine ops_gt rfl rfl rfl ?_
  refine ops_nil ?_
  refine SL.wp_cond_d rfl (fun hc0 => ?_) (fun hc0 => ?_)
  · refine SL.wp_seq ?_
    refine SL.wp_region ?_
    refine ops_assign rfl rfl ?_
    refine ops_assign rfl rfl ?_
    refine ops_nil ?_
    refine SL.wp_ret ?_
    refine leave_nil ⟨[_, _], ⟨rfl, rfl, trivial⟩, ?_⟩
    dsimp only [resVal]
    subst hFz
    have hbig := big_len (xs := xs) (by omega)
    exact ⟨LL.below (Nat.le_refl _), by simp [smallN, hbig]⟩
  · refine SL.wp_skip ?_
    refine SL.wp_seq ?_
    refine SL.wp_region ?_
    refine ops_assign rfl rfl ?_
    refine ops_nil ?_
    refine SL.wp_seq ?_
    refine SL.wp_seq ?_
    refine SL.wp_region ?_
    refine ops_move rfl rfl ?_
    first | refine ops_len rfl Try.underlying23 rfl ?_ | refine ops_lens rfl Try.underlying23 rfl (IsNat.slc (by assumption)) ?_ | refine ops_lenn rfl Try.underlying23 rfl (by assumption) ?_ | refine ops_leno rfl Try.underlying23 rfl (by assumption) ?_
    refine ops_sub rfl rfl rfl (by omega) ?_
    refine ops_assign rfl rfl ?_
    refine ops_nil ?_
    refine SL.wp_block ?_
    refine SL.wp_loopc (σ := Nat) [(4, _)] (fun s => [(5, .int .u64 ((val ((limbs (val xs)).drop s) : Nat) : Int)), (6, .int .i64 (((s : Nat) : Int) - 1))]) (fun s w2 => w2 = w1 ∧ s ≤ (limbs (val xs)).length) (fun s => s) ((limbs (val xs)).length) (sub_cons' rfl (by simp [val]) (sub_cons rfl (sub_cons rfl sub_nil))) ?_ (fun s w2 hJ => ?_)
    · exact ⟨rfl, Nat.le_refl _⟩
    · obtain ⟨rfl, hs⟩ := hJ
      have hlt := limbs_lt (val xs)
      have hstep : 0 < s → val ((limbs (val xs)).drop (s - 1)) = (limbs (val xs)).getD (s - 1) 0 + 4294967296 * val ((limbs (val xs)).drop s) := fun h => by rw [drop_val (by omega), show s - 1 + 1 = s by omega]
      have hdb : 0 < s → val ((limbs (val xs)).drop s) < 4294967296 := fun h => by
        have h1 := val_lt ((limbs (val xs)).drop s) (fun x hx => hlt x (List.mem_of_mem_drop hx))
        have h2 : 4294967296 ^ ((limbs (val xs)).drop s).length ≤ 4294967296 ^ 1 := Nat.pow_le_pow_right (by omega) (by simp; omega)
        omega
      have hdb0 : val ((limbs (val xs)).drop s) < 18446744073709551616 := by
        have h1 := val_lt ((limbs (val xs)).drop s) (fun x hx => hlt x (List.mem_of_mem_drop hx))
        have h2 : 4294967296 ^ ((limbs (val xs)).drop s).length ≤ 4294967296 ^ 2 := Nat.pow_le_pow_right (by omega) (by simp; omega)
        have h3 : (4294967296 : Nat) ^ 2 = 18446744073709551616 := by decide
        omega
      refine SL.wp_seq ?_
      refine SL.wp_seq ?_
      refine SL.wp_region ?_
      refine ops_move rfl rfl ?_
      refine ops_ge rfl rfl rfl ?_
      refine ops_nil ?_
      refine SL.wp_cond_d rfl (fun hc1 => ?_) (fun hc1 => ?_)
      · refine SL.wp_skip ?_
        refine SL.wp_seq ?_
        refine SL.wp_block ?_
        refine SL.wp_region ?_
        refine ops_move rfl rfl ?_
        refine ops_shlu (m := 18446744073709551616) rfl rfl rfl (by simp only [IntKind.bits]; omega) rfl (.inl rfl) ?_
        refine ops_move rfl rfl ?_
        refine ops_move rfl rfl ?_
        refine ops_idxn (s - 1) rfl Try.underlying23 sz43 rfl rfl (by assumption) (by omega) (by omega) (fun b23 o23 hc23 hb23 => ?_)
        refine ops_load rfl flat43 rfl hc23 ?_
        refine ops_to64 rfl Try.underlying43 Try.underlying25 rfl (by omega) ?_
        refine ops_addv rfl rfl rfl (by have h9 : (2 ^ (Int.toNat 32) : Nat) = 4294967296 := rfl; rw [h9]; omega) ?_
        refine ops_assign rfl rfl ?_
        refine ops_nil ?_
        refine SL.wp_region ?_
        refine ops_move rfl rfl ?_
        refine ops_sub rfl rfl rfl (by omega) ?_
        refine ops_assign rfl rfl ?_
        refine ops_nil ?_
        refine ⟨rfl, s - 1, (sub_cons' rfl (by congr 2; rw [hstep (by omega)]; have h9 : (2 ^ (Int.toNat 32) : Nat) = 4294967296 := rfl; rw [h9]; omega) (sub_cons' rfl (by congr 1; omega) (sub_cons rfl sub_nil))), ?_, ?_⟩
        exact ⟨rfl, by omega⟩
        omega
      · refine SL.wp_exit ?_
        refine upd_hit ?_
        refine SL.wp_seq ?_
        refine SL.wp_region ?_
        refine ops_move rfl rfl ?_
        refine ops_assign rfl rfl ?_
        refine ops_assign rfl rfl ?_
        refine ops_nil ?_
        refine SL.wp_ret ?_
        refine leave_nil ⟨[_, _], ⟨rfl, rfl, trivial⟩, ?_⟩
        dsimp only [resVal]
        subst hFz
        obtain rfl : s = 0 := by omega
        have hsm := small_len (xs := xs) (by omega)
        exact ⟨LL.below (Nat.le_refl _), by simp [smallN, hsm, val_limbs]⟩


theorem rlimb_c {M : Nat → Prop} {w : World} {v : Value} {xs : List Nat} {i : Int} (h : IsNat M w v xs) (k : Nat) (hi : i = (k : Int)) (hM : OkM M w) :
    CallsV Try.prog 57 [v, .int .i64 i] w fun r w' => Below w.heap.size w w' ∧ r = .int .u64 ((xs.getD k 0 : Nat) : Int) ∧ xs.getD k 0 < 4294967296 := by
  obtain ⟨Fz, hFz⟩ : ∃ Fz : Nat → Prop, Fz = (· < w.heap.size) := ⟨_, rfl⟩
  have hF : FOk Fz w := by subst hFz; exact fun _ h => h
  have hl := h.len
  have LL := Le.refl Fz M w; have hM0 := hM
  refine calls_intro Try.func57 rfl Try.ntmps57 rfl ?_
  refine SL.wp_seq ?_
  refine SL.wp_region ?_
  refine ops_assign rfl rfl ?_
  refine ops_nil ?_
  refine SL.wp_seq ?_
  refine SL.wp_seq ?_
  refine SL.wp_region ?_
  refine ops_move rfl rfl ?_
  refine ops_move rfl rfl ?_
  first | refine ops_len rfl Try.underlying23 rfl ?_ | refine ops_lens rfl Try.underlying23 rfl (IsNat.slc (by assumption)) ?_ | refine ops_lenn rfl Try.underlying23 rfl (by assumption) ?_ | refine ops_leno rfl Try.underlying23 rfl (by assumption) ?_
  refine ops_ge rfl rfl rfl ?_
  refine ops_nil ?_
  refine SL.wp_cond_d rfl (fun hc0 => ?_) (fun hc0 => ?_)
  · refine SL.wp_seq ?_
    refine SL.wp_region ?_
    refine ops_assign rfl rfl ?_
    refine ops_nil ?_
    refine SL.wp_ret ?_
    refine leave_nil ⟨[_], ⟨rfl, trivial⟩, ?_⟩
    dsimp only [resVal]
    exact ⟨by subst hFz; exact LL.below (Nat.le_refl _), by rw [getD_out (by omega)]; rfl, h.lim k⟩
  · refine SL.wp_skip ?_
    refine SL.wp_seq ?_
    refine SL.wp_region ?_
    refine ops_move rfl rfl ?_
    refine ops_move rfl rfl ?_
    refine ops_idxn (k) rfl Try.underlying23 sz43 rfl rfl (by assumption) (by omega) (by omega) (fun b11 o11 hc11 hb11 => ?_)
    refine ops_load rfl flat43 rfl hc11 ?_
    refine ops_to64 rfl Try.underlying43 Try.underlying25 rfl (by omega) ?_
    refine ops_assign rfl rfl ?_
    refine ops_nil ?_
    refine SL.wp_ret ?_
    refine leave_nil ⟨[_], ⟨rfl, trivial⟩, ?_⟩
    dsimp only [resVal]
    exact ⟨by subst hFz; exact LL.below (Nat.le_refl _), rfl, h.lim k⟩


theorem rcmp_c {M : Nat → Prop} {w : World} {v u : Value} {xs ys : List Nat} (h1 : IsNat M w v xs) (h2 : IsNat M w u ys) (hl1 : xs.length ≤ 1099511627776) (hl2 : ys.length ≤ 1099511627776) (hM : OkM M w) :
    CallsV Try.prog 24 [v, u] w fun r w' => Below w.heap.size w w' ∧ r = .int .i64 (cmpN (val xs) (val ys)) := by
  obtain ⟨Fz, hFz⟩ : ∃ Fz : Nat → Prop, Fz = (· < w.heap.size) := ⟨_, rfl⟩
  have hF : FOk Fz w := by subst hFz; exact fun _ h => h
  have LL := Le.refl Fz M w; have hM0 := hM
  refine calls_intro Try.func24 rfl Try.ntmps24 rfl ?_
  refine SL.wp_seq ?_
  refine SL.wp_region ?_
  refine ops_assign rfl rfl ?_
  refine ops_nil ?_
  refine SL.wp_seq ?_
  refine SL.wp_seq ?_
  refine SL.wp_region ?_
  refine ops_move rfl rfl ?_
  first | refine ops_len rfl Try.underlying23 rfl ?_ | refine ops_lens rfl Try.underlying23 rfl (IsNat.slc (by assumption)) ?_ | refine ops_lenn rfl Try.underlying23 rfl (by assumption) ?_ | refine ops_leno rfl Try.underlying23 rfl (by assumption) ?_
  refine ops_move rfl rfl ?_
  first | refine ops_len rfl Try.underlying23 rfl ?_ | refine ops_lens rfl Try.underlying23 rfl (IsNat.slc (by assumption)) ?_ | refine ops_lenn rfl Try.underlying23 rfl (by assumption) ?_ | refine ops_leno rfl Try.underlying23 rfl (by assumption) ?_
  refine ops_max rfl rfl rfl ?_
  refine ops_sub rfl rfl rfl (by omega) ?_
  refine ops_assign rfl rfl ?_
  refine ops_nil ?_
  refine SL.wp_block ?_
  refine SL.wp_loopc (σ := Nat) [(0, _), (1, _)] (fun s => [(5, .int .i64 (((s : Nat) : Int) - 1))]) (fun s w1 => Le Fz M w M w1 ∧ s ≤ 1099511627776 ∧ ∀ j, s ≤ j → xs.getD j 0 = ys.getD j 0) (fun s => s) (max xs.length ys.length) (sub_cons' rfl (by congr 1; omega) (sub_cons rfl (sub_cons rfl sub_nil))) ?_ (fun s w1 hJ => ?_)
  · exact ⟨Le.refl _ _ _, by omega, fun j hj => by rw [getD_out (by omega), getD_out (by omega)]⟩
  · obtain ⟨LR, hs, hz⟩ := hJ
    replace LL := LL.trans LR
    replace hM := hM.mono LR
    replace hF := hF.mono LR
    replace h1 := h1.mono LR
    replace h2 := h2.mono LR
    refine SL.wp_seq ?_
    refine SL.wp_seq ?_
    refine SL.wp_region ?_
    refine ops_move rfl rfl ?_
    refine ops_ge rfl rfl rfl ?_
    refine ops_nil ?_
    refine SL.wp_cond_d rfl (fun hc0 => ?_) (fun hc0 => ?_)
    · refine SL.wp_skip ?_
      refine SL.wp_seq ?_
      refine SL.wp_block ?_
      refine SL.wp_seq ?_
      refine SL.wp_seq ?_
      refine SL.wp_region ?_
      refine ops_move rfl rfl ?_
      refine ops_move rfl rfl ?_
      refine ops_callv rfl bod57 rfl rfl ?_
      refine (rlimb_c (M := M) (by assumption) (s - 1) (by omega) hM).mono ?_
      rintro v18 w2 ⟨hB18, rfl, hlt18⟩
      have Lw2 := Le.of_below (Fz := Fz) (M := M) hB18
      replace LL := LL.trans Lw2
      replace LR := LR.trans Lw2
      replace hM := hM.mono Lw2
      replace hF := hF.mono Lw2
      replace h1 := h1.mono Lw2
      replace h2 := h2.mono Lw2
      refine ops_move rfl rfl ?_
      refine ops_move rfl rfl ?_
      refine ops_callv rfl bod57 rfl rfl ?_
      refine (rlimb_c (M := M) (by assumption) (s - 1) (by omega) hM).mono ?_
      rintro v21 w3 ⟨hB21, rfl, hlt21⟩
      have Lw3 := Le.of_below (Fz := Fz) (M := M) hB21
      replace LL := LL.trans Lw3
      replace LR := LR.trans Lw3
      replace hM := hM.mono Lw3
      replace hF := hF.mono Lw3
      replace h1 := h1.mono Lw3
      replace h2 := h2.mono Lw3
      refine ops_lt rfl rfl rfl ?_
      refine ops_nil ?_
      refine SL.wp_cond_d rfl (fun hc1 => ?_) (fun hc1 => ?_)
      · refine SL.wp_seq ?_
        refine SL.wp_region ?_
        refine ops_assign rfl rfl ?_
        refine ops_nil ?_
        refine SL.wp_ret ?_
        refine leave_nil ⟨[_], ⟨rfl, trivial⟩, ?_⟩
        dsimp only [resVal]
        subst hFz
        exact ⟨LL.below (Nat.le_refl _), by rw [cmpN_lt (val_lt_at h1.lt h2.lt (j := s - 1) (by omega) (fun j hj => hz j (by omega)))]⟩
      · refine SL.wp_skip ?_
        refine SL.wp_seq ?_
        refine SL.wp_region ?_
        refine ops_move rfl rfl ?_
        refine ops_move rfl rfl ?_
        refine ops_callv rfl bod57 rfl rfl ?_
        refine (rlimb_c (M := M) (by assumption) (s - 1) (by omega) hM).mono ?_
        rintro v25 w4 ⟨hB25, rfl, hlt25⟩
        have Lw4 := Le.of_below (Fz := Fz) (M := M) hB25
        replace LL := LL.trans Lw4
        replace LR := LR.trans Lw4
        replace hM := hM.mono Lw4
        replace hF := hF.mono Lw4
        replace h1 := h1.mono Lw4
        replace h2 := h2.mono Lw4
        refine ops_move rfl rfl ?_
        refine ops_move rfl rfl ?_
        refine ops_callv rfl bod57 rfl rfl ?_
        refine (rlimb_c (M := M) (by assumption) (s - 1) (by omega) hM).mono ?_
        rintro v28 w5 ⟨hB28, rfl, hlt28⟩
        have Lw5 := Le.of_below (Fz := Fz) (M := M) hB28
        replace LL := LL.trans Lw5
        replace LR := LR.trans Lw5
        replace hM := hM.mono Lw5
        replace hF := hF.mono Lw5
        replace h1 := h1.mono Lw5
        replace h2 := h2.mono Lw5
        refine ops_gt rfl rfl rfl ?_
        refine ops_nil ?_
        refine SL.wp_cond_d rfl (fun hc2 => ?_) (fun hc2 => ?_)
        · refine SL.wp_seq ?_
          refine SL.wp_region ?_
          refine ops_assign rfl rfl ?_
          refine ops_nil ?_
          refine SL.wp_ret ?_
          refine leave_nil ⟨[_], ⟨rfl, trivial⟩, ?_⟩
          dsimp only [resVal]
          subst hFz
          exact ⟨LL.below (Nat.le_refl _), by rw [cmpN_gt (val_lt_at h2.lt h1.lt (j := s - 1) (by omega) (fun j hj => (hz j (by omega)).symm))]⟩
        · refine SL.wp_skip ?_
          refine SL.wp_region ?_
          refine ops_move rfl rfl ?_
          refine ops_sub rfl rfl rfl (by omega) ?_
          refine ops_assign rfl rfl ?_
          refine ops_nil ?_
          refine ⟨rfl, s - 1, (sub_cons' rfl (by congr 1; omega) (sub_cons rfl (sub_cons rfl sub_nil))), ?_, ?_⟩
          exact ⟨LR, by omega, fun j hj => by
            rcases Nat.lt_or_ge j s with h1 | h1
            · obtain rfl : j = s - 1 := by omega
              omega
            · exact hz j h1⟩
          omega
    · refine SL.wp_exit ?_
      refine upd_hit ?_
      refine SL.wp_seq ?_
      refine SL.wp_region ?_
      refine ops_assign rfl rfl ?_
      refine ops_nil ?_
      refine SL.wp_ret ?_
      refine leave_nil ⟨[_], ⟨rfl, trivial⟩, ?_⟩
      dsimp only [resVal]
      subst hFz
      exact ⟨LL.below (Nat.le_refl _), by rw [cmpN_eq (val_eq_at (fun j => hz j (by omega)))]⟩

end Go.Proofs.Ytffakiheophioaa
