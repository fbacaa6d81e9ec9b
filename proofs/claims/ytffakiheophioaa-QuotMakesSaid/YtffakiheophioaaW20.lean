import Derived.Test.YtffakiheophioaaW17
import Derived.Test.YtffakiheophioaaSLq
import Derived.Test.YtffakiheophioaaSLp
import Derived.Test.YtffakiheophioaaSLo
import Derived.Test.YtffakiheophioaaSLn
set_option linter.unusedVariables false
set_option linter.unusedSimpArgs false
set_option maxRecDepth 100000
namespace Go.Proofs.Ytffakiheophioaa
open Go.SL Go.RowKit Go.Proofs

theorem plc68 : Plc Try.prog 68 [1, 1] := plc_of (by kernel_rfl)
theorem ext82 : ExtF Try.prog 82 add64Entry := ⟨_, Try.func82, by kernel_rfl, by kernel_rfl, by kernel_rfl, by kernel_rfl⟩
def encB (p : Nat × Nat) : List Value := [.int .i64 (p.1 : Int), .int .u32 (p.2 : Int)]


theorem back1_c {M : Nat → Prop} {w0 : World} {b : Nat} {v : Value} {xs : List Nat} (B1 : Blk w0 b 23 [v]) (n1 : ¬ M b) (h1 : IsNat M w0 v xs) (hl1 : xs.length ≤ 1099511627776) (hM : OkM M w0) :
    IterC Try.prog 79 [.pointer (some ⟨b, 0, none⟩)] M NoT w0 ((List.range xs.length).map (fun j => (xs.length - 1 - j, xs.getD (xs.length - 1 - j) 0))) encB (fun _ => True) := by
  intro n l w J X hn0 hn hdr hJ hkeep hJd hXd hy
  have B1' := B1; have h1' := h1; have hM' := hM
  replace B1 := (hkeep _ _ hJ).blk B1 n1; replace h1 := (hkeep _ _ hJ).nat h1; replace hM := (hkeep _ _ hJ).okM hM
  obtain ⟨Fz, hFz⟩ : ∃ Fz : Nat → Prop, Fz = fun _ => False := ⟨_, rfl⟩
  have hFa : ∀ w, FOk Fz w := by subst hFz; exact fun _ _ h => h.elim
  have hF := hFa w
  have LL := Le.refl Fz M w; have hM0 := hM
  refine calls_intro Try.func79 rfl Try.ntmps79 rfl ?_
  refine SL.wp_seq ?_
  refine SL.wp_region ?_
  refine ops_loadb rfl flat23 rfl B1 rfl ?_
  first | refine ops_len rfl Try.underlying23 rfl ?_ | refine ops_lens rfl Try.underlying23 rfl (IsNat.slc (by assumption)) ?_ | refine ops_lenn rfl Try.underlying23 rfl (by assumption) ?_ | refine ops_leno rfl Try.underlying23 rfl (by assumption) ?_
  refine ops_sub rfl rfl rfl (by omega) ?_
  refine ops_assign rfl rfl ?_
  refine ops_nil ?_
  refine SL.wp_block ?_
  refine SL.wp_loopc (σ := Nat) [(0, _), (1, _)] (fun s => [(3, .int .i64 ((xs.length : Int) - 1 - ((s : Nat) : Int)))]) (fun s w1 => J ((List.range s).map (fun j => (xs.length - 1 - j, xs.getD (xs.length - 1 - j) 0))) w1 ∧ n ≤ w1.heap.size ∧ s ≤ xs.length) (fun s => xs.length - s) (0) (sub_cons' rfl (by show Value.int .i64 _ = Value.int .i64 _; congr 1; omega) (sub_cons rfl (sub_cons rfl sub_nil))) ?_ (fun s w1 hJ => ?_)
  · exact ⟨hJ, hn, by omega⟩
  · obtain ⟨hJ1, hn1, hs⟩ := hJ
    have hk := hkeep _ _ hJ1
    replace B1 := hk.blk B1' n1; replace h1 := hk.nat h1'; replace hM := hk.okM hM'
    have hF := hFa w1
    have LL := Le.refl Fz M w1
    have hBJ := Below.refl w1.heap.size w1
    refine SL.wp_seq ?_
    refine SL.wp_seq ?_
    refine SL.wp_region ?_
    refine ops_move rfl rfl ?_
    refine ops_ge rfl rfl rfl ?_
    refine ops_nil ?_
    refine SL.wp_cond_d rfl (fun hc0 => ?_) (fun hc0 => ?_)
    · have hs2 : s < xs.length := by omega
      have hb1 := h1.lim (xs.length - 1 - s)
      have hev : encB (xs.length - 1 - s, xs.getD (xs.length - 1 - s) 0) = [.int .i64 ((xs.length : Int) - 1 - (s : Int)), lw (xs.getD (xs.length - 1 - s) 0)] := by unfold encB lw; congr 2; dsimp only; omega
      refine SL.wp_skip ?_
      refine SL.wp_seq ?_
      refine SL.wp_block ?_
      refine SL.wp_seq ?_
      refine SL.wp_region ?_
      refine ops_move rfl rfl ?_
      refine ops_move rfl rfl ?_
      refine ops_loadb rfl flat23 rfl B1 rfl ?_
      refine ops_move rfl rfl ?_
      refine ops_idxn (xs.length - 1 - s) rfl Try.underlying23 sz43 rfl rfl (by assumption) (by omega) (by omega) (fun b15 o15 hc15 hb15 => ?_)
      refine ops_load rfl flat43 rfl hc15 ?_
      refine ops_yield rfl rfl rfl ?_
      rw [← hev]
      refine (hy _ _ _ _ ((rng_at _ hs2).choose_spec) (hJd _ _ _ hJ1 (Drift.of_below hBJ hn1)) (Nat.le_trans hn1 hBJ.size)).mono ?_
      rintro v17 w2 ⟨hn2, _, hyn⟩
      refine ops_not rfl rfl ?_
      refine ops_nil ?_
      refine SL.wp_cond rfl (fun hc1 => ?_) (fun hc1 => ?_)
      · refine SL.wp_ret ?_
        refine leave_nil ⟨[], trivial, ?_⟩
        dsimp only [resVal]
        right
        rcases hyn with ⟨e, _⟩ | ⟨_, h⟩
        · subst e; simp at hc1
        · exact h
      · refine SL.wp_skip ?_
        refine SL.wp_region ?_
        refine ops_move rfl rfl ?_
        refine ops_sub rfl rfl rfl (by omega) ?_
        refine ops_assign rfl rfl ?_
        refine ops_nil ?_
        refine ⟨rfl, s + 1, (sub_cons' rfl (by show Value.int .i64 _ = Value.int .i64 _; congr 1; omega) (sub_cons rfl (sub_cons rfl sub_nil))), ?_, ?_⟩
        exact ⟨by
          rw [rng_next]
          rcases hyn with ⟨_, h⟩ | ⟨e, _⟩
          · exact h
          · subst e; simp at hc1, hn2, by omega⟩
        omega
    · refine SL.wp_exit ?_
      refine upd_hit ?_
      refine leave_nil ⟨[], trivial, ?_⟩
      dsimp only [resVal]
      left
      obtain rfl : s = xs.length := by omega
      exact ⟨hJ1, trivial⟩


theorem back_c {M : Nat → Prop} {w : World} {v : Value} {xs : List Nat} (h1 : IsNat M w v xs) (hl1 : xs.length ≤ 1099511627776) (hM : OkM M w) :
    CallsV Try.prog 72 [v] w fun r w' => Below w.heap.size w w' ∧ ∃ cap, r = .func (.func 79) #[] cap ∧ IterC Try.prog 79 cap.toList M NoT w' ((List.range xs.length).map (fun j => (xs.length - 1 - j, xs.getD (xs.length - 1 - j) 0))) encB (fun _ => True) := by
  obtain ⟨Fz, hFz⟩ : ∃ Fz : Nat → Prop, Fz = (· < w.heap.size) := ⟨_, rfl⟩
  have hF : FOk Fz w := by subst hFz; exact fun _ h => h
  have LL := Le.refl Fz M w; have hM0 := hM
  refine calls_intro Try.func72 rfl Try.ntmps72 rfl ?_
  refine SL.wp_seq ?_
  refine SL.wp_region ?_
  refine ops_box rfl rfl (fun w1 b1 N1 => ?_)
  have hBw1 := N1.below
  have nF1 := hF.new N1; have nM1 := hM.new N1
  have Lw1 := Le.of_new (Fz := Fz) (M := M) N1
  replace LL := LL.trans Lw1
  replace hM := hM.mono Lw1
  replace hF := hF.mono Lw1
  replace h1 := h1.mono Lw1
  have B1 := N1.blk
  rw [h1.one] at B1
  refine ops_assign rfl rfl ?_
  refine ops_nil ?_
  refine SL.wp_seq ?_
  refine SL.wp_region ?_
  refine ops_makeFunc rfl rfl ?_
  refine ops_assign rfl rfl ?_
  refine ops_nil ?_
  refine SL.wp_ret ?_
  refine leave_nil ⟨[_], ⟨rfl, trivial⟩, ?_⟩
  dsimp only [resVal]
  subst hFz
  refine ⟨LL.below (Nat.le_refl _), _, rfl, ?_⟩
  exact back1_c B1 (fun c => nM1 c) (h1.less fun k c => ins_there c) hl1 (fun k c => hM k (ins_there c))


theorem short_c {M : Nat → Prop} {w : World} {v : Value} {xs : List Nat} {n : Nat} (h1 : IsNat M w v xs) (hl1 : xs.length ≤ 1000000000) (hn : n < 4294967296) (hM : OkM M w) :
    CallsV Try.prog 53 [v, .int .u32 (n : Int)] w fun r w' => Below w.heap.size w w' ∧ ∃ q, r = .tuple #[q, .int .u32 ((if n = 0 then 0 else val xs % n : Nat) : Int), .int .i64 (if n = 0 then 30 else 0)] ∧ Fresh 43 w w' q (limbs (val xs / n)) := by
  obtain ⟨Fz, hFz⟩ : ∃ Fz : Nat → Prop, Fz = (· < w.heap.size) := ⟨_, rfl⟩
  have hF : FOk Fz w := by subst hFz; exact fun _ h => h
  have LL := Le.refl Fz M w; have hM0 := hM
  have Mk : Marks M w.heap.size [] w := marks_nil
  refine calls_intro Try.func53 rfl Try.ntmps53 rfl ?_
  refine SL.wp_seq ?_
  refine SL.wp_region ?_
  refine ops_box rfl rfl (fun w1 b3 N3 => ?_)
  have hBw1 := N3.below
  have nF3 := hF.new N3; have nM3 := hM.new N3
  have Lw1 := Le.of_new (Fz := Fz) (M := M) N3
  replace LL := LL.trans Lw1
  replace hM := hM.mono Lw1
  replace hF := hF.mono Lw1
  replace h1 := h1.mono Lw1
  replace Mk := Mk.mono Lw1
  have B3 := N3.blk
  refine ops_alloc rfl sz23 (fun w2 b4 N4 => ?_)
  have hBw2 := N4.below
  have nF4 := hF.new N4; have nM4 := hM.new N4
  have Lw2 := Le.of_new (Fz := Fz) (M := (Ins b3 M)) N4
  have lt3_4 := B3.lt; replace B3 := B3.below hBw2; have ne3_4 : b3 ≠ b4 := by have := N4.at_; omega
  replace LL := LL.trans Lw2
  replace hM := hM.mono Lw2
  replace hF := hF.mono Lw2
  replace h1 := h1.mono Lw2
  replace Mk := Mk.mono Lw2
  have B4 := N4.blk
  refine ops_assign rfl rfl ?_
  refine ops_assign rfl rfl ?_
  refine ops_nil ?_
  refine SL.wp_seq ?_
  refine SL.wp_seq ?_
  refine SL.wp_region ?_
  refine ops_loadb rfl flat43 rfl B3 rfl ?_
  refine ops_eq rfl rfl rfl ?_
  refine ops_nil ?_
  refine SL.wp_cond_d rfl (fun hc0 => ?_) (fun hc0 => ?_)
  · have hn0 : n = 0 := by omega
    refine SL.wp_seq ?_
    refine SL.wp_region ?_
    refine ops_store1 rfl rfl sz23 B4 (by first | rfl | exact own_one (by assumption) | exact nat_one (by assumption)) (fun w3 Cw3 Bw3 => ?_)
    have Lw3 := Le.of_chg (Fz := Fz) (M := (Ins b4 (Ins b3 M))) Cw3 ins_here nF4
    replace LL := LL.trans Lw3
    replace hM := hM.mono Lw3
    replace hF := hF.mono Lw3
    replace h1 := h1.mono Lw3
    replace Mk := Mk.mono Lw3
    replace B3 := B3.other Cw3 ne3_4
    clear B4; have B4 := Bw3; clear Bw3
    refine ops_assign rfl rfl ?_
    refine ops_assign rfl rfl ?_
    refine ops_nil ?_
    refine SL.wp_ret ?_
    refine leave_marks Mk (fun wz hz => ⟨[_, _, _], ⟨⟨_, rfl, load_blk flat23 (B4.drift hz (fun c => c)) rfl⟩, rfl, rfl, trivial⟩, ?_⟩)
    dsimp only [resVal]
    subst hFz; subst hn0
    exact ⟨SL.Below.drift (LL.below (Nat.le_refl _)) hz (Nat.le_refl _), .slice none 0 0, by simp, by rw [Nat.div_zero, limbs_zero]; exact Fresh.nil⟩
  · have hn0 : 0 < n := by omega
    refine SL.wp_skip ?_
    refine SL.wp_seq ?_
    refine SL.wp_region ?_
    refine ops_move rfl rfl ?_
    first | refine ops_len rfl Try.underlying23 rfl ?_ | refine ops_lens rfl Try.underlying23 rfl (IsNat.slc (by assumption)) ?_ | refine ops_lenn rfl Try.underlying23 rfl (by assumption) ?_ | refine ops_leno rfl Try.underlying23 rfl (by assumption) ?_
    refine ops_make (xs.length) (xs.length) rfl Try.underlying23 sz43 rfl rfl rfl (by omega) (by omega) (by omega) (by omega) (by omega) (fun w4 b14 N14 => ?_)
    have hBw4 := N14.below
    have nF14 := hF.new N14; have nM14 := hM.new N14
    have Lw4 := Le.of_new (Fz := Fz) (M := (Ins b4 (Ins b3 M))) N14
    have lt3_14 := B3.lt; replace B3 := B3.below hBw4; have ne3_14 : b3 ≠ b14 := by have := N14.at_; omega
    have lt4_14 := B4.lt; replace B4 := B4.below hBw4; have ne4_14 : b4 ≠ b14 := by have := N14.at_; omega
    replace LL := LL.trans Lw4
    replace hM := hM.mono Lw4
    replace hF := hF.mono Lw4
    replace h1 := h1.mono Lw4
    replace Mk := Mk.mono Lw4
    have B14 := N14.blk
    replace B14 : Blk w4 b14 43 ((List.replicate xs.length 0).map lw) := by simpa [lw] using B14
    refine ops_store1 rfl rfl sz23 B4 (by first | rfl | exact own_one (by assumption) | exact nat_one (by assumption)) (fun w5 Cw5 Bw5 => ?_)
    have Lw5 := Le.of_chg (Fz := Fz) (M := (Ins b14 (Ins b4 (Ins b3 M)))) Cw5 (.inr ins_here) nF4
    replace LL := LL.trans Lw5
    replace hM := hM.mono Lw5
    replace hF := hF.mono Lw5
    replace h1 := h1.mono Lw5
    replace Mk := Mk.mono Lw5
    replace B3 := B3.other Cw5 ne3_4
    replace B14 := B14.other Cw5 ne4_14.symm
    clear B4; have B4 := Bw5; clear Bw5
    refine ops_nil ?_
    refine SL.wp_seq ?_
    refine SL.wp_region ?_
    refine ops_alloc rfl sz25 (fun w6 b7 N7 => ?_)
    have hBw6 := N7.below
    have nF7 := hF.new N7; have nM7 := hM.new N7
    have Lw6 := Le.of_new (Fz := Fz) (M := (Ins b14 (Ins b4 (Ins b3 M)))) N7
    have lt3_7 := B3.lt; replace B3 := B3.below hBw6; have ne3_7 : b3 ≠ b7 := by have := N7.at_; omega
    have lt4_7 := B4.lt; replace B4 := B4.below hBw6; have ne4_7 : b4 ≠ b7 := by have := N7.at_; omega
    have lt14_7 := B14.lt; replace B14 := B14.below hBw6; have ne7_14 : b7 ≠ b14 := by have := N7.at_; omega
    replace LL := LL.trans Lw6
    replace hM := hM.mono Lw6
    replace hF := hF.mono Lw6
    replace h1 := h1.mono Lw6
    replace Mk := Mk.mono Lw6
    have B7 := N7.blk
    refine ops_store1 rfl rfl sz25 B7 (by first | rfl | exact own_one (by assumption) | exact nat_one (by assumption)) (fun w7 Cw7 Bw7 => ?_)
    have Lw7 := Le.of_chg (Fz := Fz) (M := (Ins b7 (Ins b14 (Ins b4 (Ins b3 M))))) Cw7 ins_here nF7
    replace LL := LL.trans Lw7
    replace hM := hM.mono Lw7
    replace hF := hF.mono Lw7
    replace h1 := h1.mono Lw7
    replace Mk := Mk.mono Lw7
    replace B3 := B3.other Cw7 ne3_7
    replace B4 := B4.other Cw7 ne4_7
    replace B14 := B14.other Cw7 ne7_14.symm
    clear B7; have B7 := Bw7; clear Bw7
    refine ops_nil ?_
    refine SL.wp_seq ?_
    refine SL.wp_seq ?_
    refine SL.wp_region ?_
    refine ops_move rfl rfl ?_
    refine ops_callv rfl bod72 rfl rfl ?_
    refine (back_c (M := (Ins b7 (Ins b14 (Ins b4 (Ins b3 M))))) (by assumption) (by omega) hM).mono ?_
    rintro v16 w8 ⟨hB16, cap16, rfl, hit16⟩
    have Lw8 := Le.of_below (Fz := Fz) (M := (Ins b7 (Ins b14 (Ins b4 (Ins b3 M))))) hB16
    replace LL := LL.trans Lw8
    replace hM := hM.mono Lw8
    replace hF := hF.mono Lw8
    replace h1 := h1.mono Lw8
    replace Mk := Mk.mono Lw8
    replace B3 := B3.below hB16
    replace B4 := B4.below hB16
    replace B14 := B14.below hB16
    replace B7 := B7.below hB16
    refine ops_nil ?_
    refine SL.wp_block ?_
    have hMS0 := hM
    have hszLL := LL.size
    have Mold0 := Mk.old (Nat.le_refl _)
    refine SL.wp_range (M := (Ins b7 (Ins b14 (Ins b4 (Ins b3 M))))) (T := NoT) ((List.range xs.length).map (fun j => (xs.length - 1 - j, xs.getD (xs.length - 1 - j) 0))) (encB) rfl bod79 (hit16) noT (trivial) (fun _ => rfl) rfl [(3, _), (4, _), (7, _)] (sub_cons rfl (sub_cons rfl (sub_cons rfl sub_nil))) (fun pre w9 => Le Fz (Ins b7 (Ins b14 (Ins b4 (Ins b3 M)))) w8 (Ins b7 (Ins b14 (Ins b4 (Ins b3 M)))) w9 ∧ Blk w9 b3 43 [.int .u32 (n : Int)] ∧ Blk w9 b4 23 [.slice (some ⟨b14, 0, none⟩) xs.length xs.length] ∧ ∃ (o : Nat) (zs : List Nat), Blk w9 b7 25 [.int .u64 (o : Int)] ∧ Blk w9 b14 43 (zs.map lw) ∧ zs.length = xs.length ∧ (∀ z ∈ zs, z < 4294967296) ∧ o = val (xs.drop (xs.length - pre.length)) % n ∧ val zs = 4294967296 ^ (xs.length - pre.length) * (val (xs.drop (xs.length - pre.length)) / n) ∧ ∀ j, j < xs.length - pre.length → zs.getD j 0 = 0) (fun _ _ => False) (fun _ => False) (⟨Le.refl _ _ _, B3, B4, 0, _, B7, B14, by simp, by intro z hz; have := (List.mem_replicate.1 hz).2; omega, by simp [val], by simp [val, val_zeros], fun j _ => by simp [List.getD_eq_getElem?_getD, List.getElem?_replicate]; split <;> rfl⟩) (fun pre w h => h.1.keep) (fun pre w1 w2 hJ hd => (by obtain ⟨h1, h2, h3, o, zs, h4, h5, h6⟩ := hJ; exact ⟨h1.drift0 hd (Nat.le_refl _), h2.drift hd (fun c => c), h3.drift hd (fun c => c), o, zs, h4.drift hd (fun c => c), h5.drift hd (fun c => c), h6⟩)) (fun _ _ _ h _ => h) (fun _ _ h _ => h) (fun _ _ _ _ => trivial) ?_ ?_ (fun _ _ h _ => h.elim) (fun _ h _ => h.elim)
    · intro pre x post l b w9 ρ δ hx hJ hnl hnb hl hb hbc
      obtain ⟨LS0, B3, B4, o, zs, B7, B14, hzl, hzlt, ho, hzv, hz0⟩ := hJ
      replace LL := LL.trans LS0
      replace hM := hM.mono LS0
      replace hF := hF.mono LS0
      replace h1 := h1.mono LS0
      replace Mk := Mk.mono LS0
      have RL : Rec (Ins b7 (Ins b14 (Ins b4 (Ins b3 M)))) w9 l (.loop ρ) := ⟨hl, (not_old hMS0 hnl)⟩
      have RB : Rec (Ins b7 (Ins b14 (Ins b4 (Ins b3 M)))) w9 b δ := ⟨hb, (not_old hMS0 hnb)⟩
      have hs1 : w9.heap.size ≤ w9.heap.size := Nat.le_refl _
      obtain ⟨hk, hxe⟩ := rng_split hx
      have hx1 : x.1 = xs.length - 1 - pre.length := by rw [hxe]
      have hx2 : x.2 = xs.getD x.1 0 := by rw [hx1, hxe]
      have hxb : x.2 < 4294967296 := by rw [hx2]; exact h1.lim _
      have hon : o < n := by rw [ho]; exact Nat.mod_lt _ hn0
      have hov : (o * 2 ^ (32 : Int).toNat % 18446744073709551616 ||| x.2) = o * 4294967296 + x.2 := by
        have e : (2 : Nat) ^ (32 : Int).toNat = 4294967296 := by decide
        rw [e, Nat.mod_eq_of_lt (by omega), or_hi _ _ (by omega)]
      rw [show xs.length - pre.length = x.1 + 1 by omega] at ho hzv hz0
      have hst := short_step hn0 hxb ho hzv
      rw [show x.2 + 4294967296 * val (xs.drop (x.1 + 1)) = val (xs.drop x.1) by rw [drop_val (show x.1 < xs.length by omega), hx2]] at hst
      refine SL.wp_seq ?_
      refine SL.wp_region ?_
      refine ops_assign rfl rfl ?_
      refine ops_nil ?_
      refine SL.wp_region ?_
      refine ops_assign rfl rfl ?_
      refine ops_nil ?_
      refine ⟨RL.at_, RB.at_, rfl, fun w10 ρ' δ' hdr hl' hb' hbc' => ?_⟩
      replace LL := LL.drift0 hdr hszLL
      replace LS0 := LS0.drift0 hdr (Nat.le_refl _)
      replace hM := hM.drift hdr; replace hF := hF.drift hdr; replace hs1 := Nat.le_trans hs1 hdr.size
      replace h1 := h1.drift hdr noT
      replace RL : Rec (Ins b7 (Ins b14 (Ins b4 (Ins b3 M)))) w10 l (.loop ρ') := ⟨hl', RL.not⟩; replace RB : Rec (Ins b7 (Ins b14 (Ins b4 (Ins b3 M)))) w10 b δ' := ⟨hb', RB.not⟩
      replace B3 := B3.drift hdr (fun c => c)
      replace B4 := B4.drift hdr (fun c => c)
      replace B7 := B7.drift hdr (fun c => c)
      replace B14 := B14.drift hdr (fun c => c)
      refine SL.wp_block ?_
      refine SL.wp_seq ?_
      refine SL.wp_region ?_
      refine ops_loadb rfl flat25 rfl B7 rfl ?_
      refine ops_shlu (m := 18446744073709551616) rfl rfl rfl (by simp only [IntKind.bits]; omega) rfl (.inl rfl) ?_
      refine ops_move rfl rfl ?_
      refine ops_to64 rfl Try.underlying43 Try.underlying25 rfl (by omega) ?_
      refine ops_oru rfl rfl rfl (by simp only [IntKind.bits]; omega) (by simp only [IntKind.bits]; omega) (.inl rfl) ?_
      refine ops_store1 rfl rfl sz25 B7 (by first | rfl | exact own_one (by assumption) | exact nat_one (by assumption)) (fun w11 Cw11 Bw11 => ?_)
      have Lw11 := Le.of_chg (Fz := Fz) (M := (Ins b7 (Ins b14 (Ins b4 (Ins b3 M))))) Cw11 ins_here nF7
      replace LL := LL.trans Lw11
      replace LS0 := LS0.trans Lw11
      replace hM := hM.mono Lw11
      replace hF := hF.mono Lw11
      replace h1 := h1.mono Lw11
      replace RL := RL.mono Lw11
      replace RB := RB.mono Lw11
      replace hs1 := Nat.le_trans hs1 Lw11.size
      replace B3 := B3.other Cw11 ne3_7
      replace B4 := B4.other Cw11 ne4_7
      replace B14 := B14.other Cw11 ne7_14.symm
      clear B7; have B7 := Bw11; clear Bw11
      replace B7 : Blk w11 b7 25 [.int .u64 ((o * 4294967296 + x.2 : Nat) : Int)] := by rw [← hov]; exact B7
      refine ops_nil ?_
      refine SL.wp_draw (R := Rs (· = b14)) (R' := Rb) (st := some (12, (fun w => Blk w b14 43 (zs.map lw)), (fun w => Blk w b14 43 ((zs.set x.1 ((o * 4294967296 + x.2) / n % 4294967296)).map lw)))) mixed 13 [3, 4, 7, 8, 9, 17, 18, 19, 20, 21, 22, 23, 24, 25, 26, 27, 28, 29, 30, 31, 32, 33, 34, 35] (by decide +kernel) rs_trans rs_rb (rs_drew _) (fun _ _ _ h => by cases h; exact ⟨by decide, B14, fun _ _ h r => h.below r, fun _ _ h r => h.below r, _, rfl⟩) ?_
      apply drs_exs rfl
      · intro wq hR hst
        refine obl_e rfl rfl ?_
        refine obl_done ?_
        have Lq := Le.of_rs (Fz := Fz) (M := (Ins b7 (Ins b14 (Ins b4 (Ins b3 M))))) hR (by rintro _ rfl; exact (.inr ins_here)) (by rintro _ rfl; exact nF14)
        replace LL := LL.trans Lq
        replace LS0 := LS0.trans Lq
        replace hM := hM.mono Lq
        replace hF := hF.mono Lq
        replace h1 := h1.mono Lq
        replace RL := RL.mono Lq
        replace RB := RB.mono Lq
        replace hs1 := Nat.le_trans hs1 Lq.size
        replace B3 := B3.rs hR ne3_14
        replace B4 := B4.rs hR ne4_14
        replace B7 := B7.rs hR ne7_14
        refine ops_loadb rfl flat23 rfl B4 rfl ?_
        exact ops_nil ⟨rfl, rb_refl _, _, rfl, rfl⟩
      apply drs_exs rfl
      · intro wq hR hst
        refine obl_e rfl rfl ?_
        refine obl_done ?_
        have Lq := Le.of_rs (Fz := Fz) (M := (Ins b7 (Ins b14 (Ins b4 (Ins b3 M))))) hR (by rintro _ rfl; exact (.inr ins_here)) (by rintro _ rfl; exact nF14)
        replace LL := LL.trans Lq
        replace LS0 := LS0.trans Lq
        replace hM := hM.mono Lq
        replace hF := hF.mono Lq
        replace h1 := h1.mono Lq
        replace RL := RL.mono Lq
        replace RB := RB.mono Lq
        replace hs1 := Nat.le_trans hs1 Lq.size
        replace B3 := B3.rs hR ne3_14
        replace B4 := B4.rs hR ne4_14
        replace B7 := B7.rs hR ne7_14
        refine ops_move rfl rfl ?_
        exact ops_nil ⟨rfl, rb_refl _, _, rfl, rfl⟩
      apply drs_exs rfl
      · intro wq hR hst
        refine obl_e rfl rfl ?_
        refine obl_done ?_
        have Lq := Le.of_rs (Fz := Fz) (M := (Ins b7 (Ins b14 (Ins b4 (Ins b3 M))))) hR (by rintro _ rfl; exact (.inr ins_here)) (by rintro _ rfl; exact nF14)
        replace LL := LL.trans Lq
        replace LS0 := LS0.trans Lq
        replace hM := hM.mono Lq
        replace hF := hF.mono Lq
        replace h1 := h1.mono Lq
        replace RL := RL.mono Lq
        replace RB := RB.mono Lq
        replace hs1 := Nat.le_trans hs1 Lq.size
        replace B3 := B3.rs hR ne3_14
        replace B4 := B4.rs hR ne4_14
        replace B7 := B7.rs hR ne7_14
        refine ops_loadb rfl flat25 rfl B7 rfl ?_
        exact ops_nil ⟨rfl, rb_refl _, _, rfl, rfl⟩
      apply drs_exs rfl
      · intro wq hR hst
        refine obl_e rfl rfl ?_
        refine obl_done ?_
        have Lq := Le.of_rs (Fz := Fz) (M := (Ins b7 (Ins b14 (Ins b4 (Ins b3 M))))) hR (by rintro _ rfl; exact (.inr ins_here)) (by rintro _ rfl; exact nF14)
        replace LL := LL.trans Lq
        replace LS0 := LS0.trans Lq
        replace hM := hM.mono Lq
        replace hF := hF.mono Lq
        replace h1 := h1.mono Lq
        replace RL := RL.mono Lq
        replace RB := RB.mono Lq
        replace hs1 := Nat.le_trans hs1 Lq.size
        replace B3 := B3.rs hR ne3_14
        replace B4 := B4.rs hR ne4_14
        replace B7 := B7.rs hR ne7_14
        refine ops_loadb rfl flat43 rfl B3 rfl ?_
        exact ops_nil ⟨rfl, rb_refl _, _, rfl, rfl⟩
      apply drs_exs rfl
      · intro wq hR hst
        refine obl_x rfl ?_
        refine obl_done ?_
        have Lq := Le.of_rs (Fz := Fz) (M := (Ins b7 (Ins b14 (Ins b4 (Ins b3 M))))) hR (by rintro _ rfl; exact (.inr ins_here)) (by rintro _ rfl; exact nF14)
        replace LL := LL.trans Lq
        replace LS0 := LS0.trans Lq
        replace hM := hM.mono Lq
        replace hF := hF.mono Lq
        replace h1 := h1.mono Lq
        replace RL := RL.mono Lq
        replace RB := RB.mono Lq
        replace hs1 := Nat.le_trans hs1 Lq.size
        replace B3 := B3.rs hR ne3_14
        replace B4 := B4.rs hR ne4_14
        replace B7 := B7.rs hR ne7_14
        refine ops_to64 rfl Try.underlying43 Try.underlying25 rfl (by omega) ?_
        exact ops_nil ⟨rfl, rb_refl _, _, rfl, rfl⟩
      apply drs_exs rfl
      · intro wq hR hst
        refine obl_x rfl ?_
        refine obl_x rfl ?_
        refine obl_done ?_
        have Lq := Le.of_rs (Fz := Fz) (M := (Ins b7 (Ins b14 (Ins b4 (Ins b3 M))))) hR (by rintro _ rfl; exact (.inr ins_here)) (by rintro _ rfl; exact nF14)
        replace LL := LL.trans Lq
        replace LS0 := LS0.trans Lq
        replace hM := hM.mono Lq
        replace hF := hF.mono Lq
        replace h1 := h1.mono Lq
        replace RL := RL.mono Lq
        replace RB := RB.mono Lq
        replace hs1 := Nat.le_trans hs1 Lq.size
        replace B3 := B3.rs hR ne3_14
        replace B4 := B4.rs hR ne4_14
        replace B7 := B7.rs hR ne7_14
        refine ops_quou rfl rfl rfl (by omega) (by omega) ?_
        exact ops_nil ⟨rfl, rb_refl _, _, rfl, rfl⟩
      apply drs_exs rfl
      · intro wq hR hst
        refine obl_x rfl ?_
        refine obl_done ?_
        have Lq := Le.of_rs (Fz := Fz) (M := (Ins b7 (Ins b14 (Ins b4 (Ins b3 M))))) hR (by rintro _ rfl; exact (.inr ins_here)) (by rintro _ rfl; exact nF14)
        replace LL := LL.trans Lq
        replace LS0 := LS0.trans Lq
        replace hM := hM.mono Lq
        replace hF := hF.mono Lq
        replace h1 := h1.mono Lq
        replace RL := RL.mono Lq
        replace RB := RB.mono Lq
        replace hs1 := Nat.le_trans hs1 Lq.size
        replace B3 := B3.rs hR ne3_14
        replace B4 := B4.rs hR ne4_14
        replace B7 := B7.rs hR ne7_14
        refine ops_to32 rfl Try.underlying25 Try.underlying43 rfl ?_
        exact ops_nil ⟨rfl, rb_refl _, _, rfl, rfl⟩
      apply drs_exs rfl
      · intro wq hR hst
        refine obl_e rfl rfl ?_
        refine obl_done ?_
        have Lq := Le.of_rs (Fz := Fz) (M := (Ins b7 (Ins b14 (Ins b4 (Ins b3 M))))) hR (by rintro _ rfl; exact (.inr ins_here)) (by rintro _ rfl; exact nF14)
        replace LL := LL.trans Lq
        replace LS0 := LS0.trans Lq
        replace hM := hM.mono Lq
        replace hF := hF.mono Lq
        replace h1 := h1.mono Lq
        replace RL := RL.mono Lq
        replace RB := RB.mono Lq
        replace hs1 := Nat.le_trans hs1 Lq.size
        replace B3 := B3.rs hR ne3_14
        replace B4 := B4.rs hR ne4_14
        replace B7 := B7.rs hR ne7_14
        refine ops_loadb rfl flat25 rfl B7 rfl ?_
        exact ops_nil ⟨rfl, rb_refl _, _, rfl, rfl⟩
      apply drs_exs rfl
      · intro wq hR hst
        refine obl_e rfl rfl ?_
        refine obl_done ?_
        have Lq := Le.of_rs (Fz := Fz) (M := (Ins b7 (Ins b14 (Ins b4 (Ins b3 M))))) hR (by rintro _ rfl; exact (.inr ins_here)) (by rintro _ rfl; exact nF14)
        replace LL := LL.trans Lq
        replace LS0 := LS0.trans Lq
        replace hM := hM.mono Lq
        replace hF := hF.mono Lq
        replace h1 := h1.mono Lq
        replace RL := RL.mono Lq
        replace RB := RB.mono Lq
        replace hs1 := Nat.le_trans hs1 Lq.size
        replace B3 := B3.rs hR ne3_14
        replace B4 := B4.rs hR ne4_14
        replace B7 := B7.rs hR ne7_14
        refine ops_loadb rfl flat43 rfl B3 rfl ?_
        exact ops_nil ⟨rfl, rb_refl _, _, rfl, rfl⟩
      apply drs_exs rfl
      · intro wq hR hst
        refine obl_x rfl ?_
        refine obl_done ?_
        have Lq := Le.of_rs (Fz := Fz) (M := (Ins b7 (Ins b14 (Ins b4 (Ins b3 M))))) hR (by rintro _ rfl; exact (.inr ins_here)) (by rintro _ rfl; exact nF14)
        replace LL := LL.trans Lq
        replace LS0 := LS0.trans Lq
        replace hM := hM.mono Lq
        replace hF := hF.mono Lq
        replace h1 := h1.mono Lq
        replace RL := RL.mono Lq
        replace RB := RB.mono Lq
        replace hs1 := Nat.le_trans hs1 Lq.size
        replace B3 := B3.rs hR ne3_14
        replace B4 := B4.rs hR ne4_14
        replace B7 := B7.rs hR ne7_14
        refine ops_to64 rfl Try.underlying43 Try.underlying25 rfl (by omega) ?_
        exact ops_nil ⟨rfl, rb_refl _, _, rfl, rfl⟩
      apply drs_exs rfl
      · intro wq hR hst
        refine obl_x rfl ?_
        refine obl_x rfl ?_
        refine obl_done ?_
        have Lq := Le.of_rs (Fz := Fz) (M := (Ins b7 (Ins b14 (Ins b4 (Ins b3 M))))) hR (by rintro _ rfl; exact (.inr ins_here)) (by rintro _ rfl; exact nF14)
        replace LL := LL.trans Lq
        replace LS0 := LS0.trans Lq
        replace hM := hM.mono Lq
        replace hF := hF.mono Lq
        replace h1 := h1.mono Lq
        replace RL := RL.mono Lq
        replace RB := RB.mono Lq
        replace hs1 := Nat.le_trans hs1 Lq.size
        replace B3 := B3.rs hR ne3_14
        replace B4 := B4.rs hR ne4_14
        replace B7 := B7.rs hR ne7_14
        refine ops_remu rfl rfl rfl (by omega) ?_
        exact ops_nil ⟨rfl, rb_refl _, _, rfl, rfl⟩
      apply drs_exs rfl
      · intro wq hR hst
        refine obl_x rfl ?_
        refine obl_x rfl ?_
        refine obl_done ?_
        have Lq := Le.of_rs (Fz := Fz) (M := (Ins b7 (Ins b14 (Ins b4 (Ins b3 M))))) hR (by rintro _ rfl; exact (.inr ins_here)) (by rintro _ rfl; exact nF14)
        replace LL := LL.trans Lq
        replace LS0 := LS0.trans Lq
        replace hM := hM.mono Lq
        replace hF := hF.mono Lq
        replace h1 := h1.mono Lq
        replace RL := RL.mono Lq
        replace RB := RB.mono Lq
        replace hs1 := Nat.le_trans hs1 Lq.size
        replace B3 := B3.rs hR ne3_14
        replace B4 := B4.rs hR ne4_14
        replace B7 := B7.rs hR ne7_14
        refine ops_idxb0 (x.1) rfl Try.underlying23 sz43 rfl rfl rfl (by omega) ?_
        exact ops_nil ⟨rfl, rb_refl _, _, rfl, rfl⟩
      refine drs_eff rfl (fun wq hR hp => ?_) ?_
      · refine obl_x rfl ?_
        refine obl_x rfl ?_
        refine obl_done ?_
        have Lq := Le.of_rs (Fz := Fz) (M := (Ins b7 (Ins b14 (Ins b4 (Ins b3 M))))) hR (by rintro _ rfl; exact (.inr ins_here)) (by rintro _ rfl; exact nF14)
        replace LL := LL.trans Lq
        replace LS0 := LS0.trans Lq
        replace hM := hM.mono Lq
        replace hF := hF.mono Lq
        replace h1 := h1.mono Lq
        replace RL := RL.mono Lq
        replace RB := RB.mono Lq
        replace hs1 := Nat.le_trans hs1 Lq.size
        replace B3 := B3.rs hR ne3_14
        replace B4 := B4.rs hR ne4_14
        replace B7 := B7.rs hR ne7_14
        replace B14 := hp
        refine ops_storei (i := x.1) rfl rfl sz43 B14 rfl (by simp; omega) (fun wz C14 BN => ?_)
        exact ops_nil ⟨rfl, rs_chg C14, by rw [List.map_set]; exact BN⟩
      refine drs_nil (fun wq9 hR9 hpost9 => ?_)
      refine obl_e rfl rfl ?_
      refine obl_e rfl rfl ?_
      refine obl_e rfl rfl ?_
      refine obl_e rfl rfl ?_
      refine obl_e rfl rfl ?_
      refine obl_e rfl rfl ?_
      refine obl_e rfl rfl ?_
      refine obl_e rfl rfl ?_
      refine obl_e rfl rfl ?_
      refine obl_e rfl rfl ?_
      refine obl_e rfl rfl ?_
      refine obl_e rfl rfl ?_
      refine obl_x rfl ?_
      refine obl_x rfl ?_
      refine obl_x rfl ?_
      refine obl_x rfl ?_
      refine obl_x rfl ?_
      refine obl_x rfl ?_
      refine obl_x rfl ?_
      refine obl_x rfl ?_
      refine obl_x rfl ?_
      refine obl_x rfl ?_
      refine obl_x rfl ?_
      refine obl_x rfl ?_
      refine obl_done ?_
      simp only [List.drop_succ_cons, List.drop_zero, List.drop_nil, List.toList_toArray]
      have Lq := Le.of_rs (Fz := Fz) (M := (Ins b7 (Ins b14 (Ins b4 (Ins b3 M))))) hR9 (by rintro _ rfl; exact (.inr ins_here)) (by rintro _ rfl; exact nF14)
      replace LL := LL.trans Lq
      replace LS0 := LS0.trans Lq
      replace hM := hM.mono Lq
      replace hF := hF.mono Lq
      replace h1 := h1.mono Lq
      replace RL := RL.mono Lq
      replace RB := RB.mono Lq
      replace hs1 := Nat.le_trans hs1 Lq.size
      replace B3 := B3.rs hR9 ne3_14
      replace B4 := B4.rs hR9 ne4_14
      replace B7 := B7.rs hR9 ne7_14
      have B14 := hpost9 _ _ _ rfl
      refine ops_store1 rfl rfl sz25 B7 (by first | rfl | exact own_one (by assumption) | exact nat_one (by assumption)) (fun w12 Cw12 Bw12 => ?_)
      have Lw12 := Le.of_chg (Fz := Fz) (M := (Ins b7 (Ins b14 (Ins b4 (Ins b3 M))))) Cw12 ins_here nF7
      replace LL := LL.trans Lw12
      replace LS0 := LS0.trans Lw12
      replace hM := hM.mono Lw12
      replace hF := hF.mono Lw12
      replace h1 := h1.mono Lw12
      replace RL := RL.mono Lw12
      replace RB := RB.mono Lw12
      replace hs1 := Nat.le_trans hs1 Lw12.size
      replace B3 := B3.other Cw12 ne3_7
      replace B4 := B4.other Cw12 ne4_7
      replace B14 := B14.other Cw12 ne7_14.symm
      clear B7; have B7 := Bw12; clear Bw12
      refine ops_nil ?_
      refine ⟨RL.at_, RB.at_, hs1, fun _ c => c.elim, ?_⟩
      have hvs := val_set (zs := zs) (j := x.1) ((o * 4294967296 + x.2) / n % 4294967296) (by omega)
      rw [hz0 x.1 (by omega), Nat.mod_eq_of_lt hst.2.2] at hvs
      exact ⟨LS0, B3, B4, _, zs.set x.1 ((o * 4294967296 + x.2) / n % 4294967296), B7, B14, by simp [hzl], set_lt hzlt (Nat.mod_lt _ (by omega)), by
        rw [List.length_append, List.length_singleton, show xs.length - (pre.length + 1) = x.1 by omega]; exact hst.2.1, by
        rw [List.length_append, List.length_singleton, show xs.length - (pre.length + 1) = x.1 by omega, ← hst.1, Nat.mod_eq_of_lt hst.2.2]; omega, fun j hj => by
        rw [List.length_append, List.length_singleton] at hj
        rw [val_set_ne (by omega)]; exact hz0 j (by omega)⟩
    · intro w13 hJ hZ hDd
      obtain ⟨LS0, B3, B4, o, zs, B7, B14, hzl, hzlt, ho, hzv, hz0⟩ := hJ
      replace LL := LL.trans LS0
      replace hM := hM.mono LS0
      replace hF := hF.mono LS0
      replace h1 := h1.mono LS0
      replace Mk := Mk.mono LS0
      have hdd := hDd _ rfl rfl
      have RD : Rec (Ins b7 (Ins b14 (Ins b4 (Ins b3 M)))) w13 w8.heap.size (.deferred (some [])) := ⟨hdd, (not_old hMS0 (Nat.le_refl _))⟩
      replace Mk := Mk.cons hszLL RD Mold0
      simp only [List.length_map, List.length_range, Nat.sub_self, List.drop_zero, Nat.pow_zero, Nat.one_mul] at ho hzv
      have hzb : val zs = val xs / n := hzv
      refine SL.wp_seq ?_
      have hlt4 := B4.lt; have hszd := LL.size
      refine SL.wp_draw (R := Rs (· = b4)) (R' := Rb) (st := some (4, (fun w => Blk w b4 23 [.slice (some ⟨b14, 0, none⟩) xs.length xs.length]), (fun w => ∃ v, Blk w b4 23 [v] ∧ Fresh 43 w13 w v (limbs (val xs / n))))) mixed 5 [4, 5, 6, 39] (by decide +kernel) rs_trans rs_rb (rs_drew _) (fun _ _ _ h => by cases h; exact ⟨by decide, B4, fun _ _ h r => h.below r, fun _ _ ⟨v, h1, h2⟩ r => ⟨v, h1.below r, h2.below r⟩, _, rfl⟩) ?_
      apply drs_exs rfl
      · intro wq hR hst
        refine obl_e rfl rfl ?_
        refine obl_done ?_
        have Lq := Le.of_rs (Fz := Fz) (M := (Ins b7 (Ins b14 (Ins b4 (Ins b3 M))))) hR (by rintro _ rfl; exact (.inr (.inr ins_here))) (by rintro _ rfl; exact nF4)
        replace LL := LL.trans Lq
        replace LS0 := LS0.trans Lq
        replace hM := hM.mono Lq
        replace hF := hF.mono Lq
        replace h1 := h1.mono Lq
        replace Mk := Mk.mono Lq
        replace B3 := B3.rs hR ne3_4
        replace B7 := B7.rs hR ne4_7.symm
        replace B14 := B14.rs hR ne4_14.symm
        replace B4 := (hst.2 (by decide +kernel))
        refine ops_loadb rfl flat23 rfl B4 rfl ?_
        exact ops_nil ⟨rfl, rb_refl _, _, rfl, rfl⟩
      refine drs_vals rfl (fun v w => Fresh 43 w13 w v (limbs (val xs / n))) (fun v a b h r => h.rs hlt4 r) (fun wq hR hst => ?_) ?_
      · refine obl_x rfl ?_
        refine obl_done ?_
        have Lq := Le.of_rs (Fz := Fz) (M := (Ins b7 (Ins b14 (Ins b4 (Ins b3 M))))) hR (by rintro _ rfl; exact (.inr (.inr ins_here))) (by rintro _ rfl; exact nF4)
        replace LL := LL.trans Lq
        replace LS0 := LS0.trans Lq
        replace hM := hM.mono Lq
        replace hF := hF.mono Lq
        replace h1 := h1.mono Lq
        replace Mk := Mk.mono Lq
        replace B3 := B3.rs hR ne3_4
        replace B7 := B7.rs hR ne4_7.symm
        replace B14 := B14.rs hR ne4_14.symm
        refine ops_callv rfl bod25 rfl rfl ?_
        have hq : IsNat (fun _ => False) wq (.slice (some ⟨b14, 0, none⟩) xs.length xs.length) zs := by have := blk_nat (M := fun _ => False) B14 (fun c => c) rfl (by omega) hzlt; rw [hzl] at this; exact this
        refine (trim_c (M := fun _ => False) (xs := zs) hq (by omega) (fun _ c => c.elim)).mono ?_
        rintro v37 w14 ⟨hB37, hf37⟩
        have Lw14 := Le.of_below (Fz := Fz) (M := (Ins b7 (Ins b14 (Ins b4 (Ins b3 M))))) hB37
        replace LL := LL.trans Lw14
        replace LS0 := LS0.trans Lw14
        replace hM := hM.mono Lw14
        replace hF := hF.mono Lw14
        replace h1 := h1.mono Lw14
        replace Mk := Mk.mono Lw14
        replace B3 := B3.below hB37
        replace B7 := B7.below hB37
        replace B14 := B14.below hB37
        rw [hzb] at hf37
        exact ops_nil ⟨rfl, hB37, _, rfl, hf37.less hR.2.2.2.1⟩
      apply drs_exs rfl
      · intro wq hR hst
        refine obl_e rfl rfl ?_
        refine obl_done ?_
        have Lq := Le.of_rs (Fz := Fz) (M := (Ins b7 (Ins b14 (Ins b4 (Ins b3 M))))) hR (by rintro _ rfl; exact (.inr (.inr ins_here))) (by rintro _ rfl; exact nF4)
        replace LL := LL.trans Lq
        replace LS0 := LS0.trans Lq
        replace hM := hM.mono Lq
        replace hF := hF.mono Lq
        replace h1 := h1.mono Lq
        replace Mk := Mk.mono Lq
        replace B3 := B3.rs hR ne3_4
        replace B7 := B7.rs hR ne4_7.symm
        replace B14 := B14.rs hR ne4_14.symm
        refine ops_loadb rfl flat25 rfl B7 rfl ?_
        exact ops_nil ⟨rfl, rb_refl _, _, rfl, rfl⟩
      apply drs_exs rfl
      · intro wq hR hst
        refine obl_x rfl ?_
        refine obl_done ?_
        have Lq := Le.of_rs (Fz := Fz) (M := (Ins b7 (Ins b14 (Ins b4 (Ins b3 M))))) hR (by rintro _ rfl; exact (.inr (.inr ins_here))) (by rintro _ rfl; exact nF4)
        replace LL := LL.trans Lq
        replace LS0 := LS0.trans Lq
        replace hM := hM.mono Lq
        replace hF := hF.mono Lq
        replace h1 := h1.mono Lq
        replace Mk := Mk.mono Lq
        replace B3 := B3.rs hR ne3_4
        replace B7 := B7.rs hR ne4_7.symm
        replace B14 := B14.rs hR ne4_14.symm
        refine ops_to32 rfl Try.underlying25 Try.underlying43 rfl ?_
        exact ops_nil ⟨rfl, rb_refl _, _, rfl, rfl⟩
      refine drs_eff rfl (fun wq hR hp => ?_) ?_
      · refine obl_e rfl rfl ?_
        refine obl_g rfl (fun v37 hn37 => ?_)
        refine obl_done ?_
        have Lq := Le.of_rs (Fz := Fz) (M := (Ins b7 (Ins b14 (Ins b4 (Ins b3 M))))) hR (by rintro _ rfl; exact (.inr (.inr ins_here))) (by rintro _ rfl; exact nF4)
        replace LL := LL.trans Lq
        replace LS0 := LS0.trans Lq
        replace hM := hM.mono Lq
        replace hF := hF.mono Lq
        replace h1 := h1.mono Lq
        replace Mk := Mk.mono Lq
        replace B3 := B3.rs hR ne3_4
        replace B7 := B7.rs hR ne4_7.symm
        replace B14 := B14.rs hR ne4_14.symm
        replace B4 := hp
        have ho37 := hn37.own
        refine ops_store1 rfl rfl sz23 B4 (by first | rfl | exact own_one (by assumption) | exact nat_one (by assumption)) (fun w15 Cw15 Bw15 => ?_)
        have Lw15 := Le.of_chg (Fz := Fz) (M := (Ins b7 (Ins b14 (Ins b4 (Ins b3 M))))) Cw15 (.inr (.inr ins_here)) nF4
        replace LL := LL.trans Lw15
        replace LS0 := LS0.trans Lw15
        replace hM := hM.mono Lw15
        replace hF := hF.mono Lw15
        replace h1 := h1.mono Lw15
        replace Mk := Mk.mono Lw15
        replace B3 := B3.other Cw15 ne3_4
        replace B7 := B7.other Cw15 ne4_7.symm
        replace B14 := B14.other Cw15 ne4_14.symm
        clear B4; have B4 := Bw15; clear Bw15
        exact ops_nil ⟨rfl, rs_chg Cw15, _, B4, hn37.rs hlt4 (rs_chg Cw15)⟩
      refine drs_nil (fun wq10 hR10 hpost10 => ?_)
      refine obl_e rfl rfl ?_
      refine obl_e rfl rfl ?_
      refine obl_e rfl rfl ?_
      refine obl_x rfl ?_
      refine obl_done ?_
      simp only [List.drop_succ_cons, List.drop_zero, List.drop_nil, List.toList_toArray]
      have Lq := Le.of_rs (Fz := Fz) (M := (Ins b7 (Ins b14 (Ins b4 (Ins b3 M))))) hR10 (by rintro _ rfl; exact (.inr (.inr ins_here))) (by rintro _ rfl; exact nF4)
      replace LL := LL.trans Lq
      replace LS0 := LS0.trans Lq
      replace hM := hM.mono Lq
      replace hF := hF.mono Lq
      replace h1 := h1.mono Lq
      replace Mk := Mk.mono Lq
      replace B3 := B3.rs hR10 ne3_4
      replace B7 := B7.rs hR10 ne4_7.symm
      replace B14 := B14.rs hR10 ne4_14.symm
      obtain ⟨q37, B4, hf37⟩ := hpost10 _ _ _ rfl
      refine ops_assign rfl rfl ?_
      refine ops_assign rfl rfl ?_
      refine ops_nil ?_
      refine SL.wp_ret ?_
      refine leave_marks Mk (fun wz hz => ⟨[_, _, _], ⟨⟨_, rfl, load_blk flat23 (B4.drift hz (fun c => c)) rfl⟩, rfl, rfl, trivial⟩, ?_⟩)
      dsimp only [resVal]
      have e1 : o % 4294967296 = val xs % n := by rw [← ho]; exact Nat.mod_eq_of_lt (by have := Nat.mod_lt (val xs) hn0; omega)
      have hsz := LL.size
      subst hFz
      exact ⟨SL.Below.drift (LL.below (Nat.le_refl _)) hz (Nat.le_refl _), _, by rw [if_neg (by omega), if_neg (by omega), e1], (hf37.less (by assumption)).drift hz⟩

end Go.Proofs.Ytffakiheophioaa
