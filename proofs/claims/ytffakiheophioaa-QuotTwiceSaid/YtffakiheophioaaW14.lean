import Derived.Test.YtffakiheophioaaW13
import Derived.Test.YtffakiheophioaaSLp
import Derived.Test.YtffakiheophioaaSLo
import Derived.Test.YtffakiheophioaaSLn
set_option linter.unusedVariables false
set_option linter.unusedSimpArgs false
set_option maxRecDepth 100000
namespace Go.Proofs.Ytffakiheophioaa
open Go.SL Go.RowKit Go.Proofs

def encL (p : Nat × Nat) : List Value := [.int .i64 (p.1 : Int), .int .u64 (p.2 : Int)]
theorem limbs1_c {M : Nat → Prop} {w0 : World} {b : Nat} {v : Value} {xs : List Nat} (B1 : Blk w0 b 23 [v]) (n1 : ¬ M b) (h1 : IsNat M w0 v xs) (hl1 : xs.length ≤ 1099511627776) (hM : OkM M w0) :
    IterC Try.prog 80 [.pointer (some ⟨b, 0, none⟩)] M NoT w0 (lsOf xs xs.length) encL (fun _ => True) := by
  intro n l w J X hn0 hn hdr hJ hkeep hJd hXd hy
  have B1' := B1; have h1' := h1; have hM' := hM
  replace B1 := (hkeep _ _ hJ).blk B1 n1; replace h1 := (hkeep _ _ hJ).nat h1; replace hM := (hkeep _ _ hJ).okM hM
  obtain ⟨Fz, hFz⟩ : ∃ Fz : Nat → Prop, Fz = fun _ => False := ⟨_, rfl⟩
  have hFa : ∀ w, FOk Fz w := by subst hFz; exact fun _ _ h => h.elim
  have hF := hFa w
  have LL := Le.refl Fz M w; have hM0 := hM
  refine calls_intro Try.func80 rfl Try.ntmps80 rfl ?_
  refine SL.wp_seq ?_
  refine SL.wp_region ?_
  refine ops_loadb rfl flat23 rfl B1 rfl ?_
  first | refine ops_len rfl Try.underlying23 rfl ?_ | refine ops_lens rfl Try.underlying23 rfl (IsNat.slc (by assumption)) ?_ | refine ops_lenn rfl Try.underlying23 rfl (by assumption) ?_ | refine ops_leno rfl Try.underlying23 rfl (by assumption) ?_
  refine ops_move rfl rfl ?_
  refine ops_nil ?_
  refine SL.wp_block ?_
  refine SL.wp_loopc (σ := Nat) [(0, _), (5, _), (6, _)] (fun s => [(7, .int .i64 ((s : Nat) : Int))]) (fun s w1 => J (lsOf xs s) w1 ∧ n ≤ w1.heap.size ∧ s ≤ xs.length) (fun s => xs.length - s) (0) (sub_cons rfl (sub_cons rfl (sub_cons rfl (sub_cons rfl sub_nil)))) ?_ (fun s w1 hJ => ?_)
  · exact ⟨hJ, hn, by omega⟩
  · obtain ⟨hJ1, hn1, hs⟩ := hJ
    have hk := hkeep _ _ hJ1
    replace B1 := hk.blk B1' n1; replace h1 := hk.nat h1'; replace hM := hk.okM hM'
    have hF := hFa w1
    have LL := Le.refl Fz M w1
    have hBJ := Below.refl w1.heap.size w1
    have hb1 := h1.lim s
    refine SL.wp_seq ?_
    refine SL.wp_region ?_
    refine ops_lt rfl rfl rfl ?_
    refine ops_nil ?_
    refine SL.wp_seq ?_
    refine SL.wp_cond_d rfl (fun hc0 => ?_) (fun hc0 => ?_)
    · refine SL.wp_skip ?_
      refine SL.wp_seq ?_
      refine SL.wp_block ?_
      refine SL.wp_seq ?_
      refine SL.wp_region ?_
      refine ops_move rfl rfl ?_
      refine ops_idxn (s) rfl Try.underlying23 sz43 rfl rfl (by assumption) (by omega) (by omega) (fun b10 o10 hc10 hb10 => ?_)
      refine ops_load rfl flat43 rfl hc10 ?_
      refine ops_assign rfl rfl ?_
      refine ops_assign rfl rfl ?_
      refine ops_nil ?_
      refine SL.wp_seq ?_
      refine SL.wp_region ?_
      refine ops_move rfl rfl ?_
      refine ops_ne rfl rfl rfl ?_
      refine ops_move rfl rfl ?_
      refine ops_dcase (d := 14) rfl (fun hg3_2 => ?_) (fun hg3_2 => ?_)
      · refine ops_guard_t rfl rfl ?_
        refine ops_move rfl rfl ?_
        refine ops_guard_t rfl rfl ?_
        refine ops_move rfl rfl ?_
        refine ops_guard_t rfl rfl ?_
        refine ops_move rfl rfl ?_
        refine ops_guard_t rfl rfl ?_
        refine ops_to64 rfl Try.underlying43 Try.underlying25 rfl (by omega) ?_
        refine ops_guard_t rfl rfl ?_
        refine ops_yield rfl rfl rfl ?_
        refine (hy _ _ _ _ ((ls_at (by omega) (by omega)).choose_spec) (hJd _ _ _ hJ1 (Drift.of_below hBJ hn1)) (Nat.le_trans hn1 hBJ.size)).mono ?_
        rintro v19 w2 ⟨hn2, _, hyn⟩
        refine ops_guard_t rfl rfl ?_
        refine ops_not rfl rfl ?_
        refine ops_pick rfl rfl rfl ?_
        refine ops_nil ?_
        refine SL.wp_cond rfl (fun hc1 => ?_) (fun hc1 => ?_)
        · refine SL.wp_ret ?_
          refine leave_nil ⟨[], trivial, ?_⟩
          dsimp only [resVal]
          right
          rcases hyn with ⟨e, _⟩ | ⟨_, h⟩
          · subst e; simp at hc1
          · exact h
        · refine SL.wp_skip ?_
          refine SL.wp_region ?_
          refine ops_add rfl rfl rfl (by omega) ?_
          refine ops_move rfl rfl ?_
          refine ops_nil ?_
          refine ⟨rfl, s + 1, (sub_cons' rfl (by rw [Int.natCast_add]; rfl) (sub_cons rfl (sub_cons rfl (sub_cons rfl sub_nil)))), ?_, ?_⟩
          exact ⟨by
            rw [ls_take (by omega)]
            rcases hyn with ⟨_, h⟩ | ⟨e, _⟩
            · exact h
            · subst e; simp at hc1, hn2, by omega⟩
          omega
      · refine ops_guard_f rfl rfl rfl rfl ?_
        refine ops_guard_f rfl rfl rfl rfl ?_
        refine ops_guard_f rfl rfl rfl rfl ?_
        refine ops_guard_f rfl rfl rfl rfl ?_
        refine ops_guard_f rfl rfl rfl rfl ?_
        refine ops_guard_f rfl rfl rfl rfl ?_
        refine ops_pick rfl rfl rfl ?_
        refine ops_nil ?_
        refine SL.wp_cond_f rfl ?_
        refine SL.wp_skip ?_
        refine SL.wp_region ?_
        refine ops_add rfl rfl rfl (by omega) ?_
        refine ops_move rfl rfl ?_
        refine ops_nil ?_
        refine ⟨rfl, s + 1, (sub_cons' rfl (by rw [Int.natCast_add]; rfl) (sub_cons rfl (sub_cons rfl (sub_cons rfl sub_nil)))), ?_, ?_⟩
        exact ⟨by rw [ls_skip (by omega)]; exact hJ1, hn1, by omega⟩
        omega
    · refine SL.wp_exit ?_
      refine upd_hit ?_
      refine leave_nil ⟨[], trivial, ?_⟩
      dsimp only [resVal]
      left
      obtain rfl : s = xs.length := by omega
      exact ⟨hJ1, trivial⟩


theorem limbsf_c {M : Nat → Prop} {w : World} {v : Value} {xs : List Nat} (h1 : IsNat M w v xs) (hl1 : xs.length ≤ 1099511627776) (hM : OkM M w) :
    CallsV Try.prog 74 [v] w fun r w' => Below w.heap.size w w' ∧ ∃ cap, r = .func (.func 80) #[] cap ∧ IterC Try.prog 80 cap.toList M NoT w' (lsOf xs xs.length) encL (fun _ => True) := by
  obtain ⟨Fz, hFz⟩ : ∃ Fz : Nat → Prop, Fz = (· < w.heap.size) := ⟨_, rfl⟩
  have hF : FOk Fz w := by subst hFz; exact fun _ h => h
  have LL := Le.refl Fz M w; have hM0 := hM
  refine calls_intro Try.func74 rfl Try.ntmps74 rfl ?_
  refine SL.wp_seq ?_
  refine SL.wp_region ?_
  refine ops_box rfl rfl (fun w1 b1 N1 => ?_)
  have hBw1 := N1.below
  have nF1 := hF.new N1; have nM1 := hM.new N1
  have Lw1 := Le.of_new (Fz := Fz) (M := M) N1
  replace LL := LL.trans Lw1
  replace hM := hM.mono Lw1
  replace hF := hF.mono Lw1
  replace h1 := h1.mono Lw1
  have B1 := N1.blk
  rw [h1.one] at B1
  refine ops_assign rfl rfl ?_
  refine ops_nil ?_
  refine SL.wp_seq ?_
  refine SL.wp_region ?_
  refine ops_makeFunc rfl rfl ?_
  refine ops_assign rfl rfl ?_
  refine ops_nil ?_
  refine SL.wp_ret ?_
  refine leave_nil ⟨[_], ⟨rfl, trivial⟩, ?_⟩
  dsimp only [resVal]
  subst hFz
  refine ⟨LL.below (Nat.le_refl _), _, rfl, ?_⟩
  exact limbs1_c B1 (fun c => nM1 c) (h1.less fun k c => ins_there c) hl1 (fun k c => hM k (ins_there c))


theorem plain_c {M : Nat → Prop} {w : World} {v u : Value} {xs ys : List Nat} (h1 : IsNat M w v xs) (h2 : IsNat M w u ys) (hl1 : xs.length ≤ 1000000000) (hl2 : ys.length ≤ 1000000000) (hM : OkM M w) :
    CallsV Try.prog 63 [v, u] w fun r w' => Below w.heap.size w w' ∧ Fresh 43 w w' r (limbs (val xs * val ys)) := by
  obtain ⟨Fz, hFz⟩ : ∃ Fz : Nat → Prop, Fz = (· < w.heap.size) := ⟨_, rfl⟩
  have hF : FOk Fz w := by subst hFz; exact fun _ h => h
  have LL := Le.refl Fz M w; have hM0 := hM
  have Mk : Marks M w.heap.size [] w := marks_nil
  refine calls_intro Try.func63 rfl Try.ntmps63 rfl ?_
  refine SL.wp_seq ?_
  refine SL.wp_region ?_
  refine ops_box rfl rfl (fun w1 b3 N3 => ?_)
  have hBw1 := N3.below
  have nF3 := hF.new N3; have nM3 := hM.new N3
  have Lw1 := Le.of_new (Fz := Fz) (M := M) N3
  replace LL := LL.trans Lw1
  replace hM := hM.mono Lw1
  replace hF := hF.mono Lw1
  replace h1 := h1.mono Lw1
  replace h2 := h2.mono Lw1
  replace Mk := Mk.mono Lw1
  have B3 := N3.blk
  rw [h2.one] at B3
  refine ops_assign rfl rfl ?_
  refine ops_nil ?_
  refine SL.wp_seq ?_
  refine SL.wp_region ?_
  refine ops_move rfl rfl ?_
  first | refine ops_len rfl Try.underlying23 rfl ?_ | refine ops_lens rfl Try.underlying23 rfl (IsNat.slc (by assumption)) ?_ | refine ops_lenn rfl Try.underlying23 rfl (by assumption) ?_ | refine ops_leno rfl Try.underlying23 rfl (by assumption) ?_
  refine ops_loadb rfl flat23 rfl B3 rfl ?_
  first | refine ops_len rfl Try.underlying23 rfl ?_ | refine ops_lens rfl Try.underlying23 rfl (IsNat.slc (by assumption)) ?_ | refine ops_lenn rfl Try.underlying23 rfl (by assumption) ?_ | refine ops_leno rfl Try.underlying23 rfl (by assumption) ?_
  refine ops_add rfl rfl rfl (by omega) ?_
  refine ops_make (xs.length + ys.length) (xs.length + ys.length) rfl Try.underlying23 sz43 rfl rfl rfl (by omega) (by omega) (by omega) (by omega) (by omega) (fun w2 b16 N16 => ?_)
  have nF16 := hF.new N16; have nM16 := hM.new N16; have hBw2 := N16.below
  have Lw2 := Le.of_new_mo (Fz := Fz) (M := (Ins b3 M)) (v := Value.slice (some ⟨b16, 0, none⟩) (xs.length + ys.length) (xs.length + ys.length)) N16 rfl
  have lt3_16 := B3.lt; replace B3 := B3.below hBw2; have ne3_16 : b3 ≠ b16 := by have := N16.at_; omega
  replace LL := LL.trans Lw2
  replace hM := hM.mono Lw2
  replace hF := hF.mono Lw2
  replace h1 := h1.mono Lw2
  replace h2 := h2.mono Lw2
  replace Mk := Mk.mono Lw2
  have Of : ∀ k, (Value.slice (some ⟨b16, 0, none⟩) (xs.length + ys.length) (xs.length + ys.length)).ownBlock = some k → ¬ Fz k := slice_own nF16
  have Om : ∀ k, (Value.slice (some ⟨b16, 0, none⟩) (xs.length + ys.length) (xs.length + ys.length)).ownBlock = some k → ¬ (Ins b3 M) k := slice_own nM16
  have Ow := own_blk (n := xs.length + ys.length) (c := xs.length + ys.length) N16.blk (by simp) (by omega) (by omega)
  have Ow : World.ownsRow w2 0 43 1 (Value.slice (some ⟨b16, 0, none⟩) (xs.length + ys.length) (xs.length + ys.length)) (List.replicate (xs.length + ys.length) 0).length ((List.replicate (xs.length + ys.length) 0).map lw) := by simpa [lw] using Ow
  refine ops_alloc rfl sz23 (fun w3 b5 N5 => ?_)
  have hBw3 := N5.below
  have nF5 := hF.new N5; have nM5 := hM.new N5
  have Lw3 := Le.of_new_in (Fz := Fz) (M := (Ins b3 M)) (v := (Value.slice (some ⟨b16, 0, none⟩) (xs.length + ys.length) (xs.length + ys.length))) N5
  replace Om := own_in Ow N5 Om; replace Ow := own_below Ow hBw3
  have lt3_5 := B3.lt; replace B3 := B3.below hBw3; have ne3_5 : b3 ≠ b5 := by have := N5.at_; omega
  replace LL := LL.trans Lw3
  replace hM := hM.mono Lw3
  replace hF := hF.mono Lw3
  replace h1 := h1.mono Lw3
  replace h2 := h2.mono Lw3
  replace Mk := Mk.mono Lw3
  have B5 := N5.blk
  refine ops_store1 rfl rfl sz23 B5 (by first | rfl | exact own_one (by assumption) | exact nat_one (by assumption)) (fun w4 Cw4 Bw4 => ?_)
  have Lw4 := Le.of_chg (Fz := Fz) (M := (Mo (Value.slice (some ⟨b16, 0, none⟩) (xs.length + ys.length) (xs.length + ys.length)) (Ins b5 (Ins b3 M)))) Cw4 (.inr ins_here) nF5
  replace LL := LL.trans Lw4
  replace hM := hM.mono Lw4
  replace hF := hF.mono Lw4
  replace h1 := h1.mono Lw4
  replace h2 := h2.mono Lw4
  replace Mk := Mk.mono Lw4
  replace B3 := B3.other Cw4 ne3_5
  replace Ow := own_chg Ow Cw4 (fun h => Om _ h ins_here)
  clear B5; have B5 := Bw4; clear Bw4
  refine ops_nil ?_
  refine SL.wp_seq ?_
  refine SL.wp_seq ?_
  refine SL.wp_region ?_
  refine ops_move rfl rfl ?_
  refine ops_callv rfl bod74 rfl rfl ?_
  refine (limbsf_c (M := (Mo (Value.slice (some ⟨b16, 0, none⟩) (xs.length + ys.length) (xs.length + ys.length)) (Ins b5 (Ins b3 M)))) (by assumption) (by omega) hM).mono ?_
  rintro v18 w5 ⟨hB18, cap18, rfl, hit18⟩
  have Lw5 := Le.of_below (Fz := Fz) (M := (Mo (Value.slice (some ⟨b16, 0, none⟩) (xs.length + ys.length) (xs.length + ys.length)) (Ins b5 (Ins b3 M)))) hB18
  replace LL := LL.trans Lw5
  replace hM := hM.mono Lw5
  replace hF := hF.mono Lw5
  replace h1 := h1.mono Lw5
  replace h2 := h2.mono Lw5
  replace Mk := Mk.mono Lw5
  replace B3 := B3.below hB18
  replace B5 := B5.below hB18
  replace Ow := own_below Ow hB18
  refine ops_nil ?_
  refine SL.wp_block ?_
  have hMS0 := hM
  have hszLL := LL.size
  have Mold0 := Mk.old (Nat.le_refl _)
  refine SL.wp_range (M := (Mo (Value.slice (some ⟨b16, 0, none⟩) (xs.length + ys.length) (xs.length + ys.length)) (Ins b5 (Ins b3 M)))) (T := NoT) (lsOf xs xs.length) (encL) rfl bod80 (hit18) noT (trivial) (fun _ => rfl) rfl [(3, _), (5, _)] (sub_cons rfl (sub_cons rfl sub_nil)) (fun pre w6 => Le Fz (Mo (Value.slice (some ⟨b16, 0, none⟩) (xs.length + ys.length) (xs.length + ys.length)) (Ins b5 (Ins b3 M))) w5 (Mo (Value.slice (some ⟨b16, 0, none⟩) (xs.length + ys.length) (xs.length + ys.length)) (Ins b5 (Ins b3 M))) w6 ∧ Blk w6 b3 23 [u] ∧ Blk w6 b5 23 [Value.slice (some ⟨b16, 0, none⟩) (xs.length + ys.length) (xs.length + ys.length)] ∧ ∃ zs : List Nat, w6.ownsRow 0 43 1 (Value.slice (some ⟨b16, 0, none⟩) (xs.length + ys.length) (xs.length + ys.length)) zs.length (zs.map lw) ∧ zs.length = xs.length + ys.length ∧ (∀ z ∈ zs, z < 4294967296) ∧ val zs = psum pre * val ys ∧ ∀ j, (∀ p ∈ pre, p.1 + ys.length < j) → zs.getD j 0 = 0) (fun _ _ => False) (fun _ => False) (⟨Le.refl _ _ _, B3, B5, _, Ow, by simp, by intro z hz; have := (List.mem_replicate.1 hz).2; omega, by simp [val_zeros, psum], fun j _ => by simp [List.getD_eq_getElem?_getD, List.getElem?_replicate]; split <;> rfl⟩) (fun pre w h => h.1.keep) (fun pre w1 w2 hJ hd => (by obtain ⟨h1, h2, h3, zs, h4, h5⟩ := hJ; exact ⟨h1.drift0 hd (Nat.le_refl _), h2.drift hd (fun c => c), h3.drift hd (fun c => c), zs, own_drift h4 hd (fun _ _ c => c), h5⟩)) (fun _ _ _ h _ => h) (fun _ _ h _ => h) (fun _ _ _ _ => trivial) ?_ ?_ (fun _ _ h _ => h.elim) (fun _ h _ => h.elim)
  · intro pre x post l b w6 ρ δ hx hJ hnl hnb hl hb hbc
    clear Ow
    obtain ⟨LS0, B3, B5, zs, Ow, hzl, hzlt, hzv, hz0⟩ := hJ
    replace LL := LL.trans LS0
    replace hM := hM.mono LS0
    replace hF := hF.mono LS0
    replace h1 := h1.mono LS0
    replace h2 := h2.mono LS0
    replace Mk := Mk.mono LS0
    have RL : Rec (Mo (Value.slice (some ⟨b16, 0, none⟩) (xs.length + ys.length) (xs.length + ys.length)) (Ins b5 (Ins b3 M))) w6 l (.loop ρ) := ⟨hl, (not_old hMS0 hnl)⟩
    have RB : Rec (Mo (Value.slice (some ⟨b16, 0, none⟩) (xs.length + ys.length) (xs.length + ys.length)) (Ins b5 (Ins b3 M))) w6 b δ := ⟨hb, (not_old hMS0 hnb)⟩
    have hs1 : w6.heap.size ≤ w6.heap.size := Nat.le_refl _
    obtain ⟨hi, hxe, hpre⟩ := ls_split hx
    have hxb : x.2 < 4294967296 := by rw [hxe]; exact h1.lim _
    refine SL.wp_seq ?_
    refine SL.wp_region ?_
    refine ops_assign rfl rfl ?_
    refine ops_nil ?_
    refine SL.wp_region ?_
    refine ops_assign rfl rfl ?_
    refine ops_nil ?_
    refine ⟨RL.at_, RB.at_, rfl, fun w7 ρ' δ' hdr hl' hb' hbc' => ?_⟩
    replace LL := LL.drift0 hdr hszLL
    replace LS0 := LS0.drift0 hdr (Nat.le_refl _)
    replace hM := hM.drift hdr; replace hF := hF.drift hdr; replace hs1 := Nat.le_trans hs1 hdr.size
    replace h1 := h1.drift hdr noT
    replace h2 := h2.drift hdr noT
    replace RL : Rec (Mo (Value.slice (some ⟨b16, 0, none⟩) (xs.length + ys.length) (xs.length + ys.length)) (Ins b5 (Ins b3 M))) w7 l (.loop ρ') := ⟨hl', RL.not⟩; replace RB : Rec (Mo (Value.slice (some ⟨b16, 0, none⟩) (xs.length + ys.length) (xs.length + ys.length)) (Ins b5 (Ins b3 M))) w7 b δ' := ⟨hb', RB.not⟩
    replace B3 := B3.drift hdr (fun c => c)
    replace B5 := B5.drift hdr (fun c => c)
    replace Ow := own_drift Ow hdr (fun _ _ c => c)
    refine SL.wp_block ?_
    refine SL.wp_seq ?_
    refine SL.wp_region ?_
    refine ops_assign rfl rfl ?_
    refine ops_nil ?_
    refine SL.wp_seq ?_
    refine SL.wp_seq ?_
    refine SL.wp_region ?_
    refine ops_loadb rfl flat23 rfl B3 rfl ?_
    first | refine ops_len rfl Try.underlying23 rfl ?_ | refine ops_lens rfl Try.underlying23 rfl (IsNat.slc (by assumption)) ?_ | refine ops_lenn rfl Try.underlying23 rfl (by assumption) ?_ | refine ops_leno rfl Try.underlying23 rfl (by assumption) ?_
    refine ops_move rfl rfl ?_
    refine ops_nil ?_
    refine SL.wp_block ?_
    refine SL.wp_loopc (σ := Nat × Nat) [(3, _), (5, _), (6, _), (7, _), (21, _), (22, _)] (fun s => [(8, .int .u64 ((s.2 : Nat) : Int)), (23, .int .i64 ((s.1 : Nat) : Int))]) (fun s w8 => Le Fz (Mo (Value.slice (some ⟨b16, 0, none⟩) (xs.length + ys.length) (xs.length + ys.length)) (Ins b5 (Ins b3 M))) w7 (Mo (Value.slice (some ⟨b16, 0, none⟩) (xs.length + ys.length) (xs.length + ys.length)) (Ins b5 (Ins b3 M))) w8 ∧ Blk w8 b3 23 [u] ∧ Blk w8 b5 23 [Value.slice (some ⟨b16, 0, none⟩) (xs.length + ys.length) (xs.length + ys.length)] ∧ ∃ zs : List Nat, w8.ownsRow 0 43 1 (Value.slice (some ⟨b16, 0, none⟩) (xs.length + ys.length) (xs.length + ys.length)) zs.length (zs.map lw) ∧ zs.length = xs.length + ys.length ∧ (∀ z ∈ zs, z < 4294967296) ∧ s.1 ≤ ys.length ∧ s.2 < 4294967296 ∧ (∀ j, x.1 + ys.length ≤ j → zs.getD j 0 = 0) ∧ val zs + 4294967296 ^ (x.1 + s.1) * s.2 = psum pre * val ys + 4294967296 ^ x.1 * (x.2 * val (ys.take s.1))) (fun s => ys.length - s.1) ((0, 0)) (sub_cons rfl (sub_cons rfl (sub_cons rfl (sub_cons rfl (sub_cons rfl (sub_cons rfl (sub_cons rfl (sub_cons rfl sub_nil)))))))) ?_ (fun s w8 hJ => ?_)
    · dsimp only
      exact ⟨Le.refl _ _ _, B3, B5, zs, Ow, hzl, hzlt, by omega, by omega, fun j hj => hz0 j (fun p hp => by have := hpre p hp; omega), by simp [val, hzv]⟩
    · clear Ow hzl hzlt hz0 hzv B3 B5
      obtain ⟨k, c⟩ := s
      dsimp only at hJ ⊢
      obtain ⟨LR2, B3, B5, zs, Ow, hzl, hzlt, hk, hc, hz0, hzv⟩ := hJ
      have hby := h2.lim k; have hbz := getD_lt hzlt (x.1 + k)
      have hxy : x.2 * ys.getD k 0 ≤ 4294967295 * 4294967295 := Nat.mul_le_mul (by omega) (by omega)
      replace LL := LL.trans LR2
      replace LS0 := LS0.trans LR2
      replace hM := hM.mono LR2
      replace hF := hF.mono LR2
      replace h1 := h1.mono LR2
      replace h2 := h2.mono LR2
      replace RL := RL.mono LR2
      replace RB := RB.mono LR2
      replace hs1 := Nat.le_trans hs1 LR2.size
      refine SL.wp_seq ?_
      refine SL.wp_region ?_
      refine ops_lt rfl rfl rfl ?_
      refine ops_nil ?_
      refine SL.wp_seq ?_
      refine SL.wp_cond_d rfl (fun hc0 => ?_) (fun hc0 => ?_)
      · refine SL.wp_skip ?_
        refine SL.wp_seq ?_
        refine SL.wp_block ?_
        refine SL.wp_seq ?_
        refine SL.wp_region ?_
        refine ops_move rfl rfl ?_
        refine ops_idxn (k) rfl Try.underlying23 sz43 rfl rfl (by assumption) (by omega) (by omega) (fun b26 o26 hc26 hb26 => ?_)
        refine ops_load rfl flat43 rfl hc26 ?_
        refine ops_assign rfl rfl ?_
        refine ops_assign rfl rfl ?_
        refine ops_nil ?_
        refine SL.wp_seq ?_
        refine SL.wp_region ?_
        refine ops_move rfl rfl ?_
        refine ops_move rfl rfl ?_
        refine ops_move rfl rfl ?_
        refine ops_to64 rfl Try.underlying43 Try.underlying25 rfl (by omega) ?_
        first | refine ops_mulv rfl rfl rfl (by omega) ?_ | refine ops_mulu rfl rfl rfl ?_
        refine ops_loadb rfl flat23 rfl B5 rfl ?_
        refine ops_move rfl rfl ?_
        refine ops_move rfl rfl ?_
        refine ops_add rfl rfl rfl (by omega) ?_
        refine ops_idxo (x.1 + k) rfl Try.underlying23 sz43 rfl rfl Ow (by omega) (by omega) (fun b37 cur37 cap37 B37 => ?_)
        have hc37 : w8.cell? ⟨b37, x.1 + k, none⟩ = some (lw (zs.getD (x.1 + k) 0)) := by rw [B37.blk.cell]; exact B37.get (map_lw_get (by omega))
        refine ops_load rfl flat43 rfl hc37 ?_
        refine ops_to64 rfl Try.underlying43 Try.underlying25 rfl (by omega) ?_
        first | refine ops_addv rfl rfl rfl (by omega) ?_ | refine ops_addu rfl rfl rfl ?_
        first | refine ops_addv rfl rfl rfl (by omega) ?_ | refine ops_addu rfl rfl rfl ?_
        refine ops_assign rfl rfl ?_
        refine ops_nil ?_
        refine SL.wp_seq ?_
        refine SL.wp_region ?_
        refine ops_loadb rfl flat23 rfl B5 rfl ?_
        refine ops_move rfl rfl ?_
        refine ops_move rfl rfl ?_
        refine ops_add rfl rfl rfl (by omega) ?_
        refine ops_move rfl rfl ?_
        refine ops_to32 rfl Try.underlying25 Try.underlying43 rfl ?_
        refine ops_idxo (x.1 + k) rfl Try.underlying23 sz43 rfl rfl Ow (by omega) (by omega) (fun b48 cur48 cap48 B48 => ?_)
        have hc48 : w8.cell? ⟨b48, x.1 + k, none⟩ = some (lw (zs.getD (x.1 + k) 0)) := by rw [B48.blk.cell]; exact B48.get (map_lw_get (by omega))
        refine ops_store rfl rfl sz43 B48.blk rfl (by have := B48.len; have := B48.le; omega) (by simp [Value.cells, Value.oneCell']) (fun w9 Cw9 BN => ?_)
        have Lw9 := Le.of_chg (Fz := Fz) (M := (Mo (Value.slice (some ⟨b16, 0, none⟩) (xs.length + ys.length) (xs.length + ys.length)) (Ins b5 (Ins b3 M)))) Cw9 (.inl B48.own) (Of b48 B48.own)
        replace B3 := B3.other Cw9 (fun e => Om b48 B48.own (e ▸ (.inr ins_here)))
        replace B5 := B5.other Cw9 (fun e => Om b48 B48.own (e ▸ ins_here))
        replace LL := LL.trans Lw9
        replace LS0 := LS0.trans Lw9
        replace LR2 := LR2.trans Lw9
        replace hM := hM.mono Lw9
        replace hF := hF.mono Lw9
        replace h1 := h1.mono Lw9
        replace h2 := h2.mono Lw9
        replace RL := RL.mono Lw9
        replace RB := RB.mono Lw9
        replace hs1 := Nat.le_trans hs1 Lw9.size
        have Ow2 := B48.set (by omega) BN
        replace Ow2 : World.ownsRow w9 0 43 1 (Value.slice (some ⟨b16, 0, none⟩) (xs.length + ys.length) (xs.length + ys.length)) (zs.set (x.1 + k) ((c + (x.2 * ys.getD k 0 + zs.getD (x.1 + k) 0)) % 4294967296)).length ((zs.set (x.1 + k) ((c + (x.2 * ys.getD k 0 + zs.getD (x.1 + k) 0)) % 4294967296)).map lw) := by rw [List.length_set, List.map_set]; exact Ow2
        clear Ow; have Ow := Ow2; clear Ow2 BN
        refine ops_nil ?_
        refine SL.wp_region ?_
        refine ops_move rfl rfl ?_
        refine ops_shru rfl rfl rfl (by simp only [IntKind.bits]; omega) ?_
        refine ops_assign rfl rfl ?_
        refine ops_nil ?_
        refine SL.wp_region ?_
        refine ops_add rfl rfl rfl (by omega) ?_
        refine ops_move rfl rfl ?_
        refine ops_nil ?_
        refine ⟨rfl, (k + 1, (c + (x.2 * ys.getD k 0 + zs.getD (x.1 + k) 0)) / 4294967296), (sub_cons' rfl (rfl) (sub_cons' rfl (by rw [Int.natCast_add]; rfl) (sub_cons rfl (sub_cons rfl (sub_cons rfl (sub_cons rfl (sub_cons rfl (sub_cons rfl sub_nil)))))))), ?_, ?_⟩
        dsimp only
        exact ⟨LR2, B3, B5, _, Ow, by simp [hzl], set_lt hzlt (by omega), by omega, by omega, fun j hj => by rw [val_set_ne (by omega)]; exact hz0 j (by omega), by
          rw [show x.1 + (k + 1) = x.1 + k + 1 from rfl, mul_step2 (by omega) rfl hzv, mul_row2]⟩
        dsimp only
        omega
      · obtain rfl : k = ys.length := by omega
        rw [List.take_length] at hzv
        refine SL.wp_exit ?_
        refine upd_hit ?_
        refine SL.wp_region ?_
        refine ops_loadb rfl flat23 rfl B5 rfl ?_
        refine ops_move rfl rfl ?_
        refine ops_loadb rfl flat23 rfl B3 rfl ?_
        first | refine ops_len rfl Try.underlying23 rfl ?_ | refine ops_lens rfl Try.underlying23 rfl (IsNat.slc (by assumption)) ?_ | refine ops_lenn rfl Try.underlying23 rfl (by assumption) ?_ | refine ops_leno rfl Try.underlying23 rfl (by assumption) ?_
        refine ops_add rfl rfl rfl (by omega) ?_
        refine ops_move rfl rfl ?_
        refine ops_to32 rfl Try.underlying25 Try.underlying43 rfl ?_
        refine ops_idxo (x.1 + ys.length) rfl Try.underlying23 sz43 rfl rfl Ow (by omega) (by omega) (fun b59 cur59 cap59 B59 => ?_)
        have hc59 : w8.cell? ⟨b59, x.1 + ys.length, none⟩ = some (lw (zs.getD (x.1 + ys.length) 0)) := by rw [B59.blk.cell]; exact B59.get (map_lw_get (by omega))
        refine ops_store rfl rfl sz43 B59.blk rfl (by have := B59.len; have := B59.le; omega) (by simp [Value.cells, Value.oneCell']) (fun w10 Cw10 BN => ?_)
        have Lw10 := Le.of_chg (Fz := Fz) (M := (Mo (Value.slice (some ⟨b16, 0, none⟩) (xs.length + ys.length) (xs.length + ys.length)) (Ins b5 (Ins b3 M)))) Cw10 (.inl B59.own) (Of b59 B59.own)
        replace B3 := B3.other Cw10 (fun e => Om b59 B59.own (e ▸ (.inr ins_here)))
        replace B5 := B5.other Cw10 (fun e => Om b59 B59.own (e ▸ ins_here))
        replace LL := LL.trans Lw10
        replace LS0 := LS0.trans Lw10
        replace LR2 := LR2.trans Lw10
        replace hM := hM.mono Lw10
        replace hF := hF.mono Lw10
        replace h1 := h1.mono Lw10
        replace h2 := h2.mono Lw10
        replace RL := RL.mono Lw10
        replace RB := RB.mono Lw10
        replace hs1 := Nat.le_trans hs1 Lw10.size
        have Ow2 := B59.set (by omega) BN
        replace Ow2 : World.ownsRow w10 0 43 1 (Value.slice (some ⟨b16, 0, none⟩) (xs.length + ys.length) (xs.length + ys.length)) (zs.set (x.1 + ys.length) (c % 4294967296)).length ((zs.set (x.1 + ys.length) (c % 4294967296)).map lw) := by rw [List.length_set, List.map_set]; exact Ow2
        clear Ow; have Ow := Ow2; clear Ow2 BN
        refine ops_nil ?_
        refine ⟨RL.at_, RB.at_, hs1, fun _ c => c.elim, ?_⟩
        exact ⟨LS0, B3, B5, _, Ow, by simp [hzl], set_lt hzlt (by omega), by
          have := val_set (zs := zs) (j := x.1 + ys.length) (c % 4294967296) (by omega)
          rw [hz0 _ (Nat.le_refl _), Nat.mod_eq_of_lt hc] at this
          rw [Nat.mod_eq_of_lt hc, ← psum_snoc, ← hzv]; omega, fun j hj => by
          have := hj x (by simp)
          rw [val_set_ne (by omega)]; exact hz0 j (by omega)⟩
  · intro w11 hJ hZ hDd
    clear Ow
    obtain ⟨LS0, B3, B5, zs, Ow, hzl, hzlt, hzv, hz0⟩ := hJ
    replace LL := LL.trans LS0
    replace hM := hM.mono LS0
    replace hF := hF.mono LS0
    replace h1 := h1.mono LS0
    replace h2 := h2.mono LS0
    replace Mk := Mk.mono LS0
    have hdd := hDd _ rfl rfl
    have RD : Rec (Mo (Value.slice (some ⟨b16, 0, none⟩) (xs.length + ys.length) (xs.length + ys.length)) (Ins b5 (Ins b3 M))) w11 w5.heap.size (.deferred (some [])) := ⟨hdd, (not_old hMS0 (Nat.le_refl _))⟩
    replace Mk := Mk.cons hszLL RD Mold0
    refine SL.wp_seq ?_
    refine SL.wp_region ?_
    refine ops_loadb rfl flat23 rfl B5 rfl ?_
    refine ops_callv rfl bod25 rfl rfl ?_
    refine (trim_c (M := M) (xs := zs) ⟨own_slc Ow (fun k hk c => Om k hk (ins_there (ins_there c))) (by omega), hzlt⟩ (by omega) (fun k hk => hM k (.inr (ins_there (ins_there hk))))).mono ?_
    rintro v61 w12 ⟨hB61, hf61⟩
    have hS61 := LL.size
    have Lw12 := Le.of_below (Fz := Fz) (M := (Mo (Value.slice (some ⟨b16, 0, none⟩) (xs.length + ys.length) (xs.length + ys.length)) (Ins b5 (Ins b3 M)))) hB61
    replace LL := LL.trans Lw12
    replace LS0 := LS0.trans Lw12
    replace hM := hM.mono Lw12
    replace hF := hF.mono Lw12
    replace h1 := h1.mono Lw12
    replace h2 := h2.mono Lw12
    replace Mk := Mk.mono Lw12
    replace B3 := B3.below hB61
    replace B5 := B5.below hB61
    replace Ow := own_below Ow hB61
    replace hf61 := hf61.less hS61
    refine ops_assign rfl rfl ?_
    refine ops_nil ?_
    refine SL.wp_ret ?_
    refine leave_marks Mk (fun wz hz => ⟨[_], ⟨rfl, trivial⟩, ?_⟩)
    dsimp only [resVal]
    subst hFz
    rw [psum_ls, List.take_length] at hzv
    rw [hzv] at hf61
    exact ⟨SL.Below.drift (LL.below (Nat.le_refl _)) hz (Nat.le_refl _), hf61.drift hz⟩

end Go.Proofs.Ytffakiheophioaa
