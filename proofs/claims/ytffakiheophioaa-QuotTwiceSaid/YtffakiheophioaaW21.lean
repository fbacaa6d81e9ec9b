import Derived.Test.YtffakiheophioaaW20
import Derived.Test.YtffakiheophioaaSLq
import Derived.Test.YtffakiheophioaaSLp
import Derived.Test.YtffakiheophioaaSLo
import Derived.Test.YtffakiheophioaaSLn
set_option linter.unusedVariables false
set_option linter.unusedSimpArgs false
set_option maxRecDepth 100000
namespace Go.Proofs.Ytffakiheophioaa
open Go.SL Go.RowKit Go.Proofs

/-- of small words -/
theorem mul64_c {M : Nat → Prop} {w : World} {a b : Nat} (ha : a < 4294967296) (hb : b < 4294967296) (hM : OkM M w) :
    CallsV Try.prog 81 [.int .u64 (a : Int), .int .u64 (b : Int)] w fun r w' => Below w.heap.size w w' ∧ r = .tuple #[.int .u64 ((0 : Nat) : Int), .int .u64 ((a * b : Nat) : Int)] := by
  obtain ⟨Fz, hFz⟩ : ∃ Fz : Nat → Prop, Fz = (· < w.heap.size) := ⟨_, rfl⟩
  have hF : FOk Fz w := by subst hFz; exact fun _ h => h
  have hab : a * b ≤ 4294967295 * 4294967295 := Nat.mul_le_mul (by omega) (by omega)
  have e32 : (2 : Nat) ^ (32 : Int).toNat = 4294967296 := by decide
  have LL := Le.refl Fz M w; have hM0 := hM
  refine calls_intro Try.func81 rfl Try.ntmps81 rfl ?_
  refine SL.wp_seq ?_
  refine SL.wp_region ?_
  refine ops_assign rfl rfl ?_
  refine ops_assign rfl rfl ?_
  refine ops_nil ?_
  refine SL.wp_seq ?_
  refine SL.wp_region ?_
  refine ops_move rfl rfl ?_
  refine ops_andu rfl rfl rfl (by simp only [IntKind.bits]; omega) (by simp only [IntKind.bits]; omega) (.inl rfl) ?_
  refine ops_lit (d := 15) (u := .int .u64 ((a : Nat) : Int)) rfl (by show Value.int .u64 _ = Value.int .u64 _; congr 2; rw [and_low]; omega) ?_
  refine ops_assign rfl rfl ?_
  refine ops_nil ?_
  refine SL.wp_seq ?_
  refine SL.wp_region ?_
  refine ops_move rfl rfl ?_
  refine ops_shru rfl rfl rfl (by simp only [IntKind.bits]; omega) ?_
  refine ops_lit (d := 17) (u := .int .u64 ((0 : Nat) : Int)) rfl (by show Value.int .u64 _ = Value.int .u64 _; congr 2; rw [e32]; omega) ?_
  refine ops_assign rfl rfl ?_
  refine ops_nil ?_
  refine SL.wp_seq ?_
  refine SL.wp_region ?_
  refine ops_move rfl rfl ?_
  refine ops_andu rfl rfl rfl (by simp only [IntKind.bits]; omega) (by simp only [IntKind.bits]; omega) (.inl rfl) ?_
  refine ops_lit (d := 19) (u := .int .u64 ((b : Nat) : Int)) rfl (by show Value.int .u64 _ = Value.int .u64 _; congr 2; rw [and_low]; omega) ?_
  refine ops_assign rfl rfl ?_
  refine ops_nil ?_
  refine SL.wp_seq ?_
  refine SL.wp_region ?_
  refine ops_move rfl rfl ?_
  refine ops_shru rfl rfl rfl (by simp only [IntKind.bits]; omega) ?_
  refine ops_lit (d := 21) (u := .int .u64 ((0 : Nat) : Int)) rfl (by show Value.int .u64 _ = Value.int .u64 _; congr 2; rw [e32]; omega) ?_
  refine ops_assign rfl rfl ?_
  refine ops_nil ?_
  refine SL.wp_seq ?_
  refine SL.wp_region ?_
  refine ops_move rfl rfl ?_
  refine ops_move rfl rfl ?_
  first | refine ops_mulv rfl rfl rfl (by omega) ?_ | refine ops_mulu rfl rfl rfl ?_
  refine ops_assign rfl rfl ?_
  refine ops_nil ?_
  refine SL.wp_seq ?_
  refine SL.wp_region ?_
  refine ops_move rfl rfl ?_
  refine ops_move rfl rfl ?_
  first | refine ops_mulv rfl rfl rfl (by omega) ?_ | refine ops_mulu rfl rfl rfl ?_
  refine ops_move rfl rfl ?_
  refine ops_shru rfl rfl rfl (by simp only [IntKind.bits]; omega) ?_
  first | refine ops_addv rfl rfl rfl (by omega) ?_ | refine ops_addu rfl rfl rfl ?_
  refine ops_lit (d := 30) (u := .int .u64 ((a * b / 4294967296 : Nat) : Int)) rfl (by show Value.int .u64 _ = Value.int .u64 _; congr 2; rw [e32]; omega) ?_
  refine ops_assign rfl rfl ?_
  refine ops_nil ?_
  refine SL.wp_seq ?_
  refine SL.wp_region ?_
  refine ops_move rfl rfl ?_
  refine ops_andu rfl rfl rfl (by simp only [IntKind.bits]; omega) (by simp only [IntKind.bits]; omega) (.inl rfl) ?_
  refine ops_lit (d := 32) (u := .int .u64 ((a * b / 4294967296 : Nat) : Int)) rfl (by show Value.int .u64 _ = Value.int .u64 _; congr 2; rw [and_low]; omega) ?_
  refine ops_assign rfl rfl ?_
  refine ops_nil ?_
  refine SL.wp_seq ?_
  refine SL.wp_region ?_
  refine ops_move rfl rfl ?_
  refine ops_shru rfl rfl rfl (by simp only [IntKind.bits]; omega) ?_
  refine ops_lit (d := 34) (u := .int .u64 ((0 : Nat) : Int)) rfl (by show Value.int .u64 _ = Value.int .u64 _; congr 2; rw [e32]; omega) ?_
  refine ops_assign rfl rfl ?_
  refine ops_nil ?_
  refine SL.wp_seq ?_
  refine SL.wp_region ?_
  refine ops_move rfl rfl ?_
  refine ops_move rfl rfl ?_
  refine ops_move rfl rfl ?_
  first | refine ops_mulv rfl rfl rfl (by omega) ?_ | refine ops_mulu rfl rfl rfl ?_
  first | refine ops_addv rfl rfl rfl (by omega) ?_ | refine ops_addu rfl rfl rfl ?_
  refine ops_lit (d := 39) (u := .int .u64 ((a * b / 4294967296 : Nat) : Int)) rfl (by show Value.int .u64 _ = Value.int .u64 _; congr 2 <;> omega) ?_
  refine ops_assign rfl rfl ?_
  refine ops_nil ?_
  refine SL.wp_seq ?_
  refine SL.wp_region ?_
  refine ops_move rfl rfl ?_
  refine ops_move rfl rfl ?_
  first | refine ops_mulv rfl rfl rfl (by omega) ?_ | refine ops_mulu rfl rfl rfl ?_
  refine ops_move rfl rfl ?_
  first | refine ops_addv rfl rfl rfl (by omega) ?_ | refine ops_addu rfl rfl rfl ?_
  refine ops_move rfl rfl ?_
  refine ops_shru rfl rfl rfl (by simp only [IntKind.bits]; omega) ?_
  first | refine ops_addv rfl rfl rfl (by omega) ?_ | refine ops_addu rfl rfl rfl ?_
  refine ops_lit (d := 47) (u := .int .u64 ((0 : Nat) : Int)) rfl (by show Value.int .u64 _ = Value.int .u64 _; congr 2; rw [e32]; omega) ?_
  refine ops_assign rfl rfl ?_
  refine ops_nil ?_
  refine SL.wp_seq ?_
  refine SL.wp_region ?_
  refine ops_move rfl rfl ?_
  refine ops_move rfl rfl ?_
  first | refine ops_mulv rfl rfl rfl (by omega) ?_ | refine ops_mulu rfl rfl rfl ?_
  refine ops_assign rfl rfl ?_
  refine ops_nil ?_
  refine SL.wp_ret ?_
  refine leave_nil ⟨[_, _], ⟨rfl, rfl, trivial⟩, ?_⟩
  dsimp only [resVal]
  subst hFz
  exact ⟨LL.below (Nat.le_refl _), rfl⟩


theorem qguess_c {M : Nat → Prop} {w : World} {bd br cap p L : Nat} {vb : Value} {rs ys : List Nat} {ex : List Value} (hL : rs.length = L) (Bd : Blk w bd 68 [.slice (some ⟨br, 0, none⟩) L cap, vb]) (BR : Blk w br 43 (rs.map lw ++ ex)) (hb : IsNat M w vb ys) (hr : ∀ x ∈ rs, x < 4294967296) (hn : 0 < ys.length) (ht : 0 < ys.getD (ys.length - 1) 0) (hat : p + ys.length < rs.length) (hrl : rs.length ≤ 1099511627776) (hM : OkM M w) :
    CallsV Try.prog 76 [.pointer (some ⟨bd, 0, none⟩), .int .i64 (p : Int)] w fun r w' => Below w.heap.size w w' ∧ r = .int .u64 ((min ((rs.getD (p + ys.length) 0 * 4294967296 + rs.getD (p + ys.length - 1) 0) / ys.getD (ys.length - 1) 0) 4294967295 : Nat) : Int) := by
  obtain ⟨Fz, hFz⟩ : ∃ Fz : Nat → Prop, Fz = (· < w.heap.size) := ⟨_, rfl⟩
  have hF : FOk Fz w := by subst hFz; exact fun _ h => h
  have hb1 := getD_lt hr (p + ys.length); have hb2 := getD_lt hr (p + ys.length - 1); have hb3 := hb.lim (ys.length - 1); have hyl := hb.len
  have hov : (rs.getD (p + ys.length) 0 * 2 ^ (32 : Int).toNat % 18446744073709551616 ||| rs.getD (p + ys.length - 1) 0) = rs.getD (p + ys.length) 0 * 4294967296 + rs.getD (p + ys.length - 1) 0 := by
    have e : (2 : Nat) ^ (32 : Int).toNat = 4294967296 := by decide
    rw [e, Nat.mod_eq_of_lt (by omega), or_hi _ _ (by omega)]
  have LL := Le.refl Fz M w; have hM0 := hM
  refine calls_intro Try.func76 rfl Try.ntmps76 rfl ?_
  refine SL.wp_seq ?_
  refine SL.wp_region ?_
  refine ops_assign rfl rfl ?_
  refine ops_nil ?_
  refine SL.wp_seq ?_
  refine SL.wp_region ?_
  refine ops_move rfl rfl ?_
  refine ops_nilck rfl rfl ?_
  refine ops_field0 1 rfl Try.underlying68 rfl rfl sz23 rfl rfl ?_
  refine ops_loadb rfl flat23 rfl Bd rfl ?_
  first | refine ops_len rfl Try.underlying23 rfl ?_ | refine ops_lens rfl Try.underlying23 rfl (IsNat.slc (by assumption)) ?_ | refine ops_lenn rfl Try.underlying23 rfl (by assumption) ?_ | refine ops_leno rfl Try.underlying23 rfl (by assumption) ?_
  refine ops_assign rfl rfl ?_
  refine ops_nil ?_
  refine SL.wp_seq ?_
  refine SL.wp_draw (R := Rb) (R' := Rb) (st := none) mixed 22 [0, 4, 5, 22, 33] (by decide +kernel) rb_trans rb_self (rb_drew _) (fun _ _ _ h => by cases h) ?_
  apply drs_ex
  · intro wq hR hst
    refine obl_e rfl rfl ?_
    refine obl_done ?_
    have Lq := Le.of_below (Fz := Fz) (M := M) hR
    replace LL := LL.trans Lq
    replace hM := hM.mono Lq
    replace hF := hF.mono Lq
    replace hb := hb.mono Lq
    replace Bd := Bd.below hR
    replace BR := BR.below hR
    refine ops_move rfl rfl ?_
    exact ops_nil ⟨rfl, rb_refl _, _, rfl, rfl⟩
  apply drs_ex
  · intro wq hR hst
    refine obl_x rfl ?_
    refine obl_done ?_
    have Lq := Le.of_below (Fz := Fz) (M := M) hR
    replace LL := LL.trans Lq
    replace hM := hM.mono Lq
    replace hF := hF.mono Lq
    replace hb := hb.mono Lq
    replace Bd := Bd.below hR
    replace BR := BR.below hR
    refine ops_nilck rfl rfl ?_
    exact ops_nil ⟨rfl, rb_refl _, _, rfl, rfl⟩
  apply drs_ex
  · intro wq hR hst
    refine obl_x rfl ?_
    refine obl_done ?_
    have Lq := Le.of_below (Fz := Fz) (M := M) hR
    replace LL := LL.trans Lq
    replace hM := hM.mono Lq
    replace hF := hF.mono Lq
    replace hb := hb.mono Lq
    replace Bd := Bd.below hR
    replace BR := BR.below hR
    refine ops_field0 0 rfl Try.underlying68 rfl rfl sz23 rfl rfl ?_
    exact ops_nil ⟨rfl, rb_refl _, _, rfl, rfl⟩
  apply drs_ex
  · intro wq hR hst
    refine obl_x rfl ?_
    refine obl_done ?_
    have Lq := Le.of_below (Fz := Fz) (M := M) hR
    replace LL := LL.trans Lq
    replace hM := hM.mono Lq
    replace hF := hF.mono Lq
    replace hb := hb.mono Lq
    replace Bd := Bd.below hR
    replace BR := BR.below hR
    refine ops_loadb rfl flat23 rfl Bd rfl ?_
    exact ops_nil ⟨rfl, rb_refl _, _, rfl, rfl⟩
  apply drs_ex
  · intro wq hR hst
    refine obl_e rfl rfl ?_
    refine obl_done ?_
    have Lq := Le.of_below (Fz := Fz) (M := M) hR
    replace LL := LL.trans Lq
    replace hM := hM.mono Lq
    replace hF := hF.mono Lq
    replace hb := hb.mono Lq
    replace Bd := Bd.below hR
    replace BR := BR.below hR
    refine ops_move rfl rfl ?_
    exact ops_nil ⟨rfl, rb_refl _, _, rfl, rfl⟩
  apply drs_ex
  · intro wq hR hst
    refine obl_e rfl rfl ?_
    refine obl_done ?_
    have Lq := Le.of_below (Fz := Fz) (M := M) hR
    replace LL := LL.trans Lq
    replace hM := hM.mono Lq
    replace hF := hF.mono Lq
    replace hb := hb.mono Lq
    replace Bd := Bd.below hR
    replace BR := BR.below hR
    refine ops_move rfl rfl ?_
    exact ops_nil ⟨rfl, rb_refl _, _, rfl, rfl⟩
  apply drs_ex
  · intro wq hR hst
    refine obl_x rfl ?_
    refine obl_x rfl ?_
    refine obl_done ?_
    have Lq := Le.of_below (Fz := Fz) (M := M) hR
    replace LL := LL.trans Lq
    replace hM := hM.mono Lq
    replace hF := hF.mono Lq
    replace hb := hb.mono Lq
    replace Bd := Bd.below hR
    replace BR := BR.below hR
    refine ops_add rfl rfl rfl (by omega) ?_
    exact ops_nil ⟨rfl, rb_refl _, _, rfl, rfl⟩
  apply drs_ex
  · intro wq hR hst
    refine obl_x rfl ?_
    refine obl_x rfl ?_
    refine obl_done ?_
    have Lq := Le.of_below (Fz := Fz) (M := M) hR
    replace LL := LL.trans Lq
    replace hM := hM.mono Lq
    replace hF := hF.mono Lq
    replace hb := hb.mono Lq
    replace Bd := Bd.below hR
    replace BR := BR.below hR
    refine ops_idxb0 (p + ys.length) rfl Try.underlying23 sz43 rfl rfl (by omega) (by omega) ?_
    exact ops_nil ⟨rfl, rb_refl _, _, rfl, rfl⟩
  apply drs_ex
  · intro wq hR hst
    refine obl_x rfl ?_
    refine obl_done ?_
    have Lq := Le.of_below (Fz := Fz) (M := M) hR
    replace LL := LL.trans Lq
    replace hM := hM.mono Lq
    replace hF := hF.mono Lq
    replace hb := hb.mono Lq
    replace Bd := Bd.below hR
    replace BR := BR.below hR
    have hc19 := blk_limb BR (j := p + ys.length) (by omega)
    refine ops_load rfl flat43 rfl hc19 ?_
    exact ops_nil ⟨rfl, rb_refl _, _, rfl, rfl⟩
  apply drs_ex
  · intro wq hR hst
    refine obl_x rfl ?_
    refine obl_done ?_
    have Lq := Le.of_below (Fz := Fz) (M := M) hR
    replace LL := LL.trans Lq
    replace hM := hM.mono Lq
    replace hF := hF.mono Lq
    replace hb := hb.mono Lq
    replace Bd := Bd.below hR
    replace BR := BR.below hR
    refine ops_to64 rfl Try.underlying43 Try.underlying25 rfl (by omega) ?_
    exact ops_nil ⟨rfl, rb_refl _, _, rfl, rfl⟩
  apply drs_ex
  · intro wq hR hst
    refine obl_x rfl ?_
    refine obl_done ?_
    have Lq := Le.of_below (Fz := Fz) (M := M) hR
    replace LL := LL.trans Lq
    replace hM := hM.mono Lq
    replace hF := hF.mono Lq
    replace hb := hb.mono Lq
    replace Bd := Bd.below hR
    replace BR := BR.below hR
    refine ops_shlu (m := 18446744073709551616) rfl rfl rfl (by simp only [IntKind.bits]; omega) rfl (.inl rfl) ?_
    exact ops_nil ⟨rfl, rb_refl _, _, rfl, rfl⟩
  apply drs_ex
  · intro wq hR hst
    refine obl_e rfl rfl ?_
    refine obl_done ?_
    have Lq := Le.of_below (Fz := Fz) (M := M) hR
    replace LL := LL.trans Lq
    replace hM := hM.mono Lq
    replace hF := hF.mono Lq
    replace hb := hb.mono Lq
    replace Bd := Bd.below hR
    replace BR := BR.below hR
    refine ops_move rfl rfl ?_
    exact ops_nil ⟨rfl, rb_refl _, _, rfl, rfl⟩
  apply drs_ex
  · intro wq hR hst
    refine obl_x rfl ?_
    refine obl_done ?_
    have Lq := Le.of_below (Fz := Fz) (M := M) hR
    replace LL := LL.trans Lq
    replace hM := hM.mono Lq
    replace hF := hF.mono Lq
    replace hb := hb.mono Lq
    replace Bd := Bd.below hR
    replace BR := BR.below hR
    refine ops_nilck rfl rfl ?_
    exact ops_nil ⟨rfl, rb_refl _, _, rfl, rfl⟩
  apply drs_ex
  · intro wq hR hst
    refine obl_x rfl ?_
    refine obl_done ?_
    have Lq := Le.of_below (Fz := Fz) (M := M) hR
    replace LL := LL.trans Lq
    replace hM := hM.mono Lq
    replace hF := hF.mono Lq
    replace hb := hb.mono Lq
    replace Bd := Bd.below hR
    replace BR := BR.below hR
    refine ops_field0 0 rfl Try.underlying68 rfl rfl sz23 rfl rfl ?_
    exact ops_nil ⟨rfl, rb_refl _, _, rfl, rfl⟩
  apply drs_ex
  · intro wq hR hst
    refine obl_x rfl ?_
    refine obl_done ?_
    have Lq := Le.of_below (Fz := Fz) (M := M) hR
    replace LL := LL.trans Lq
    replace hM := hM.mono Lq
    replace hF := hF.mono Lq
    replace hb := hb.mono Lq
    replace Bd := Bd.below hR
    replace BR := BR.below hR
    refine ops_loadb rfl flat23 rfl Bd rfl ?_
    exact ops_nil ⟨rfl, rb_refl _, _, rfl, rfl⟩
  apply drs_ex
  · intro wq hR hst
    refine obl_e rfl rfl ?_
    refine obl_done ?_
    have Lq := Le.of_below (Fz := Fz) (M := M) hR
    replace LL := LL.trans Lq
    replace hM := hM.mono Lq
    replace hF := hF.mono Lq
    replace hb := hb.mono Lq
    replace Bd := Bd.below hR
    replace BR := BR.below hR
    refine ops_move rfl rfl ?_
    exact ops_nil ⟨rfl, rb_refl _, _, rfl, rfl⟩
  apply drs_ex
  · intro wq hR hst
    refine obl_e rfl rfl ?_
    refine obl_done ?_
    have Lq := Le.of_below (Fz := Fz) (M := M) hR
    replace LL := LL.trans Lq
    replace hM := hM.mono Lq
    replace hF := hF.mono Lq
    replace hb := hb.mono Lq
    replace Bd := Bd.below hR
    replace BR := BR.below hR
    refine ops_move rfl rfl ?_
    exact ops_nil ⟨rfl, rb_refl _, _, rfl, rfl⟩
  apply drs_ex
  · intro wq hR hst
    refine obl_x rfl ?_
    refine obl_x rfl ?_
    refine obl_done ?_
    have Lq := Le.of_below (Fz := Fz) (M := M) hR
    replace LL := LL.trans Lq
    replace hM := hM.mono Lq
    replace hF := hF.mono Lq
    replace hb := hb.mono Lq
    replace Bd := Bd.below hR
    replace BR := BR.below hR
    refine ops_add rfl rfl rfl (by omega) ?_
    exact ops_nil ⟨rfl, rb_refl _, _, rfl, rfl⟩
  apply drs_ex
  · intro wq hR hst
    refine obl_x rfl ?_
    refine obl_done ?_
    have Lq := Le.of_below (Fz := Fz) (M := M) hR
    replace LL := LL.trans Lq
    replace hM := hM.mono Lq
    replace hF := hF.mono Lq
    replace hb := hb.mono Lq
    replace Bd := Bd.below hR
    replace BR := BR.below hR
    refine ops_sub rfl rfl rfl (by omega) ?_
    exact ops_nil ⟨rfl, rb_refl _, _, rfl, rfl⟩
  apply drs_ex
  · intro wq hR hst
    refine obl_x rfl ?_
    refine obl_x rfl ?_
    refine obl_done ?_
    have Lq := Le.of_below (Fz := Fz) (M := M) hR
    replace LL := LL.trans Lq
    replace hM := hM.mono Lq
    replace hF := hF.mono Lq
    replace hb := hb.mono Lq
    replace Bd := Bd.below hR
    replace BR := BR.below hR
    refine ops_idxb0 (p + ys.length - 1) rfl Try.underlying23 sz43 rfl rfl (by omega) (by omega) ?_
    exact ops_nil ⟨rfl, rb_refl _, _, rfl, rfl⟩
  apply drs_ex
  · intro wq hR hst
    refine obl_x rfl ?_
    refine obl_done ?_
    have Lq := Le.of_below (Fz := Fz) (M := M) hR
    replace LL := LL.trans Lq
    replace hM := hM.mono Lq
    replace hF := hF.mono Lq
    replace hb := hb.mono Lq
    replace Bd := Bd.below hR
    replace BR := BR.below hR
    have hc31 := blk_limb BR (j := p + ys.length - 1) (by omega)
    refine ops_load rfl flat43 rfl hc31 ?_
    exact ops_nil ⟨rfl, rb_refl _, _, rfl, rfl⟩
  apply drs_ex
  · intro wq hR hst
    refine obl_x rfl ?_
    refine obl_done ?_
    have Lq := Le.of_below (Fz := Fz) (M := M) hR
    replace LL := LL.trans Lq
    replace hM := hM.mono Lq
    replace hF := hF.mono Lq
    replace hb := hb.mono Lq
    replace Bd := Bd.below hR
    replace BR := BR.below hR
    refine ops_to64 rfl Try.underlying43 Try.underlying25 rfl (by omega) ?_
    exact ops_nil ⟨rfl, rb_refl _, _, rfl, rfl⟩
  refine drs_nil (fun wq2 hR2 hpost2 => ?_)
  refine obl_e rfl rfl ?_
  refine obl_e rfl rfl ?_
  refine obl_e rfl rfl ?_
  refine obl_x rfl ?_
  refine obl_x rfl ?_
  refine obl_done ?_
  simp only [List.drop_succ_cons, List.drop_zero, List.drop_nil, List.toList_toArray]
  have Lwq2 := Le.of_below (Fz := Fz) (M := M) hR2
  replace LL := LL.trans Lwq2
  replace hM := hM.mono Lwq2
  replace hF := hF.mono Lwq2
  replace hb := hb.mono Lwq2
  replace Bd := Bd.below hR2
  replace BR := BR.below hR2
  refine ops_oru rfl rfl rfl (by simp only [IntKind.bits]; omega) (by simp only [IntKind.bits]; omega) (.inl rfl) ?_
  refine ops_lit (d := 34) (u := .int .u64 ((rs.getD (p + ys.length) 0 * 4294967296 + rs.getD (p + ys.length - 1) 0 : Nat) : Int)) rfl (by rw [hov]) ?_
  refine ops_assign rfl rfl ?_
  refine ops_nil ?_
  refine SL.wp_seq ?_
  refine SL.wp_region ?_
  refine ops_move rfl rfl ?_
  refine ops_move rfl rfl ?_
  refine ops_nilck rfl rfl ?_
  refine ops_field0 1 rfl Try.underlying68 rfl rfl sz23 rfl rfl ?_
  refine ops_loadb rfl flat23 rfl Bd rfl ?_
  refine ops_move rfl rfl ?_
  refine ops_sub rfl rfl rfl (by omega) ?_
  refine ops_idxn (ys.length - 1) rfl Try.underlying23 sz43 rfl rfl (by assumption) (by omega) (by omega) (fun b42 o42 hc42 hb42 => ?_)
  refine ops_load rfl flat43 rfl hc42 ?_
  refine ops_to64 rfl Try.underlying43 Try.underlying25 rfl (by omega) ?_
  refine ops_quou rfl rfl rfl (by omega) (by omega) ?_
  refine ops_min rfl rfl rfl ?_
  refine ops_assign rfl rfl ?_
  refine ops_nil ?_
  refine SL.wp_ret ?_
  refine leave_nil ⟨[_], ⟨rfl, trivial⟩, ?_⟩
  dsimp only [resVal]
  subst hFz
  exact ⟨LL.below (Nat.le_refl _), by show Value.int .u64 _ = Value.int .u64 _; congr 1; omega⟩


theorem qless_c {Fz : Nat → Prop} {M : Nat → Prop} {w : World} {bd br cap p L : Nat} {vb : Value} {rs ys : List Nat} {ex : List Value} {m : Nat} (hL : rs.length = L) (Bd : Blk w bd 68 [.slice (some ⟨br, 0, none⟩) L cap, vb]) (BR : Blk w br 43 (rs.map lw ++ ex)) (hb : IsNat M w vb ys) (hr : ∀ x ∈ rs, x < 4294967296) (hm : m < 4294967296) (hat : p + ys.length < rs.length) (hrl : rs.length ≤ 1099511627776) (hcap : cap = rs.length + ex.length) (hmr : M br) (nFr : ¬ Fz br) (hF : FOk Fz w) (hM : OkM M w) :
    CallsV Try.prog 77 [.pointer (some ⟨bd, 0, none⟩), .int .i64 (p : Int), .int .u64 (m : Int)] w fun r w' => Le Fz M w M w' ∧ Blk w' bd 68 [.slice (some ⟨br, 0, none⟩) L cap, vb] ∧ ∃ (u : Nat) (zs : List Nat), Blk w' br 43 (zs.map lw ++ ex) ∧ zs.length = rs.length ∧ (∀ z ∈ zs, z < 4294967296) ∧ u ≤ 1 ∧ (∀ j, p + ys.length < j → zs.getD j 0 = rs.getD j 0) ∧ val zs + 4294967296 ^ p * (m * val ys) = val rs + 4294967296 ^ (p + (ys.length + 1)) * u ∧ r = .bool (decide (u = 0)) := by
  have hyl := hb.len
  have ner : bd ≠ br := blk_ne Bd BR (.inl rfl)
  have ned_r := ner
  have e32 : (2 : Nat) ^ (32 : Int).toNat = 4294967296 := by decide
  have e63 : (2 : Nat) ^ (63 : Int).toNat = 9223372036854775808 := by decide
  have LL := Le.refl Fz M w; have hM0 := hM
  refine calls_intro Try.func77 rfl Try.ntmps77 rfl ?_
  refine SL.wp_seq ?_
  refine SL.wp_region ?_
  refine ops_assign rfl rfl ?_
  refine ops_nil ?_
  refine SL.wp_seq ?_
  refine SL.wp_draw (R := Rb) (R' := Rb) (st := none) mixed 13 [0, 2, 6, 19, 20, 28] (by decide +kernel) rb_trans rb_self (rb_drew _) (fun _ _ _ h => by cases h) ?_
  apply drs_ex
  · intro wq hR hst
    refine obl_e rfl rfl ?_
    refine obl_done ?_
    have Lq := Le.of_below (Fz := Fz) (M := M) hR
    replace LL := LL.trans Lq
    replace hM := hM.mono Lq
    replace hF := hF.mono Lq
    replace hb := hb.mono Lq
    replace Bd := Bd.below hR
    replace BR := BR.below hR
    refine ops_move rfl rfl ?_
    exact ops_nil ⟨rfl, rb_refl _, _, rfl, rfl⟩
  apply drs_ex
  · intro wq hR hst
    refine obl_x rfl ?_
    refine obl_done ?_
    have Lq := Le.of_below (Fz := Fz) (M := M) hR
    replace LL := LL.trans Lq
    replace hM := hM.mono Lq
    replace hF := hF.mono Lq
    replace hb := hb.mono Lq
    replace Bd := Bd.below hR
    replace BR := BR.below hR
    refine ops_nilck rfl rfl ?_
    exact ops_nil ⟨rfl, rb_refl _, _, rfl, rfl⟩
  apply drs_ex
  · intro wq hR hst
    refine obl_x rfl ?_
    refine obl_done ?_
    have Lq := Le.of_below (Fz := Fz) (M := M) hR
    replace LL := LL.trans Lq
    replace hM := hM.mono Lq
    replace hF := hF.mono Lq
    replace hb := hb.mono Lq
    replace Bd := Bd.below hR
    replace BR := BR.below hR
    refine ops_field0 0 rfl Try.underlying68 rfl rfl sz23 rfl rfl ?_
    exact ops_nil ⟨rfl, rb_refl _, _, rfl, rfl⟩
  apply drs_ex
  · intro wq hR hst
    refine obl_x rfl ?_
    refine obl_done ?_
    have Lq := Le.of_below (Fz := Fz) (M := M) hR
    replace LL := LL.trans Lq
    replace hM := hM.mono Lq
    replace hF := hF.mono Lq
    replace hb := hb.mono Lq
    replace Bd := Bd.below hR
    replace BR := BR.below hR
    refine ops_loadb rfl flat23 rfl Bd rfl ?_
    exact ops_nil ⟨rfl, rb_refl _, _, rfl, rfl⟩
  apply drs_ex
  · intro wq hR hst
    refine obl_e rfl rfl ?_
    refine obl_done ?_
    have Lq := Le.of_below (Fz := Fz) (M := M) hR
    replace LL := LL.trans Lq
    replace hM := hM.mono Lq
    replace hF := hF.mono Lq
    replace hb := hb.mono Lq
    replace Bd := Bd.below hR
    replace BR := BR.below hR
    refine ops_move rfl rfl ?_
    exact ops_nil ⟨rfl, rb_refl _, _, rfl, rfl⟩
  apply drs_ex
  · intro wq hR hst
    refine obl_e rfl rfl ?_
    refine obl_done ?_
    have Lq := Le.of_below (Fz := Fz) (M := M) hR
    replace LL := LL.trans Lq
    replace hM := hM.mono Lq
    replace hF := hF.mono Lq
    replace hb := hb.mono Lq
    replace Bd := Bd.below hR
    replace BR := BR.below hR
    refine ops_move rfl rfl ?_
    exact ops_nil ⟨rfl, rb_refl _, _, rfl, rfl⟩
  apply drs_ex
  · intro wq hR hst
    refine obl_e rfl rfl ?_
    refine obl_done ?_
    have Lq := Le.of_below (Fz := Fz) (M := M) hR
    replace LL := LL.trans Lq
    replace hM := hM.mono Lq
    replace hF := hF.mono Lq
    replace hb := hb.mono Lq
    replace Bd := Bd.below hR
    replace BR := BR.below hR
    refine ops_move rfl rfl ?_
    exact ops_nil ⟨rfl, rb_refl _, _, rfl, rfl⟩
  apply drs_ex
  · intro wq hR hst
    refine obl_x rfl ?_
    refine obl_done ?_
    have Lq := Le.of_below (Fz := Fz) (M := M) hR
    replace LL := LL.trans Lq
    replace hM := hM.mono Lq
    replace hF := hF.mono Lq
    replace hb := hb.mono Lq
    replace Bd := Bd.below hR
    replace BR := BR.below hR
    refine ops_nilck rfl rfl ?_
    exact ops_nil ⟨rfl, rb_refl _, _, rfl, rfl⟩
  apply drs_ex
  · intro wq hR hst
    refine obl_x rfl ?_
    refine obl_done ?_
    have Lq := Le.of_below (Fz := Fz) (M := M) hR
    replace LL := LL.trans Lq
    replace hM := hM.mono Lq
    replace hF := hF.mono Lq
    replace hb := hb.mono Lq
    replace Bd := Bd.below hR
    replace BR := BR.below hR
    refine ops_field0 1 rfl Try.underlying68 rfl rfl sz23 rfl rfl ?_
    exact ops_nil ⟨rfl, rb_refl _, _, rfl, rfl⟩
  apply drs_ex
  · intro wq hR hst
    refine obl_x rfl ?_
    refine obl_done ?_
    have Lq := Le.of_below (Fz := Fz) (M := M) hR
    replace LL := LL.trans Lq
    replace hM := hM.mono Lq
    replace hF := hF.mono Lq
    replace hb := hb.mono Lq
    replace Bd := Bd.below hR
    replace BR := BR.below hR
    refine ops_loadb rfl flat23 rfl Bd rfl ?_
    exact ops_nil ⟨rfl, rb_refl _, _, rfl, rfl⟩
  apply drs_ex
  · intro wq hR hst
    refine obl_x rfl ?_
    refine obl_done ?_
    have Lq := Le.of_below (Fz := Fz) (M := M) hR
    replace LL := LL.trans Lq
    replace hM := hM.mono Lq
    replace hF := hF.mono Lq
    replace hb := hb.mono Lq
    replace Bd := Bd.below hR
    replace BR := BR.below hR
    first | refine ops_len rfl Try.underlying23 rfl ?_ | refine ops_lens rfl Try.underlying23 rfl (IsNat.slc (by assumption)) ?_ | refine ops_lenn rfl Try.underlying23 rfl (by assumption) ?_ | refine ops_leno rfl Try.underlying23 rfl (by assumption) ?_
    exact ops_nil ⟨rfl, rb_refl _, _, rfl, rfl⟩
  apply drs_ex
  · intro wq hR hst
    refine obl_x rfl ?_
    refine obl_x rfl ?_
    refine obl_done ?_
    have Lq := Le.of_below (Fz := Fz) (M := M) hR
    replace LL := LL.trans Lq
    replace hM := hM.mono Lq
    replace hF := hF.mono Lq
    replace hb := hb.mono Lq
    replace Bd := Bd.below hR
    replace BR := BR.below hR
    refine ops_add rfl rfl rfl (by omega) ?_
    exact ops_nil ⟨rfl, rb_refl _, _, rfl, rfl⟩
  apply drs_ex
  · intro wq hR hst
    refine obl_x rfl ?_
    refine obl_done ?_
    have Lq := Le.of_below (Fz := Fz) (M := M) hR
    replace LL := LL.trans Lq
    replace hM := hM.mono Lq
    replace hF := hF.mono Lq
    replace hb := hb.mono Lq
    replace Bd := Bd.below hR
    replace BR := BR.below hR
    refine ops_add rfl rfl rfl (by omega) ?_
    exact ops_nil ⟨rfl, rb_refl _, _, rfl, rfl⟩
  refine drs_nil (fun wq1 hR1 hpost1 => ?_)
  refine obl_e rfl rfl ?_
  refine obl_e rfl rfl ?_
  refine obl_e rfl rfl ?_
  refine obl_x rfl ?_
  refine obl_x rfl ?_
  refine obl_x rfl ?_
  refine obl_done ?_
  simp only [List.drop_succ_cons, List.drop_zero, List.drop_nil, List.toList_toArray]
  have Lwq1 := Le.of_below (Fz := Fz) (M := M) hR1
  replace LL := LL.trans Lwq1
  replace hM := hM.mono Lwq1
  replace hF := hF.mono Lwq1
  replace hb := hb.mono Lwq1
  replace Bd := Bd.below hR1
  replace BR := BR.below hR1
  refine ops_sliceb p (p + ys.length + 1) rfl Try.underlying23 sz43 rfl rfl (by show some (Value.int _ _) = some (Value.int _ _); congr 2) (by omega) (by omega) ?_
  refine ops_assign rfl rfl ?_
  refine ops_assign rfl rfl ?_
  refine ops_nil ?_
  refine SL.wp_seq ?_
  refine SL.wp_region ?_
  refine ops_assign rfl rfl ?_
  refine ops_nil ?_
  refine SL.wp_seq ?_
  refine SL.wp_seq ?_
  refine SL.wp_region ?_
  refine ops_move rfl rfl ?_
  first | refine ops_len rfl Try.underlying23 rfl ?_ | refine ops_lens rfl Try.underlying23 rfl (IsNat.slc (by assumption)) ?_ | refine ops_lenn rfl Try.underlying23 rfl (by assumption) ?_ | refine ops_leno rfl Try.underlying23 rfl (by assumption) ?_
  refine ops_move rfl rfl ?_
  refine ops_nil ?_
  refine SL.wp_block ?_
  refine SL.wp_loopc (σ := Nat × Nat × Nat) [(0, _), (2, _), (7, _), (31, _)] (fun s => [(8, .int .u64 ((s.2.1 : Nat) : Int)), (9, .int .u64 ((s.2.2 : Nat) : Int)), (32, .int .i64 ((s.1 : Nat) : Int))]) (fun s w1 => Le Fz M wq1 M w1 ∧ Blk w1 bd 68 [.slice (some ⟨br, 0, none⟩) L cap, vb] ∧ ∃ zs : List Nat, Blk w1 br 43 (zs.map lw ++ ex) ∧ zs.length = rs.length ∧ (∀ z ∈ zs, z < 4294967296) ∧ (∀ j, p + ys.length < j → zs.getD j 0 = rs.getD j 0) ∧ s.1 ≤ ys.length + 1 ∧ s.2.1 < 4294967296 ∧ s.2.2 ≤ 1 ∧ (s.1 ≤ ys.length ∨ s.2.1 = 0) ∧ val zs + 4294967296 ^ p * (m * val (ys.take s.1)) = val rs + 4294967296 ^ (p + s.1) * (s.2.1 + s.2.2)) (fun s => ys.length + 1 - s.1) ((0, 0, 0)) (sub_cons rfl (sub_cons rfl (sub_cons rfl (sub_cons rfl (sub_cons rfl (sub_cons rfl (sub_cons rfl sub_nil))))))) ?_ (fun s w1 hJ => ?_)
  · dsimp only
    exact ⟨Le.refl _ _ _, Bd, rs, BR, rfl, hr, fun _ _ => rfl, by omega, by omega, by omega, .inl (by omega), by simp [val]⟩
  · clear Bd BR
    obtain ⟨i, o, u⟩ := s
    dsimp only at hJ ⊢
    obtain ⟨LR, Bd, zs, BR, hzl, hzlt, hzh, hi, ho, hu, hi0, hzv⟩ := hJ
    have hby := hb.lim i; have hbz := getD_lt hzlt (p + i)
    have hxy : ys.getD i 0 * m ≤ 4294967295 * 4294967295 := Nat.mul_le_mul (by omega) (by omega)
    replace LL := LL.trans LR
    replace hM := hM.mono LR
    replace hF := hF.mono LR
    replace hb := hb.mono LR
    refine SL.wp_seq ?_
    refine SL.wp_region ?_
    refine ops_lt rfl rfl rfl ?_
    refine ops_nil ?_
    refine SL.wp_seq ?_
    refine SL.wp_cond_d rfl (fun hc0 => ?_) (fun hc0 => ?_)
    · refine SL.wp_skip ?_
      refine SL.wp_seq ?_
      refine SL.wp_block ?_
      refine SL.wp_seq ?_
      refine SL.wp_region ?_
      refine ops_move rfl rfl ?_
      refine ops_assign rfl rfl ?_
      refine ops_nil ?_
      refine SL.wp_seq ?_
      refine SL.wp_region ?_
      refine ops_assign rfl rfl ?_
      refine ops_nil ?_
      refine SL.wp_seq ?_
      refine SL.wp_seq ?_
      refine SL.wp_region ?_
      refine ops_move rfl rfl ?_
      refine ops_move rfl rfl ?_
      refine ops_nilck rfl rfl ?_
      refine ops_field0 1 rfl Try.underlying68 rfl rfl sz23 rfl rfl ?_
      refine ops_loadb rfl flat23 rfl Bd rfl ?_
      first | refine ops_len rfl Try.underlying23 rfl ?_ | refine ops_lens rfl Try.underlying23 rfl (IsNat.slc (by assumption)) ?_ | refine ops_lenn rfl Try.underlying23 rfl (by assumption) ?_ | refine ops_leno rfl Try.underlying23 rfl (by assumption) ?_
      refine ops_lt rfl rfl rfl ?_
      refine ops_nil ?_
      refine SL.wp_cutj [(11, .int .u64 ((ys.getD i 0 : Nat) : Int))] [(0, _), (2, _), (7, _), (8, _), (9, _), (10, _), (31, _), (32, _), (33, _), (34, _), (35, _), (36, _), (37, _), (38, _), (39, _), (40, _), (41, _)] (sub_cons rfl (sub_cons rfl (sub_cons rfl (sub_cons rfl (sub_cons rfl (sub_cons rfl (sub_cons rfl (sub_cons rfl (sub_cons rfl (sub_cons rfl (sub_cons rfl (sub_cons rfl (sub_cons rfl (sub_cons rfl (sub_cons rfl (sub_cons rfl (sub_cons rfl sub_nil))))))))))))))))) ?_ ?_
      · refine SL.wp_cond_d rfl (fun hc1 => ?_) (fun hc1 => ?_)
        · refine SL.wp_region ?_
          refine ops_move rfl rfl ?_
          refine ops_nilck rfl rfl ?_
          refine ops_field0 1 rfl Try.underlying68 rfl rfl sz23 rfl rfl ?_
          refine ops_loadb rfl flat23 rfl Bd rfl ?_
          refine ops_move rfl rfl ?_
          refine ops_idxn (i) rfl Try.underlying23 sz43 rfl rfl (by assumption) (by omega) (by omega) (fun b47 o47 hc47 hb47 => ?_)
          refine ops_load rfl flat43 rfl hc47 ?_
          refine ops_to64 rfl Try.underlying43 Try.underlying25 rfl (by omega) ?_
          refine ops_assign rfl rfl ?_
          refine ops_nil ?_
          exact ⟨rfl, rfl, (sub_cons' rfl (rfl) (sub_cons rfl (sub_cons rfl (sub_cons rfl (sub_cons rfl (sub_cons rfl (sub_cons rfl (sub_cons rfl (sub_cons rfl (sub_cons rfl (sub_cons rfl (sub_cons rfl (sub_cons rfl (sub_cons rfl (sub_cons rfl (sub_cons rfl (sub_cons rfl (sub_cons rfl sub_nil))))))))))))))))))⟩
        · refine SL.wp_skip ?_
          exact ⟨rfl, rfl, (sub_cons' rfl (by rw [getD_out (by omega)]; rfl) (sub_cons rfl (sub_cons rfl (sub_cons rfl (sub_cons rfl (sub_cons rfl (sub_cons rfl (sub_cons rfl (sub_cons rfl (sub_cons rfl (sub_cons rfl (sub_cons rfl (sub_cons rfl (sub_cons rfl (sub_cons rfl (sub_cons rfl (sub_cons rfl (sub_cons rfl sub_nil))))))))))))))))))⟩
      refine SL.wp_seq ?_
      refine SL.wp_region ?_
      refine ops_move rfl rfl ?_
      refine ops_move rfl rfl ?_
      refine ops_callv rfl bod81 rfl rfl ?_
      refine (mul64_c (M := M) (by omega) (by omega) hM).mono ?_
      rintro v53 w2 ⟨hB53, rfl⟩
      have Lw2 := Le.of_below (Fz := Fz) (M := M) hB53
      replace LL := LL.trans Lw2
      replace LR := LR.trans Lw2
      replace hM := hM.mono Lw2
      replace hF := hF.mono Lw2
      replace hb := hb.mono Lw2
      replace Bd := Bd.below hB53
      replace BR := BR.below hB53
      refine ops_move rfl rfl ?_
      refine ops_extract rfl rfl rfl ?_
      refine ops_extract rfl rfl rfl ?_
      refine ops_assign rfl rfl ?_
      refine ops_assign rfl rfl ?_
      refine ops_nil ?_
      refine SL.wp_seq ?_
      refine SL.wp_region ?_
      refine ops_move rfl rfl ?_
      refine ops_move rfl rfl ?_
      refine ops_add64' (a := ys.getD i 0 * m) (b := o) (c := 0) rfl ext82 rfl (by omega) ?_
      refine ops_move rfl rfl ?_
      refine ops_extract rfl rfl rfl ?_
      refine ops_lit (d := 60) (u := .int .u64 ((ys.getD i 0 * m + o : Nat) : Int)) rfl (by show Value.int .u64 _ = Value.int .u64 _; congr 2 <;> omega) ?_
      refine ops_extract rfl rfl rfl ?_
      refine ops_lit (d := 61) (u := .int .u64 ((0 : Nat) : Int)) rfl (by show Value.int .u64 _ = Value.int .u64 _; congr 2 <;> omega) ?_
      refine ops_assign rfl rfl ?_
      refine ops_assign rfl rfl ?_
      refine ops_nil ?_
      refine SL.wp_seq ?_
      refine SL.wp_region ?_
      refine ops_move rfl rfl ?_
      refine ops_move rfl rfl ?_
      first | refine ops_addv rfl rfl rfl (by omega) ?_ | refine ops_addu rfl rfl rfl ?_
      refine ops_shlu (m := 18446744073709551616) rfl rfl rfl (by simp only [IntKind.bits]; omega) rfl (.inl rfl) ?_
      refine ops_move rfl rfl ?_
      refine ops_shru rfl rfl rfl (by simp only [IntKind.bits]; omega) ?_
      refine ops_lit (d := 67) (u := .int .u64 (((ys.getD i 0 * m + o) / 4294967296 : Nat) : Int)) rfl (by rw [← e32]) ?_
      refine ops_oru rfl rfl rfl (by simp only [IntKind.bits]; omega) (by simp only [IntKind.bits]; omega) (.inl rfl) ?_
      refine ops_lit (d := 68) (u := .int .u64 (((ys.getD i 0 * m + o) / 4294967296 : Nat) : Int)) rfl (by show Value.int .u64 _ = Value.int .u64 _; congr 2; simp) ?_
      refine ops_assign rfl rfl ?_
      refine ops_nil ?_
      refine SL.wp_seq ?_
      refine SL.wp_region ?_
      refine ops_move rfl rfl ?_
      refine ops_move rfl rfl ?_
      refine ops_idxb (i) rfl Try.underlying23 sz43 rfl rfl rfl (by omega) ?_
      have hc71 := blk_limb BR (j := p + i) (by omega)
      refine ops_load rfl flat43 rfl hc71 ?_
      refine ops_to64 rfl Try.underlying43 Try.underlying25 rfl (by omega) ?_
      refine ops_move rfl rfl ?_
      refine ops_andu rfl rfl rfl (by simp only [IntKind.bits]; omega) (by simp only [IntKind.bits]; omega) (.inl rfl) ?_
      refine ops_lit (d := 75) (u := .int .u64 (((ys.getD i 0 * m + o) % 4294967296 : Nat) : Int)) rfl (by show Value.int .u64 _ = Value.int .u64 _; congr 2; exact and_low _) ?_
      first | refine ops_subv rfl rfl rfl (by omega) (by omega) ?_ | refine ops_subu rfl rfl rfl (by omega) ?_
      refine ops_move rfl rfl ?_
      first | refine ops_subv rfl rfl rfl (by omega) (by omega) ?_ | refine ops_subu rfl rfl rfl (by omega) ?_
      refine ops_assign rfl rfl ?_
      refine ops_nil ?_
      refine SL.wp_region ?_
      refine ops_move rfl rfl ?_
      refine ops_move rfl rfl ?_
      refine ops_move rfl rfl ?_
      refine ops_to32 rfl Try.underlying25 Try.underlying43 rfl ?_
      refine ops_move rfl rfl ?_
      refine ops_shru rfl rfl rfl (by simp only [IntKind.bits]; omega) ?_
      refine ops_lit (d := 84) (u := .int .u64 ((subD (zs.getD (p + i) 0) ((ys.getD i 0 * m + o) % 4294967296) u / 9223372036854775808 : Nat) : Int)) rfl (by rw [← e63]; rfl) ?_
      refine ops_idxb (i) rfl Try.underlying23 sz43 rfl rfl rfl (by omega) ?_
      refine ops_storei (i := p + i) rfl rfl sz43 BR rfl (by simp; omega) (fun w3 Cw3 BN => ?_)
      have Lw3 := Le.of_chg (Fz := Fz) (M := M) Cw3 hmr nFr
      replace LL := LL.trans Lw3
      replace LR := LR.trans Lw3
      replace hM := hM.mono Lw3
      replace hF := hF.mono Lw3
      replace hb := hb.mono Lw3
      replace Bd := Bd.other Cw3 ned_r
      replace BN := BN.eq (set_limb (rs := zs) (ex := ex) (v := subD (zs.getD (p + i) 0) ((ys.getD i 0 * m + o) % 4294967296) u % 4294967296) (show p + i < zs.length by omega))
      clear BR; have BR := BN; clear BN
      refine ops_assign rfl rfl ?_
      refine ops_nil ?_
      refine SL.wp_region ?_
      refine ops_add rfl rfl rfl (by omega) ?_
      refine ops_move rfl rfl ?_
      refine ops_nil ?_
      refine ⟨rfl, (i + 1, (ys.getD i 0 * m + o) / 4294967296, subD (zs.getD (p + i) 0) ((ys.getD i 0 * m + o) % 4294967296) u / 9223372036854775808), (sub_cons' rfl (rfl) (sub_cons' rfl (rfl) (sub_cons' rfl (by rw [Int.natCast_add]; rfl) (sub_cons rfl (sub_cons rfl (sub_cons rfl (sub_cons rfl sub_nil))))))), ?_, ?_⟩
      have hsd := subD_eq hbz (Nat.mod_lt (ys.getD i 0 * m + o) (show 0 < 4294967296 by omega)) hu
      dsimp only
      refine ⟨LR, Bd, _, BR, by simp [hzl], set_lt hzlt (Nat.mod_lt _ (by omega)), fun j hj => by rw [val_set_ne (by omega)]; exact hzh j hj, by omega, by omega, hsd.2.1, ?_, ?_⟩
      · rcases Nat.lt_or_ge i ys.length with h | h
        · exact .inl (by omega)
        · right; rw [getD_out h]; omega
      · have := less_step (zs := zs) (p := p) (i := i) (x := ys.getD i 0) (by omega) hzv (Nat.mod_add_div (ys.getD i 0 * m + o) 4294967296).symm hsd.1 rfl
        rw [take_snoc_val]; exact this
      dsimp only
      omega
    · refine SL.wp_exit ?_
      refine upd_hit ?_
      refine SL.wp_seq ?_
      refine SL.wp_region ?_
      refine ops_move rfl rfl ?_
      refine ops_eq rfl rfl rfl ?_
      refine ops_assign rfl rfl ?_
      refine ops_nil ?_
      refine SL.wp_ret ?_
      refine leave_nil ⟨[_], ⟨rfl, trivial⟩, ?_⟩
      dsimp only [resVal]
      obtain rfl : i = ys.length + 1 := by omega
      obtain rfl : o = 0 := by omega
      rw [List.take_of_length_le (by omega), Nat.zero_add] at hzv
      exact ⟨LL, Bd, u, zs, BR, hzl, hzlt, hu, hzh, hzv, by congr 1; simp only [decide_eq_decide]; omega⟩


theorem qmore_c {Fz : Nat → Prop} {M : Nat → Prop} {w : World} {bd br cap p L : Nat} {vb : Value} {rs ys : List Nat} {ex : List Value} (hL : rs.length = L) (Bd : Blk w bd 68 [.slice (some ⟨br, 0, none⟩) L cap, vb]) (BR : Blk w br 43 (rs.map lw ++ ex)) (hb : IsNat M w vb ys) (hr : ∀ x ∈ rs, x < 4294967296) (hat : p + ys.length < rs.length) (hrl : rs.length ≤ 1099511627776) (hcap : cap = rs.length + ex.length) (hmr : M br) (nFr : ¬ Fz br) (hF : FOk Fz w) (hM : OkM M w) :
    CallsV Try.prog 78 [.pointer (some ⟨bd, 0, none⟩), .int .i64 (p : Int)] w fun r w' => Le Fz M w M w' ∧ Blk w' bd 68 [.slice (some ⟨br, 0, none⟩) L cap, vb] ∧ ∃ (u : Nat) (zs : List Nat), Blk w' br 43 (zs.map lw ++ ex) ∧ zs.length = rs.length ∧ (∀ z ∈ zs, z < 4294967296) ∧ u ≤ 1 ∧ (∀ j, p + ys.length < j → zs.getD j 0 = rs.getD j 0) ∧ val zs + 4294967296 ^ (p + (ys.length + 1)) * u = val rs + 4294967296 ^ p * val ys ∧ r = .bool (decide ((u : Int) > 0)) := by
  have hyl := hb.len
  have ned_r : bd ≠ br := blk_ne Bd BR (.inl rfl)
  have e32 : (2 : Nat) ^ (32 : Int).toNat = 4294967296 := by decide
  have LL := Le.refl Fz M w; have hM0 := hM
  refine calls_intro Try.func78 rfl Try.ntmps78 rfl ?_
  refine SL.wp_seq ?_
  refine SL.wp_region ?_
  refine ops_assign rfl rfl ?_
  refine ops_nil ?_
  refine SL.wp_seq ?_
  refine SL.wp_region ?_
  refine ops_assign rfl rfl ?_
  refine ops_nil ?_
  refine SL.wp_seq ?_
  refine SL.wp_seq ?_
  refine SL.wp_region ?_
  refine ops_move rfl rfl ?_
  refine ops_nilck rfl rfl ?_
  refine ops_field0 1 rfl Try.underlying68 rfl rfl sz23 rfl rfl ?_
  refine ops_loadb rfl flat23 rfl Bd rfl ?_
  first | refine ops_len rfl Try.underlying23 rfl ?_ | refine ops_lens rfl Try.underlying23 rfl (IsNat.slc (by assumption)) ?_ | refine ops_lenn rfl Try.underlying23 rfl (by assumption) ?_ | refine ops_leno rfl Try.underlying23 rfl (by assumption) ?_
  refine ops_add rfl rfl rfl (by omega) ?_
  refine ops_move rfl rfl ?_
  refine ops_nil ?_
  refine SL.wp_block ?_
  refine SL.wp_loopc (σ := Nat × Nat) [(0, _), (1, _), (12, _)] (fun s => [(5, .int .u64 ((s.2 : Nat) : Int)), (13, .int .i64 ((s.1 : Nat) : Int))]) (fun s w1 => Le Fz M w M w1 ∧ Blk w1 bd 68 [.slice (some ⟨br, 0, none⟩) L cap, vb] ∧ ∃ zs : List Nat, Blk w1 br 43 (zs.map lw ++ ex) ∧ zs.length = rs.length ∧ (∀ z ∈ zs, z < 4294967296) ∧ (∀ j, p + ys.length < j → zs.getD j 0 = rs.getD j 0) ∧ s.1 ≤ ys.length + 1 ∧ s.2 ≤ 1 ∧ val zs + 4294967296 ^ (p + s.1) * s.2 = val rs + 4294967296 ^ p * val (ys.take s.1)) (fun s => ys.length + 1 - s.1) ((0, 0)) (sub_cons rfl (sub_cons rfl (sub_cons rfl (sub_cons rfl (sub_cons rfl sub_nil))))) ?_ (fun s w1 hJ => ?_)
  · exact ⟨Le.refl _ _ _, Bd, rs, BR, rfl, hr, fun _ _ => rfl, by omega, by omega, by simp [val]⟩
  · clear Bd BR
    obtain ⟨i, o⟩ := s
    dsimp only at hJ ⊢
    obtain ⟨LR, Bd, zs, BR, hzl, hzlt, hzh, hi, ho, hzv⟩ := hJ
    have hby := hb.lim i; have hbz := getD_lt hzlt (p + i)
    replace LL := LL.trans LR
    replace hM := hM.mono LR
    replace hF := hF.mono LR
    replace hb := hb.mono LR
    refine SL.wp_seq ?_
    refine SL.wp_region ?_
    refine ops_lt rfl rfl rfl ?_
    refine ops_nil ?_
    refine SL.wp_seq ?_
    refine SL.wp_cond_d rfl (fun hc0 => ?_) (fun hc0 => ?_)
    · refine SL.wp_skip ?_
      refine SL.wp_seq ?_
      refine SL.wp_block ?_
      refine SL.wp_seq ?_
      refine SL.wp_region ?_
      refine ops_move rfl rfl ?_
      refine ops_assign rfl rfl ?_
      refine ops_nil ?_
      refine SL.wp_seq ?_
      refine SL.wp_seq ?_
      refine SL.wp_region ?_
      refine ops_move rfl rfl ?_
      refine ops_move rfl rfl ?_
      refine ops_nilck rfl rfl ?_
      refine ops_field0 1 rfl Try.underlying68 rfl rfl sz23 rfl rfl ?_
      refine ops_loadb rfl flat23 rfl Bd rfl ?_
      first | refine ops_len rfl Try.underlying23 rfl ?_ | refine ops_lens rfl Try.underlying23 rfl (IsNat.slc (by assumption)) ?_ | refine ops_lenn rfl Try.underlying23 rfl (by assumption) ?_ | refine ops_leno rfl Try.underlying23 rfl (by assumption) ?_
      refine ops_lt rfl rfl rfl ?_
      refine ops_nil ?_
      refine SL.wp_cutj [(5, .int .u64 ((o + ys.getD i 0 : Nat) : Int))] [(0, _), (1, _), (6, _), (12, _), (13, _), (14, _), (15, _), (16, _), (17, _), (18, _), (19, _), (20, _), (21, _), (22, _)] (sub_cons rfl (sub_cons rfl (sub_cons rfl (sub_cons rfl (sub_cons rfl (sub_cons rfl (sub_cons rfl (sub_cons rfl (sub_cons rfl (sub_cons rfl (sub_cons rfl (sub_cons rfl (sub_cons rfl (sub_cons rfl sub_nil)))))))))))))) ?_ ?_
      · refine SL.wp_cond_d rfl (fun hc1 => ?_) (fun hc1 => ?_)
        · refine SL.wp_region ?_
          refine ops_move rfl rfl ?_
          refine ops_move rfl rfl ?_
          refine ops_nilck rfl rfl ?_
          refine ops_field0 1 rfl Try.underlying68 rfl rfl sz23 rfl rfl ?_
          refine ops_loadb rfl flat23 rfl Bd rfl ?_
          refine ops_move rfl rfl ?_
          refine ops_idxn (i) rfl Try.underlying23 sz43 rfl rfl (by assumption) (by omega) (by omega) (fun b29 o29 hc29 hb29 => ?_)
          refine ops_load rfl flat43 rfl hc29 ?_
          refine ops_to64 rfl Try.underlying43 Try.underlying25 rfl (by omega) ?_
          first | refine ops_addv rfl rfl rfl (by omega) ?_ | refine ops_addu rfl rfl rfl ?_
          refine ops_assign rfl rfl ?_
          refine ops_nil ?_
          exact ⟨rfl, rfl, (sub_cons' rfl (rfl) (sub_cons rfl (sub_cons rfl (sub_cons rfl (sub_cons rfl (sub_cons rfl (sub_cons rfl (sub_cons rfl (sub_cons rfl (sub_cons rfl (sub_cons rfl (sub_cons rfl (sub_cons rfl (sub_cons rfl (sub_cons rfl sub_nil)))))))))))))))⟩
        · refine SL.wp_skip ?_
          exact ⟨rfl, rfl, (sub_cons' rfl (by rw [getD_out (by omega)]; rfl) (sub_cons rfl (sub_cons rfl (sub_cons rfl (sub_cons rfl (sub_cons rfl (sub_cons rfl (sub_cons rfl (sub_cons rfl (sub_cons rfl (sub_cons rfl (sub_cons rfl (sub_cons rfl (sub_cons rfl (sub_cons rfl sub_nil)))))))))))))))⟩
      refine SL.wp_seq ?_
      refine SL.wp_region ?_
      refine ops_move rfl rfl ?_
      refine ops_move rfl rfl ?_
      refine ops_nilck rfl rfl ?_
      refine ops_field0 0 rfl Try.underlying68 rfl rfl sz23 rfl rfl ?_
      refine ops_loadb rfl flat23 rfl Bd rfl ?_
      refine ops_move rfl rfl ?_
      refine ops_move rfl rfl ?_
      refine ops_add rfl rfl rfl (by omega) ?_
      refine ops_idxb0 (p + i) rfl Try.underlying23 sz43 rfl rfl (by omega) (by omega) ?_
      have hc41 := blk_limb BR (j := p + i) (by omega)
      refine ops_load rfl flat43 rfl hc41 ?_
      refine ops_to64 rfl Try.underlying43 Try.underlying25 rfl (by omega) ?_
      first | refine ops_addv rfl rfl rfl (by omega) ?_ | refine ops_addu rfl rfl rfl ?_
      refine ops_assign rfl rfl ?_
      refine ops_nil ?_
      refine SL.wp_seq ?_
      refine SL.wp_region ?_
      refine ops_move rfl rfl ?_
      refine ops_nilck rfl rfl ?_
      refine ops_field0 0 rfl Try.underlying68 rfl rfl sz23 rfl rfl ?_
      refine ops_loadb rfl flat23 rfl Bd rfl ?_
      refine ops_move rfl rfl ?_
      refine ops_move rfl rfl ?_
      refine ops_add rfl rfl rfl (by omega) ?_
      refine ops_move rfl rfl ?_
      refine ops_to32 rfl Try.underlying25 Try.underlying43 rfl ?_
      refine ops_idxb0 (p + i) rfl Try.underlying23 sz43 rfl rfl (by omega) (by omega) ?_
      refine ops_storei (i := p + i) rfl rfl sz43 BR rfl (by simp; omega) (fun w2 Cw2 BN => ?_)
      have Lw2 := Le.of_chg (Fz := Fz) (M := M) Cw2 hmr nFr
      replace LL := LL.trans Lw2
      replace LR := LR.trans Lw2
      replace hM := hM.mono Lw2
      replace hF := hF.mono Lw2
      replace hb := hb.mono Lw2
      replace Bd := Bd.other Cw2 ned_r
      replace BN := BN.eq (set_limb (rs := zs) (ex := ex) (v := (o + ys.getD i 0 + zs.getD (p + i) 0) % 4294967296) (show p + i < zs.length by omega))
      clear BR; have BR := BN; clear BN
      refine ops_nil ?_
      refine SL.wp_region ?_
      refine ops_move rfl rfl ?_
      refine ops_shru rfl rfl rfl (by simp only [IntKind.bits]; omega) ?_
      refine ops_assign rfl rfl ?_
      refine ops_nil ?_
      refine SL.wp_region ?_
      refine ops_add rfl rfl rfl (by omega) ?_
      refine ops_move rfl rfl ?_
      refine ops_nil ?_
      refine ⟨rfl, (i + 1, (o + ys.getD i 0 + zs.getD (p + i) 0) / 4294967296), (sub_cons' rfl (rfl) (sub_cons' rfl (rfl) (sub_cons rfl (sub_cons rfl (sub_cons rfl sub_nil))))), ?_, ?_⟩
      dsimp only
      refine ⟨LR, Bd, _, BR, by simp [hzl], set_lt hzlt (Nat.mod_lt _ (by omega)), fun j hj => by rw [val_set_ne (by omega)]; exact hzh j hj, by omega, by omega, ?_⟩
      have := more_step (zs := zs) (p := p) (i := i) (x := ys.getD i 0) (by omega) hzv rfl rfl
      rw [take_snoc_val]; exact this
      dsimp only
      omega
    · refine SL.wp_exit ?_
      refine upd_hit ?_
      refine SL.wp_seq ?_
      refine SL.wp_region ?_
      refine ops_move rfl rfl ?_
      refine ops_gt rfl rfl rfl ?_
      refine ops_assign rfl rfl ?_
      refine ops_nil ?_
      refine SL.wp_ret ?_
      refine leave_nil ⟨[_], ⟨rfl, trivial⟩, ?_⟩
      dsimp only [resVal]
      obtain rfl : i = ys.length + 1 := by omega
      rw [List.take_of_length_le (by omega)] at hzv
      exact ⟨LL, Bd, o, zs, BR, hzl, hzlt, ho, hzh, hzv, rfl⟩

end Go.Proofs.Ytffakiheophioaa
