import Derived.Test.YtffakiheophioaaProg
import Derived.Test.YtffakiheophioaaSLa
set_option linter.unusedVariables false
namespace Go.Proofs.Ytffakiheophioaa
open Go.SL Go.RowKit Go.Proofs
theorem sz3 : Sz Try.prog 3 1 8 (.int .i64 0) := by
  have h : (Try.prog.info? 3).map (fun i => (i.zero, i.size, i.bytes)) = some (some (.int .i64 0), 1, 8) := by kernel_rfl
  obtain ⟨i, h1, h2, h3, h4⟩ := info_parts h
  exact ⟨i, h1, h3, h4, h2⟩
theorem flat3 : Flat Try.prog 3 := flat_of Try.underlying3 rfl
theorem sz4 : Sz Try.prog 4 1 1 (.bool false) := by
  have h : (Try.prog.info? 4).map (fun i => (i.zero, i.size, i.bytes)) = some (some (.bool false), 1, 1) := by kernel_rfl
  obtain ⟨i, h1, h2, h3, h4⟩ := info_parts h
  exact ⟨i, h1, h3, h4, h2⟩
theorem flat4 : Flat Try.prog 4 := flat_of Try.underlying4 rfl
theorem sz5 : Sz Try.prog 5 1 1 (.int .u8 0) := by
  have h : (Try.prog.info? 5).map (fun i => (i.zero, i.size, i.bytes)) = some (some (.int .u8 0), 1, 1) := by kernel_rfl
  obtain ⟨i, h1, h2, h3, h4⟩ := info_parts h
  exact ⟨i, h1, h3, h4, h2⟩
theorem flat5 : Flat Try.prog 5 := flat_of Try.underlying5 rfl
theorem sz12 : Sz Try.prog 12 1 8 (.int .u64 0) := by
  have h : (Try.prog.info? 12).map (fun i => (i.zero, i.size, i.bytes)) = some (some (.int .u64 0), 1, 8) := by kernel_rfl
  obtain ⟨i, h1, h2, h3, h4⟩ := info_parts h
  exact ⟨i, h1, h3, h4, h2⟩
theorem flat12 : Flat Try.prog 12 := flat_of Try.underlying12 rfl
theorem sz21 : Sz Try.prog 21 1 4 (.int .i32 0) := by
  have h : (Try.prog.info? 21).map (fun i => (i.zero, i.size, i.bytes)) = some (some (.int .i32 0), 1, 4) := by kernel_rfl
  obtain ⟨i, h1, h2, h3, h4⟩ := info_parts h
  exact ⟨i, h1, h3, h4, h2⟩
theorem flat21 : Flat Try.prog 21 := flat_of Try.underlying21 rfl
theorem sz22 : Sz Try.prog 22 1 24 (.slice none 0 0) := by
  have h : (Try.prog.info? 22).map (fun i => (i.zero, i.size, i.bytes)) = some (some (.slice none 0 0), 1, 24) := by kernel_rfl
  obtain ⟨i, h1, h2, h3, h4⟩ := info_parts h
  exact ⟨i, h1, h3, h4, h2⟩
theorem flat22 : Flat Try.prog 22 := flat_of Try.underlying22 rfl
theorem sz23 : Sz Try.prog 23 1 24 (.slice none 0 0) := by
  have h : (Try.prog.info? 23).map (fun i => (i.zero, i.size, i.bytes)) = some (some (.slice none 0 0), 1, 24) := by kernel_rfl
  obtain ⟨i, h1, h2, h3, h4⟩ := info_parts h
  exact ⟨i, h1, h3, h4, h2⟩
theorem flat23 : Flat Try.prog 23 := flat_of Try.underlying23 rfl
theorem sz24 : Sz Try.prog 24 1 24 (.slice none 0 0) := by
  have h : (Try.prog.info? 24).map (fun i => (i.zero, i.size, i.bytes)) = some (some (.slice none 0 0), 1, 24) := by kernel_rfl
  obtain ⟨i, h1, h2, h3, h4⟩ := info_parts h
  exact ⟨i, h1, h3, h4, h2⟩
theorem flat24 : Flat Try.prog 24 := flat_of Try.underlying24 rfl
theorem sz25 : Sz Try.prog 25 1 8 (.int .u64 0) := by
  have h : (Try.prog.info? 25).map (fun i => (i.zero, i.size, i.bytes)) = some (some (.int .u64 0), 1, 8) := by kernel_rfl
  obtain ⟨i, h1, h2, h3, h4⟩ := info_parts h
  exact ⟨i, h1, h3, h4, h2⟩
theorem flat25 : Flat Try.prog 25 := flat_of Try.underlying25 rfl
theorem sz26 : Sz Try.prog 26 1 8 .nilFunc := by
  have h : (Try.prog.info? 26).map (fun i => (i.zero, i.size, i.bytes)) = some (some .nilFunc, 1, 8) := by kernel_rfl
  obtain ⟨i, h1, h2, h3, h4⟩ := info_parts h
  exact ⟨i, h1, h3, h4, h2⟩
theorem flat26 : Flat Try.prog 26 := flat_of Try.underlying26 rfl
theorem sz27 : Sz Try.prog 27 1 8 .nilFunc := by
  have h : (Try.prog.info? 27).map (fun i => (i.zero, i.size, i.bytes)) = some (some .nilFunc, 1, 8) := by kernel_rfl
  obtain ⟨i, h1, h2, h3, h4⟩ := info_parts h
  exact ⟨i, h1, h3, h4, h2⟩
theorem flat27 : Flat Try.prog 27 := flat_of Try.underlying27 rfl
theorem sz29 : Sz Try.prog 29 1 8 .nilFunc := by
  have h : (Try.prog.info? 29).map (fun i => (i.zero, i.size, i.bytes)) = some (some .nilFunc, 1, 8) := by kernel_rfl
  obtain ⟨i, h1, h2, h3, h4⟩ := info_parts h
  exact ⟨i, h1, h3, h4, h2⟩
theorem flat29 : Flat Try.prog 29 := flat_of Try.underlying29 rfl
theorem sz30 : Sz Try.prog 30 1 8 (.int .i64 0) := by
  have h : (Try.prog.info? 30).map (fun i => (i.zero, i.size, i.bytes)) = some (some (.int .i64 0), 1, 8) := by kernel_rfl
  obtain ⟨i, h1, h2, h3, h4⟩ := info_parts h
  exact ⟨i, h1, h3, h4, h2⟩
theorem flat30 : Flat Try.prog 30 := flat_of Try.underlying30 rfl
theorem sz32 : Sz Try.prog 32 1 8 .nilFunc := by
  have h : (Try.prog.info? 32).map (fun i => (i.zero, i.size, i.bytes)) = some (some .nilFunc, 1, 8) := by kernel_rfl
  obtain ⟨i, h1, h2, h3, h4⟩ := info_parts h
  exact ⟨i, h1, h3, h4, h2⟩
theorem flat32 : Flat Try.prog 32 := flat_of Try.underlying32 rfl
theorem sz33 : Sz Try.prog 33 1 8 .nilFunc := by
  have h : (Try.prog.info? 33).map (fun i => (i.zero, i.size, i.bytes)) = some (some .nilFunc, 1, 8) := by kernel_rfl
  obtain ⟨i, h1, h2, h3, h4⟩ := info_parts h
  exact ⟨i, h1, h3, h4, h2⟩
theorem flat33 : Flat Try.prog 33 := flat_of Try.underlying33 rfl
theorem sz34 : Sz Try.prog 34 1 8 .nilFunc := by
  have h : (Try.prog.info? 34).map (fun i => (i.zero, i.size, i.bytes)) = some (some .nilFunc, 1, 8) := by kernel_rfl
  obtain ⟨i, h1, h2, h3, h4⟩ := info_parts h
  exact ⟨i, h1, h3, h4, h2⟩
theorem flat34 : Flat Try.prog 34 := flat_of Try.underlying34 rfl
theorem sz35 : Sz Try.prog 35 1 8 .nilFunc := by
  have h : (Try.prog.info? 35).map (fun i => (i.zero, i.size, i.bytes)) = some (some .nilFunc, 1, 8) := by kernel_rfl
  obtain ⟨i, h1, h2, h3, h4⟩ := info_parts h
  exact ⟨i, h1, h3, h4, h2⟩
theorem flat35 : Flat Try.prog 35 := flat_of Try.underlying35 rfl
theorem sz36 : Sz Try.prog 36 1 8 .nilFunc := by
  have h : (Try.prog.info? 36).map (fun i => (i.zero, i.size, i.bytes)) = some (some .nilFunc, 1, 8) := by kernel_rfl
  obtain ⟨i, h1, h2, h3, h4⟩ := info_parts h
  exact ⟨i, h1, h3, h4, h2⟩
theorem flat36 : Flat Try.prog 36 := flat_of Try.underlying36 rfl
theorem sz37 : Sz Try.prog 37 1 8 .nilFunc := by
  have h : (Try.prog.info? 37).map (fun i => (i.zero, i.size, i.bytes)) = some (some .nilFunc, 1, 8) := by kernel_rfl
  obtain ⟨i, h1, h2, h3, h4⟩ := info_parts h
  exact ⟨i, h1, h3, h4, h2⟩
theorem flat37 : Flat Try.prog 37 := flat_of Try.underlying37 rfl
theorem sz38 : Sz Try.prog 38 1 8 .nilFunc := by
  have h : (Try.prog.info? 38).map (fun i => (i.zero, i.size, i.bytes)) = some (some .nilFunc, 1, 8) := by kernel_rfl
  obtain ⟨i, h1, h2, h3, h4⟩ := info_parts h
  exact ⟨i, h1, h3, h4, h2⟩
theorem flat38 : Flat Try.prog 38 := flat_of Try.underlying38 rfl
theorem sz39 : Sz Try.prog 39 1 8 .nilFunc := by
  have h : (Try.prog.info? 39).map (fun i => (i.zero, i.size, i.bytes)) = some (some .nilFunc, 1, 8) := by kernel_rfl
  obtain ⟨i, h1, h2, h3, h4⟩ := info_parts h
  exact ⟨i, h1, h3, h4, h2⟩
theorem flat39 : Flat Try.prog 39 := flat_of Try.underlying39 rfl
theorem sz40 : Sz Try.prog 40 1 8 .nilFunc := by
  have h : (Try.prog.info? 40).map (fun i => (i.zero, i.size, i.bytes)) = some (some .nilFunc, 1, 8) := by kernel_rfl
  obtain ⟨i, h1, h2, h3, h4⟩ := info_parts h
  exact ⟨i, h1, h3, h4, h2⟩
theorem flat40 : Flat Try.prog 40 := flat_of Try.underlying40 rfl
theorem sz41 : Sz Try.prog 41 1 8 .nilFunc := by
  have h : (Try.prog.info? 41).map (fun i => (i.zero, i.size, i.bytes)) = some (some .nilFunc, 1, 8) := by kernel_rfl
  obtain ⟨i, h1, h2, h3, h4⟩ := info_parts h
  exact ⟨i, h1, h3, h4, h2⟩
theorem flat41 : Flat Try.prog 41 := flat_of Try.underlying41 rfl
theorem sz42 : Sz Try.prog 42 1 8 .nilFunc := by
  have h : (Try.prog.info? 42).map (fun i => (i.zero, i.size, i.bytes)) = some (some .nilFunc, 1, 8) := by kernel_rfl
  obtain ⟨i, h1, h2, h3, h4⟩ := info_parts h
  exact ⟨i, h1, h3, h4, h2⟩
theorem flat42 : Flat Try.prog 42 := flat_of Try.underlying42 rfl
theorem sz43 : Sz Try.prog 43 1 4 (.int .u32 0) := by
  have h : (Try.prog.info? 43).map (fun i => (i.zero, i.size, i.bytes)) = some (some (.int .u32 0), 1, 4) := by kernel_rfl
  obtain ⟨i, h1, h2, h3, h4⟩ := info_parts h
  exact ⟨i, h1, h3, h4, h2⟩
theorem flat43 : Flat Try.prog 43 := flat_of Try.underlying43 rfl
theorem sz44 : Sz Try.prog 44 1 8 .nilFunc := by
  have h : (Try.prog.info? 44).map (fun i => (i.zero, i.size, i.bytes)) = some (some .nilFunc, 1, 8) := by kernel_rfl
  obtain ⟨i, h1, h2, h3, h4⟩ := info_parts h
  exact ⟨i, h1, h3, h4, h2⟩
theorem flat44 : Flat Try.prog 44 := flat_of Try.underlying44 rfl
theorem sz45 : Sz Try.prog 45 1 8 .nilFunc := by
  have h : (Try.prog.info? 45).map (fun i => (i.zero, i.size, i.bytes)) = some (some .nilFunc, 1, 8) := by kernel_rfl
  obtain ⟨i, h1, h2, h3, h4⟩ := info_parts h
  exact ⟨i, h1, h3, h4, h2⟩
theorem flat45 : Flat Try.prog 45 := flat_of Try.underlying45 rfl
theorem sz46 : Sz Try.prog 46 1 8 .nilFunc := by
  have h : (Try.prog.info? 46).map (fun i => (i.zero, i.size, i.bytes)) = some (some .nilFunc, 1, 8) := by kernel_rfl
  obtain ⟨i, h1, h2, h3, h4⟩ := info_parts h
  exact ⟨i, h1, h3, h4, h2⟩
theorem flat46 : Flat Try.prog 46 := flat_of Try.underlying46 rfl
theorem sz47 : Sz Try.prog 47 1 8 .nilFunc := by
  have h : (Try.prog.info? 47).map (fun i => (i.zero, i.size, i.bytes)) = some (some .nilFunc, 1, 8) := by kernel_rfl
  obtain ⟨i, h1, h2, h3, h4⟩ := info_parts h
  exact ⟨i, h1, h3, h4, h2⟩
theorem flat47 : Flat Try.prog 47 := flat_of Try.underlying47 rfl
theorem sz48 : Sz Try.prog 48 1 8 .nilFunc := by
  have h : (Try.prog.info? 48).map (fun i => (i.zero, i.size, i.bytes)) = some (some .nilFunc, 1, 8) := by kernel_rfl
  obtain ⟨i, h1, h2, h3, h4⟩ := info_parts h
  exact ⟨i, h1, h3, h4, h2⟩
theorem flat48 : Flat Try.prog 48 := flat_of Try.underlying48 rfl
theorem sz49 : Sz Try.prog 49 1 8 .nilFunc := by
  have h : (Try.prog.info? 49).map (fun i => (i.zero, i.size, i.bytes)) = some (some .nilFunc, 1, 8) := by kernel_rfl
  obtain ⟨i, h1, h2, h3, h4⟩ := info_parts h
  exact ⟨i, h1, h3, h4, h2⟩
theorem flat49 : Flat Try.prog 49 := flat_of Try.underlying49 rfl
theorem sz51 : Sz Try.prog 51 1 8 .nilFunc := by
  have h : (Try.prog.info? 51).map (fun i => (i.zero, i.size, i.bytes)) = some (some .nilFunc, 1, 8) := by kernel_rfl
  obtain ⟨i, h1, h2, h3, h4⟩ := info_parts h
  exact ⟨i, h1, h3, h4, h2⟩
theorem flat51 : Flat Try.prog 51 := flat_of Try.underlying51 rfl
theorem sz53 : Sz Try.prog 53 1 8 .nilFunc := by
  have h : (Try.prog.info? 53).map (fun i => (i.zero, i.size, i.bytes)) = some (some .nilFunc, 1, 8) := by kernel_rfl
  obtain ⟨i, h1, h2, h3, h4⟩ := info_parts h
  exact ⟨i, h1, h3, h4, h2⟩
theorem flat53 : Flat Try.prog 53 := flat_of Try.underlying53 rfl
theorem sz54 : Sz Try.prog 54 1 8 .nilFunc := by
  have h : (Try.prog.info? 54).map (fun i => (i.zero, i.size, i.bytes)) = some (some .nilFunc, 1, 8) := by kernel_rfl
  obtain ⟨i, h1, h2, h3, h4⟩ := info_parts h
  exact ⟨i, h1, h3, h4, h2⟩
theorem flat54 : Flat Try.prog 54 := flat_of Try.underlying54 rfl
theorem sz55 : Sz Try.prog 55 1 8 .nilFunc := by
  have h : (Try.prog.info? 55).map (fun i => (i.zero, i.size, i.bytes)) = some (some .nilFunc, 1, 8) := by kernel_rfl
  obtain ⟨i, h1, h2, h3, h4⟩ := info_parts h
  exact ⟨i, h1, h3, h4, h2⟩
theorem flat55 : Flat Try.prog 55 := flat_of Try.underlying55 rfl
theorem sz56 : Sz Try.prog 56 1 8 .nilFunc := by
  have h : (Try.prog.info? 56).map (fun i => (i.zero, i.size, i.bytes)) = some (some .nilFunc, 1, 8) := by kernel_rfl
  obtain ⟨i, h1, h2, h3, h4⟩ := info_parts h
  exact ⟨i, h1, h3, h4, h2⟩
theorem flat56 : Flat Try.prog 56 := flat_of Try.underlying56 rfl
theorem sz57 : Sz Try.prog 57 1 8 (.int .u64 0) := by
  have h : (Try.prog.info? 57).map (fun i => (i.zero, i.size, i.bytes)) = some (some (.int .u64 0), 1, 8) := by kernel_rfl
  obtain ⟨i, h1, h2, h3, h4⟩ := info_parts h
  exact ⟨i, h1, h3, h4, h2⟩
theorem flat57 : Flat Try.prog 57 := flat_of Try.underlying57 rfl
theorem sz58 : Sz Try.prog 58 1 8 .nilFunc := by
  have h : (Try.prog.info? 58).map (fun i => (i.zero, i.size, i.bytes)) = some (some .nilFunc, 1, 8) := by kernel_rfl
  obtain ⟨i, h1, h2, h3, h4⟩ := info_parts h
  exact ⟨i, h1, h3, h4, h2⟩
theorem flat58 : Flat Try.prog 58 := flat_of Try.underlying58 rfl
theorem sz59 : Sz Try.prog 59 1 8 .nilFunc := by
  have h : (Try.prog.info? 59).map (fun i => (i.zero, i.size, i.bytes)) = some (some .nilFunc, 1, 8) := by kernel_rfl
  obtain ⟨i, h1, h2, h3, h4⟩ := info_parts h
  exact ⟨i, h1, h3, h4, h2⟩
theorem flat59 : Flat Try.prog 59 := flat_of Try.underlying59 rfl
theorem sz60 : Sz Try.prog 60 1 8 .nilFunc := by
  have h : (Try.prog.info? 60).map (fun i => (i.zero, i.size, i.bytes)) = some (some .nilFunc, 1, 8) := by kernel_rfl
  obtain ⟨i, h1, h2, h3, h4⟩ := info_parts h
  exact ⟨i, h1, h3, h4, h2⟩
theorem flat60 : Flat Try.prog 60 := flat_of Try.underlying60 rfl
theorem sz61 : Sz Try.prog 61 1 8 .nilFunc := by
  have h : (Try.prog.info? 61).map (fun i => (i.zero, i.size, i.bytes)) = some (some .nilFunc, 1, 8) := by kernel_rfl
  obtain ⟨i, h1, h2, h3, h4⟩ := info_parts h
  exact ⟨i, h1, h3, h4, h2⟩
theorem flat61 : Flat Try.prog 61 := flat_of Try.underlying61 rfl
theorem sz62 : Sz Try.prog 62 1 8 .nilFunc := by
  have h : (Try.prog.info? 62).map (fun i => (i.zero, i.size, i.bytes)) = some (some .nilFunc, 1, 8) := by kernel_rfl
  obtain ⟨i, h1, h2, h3, h4⟩ := info_parts h
  exact ⟨i, h1, h3, h4, h2⟩
theorem flat62 : Flat Try.prog 62 := flat_of Try.underlying62 rfl
theorem sz63 : Sz Try.prog 63 1 8 .nilFunc := by
  have h : (Try.prog.info? 63).map (fun i => (i.zero, i.size, i.bytes)) = some (some .nilFunc, 1, 8) := by kernel_rfl
  obtain ⟨i, h1, h2, h3, h4⟩ := info_parts h
  exact ⟨i, h1, h3, h4, h2⟩
theorem flat63 : Flat Try.prog 63 := flat_of Try.underlying63 rfl
theorem sz65 : Sz Try.prog 65 1 8 .nilFunc := by
  have h : (Try.prog.info? 65).map (fun i => (i.zero, i.size, i.bytes)) = some (some .nilFunc, 1, 8) := by kernel_rfl
  obtain ⟨i, h1, h2, h3, h4⟩ := info_parts h
  exact ⟨i, h1, h3, h4, h2⟩
theorem flat65 : Flat Try.prog 65 := flat_of Try.underlying65 rfl
theorem sz66 : Sz Try.prog 66 1 8 (.pointer none) := by
  have h : (Try.prog.info? 66).map (fun i => (i.zero, i.size, i.bytes)) = some (some (.pointer none), 1, 8) := by kernel_rfl
  obtain ⟨i, h1, h2, h3, h4⟩ := info_parts h
  exact ⟨i, h1, h3, h4, h2⟩
theorem flat66 : Flat Try.prog 66 := flat_of Try.underlying66 rfl
theorem sz67 : Sz Try.prog 67 2 48 (.agg #[(.slice none 0 0), (.slice none 0 0)]) := by
  have h : (Try.prog.info? 67).map (fun i => (i.zero, i.size, i.bytes)) = some (some (.agg #[(.slice none 0 0), (.slice none 0 0)]), 2, 48) := by kernel_rfl
  obtain ⟨i, h1, h2, h3, h4⟩ := info_parts h
  exact ⟨i, h1, h3, h4, h2⟩
theorem fold67 : Fold Try.prog 67 := fold_of Try.underlying67 rfl
theorem sz68 : Sz Try.prog 68 2 48 (.agg #[(.slice none 0 0), (.slice none 0 0)]) := by
  have h : (Try.prog.info? 68).map (fun i => (i.zero, i.size, i.bytes)) = some (some (.agg #[(.slice none 0 0), (.slice none 0 0)]), 2, 48) := by kernel_rfl
  obtain ⟨i, h1, h2, h3, h4⟩ := info_parts h
  exact ⟨i, h1, h3, h4, h2⟩
theorem fold68 : Fold Try.prog 68 := fold_of Try.underlying68 rfl
theorem sz69 : Sz Try.prog 69 1 8 .nilFunc := by
  have h : (Try.prog.info? 69).map (fun i => (i.zero, i.size, i.bytes)) = some (some .nilFunc, 1, 8) := by kernel_rfl
  obtain ⟨i, h1, h2, h3, h4⟩ := info_parts h
  exact ⟨i, h1, h3, h4, h2⟩
theorem flat69 : Flat Try.prog 69 := flat_of Try.underlying69 rfl
theorem sz70 : Sz Try.prog 70 1 8 .nilFunc := by
  have h : (Try.prog.info? 70).map (fun i => (i.zero, i.size, i.bytes)) = some (some .nilFunc, 1, 8) := by kernel_rfl
  obtain ⟨i, h1, h2, h3, h4⟩ := info_parts h
  exact ⟨i, h1, h3, h4, h2⟩
theorem flat70 : Flat Try.prog 70 := flat_of Try.underlying70 rfl
theorem sz71 : Sz Try.prog 71 1 8 .nilFunc := by
  have h : (Try.prog.info? 71).map (fun i => (i.zero, i.size, i.bytes)) = some (some .nilFunc, 1, 8) := by kernel_rfl
  obtain ⟨i, h1, h2, h3, h4⟩ := info_parts h
  exact ⟨i, h1, h3, h4, h2⟩
theorem flat71 : Flat Try.prog 71 := flat_of Try.underlying71 rfl
theorem sz72 : Sz Try.prog 72 1 8 .nilFunc := by
  have h : (Try.prog.info? 72).map (fun i => (i.zero, i.size, i.bytes)) = some (some .nilFunc, 1, 8) := by kernel_rfl
  obtain ⟨i, h1, h2, h3, h4⟩ := info_parts h
  exact ⟨i, h1, h3, h4, h2⟩
theorem flat72 : Flat Try.prog 72 := flat_of Try.underlying72 rfl
theorem sz73 : Sz Try.prog 73 1 8 .nilFunc := by
  have h : (Try.prog.info? 73).map (fun i => (i.zero, i.size, i.bytes)) = some (some .nilFunc, 1, 8) := by kernel_rfl
  obtain ⟨i, h1, h2, h3, h4⟩ := info_parts h
  exact ⟨i, h1, h3, h4, h2⟩
theorem flat73 : Flat Try.prog 73 := flat_of Try.underlying73 rfl
theorem sz74 : Sz Try.prog 74 1 8 .nilFunc := by
  have h : (Try.prog.info? 74).map (fun i => (i.zero, i.size, i.bytes)) = some (some .nilFunc, 1, 8) := by kernel_rfl
  obtain ⟨i, h1, h2, h3, h4⟩ := info_parts h
  exact ⟨i, h1, h3, h4, h2⟩
theorem flat74 : Flat Try.prog 74 := flat_of Try.underlying74 rfl
theorem sz75 : Sz Try.prog 75 1 8 .nilFunc := by
  have h : (Try.prog.info? 75).map (fun i => (i.zero, i.size, i.bytes)) = some (some .nilFunc, 1, 8) := by kernel_rfl
  obtain ⟨i, h1, h2, h3, h4⟩ := info_parts h
  exact ⟨i, h1, h3, h4, h2⟩
theorem flat75 : Flat Try.prog 75 := flat_of Try.underlying75 rfl
theorem sz76 : Sz Try.prog 76 1 8 .nilFunc := by
  have h : (Try.prog.info? 76).map (fun i => (i.zero, i.size, i.bytes)) = some (some .nilFunc, 1, 8) := by kernel_rfl
  obtain ⟨i, h1, h2, h3, h4⟩ := info_parts h
  exact ⟨i, h1, h3, h4, h2⟩
theorem flat76 : Flat Try.prog 76 := flat_of Try.underlying76 rfl
theorem sz77 : Sz Try.prog 77 1 8 .nilFunc := by
  have h : (Try.prog.info? 77).map (fun i => (i.zero, i.size, i.bytes)) = some (some .nilFunc, 1, 8) := by kernel_rfl
  obtain ⟨i, h1, h2, h3, h4⟩ := info_parts h
  exact ⟨i, h1, h3, h4, h2⟩
theorem flat77 : Flat Try.prog 77 := flat_of Try.underlying77 rfl
theorem sz78 : Sz Try.prog 78 1 8 .nilFunc := by
  have h : (Try.prog.info? 78).map (fun i => (i.zero, i.size, i.bytes)) = some (some .nilFunc, 1, 8) := by kernel_rfl
  obtain ⟨i, h1, h2, h3, h4⟩ := info_parts h
  exact ⟨i, h1, h3, h4, h2⟩
theorem flat78 : Flat Try.prog 78 := flat_of Try.underlying78 rfl
theorem sz79 : Sz Try.prog 79 1 8 .nilFunc := by
  have h : (Try.prog.info? 79).map (fun i => (i.zero, i.size, i.bytes)) = some (some .nilFunc, 1, 8) := by kernel_rfl
  obtain ⟨i, h1, h2, h3, h4⟩ := info_parts h
  exact ⟨i, h1, h3, h4, h2⟩
theorem flat79 : Flat Try.prog 79 := flat_of Try.underlying79 rfl
theorem sz80 : Sz Try.prog 80 1 8 .nilFunc := by
  have h : (Try.prog.info? 80).map (fun i => (i.zero, i.size, i.bytes)) = some (some .nilFunc, 1, 8) := by kernel_rfl
  obtain ⟨i, h1, h2, h3, h4⟩ := info_parts h
  exact ⟨i, h1, h3, h4, h2⟩
theorem flat80 : Flat Try.prog 80 := flat_of Try.underlying80 rfl
theorem sz82 : Sz Try.prog 82 1 8 .nilFunc := by
  have h : (Try.prog.info? 82).map (fun i => (i.zero, i.size, i.bytes)) = some (some .nilFunc, 1, 8) := by kernel_rfl
  obtain ⟨i, h1, h2, h3, h4⟩ := info_parts h
  exact ⟨i, h1, h3, h4, h2⟩
theorem flat82 : Flat Try.prog 82 := flat_of Try.underlying82 rfl
theorem sz83 : Sz Try.prog 83 1 8 .nilFunc := by
  have h : (Try.prog.info? 83).map (fun i => (i.zero, i.size, i.bytes)) = some (some .nilFunc, 1, 8) := by kernel_rfl
  obtain ⟨i, h1, h2, h3, h4⟩ := info_parts h
  exact ⟨i, h1, h3, h4, h2⟩
theorem flat83 : Flat Try.prog 83 := flat_of Try.underlying83 rfl
theorem sz84 : Sz Try.prog 84 1 8 .nilFunc := by
  have h : (Try.prog.info? 84).map (fun i => (i.zero, i.size, i.bytes)) = some (some .nilFunc, 1, 8) := by kernel_rfl
  obtain ⟨i, h1, h2, h3, h4⟩ := info_parts h
  exact ⟨i, h1, h3, h4, h2⟩
theorem flat84 : Flat Try.prog 84 := flat_of Try.underlying84 rfl
theorem sz90 : Sz Try.prog 90 1 8 .nilFunc := by
  have h : (Try.prog.info? 90).map (fun i => (i.zero, i.size, i.bytes)) = some (some .nilFunc, 1, 8) := by kernel_rfl
  obtain ⟨i, h1, h2, h3, h4⟩ := info_parts h
  exact ⟨i, h1, h3, h4, h2⟩
theorem flat90 : Flat Try.prog 90 := flat_of Try.underlying90 rfl
theorem sz94 : Sz Try.prog 94 1 8 (.pointer none) := by
  have h : (Try.prog.info? 94).map (fun i => (i.zero, i.size, i.bytes)) = some (some (.pointer none), 1, 8) := by kernel_rfl
  obtain ⟨i, h1, h2, h3, h4⟩ := info_parts h
  exact ⟨i, h1, h3, h4, h2⟩
theorem flat94 : Flat Try.prog 94 := flat_of Try.underlying94 rfl
theorem bod3 : Bod Try.prog 3 := ⟨_, Try.func3, rfl, by decide⟩
theorem bod4 : Bod Try.prog 4 := ⟨_, Try.func4, rfl, by decide⟩
theorem bod5 : Bod Try.prog 5 := ⟨_, Try.func5, rfl, by decide⟩
theorem bod6 : Bod Try.prog 6 := ⟨_, Try.func6, rfl, by decide⟩
theorem bod7 : Bod Try.prog 7 := ⟨_, Try.func7, rfl, by decide⟩
theorem bod8 : Bod Try.prog 8 := ⟨_, Try.func8, rfl, by decide⟩
theorem bod9 : Bod Try.prog 9 := ⟨_, Try.func9, rfl, by decide⟩
theorem bod10 : Bod Try.prog 10 := ⟨_, Try.func10, rfl, by decide⟩
theorem bod11 : Bod Try.prog 11 := ⟨_, Try.func11, rfl, by decide⟩
theorem bod12 : Bod Try.prog 12 := ⟨_, Try.func12, rfl, by decide⟩
theorem bod13 : Bod Try.prog 13 := ⟨_, Try.func13, rfl, by decide⟩
theorem bod14 : Bod Try.prog 14 := ⟨_, Try.func14, rfl, by decide⟩
theorem bod15 : Bod Try.prog 15 := ⟨_, Try.func15, rfl, by decide⟩
theorem bod16 : Bod Try.prog 16 := ⟨_, Try.func16, rfl, by decide⟩
theorem bod17 : Bod Try.prog 17 := ⟨_, Try.func17, rfl, by decide⟩
theorem bod18 : Bod Try.prog 18 := ⟨_, Try.func18, rfl, by decide⟩
theorem bod19 : Bod Try.prog 19 := ⟨_, Try.func19, rfl, by decide⟩
theorem bod20 : Bod Try.prog 20 := ⟨_, Try.func20, rfl, by decide⟩
theorem bod21 : Bod Try.prog 21 := ⟨_, Try.func21, rfl, by decide⟩
theorem bod22 : Bod Try.prog 22 := ⟨_, Try.func22, rfl, by decide⟩
theorem bod23 : Bod Try.prog 23 := ⟨_, Try.func23, rfl, by decide⟩
theorem bod24 : Bod Try.prog 24 := ⟨_, Try.func24, rfl, by decide⟩
theorem bod25 : Bod Try.prog 25 := ⟨_, Try.func25, rfl, by decide⟩
theorem bod26 : Bod Try.prog 26 := ⟨_, Try.func26, rfl, by decide⟩
theorem bod27 : Bod Try.prog 27 := ⟨_, Try.func27, rfl, by decide⟩
theorem bod28 : Bod Try.prog 28 := ⟨_, Try.func28, rfl, by decide⟩
theorem bod29 : Bod Try.prog 29 := ⟨_, Try.func29, rfl, by decide⟩
theorem bod30 : Bod Try.prog 30 := ⟨_, Try.func30, rfl, by decide⟩
theorem bod31 : Bod Try.prog 31 := ⟨_, Try.func31, rfl, by decide⟩
theorem bod32 : Bod Try.prog 32 := ⟨_, Try.func32, rfl, by decide⟩
theorem bod33 : Bod Try.prog 33 := ⟨_, Try.func33, rfl, by decide⟩
theorem bod34 : Bod Try.prog 34 := ⟨_, Try.func34, rfl, by decide⟩
theorem bod35 : Bod Try.prog 35 := ⟨_, Try.func35, rfl, by decide⟩
theorem bod36 : Bod Try.prog 36 := ⟨_, Try.func36, rfl, by decide⟩
theorem bod37 : Bod Try.prog 37 := ⟨_, Try.func37, rfl, by decide⟩
theorem bod38 : Bod Try.prog 38 := ⟨_, Try.func38, rfl, by decide⟩
theorem bod39 : Bod Try.prog 39 := ⟨_, Try.func39, rfl, by decide⟩
theorem bod40 : Bod Try.prog 40 := ⟨_, Try.func40, rfl, by decide⟩
theorem bod41 : Bod Try.prog 41 := ⟨_, Try.func41, rfl, by decide⟩
theorem bod42 : Bod Try.prog 42 := ⟨_, Try.func42, rfl, by decide⟩
theorem bod43 : Bod Try.prog 43 := ⟨_, Try.func43, rfl, by decide⟩
theorem bod44 : Bod Try.prog 44 := ⟨_, Try.func44, rfl, by decide⟩
theorem bod45 : Bod Try.prog 45 := ⟨_, Try.func45, rfl, by decide⟩
theorem bod46 : Bod Try.prog 46 := ⟨_, Try.func46, rfl, by decide⟩
theorem bod47 : Bod Try.prog 47 := ⟨_, Try.func47, rfl, by decide⟩
theorem bod48 : Bod Try.prog 48 := ⟨_, Try.func48, rfl, by decide⟩
theorem bod49 : Bod Try.prog 49 := ⟨_, Try.func49, rfl, by decide⟩
theorem bod50 : Bod Try.prog 50 := ⟨_, Try.func50, rfl, by decide⟩
theorem bod51 : Bod Try.prog 51 := ⟨_, Try.func51, rfl, by decide⟩
theorem bod52 : Bod Try.prog 52 := ⟨_, Try.func52, rfl, by decide⟩
theorem bod53 : Bod Try.prog 53 := ⟨_, Try.func53, rfl, by decide⟩
theorem bod54 : Bod Try.prog 54 := ⟨_, Try.func54, rfl, by decide⟩
theorem bod55 : Bod Try.prog 55 := ⟨_, Try.func55, rfl, by decide⟩
theorem bod56 : Bod Try.prog 56 := ⟨_, Try.func56, rfl, by decide⟩
theorem bod57 : Bod Try.prog 57 := ⟨_, Try.func57, rfl, by decide⟩
theorem bod58 : Bod Try.prog 58 := ⟨_, Try.func58, rfl, by decide⟩
theorem bod59 : Bod Try.prog 59 := ⟨_, Try.func59, rfl, by decide⟩
theorem bod60 : Bod Try.prog 60 := ⟨_, Try.func60, rfl, by decide⟩
theorem bod61 : Bod Try.prog 61 := ⟨_, Try.func61, rfl, by decide⟩
theorem bod62 : Bod Try.prog 62 := ⟨_, Try.func62, rfl, by decide⟩
theorem bod63 : Bod Try.prog 63 := ⟨_, Try.func63, rfl, by decide⟩
theorem bod64 : Bod Try.prog 64 := ⟨_, Try.func64, rfl, by decide⟩
theorem bod65 : Bod Try.prog 65 := ⟨_, Try.func65, rfl, by decide⟩
theorem bod66 : Bod Try.prog 66 := ⟨_, Try.func66, rfl, by decide⟩
theorem bod67 : Bod Try.prog 67 := ⟨_, Try.func67, rfl, by decide⟩
theorem bod68 : Bod Try.prog 68 := ⟨_, Try.func68, rfl, by decide⟩
theorem bod69 : Bod Try.prog 69 := ⟨_, Try.func69, rfl, by decide⟩
theorem bod70 : Bod Try.prog 70 := ⟨_, Try.func70, rfl, by decide⟩
theorem bod71 : Bod Try.prog 71 := ⟨_, Try.func71, rfl, by decide⟩
theorem bod72 : Bod Try.prog 72 := ⟨_, Try.func72, rfl, by decide⟩
theorem bod73 : Bod Try.prog 73 := ⟨_, Try.func73, rfl, by decide⟩
theorem bod74 : Bod Try.prog 74 := ⟨_, Try.func74, rfl, by decide⟩
theorem bod75 : Bod Try.prog 75 := ⟨_, Try.func75, rfl, by decide⟩
theorem bod76 : Bod Try.prog 76 := ⟨_, Try.func76, rfl, by decide⟩
theorem bod77 : Bod Try.prog 77 := ⟨_, Try.func77, rfl, by decide⟩
theorem bod78 : Bod Try.prog 78 := ⟨_, Try.func78, rfl, by decide⟩
theorem bod79 : Bod Try.prog 79 := ⟨_, Try.func79, rfl, by decide⟩
theorem bod80 : Bod Try.prog 80 := ⟨_, Try.func80, rfl, by decide⟩
theorem bod81 : Bod Try.prog 81 := ⟨_, Try.func81, rfl, by decide⟩
theorem mixed : Try.prog.follows .mixedOrders = true := by kernel_rfl
end Go.Proofs.Ytffakiheophioaa
