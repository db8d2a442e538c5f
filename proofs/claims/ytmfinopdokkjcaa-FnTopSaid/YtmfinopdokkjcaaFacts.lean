/- Closed facts on the types and functions of this seat's translation. No statement of the seat is proved here. -/
import Derived.Test.YtmfinopdokkjcaaRows
import Derived.Test.YtmfinopdokkjcaaAws
namespace Go.Proofs.Ytmfinopdokkjcaa
open Go.AW
set_option linter.unusedVariables false
set_option linter.unusedSimpArgs false

theorem follows : Try.prog.follows .mixedOrders = true := by kernel_rfl
theorem cell2 : cellT Try.prog 2 = some none := by kernel_rfl
theorem und2 : Try.prog.underlying 2 = some (.int .i64) := by kernel_rfl
theorem size2 : (Try.prog.info? 2).map (·.size) = some 1 := by kernel_rfl
theorem zero2 : (Try.prog.info? 2).map (·.zero) = some (some (.int .i64 0)) := by kernel_rfl
theorem cell3 : cellT Try.prog 3 = some none := by kernel_rfl
theorem und3 : Try.prog.underlying 3 = some (.int .i64) := by kernel_rfl
theorem size3 : (Try.prog.info? 3).map (·.size) = some 1 := by kernel_rfl
theorem zero3 : (Try.prog.info? 3).map (·.zero) = some (some (.int .i64 0)) := by kernel_rfl
theorem cell4 : cellT Try.prog 4 = some none := by kernel_rfl
theorem und4 : Try.prog.underlying 4 = some .bool := by kernel_rfl
theorem size4 : (Try.prog.info? 4).map (·.size) = some 1 := by kernel_rfl
theorem zero4 : (Try.prog.info? 4).map (·.zero) = some (some (.bool false)) := by kernel_rfl
theorem cell5 : cellT Try.prog 5 = some none := by kernel_rfl
theorem und5 : Try.prog.underlying 5 = some (.int .u8) := by kernel_rfl
theorem size5 : (Try.prog.info? 5).map (·.size) = some 1 := by kernel_rfl
theorem zero5 : (Try.prog.info? 5).map (·.zero) = some (some (.int .u8 0)) := by kernel_rfl
theorem cell9 : cellT Try.prog 9 = some none := by kernel_rfl
theorem und9 : Try.prog.underlying 9 = some .string := by kernel_rfl
theorem size9 : (Try.prog.info? 9).map (·.size) = some 1 := by kernel_rfl
theorem zero9 : (Try.prog.info? 9).map (·.zero) = some (some (.string ByteArray.empty)) := by kernel_rfl
theorem sl22 : SlT Try.prog 22 5 1 1 (.int .u8 0) := ⟨by kernel_rfl, by kernel_rfl, rfl, by decide⟩
theorem cell22 : cellT Try.prog 22 = some none := by kernel_rfl
theorem size22 : (Try.prog.info? 22).map (·.size) = some 1 := by kernel_rfl
theorem zero22 : (Try.prog.info? 22).map (·.zero) = some (some (.slice none 0 0)) := by kernel_rfl
theorem sl24 : SlT Try.prog 24 32 1 24 (.slice none 0 0) := ⟨by kernel_rfl, by kernel_rfl, rfl, by decide⟩
theorem cell24 : cellT Try.prog 24 = some none := by kernel_rfl
theorem size24 : (Try.prog.info? 24).map (·.size) = some 1 := by kernel_rfl
theorem zero24 : (Try.prog.info? 24).map (·.zero) = some (some (.slice none 0 0)) := by kernel_rfl
theorem sl32 : SlT Try.prog 32 2 1 8 (.int .i64 0) := ⟨by kernel_rfl, by kernel_rfl, rfl, by decide⟩
theorem cell32 : cellT Try.prog 32 = some none := by kernel_rfl
theorem size32 : (Try.prog.info? 32).map (·.size) = some 1 := by kernel_rfl
theorem zero32 : (Try.prog.info? 32).map (·.zero) = some (some (.slice none 0 0)) := by kernel_rfl
theorem cell35 : cellT Try.prog 35 = some (some 3) := by kernel_rfl
theorem size35 : (Try.prog.info? 35).map (·.size) = some 3 := by kernel_rfl
theorem zero35 : (Try.prog.info? 35).map (·.zero) = some (some (.agg #[.int .i64 0, .int .i64 0, .slice none 0 0])) := by kernel_rfl
theorem sl58 : SlT Try.prog 58 9 1 16 (.string ByteArray.empty) := ⟨by kernel_rfl, by kernel_rfl, rfl, by decide⟩
theorem cell58 : cellT Try.prog 58 = some none := by kernel_rfl
theorem size58 : (Try.prog.info? 58).map (·.size) = some 1 := by kernel_rfl
theorem zero58 : (Try.prog.info? 58).map (·.zero) = some (some (.slice none 0 0)) := by kernel_rfl
theorem cell72 : cellT Try.prog 72 = some (some 2) := by kernel_rfl
theorem size72 : (Try.prog.info? 72).map (·.size) = some 2 := by kernel_rfl
theorem zero72 : (Try.prog.info? 72).map (·.zero) = some (some (.agg #[.int .i64 0, .int .i64 0])) := by kernel_rfl
theorem cell82 : cellT Try.prog 82 = some (some 2) := by kernel_rfl
theorem size82 : (Try.prog.info? 82).map (·.size) = some 2 := by kernel_rfl
theorem zero82 : (Try.prog.info? 82).map (·.zero) = some (some (.agg #[.slice none 0 0, .slice none 0 0])) := by kernel_rfl
theorem sl88 : SlT Try.prog 88 108 2 16 (.agg #[.int .i64 0, .bool false]) := ⟨by kernel_rfl, by kernel_rfl, rfl, by decide⟩
theorem cell88 : cellT Try.prog 88 = some none := by kernel_rfl
theorem size88 : (Try.prog.info? 88).map (·.size) = some 1 := by kernel_rfl
theorem zero88 : (Try.prog.info? 88).map (·.zero) = some (some (.slice none 0 0)) := by kernel_rfl
theorem sl102 : SlT Try.prog 102 105 1 24 (.slice none 0 0) := ⟨by kernel_rfl, by kernel_rfl, rfl, by decide⟩
theorem cell102 : cellT Try.prog 102 = some none := by kernel_rfl
theorem size102 : (Try.prog.info? 102).map (·.size) = some 1 := by kernel_rfl
theorem zero102 : (Try.prog.info? 102).map (·.zero) = some (some (.slice none 0 0)) := by kernel_rfl
theorem sl105 : SlT Try.prog 105 167 4 32 (.agg #[.int .i64 0, .int .i64 0, .int .i64 0, .int .i64 0]) := ⟨by kernel_rfl, by kernel_rfl, rfl, by decide⟩
theorem cell105 : cellT Try.prog 105 = some none := by kernel_rfl
theorem size105 : (Try.prog.info? 105).map (·.size) = some 1 := by kernel_rfl
theorem zero105 : (Try.prog.info? 105).map (·.zero) = some (some (.slice none 0 0)) := by kernel_rfl
theorem cell108 : cellT Try.prog 108 = some (some 2) := by kernel_rfl
theorem size108 : (Try.prog.info? 108).map (·.size) = some 2 := by kernel_rfl
theorem zero108 : (Try.prog.info? 108).map (·.zero) = some (some (.agg #[.int .i64 0, .bool false])) := by kernel_rfl
theorem sl113 : SlT Try.prog 113 4 1 1 (.bool false) := ⟨by kernel_rfl, by kernel_rfl, rfl, by decide⟩
theorem cell113 : cellT Try.prog 113 = some none := by kernel_rfl
theorem size113 : (Try.prog.info? 113).map (·.size) = some 1 := by kernel_rfl
theorem zero113 : (Try.prog.info? 113).map (·.zero) = some (some (.slice none 0 0)) := by kernel_rfl
theorem cell123 : cellT Try.prog 123 = some none := by kernel_rfl
theorem size123 : (Try.prog.info? 123).map (·.size) = some 1 := by kernel_rfl
theorem zero123 : (Try.prog.info? 123).map (·.zero) = some (some (.map none)) := by kernel_rfl
theorem sl134 : SlT Try.prog 134 72 2 16 (.agg #[.int .i64 0, .int .i64 0]) := ⟨by kernel_rfl, by kernel_rfl, rfl, by decide⟩
theorem cell134 : cellT Try.prog 134 = some none := by kernel_rfl
theorem size134 : (Try.prog.info? 134).map (·.size) = some 1 := by kernel_rfl
theorem zero134 : (Try.prog.info? 134).map (·.zero) = some (some (.slice none 0 0)) := by kernel_rfl
theorem sl156 : SlT Try.prog 156 159 2 32 (.agg #[.slice none 0 0, .int .i64 0]) := ⟨by kernel_rfl, by kernel_rfl, rfl, by decide⟩
theorem cell156 : cellT Try.prog 156 = some none := by kernel_rfl
theorem size156 : (Try.prog.info? 156).map (·.size) = some 1 := by kernel_rfl
theorem zero156 : (Try.prog.info? 156).map (·.zero) = some (some (.slice none 0 0)) := by kernel_rfl
theorem cell159 : cellT Try.prog 159 = some (some 2) := by kernel_rfl
theorem size159 : (Try.prog.info? 159).map (·.size) = some 2 := by kernel_rfl
theorem zero159 : (Try.prog.info? 159).map (·.zero) = some (some (.agg #[.slice none 0 0, .int .i64 0])) := by kernel_rfl
theorem cell167 : cellT Try.prog 167 = some (some 4) := by kernel_rfl
theorem size167 : (Try.prog.info? 167).map (·.size) = some 4 := by kernel_rfl
theorem zero167 : (Try.prog.info? 167).map (·.zero) = some (some (.agg #[.int .i64 0, .int .i64 0, .int .i64 0, .int .i64 0])) := by kernel_rfl
theorem cell172 : cellT Try.prog 172 = some none := by kernel_rfl
theorem und172 : Try.prog.underlying 172 = some (.int .u64) := by kernel_rfl
theorem size172 : (Try.prog.info? 172).map (·.size) = some 1 := by kernel_rfl
theorem zero172 : (Try.prog.info? 172).map (·.zero) = some (some (.int .u64 0)) := by kernel_rfl
theorem cell174 : cellT Try.prog 174 = some (some 3) := by kernel_rfl
theorem size174 : (Try.prog.info? 174).map (·.size) = some 3 := by kernel_rfl
theorem zero174 : (Try.prog.info? 174).map (·.zero) = some (some (.agg #[.slice none 0 0, .int .i64 0, .int .u64 0])) := by kernel_rfl
theorem sl190 : SlT Try.prog 190 134 1 24 (.slice none 0 0) := ⟨by kernel_rfl, by kernel_rfl, rfl, by decide⟩
theorem cell190 : cellT Try.prog 190 = some none := by kernel_rfl
theorem size190 : (Try.prog.info? 190).map (·.size) = some 1 := by kernel_rfl
theorem zero190 : (Try.prog.info? 190).map (·.zero) = some (some (.slice none 0 0)) := by kernel_rfl
theorem cell193 : cellT Try.prog 193 = some (some 20) := by kernel_rfl
theorem und193 : Try.prog.underlying 193 = some (.array 20 5) := by kernel_rfl
theorem size193 : (Try.prog.info? 193).map (·.size) = some 20 := by kernel_rfl
theorem zero193 : (Try.prog.info? 193).map (·.zero) = some (some (.agg #[.int .u8 0, .int .u8 0, .int .u8 0, .int .u8 0, .int .u8 0, .int .u8 0, .int .u8 0, .int .u8 0, .int .u8 0, .int .u8 0, .int .u8 0, .int .u8 0, .int .u8 0, .int .u8 0, .int .u8 0, .int .u8 0, .int .u8 0, .int .u8 0, .int .u8 0, .int .u8 0])) := by kernel_rfl
theorem cell195 : cellT Try.prog 195 = some (some 4) := by kernel_rfl
theorem und195 : Try.prog.underlying 195 = some (.array 4 2) := by kernel_rfl
theorem size195 : (Try.prog.info? 195).map (·.size) = some 4 := by kernel_rfl
theorem zero195 : (Try.prog.info? 195).map (·.zero) = some (some (.agg #[.int .i64 0, .int .i64 0, .int .i64 0, .int .i64 0])) := by kernel_rfl
theorem sl200 : SlT Try.prog 200 202 2 16 (.agg #[.int .i64 0, .int .i64 0]) := ⟨by kernel_rfl, by kernel_rfl, rfl, by decide⟩
theorem cell200 : cellT Try.prog 200 = some none := by kernel_rfl
theorem size200 : (Try.prog.info? 200).map (·.size) = some 1 := by kernel_rfl
theorem zero200 : (Try.prog.info? 200).map (·.zero) = some (some (.slice none 0 0)) := by kernel_rfl
theorem cell202 : cellT Try.prog 202 = some (some 2) := by kernel_rfl
theorem und202 : Try.prog.underlying 202 = some (.array 2 2) := by kernel_rfl
theorem size202 : (Try.prog.info? 202).map (·.size) = some 2 := by kernel_rfl
theorem zero202 : (Try.prog.info? 202).map (·.zero) = some (some (.agg #[.int .i64 0, .int .i64 0])) := by kernel_rfl
theorem cell214 : cellT Try.prog 214 = some none := by kernel_rfl
theorem und214 : Try.prog.underlying 214 = some (.int .u64) := by kernel_rfl
theorem size214 : (Try.prog.info? 214).map (·.size) = some 1 := by kernel_rfl
theorem zero214 : (Try.prog.info? 214).map (·.zero) = some (some (.int .u64 0)) := by kernel_rfl
theorem cell217 : cellT Try.prog 217 = some (some 8) := by kernel_rfl
theorem und217 : Try.prog.underlying 217 = some (.array 4 202) := by kernel_rfl
theorem size217 : (Try.prog.info? 217).map (·.size) = some 8 := by kernel_rfl
theorem zero217 : (Try.prog.info? 217).map (·.zero) = some (some (.agg #[.int .i64 0, .int .i64 0, .int .i64 0, .int .i64 0, .int .i64 0, .int .i64 0, .int .i64 0, .int .i64 0])) := by kernel_rfl
theorem cell228 : cellT Try.prog 228 = some none := by kernel_rfl
theorem und228 : Try.prog.underlying 228 = some (.int .i64) := by kernel_rfl
theorem size228 : (Try.prog.info? 228).map (·.size) = some 1 := by kernel_rfl
theorem zero228 : (Try.prog.info? 228).map (·.zero) = some (some (.int .i64 0)) := by kernel_rfl
theorem cell239 : cellT Try.prog 239 = some none := by kernel_rfl
theorem und239 : Try.prog.underlying 239 = some (.int .u64) := by kernel_rfl
theorem size239 : (Try.prog.info? 239).map (·.size) = some 1 := by kernel_rfl
theorem zero239 : (Try.prog.info? 239).map (·.zero) = some (some (.int .u64 0)) := by kernel_rfl
theorem fld35_0 : fld Try.prog 35 0 = some (0, none) := by kernel_rfl
theorem fld35_1 : fld Try.prog 35 1 = some (1, none) := by kernel_rfl
theorem fld35_2 : fld Try.prog 35 2 = some (2, none) := by kernel_rfl
theorem fld72_0 : fld Try.prog 72 0 = some (0, none) := by kernel_rfl
theorem fld72_1 : fld Try.prog 72 1 = some (1, none) := by kernel_rfl
theorem fld82_0 : fld Try.prog 82 0 = some (0, none) := by kernel_rfl
theorem fld82_1 : fld Try.prog 82 1 = some (1, none) := by kernel_rfl
theorem fld108_0 : fld Try.prog 108 0 = some (0, none) := by kernel_rfl
theorem fld108_1 : fld Try.prog 108 1 = some (1, none) := by kernel_rfl
theorem fld159_0 : fld Try.prog 159 0 = some (0, none) := by kernel_rfl
theorem fld159_1 : fld Try.prog 159 1 = some (1, none) := by kernel_rfl
theorem fld167_0 : fld Try.prog 167 0 = some (0, some 2) := by kernel_rfl
theorem fld167_1 : fld Try.prog 167 1 = some (2, none) := by kernel_rfl
theorem fld167_2 : fld Try.prog 167 2 = some (3, none) := by kernel_rfl
theorem fld174_0 : fld Try.prog 174 0 = some (0, none) := by kernel_rfl
theorem fld174_1 : fld Try.prog 174 1 = some (1, none) := by kernel_rfl
theorem fld174_2 : fld Try.prog 174 2 = some (2, none) := by kernel_rfl
theorem bld35 : Try.prog.built 35 [] = some #[.int .i64 0, .int .i64 0, .slice none 0 0] := by kernel_rfl
theorem bld35_3 (x0 : Value) (x1 : Value) (x2 : Value) (h0 : x0.oneCell' = true) (h1 : x1.oneCell' = true) (h2 : x2.oneCell' = true) : Try.prog.built 35 [(0, x0), (1, x1), (2, x2)] = some #[x0, x1, x2] := by
  rw [built_struct (z := .agg #[.int .i64 0, .int .i64 0, .slice none 0 0]) (places := [(0, 1), (1, 1), (2, 1)]) (by kernel_rfl) Try.underlying35 (by kernel_rfl)]
  simp [Instr.fill, cells_agg, cells_one h0, cells_one h1, cells_one h2]
theorem bld72_2 (x0 : Value) (x1 : Value) (h0 : x0.oneCell' = true) (h1 : x1.oneCell' = true) : Try.prog.built 72 [(0, x0), (1, x1)] = some #[x0, x1] := by
  rw [built_struct (z := .agg #[.int .i64 0, .int .i64 0]) (places := [(0, 1), (1, 1)]) (by kernel_rfl) Try.underlying72 (by kernel_rfl)]
  simp [Instr.fill, cells_agg, cells_one h0, cells_one h1]
theorem bld82 : Try.prog.built 82 [] = some #[.slice none 0 0, .slice none 0 0] := by kernel_rfl
theorem bld108_2 (x0 : Value) (x1 : Value) (h0 : x0.oneCell' = true) (h1 : x1.oneCell' = true) : Try.prog.built 108 [(0, x0), (1, x1)] = some #[x0, x1] := by
  rw [built_struct (z := .agg #[.int .i64 0, .bool false]) (places := [(0, 1), (1, 1)]) (by kernel_rfl) Try.underlying108 (by kernel_rfl)]
  simp [Instr.fill, cells_agg, cells_one h0, cells_one h1]
theorem bld159_p0 (x0 : Value) (h0 : x0.oneCell' = true) : Try.prog.built 159 [(0, x0)] = some #[x0, .int .i64 0] := by
  rw [built_struct (z := .agg #[.slice none 0 0, .int .i64 0]) (places := [(0, 1), (1, 1)]) (by kernel_rfl) Try.underlying159 (by kernel_rfl)]
  simp [Instr.fill, cells_agg, cells_one h0]
theorem bld159_2 (x0 : Value) (x1 : Value) (h0 : x0.oneCell' = true) (h1 : x1.oneCell' = true) : Try.prog.built 159 [(0, x0), (1, x1)] = some #[x0, x1] := by
  rw [built_struct (z := .agg #[.slice none 0 0, .int .i64 0]) (places := [(0, 1), (1, 1)]) (by kernel_rfl) Try.underlying159 (by kernel_rfl)]
  simp [Instr.fill, cells_agg, cells_one h0, cells_one h1]
theorem bld167 : Try.prog.built 167 [] = some #[.int .i64 0, .int .i64 0, .int .i64 0, .int .i64 0] := by kernel_rfl
theorem bld167_3 (x0_0 : Value) (x0_1 : Value) (x1 : Value) (x2 : Value) (h1 : x1.oneCell' = true) (h2 : x2.oneCell' = true) : Try.prog.built 167 [(0, .agg #[x0_0, x0_1]), (1, x1), (2, x2)] = some #[x0_0, x0_1, x1, x2] := by
  rw [built_struct (z := .agg #[.int .i64 0, .int .i64 0, .int .i64 0, .int .i64 0]) (places := [(0, 2), (2, 1), (3, 1)]) (by kernel_rfl) Try.underlying167 (by kernel_rfl)]
  simp [Instr.fill, cells_agg, cells_one h1, cells_one h2]
theorem bld174_p0 (x0 : Value) (h0 : x0.oneCell' = true) : Try.prog.built 174 [(0, x0)] = some #[x0, .int .i64 0, .int .u64 0] := by
  rw [built_struct (z := .agg #[.slice none 0 0, .int .i64 0, .int .u64 0]) (places := [(0, 1), (1, 1), (2, 1)]) (by kernel_rfl) Try.underlying174 (by kernel_rfl)]
  simp [Instr.fill, cells_agg, cells_one h0]
theorem bld193 : Try.prog.built 193 [] = some #[.int .u8 0, .int .u8 0, .int .u8 0, .int .u8 0, .int .u8 0, .int .u8 0, .int .u8 0, .int .u8 0, .int .u8 0, .int .u8 0, .int .u8 0, .int .u8 0, .int .u8 0, .int .u8 0, .int .u8 0, .int .u8 0, .int .u8 0, .int .u8 0, .int .u8 0, .int .u8 0] := by kernel_rfl
theorem bld195 : Try.prog.built 195 [] = some #[.int .i64 0, .int .i64 0, .int .i64 0, .int .i64 0] := by kernel_rfl
theorem fn3 : FnOk Try.prog 3 := ⟨_, Try.func3, by kernel_rfl, rfl⟩
theorem fn4 : FnOk Try.prog 4 := ⟨_, Try.func4, by kernel_rfl, rfl⟩
theorem fn5 : FnOk Try.prog 5 := ⟨_, Try.func5, by kernel_rfl, rfl⟩
theorem fn6 : FnOk Try.prog 6 := ⟨_, Try.func6, by kernel_rfl, rfl⟩
theorem fn7 : FnOk Try.prog 7 := ⟨_, Try.func7, by kernel_rfl, rfl⟩
theorem fn8 : FnOk Try.prog 8 := ⟨_, Try.func8, by kernel_rfl, rfl⟩
theorem fn9 : FnOk Try.prog 9 := ⟨_, Try.func9, by kernel_rfl, rfl⟩
theorem fn10 : FnOk Try.prog 10 := ⟨_, Try.func10, by kernel_rfl, rfl⟩
theorem fn11 : FnOk Try.prog 11 := ⟨_, Try.func11, by kernel_rfl, rfl⟩
theorem fn12 : FnOk Try.prog 12 := ⟨_, Try.func12, by kernel_rfl, rfl⟩
theorem fn13 : FnOk Try.prog 13 := ⟨_, Try.func13, by kernel_rfl, rfl⟩
theorem fn14 : FnOk Try.prog 14 := ⟨_, Try.func14, by kernel_rfl, rfl⟩
theorem fn15 : FnOk Try.prog 15 := ⟨_, Try.func15, by kernel_rfl, rfl⟩
theorem fn16 : FnOk Try.prog 16 := ⟨_, Try.func16, by kernel_rfl, rfl⟩
theorem fn17 : FnOk Try.prog 17 := ⟨_, Try.func17, by kernel_rfl, rfl⟩
theorem fn18 : FnOk Try.prog 18 := ⟨_, Try.func18, by kernel_rfl, rfl⟩
theorem fn19 : FnOk Try.prog 19 := ⟨_, Try.func19, by kernel_rfl, rfl⟩
theorem fn20 : FnOk Try.prog 20 := ⟨_, Try.func20, by kernel_rfl, rfl⟩
theorem fn21 : FnOk Try.prog 21 := ⟨_, Try.func21, by kernel_rfl, rfl⟩
theorem fn22 : FnOk Try.prog 22 := ⟨_, Try.func22, by kernel_rfl, rfl⟩
theorem fn23 : FnOk Try.prog 23 := ⟨_, Try.func23, by kernel_rfl, rfl⟩
theorem fn24 : FnOk Try.prog 24 := ⟨_, Try.func24, by kernel_rfl, rfl⟩
theorem fn25 : FnOk Try.prog 25 := ⟨_, Try.func25, by kernel_rfl, rfl⟩
theorem fn26 : FnOk Try.prog 26 := ⟨_, Try.func26, by kernel_rfl, rfl⟩
theorem fn27 : FnOk Try.prog 27 := ⟨_, Try.func27, by kernel_rfl, rfl⟩
theorem fn28 : FnOk Try.prog 28 := ⟨_, Try.func28, by kernel_rfl, rfl⟩
theorem fn29 : FnOk Try.prog 29 := ⟨_, Try.func29, by kernel_rfl, rfl⟩
theorem fn30 : FnOk Try.prog 30 := ⟨_, Try.func30, by kernel_rfl, rfl⟩
theorem fn31 : FnOk Try.prog 31 := ⟨_, Try.func31, by kernel_rfl, rfl⟩
theorem fn32 : FnOk Try.prog 32 := ⟨_, Try.func32, by kernel_rfl, rfl⟩
theorem fn33 : FnOk Try.prog 33 := ⟨_, Try.func33, by kernel_rfl, rfl⟩
theorem fn34 : FnOk Try.prog 34 := ⟨_, Try.func34, by kernel_rfl, rfl⟩
theorem fn35 : FnOk Try.prog 35 := ⟨_, Try.func35, by kernel_rfl, rfl⟩
theorem fn36 : FnOk Try.prog 36 := ⟨_, Try.func36, by kernel_rfl, rfl⟩
theorem fn37 : FnOk Try.prog 37 := ⟨_, Try.func37, by kernel_rfl, rfl⟩
theorem fn38 : FnOk Try.prog 38 := ⟨_, Try.func38, by kernel_rfl, rfl⟩
theorem fn39 : FnOk Try.prog 39 := ⟨_, Try.func39, by kernel_rfl, rfl⟩
theorem fn40 : FnOk Try.prog 40 := ⟨_, Try.func40, by kernel_rfl, rfl⟩
theorem fn41 : FnOk Try.prog 41 := ⟨_, Try.func41, by kernel_rfl, rfl⟩
theorem fn42 : FnOk Try.prog 42 := ⟨_, Try.func42, by kernel_rfl, rfl⟩
theorem fn43 : FnOk Try.prog 43 := ⟨_, Try.func43, by kernel_rfl, rfl⟩
theorem fn44 : FnOk Try.prog 44 := ⟨_, Try.func44, by kernel_rfl, rfl⟩
theorem fn45 : FnOk Try.prog 45 := ⟨_, Try.func45, by kernel_rfl, rfl⟩
theorem fn46 : FnOk Try.prog 46 := ⟨_, Try.func46, by kernel_rfl, rfl⟩
theorem fn47 : FnOk Try.prog 47 := ⟨_, Try.func47, by kernel_rfl, rfl⟩
theorem fn48 : FnOk Try.prog 48 := ⟨_, Try.func48, by kernel_rfl, rfl⟩
theorem fn49 : FnOk Try.prog 49 := ⟨_, Try.func49, by kernel_rfl, rfl⟩
theorem fn50 : FnOk Try.prog 50 := ⟨_, Try.func50, by kernel_rfl, rfl⟩
theorem fn51 : FnOk Try.prog 51 := ⟨_, Try.func51, by kernel_rfl, rfl⟩
theorem fn52 : FnOk Try.prog 52 := ⟨_, Try.func52, by kernel_rfl, rfl⟩
theorem fn53 : FnOk Try.prog 53 := ⟨_, Try.func53, by kernel_rfl, rfl⟩
theorem fn54 : FnOk Try.prog 54 := ⟨_, Try.func54, by kernel_rfl, rfl⟩
theorem fn55 : FnOk Try.prog 55 := ⟨_, Try.func55, by kernel_rfl, rfl⟩
theorem fn56 : FnOk Try.prog 56 := ⟨_, Try.func56, by kernel_rfl, rfl⟩
theorem fn57 : FnOk Try.prog 57 := ⟨_, Try.func57, by kernel_rfl, rfl⟩
theorem fn58 : FnOk Try.prog 58 := ⟨_, Try.func58, by kernel_rfl, rfl⟩
theorem fn59 : FnOk Try.prog 59 := ⟨_, Try.func59, by kernel_rfl, rfl⟩
theorem fn60 : FnOk Try.prog 60 := ⟨_, Try.func60, by kernel_rfl, rfl⟩
theorem fn61 : FnOk Try.prog 61 := ⟨_, Try.func61, by kernel_rfl, rfl⟩
theorem fn62 : FnOk Try.prog 62 := ⟨_, Try.func62, by kernel_rfl, rfl⟩
theorem fn63 : FnOk Try.prog 63 := ⟨_, Try.func63, by kernel_rfl, rfl⟩
theorem fn64 : FnOk Try.prog 64 := ⟨_, Try.func64, by kernel_rfl, rfl⟩
theorem fn65 : FnOk Try.prog 65 := ⟨_, Try.func65, by kernel_rfl, rfl⟩
theorem fn66 : FnOk Try.prog 66 := ⟨_, Try.func66, by kernel_rfl, rfl⟩
theorem fn67 : FnOk Try.prog 67 := ⟨_, Try.func67, by kernel_rfl, rfl⟩
theorem fn68 : FnOk Try.prog 68 := ⟨_, Try.func68, by kernel_rfl, rfl⟩
theorem fn69 : FnOk Try.prog 69 := ⟨_, Try.func69, by kernel_rfl, rfl⟩
theorem fn70 : FnOk Try.prog 70 := ⟨_, Try.func70, by kernel_rfl, rfl⟩
theorem fn71 : FnOk Try.prog 71 := ⟨_, Try.func71, by kernel_rfl, rfl⟩
theorem fn72 : FnOk Try.prog 72 := ⟨_, Try.func72, by kernel_rfl, rfl⟩
theorem fn73 : FnOk Try.prog 73 := ⟨_, Try.func73, by kernel_rfl, rfl⟩
theorem fn74 : FnOk Try.prog 74 := ⟨_, Try.func74, by kernel_rfl, rfl⟩
theorem fn75 : FnOk Try.prog 75 := ⟨_, Try.func75, by kernel_rfl, rfl⟩
theorem fn76 : FnOk Try.prog 76 := ⟨_, Try.func76, by kernel_rfl, rfl⟩
theorem fn77 : FnOk Try.prog 77 := ⟨_, Try.func77, by kernel_rfl, rfl⟩
theorem fn78 : FnOk Try.prog 78 := ⟨_, Try.func78, by kernel_rfl, rfl⟩
theorem fn79 : FnOk Try.prog 79 := ⟨_, Try.func79, by kernel_rfl, rfl⟩
theorem fn80 : FnOk Try.prog 80 := ⟨_, Try.func80, by kernel_rfl, rfl⟩
theorem fn81 : FnOk Try.prog 81 := ⟨_, Try.func81, by kernel_rfl, rfl⟩
theorem fn82 : FnOk Try.prog 82 := ⟨_, Try.func82, by kernel_rfl, rfl⟩
theorem fn83 : FnOk Try.prog 83 := ⟨_, Try.func83, by kernel_rfl, rfl⟩
theorem fn84 : FnOk Try.prog 84 := ⟨_, Try.func84, by kernel_rfl, rfl⟩
theorem fn85 : FnOk Try.prog 85 := ⟨_, Try.func85, by kernel_rfl, rfl⟩
theorem fn86 : FnOk Try.prog 86 := ⟨_, Try.func86, by kernel_rfl, rfl⟩
theorem fn87 : FnOk Try.prog 87 := ⟨_, Try.func87, by kernel_rfl, rfl⟩
theorem fn88 : FnOk Try.prog 88 := ⟨_, Try.func88, by kernel_rfl, rfl⟩
theorem fn89 : FnOk Try.prog 89 := ⟨_, Try.func89, by kernel_rfl, rfl⟩
theorem fn90 : FnOk Try.prog 90 := ⟨_, Try.func90, by kernel_rfl, rfl⟩
theorem fn91 : FnOk Try.prog 91 := ⟨_, Try.func91, by kernel_rfl, rfl⟩
theorem fn92 : FnOk Try.prog 92 := ⟨_, Try.func92, by kernel_rfl, rfl⟩
theorem fn93 : FnOk Try.prog 93 := ⟨_, Try.func93, by kernel_rfl, rfl⟩
theorem fn94 : FnOk Try.prog 94 := ⟨_, Try.func94, by kernel_rfl, rfl⟩
theorem fn95 : FnOk Try.prog 95 := ⟨_, Try.func95, by kernel_rfl, rfl⟩
theorem fn96 : FnOk Try.prog 96 := ⟨_, Try.func96, by kernel_rfl, rfl⟩
theorem fn97 : FnOk Try.prog 97 := ⟨_, Try.func97, by kernel_rfl, rfl⟩
theorem fn98 : FnOk Try.prog 98 := ⟨_, Try.func98, by kernel_rfl, rfl⟩
theorem fn99 : FnOk Try.prog 99 := ⟨_, Try.func99, by kernel_rfl, rfl⟩
theorem fn100 : FnOk Try.prog 100 := ⟨_, Try.func100, by kernel_rfl, rfl⟩
theorem fn101 : FnOk Try.prog 101 := ⟨_, Try.func101, by kernel_rfl, rfl⟩
theorem fn102 : FnOk Try.prog 102 := ⟨_, Try.func102, by kernel_rfl, rfl⟩
theorem fn103 : FnOk Try.prog 103 := ⟨_, Try.func103, by kernel_rfl, rfl⟩
theorem fn104 : FnOk Try.prog 104 := ⟨_, Try.func104, by kernel_rfl, rfl⟩
theorem fn105 : FnOk Try.prog 105 := ⟨_, Try.func105, by kernel_rfl, rfl⟩
theorem fn106 : FnOk Try.prog 106 := ⟨_, Try.func106, by kernel_rfl, rfl⟩
theorem fn107 : FnOk Try.prog 107 := ⟨_, Try.func107, by kernel_rfl, rfl⟩
theorem fn108 : FnOk Try.prog 108 := ⟨_, Try.func108, by kernel_rfl, rfl⟩
theorem fn109 : FnOk Try.prog 109 := ⟨_, Try.func109, by kernel_rfl, rfl⟩
theorem fn110 : FnOk Try.prog 110 := ⟨_, Try.func110, by kernel_rfl, rfl⟩
theorem fn111 : FnOk Try.prog 111 := ⟨_, Try.func111, by kernel_rfl, rfl⟩
theorem fn112 : FnOk Try.prog 112 := ⟨_, Try.func112, by kernel_rfl, rfl⟩
theorem fn113 : FnOk Try.prog 113 := ⟨_, Try.func113, by kernel_rfl, rfl⟩
theorem fn114 : FnOk Try.prog 114 := ⟨_, Try.func114, by kernel_rfl, rfl⟩
theorem fn115 : FnOk Try.prog 115 := ⟨_, Try.func115, by kernel_rfl, rfl⟩
theorem fn116 : FnOk Try.prog 116 := ⟨_, Try.func116, by kernel_rfl, rfl⟩
theorem fn117 : FnOk Try.prog 117 := ⟨_, Try.func117, by kernel_rfl, rfl⟩
theorem fn118 : FnOk Try.prog 118 := ⟨_, Try.func118, by kernel_rfl, rfl⟩
theorem fn119 : FnOk Try.prog 119 := ⟨_, Try.func119, by kernel_rfl, rfl⟩
theorem fn120 : FnOk Try.prog 120 := ⟨_, Try.func120, by kernel_rfl, rfl⟩
theorem fn121 : FnOk Try.prog 121 := ⟨_, Try.func121, by kernel_rfl, rfl⟩
theorem fn122 : FnOk Try.prog 122 := ⟨_, Try.func122, by kernel_rfl, rfl⟩
theorem fn123 : FnOk Try.prog 123 := ⟨_, Try.func123, by kernel_rfl, rfl⟩
theorem fn124 : FnOk Try.prog 124 := ⟨_, Try.func124, by kernel_rfl, rfl⟩
theorem fn125 : FnOk Try.prog 125 := ⟨_, Try.func125, by kernel_rfl, rfl⟩
theorem fn126 : FnOk Try.prog 126 := ⟨_, Try.func126, by kernel_rfl, rfl⟩
theorem fn127 : FnOk Try.prog 127 := ⟨_, Try.func127, by kernel_rfl, rfl⟩
theorem fn128 : FnOk Try.prog 128 := ⟨_, Try.func128, by kernel_rfl, rfl⟩
theorem fn129 : FnOk Try.prog 129 := ⟨_, Try.func129, by kernel_rfl, rfl⟩
theorem fn130 : FnOk Try.prog 130 := ⟨_, Try.func130, by kernel_rfl, rfl⟩
theorem fn131 : FnOk Try.prog 131 := ⟨_, Try.func131, by kernel_rfl, rfl⟩
theorem fn132 : FnOk Try.prog 132 := ⟨_, Try.func132, by kernel_rfl, rfl⟩
theorem fn133 : FnOk Try.prog 133 := ⟨_, Try.func133, by kernel_rfl, rfl⟩
theorem fn134 : FnOk Try.prog 134 := ⟨_, Try.func134, by kernel_rfl, rfl⟩
theorem fn135 : FnOk Try.prog 135 := ⟨_, Try.func135, by kernel_rfl, rfl⟩
theorem fn136 : FnOk Try.prog 136 := ⟨_, Try.func136, by kernel_rfl, rfl⟩
theorem fn137 : FnOk Try.prog 137 := ⟨_, Try.func137, by kernel_rfl, rfl⟩
theorem fn138 : FnOk Try.prog 138 := ⟨_, Try.func138, by kernel_rfl, rfl⟩
theorem fn139 : FnOk Try.prog 139 := ⟨_, Try.func139, by kernel_rfl, rfl⟩
theorem fn140 : FnOk Try.prog 140 := ⟨_, Try.func140, by kernel_rfl, rfl⟩
theorem fn141 : FnOk Try.prog 141 := ⟨_, Try.func141, by kernel_rfl, rfl⟩
theorem fn142 : FnOk Try.prog 142 := ⟨_, Try.func142, by kernel_rfl, rfl⟩
theorem fn143 : FnOk Try.prog 143 := ⟨_, Try.func143, by kernel_rfl, rfl⟩
theorem fn144 : FnOk Try.prog 144 := ⟨_, Try.func144, by kernel_rfl, rfl⟩
theorem fn145 : FnOk Try.prog 145 := ⟨_, Try.func145, by kernel_rfl, rfl⟩
theorem fn146 : FnOk Try.prog 146 := ⟨_, Try.func146, by kernel_rfl, rfl⟩
theorem fn147 : FnOk Try.prog 147 := ⟨_, Try.func147, by kernel_rfl, rfl⟩
theorem fn148 : FnOk Try.prog 148 := ⟨_, Try.func148, by kernel_rfl, rfl⟩
theorem fn149 : FnOk Try.prog 149 := ⟨_, Try.func149, by kernel_rfl, rfl⟩
theorem fn150 : FnOk Try.prog 150 := ⟨_, Try.func150, by kernel_rfl, rfl⟩
theorem fn151 : FnOk Try.prog 151 := ⟨_, Try.func151, by kernel_rfl, rfl⟩
theorem fn152 : FnOk Try.prog 152 := ⟨_, Try.func152, by kernel_rfl, rfl⟩
theorem fn153 : FnOk Try.prog 153 := ⟨_, Try.func153, by kernel_rfl, rfl⟩
theorem fn154 : FnOk Try.prog 154 := ⟨_, Try.func154, by kernel_rfl, rfl⟩
theorem fn155 : FnOk Try.prog 155 := ⟨_, Try.func155, by kernel_rfl, rfl⟩
theorem fn156 : FnOk Try.prog 156 := ⟨_, Try.func156, by kernel_rfl, rfl⟩
theorem fn157 : FnOk Try.prog 157 := ⟨_, Try.func157, by kernel_rfl, rfl⟩
theorem fn158 : FnOk Try.prog 158 := ⟨_, Try.func158, by kernel_rfl, rfl⟩
theorem fn159 : FnOk Try.prog 159 := ⟨_, Try.func159, by kernel_rfl, rfl⟩
theorem fn160 : FnOk Try.prog 160 := ⟨_, Try.func160, by kernel_rfl, rfl⟩
theorem fn161 : FnOk Try.prog 161 := ⟨_, Try.func161, by kernel_rfl, rfl⟩
theorem fn162 : FnOk Try.prog 162 := ⟨_, Try.func162, by kernel_rfl, rfl⟩
theorem fn163 : FnOk Try.prog 163 := ⟨_, Try.func163, by kernel_rfl, rfl⟩
theorem fn164 : FnOk Try.prog 164 := ⟨_, Try.func164, by kernel_rfl, rfl⟩
theorem fn165 : FnOk Try.prog 165 := ⟨_, Try.func165, by kernel_rfl, rfl⟩
theorem fn166 : FnOk Try.prog 166 := ⟨_, Try.func166, by kernel_rfl, rfl⟩
theorem fn167 : FnOk Try.prog 167 := ⟨_, Try.func167, by kernel_rfl, rfl⟩
theorem fn168 : FnOk Try.prog 168 := ⟨_, Try.func168, by kernel_rfl, rfl⟩
theorem fn169 : FnOk Try.prog 169 := ⟨_, Try.func169, by kernel_rfl, rfl⟩
theorem fn170 : FnOk Try.prog 170 := ⟨_, Try.func170, by kernel_rfl, rfl⟩
theorem fn171 : FnOk Try.prog 171 := ⟨_, Try.func171, by kernel_rfl, rfl⟩
theorem fn172 : FnOk Try.prog 172 := ⟨_, Try.func172, by kernel_rfl, rfl⟩
theorem fn173 : FnOk Try.prog 173 := ⟨_, Try.func173, by kernel_rfl, rfl⟩
theorem fn174 : FnOk Try.prog 174 := ⟨_, Try.func174, by kernel_rfl, rfl⟩
theorem fn175 : FnOk Try.prog 175 := ⟨_, Try.func175, by kernel_rfl, rfl⟩
theorem fn176 : FnOk Try.prog 176 := ⟨_, Try.func176, by kernel_rfl, rfl⟩
theorem fn177 : FnOk Try.prog 177 := ⟨_, Try.func177, by kernel_rfl, rfl⟩
theorem fn178 : FnOk Try.prog 178 := ⟨_, Try.func178, by kernel_rfl, rfl⟩
theorem fn179 : FnOk Try.prog 179 := ⟨_, Try.func179, by kernel_rfl, rfl⟩
theorem fn180 : FnOk Try.prog 180 := ⟨_, Try.func180, by kernel_rfl, rfl⟩
theorem fn181 : FnOk Try.prog 181 := ⟨_, Try.func181, by kernel_rfl, rfl⟩
theorem fn182 : FnOk Try.prog 182 := ⟨_, Try.func182, by kernel_rfl, rfl⟩
theorem fn183 : FnOk Try.prog 183 := ⟨_, Try.func183, by kernel_rfl, rfl⟩
theorem fn184 : FnOk Try.prog 184 := ⟨_, Try.func184, by kernel_rfl, rfl⟩
theorem fn185 : FnOk Try.prog 185 := ⟨_, Try.func185, by kernel_rfl, rfl⟩
theorem fn186 : FnOk Try.prog 186 := ⟨_, Try.func186, by kernel_rfl, rfl⟩
theorem fn187 : FnOk Try.prog 187 := ⟨_, Try.func187, by kernel_rfl, rfl⟩
theorem fn188 : FnOk Try.prog 188 := ⟨_, Try.func188, by kernel_rfl, rfl⟩
theorem fn189 : FnOk Try.prog 189 := ⟨_, Try.func189, by kernel_rfl, rfl⟩
theorem fn190 : FnOk Try.prog 190 := ⟨_, Try.func190, by kernel_rfl, rfl⟩
theorem fn191 : FnOk Try.prog 191 := ⟨_, Try.func191, by kernel_rfl, rfl⟩
theorem fn192 : FnOk Try.prog 192 := ⟨_, Try.func192, by kernel_rfl, rfl⟩
theorem fn193 : FnOk Try.prog 193 := ⟨_, Try.func193, by kernel_rfl, rfl⟩
theorem fn194 : FnOk Try.prog 194 := ⟨_, Try.func194, by kernel_rfl, rfl⟩
theorem fn195 : FnOk Try.prog 195 := ⟨_, Try.func195, by kernel_rfl, rfl⟩
theorem fn196 : FnOk Try.prog 196 := ⟨_, Try.func196, by kernel_rfl, rfl⟩
theorem fn197 : FnOk Try.prog 197 := ⟨_, Try.func197, by kernel_rfl, rfl⟩
theorem fn198 : FnOk Try.prog 198 := ⟨_, Try.func198, by kernel_rfl, rfl⟩
theorem fn199 : FnOk Try.prog 199 := ⟨_, Try.func199, by kernel_rfl, rfl⟩
theorem fn200 : FnOk Try.prog 200 := ⟨_, Try.func200, by kernel_rfl, rfl⟩
theorem fn201 : FnOk Try.prog 201 := ⟨_, Try.func201, by kernel_rfl, rfl⟩
theorem fn202 : FnOk Try.prog 202 := ⟨_, Try.func202, by kernel_rfl, rfl⟩
theorem fn203 : FnOk Try.prog 203 := ⟨_, Try.func203, by kernel_rfl, rfl⟩
theorem fn204 : FnOk Try.prog 204 := ⟨_, Try.func204, by kernel_rfl, rfl⟩
theorem fn205 : FnOk Try.prog 205 := ⟨_, Try.func205, by kernel_rfl, rfl⟩
theorem fn206 : FnOk Try.prog 206 := ⟨_, Try.func206, by kernel_rfl, rfl⟩
theorem fn207 : FnOk Try.prog 207 := ⟨_, Try.func207, by kernel_rfl, rfl⟩
theorem fn208 : FnOk Try.prog 208 := ⟨_, Try.func208, by kernel_rfl, rfl⟩
theorem fn209 : FnOk Try.prog 209 := ⟨_, Try.func209, by kernel_rfl, rfl⟩
theorem fn210 : FnOk Try.prog 210 := ⟨_, Try.func210, by kernel_rfl, rfl⟩
theorem fn211 : FnOk Try.prog 211 := ⟨_, Try.func211, by kernel_rfl, rfl⟩
theorem fn212 : FnOk Try.prog 212 := ⟨_, Try.func212, by kernel_rfl, rfl⟩
theorem fn213 : FnOk Try.prog 213 := ⟨_, Try.func213, by kernel_rfl, rfl⟩
theorem fn214 : FnOk Try.prog 214 := ⟨_, Try.func214, by kernel_rfl, rfl⟩
theorem fn215 : FnOk Try.prog 215 := ⟨_, Try.func215, by kernel_rfl, rfl⟩
theorem fn216 : FnOk Try.prog 216 := ⟨_, Try.func216, by kernel_rfl, rfl⟩
theorem fn217 : FnOk Try.prog 217 := ⟨_, Try.func217, by kernel_rfl, rfl⟩
theorem fn218 : FnOk Try.prog 218 := ⟨_, Try.func218, by kernel_rfl, rfl⟩
theorem fn219 : FnOk Try.prog 219 := ⟨_, Try.func219, by kernel_rfl, rfl⟩
theorem fn220 : FnOk Try.prog 220 := ⟨_, Try.func220, by kernel_rfl, rfl⟩
theorem fn221 : FnOk Try.prog 221 := ⟨_, Try.func221, by kernel_rfl, rfl⟩
theorem fn222 : FnOk Try.prog 222 := ⟨_, Try.func222, by kernel_rfl, rfl⟩
theorem fn225 : FnOk Try.prog 225 := ⟨_, Try.func225, by kernel_rfl, rfl⟩
theorem fn226 : FnOk Try.prog 226 := ⟨_, Try.func226, by kernel_rfl, rfl⟩
theorem fn227 : FnOk Try.prog 227 := ⟨_, Try.func227, by kernel_rfl, rfl⟩
theorem fn228 : FnOk Try.prog 228 := ⟨_, Try.func228, by kernel_rfl, rfl⟩
theorem fn229 : FnOk Try.prog 229 := ⟨_, Try.func229, by kernel_rfl, rfl⟩
theorem fn230 : FnOk Try.prog 230 := ⟨_, Try.func230, by kernel_rfl, rfl⟩
theorem fn231 : FnOk Try.prog 231 := ⟨_, Try.func231, by kernel_rfl, rfl⟩
theorem fn232 : FnOk Try.prog 232 := ⟨_, Try.func232, by kernel_rfl, rfl⟩
theorem fn233 : FnOk Try.prog 233 := ⟨_, Try.func233, by kernel_rfl, rfl⟩
theorem fn234 : FnOk Try.prog 234 := ⟨_, Try.func234, by kernel_rfl, rfl⟩
theorem fn235 : FnOk Try.prog 235 := ⟨_, Try.func235, by kernel_rfl, rfl⟩
theorem fn236 : FnOk Try.prog 236 := ⟨_, Try.func236, by kernel_rfl, rfl⟩
theorem fn237 : FnOk Try.prog 237 := ⟨_, Try.func237, by kernel_rfl, rfl⟩
theorem fn238 : FnOk Try.prog 238 := ⟨_, Try.func238, by kernel_rfl, rfl⟩
theorem fn242 : FnOk Try.prog 242 := ⟨_, Try.func242, by kernel_rfl, rfl⟩
theorem fn243 : FnOk Try.prog 243 := ⟨_, Try.func243, by kernel_rfl, rfl⟩
theorem fn244 : FnOk Try.prog 244 := ⟨_, Try.func244, by kernel_rfl, rfl⟩
theorem fn245 : FnOk Try.prog 245 := ⟨_, Try.func245, by kernel_rfl, rfl⟩
theorem fn246 : FnOk Try.prog 246 := ⟨_, Try.func246, by kernel_rfl, rfl⟩
theorem fn247 : FnOk Try.prog 247 := ⟨_, Try.func247, by kernel_rfl, rfl⟩
theorem fn248 : FnOk Try.prog 248 := ⟨_, Try.func248, by kernel_rfl, rfl⟩
theorem fn250 : FnOk Try.prog 250 := ⟨_, Try.func250, by kernel_rfl, rfl⟩
theorem fn251 : FnOk Try.prog 251 := ⟨_, Try.func251, by kernel_rfl, rfl⟩
theorem fn252 : FnOk Try.prog 252 := ⟨_, Try.func252, by kernel_rfl, rfl⟩
theorem fn253 : FnOk Try.prog 253 := ⟨_, Try.func253, by kernel_rfl, rfl⟩
end Go.Proofs.Ytmfinopdokkjcaa
