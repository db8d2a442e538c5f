/- Closed facts on the types and functions of this seat's translation. No statement of the seat is proved here. -/
import Derived.Test.YtkplanpcmkbfiaaRows
import Derived.Test.YtkplanpcmkbfiaaAws
namespace Go.Proofs.Ytkplanpcmkbfiaa
open Go.AW
set_option linter.unusedVariables false
set_option linter.unusedSimpArgs false

theorem follows : Try.prog.follows .mixedOrders = true := by kernel_rfl
theorem cell2 : cellT Try.prog 2 = some none := by kernel_rfl
theorem und2 : Try.prog.underlying 2 = some (.int .i64) := by kernel_rfl
theorem size2 : (Try.prog.info? 2).map (·.size) = some 1 := by kernel_rfl
theorem zero2 : (Try.prog.info? 2).map (·.zero) = some (some (.int .i64 0)) := by kernel_rfl
theorem cell3 : cellT Try.prog 3 = some none := by kernel_rfl
theorem und3 : Try.prog.underlying 3 = some (.int .i64) := by kernel_rfl
theorem size3 : (Try.prog.info? 3).map (·.size) = some 1 := by kernel_rfl
theorem zero3 : (Try.prog.info? 3).map (·.zero) = some (some (.int .i64 0)) := by kernel_rfl
theorem cell4 : cellT Try.prog 4 = some none := by kernel_rfl
theorem und4 : Try.prog.underlying 4 = some .bool := by kernel_rfl
theorem size4 : (Try.prog.info? 4).map (·.size) = some 1 := by kernel_rfl
theorem zero4 : (Try.prog.info? 4).map (·.zero) = some (some (.bool false)) := by kernel_rfl
theorem cell5 : cellT Try.prog 5 = some none := by kernel_rfl
theorem und5 : Try.prog.underlying 5 = some (.int .u8) := by kernel_rfl
theorem size5 : (Try.prog.info? 5).map (·.size) = some 1 := by kernel_rfl
theorem zero5 : (Try.prog.info? 5).map (·.zero) = some (some (.int .u8 0)) := by kernel_rfl
theorem cell9 : cellT Try.prog 9 = some none := by kernel_rfl
theorem und9 : Try.prog.underlying 9 = some .string := by kernel_rfl
theorem size9 : (Try.prog.info? 9).map (·.size) = some 1 := by kernel_rfl
theorem zero9 : (Try.prog.info? 9).map (·.zero) = some (some (.string ByteArray.empty)) := by kernel_rfl
theorem sl22 : SlT Try.prog 22 2 1 8 (.int .i64 0) := ⟨by kernel_rfl, by kernel_rfl, rfl, by decide⟩
theorem cell22 : cellT Try.prog 22 = some none := by kernel_rfl
theorem size22 : (Try.prog.info? 22).map (·.size) = some 1 := by kernel_rfl
theorem zero22 : (Try.prog.info? 22).map (·.zero) = some (some (.slice none 0 0)) := by kernel_rfl
theorem cell24 : cellT Try.prog 24 = some (some 3) := by kernel_rfl
theorem size24 : (Try.prog.info? 24).map (·.size) = some 3 := by kernel_rfl
theorem zero24 : (Try.prog.info? 24).map (·.zero) = some (some (.agg #[.int .i64 0, .int .i64 0, .slice none 0 0])) := by kernel_rfl
theorem cell28 : cellT Try.prog 28 = some (some 3) := by kernel_rfl
theorem size28 : (Try.prog.info? 28).map (·.size) = some 3 := by kernel_rfl
theorem zero28 : (Try.prog.info? 28).map (·.zero) = some (some (.agg #[.int .i64 0, .int .i64 0, .slice none 0 0])) := by kernel_rfl
theorem sl41 : SlT Try.prog 41 74 2 16 (.agg #[.int .i64 0, .int .i64 0]) := ⟨by kernel_rfl, by kernel_rfl, rfl, by decide⟩
theorem cell41 : cellT Try.prog 41 = some none := by kernel_rfl
theorem size41 : (Try.prog.info? 41).map (·.size) = some 1 := by kernel_rfl
theorem zero41 : (Try.prog.info? 41).map (·.zero) = some (some (.slice none 0 0)) := by kernel_rfl
theorem sl46 : SlT Try.prog 46 5 1 1 (.int .u8 0) := ⟨by kernel_rfl, by kernel_rfl, rfl, by decide⟩
theorem cell46 : cellT Try.prog 46 = some none := by kernel_rfl
theorem size46 : (Try.prog.info? 46).map (·.size) = some 1 := by kernel_rfl
theorem zero46 : (Try.prog.info? 46).map (·.zero) = some (some (.slice none 0 0)) := by kernel_rfl
theorem cell55 : cellT Try.prog 55 = some (some 2) := by kernel_rfl
theorem size55 : (Try.prog.info? 55).map (·.size) = some 2 := by kernel_rfl
theorem zero55 : (Try.prog.info? 55).map (·.zero) = some (some (.agg #[.int .i64 0, .int .i64 0])) := by kernel_rfl
theorem cell57 : cellT Try.prog 57 = some (some 4) := by kernel_rfl
theorem size57 : (Try.prog.info? 57).map (·.size) = some 4 := by kernel_rfl
theorem zero57 : (Try.prog.info? 57).map (·.zero) = some (some (.agg #[.int .i64 0, .int .i64 0, .int .i64 0, .int .i64 0])) := by kernel_rfl
theorem cell74 : cellT Try.prog 74 = some (some 2) := by kernel_rfl
theorem size74 : (Try.prog.info? 74).map (·.size) = some 2 := by kernel_rfl
theorem zero74 : (Try.prog.info? 74).map (·.zero) = some (some (.agg #[.int .i64 0, .int .i64 0])) := by kernel_rfl
theorem sl84 : SlT Try.prog 84 89 2 16 (.agg #[.int .i64 0, .bool false]) := ⟨by kernel_rfl, by kernel_rfl, rfl, by decide⟩
theorem cell84 : cellT Try.prog 84 = some none := by kernel_rfl
theorem size84 : (Try.prog.info? 84).map (·.size) = some 1 := by kernel_rfl
theorem zero84 : (Try.prog.info? 84).map (·.zero) = some (some (.slice none 0 0)) := by kernel_rfl
theorem cell89 : cellT Try.prog 89 = some (some 2) := by kernel_rfl
theorem size89 : (Try.prog.info? 89).map (·.size) = some 2 := by kernel_rfl
theorem zero89 : (Try.prog.info? 89).map (·.zero) = some (some (.agg #[.int .i64 0, .bool false])) := by kernel_rfl
theorem cell93 : cellT Try.prog 93 = some (some 11) := by kernel_rfl
theorem size93 : (Try.prog.info? 93).map (·.size) = some 11 := by kernel_rfl
theorem zero93 : (Try.prog.info? 93).map (·.zero) = some (some (.agg #[.int .i64 0, .int .i64 0, .slice none 0 0, .int .i64 0, .slice none 0 0, .slice none 0 0, .bool false, .int .i64 0, .int .i64 0, .int .i64 0, .slice none 0 0])) := by kernel_rfl
theorem cell100 : cellT Try.prog 100 = some none := by kernel_rfl
theorem size100 : (Try.prog.info? 100).map (·.size) = some 1 := by kernel_rfl
theorem zero100 : (Try.prog.info? 100).map (·.zero) = some (some (.nilFunc)) := by kernel_rfl
theorem sl135 : SlT Try.prog 135 55 2 16 (.agg #[.int .i64 0, .int .i64 0]) := ⟨by kernel_rfl, by kernel_rfl, rfl, by decide⟩
theorem cell135 : cellT Try.prog 135 = some none := by kernel_rfl
theorem size135 : (Try.prog.info? 135).map (·.size) = some 1 := by kernel_rfl
theorem zero135 : (Try.prog.info? 135).map (·.zero) = some (some (.slice none 0 0)) := by kernel_rfl
theorem sl142 : SlT Try.prog 142 146 1 24 (.slice none 0 0) := ⟨by kernel_rfl, by kernel_rfl, rfl, by decide⟩
theorem cell142 : cellT Try.prog 142 = some none := by kernel_rfl
theorem size142 : (Try.prog.info? 142).map (·.size) = some 1 := by kernel_rfl
theorem zero142 : (Try.prog.info? 142).map (·.zero) = some (some (.slice none 0 0)) := by kernel_rfl
theorem sl146 : SlT Try.prog 146 57 4 32 (.agg #[.int .i64 0, .int .i64 0, .int .i64 0, .int .i64 0]) := ⟨by kernel_rfl, by kernel_rfl, rfl, by decide⟩
theorem cell146 : cellT Try.prog 146 = some none := by kernel_rfl
theorem size146 : (Try.prog.info? 146).map (·.size) = some 1 := by kernel_rfl
theorem zero146 : (Try.prog.info? 146).map (·.zero) = some (some (.slice none 0 0)) := by kernel_rfl
theorem cell148 : cellT Try.prog 148 = some none := by kernel_rfl
theorem size148 : (Try.prog.info? 148).map (·.size) = some 1 := by kernel_rfl
theorem zero148 : (Try.prog.info? 148).map (·.zero) = some (some (.nilFunc)) := by kernel_rfl
theorem cell149 : cellT Try.prog 149 = some none := by kernel_rfl
theorem und149 : Try.prog.underlying 149 = some (.int .u64) := by kernel_rfl
theorem size149 : (Try.prog.info? 149).map (·.size) = some 1 := by kernel_rfl
theorem zero149 : (Try.prog.info? 149).map (·.zero) = some (some (.int .u64 0)) := by kernel_rfl
theorem cell151 : cellT Try.prog 151 = some (some 3) := by kernel_rfl
theorem size151 : (Try.prog.info? 151).map (·.size) = some 3 := by kernel_rfl
theorem zero151 : (Try.prog.info? 151).map (·.zero) = some (some (.agg #[.slice none 0 0, .int .i64 0, .int .u64 0])) := by kernel_rfl
theorem sl153 : SlT Try.prog 153 135 1 24 (.slice none 0 0) := ⟨by kernel_rfl, by kernel_rfl, rfl, by decide⟩
theorem cell153 : cellT Try.prog 153 = some none := by kernel_rfl
theorem size153 : (Try.prog.info? 153).map (·.size) = some 1 := by kernel_rfl
theorem zero153 : (Try.prog.info? 153).map (·.zero) = some (some (.slice none 0 0)) := by kernel_rfl
theorem sl160 : SlT Try.prog 160 9 1 16 (.string ByteArray.empty) := ⟨by kernel_rfl, by kernel_rfl, rfl, by decide⟩
theorem cell160 : cellT Try.prog 160 = some none := by kernel_rfl
theorem size160 : (Try.prog.info? 160).map (·.size) = some 1 := by kernel_rfl
theorem zero160 : (Try.prog.info? 160).map (·.zero) = some (some (.slice none 0 0)) := by kernel_rfl
theorem cell178 : cellT Try.prog 178 = some (some 20) := by kernel_rfl
theorem und178 : Try.prog.underlying 178 = some (.array 20 5) := by kernel_rfl
theorem size178 : (Try.prog.info? 178).map (·.size) = some 20 := by kernel_rfl
theorem zero178 : (Try.prog.info? 178).map (·.zero) = some (some (.agg #[.int .u8 0, .int .u8 0, .int .u8 0, .int .u8 0, .int .u8 0, .int .u8 0, .int .u8 0, .int .u8 0, .int .u8 0, .int .u8 0, .int .u8 0, .int .u8 0, .int .u8 0, .int .u8 0, .int .u8 0, .int .u8 0, .int .u8 0, .int .u8 0, .int .u8 0, .int .u8 0])) := by kernel_rfl
theorem fld24_0 : fld Try.prog 24 0 = some (0, none) := by kernel_rfl
theorem fld24_1 : fld Try.prog 24 1 = some (1, none) := by kernel_rfl
theorem fld24_2 : fld Try.prog 24 2 = some (2, none) := by kernel_rfl
theorem fld28_0 : fld Try.prog 28 0 = some (0, none) := by kernel_rfl
theorem fld28_1 : fld Try.prog 28 1 = some (1, none) := by kernel_rfl
theorem fld28_2 : fld Try.prog 28 2 = some (2, none) := by kernel_rfl
theorem fld55_0 : fld Try.prog 55 0 = some (0, none) := by kernel_rfl
theorem fld55_1 : fld Try.prog 55 1 = some (1, none) := by kernel_rfl
theorem fld57_0 : fld Try.prog 57 0 = some (0, some 2) := by kernel_rfl
theorem fld57_1 : fld Try.prog 57 1 = some (2, none) := by kernel_rfl
theorem fld57_2 : fld Try.prog 57 2 = some (3, none) := by kernel_rfl
theorem fld74_0 : fld Try.prog 74 0 = some (0, none) := by kernel_rfl
theorem fld74_1 : fld Try.prog 74 1 = some (1, none) := by kernel_rfl
theorem fld89_0 : fld Try.prog 89 0 = some (0, none) := by kernel_rfl
theorem fld89_1 : fld Try.prog 89 1 = some (1, none) := by kernel_rfl
theorem fld93_0 : fld Try.prog 93 0 = some (0, some 3) := by kernel_rfl
theorem fld93_1 : fld Try.prog 93 1 = some (3, none) := by kernel_rfl
theorem fld93_2 : fld Try.prog 93 2 = some (4, none) := by kernel_rfl
theorem fld93_3 : fld Try.prog 93 3 = some (5, none) := by kernel_rfl
theorem fld93_4 : fld Try.prog 93 4 = some (6, none) := by kernel_rfl
theorem fld93_5 : fld Try.prog 93 5 = some (7, none) := by kernel_rfl
theorem fld93_6 : fld Try.prog 93 6 = some (8, none) := by kernel_rfl
theorem fld93_7 : fld Try.prog 93 7 = some (9, none) := by kernel_rfl
theorem fld93_8 : fld Try.prog 93 8 = some (10, none) := by kernel_rfl
theorem fld151_0 : fld Try.prog 151 0 = some (0, none) := by kernel_rfl
theorem fld151_1 : fld Try.prog 151 1 = some (1, none) := by kernel_rfl
theorem fld151_2 : fld Try.prog 151 2 = some (2, none) := by kernel_rfl
theorem bld28 : Try.prog.built 28 [] = some #[.int .i64 0, .int .i64 0, .slice none 0 0] := by kernel_rfl
theorem bld28_3 (x0 : Value) (x1 : Value) (x2 : Value) (h0 : x0.oneCell' = true) (h1 : x1.oneCell' = true) (h2 : x2.oneCell' = true) : Try.prog.built 28 [(0, x0), (1, x1), (2, x2)] = some #[x0, x1, x2] := by
  rw [built_struct (z := .agg #[.int .i64 0, .int .i64 0, .slice none 0 0]) (places := [(0, 1), (1, 1), (2, 1)]) (by kernel_rfl) Try.underlying28 (by kernel_rfl)]
  simp [Instr.fill, cells_agg, cells_one h0, cells_one h1, cells_one h2]
theorem bld55 : Try.prog.built 55 [] = some #[.int .i64 0, .int .i64 0] := by kernel_rfl
theorem bld55_2 (x0 : Value) (x1 : Value) (h0 : x0.oneCell' = true) (h1 : x1.oneCell' = true) : Try.prog.built 55 [(0, x0), (1, x1)] = some #[x0, x1] := by
  rw [built_struct (z := .agg #[.int .i64 0, .int .i64 0]) (places := [(0, 1), (1, 1)]) (by kernel_rfl) Try.underlying55 (by kernel_rfl)]
  simp [Instr.fill, cells_agg, cells_one h0, cells_one h1]
theorem bld57_3 (x0_0 : Value) (x0_1 : Value) (x1 : Value) (x2 : Value) (h1 : x1.oneCell' = true) (h2 : x2.oneCell' = true) : Try.prog.built 57 [(0, .agg #[x0_0, x0_1]), (1, x1), (2, x2)] = some #[x0_0, x0_1, x1, x2] := by
  rw [built_struct (z := .agg #[.int .i64 0, .int .i64 0, .int .i64 0, .int .i64 0]) (places := [(0, 2), (2, 1), (3, 1)]) (by kernel_rfl) Try.underlying57 (by kernel_rfl)]
  simp [Instr.fill, cells_agg, cells_one h1, cells_one h2]
theorem bld74_2 (x0 : Value) (x1 : Value) (h0 : x0.oneCell' = true) (h1 : x1.oneCell' = true) : Try.prog.built 74 [(0, x0), (1, x1)] = some #[x0, x1] := by
  rw [built_struct (z := .agg #[.int .i64 0, .int .i64 0]) (places := [(0, 1), (1, 1)]) (by kernel_rfl) Try.underlying74 (by kernel_rfl)]
  simp [Instr.fill, cells_agg, cells_one h0, cells_one h1]
theorem bld89_2 (x0 : Value) (x1 : Value) (h0 : x0.oneCell' = true) (h1 : x1.oneCell' = true) : Try.prog.built 89 [(0, x0), (1, x1)] = some #[x0, x1] := by
  rw [built_struct (z := .agg #[.int .i64 0, .bool false]) (places := [(0, 1), (1, 1)]) (by kernel_rfl) Try.underlying89 (by kernel_rfl)]
  simp [Instr.fill, cells_agg, cells_one h0, cells_one h1]
theorem bld93_p0_1 (x0_0 : Value) (x0_1 : Value) (x0_2 : Value) (x1 : Value) (h1 : x1.oneCell' = true) : Try.prog.built 93 [(0, .agg #[x0_0, x0_1, x0_2]), (1, x1)] = some #[x0_0, x0_1, x0_2, x1, .slice none 0 0, .slice none 0 0, .bool false, .int .i64 0, .int .i64 0, .int .i64 0, .slice none 0 0] := by
  rw [built_struct (z := .agg #[.int .i64 0, .int .i64 0, .slice none 0 0, .int .i64 0, .slice none 0 0, .slice none 0 0, .bool false, .int .i64 0, .int .i64 0, .int .i64 0, .slice none 0 0]) (places := [(0, 3), (3, 1), (4, 1), (5, 1), (6, 1), (7, 1), (8, 1), (9, 1), (10, 1)]) (by kernel_rfl) Try.underlying93 (by kernel_rfl)]
  simp [Instr.fill, cells_agg, cells_one h1]
theorem bld151_p0 (x0 : Value) (h0 : x0.oneCell' = true) : Try.prog.built 151 [(0, x0)] = some #[x0, .int .i64 0, .int .u64 0] := by
  rw [built_struct (z := .agg #[.slice none 0 0, .int .i64 0, .int .u64 0]) (places := [(0, 1), (1, 1), (2, 1)]) (by kernel_rfl) Try.underlying151 (by kernel_rfl)]
  simp [Instr.fill, cells_agg, cells_one h0]
theorem bld178 : Try.prog.built 178 [] = some #[.int .u8 0, .int .u8 0, .int .u8 0, .int .u8 0, .int .u8 0, .int .u8 0, .int .u8 0, .int .u8 0, .int .u8 0, .int .u8 0, .int .u8 0, .int .u8 0, .int .u8 0, .int .u8 0, .int .u8 0, .int .u8 0, .int .u8 0, .int .u8 0, .int .u8 0, .int .u8 0] := by kernel_rfl
theorem fn3 : FnOk Try.prog 3 := ⟨_, Try.func3, by kernel_rfl, rfl⟩
theorem fn4 : FnOk Try.prog 4 := ⟨_, Try.func4, by kernel_rfl, rfl⟩
theorem fn5 : FnOk Try.prog 5 := ⟨_, Try.func5, by kernel_rfl, rfl⟩
theorem fn6 : FnOk Try.prog 6 := ⟨_, Try.func6, by kernel_rfl, rfl⟩
theorem fn7 : FnOk Try.prog 7 := ⟨_, Try.func7, by kernel_rfl, rfl⟩
theorem fn8 : FnOk Try.prog 8 := ⟨_, Try.func8, by kernel_rfl, rfl⟩
theorem fn9 : FnOk Try.prog 9 := ⟨_, Try.func9, by kernel_rfl, rfl⟩
theorem fn10 : FnOk Try.prog 10 := ⟨_, Try.func10, by kernel_rfl, rfl⟩
theorem fn11 : FnOk Try.prog 11 := ⟨_, Try.func11, by kernel_rfl, rfl⟩
theorem fn12 : FnOk Try.prog 12 := ⟨_, Try.func12, by kernel_rfl, rfl⟩
theorem fn13 : FnOk Try.prog 13 := ⟨_, Try.func13, by kernel_rfl, rfl⟩
theorem fn14 : FnOk Try.prog 14 := ⟨_, Try.func14, by kernel_rfl, rfl⟩
theorem fn15 : FnOk Try.prog 15 := ⟨_, Try.func15, by kernel_rfl, rfl⟩
theorem fn16 : FnOk Try.prog 16 := ⟨_, Try.func16, by kernel_rfl, rfl⟩
theorem fn17 : FnOk Try.prog 17 := ⟨_, Try.func17, by kernel_rfl, rfl⟩
theorem fn18 : FnOk Try.prog 18 := ⟨_, Try.func18, by kernel_rfl, rfl⟩
theorem fn19 : FnOk Try.prog 19 := ⟨_, Try.func19, by kernel_rfl, rfl⟩
theorem fn20 : FnOk Try.prog 20 := ⟨_, Try.func20, by kernel_rfl, rfl⟩
theorem fn21 : FnOk Try.prog 21 := ⟨_, Try.func21, by kernel_rfl, rfl⟩
theorem fn22 : FnOk Try.prog 22 := ⟨_, Try.func22, by kernel_rfl, rfl⟩
theorem fn23 : FnOk Try.prog 23 := ⟨_, Try.func23, by kernel_rfl, rfl⟩
theorem fn24 : FnOk Try.prog 24 := ⟨_, Try.func24, by kernel_rfl, rfl⟩
theorem fn25 : FnOk Try.prog 25 := ⟨_, Try.func25, by kernel_rfl, rfl⟩
theorem fn26 : FnOk Try.prog 26 := ⟨_, Try.func26, by kernel_rfl, rfl⟩
theorem fn27 : FnOk Try.prog 27 := ⟨_, Try.func27, by kernel_rfl, rfl⟩
theorem fn28 : FnOk Try.prog 28 := ⟨_, Try.func28, by kernel_rfl, rfl⟩
theorem fn29 : FnOk Try.prog 29 := ⟨_, Try.func29, by kernel_rfl, rfl⟩
theorem fn30 : FnOk Try.prog 30 := ⟨_, Try.func30, by kernel_rfl, rfl⟩
theorem fn31 : FnOk Try.prog 31 := ⟨_, Try.func31, by kernel_rfl, rfl⟩
theorem fn32 : FnOk Try.prog 32 := ⟨_, Try.func32, by kernel_rfl, rfl⟩
theorem fn33 : FnOk Try.prog 33 := ⟨_, Try.func33, by kernel_rfl, rfl⟩
theorem fn34 : FnOk Try.prog 34 := ⟨_, Try.func34, by kernel_rfl, rfl⟩
theorem fn35 : FnOk Try.prog 35 := ⟨_, Try.func35, by kernel_rfl, rfl⟩
theorem fn36 : FnOk Try.prog 36 := ⟨_, Try.func36, by kernel_rfl, rfl⟩
theorem fn37 : FnOk Try.prog 37 := ⟨_, Try.func37, by kernel_rfl, rfl⟩
theorem fn38 : FnOk Try.prog 38 := ⟨_, Try.func38, by kernel_rfl, rfl⟩
theorem fn39 : FnOk Try.prog 39 := ⟨_, Try.func39, by kernel_rfl, rfl⟩
theorem fn40 : FnOk Try.prog 40 := ⟨_, Try.func40, by kernel_rfl, rfl⟩
theorem fn41 : FnOk Try.prog 41 := ⟨_, Try.func41, by kernel_rfl, rfl⟩
theorem fn42 : FnOk Try.prog 42 := ⟨_, Try.func42, by kernel_rfl, rfl⟩
theorem fn43 : FnOk Try.prog 43 := ⟨_, Try.func43, by kernel_rfl, rfl⟩
theorem fn44 : FnOk Try.prog 44 := ⟨_, Try.func44, by kernel_rfl, rfl⟩
theorem fn45 : FnOk Try.prog 45 := ⟨_, Try.func45, by kernel_rfl, rfl⟩
theorem fn46 : FnOk Try.prog 46 := ⟨_, Try.func46, by kernel_rfl, rfl⟩
theorem fn47 : FnOk Try.prog 47 := ⟨_, Try.func47, by kernel_rfl, rfl⟩
theorem fn48 : FnOk Try.prog 48 := ⟨_, Try.func48, by kernel_rfl, rfl⟩
theorem fn49 : FnOk Try.prog 49 := ⟨_, Try.func49, by kernel_rfl, rfl⟩
theorem fn50 : FnOk Try.prog 50 := ⟨_, Try.func50, by kernel_rfl, rfl⟩
theorem fn51 : FnOk Try.prog 51 := ⟨_, Try.func51, by kernel_rfl, rfl⟩
theorem fn52 : FnOk Try.prog 52 := ⟨_, Try.func52, by kernel_rfl, rfl⟩
theorem fn53 : FnOk Try.prog 53 := ⟨_, Try.func53, by kernel_rfl, rfl⟩
theorem fn54 : FnOk Try.prog 54 := ⟨_, Try.func54, by kernel_rfl, rfl⟩
theorem fn55 : FnOk Try.prog 55 := ⟨_, Try.func55, by kernel_rfl, rfl⟩
theorem fn56 : FnOk Try.prog 56 := ⟨_, Try.func56, by kernel_rfl, rfl⟩
theorem fn57 : FnOk Try.prog 57 := ⟨_, Try.func57, by kernel_rfl, rfl⟩
theorem fn58 : FnOk Try.prog 58 := ⟨_, Try.func58, by kernel_rfl, rfl⟩
theorem fn59 : FnOk Try.prog 59 := ⟨_, Try.func59, by kernel_rfl, rfl⟩
theorem fn60 : FnOk Try.prog 60 := ⟨_, Try.func60, by kernel_rfl, rfl⟩
theorem fn61 : FnOk Try.prog 61 := ⟨_, Try.func61, by kernel_rfl, rfl⟩
theorem fn62 : FnOk Try.prog 62 := ⟨_, Try.func62, by kernel_rfl, rfl⟩
theorem fn63 : FnOk Try.prog 63 := ⟨_, Try.func63, by kernel_rfl, rfl⟩
theorem fn64 : FnOk Try.prog 64 := ⟨_, Try.func64, by kernel_rfl, rfl⟩
theorem fn65 : FnOk Try.prog 65 := ⟨_, Try.func65, by kernel_rfl, rfl⟩
theorem fn66 : FnOk Try.prog 66 := ⟨_, Try.func66, by kernel_rfl, rfl⟩
theorem fn67 : FnOk Try.prog 67 := ⟨_, Try.func67, by kernel_rfl, rfl⟩
theorem fn68 : FnOk Try.prog 68 := ⟨_, Try.func68, by kernel_rfl, rfl⟩
theorem fn69 : FnOk Try.prog 69 := ⟨_, Try.func69, by kernel_rfl, rfl⟩
theorem fn70 : FnOk Try.prog 70 := ⟨_, Try.func70, by kernel_rfl, rfl⟩
theorem fn71 : FnOk Try.prog 71 := ⟨_, Try.func71, by kernel_rfl, rfl⟩
theorem fn72 : FnOk Try.prog 72 := ⟨_, Try.func72, by kernel_rfl, rfl⟩
theorem fn73 : FnOk Try.prog 73 := ⟨_, Try.func73, by kernel_rfl, rfl⟩
theorem fn74 : FnOk Try.prog 74 := ⟨_, Try.func74, by kernel_rfl, rfl⟩
theorem fn75 : FnOk Try.prog 75 := ⟨_, Try.func75, by kernel_rfl, rfl⟩
theorem fn76 : FnOk Try.prog 76 := ⟨_, Try.func76, by kernel_rfl, rfl⟩
theorem fn77 : FnOk Try.prog 77 := ⟨_, Try.func77, by kernel_rfl, rfl⟩
theorem fn78 : FnOk Try.prog 78 := ⟨_, Try.func78, by kernel_rfl, rfl⟩
theorem fn79 : FnOk Try.prog 79 := ⟨_, Try.func79, by kernel_rfl, rfl⟩
theorem fn80 : FnOk Try.prog 80 := ⟨_, Try.func80, by kernel_rfl, rfl⟩
theorem fn81 : FnOk Try.prog 81 := ⟨_, Try.func81, by kernel_rfl, rfl⟩
theorem fn82 : FnOk Try.prog 82 := ⟨_, Try.func82, by kernel_rfl, rfl⟩
theorem fn83 : FnOk Try.prog 83 := ⟨_, Try.func83, by kernel_rfl, rfl⟩
theorem fn84 : FnOk Try.prog 84 := ⟨_, Try.func84, by kernel_rfl, rfl⟩
theorem fn85 : FnOk Try.prog 85 := ⟨_, Try.func85, by kernel_rfl, rfl⟩
theorem fn86 : FnOk Try.prog 86 := ⟨_, Try.func86, by kernel_rfl, rfl⟩
theorem fn87 : FnOk Try.prog 87 := ⟨_, Try.func87, by kernel_rfl, rfl⟩
theorem fn88 : FnOk Try.prog 88 := ⟨_, Try.func88, by kernel_rfl, rfl⟩
theorem fn89 : FnOk Try.prog 89 := ⟨_, Try.func89, by kernel_rfl, rfl⟩
theorem fn90 : FnOk Try.prog 90 := ⟨_, Try.func90, by kernel_rfl, rfl⟩
theorem fn91 : FnOk Try.prog 91 := ⟨_, Try.func91, by kernel_rfl, rfl⟩
theorem fn92 : FnOk Try.prog 92 := ⟨_, Try.func92, by kernel_rfl, rfl⟩
theorem fn93 : FnOk Try.prog 93 := ⟨_, Try.func93, by kernel_rfl, rfl⟩
theorem fn94 : FnOk Try.prog 94 := ⟨_, Try.func94, by kernel_rfl, rfl⟩
theorem fn95 : FnOk Try.prog 95 := ⟨_, Try.func95, by kernel_rfl, rfl⟩
theorem fn96 : FnOk Try.prog 96 := ⟨_, Try.func96, by kernel_rfl, rfl⟩
theorem fn97 : FnOk Try.prog 97 := ⟨_, Try.func97, by kernel_rfl, rfl⟩
theorem fn98 : FnOk Try.prog 98 := ⟨_, Try.func98, by kernel_rfl, rfl⟩
theorem fn99 : FnOk Try.prog 99 := ⟨_, Try.func99, by kernel_rfl, rfl⟩
theorem fn100 : FnOk Try.prog 100 := ⟨_, Try.func100, by kernel_rfl, rfl⟩
theorem fn101 : FnOk Try.prog 101 := ⟨_, Try.func101, by kernel_rfl, rfl⟩
theorem fn102 : FnOk Try.prog 102 := ⟨_, Try.func102, by kernel_rfl, rfl⟩
theorem fn103 : FnOk Try.prog 103 := ⟨_, Try.func103, by kernel_rfl, rfl⟩
theorem fn104 : FnOk Try.prog 104 := ⟨_, Try.func104, by kernel_rfl, rfl⟩
theorem fn105 : FnOk Try.prog 105 := ⟨_, Try.func105, by kernel_rfl, rfl⟩
theorem fn106 : FnOk Try.prog 106 := ⟨_, Try.func106, by kernel_rfl, rfl⟩
theorem fn107 : FnOk Try.prog 107 := ⟨_, Try.func107, by kernel_rfl, rfl⟩
theorem fn108 : FnOk Try.prog 108 := ⟨_, Try.func108, by kernel_rfl, rfl⟩
theorem fn109 : FnOk Try.prog 109 := ⟨_, Try.func109, by kernel_rfl, rfl⟩
theorem fn110 : FnOk Try.prog 110 := ⟨_, Try.func110, by kernel_rfl, rfl⟩
theorem fn111 : FnOk Try.prog 111 := ⟨_, Try.func111, by kernel_rfl, rfl⟩
theorem fn112 : FnOk Try.prog 112 := ⟨_, Try.func112, by kernel_rfl, rfl⟩
theorem fn113 : FnOk Try.prog 113 := ⟨_, Try.func113, by kernel_rfl, rfl⟩
theorem fn114 : FnOk Try.prog 114 := ⟨_, Try.func114, by kernel_rfl, rfl⟩
theorem fn115 : FnOk Try.prog 115 := ⟨_, Try.func115, by kernel_rfl, rfl⟩
theorem fn116 : FnOk Try.prog 116 := ⟨_, Try.func116, by kernel_rfl, rfl⟩
theorem fn117 : FnOk Try.prog 117 := ⟨_, Try.func117, by kernel_rfl, rfl⟩
theorem fn118 : FnOk Try.prog 118 := ⟨_, Try.func118, by kernel_rfl, rfl⟩
theorem fn119 : FnOk Try.prog 119 := ⟨_, Try.func119, by kernel_rfl, rfl⟩
theorem fn120 : FnOk Try.prog 120 := ⟨_, Try.func120, by kernel_rfl, rfl⟩
theorem fn121 : FnOk Try.prog 121 := ⟨_, Try.func121, by kernel_rfl, rfl⟩
theorem fn122 : FnOk Try.prog 122 := ⟨_, Try.func122, by kernel_rfl, rfl⟩
theorem fn123 : FnOk Try.prog 123 := ⟨_, Try.func123, by kernel_rfl, rfl⟩
theorem fn124 : FnOk Try.prog 124 := ⟨_, Try.func124, by kernel_rfl, rfl⟩
theorem fn125 : FnOk Try.prog 125 := ⟨_, Try.func125, by kernel_rfl, rfl⟩
theorem fn126 : FnOk Try.prog 126 := ⟨_, Try.func126, by kernel_rfl, rfl⟩
theorem fn127 : FnOk Try.prog 127 := ⟨_, Try.func127, by kernel_rfl, rfl⟩
theorem fn128 : FnOk Try.prog 128 := ⟨_, Try.func128, by kernel_rfl, rfl⟩
theorem fn129 : FnOk Try.prog 129 := ⟨_, Try.func129, by kernel_rfl, rfl⟩
theorem fn130 : FnOk Try.prog 130 := ⟨_, Try.func130, by kernel_rfl, rfl⟩
theorem fn131 : FnOk Try.prog 131 := ⟨_, Try.func131, by kernel_rfl, rfl⟩
theorem fn132 : FnOk Try.prog 132 := ⟨_, Try.func132, by kernel_rfl, rfl⟩
theorem fn133 : FnOk Try.prog 133 := ⟨_, Try.func133, by kernel_rfl, rfl⟩
theorem fn134 : FnOk Try.prog 134 := ⟨_, Try.func134, by kernel_rfl, rfl⟩
theorem fn135 : FnOk Try.prog 135 := ⟨_, Try.func135, by kernel_rfl, rfl⟩
theorem fn136 : FnOk Try.prog 136 := ⟨_, Try.func136, by kernel_rfl, rfl⟩
theorem fn137 : FnOk Try.prog 137 := ⟨_, Try.func137, by kernel_rfl, rfl⟩
theorem fn138 : FnOk Try.prog 138 := ⟨_, Try.func138, by kernel_rfl, rfl⟩
theorem fn139 : FnOk Try.prog 139 := ⟨_, Try.func139, by kernel_rfl, rfl⟩
theorem fn140 : FnOk Try.prog 140 := ⟨_, Try.func140, by kernel_rfl, rfl⟩
theorem fn141 : FnOk Try.prog 141 := ⟨_, Try.func141, by kernel_rfl, rfl⟩
theorem fn142 : FnOk Try.prog 142 := ⟨_, Try.func142, by kernel_rfl, rfl⟩
theorem fn143 : FnOk Try.prog 143 := ⟨_, Try.func143, by kernel_rfl, rfl⟩
theorem fn144 : FnOk Try.prog 144 := ⟨_, Try.func144, by kernel_rfl, rfl⟩
theorem fn145 : FnOk Try.prog 145 := ⟨_, Try.func145, by kernel_rfl, rfl⟩
theorem fn146 : FnOk Try.prog 146 := ⟨_, Try.func146, by kernel_rfl, rfl⟩
theorem fn147 : FnOk Try.prog 147 := ⟨_, Try.func147, by kernel_rfl, rfl⟩
theorem fn148 : FnOk Try.prog 148 := ⟨_, Try.func148, by kernel_rfl, rfl⟩
theorem fn149 : FnOk Try.prog 149 := ⟨_, Try.func149, by kernel_rfl, rfl⟩
theorem fn150 : FnOk Try.prog 150 := ⟨_, Try.func150, by kernel_rfl, rfl⟩
theorem fn151 : FnOk Try.prog 151 := ⟨_, Try.func151, by kernel_rfl, rfl⟩
theorem fn152 : FnOk Try.prog 152 := ⟨_, Try.func152, by kernel_rfl, rfl⟩
theorem fn153 : FnOk Try.prog 153 := ⟨_, Try.func153, by kernel_rfl, rfl⟩
theorem fn154 : FnOk Try.prog 154 := ⟨_, Try.func154, by kernel_rfl, rfl⟩
theorem fn155 : FnOk Try.prog 155 := ⟨_, Try.func155, by kernel_rfl, rfl⟩
theorem fn156 : FnOk Try.prog 156 := ⟨_, Try.func156, by kernel_rfl, rfl⟩
theorem fn157 : FnOk Try.prog 157 := ⟨_, Try.func157, by kernel_rfl, rfl⟩
theorem fn158 : FnOk Try.prog 158 := ⟨_, Try.func158, by kernel_rfl, rfl⟩
theorem fn159 : FnOk Try.prog 159 := ⟨_, Try.func159, by kernel_rfl, rfl⟩
theorem fn160 : FnOk Try.prog 160 := ⟨_, Try.func160, by kernel_rfl, rfl⟩
theorem fn161 : FnOk Try.prog 161 := ⟨_, Try.func161, by kernel_rfl, rfl⟩
theorem fn162 : FnOk Try.prog 162 := ⟨_, Try.func162, by kernel_rfl, rfl⟩
theorem fn163 : FnOk Try.prog 163 := ⟨_, Try.func163, by kernel_rfl, rfl⟩
theorem fn164 : FnOk Try.prog 164 := ⟨_, Try.func164, by kernel_rfl, rfl⟩
theorem fn165 : FnOk Try.prog 165 := ⟨_, Try.func165, by kernel_rfl, rfl⟩
theorem fn166 : FnOk Try.prog 166 := ⟨_, Try.func166, by kernel_rfl, rfl⟩
theorem fn167 : FnOk Try.prog 167 := ⟨_, Try.func167, by kernel_rfl, rfl⟩
theorem fn168 : FnOk Try.prog 168 := ⟨_, Try.func168, by kernel_rfl, rfl⟩
end Go.Proofs.Ytkplanpcmkbfiaa
