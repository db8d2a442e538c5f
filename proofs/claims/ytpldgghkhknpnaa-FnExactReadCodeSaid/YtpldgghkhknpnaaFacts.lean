/- Closed facts on the types and functions of this seat's translation. No statement of the seat is proved here. -/
import Derived.Test.YtpldgghkhknpnaaRows
import Derived.Test.YtpldgghkhknpnaaAws
namespace Go.Proofs.Ytpldgghkhknpnaa
open Go.AW
set_option linter.unusedVariables false
set_option linter.unusedSimpArgs false

theorem follows : Try.prog.follows .mixedOrders = true := by kernel_rfl
theorem cell2 : cellT Try.prog 2 = some none := by kernel_rfl
theorem und2 : Try.prog.underlying 2 = some (.int .i64) := by kernel_rfl
theorem size2 : (Try.prog.info? 2).map (·.size) = some 1 := by kernel_rfl
theorem zero2 : (Try.prog.info? 2).map (·.zero) = some (some (.int .i64 0)) := by kernel_rfl
theorem cell3 : cellT Try.prog 3 = some none := by kernel_rfl
theorem und3 : Try.prog.underlying 3 = some (.int .i64) := by kernel_rfl
theorem size3 : (Try.prog.info? 3).map (·.size) = some 1 := by kernel_rfl
theorem zero3 : (Try.prog.info? 3).map (·.zero) = some (some (.int .i64 0)) := by kernel_rfl
theorem cell4 : cellT Try.prog 4 = some none := by kernel_rfl
theorem und4 : Try.prog.underlying 4 = some .bool := by kernel_rfl
theorem size4 : (Try.prog.info? 4).map (·.size) = some 1 := by kernel_rfl
theorem zero4 : (Try.prog.info? 4).map (·.zero) = some (some (.bool false)) := by kernel_rfl
theorem cell5 : cellT Try.prog 5 = some none := by kernel_rfl
theorem und5 : Try.prog.underlying 5 = some (.int .u8) := by kernel_rfl
theorem size5 : (Try.prog.info? 5).map (·.size) = some 1 := by kernel_rfl
theorem zero5 : (Try.prog.info? 5).map (·.zero) = some (some (.int .u8 0)) := by kernel_rfl
theorem cell9 : cellT Try.prog 9 = some none := by kernel_rfl
theorem und9 : Try.prog.underlying 9 = some .string := by kernel_rfl
theorem size9 : (Try.prog.info? 9).map (·.size) = some 1 := by kernel_rfl
theorem zero9 : (Try.prog.info? 9).map (·.zero) = some (some (.string ByteArray.empty)) := by kernel_rfl
theorem sl22 : SlT Try.prog 22 52 2 16 (.agg #[.int .i64 0, .bool false]) := ⟨by kernel_rfl, by kernel_rfl, rfl, by decide⟩
theorem cell22 : cellT Try.prog 22 = some none := by kernel_rfl
theorem size22 : (Try.prog.info? 22).map (·.size) = some 1 := by kernel_rfl
theorem zero22 : (Try.prog.info? 22).map (·.zero) = some (some (.slice none 0 0)) := by kernel_rfl
theorem sl25 : SlT Try.prog 25 50 2 16 (.agg #[.int .i64 0, .bool false]) := ⟨by kernel_rfl, by kernel_rfl, rfl, by decide⟩
theorem cell25 : cellT Try.prog 25 = some none := by kernel_rfl
theorem size25 : (Try.prog.info? 25).map (·.size) = some 1 := by kernel_rfl
theorem zero25 : (Try.prog.info? 25).map (·.zero) = some (some (.slice none 0 0)) := by kernel_rfl
theorem sl30 : SlT Try.prog 30 58 1 24 (.slice none 0 0) := ⟨by kernel_rfl, by kernel_rfl, rfl, by decide⟩
theorem cell30 : cellT Try.prog 30 = some none := by kernel_rfl
theorem size30 : (Try.prog.info? 30).map (·.size) = some 1 := by kernel_rfl
theorem zero30 : (Try.prog.info? 30).map (·.zero) = some (some (.slice none 0 0)) := by kernel_rfl
theorem cell50 : cellT Try.prog 50 = some (some 2) := by kernel_rfl
theorem size50 : (Try.prog.info? 50).map (·.size) = some 2 := by kernel_rfl
theorem zero50 : (Try.prog.info? 50).map (·.zero) = some (some (.agg #[.int .i64 0, .bool false])) := by kernel_rfl
theorem cell52 : cellT Try.prog 52 = some (some 2) := by kernel_rfl
theorem size52 : (Try.prog.info? 52).map (·.size) = some 2 := by kernel_rfl
theorem zero52 : (Try.prog.info? 52).map (·.zero) = some (some (.agg #[.int .i64 0, .bool false])) := by kernel_rfl
theorem sl55 : SlT Try.prog 55 9 1 16 (.string ByteArray.empty) := ⟨by kernel_rfl, by kernel_rfl, rfl, by decide⟩
theorem cell55 : cellT Try.prog 55 = some none := by kernel_rfl
theorem size55 : (Try.prog.info? 55).map (·.size) = some 1 := by kernel_rfl
theorem zero55 : (Try.prog.info? 55).map (·.zero) = some (some (.slice none 0 0)) := by kernel_rfl
theorem sl58 : SlT Try.prog 58 2 1 8 (.int .i64 0) := ⟨by kernel_rfl, by kernel_rfl, rfl, by decide⟩
theorem cell58 : cellT Try.prog 58 = some none := by kernel_rfl
theorem size58 : (Try.prog.info? 58).map (·.size) = some 1 := by kernel_rfl
theorem zero58 : (Try.prog.info? 58).map (·.zero) = some (some (.slice none 0 0)) := by kernel_rfl
theorem sl62 : SlT Try.prog 62 4 1 1 (.bool false) := ⟨by kernel_rfl, by kernel_rfl, rfl, by decide⟩
theorem cell62 : cellT Try.prog 62 = some none := by kernel_rfl
theorem size62 : (Try.prog.info? 62).map (·.size) = some 1 := by kernel_rfl
theorem zero62 : (Try.prog.info? 62).map (·.zero) = some (some (.slice none 0 0)) := by kernel_rfl
theorem sl75 : SlT Try.prog 75 5 1 1 (.int .u8 0) := ⟨by kernel_rfl, by kernel_rfl, rfl, by decide⟩
theorem cell75 : cellT Try.prog 75 = some none := by kernel_rfl
theorem size75 : (Try.prog.info? 75).map (·.size) = some 1 := by kernel_rfl
theorem zero75 : (Try.prog.info? 75).map (·.zero) = some (some (.slice none 0 0)) := by kernel_rfl
theorem cell76 : cellT Try.prog 76 = some (some 20) := by kernel_rfl
theorem und76 : Try.prog.underlying 76 = some (.array 20 5) := by kernel_rfl
theorem size76 : (Try.prog.info? 76).map (·.size) = some 20 := by kernel_rfl
theorem zero76 : (Try.prog.info? 76).map (·.zero) = some (some (.agg #[.int .u8 0, .int .u8 0, .int .u8 0, .int .u8 0, .int .u8 0, .int .u8 0, .int .u8 0, .int .u8 0, .int .u8 0, .int .u8 0, .int .u8 0, .int .u8 0, .int .u8 0, .int .u8 0, .int .u8 0, .int .u8 0, .int .u8 0, .int .u8 0, .int .u8 0, .int .u8 0])) := by kernel_rfl
theorem cell77 : cellT Try.prog 77 = some none := by kernel_rfl
theorem und77 : Try.prog.underlying 77 = some (.int .u64) := by kernel_rfl
theorem size77 : (Try.prog.info? 77).map (·.size) = some 1 := by kernel_rfl
theorem zero77 : (Try.prog.info? 77).map (·.zero) = some (some (.int .u64 0)) := by kernel_rfl
theorem fld50_0 : fld Try.prog 50 0 = some (0, none) := by kernel_rfl
theorem fld50_1 : fld Try.prog 50 1 = some (1, none) := by kernel_rfl
theorem fld52_0 : fld Try.prog 52 0 = some (0, none) := by kernel_rfl
theorem fld52_1 : fld Try.prog 52 1 = some (1, none) := by kernel_rfl
theorem bld76 : Try.prog.built 76 [] = some #[.int .u8 0, .int .u8 0, .int .u8 0, .int .u8 0, .int .u8 0, .int .u8 0, .int .u8 0, .int .u8 0, .int .u8 0, .int .u8 0, .int .u8 0, .int .u8 0, .int .u8 0, .int .u8 0, .int .u8 0, .int .u8 0, .int .u8 0, .int .u8 0, .int .u8 0, .int .u8 0] := by kernel_rfl
theorem fn3 : FnOk Try.prog 3 := ⟨_, Try.func3, by kernel_rfl, rfl⟩
theorem fn4 : FnOk Try.prog 4 := ⟨_, Try.func4, by kernel_rfl, rfl⟩
theorem fn5 : FnOk Try.prog 5 := ⟨_, Try.func5, by kernel_rfl, rfl⟩
theorem fn6 : FnOk Try.prog 6 := ⟨_, Try.func6, by kernel_rfl, rfl⟩
theorem fn7 : FnOk Try.prog 7 := ⟨_, Try.func7, by kernel_rfl, rfl⟩
theorem fn8 : FnOk Try.prog 8 := ⟨_, Try.func8, by kernel_rfl, rfl⟩
theorem fn9 : FnOk Try.prog 9 := ⟨_, Try.func9, by kernel_rfl, rfl⟩
theorem fn10 : FnOk Try.prog 10 := ⟨_, Try.func10, by kernel_rfl, rfl⟩
theorem fn11 : FnOk Try.prog 11 := ⟨_, Try.func11, by kernel_rfl, rfl⟩
theorem fn12 : FnOk Try.prog 12 := ⟨_, Try.func12, by kernel_rfl, rfl⟩
theorem fn13 : FnOk Try.prog 13 := ⟨_, Try.func13, by kernel_rfl, rfl⟩
theorem fn14 : FnOk Try.prog 14 := ⟨_, Try.func14, by kernel_rfl, rfl⟩
theorem fn15 : FnOk Try.prog 15 := ⟨_, Try.func15, by kernel_rfl, rfl⟩
theorem fn16 : FnOk Try.prog 16 := ⟨_, Try.func16, by kernel_rfl, rfl⟩
theorem fn17 : FnOk Try.prog 17 := ⟨_, Try.func17, by kernel_rfl, rfl⟩
theorem fn18 : FnOk Try.prog 18 := ⟨_, Try.func18, by kernel_rfl, rfl⟩
theorem fn19 : FnOk Try.prog 19 := ⟨_, Try.func19, by kernel_rfl, rfl⟩
theorem fn20 : FnOk Try.prog 20 := ⟨_, Try.func20, by kernel_rfl, rfl⟩
theorem fn21 : FnOk Try.prog 21 := ⟨_, Try.func21, by kernel_rfl, rfl⟩
theorem fn22 : FnOk Try.prog 22 := ⟨_, Try.func22, by kernel_rfl, rfl⟩
theorem fn23 : FnOk Try.prog 23 := ⟨_, Try.func23, by kernel_rfl, rfl⟩
theorem fn24 : FnOk Try.prog 24 := ⟨_, Try.func24, by kernel_rfl, rfl⟩
theorem fn25 : FnOk Try.prog 25 := ⟨_, Try.func25, by kernel_rfl, rfl⟩
theorem fn26 : FnOk Try.prog 26 := ⟨_, Try.func26, by kernel_rfl, rfl⟩
theorem fn27 : FnOk Try.prog 27 := ⟨_, Try.func27, by kernel_rfl, rfl⟩
theorem fn28 : FnOk Try.prog 28 := ⟨_, Try.func28, by kernel_rfl, rfl⟩
theorem fn29 : FnOk Try.prog 29 := ⟨_, Try.func29, by kernel_rfl, rfl⟩
theorem fn30 : FnOk Try.prog 30 := ⟨_, Try.func30, by kernel_rfl, rfl⟩
theorem fn31 : FnOk Try.prog 31 := ⟨_, Try.func31, by kernel_rfl, rfl⟩
theorem fn32 : FnOk Try.prog 32 := ⟨_, Try.func32, by kernel_rfl, rfl⟩
theorem fn33 : FnOk Try.prog 33 := ⟨_, Try.func33, by kernel_rfl, rfl⟩
theorem fn34 : FnOk Try.prog 34 := ⟨_, Try.func34, by kernel_rfl, rfl⟩
theorem fn35 : FnOk Try.prog 35 := ⟨_, Try.func35, by kernel_rfl, rfl⟩
theorem fn36 : FnOk Try.prog 36 := ⟨_, Try.func36, by kernel_rfl, rfl⟩
theorem fn37 : FnOk Try.prog 37 := ⟨_, Try.func37, by kernel_rfl, rfl⟩
theorem fn38 : FnOk Try.prog 38 := ⟨_, Try.func38, by kernel_rfl, rfl⟩
theorem fn39 : FnOk Try.prog 39 := ⟨_, Try.func39, by kernel_rfl, rfl⟩
theorem fn40 : FnOk Try.prog 40 := ⟨_, Try.func40, by kernel_rfl, rfl⟩
theorem fn41 : FnOk Try.prog 41 := ⟨_, Try.func41, by kernel_rfl, rfl⟩
theorem fn42 : FnOk Try.prog 42 := ⟨_, Try.func42, by kernel_rfl, rfl⟩
theorem fn43 : FnOk Try.prog 43 := ⟨_, Try.func43, by kernel_rfl, rfl⟩
theorem fn44 : FnOk Try.prog 44 := ⟨_, Try.func44, by kernel_rfl, rfl⟩
theorem fn45 : FnOk Try.prog 45 := ⟨_, Try.func45, by kernel_rfl, rfl⟩
theorem fn46 : FnOk Try.prog 46 := ⟨_, Try.func46, by kernel_rfl, rfl⟩
theorem fn47 : FnOk Try.prog 47 := ⟨_, Try.func47, by kernel_rfl, rfl⟩
theorem fn48 : FnOk Try.prog 48 := ⟨_, Try.func48, by kernel_rfl, rfl⟩
theorem fn49 : FnOk Try.prog 49 := ⟨_, Try.func49, by kernel_rfl, rfl⟩
theorem fn50 : FnOk Try.prog 50 := ⟨_, Try.func50, by kernel_rfl, rfl⟩
theorem fn51 : FnOk Try.prog 51 := ⟨_, Try.func51, by kernel_rfl, rfl⟩
theorem fn52 : FnOk Try.prog 52 := ⟨_, Try.func52, by kernel_rfl, rfl⟩
theorem fn53 : FnOk Try.prog 53 := ⟨_, Try.func53, by kernel_rfl, rfl⟩
theorem fn54 : FnOk Try.prog 54 := ⟨_, Try.func54, by kernel_rfl, rfl⟩
theorem fn55 : FnOk Try.prog 55 := ⟨_, Try.func55, by kernel_rfl, rfl⟩
theorem fn56 : FnOk Try.prog 56 := ⟨_, Try.func56, by kernel_rfl, rfl⟩
theorem fn57 : FnOk Try.prog 57 := ⟨_, Try.func57, by kernel_rfl, rfl⟩
theorem fn58 : FnOk Try.prog 58 := ⟨_, Try.func58, by kernel_rfl, rfl⟩
theorem fn59 : FnOk Try.prog 59 := ⟨_, Try.func59, by kernel_rfl, rfl⟩
theorem fn60 : FnOk Try.prog 60 := ⟨_, Try.func60, by kernel_rfl, rfl⟩
theorem fn61 : FnOk Try.prog 61 := ⟨_, Try.func61, by kernel_rfl, rfl⟩
theorem fn62 : FnOk Try.prog 62 := ⟨_, Try.func62, by kernel_rfl, rfl⟩
theorem fn63 : FnOk Try.prog 63 := ⟨_, Try.func63, by kernel_rfl, rfl⟩
theorem fn64 : FnOk Try.prog 64 := ⟨_, Try.func64, by kernel_rfl, rfl⟩
theorem fn65 : FnOk Try.prog 65 := ⟨_, Try.func65, by kernel_rfl, rfl⟩
theorem fn66 : FnOk Try.prog 66 := ⟨_, Try.func66, by kernel_rfl, rfl⟩
theorem fn67 : FnOk Try.prog 67 := ⟨_, Try.func67, by kernel_rfl, rfl⟩
theorem fn68 : FnOk Try.prog 68 := ⟨_, Try.func68, by kernel_rfl, rfl⟩
theorem fn69 : FnOk Try.prog 69 := ⟨_, Try.func69, by kernel_rfl, rfl⟩
theorem fn70 : FnOk Try.prog 70 := ⟨_, Try.func70, by kernel_rfl, rfl⟩
theorem fn71 : FnOk Try.prog 71 := ⟨_, Try.func71, by kernel_rfl, rfl⟩
theorem fn72 : FnOk Try.prog 72 := ⟨_, Try.func72, by kernel_rfl, rfl⟩
theorem fn73 : FnOk Try.prog 73 := ⟨_, Try.func73, by kernel_rfl, rfl⟩
theorem fn74 : FnOk Try.prog 74 := ⟨_, Try.func74, by kernel_rfl, rfl⟩
theorem fn75 : FnOk Try.prog 75 := ⟨_, Try.func75, by kernel_rfl, rfl⟩
theorem fn76 : FnOk Try.prog 76 := ⟨_, Try.func76, by kernel_rfl, rfl⟩
theorem fn77 : FnOk Try.prog 77 := ⟨_, Try.func77, by kernel_rfl, rfl⟩
theorem fn78 : FnOk Try.prog 78 := ⟨_, Try.func78, by kernel_rfl, rfl⟩
theorem fn79 : FnOk Try.prog 79 := ⟨_, Try.func79, by kernel_rfl, rfl⟩
theorem fn80 : FnOk Try.prog 80 := ⟨_, Try.func80, by kernel_rfl, rfl⟩
theorem fn81 : FnOk Try.prog 81 := ⟨_, Try.func81, by kernel_rfl, rfl⟩
theorem fn82 : FnOk Try.prog 82 := ⟨_, Try.func82, by kernel_rfl, rfl⟩
theorem fn83 : FnOk Try.prog 83 := ⟨_, Try.func83, by kernel_rfl, rfl⟩
theorem fn84 : FnOk Try.prog 84 := ⟨_, Try.func84, by kernel_rfl, rfl⟩
theorem fn85 : FnOk Try.prog 85 := ⟨_, Try.func85, by kernel_rfl, rfl⟩
theorem fn86 : FnOk Try.prog 86 := ⟨_, Try.func86, by kernel_rfl, rfl⟩
theorem fn87 : FnOk Try.prog 87 := ⟨_, Try.func87, by kernel_rfl, rfl⟩
theorem fn88 : FnOk Try.prog 88 := ⟨_, Try.func88, by kernel_rfl, rfl⟩
theorem fn89 : FnOk Try.prog 89 := ⟨_, Try.func89, by kernel_rfl, rfl⟩
theorem fn90 : FnOk Try.prog 90 := ⟨_, Try.func90, by kernel_rfl, rfl⟩
end Go.Proofs.Ytpldgghkhknpnaa
