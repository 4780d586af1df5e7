/- A part of the proof: abstract values, rules for the steps of the program's form, and contracts of its functions, each proved; no condition. -/
import Derived.Test.YthankfodgdfgaaaDoorA06
import Derived.Test.YthankfodgdfgaaaDoorProg
set_option linter.unusedVariables false
set_option linter.unusedSimpArgs false
set_option linter.unnecessarySimpa false
/- THE SEAT's TABLE, PRINTED BY seatv.py (a program of this session's): what each type is, by the translation's own facts; the functions, by name. -/
namespace Go.V
open Go.RowKit Go.Proofs
theorem te1 : TEok Tryd.prog 1 ⟨.other, 1, 8, .nilFunc⟩ := ⟨by kernel_rfl, ⟨_, Tryd.underlying1, rfl⟩⟩
theorem te2 : TEok Tryd.prog 2 ⟨.int .i64, 1, 8, .int .i64 0⟩ := ⟨by kernel_rfl, Tryd.underlying2⟩
theorem te3 : TEok Tryd.prog 3 ⟨.int .i64, 1, 8, .int .i64 0⟩ := ⟨by kernel_rfl, Tryd.underlying3⟩
theorem te4 : TEok Tryd.prog 4 ⟨.bool, 1, 1, .bool false⟩ := ⟨by kernel_rfl, Tryd.underlying4⟩
theorem te5 : TEok Tryd.prog 5 ⟨.int .u8, 1, 1, .int .u8 0⟩ := ⟨by kernel_rfl, Tryd.underlying5⟩
theorem te6 : TEok Tryd.prog 6 ⟨.int .u8, 1, 1, .int .u8 0⟩ := ⟨by kernel_rfl, Tryd.underlying6⟩
theorem te7 : TEok Tryd.prog 7 ⟨.struct [(0, 1), (1, 1), (2, 1), (3, 1)], 4, 24, .agg #[.int .i64 0, .int .i64 0, .bool false, .int .u8 0]⟩ := ⟨by kernel_rfl, ⟨_, Tryd.underlying7, by kernel_rfl⟩⟩
theorem te8 : TEok Tryd.prog 8 ⟨.struct [(0, 1), (1, 1), (2, 1), (3, 1)], 4, 24, .agg #[.int .i64 0, .int .i64 0, .bool false, .int .u8 0]⟩ := ⟨by kernel_rfl, ⟨_, Tryd.underlying8, by kernel_rfl⟩⟩
theorem te9 : TEok Tryd.prog 9 ⟨.str, 1, 16, .string ⟨#[]⟩⟩ := ⟨by kernel_rfl, Tryd.underlying9⟩
theorem te10 : TEok Tryd.prog 10 ⟨.str, 1, 16, .string ⟨#[]⟩⟩ := ⟨by kernel_rfl, Tryd.underlying10⟩
theorem te11 : TEok Tryd.prog 11 ⟨.str, 1, 16, .string ⟨#[]⟩⟩ := ⟨by kernel_rfl, Tryd.underlying11⟩
theorem te12 : TEok Tryd.prog 12 ⟨.int .u64, 1, 8, .int .u64 0⟩ := ⟨by kernel_rfl, Tryd.underlying12⟩
theorem te13 : TEok Tryd.prog 13 ⟨.struct [(0, 1), (1, 1)], 2, 24, .agg #[.string ⟨#[]⟩, .int .u64 0]⟩ := ⟨by kernel_rfl, ⟨_, Tryd.underlying13, by kernel_rfl⟩⟩
theorem te14 : TEok Tryd.prog 14 ⟨.struct [(0, 1), (1, 1)], 2, 24, .agg #[.string ⟨#[]⟩, .int .u64 0]⟩ := ⟨by kernel_rfl, ⟨_, Tryd.underlying14, by kernel_rfl⟩⟩
theorem te15 : TEok Tryd.prog 15 ⟨.ptr, 1, 8, .pointer none⟩ := ⟨by kernel_rfl, ⟨_, Tryd.underlying15⟩⟩
theorem te16 : TEok Tryd.prog 16 ⟨.ptr, 1, 8, .pointer none⟩ := ⟨by kernel_rfl, ⟨_, Tryd.underlying16⟩⟩
theorem te17 : TEok Tryd.prog 17 ⟨.ptr, 1, 8, .pointer none⟩ := ⟨by kernel_rfl, ⟨_, Tryd.underlying17⟩⟩
theorem te18 : TEok Tryd.prog 18 ⟨.struct [(0, 1)], 1, 8, .agg #[.pointer none]⟩ := ⟨by kernel_rfl, ⟨_, Tryd.underlying18, by kernel_rfl⟩⟩
theorem te19 : TEok Tryd.prog 19 ⟨.struct [(0, 1)], 1, 8, .agg #[.pointer none]⟩ := ⟨by kernel_rfl, ⟨_, Tryd.underlying19, by kernel_rfl⟩⟩
theorem te20 : TEok Tryd.prog 20 ⟨.other, 1, 16, .nilIface⟩ := ⟨by kernel_rfl, ⟨_, Tryd.underlying20, rfl⟩⟩
theorem te21 : TEok Tryd.prog 21 ⟨.int .i32, 1, 4, .int .i32 0⟩ := ⟨by kernel_rfl, Tryd.underlying21⟩
theorem te22 : TEok Tryd.prog 22 ⟨.other, 1, 8, .nilFunc⟩ := ⟨by kernel_rfl, ⟨_, Tryd.underlying22, rfl⟩⟩
theorem te23 : TEok Tryd.prog 23 ⟨.slice 46, 1, 24, .slice none 0 0⟩ := ⟨by kernel_rfl, Tryd.underlying23⟩
theorem te24 : TEok Tryd.prog 24 ⟨.int .i64, 1, 8, .int .i64 0⟩ := ⟨by kernel_rfl, Tryd.underlying24⟩
theorem te26 : TEok Tryd.prog 26 ⟨.other, 1, 8, .nilFunc⟩ := ⟨by kernel_rfl, ⟨_, Tryd.underlying26, rfl⟩⟩
theorem te27 : TEok Tryd.prog 27 ⟨.int .u64, 1, 8, .int .u64 0⟩ := ⟨by kernel_rfl, Tryd.underlying27⟩
theorem te28 : TEok Tryd.prog 28 ⟨.array 4 27, 4, 32, .agg #[.int .u64 0, .int .u64 0, .int .u64 0, .int .u64 0]⟩ := ⟨by kernel_rfl, Tryd.underlying28⟩
theorem te30 : TEok Tryd.prog 30 ⟨.other, 1, 8, .nilFunc⟩ := ⟨by kernel_rfl, ⟨_, Tryd.underlying30, rfl⟩⟩
theorem te31 : TEok Tryd.prog 31 ⟨.other, 1, 8, .nilFunc⟩ := ⟨by kernel_rfl, ⟨_, Tryd.underlying31, rfl⟩⟩
theorem te32 : TEok Tryd.prog 32 ⟨.other, 1, 8, .nilFunc⟩ := ⟨by kernel_rfl, ⟨_, Tryd.underlying32, rfl⟩⟩
theorem te34 : TEok Tryd.prog 34 ⟨.other, 1, 8, .nilFunc⟩ := ⟨by kernel_rfl, ⟨_, Tryd.underlying34, rfl⟩⟩
theorem te36 : TEok Tryd.prog 36 ⟨.other, 1, 8, .nilFunc⟩ := ⟨by kernel_rfl, ⟨_, Tryd.underlying36, rfl⟩⟩
theorem te38 : TEok Tryd.prog 38 ⟨.other, 1, 8, .nilFunc⟩ := ⟨by kernel_rfl, ⟨_, Tryd.underlying38, rfl⟩⟩
theorem te40 : TEok Tryd.prog 40 ⟨.other, 1, 8, .nilFunc⟩ := ⟨by kernel_rfl, ⟨_, Tryd.underlying40, rfl⟩⟩
theorem te41 : TEok Tryd.prog 41 ⟨.other, 1, 8, .nilFunc⟩ := ⟨by kernel_rfl, ⟨_, Tryd.underlying41, rfl⟩⟩
theorem te42 : TEok Tryd.prog 42 ⟨.other, 1, 8, .nilFunc⟩ := ⟨by kernel_rfl, ⟨_, Tryd.underlying42, rfl⟩⟩
theorem te43 : TEok Tryd.prog 43 ⟨.other, 1, 8, .nilFunc⟩ := ⟨by kernel_rfl, ⟨_, Tryd.underlying43, rfl⟩⟩
theorem te44 : TEok Tryd.prog 44 ⟨.other, 1, 8, .nilFunc⟩ := ⟨by kernel_rfl, ⟨_, Tryd.underlying44, rfl⟩⟩
theorem te45 : TEok Tryd.prog 45 ⟨.struct [(0, 1), (1, 1), (2, 1), (3, 1), (4, 1), (5, 4)], 9, 80, .agg #[.string ⟨#[]⟩, .int .i64 0, .int .i64 0, .int .i64 0, .int .u8 0, .int .u64 0, .int .u64 0, .int .u64 0, .int .u64 0]⟩ := ⟨by kernel_rfl, ⟨_, Tryd.underlying45, by kernel_rfl⟩⟩
theorem te46 : TEok Tryd.prog 46 ⟨.struct [(0, 1), (1, 1), (2, 1), (3, 1), (4, 1), (5, 4)], 9, 80, .agg #[.string ⟨#[]⟩, .int .i64 0, .int .i64 0, .int .i64 0, .int .u8 0, .int .u64 0, .int .u64 0, .int .u64 0, .int .u64 0]⟩ := ⟨by kernel_rfl, ⟨_, Tryd.underlying46, by kernel_rfl⟩⟩
theorem te47 : TEok Tryd.prog 47 ⟨.other, 1, 8, .nilFunc⟩ := ⟨by kernel_rfl, ⟨_, Tryd.underlying47, rfl⟩⟩
theorem te48 : TEok Tryd.prog 48 ⟨.other, 1, 8, .nilFunc⟩ := ⟨by kernel_rfl, ⟨_, Tryd.underlying48, rfl⟩⟩
theorem te49 : TEok Tryd.prog 49 ⟨.ptr, 1, 8, .pointer none⟩ := ⟨by kernel_rfl, ⟨_, Tryd.underlying49⟩⟩
theorem te50 : TEok Tryd.prog 50 ⟨.ptr, 1, 8, .pointer none⟩ := ⟨by kernel_rfl, ⟨_, Tryd.underlying50⟩⟩
theorem te51 : TEok Tryd.prog 51 ⟨.ptr, 1, 8, .pointer none⟩ := ⟨by kernel_rfl, ⟨_, Tryd.underlying51⟩⟩
theorem te52 : TEok Tryd.prog 52 ⟨.struct [(0, 1), (1, 1)], 2, 24, .agg #[.string ⟨#[]⟩, .int .i64 0]⟩ := ⟨by kernel_rfl, ⟨_, Tryd.underlying52, by kernel_rfl⟩⟩
theorem te53 : TEok Tryd.prog 53 ⟨.struct [(0, 1), (1, 1)], 2, 24, .agg #[.string ⟨#[]⟩, .int .i64 0]⟩ := ⟨by kernel_rfl, ⟨_, Tryd.underlying53, by kernel_rfl⟩⟩
theorem te54 : TEok Tryd.prog 54 ⟨.struct [(0, 2), (2, 1), (3, 1), (4, 1)], 5, 40, .agg #[.string ⟨#[]⟩, .int .i64 0, .int .i64 0, .bool false, .bool false]⟩ := ⟨by kernel_rfl, ⟨_, Tryd.underlying54, by kernel_rfl⟩⟩
theorem te55 : TEok Tryd.prog 55 ⟨.struct [(0, 2), (2, 1), (3, 1), (4, 1)], 5, 40, .agg #[.string ⟨#[]⟩, .int .i64 0, .int .i64 0, .bool false, .bool false]⟩ := ⟨by kernel_rfl, ⟨_, Tryd.underlying55, by kernel_rfl⟩⟩
theorem te56 : TEok Tryd.prog 56 ⟨.other, 1, 8, .nilFunc⟩ := ⟨by kernel_rfl, ⟨_, Tryd.underlying56, rfl⟩⟩
theorem te58 : TEok Tryd.prog 58 ⟨.other, 1, 8, .nilFunc⟩ := ⟨by kernel_rfl, ⟨_, Tryd.underlying58, rfl⟩⟩
theorem te59 : TEok Tryd.prog 59 ⟨.other, 1, 8, .nilFunc⟩ := ⟨by kernel_rfl, ⟨_, Tryd.underlying59, rfl⟩⟩
theorem te60 : TEok Tryd.prog 60 ⟨.struct [(0, 9), (9, 1), (10, 1), (11, 1), (12, 1)], 13, 96, .agg #[.string ⟨#[]⟩, .int .i64 0, .int .i64 0, .int .i64 0, .int .u8 0, .int .u64 0, .int .u64 0, .int .u64 0, .int .u64 0, .int .i64 0, .bool false, .bool false, .bool false]⟩ := ⟨by kernel_rfl, ⟨_, Tryd.underlying60, by kernel_rfl⟩⟩
theorem te61 : TEok Tryd.prog 61 ⟨.struct [(0, 9), (9, 1), (10, 1), (11, 1), (12, 1)], 13, 96, .agg #[.string ⟨#[]⟩, .int .i64 0, .int .i64 0, .int .i64 0, .int .u8 0, .int .u64 0, .int .u64 0, .int .u64 0, .int .u64 0, .int .i64 0, .bool false, .bool false, .bool false]⟩ := ⟨by kernel_rfl, ⟨_, Tryd.underlying61, by kernel_rfl⟩⟩
theorem te62 : TEok Tryd.prog 62 ⟨.other, 1, 8, .nilFunc⟩ := ⟨by kernel_rfl, ⟨_, Tryd.underlying62, rfl⟩⟩
theorem te63 : TEok Tryd.prog 63 ⟨.other, 1, 8, .nilFunc⟩ := ⟨by kernel_rfl, ⟨_, Tryd.underlying63, rfl⟩⟩
theorem te65 : TEok Tryd.prog 65 ⟨.other, 1, 8, .nilFunc⟩ := ⟨by kernel_rfl, ⟨_, Tryd.underlying65, rfl⟩⟩
theorem te67 : TEok Tryd.prog 67 ⟨.other, 1, 8, .nilFunc⟩ := ⟨by kernel_rfl, ⟨_, Tryd.underlying67, rfl⟩⟩
theorem te68 : TEok Tryd.prog 68 ⟨.other, 1, 8, .nilFunc⟩ := ⟨by kernel_rfl, ⟨_, Tryd.underlying68, rfl⟩⟩
theorem te69 : TEok Tryd.prog 69 ⟨.other, 1, 8, .nilFunc⟩ := ⟨by kernel_rfl, ⟨_, Tryd.underlying69, rfl⟩⟩
theorem te70 : TEok Tryd.prog 70 ⟨.other, 1, 8, .nilFunc⟩ := ⟨by kernel_rfl, ⟨_, Tryd.underlying70, rfl⟩⟩
theorem te71 : TEok Tryd.prog 71 ⟨.ptr, 1, 8, .pointer none⟩ := ⟨by kernel_rfl, ⟨_, Tryd.underlying71⟩⟩
theorem te72 : TEok Tryd.prog 72 ⟨.slice 5, 1, 24, .slice none 0 0⟩ := ⟨by kernel_rfl, Tryd.underlying72⟩
theorem te73 : TEok Tryd.prog 73 ⟨.struct [(0, 1), (1, 1)], 2, 32, .agg #[.pointer none, .slice none 0 0]⟩ := ⟨by kernel_rfl, ⟨_, Tryd.underlying73, by kernel_rfl⟩⟩
theorem te74 : TEok Tryd.prog 74 ⟨.struct [(0, 1), (1, 1)], 2, 32, .agg #[.pointer none, .slice none 0 0]⟩ := ⟨by kernel_rfl, ⟨_, Tryd.underlying74, by kernel_rfl⟩⟩
theorem te75 : TEok Tryd.prog 75 ⟨.other, 1, 16, .nilIface⟩ := ⟨by kernel_rfl, ⟨_, Tryd.underlying75, rfl⟩⟩
theorem te76 : TEok Tryd.prog 76 ⟨.other, 1, 16, .nilIface⟩ := ⟨by kernel_rfl, ⟨_, Tryd.underlying76, rfl⟩⟩
theorem te78 : TEok Tryd.prog 78 ⟨.other, 1, 8, .nilFunc⟩ := ⟨by kernel_rfl, ⟨_, Tryd.underlying78, rfl⟩⟩
theorem te79 : TEok Tryd.prog 79 ⟨.other, 1, 8, .nilFunc⟩ := ⟨by kernel_rfl, ⟨_, Tryd.underlying79, rfl⟩⟩
theorem te80 : TEok Tryd.prog 80 ⟨.other, 1, 8, .nilFunc⟩ := ⟨by kernel_rfl, ⟨_, Tryd.underlying80, rfl⟩⟩
theorem te81 : TEok Tryd.prog 81 ⟨.other, 1, 8, .nilFunc⟩ := ⟨by kernel_rfl, ⟨_, Tryd.underlying81, rfl⟩⟩
theorem te82 : TEok Tryd.prog 82 ⟨.other, 1, 8, .nilFunc⟩ := ⟨by kernel_rfl, ⟨_, Tryd.underlying82, rfl⟩⟩
theorem te83 : TEok Tryd.prog 83 ⟨.other, 1, 8, .nilFunc⟩ := ⟨by kernel_rfl, ⟨_, Tryd.underlying83, rfl⟩⟩
theorem te84 : TEok Tryd.prog 84 ⟨.other, 1, 8, .nilFunc⟩ := ⟨by kernel_rfl, ⟨_, Tryd.underlying84, rfl⟩⟩
theorem te85 : TEok Tryd.prog 85 ⟨.other, 1, 8, .nilFunc⟩ := ⟨by kernel_rfl, ⟨_, Tryd.underlying85, rfl⟩⟩
theorem te86 : TEok Tryd.prog 86 ⟨.other, 1, 8, .nilFunc⟩ := ⟨by kernel_rfl, ⟨_, Tryd.underlying86, rfl⟩⟩
theorem te87 : TEok Tryd.prog 87 ⟨.other, 1, 8, .nilFunc⟩ := ⟨by kernel_rfl, ⟨_, Tryd.underlying87, rfl⟩⟩
theorem te88 : TEok Tryd.prog 88 ⟨.other, 1, 8, .nilFunc⟩ := ⟨by kernel_rfl, ⟨_, Tryd.underlying88, rfl⟩⟩
theorem te89 : TEok Tryd.prog 89 ⟨.struct [(0, 1), (1, 1)], 2, 16, .agg #[.int .i64 0, .int .i64 0]⟩ := ⟨by kernel_rfl, ⟨_, Tryd.underlying89, by kernel_rfl⟩⟩
theorem te90 : TEok Tryd.prog 90 ⟨.struct [(0, 1), (1, 1)], 2, 16, .agg #[.int .i64 0, .int .i64 0]⟩ := ⟨by kernel_rfl, ⟨_, Tryd.underlying90, by kernel_rfl⟩⟩
theorem te91 : TEok Tryd.prog 91 ⟨.other, 1, 8, .nilFunc⟩ := ⟨by kernel_rfl, ⟨_, Tryd.underlying91, rfl⟩⟩
theorem te92 : TEok Tryd.prog 92 ⟨.other, 1, 8, .nilFunc⟩ := ⟨by kernel_rfl, ⟨_, Tryd.underlying92, rfl⟩⟩
theorem te93 : TEok Tryd.prog 93 ⟨.other, 1, 8, .map none⟩ := ⟨by kernel_rfl, ⟨_, Tryd.underlying93, rfl⟩⟩
theorem te94 : TEok Tryd.prog 94 ⟨.other, 1, 8, .nilFunc⟩ := ⟨by kernel_rfl, ⟨_, Tryd.underlying94, rfl⟩⟩
theorem te95 : TEok Tryd.prog 95 ⟨.other, 1, 8, .map none⟩ := ⟨by kernel_rfl, ⟨_, Tryd.underlying95, rfl⟩⟩
theorem te96 : TEok Tryd.prog 96 ⟨.other, 1, 8, .nilFunc⟩ := ⟨by kernel_rfl, ⟨_, Tryd.underlying96, rfl⟩⟩
theorem te97 : TEok Tryd.prog 97 ⟨.other, 1, 8, .nilFunc⟩ := ⟨by kernel_rfl, ⟨_, Tryd.underlying97, rfl⟩⟩
theorem te98 : TEok Tryd.prog 98 ⟨.other, 1, 8, .nilFunc⟩ := ⟨by kernel_rfl, ⟨_, Tryd.underlying98, rfl⟩⟩
theorem te99 : TEok Tryd.prog 99 ⟨.array 12 9, 12, 192, .agg #[.string ⟨#[]⟩, .string ⟨#[]⟩, .string ⟨#[]⟩, .string ⟨#[]⟩, .string ⟨#[]⟩, .string ⟨#[]⟩, .string ⟨#[]⟩, .string ⟨#[]⟩, .string ⟨#[]⟩, .string ⟨#[]⟩, .string ⟨#[]⟩, .string ⟨#[]⟩]⟩ := ⟨by kernel_rfl, Tryd.underlying99⟩
theorem te100 : TEok Tryd.prog 100 ⟨.ptr, 1, 8, .pointer none⟩ := ⟨by kernel_rfl, ⟨_, Tryd.underlying100⟩⟩
theorem te101 : TEok Tryd.prog 101 ⟨.slice 9, 1, 24, .slice none 0 0⟩ := ⟨by kernel_rfl, Tryd.underlying101⟩
theorem te102 : TEok Tryd.prog 102 ⟨.other, 1, 8, .nilFunc⟩ := ⟨by kernel_rfl, ⟨_, Tryd.underlying102, rfl⟩⟩
theorem te103 : TEok Tryd.prog 103 ⟨.other, 1, 8, .nilFunc⟩ := ⟨by kernel_rfl, ⟨_, Tryd.underlying103, rfl⟩⟩
theorem te104 : TEok Tryd.prog 104 ⟨.other, 1, 8, .nilFunc⟩ := ⟨by kernel_rfl, ⟨_, Tryd.underlying104, rfl⟩⟩
theorem te105 : TEok Tryd.prog 105 ⟨.ptr, 1, 8, .pointer none⟩ := ⟨by kernel_rfl, ⟨_, Tryd.underlying105⟩⟩
theorem te106 : TEok Tryd.prog 106 ⟨.other, 1, 8, .nilFunc⟩ := ⟨by kernel_rfl, ⟨_, Tryd.underlying106, rfl⟩⟩
theorem te107 : TEok Tryd.prog 107 ⟨.other, 1, 8, .nilFunc⟩ := ⟨by kernel_rfl, ⟨_, Tryd.underlying107, rfl⟩⟩
theorem te109 : TEok Tryd.prog 109 ⟨.other, 1, 8, .nilFunc⟩ := ⟨by kernel_rfl, ⟨_, Tryd.underlying109, rfl⟩⟩
theorem te110 : TEok Tryd.prog 110 ⟨.other, 1, 8, .nilFunc⟩ := ⟨by kernel_rfl, ⟨_, Tryd.underlying110, rfl⟩⟩
theorem te112 : TEok Tryd.prog 112 ⟨.other, 1, 8, .nilFunc⟩ := ⟨by kernel_rfl, ⟨_, Tryd.underlying112, rfl⟩⟩
theorem te114 : TEok Tryd.prog 114 ⟨.other, 1, 8, .nilFunc⟩ := ⟨by kernel_rfl, ⟨_, Tryd.underlying114, rfl⟩⟩
theorem te115 : TEok Tryd.prog 115 ⟨.other, 1, 8, .nilFunc⟩ := ⟨by kernel_rfl, ⟨_, Tryd.underlying115, rfl⟩⟩
theorem te116 : TEok Tryd.prog 116 ⟨.array 24 5, 24, 24, .agg #[.int .u8 0, .int .u8 0, .int .u8 0, .int .u8 0, .int .u8 0, .int .u8 0, .int .u8 0, .int .u8 0, .int .u8 0, .int .u8 0, .int .u8 0, .int .u8 0, .int .u8 0, .int .u8 0, .int .u8 0, .int .u8 0, .int .u8 0, .int .u8 0, .int .u8 0, .int .u8 0, .int .u8 0, .int .u8 0, .int .u8 0, .int .u8 0]⟩ := ⟨by kernel_rfl, Tryd.underlying116⟩
theorem te117 : TEok Tryd.prog 117 ⟨.other, 1, 8, .nilFunc⟩ := ⟨by kernel_rfl, ⟨_, Tryd.underlying117, rfl⟩⟩
theorem te118 : TEok Tryd.prog 118 ⟨.other, 1, 8, .nilFunc⟩ := ⟨by kernel_rfl, ⟨_, Tryd.underlying118, rfl⟩⟩
theorem te120 : TEok Tryd.prog 120 ⟨.other, 1, 8, .nilFunc⟩ := ⟨by kernel_rfl, ⟨_, Tryd.underlying120, rfl⟩⟩
theorem te121 : TEok Tryd.prog 121 ⟨.other, 1, 8, .nilFunc⟩ := ⟨by kernel_rfl, ⟨_, Tryd.underlying121, rfl⟩⟩
theorem te122 : TEok Tryd.prog 122 ⟨.other, 1, 8, .nilFunc⟩ := ⟨by kernel_rfl, ⟨_, Tryd.underlying122, rfl⟩⟩
theorem te123 : TEok Tryd.prog 123 ⟨.array 20 27, 20, 160, .agg #[.int .u64 0, .int .u64 0, .int .u64 0, .int .u64 0, .int .u64 0, .int .u64 0, .int .u64 0, .int .u64 0, .int .u64 0, .int .u64 0, .int .u64 0, .int .u64 0, .int .u64 0, .int .u64 0, .int .u64 0, .int .u64 0, .int .u64 0, .int .u64 0, .int .u64 0, .int .u64 0]⟩ := ⟨by kernel_rfl, Tryd.underlying123⟩
theorem te124 : TEok Tryd.prog 124 ⟨.int .u32, 1, 4, .int .u32 0⟩ := ⟨by kernel_rfl, Tryd.underlying124⟩
theorem te125 : TEok Tryd.prog 125 ⟨.array 65 5, 65, 65, .agg #[.int .u8 0, .int .u8 0, .int .u8 0, .int .u8 0, .int .u8 0, .int .u8 0, .int .u8 0, .int .u8 0, .int .u8 0, .int .u8 0, .int .u8 0, .int .u8 0, .int .u8 0, .int .u8 0, .int .u8 0, .int .u8 0, .int .u8 0, .int .u8 0, .int .u8 0, .int .u8 0, .int .u8 0, .int .u8 0, .int .u8 0, .int .u8 0, .int .u8 0, .int .u8 0, .int .u8 0, .int .u8 0, .int .u8 0, .int .u8 0, .int .u8 0, .int .u8 0, .int .u8 0, .int .u8 0, .int .u8 0, .int .u8 0, .int .u8 0, .int .u8 0, .int .u8 0, .int .u8 0, .int .u8 0, .int .u8 0, .int .u8 0, .int .u8 0, .int .u8 0, .int .u8 0, .int .u8 0, .int .u8 0, .int .u8 0, .int .u8 0, .int .u8 0, .int .u8 0, .int .u8 0, .int .u8 0, .int .u8 0, .int .u8 0, .int .u8 0, .int .u8 0, .int .u8 0, .int .u8 0, .int .u8 0, .int .u8 0, .int .u8 0, .int .u8 0, .int .u8 0]⟩ := ⟨by kernel_rfl, Tryd.underlying125⟩
theorem te126 : TEok Tryd.prog 126 ⟨.int .u64, 1, 8, .int .u64 0⟩ := ⟨by kernel_rfl, Tryd.underlying126⟩
theorem te127 : TEok Tryd.prog 127 ⟨.other, 1, 8, .nilFunc⟩ := ⟨by kernel_rfl, ⟨_, Tryd.underlying127, rfl⟩⟩
theorem te128 : TEok Tryd.prog 128 ⟨.other, 1, 8, .nilFunc⟩ := ⟨by kernel_rfl, ⟨_, Tryd.underlying128, rfl⟩⟩
theorem te129 : TEok Tryd.prog 129 ⟨.array 32 5, 32, 32, .agg #[.int .u8 0, .int .u8 0, .int .u8 0, .int .u8 0, .int .u8 0, .int .u8 0, .int .u8 0, .int .u8 0, .int .u8 0, .int .u8 0, .int .u8 0, .int .u8 0, .int .u8 0, .int .u8 0, .int .u8 0, .int .u8 0, .int .u8 0, .int .u8 0, .int .u8 0, .int .u8 0, .int .u8 0, .int .u8 0, .int .u8 0, .int .u8 0, .int .u8 0, .int .u8 0, .int .u8 0, .int .u8 0, .int .u8 0, .int .u8 0, .int .u8 0, .int .u8 0]⟩ := ⟨by kernel_rfl, Tryd.underlying129⟩
theorem te130 : TEok Tryd.prog 130 ⟨.array 64 5, 64, 64, .agg #[.int .u8 0, .int .u8 0, .int .u8 0, .int .u8 0, .int .u8 0, .int .u8 0, .int .u8 0, .int .u8 0, .int .u8 0, .int .u8 0, .int .u8 0, .int .u8 0, .int .u8 0, .int .u8 0, .int .u8 0, .int .u8 0, .int .u8 0, .int .u8 0, .int .u8 0, .int .u8 0, .int .u8 0, .int .u8 0, .int .u8 0, .int .u8 0, .int .u8 0, .int .u8 0, .int .u8 0, .int .u8 0, .int .u8 0, .int .u8 0, .int .u8 0, .int .u8 0, .int .u8 0, .int .u8 0, .int .u8 0, .int .u8 0, .int .u8 0, .int .u8 0, .int .u8 0, .int .u8 0, .int .u8 0, .int .u8 0, .int .u8 0, .int .u8 0, .int .u8 0, .int .u8 0, .int .u8 0, .int .u8 0, .int .u8 0, .int .u8 0, .int .u8 0, .int .u8 0, .int .u8 0, .int .u8 0, .int .u8 0, .int .u8 0, .int .u8 0, .int .u8 0, .int .u8 0, .int .u8 0, .int .u8 0, .int .u8 0, .int .u8 0, .int .u8 0]⟩ := ⟨by kernel_rfl, Tryd.underlying130⟩
theorem te131 : TEok Tryd.prog 131 ⟨.struct [(0, 1), (1, 1), (2, 1), (3, 1)], 4, 40, .agg #[.pointer none, .pointer none, .pointer none, .string ⟨#[]⟩]⟩ := ⟨by kernel_rfl, ⟨_, Tryd.underlying131, by kernel_rfl⟩⟩
theorem te132 : TEok Tryd.prog 132 ⟨.struct [(0, 1), (1, 1), (2, 1), (3, 1)], 4, 40, .agg #[.pointer none, .pointer none, .pointer none, .string ⟨#[]⟩]⟩ := ⟨by kernel_rfl, ⟨_, Tryd.underlying132, by kernel_rfl⟩⟩
theorem te133 : TEok Tryd.prog 133 ⟨.array 0 16, 0, 0, .agg #[]⟩ := ⟨by kernel_rfl, Tryd.underlying133⟩
theorem te134 : TEok Tryd.prog 134 ⟨.struct [(0, 0)], 0, 0, .agg #[]⟩ := ⟨by kernel_rfl, ⟨_, Tryd.underlying134, by kernel_rfl⟩⟩
theorem te135 : TEok Tryd.prog 135 ⟨.struct [(0, 0)], 0, 0, .agg #[]⟩ := ⟨by kernel_rfl, ⟨_, Tryd.underlying135, by kernel_rfl⟩⟩
theorem te136 : TEok Tryd.prog 136 ⟨.int .u8, 1, 1, .int .u8 0⟩ := ⟨by kernel_rfl, Tryd.underlying136⟩
theorem te137 : TEok Tryd.prog 137 ⟨.int .u8, 1, 1, .int .u8 0⟩ := ⟨by kernel_rfl, Tryd.underlying137⟩
theorem te138 : TEok Tryd.prog 138 ⟨.other, 1, 8, .nilFunc⟩ := ⟨by kernel_rfl, ⟨_, Tryd.underlying138, rfl⟩⟩
theorem te139 : TEok Tryd.prog 139 ⟨.int .i32, 1, 4, .int .i32 0⟩ := ⟨by kernel_rfl, Tryd.underlying139⟩
theorem te140 : TEok Tryd.prog 140 ⟨.int .i32, 1, 4, .int .i32 0⟩ := ⟨by kernel_rfl, Tryd.underlying140⟩
theorem te141 : TEok Tryd.prog 141 ⟨.struct [(0, 1), (1, 1), (2, 1), (3, 1), (4, 1), (5, 1), (6, 1), (7, 1), (8, 1), (9, 1), (10, 1)], 11, 48, .agg #[.int .u64 0, .int .u64 0, .int .u32 0, .int .u8 0, .int .u8 0, .int .u8 0, .int .u8 0, .nilFunc, .pointer none, .int .i32 0, .int .i32 0]⟩ := ⟨by kernel_rfl, ⟨_, Tryd.underlying141, by kernel_rfl⟩⟩
theorem te142 : TEok Tryd.prog 142 ⟨.struct [(0, 1), (1, 1), (2, 1), (3, 1), (4, 1), (5, 1), (6, 1), (7, 1), (8, 1), (9, 1), (10, 1)], 11, 48, .agg #[.int .u64 0, .int .u64 0, .int .u32 0, .int .u8 0, .int .u8 0, .int .u8 0, .int .u8 0, .nilFunc, .pointer none, .int .i32 0, .int .i32 0]⟩ := ⟨by kernel_rfl, ⟨_, Tryd.underlying142, by kernel_rfl⟩⟩
abbrev t_int : TypeId := 3
abbrev t_bool : TypeId := 4
abbrev ZaO : TypeId := 5
abbrev Zaz : TypeId := 23
abbrev ZgW : TypeId := 24
abbrev ZeL : TypeId := 27
abbrev Zac : TypeId := 28
abbrev Zae : TypeId := 46
abbrev ZdR : TypeId := 55
abbrev ZbB : TypeId := 71
abbrev ZaK : TypeId := 74
abbrev Zeq : TypeId := 90
noncomputable def tys : Tr := (.node 73 (.node 36 (.node 16 (.node 8 (.node 4 (.node 2 (.node 1 (.leaf 1 ⟨.other, 1, 8, .nilFunc⟩) (.leaf 2 ⟨.int .i64, 1, 8, .int .i64 0⟩)) (.node 3 (.leaf 3 ⟨.int .i64, 1, 8, .int .i64 0⟩) (.leaf 4 ⟨.bool, 1, 1, .bool false⟩))) (.node 6 (.node 5 (.leaf 5 ⟨.int .u8, 1, 1, .int .u8 0⟩) (.leaf 6 ⟨.int .u8, 1, 1, .int .u8 0⟩)) (.node 7 (.leaf 7 ⟨.struct [(0, 1), (1, 1), (2, 1), (3, 1)], 4, 24, .agg #[.int .i64 0, .int .i64 0, .bool false, .int .u8 0]⟩) (.leaf 8 ⟨.struct [(0, 1), (1, 1), (2, 1), (3, 1)], 4, 24, .agg #[.int .i64 0, .int .i64 0, .bool false, .int .u8 0]⟩)))) (.node 12 (.node 10 (.node 9 (.leaf 9 ⟨.str, 1, 16, .string ⟨#[]⟩⟩) (.leaf 10 ⟨.str, 1, 16, .string ⟨#[]⟩⟩)) (.node 11 (.leaf 11 ⟨.str, 1, 16, .string ⟨#[]⟩⟩) (.leaf 12 ⟨.int .u64, 1, 8, .int .u64 0⟩))) (.node 14 (.node 13 (.leaf 13 ⟨.struct [(0, 1), (1, 1)], 2, 24, .agg #[.string ⟨#[]⟩, .int .u64 0]⟩) (.leaf 14 ⟨.struct [(0, 1), (1, 1)], 2, 24, .agg #[.string ⟨#[]⟩, .int .u64 0]⟩)) (.node 15 (.leaf 15 ⟨.ptr, 1, 8, .pointer none⟩) (.leaf 16 ⟨.ptr, 1, 8, .pointer none⟩))))) (.node 24 (.node 20 (.node 18 (.node 17 (.leaf 17 ⟨.ptr, 1, 8, .pointer none⟩) (.leaf 18 ⟨.struct [(0, 1)], 1, 8, .agg #[.pointer none]⟩)) (.node 19 (.leaf 19 ⟨.struct [(0, 1)], 1, 8, .agg #[.pointer none]⟩) (.leaf 20 ⟨.other, 1, 16, .nilIface⟩))) (.node 22 (.node 21 (.leaf 21 ⟨.int .i32, 1, 4, .int .i32 0⟩) (.leaf 22 ⟨.other, 1, 8, .nilFunc⟩)) (.node 23 (.leaf 23 ⟨.slice 46, 1, 24, .slice none 0 0⟩) (.leaf 24 ⟨.int .i64, 1, 8, .int .i64 0⟩)))) (.node 30 (.node 27 (.node 26 (.leaf 26 ⟨.other, 1, 8, .nilFunc⟩) (.leaf 27 ⟨.int .u64, 1, 8, .int .u64 0⟩)) (.node 28 (.leaf 28 ⟨.array 4 27, 4, 32, .agg #[.int .u64 0, .int .u64 0, .int .u64 0, .int .u64 0]⟩) (.leaf 30 ⟨.other, 1, 8, .nilFunc⟩))) (.node 32 (.node 31 (.leaf 31 ⟨.other, 1, 8, .nilFunc⟩) (.leaf 32 ⟨.other, 1, 8, .nilFunc⟩)) (.node 34 (.leaf 34 ⟨.other, 1, 8, .nilFunc⟩) (.leaf 36 ⟨.other, 1, 8, .nilFunc⟩)))))) (.node 54 (.node 46 (.node 42 (.node 40 (.node 38 (.leaf 38 ⟨.other, 1, 8, .nilFunc⟩) (.leaf 40 ⟨.other, 1, 8, .nilFunc⟩)) (.node 41 (.leaf 41 ⟨.other, 1, 8, .nilFunc⟩) (.leaf 42 ⟨.other, 1, 8, .nilFunc⟩))) (.node 44 (.node 43 (.leaf 43 ⟨.other, 1, 8, .nilFunc⟩) (.leaf 44 ⟨.other, 1, 8, .nilFunc⟩)) (.node 45 (.leaf 45 ⟨.struct [(0, 1), (1, 1), (2, 1), (3, 1), (4, 1), (5, 4)], 9, 80, .agg #[.string ⟨#[]⟩, .int .i64 0, .int .i64 0, .int .i64 0, .int .u8 0, .int .u64 0, .int .u64 0, .int .u64 0, .int .u64 0]⟩) (.leaf 46 ⟨.struct [(0, 1), (1, 1), (2, 1), (3, 1), (4, 1), (5, 4)], 9, 80, .agg #[.string ⟨#[]⟩, .int .i64 0, .int .i64 0, .int .i64 0, .int .u8 0, .int .u64 0, .int .u64 0, .int .u64 0, .int .u64 0]⟩)))) (.node 50 (.node 48 (.node 47 (.leaf 47 ⟨.other, 1, 8, .nilFunc⟩) (.leaf 48 ⟨.other, 1, 8, .nilFunc⟩)) (.node 49 (.leaf 49 ⟨.ptr, 1, 8, .pointer none⟩) (.leaf 50 ⟨.ptr, 1, 8, .pointer none⟩))) (.node 52 (.node 51 (.leaf 51 ⟨.ptr, 1, 8, .pointer none⟩) (.leaf 52 ⟨.struct [(0, 1), (1, 1)], 2, 24, .agg #[.string ⟨#[]⟩, .int .i64 0]⟩)) (.node 53 (.leaf 53 ⟨.struct [(0, 1), (1, 1)], 2, 24, .agg #[.string ⟨#[]⟩, .int .i64 0]⟩) (.leaf 54 ⟨.struct [(0, 2), (2, 1), (3, 1), (4, 1)], 5, 40, .agg #[.string ⟨#[]⟩, .int .i64 0, .int .i64 0, .bool false, .bool false]⟩))))) (.node 63 (.node 59 (.node 56 (.node 55 (.leaf 55 ⟨.struct [(0, 2), (2, 1), (3, 1), (4, 1)], 5, 40, .agg #[.string ⟨#[]⟩, .int .i64 0, .int .i64 0, .bool false, .bool false]⟩) (.leaf 56 ⟨.other, 1, 8, .nilFunc⟩)) (.node 58 (.leaf 58 ⟨.other, 1, 8, .nilFunc⟩) (.leaf 59 ⟨.other, 1, 8, .nilFunc⟩))) (.node 61 (.node 60 (.leaf 60 ⟨.struct [(0, 9), (9, 1), (10, 1), (11, 1), (12, 1)], 13, 96, .agg #[.string ⟨#[]⟩, .int .i64 0, .int .i64 0, .int .i64 0, .int .u8 0, .int .u64 0, .int .u64 0, .int .u64 0, .int .u64 0, .int .i64 0, .bool false, .bool false, .bool false]⟩) (.leaf 61 ⟨.struct [(0, 9), (9, 1), (10, 1), (11, 1), (12, 1)], 13, 96, .agg #[.string ⟨#[]⟩, .int .i64 0, .int .i64 0, .int .i64 0, .int .u8 0, .int .u64 0, .int .u64 0, .int .u64 0, .int .u64 0, .int .i64 0, .bool false, .bool false, .bool false]⟩)) (.node 62 (.leaf 62 ⟨.other, 1, 8, .nilFunc⟩) (.leaf 63 ⟨.other, 1, 8, .nilFunc⟩)))) (.node 69 (.node 67 (.node 65 (.leaf 65 ⟨.other, 1, 8, .nilFunc⟩) (.leaf 67 ⟨.other, 1, 8, .nilFunc⟩)) (.node 68 (.leaf 68 ⟨.other, 1, 8, .nilFunc⟩) (.leaf 69 ⟨.other, 1, 8, .nilFunc⟩))) (.node 71 (.node 70 (.leaf 70 ⟨.other, 1, 8, .nilFunc⟩) (.leaf 71 ⟨.ptr, 1, 8, .pointer none⟩)) (.node 72 (.leaf 72 ⟨.slice 5, 1, 24, .slice none 0 0⟩) (.leaf 73 ⟨.struct [(0, 1), (1, 1)], 2, 32, .agg #[.pointer none, .slice none 0 0]⟩))))))) (.node 106 (.node 90 (.node 82 (.node 78 (.node 75 (.node 74 (.leaf 74 ⟨.struct [(0, 1), (1, 1)], 2, 32, .agg #[.pointer none, .slice none 0 0]⟩) (.leaf 75 ⟨.other, 1, 16, .nilIface⟩)) (.node 76 (.leaf 76 ⟨.other, 1, 16, .nilIface⟩) (.leaf 78 ⟨.other, 1, 8, .nilFunc⟩))) (.node 80 (.node 79 (.leaf 79 ⟨.other, 1, 8, .nilFunc⟩) (.leaf 80 ⟨.other, 1, 8, .nilFunc⟩)) (.node 81 (.leaf 81 ⟨.other, 1, 8, .nilFunc⟩) (.leaf 82 ⟨.other, 1, 8, .nilFunc⟩)))) (.node 86 (.node 84 (.node 83 (.leaf 83 ⟨.other, 1, 8, .nilFunc⟩) (.leaf 84 ⟨.other, 1, 8, .nilFunc⟩)) (.node 85 (.leaf 85 ⟨.other, 1, 8, .nilFunc⟩) (.leaf 86 ⟨.other, 1, 8, .nilFunc⟩))) (.node 88 (.node 87 (.leaf 87 ⟨.other, 1, 8, .nilFunc⟩) (.leaf 88 ⟨.other, 1, 8, .nilFunc⟩)) (.node 89 (.leaf 89 ⟨.struct [(0, 1), (1, 1)], 2, 16, .agg #[.int .i64 0, .int .i64 0]⟩) (.leaf 90 ⟨.struct [(0, 1), (1, 1)], 2, 16, .agg #[.int .i64 0, .int .i64 0]⟩))))) (.node 98 (.node 94 (.node 92 (.node 91 (.leaf 91 ⟨.other, 1, 8, .nilFunc⟩) (.leaf 92 ⟨.other, 1, 8, .nilFunc⟩)) (.node 93 (.leaf 93 ⟨.other, 1, 8, .map none⟩) (.leaf 94 ⟨.other, 1, 8, .nilFunc⟩))) (.node 96 (.node 95 (.leaf 95 ⟨.other, 1, 8, .map none⟩) (.leaf 96 ⟨.other, 1, 8, .nilFunc⟩)) (.node 97 (.leaf 97 ⟨.other, 1, 8, .nilFunc⟩) (.leaf 98 ⟨.other, 1, 8, .nilFunc⟩)))) (.node 102 (.node 100 (.node 99 (.leaf 99 ⟨.array 12 9, 12, 192, .agg #[.string ⟨#[]⟩, .string ⟨#[]⟩, .string ⟨#[]⟩, .string ⟨#[]⟩, .string ⟨#[]⟩, .string ⟨#[]⟩, .string ⟨#[]⟩, .string ⟨#[]⟩, .string ⟨#[]⟩, .string ⟨#[]⟩, .string ⟨#[]⟩, .string ⟨#[]⟩]⟩) (.leaf 100 ⟨.ptr, 1, 8, .pointer none⟩)) (.node 101 (.leaf 101 ⟨.slice 9, 1, 24, .slice none 0 0⟩) (.leaf 102 ⟨.other, 1, 8, .nilFunc⟩))) (.node 104 (.node 103 (.leaf 103 ⟨.other, 1, 8, .nilFunc⟩) (.leaf 104 ⟨.other, 1, 8, .nilFunc⟩)) (.node 105 (.leaf 105 ⟨.ptr, 1, 8, .pointer none⟩) (.leaf 106 ⟨.other, 1, 8, .nilFunc⟩)))))) (.node 126 (.node 117 (.node 112 (.node 109 (.node 107 (.leaf 107 ⟨.other, 1, 8, .nilFunc⟩) (.leaf 109 ⟨.other, 1, 8, .nilFunc⟩)) (.node 110 (.leaf 110 ⟨.other, 1, 8, .nilFunc⟩) (.leaf 112 ⟨.other, 1, 8, .nilFunc⟩))) (.node 115 (.node 114 (.leaf 114 ⟨.other, 1, 8, .nilFunc⟩) (.leaf 115 ⟨.other, 1, 8, .nilFunc⟩)) (.node 116 (.leaf 116 ⟨.array 24 5, 24, 24, .agg #[.int .u8 0, .int .u8 0, .int .u8 0, .int .u8 0, .int .u8 0, .int .u8 0, .int .u8 0, .int .u8 0, .int .u8 0, .int .u8 0, .int .u8 0, .int .u8 0, .int .u8 0, .int .u8 0, .int .u8 0, .int .u8 0, .int .u8 0, .int .u8 0, .int .u8 0, .int .u8 0, .int .u8 0, .int .u8 0, .int .u8 0, .int .u8 0]⟩) (.leaf 117 ⟨.other, 1, 8, .nilFunc⟩)))) (.node 122 (.node 120 (.node 118 (.leaf 118 ⟨.other, 1, 8, .nilFunc⟩) (.leaf 120 ⟨.other, 1, 8, .nilFunc⟩)) (.node 121 (.leaf 121 ⟨.other, 1, 8, .nilFunc⟩) (.leaf 122 ⟨.other, 1, 8, .nilFunc⟩))) (.node 124 (.node 123 (.leaf 123 ⟨.array 20 27, 20, 160, .agg #[.int .u64 0, .int .u64 0, .int .u64 0, .int .u64 0, .int .u64 0, .int .u64 0, .int .u64 0, .int .u64 0, .int .u64 0, .int .u64 0, .int .u64 0, .int .u64 0, .int .u64 0, .int .u64 0, .int .u64 0, .int .u64 0, .int .u64 0, .int .u64 0, .int .u64 0, .int .u64 0]⟩) (.leaf 124 ⟨.int .u32, 1, 4, .int .u32 0⟩)) (.node 125 (.leaf 125 ⟨.array 65 5, 65, 65, .agg #[.int .u8 0, .int .u8 0, .int .u8 0, .int .u8 0, .int .u8 0, .int .u8 0, .int .u8 0, .int .u8 0, .int .u8 0, .int .u8 0, .int .u8 0, .int .u8 0, .int .u8 0, .int .u8 0, .int .u8 0, .int .u8 0, .int .u8 0, .int .u8 0, .int .u8 0, .int .u8 0, .int .u8 0, .int .u8 0, .int .u8 0, .int .u8 0, .int .u8 0, .int .u8 0, .int .u8 0, .int .u8 0, .int .u8 0, .int .u8 0, .int .u8 0, .int .u8 0, .int .u8 0, .int .u8 0, .int .u8 0, .int .u8 0, .int .u8 0, .int .u8 0, .int .u8 0, .int .u8 0, .int .u8 0, .int .u8 0, .int .u8 0, .int .u8 0, .int .u8 0, .int .u8 0, .int .u8 0, .int .u8 0, .int .u8 0, .int .u8 0, .int .u8 0, .int .u8 0, .int .u8 0, .int .u8 0, .int .u8 0, .int .u8 0, .int .u8 0, .int .u8 0, .int .u8 0, .int .u8 0, .int .u8 0, .int .u8 0, .int .u8 0, .int .u8 0, .int .u8 0]⟩) (.leaf 126 ⟨.int .u64, 1, 8, .int .u64 0⟩))))) (.node 134 (.node 130 (.node 128 (.node 127 (.leaf 127 ⟨.other, 1, 8, .nilFunc⟩) (.leaf 128 ⟨.other, 1, 8, .nilFunc⟩)) (.node 129 (.leaf 129 ⟨.array 32 5, 32, 32, .agg #[.int .u8 0, .int .u8 0, .int .u8 0, .int .u8 0, .int .u8 0, .int .u8 0, .int .u8 0, .int .u8 0, .int .u8 0, .int .u8 0, .int .u8 0, .int .u8 0, .int .u8 0, .int .u8 0, .int .u8 0, .int .u8 0, .int .u8 0, .int .u8 0, .int .u8 0, .int .u8 0, .int .u8 0, .int .u8 0, .int .u8 0, .int .u8 0, .int .u8 0, .int .u8 0, .int .u8 0, .int .u8 0, .int .u8 0, .int .u8 0, .int .u8 0, .int .u8 0]⟩) (.leaf 130 ⟨.array 64 5, 64, 64, .agg #[.int .u8 0, .int .u8 0, .int .u8 0, .int .u8 0, .int .u8 0, .int .u8 0, .int .u8 0, .int .u8 0, .int .u8 0, .int .u8 0, .int .u8 0, .int .u8 0, .int .u8 0, .int .u8 0, .int .u8 0, .int .u8 0, .int .u8 0, .int .u8 0, .int .u8 0, .int .u8 0, .int .u8 0, .int .u8 0, .int .u8 0, .int .u8 0, .int .u8 0, .int .u8 0, .int .u8 0, .int .u8 0, .int .u8 0, .int .u8 0, .int .u8 0, .int .u8 0, .int .u8 0, .int .u8 0, .int .u8 0, .int .u8 0, .int .u8 0, .int .u8 0, .int .u8 0, .int .u8 0, .int .u8 0, .int .u8 0, .int .u8 0, .int .u8 0, .int .u8 0, .int .u8 0, .int .u8 0, .int .u8 0, .int .u8 0, .int .u8 0, .int .u8 0, .int .u8 0, .int .u8 0, .int .u8 0, .int .u8 0, .int .u8 0, .int .u8 0, .int .u8 0, .int .u8 0, .int .u8 0, .int .u8 0, .int .u8 0, .int .u8 0, .int .u8 0]⟩))) (.node 132 (.node 131 (.leaf 131 ⟨.struct [(0, 1), (1, 1), (2, 1), (3, 1)], 4, 40, .agg #[.pointer none, .pointer none, .pointer none, .string ⟨#[]⟩]⟩) (.leaf 132 ⟨.struct [(0, 1), (1, 1), (2, 1), (3, 1)], 4, 40, .agg #[.pointer none, .pointer none, .pointer none, .string ⟨#[]⟩]⟩)) (.node 133 (.leaf 133 ⟨.array 0 16, 0, 0, .agg #[]⟩) (.leaf 134 ⟨.struct [(0, 0)], 0, 0, .agg #[]⟩)))) (.node 138 (.node 136 (.node 135 (.leaf 135 ⟨.struct [(0, 0)], 0, 0, .agg #[]⟩) (.leaf 136 ⟨.int .u8, 1, 1, .int .u8 0⟩)) (.node 137 (.leaf 137 ⟨.int .u8, 1, 1, .int .u8 0⟩) (.leaf 138 ⟨.other, 1, 8, .nilFunc⟩))) (.node 140 (.node 139 (.leaf 139 ⟨.int .i32, 1, 4, .int .i32 0⟩) (.leaf 140 ⟨.int .i32, 1, 4, .int .i32 0⟩)) (.node 141 (.leaf 141 ⟨.struct [(0, 1), (1, 1), (2, 1), (3, 1), (4, 1), (5, 1), (6, 1), (7, 1), (8, 1), (9, 1), (10, 1)], 11, 48, .agg #[.int .u64 0, .int .u64 0, .int .u32 0, .int .u8 0, .int .u8 0, .int .u8 0, .int .u8 0, .nilFunc, .pointer none, .int .i32 0, .int .i32 0]⟩) (.leaf 142 ⟨.struct [(0, 1), (1, 1), (2, 1), (3, 1), (4, 1), (5, 1), (6, 1), (7, 1), (8, 1), (9, 1), (10, 1)], 11, 48, .agg #[.int .u64 0, .int .u64 0, .int .u32 0, .int .u8 0, .int .u8 0, .int .u8 0, .int .u8 0, .nilFunc, .pointer none, .int .i32 0, .int .i32 0]⟩))))))))
theorem tysOk : tys.All Tryd.prog := ⟨⟨⟨⟨⟨⟨⟨te1, te2⟩, ⟨te3, te4⟩⟩, ⟨⟨te5, te6⟩, ⟨te7, te8⟩⟩⟩, ⟨⟨⟨te9, te10⟩, ⟨te11, te12⟩⟩, ⟨⟨te13, te14⟩, ⟨te15, te16⟩⟩⟩⟩, ⟨⟨⟨⟨te17, te18⟩, ⟨te19, te20⟩⟩, ⟨⟨te21, te22⟩, ⟨te23, te24⟩⟩⟩, ⟨⟨⟨te26, te27⟩, ⟨te28, te30⟩⟩, ⟨⟨te31, te32⟩, ⟨te34, te36⟩⟩⟩⟩⟩, ⟨⟨⟨⟨⟨te38, te40⟩, ⟨te41, te42⟩⟩, ⟨⟨te43, te44⟩, ⟨te45, te46⟩⟩⟩, ⟨⟨⟨te47, te48⟩, ⟨te49, te50⟩⟩, ⟨⟨te51, te52⟩, ⟨te53, te54⟩⟩⟩⟩, ⟨⟨⟨⟨te55, te56⟩, ⟨te58, te59⟩⟩, ⟨⟨te60, te61⟩, ⟨te62, te63⟩⟩⟩, ⟨⟨⟨te65, te67⟩, ⟨te68, te69⟩⟩, ⟨⟨te70, te71⟩, ⟨te72, te73⟩⟩⟩⟩⟩⟩, ⟨⟨⟨⟨⟨⟨te74, te75⟩, ⟨te76, te78⟩⟩, ⟨⟨te79, te80⟩, ⟨te81, te82⟩⟩⟩, ⟨⟨⟨te83, te84⟩, ⟨te85, te86⟩⟩, ⟨⟨te87, te88⟩, ⟨te89, te90⟩⟩⟩⟩, ⟨⟨⟨⟨te91, te92⟩, ⟨te93, te94⟩⟩, ⟨⟨te95, te96⟩, ⟨te97, te98⟩⟩⟩, ⟨⟨⟨te99, te100⟩, ⟨te101, te102⟩⟩, ⟨⟨te103, te104⟩, ⟨te105, te106⟩⟩⟩⟩⟩, ⟨⟨⟨⟨⟨te107, te109⟩, ⟨te110, te112⟩⟩, ⟨⟨te114, te115⟩, ⟨te116, te117⟩⟩⟩, ⟨⟨⟨te118, te120⟩, ⟨te121, te122⟩⟩, ⟨⟨te123, te124⟩, ⟨te125, te126⟩⟩⟩⟩, ⟨⟨⟨⟨te127, te128⟩, ⟨te129, te130⟩⟩, ⟨⟨te131, te132⟩, ⟨te133, te134⟩⟩⟩, ⟨⟨⟨te135, te136⟩, ⟨te137, te138⟩⟩, ⟨⟨te139, te140⟩, ⟨te141, te142⟩⟩⟩⟩⟩⟩⟩
noncomputable def C : Ctx := ⟨Tryd.prog, [], tys.get, fun _ _ h => Tr.get_ok tysOk h⟩
theorem mixC : C.P.follows .mixedOrders = true := by kernel_rfl
abbrev ZdS : FuncId := 4
theorem ZbK : C.P.funcs[4]? = some Tryd.f4 := Tryd.func4
theorem Zdv : Enters C.P 4 := Enters.mk ZbK (by kernel_rfl) (by kernel_rfl)
theorem Zdw : Tryd.f4.ntmps = 96 := Tryd.ntmps4
theorem Zdx : Tryd.f4.results = #[ResultVar.tmp 2] := Tryd.results4
abbrev ZaX : FuncId := 8
theorem ZaP : C.P.funcs[8]? = some Tryd.f8 := Tryd.func8
theorem Zbq : Enters C.P 8 := Enters.mk ZaP (by kernel_rfl) (by kernel_rfl)
theorem Zbr : Tryd.f8.ntmps = 102 := Tryd.ntmps8
theorem Zbs : Tryd.f8.results = #[ResultVar.tmp 6] := Tryd.results8
abbrev Zgk : FuncId := 11
theorem Zdy : C.P.funcs[11]? = some Tryd.f11 := Tryd.func11
theorem ZfZ : Enters C.P 11 := Enters.mk Zdy (by kernel_rfl) (by kernel_rfl)
theorem Zf0 : Tryd.f11.ntmps = 161 := Tryd.ntmps11
theorem Zf1 : Tryd.f11.results = #[ResultVar.tmp 0] := Tryd.results11
abbrev ZaV : FuncId := 12
theorem Zb1 : C.P.funcs[12]? = some Tryd.f12 := Tryd.func12
theorem ZdT : Enters C.P 12 := Enters.mk Zb1 (by kernel_rfl) (by kernel_rfl)
theorem ZdU : Tryd.f12.ntmps = 47 := Tryd.ntmps12
theorem ZdV : Tryd.f12.results = #[ResultVar.tmp 2, ResultVar.cell 3 24, ResultVar.cell 4 3] := Tryd.results12
abbrev ZbL : FuncId := 14
theorem ZbC : C.P.funcs[14]? = some Tryd.f14 := Tryd.func14
theorem Zdf : Enters C.P 14 := Enters.mk ZbC (by kernel_rfl) (by kernel_rfl)
theorem Zdg : Tryd.f14.ntmps = 82 := Tryd.ntmps14
theorem Zdh : Tryd.f14.results = #[ResultVar.cell 2 28, ResultVar.tmp 3] := Tryd.results14
abbrev Zer : FuncId := 17
theorem Zb2 : C.P.funcs[17]? = some Tryd.f17 := Tryd.func17
theorem ZdW : Enters C.P 17 := Enters.mk Zb2 (by kernel_rfl) (by kernel_rfl)
theorem ZdX : Tryd.f17.ntmps = 56 := Tryd.ntmps17
theorem ZdY : Tryd.f17.results = #[ResultVar.tmp 2, ResultVar.tmp 3] := Tryd.results17
abbrev ZgX : FuncId := 18
theorem Zef : C.P.funcs[18]? = some Tryd.f18 := Tryd.func18
theorem Zgl : Enters C.P 18 := Enters.mk Zef (by kernel_rfl) (by kernel_rfl)
theorem Zgm : Tryd.f18.ntmps = 66 := Tryd.ntmps18
theorem Zgn : Tryd.f18.results = #[ResultVar.tmp 2, ResultVar.tmp 3] := Tryd.results18
abbrev Zcu : FuncId := 19
theorem Zb3 : C.P.funcs[19]? = some Tryd.f19 := Tryd.func19
theorem ZdZ : Enters C.P 19 := Enters.mk Zb3 (by kernel_rfl) (by kernel_rfl)
theorem Zd0 : Tryd.f19.ntmps = 47 := Tryd.ntmps19
theorem Zd1 : Tryd.f19.results = #[ResultVar.tmp 2, ResultVar.tmp 3] := Tryd.results19
abbrev ZgY : FuncId := 20
theorem Zeg : C.P.funcs[20]? = some Tryd.f20 := Tryd.func20
theorem Zgo : Enters C.P 20 := Enters.mk Zeg (by kernel_rfl) (by kernel_rfl)
theorem Zgp : Tryd.f20.ntmps = 36 := Tryd.ntmps20
theorem Zgq : Tryd.f20.results = #[ResultVar.tmp 2, ResultVar.tmp 3] := Tryd.results20
abbrev ZcL : FuncId := 21
theorem Zcv : C.P.funcs[21]? = some Tryd.f21 := Tryd.func21
theorem Zes : Enters C.P 21 := Enters.mk Zcv (by kernel_rfl) (by kernel_rfl)
theorem Zet : Tryd.f21.ntmps = 22 := Tryd.ntmps21
theorem Zeu : Tryd.f21.results = #[ResultVar.tmp 2, ResultVar.tmp 3] := Tryd.results21
abbrev ZhA : FuncId := 22
theorem ZeO : C.P.funcs[22]? = some Tryd.f22 := Tryd.func22
theorem ZgZ : Enters C.P 22 := Enters.mk ZeO (by kernel_rfl) (by kernel_rfl)
theorem Zg0 : Tryd.f22.ntmps = 22 := Tryd.ntmps22
theorem Zg1 : Tryd.f22.results = #[ResultVar.tmp 2, ResultVar.tmp 3] := Tryd.results22
abbrev ZbM : FuncId := 23
theorem ZbD : C.P.funcs[23]? = some Tryd.f23 := Tryd.func23
theorem Zdi : Enters C.P 23 := Enters.mk ZbD (by kernel_rfl) (by kernel_rfl)
theorem Zdj : Tryd.f23.ntmps = 16 := Tryd.ntmps23
theorem Zdk : Tryd.f23.results = #[ResultVar.tmp 2, ResultVar.tmp 3] := Tryd.results23
abbrev Zf2 : FuncId := 24
theorem Zc6 : C.P.funcs[24]? = some Tryd.f24 := Tryd.func24
theorem Zfk : Enters C.P 24 := Enters.mk Zc6 (by kernel_rfl) (by kernel_rfl)
theorem Zfl : Tryd.f24.ntmps = 16 := Tryd.ntmps24
theorem Zfm : Tryd.f24.results = #[ResultVar.tmp 2, ResultVar.tmp 3] := Tryd.results24
abbrev ZbN : FuncId := 25
theorem ZbE : C.P.funcs[25]? = some Tryd.f25 := Tryd.func25
theorem Zdl : Enters C.P 25 := Enters.mk ZbE (by kernel_rfl) (by kernel_rfl)
theorem Zdm : Tryd.f25.ntmps = 79 := Tryd.ntmps25
theorem Zdn : Tryd.f25.results = #[ResultVar.tmp 2, ResultVar.tmp 3] := Tryd.results25
abbrev Zf3 : FuncId := 26
theorem Zc7 : C.P.funcs[26]? = some Tryd.f26 := Tryd.func26
theorem Zfn : Enters C.P 26 := Enters.mk Zc7 (by kernel_rfl) (by kernel_rfl)
theorem Zfo : Tryd.f26.ntmps = 59 := Tryd.ntmps26
theorem Zfp : Tryd.f26.results = #[ResultVar.tmp 2, ResultVar.tmp 3] := Tryd.results26
abbrev Zfq : FuncId := 27
theorem ZcM : C.P.funcs[27]? = some Tryd.f27 := Tryd.func27
theorem ZeP : Enters C.P 27 := Enters.mk ZcM (by kernel_rfl) (by kernel_rfl)
theorem ZeQ : Tryd.f27.ntmps = 14 := Tryd.ntmps27
theorem ZeR : Tryd.f27.results = #[ResultVar.tmp 4] := Tryd.results27
abbrev ZhX : FuncId := 28
theorem ZfO : C.P.funcs[28]? = some Tryd.f28 := Tryd.func28
theorem ZhB : Enters C.P 28 := Enters.mk ZfO (by kernel_rfl) (by kernel_rfl)
theorem ZhC : Tryd.f28.ntmps = 14 := Tryd.ntmps28
theorem ZhD : Tryd.f28.results = #[ResultVar.tmp 4] := Tryd.results28
abbrev Zbk : FuncId := 30
theorem Zbc : C.P.funcs[30]? = some Tryd.f30 := Tryd.func30
theorem ZbO : Enters C.P 30 := Enters.mk Zbc (by kernel_rfl) (by kernel_rfl)
theorem ZbP : Tryd.f30.ntmps = 21 := Tryd.ntmps30
theorem ZbQ : Tryd.f30.results = #[] := Tryd.results30
abbrev Zco : FuncId := 31
theorem ZaZ : C.P.funcs[31]? = some Tryd.f31 := Tryd.func31
theorem Zb4 : Enters C.P 31 := Enters.mk ZaZ (by kernel_rfl) (by kernel_rfl)
theorem Zb5 : Tryd.f31.ntmps = 64 := Tryd.ntmps31
theorem Zb6 : Tryd.f31.results = #[ResultVar.cell 2 46] := Tryd.results31
abbrev ZeS : FuncId := 32
theorem Zcw : C.P.funcs[32]? = some Tryd.f32 := Tryd.func32
theorem Zev : Enters C.P 32 := Enters.mk Zcw (by kernel_rfl) (by kernel_rfl)
theorem Zew : Tryd.f32.ntmps = 31 := Tryd.ntmps32
theorem Zex : Tryd.f32.results = #[ResultVar.tmp 2, ResultVar.tmp 3] := Tryd.results32
abbrev Zfr : FuncId := 33
theorem ZcN : C.P.funcs[33]? = some Tryd.f33 := Tryd.func33
theorem ZeT : Enters C.P 33 := Enters.mk ZcN (by kernel_rfl) (by kernel_rfl)
theorem ZeU : Tryd.f33.ntmps = 5 := Tryd.ntmps33
theorem ZeV : Tryd.f33.results = #[] := Tryd.results33
abbrev Zg2 : FuncId := 35
theorem Zeh : C.P.funcs[35]? = some Tryd.f35 := Tryd.func35
theorem Zgr : Enters C.P 35 := Enters.mk Zeh (by kernel_rfl) (by kernel_rfl)
theorem Zgs : Tryd.f35.ntmps = 16 := Tryd.ntmps35
theorem Zgt : Tryd.f35.results = #[ResultVar.tmp 2] := Tryd.results35
abbrev Zfs : FuncId := 36
theorem ZcO : C.P.funcs[36]? = some Tryd.f36 := Tryd.func36
theorem ZeW : Enters C.P 36 := Enters.mk ZcO (by kernel_rfl) (by kernel_rfl)
theorem ZeX : Tryd.f36.ntmps = 47 := Tryd.ntmps36
theorem ZeY : Tryd.f36.results = #[ResultVar.tmp 2, ResultVar.tmp 3] := Tryd.results36
abbrev Zdo : FuncId := 37
theorem Zbt : C.P.funcs[37]? = some Tryd.f37 := Tryd.func37
theorem ZcX : Enters C.P 37 := Enters.mk Zbt (by kernel_rfl) (by kernel_rfl)
theorem ZcY : Tryd.f37.ntmps = 11 := Tryd.ntmps37
theorem ZcZ : Tryd.f37.results = #[ResultVar.tmp 4, ResultVar.tmp 5] := Tryd.results37
abbrev Zdp : FuncId := 38
theorem Zbu : C.P.funcs[38]? = some Tryd.f38 := Tryd.func38
theorem Zc0 : Enters C.P 38 := Enters.mk Zbu (by kernel_rfl) (by kernel_rfl)
theorem Zc1 : Tryd.f38.ntmps = 8 := Tryd.ntmps38
theorem Zc2 : Tryd.f38.results = #[ResultVar.tmp 4] := Tryd.results38
abbrev ZeZ : FuncId := 39
theorem Zcx : C.P.funcs[39]? = some Tryd.f39 := Tryd.func39
theorem Zey : Enters C.P 39 := Enters.mk Zcx (by kernel_rfl) (by kernel_rfl)
theorem Zez : Tryd.f39.ntmps = 15 := Tryd.ntmps39
theorem ZeA : Tryd.f39.results = #[ResultVar.cell 4 28] := Tryd.results39
abbrev Zd2 : FuncId := 40
theorem ZbR : C.P.funcs[40]? = some Tryd.f40 := Tryd.func40
theorem Zdz : Enters C.P 40 := Enters.mk ZbR (by kernel_rfl) (by kernel_rfl)
theorem ZdA : Tryd.f40.ntmps = 19 := Tryd.ntmps40
theorem ZdB : Tryd.f40.results = #[ResultVar.cell 2 28] := Tryd.results40
abbrev ZhE : FuncId := 41
theorem Ze0 : C.P.funcs[41]? = some Tryd.f41 := Tryd.func41
theorem Zg3 : Enters C.P 41 := Enters.mk Ze0 (by kernel_rfl) (by kernel_rfl)
theorem Zg4 : Tryd.f41.ntmps = 21 := Tryd.ntmps41
theorem Zg5 : Tryd.f41.results = #[ResultVar.cell 4 28] := Tryd.results41
abbrev Zei : FuncId := 42
theorem ZdC : C.P.funcs[42]? = some Tryd.f42 := Tryd.func42
theorem Zf4 : Enters C.P 42 := Enters.mk ZdC (by kernel_rfl) (by kernel_rfl)
theorem Zf5 : Tryd.f42.ntmps = 19 := Tryd.ntmps42
theorem Zf6 : Tryd.f42.results = #[ResultVar.cell 2 28] := Tryd.results42
abbrev ZeB : FuncId := 43
theorem Zb7 : C.P.funcs[43]? = some Tryd.f43 := Tryd.func43
theorem Zd3 : Enters C.P 43 := Enters.mk Zb7 (by kernel_rfl) (by kernel_rfl)
theorem Zd4 : Tryd.f43.ntmps = 92 := Tryd.ntmps43
theorem Zd5 : Tryd.f43.results = #[ResultVar.tmp 2] := Tryd.results43
abbrev Zg6 : FuncId := 44
theorem Zej : C.P.funcs[44]? = some Tryd.f44 := Tryd.func44
theorem Zgu : Enters C.P 44 := Enters.mk Zej (by kernel_rfl) (by kernel_rfl)
theorem Zgv : Tryd.f44.ntmps = 110 := Tryd.ntmps44
theorem Zgw : Tryd.f44.results = #[ResultVar.tmp 2] := Tryd.results44
abbrev ZdD : FuncId := 45
theorem ZbF : C.P.funcs[45]? = some Tryd.f45 := Tryd.func45
theorem Zdq : Enters C.P 45 := Enters.mk ZbF (by kernel_rfl) (by kernel_rfl)
theorem Zdr : Tryd.f45.ntmps = 22 := Tryd.ntmps45
theorem Zds : Tryd.f45.results = #[ResultVar.tmp 2] := Tryd.results45
abbrev Zan : FuncId := 46
theorem Zam : C.P.funcs[46]? = some Tryd.f46 := Tryd.func46
theorem Zav : Enters C.P 46 := Enters.mk Zam (by kernel_rfl) (by kernel_rfl)
theorem Zaw : Tryd.f46.ntmps = 19 := Tryd.ntmps46
theorem Zax : Tryd.f46.results = #[ResultVar.tmp 4, ResultVar.tmp 5] := Tryd.results46
abbrev Zaq : FuncId := 47
theorem Zao : C.P.funcs[47]? = some Tryd.f47 := Tryd.func47
theorem ZaC : Enters C.P 47 := Enters.mk Zao (by kernel_rfl) (by kernel_rfl)
theorem ZaD : Tryd.f47.ntmps = 17 := Tryd.ntmps47
theorem ZaE : Tryd.f47.results = #[ResultVar.tmp 4] := Tryd.results47
abbrev ZcP : FuncId := 48
theorem Zbd : C.P.funcs[48]? = some Tryd.f48 := Tryd.func48
theorem ZcC : Enters C.P 48 := Enters.mk Zbd (by kernel_rfl) (by kernel_rfl)
theorem ZcD : Tryd.f48.ntmps = 56 := Tryd.ntmps48
theorem ZcE : Tryd.f48.results = #[ResultVar.tmp 4] := Tryd.results48
abbrev ZaI : FuncId := 49
theorem ZaB : C.P.funcs[49]? = some Tryd.f49 := Tryd.func49
theorem Zbe : Enters C.P 49 := Enters.mk ZaB (by kernel_rfl) (by kernel_rfl)
theorem Zbf : Tryd.f49.ntmps = 8 := Tryd.ntmps49
theorem Zbg : Tryd.f49.results = #[ResultVar.tmp 2] := Tryd.results49
abbrev Zat : FuncId := 50
theorem Zas : C.P.funcs[50]? = some Tryd.f50 := Tryd.func50
theorem ZaR : Enters C.P 50 := Enters.mk Zas (by kernel_rfl) (by kernel_rfl)
theorem ZaS : Tryd.f50.ntmps = 14 := Tryd.ntmps50
theorem ZaT : Tryd.f50.results = #[ResultVar.tmp 2] := Tryd.results50
abbrev Zf7 : FuncId := 51
theorem Zc8 : C.P.funcs[51]? = some Tryd.f51 := Tryd.func51
theorem Zft : Enters C.P 51 := Enters.mk Zc8 (by kernel_rfl) (by kernel_rfl)
theorem Zfu : Tryd.f51.ntmps = 62 := Tryd.ntmps51
theorem Zfv : Tryd.f51.results = #[ResultVar.tmp 4] := Tryd.results51
abbrev Zf8 : FuncId := 52
theorem Zc9 : C.P.funcs[52]? = some Tryd.f52 := Tryd.func52
theorem Zfw : Enters C.P 52 := Enters.mk Zc9 (by kernel_rfl) (by kernel_rfl)
theorem Zfx : Tryd.f52.ntmps = 26 := Tryd.ntmps52
theorem Zfy : Tryd.f52.results = #[ResultVar.tmp 2] := Tryd.results52
abbrev Ze1 : FuncId := 53
theorem Zcy : C.P.funcs[53]? = some Tryd.f53 := Tryd.func53
theorem ZeC : Enters C.P 53 := Enters.mk Zcy (by kernel_rfl) (by kernel_rfl)
theorem ZeD : Tryd.f53.ntmps = 16 := Tryd.ntmps53
theorem ZeE : Tryd.f53.results = #[ResultVar.tmp 2] := Tryd.results53
abbrev Ze2 : FuncId := 54
theorem Zcz : C.P.funcs[54]? = some Tryd.f54 := Tryd.func54
theorem ZeF : Enters C.P 54 := Enters.mk Zcz (by kernel_rfl) (by kernel_rfl)
theorem ZeG : Tryd.f54.ntmps = 6 := Tryd.ntmps54
theorem ZeH : Tryd.f54.results = #[ResultVar.tmp 2] := Tryd.results54
abbrev Zay : FuncId := 55
theorem Zau : C.P.funcs[55]? = some Tryd.f55 := Tryd.func55
theorem Za0 : Enters C.P 55 := Enters.mk Zau (by kernel_rfl) (by kernel_rfl)
theorem Za1 : Tryd.f55.ntmps = 19 := Tryd.ntmps55
theorem Za2 : Tryd.f55.results = #[ResultVar.tmp 4, ResultVar.tmp 5] := Tryd.results55
abbrev ZhF : FuncId := 56
theorem Ze3 : C.P.funcs[56]? = some Tryd.f56 := Tryd.func56
theorem Zg7 : Enters C.P 56 := Enters.mk Ze3 (by kernel_rfl) (by kernel_rfl)
theorem Zg8 : Tryd.f56.ntmps = 16 := Tryd.ntmps56
theorem Zg9 : Tryd.f56.results = #[ResultVar.tmp 2] := Tryd.results56
abbrev ZhG : FuncId := 57
theorem Ze4 : C.P.funcs[57]? = some Tryd.f57 := Tryd.func57
theorem Zha : Enters C.P 57 := Enters.mk Ze4 (by kernel_rfl) (by kernel_rfl)
theorem Zhb : Tryd.f57.ntmps = 63 := Tryd.ntmps57
theorem Zhc : Tryd.f57.results = #[ResultVar.tmp 2] := Tryd.results57
abbrev ZcA : FuncId := 58
theorem Zb8 : C.P.funcs[58]? = some Tryd.f58 := Tryd.func58
theorem Zd6 : Enters C.P 58 := Enters.mk Zb8 (by kernel_rfl) (by kernel_rfl)
theorem Zd7 : Tryd.f58.ntmps = 13 := Tryd.ntmps58
theorem Zd8 : Tryd.f58.results = #[ResultVar.tmp 2] := Tryd.results58
abbrev ZcQ : FuncId := 59
theorem Zbh : C.P.funcs[59]? = some Tryd.f59 := Tryd.func59
theorem ZcF : Enters C.P 59 := Enters.mk Zbh (by kernel_rfl) (by kernel_rfl)
theorem ZcG : Tryd.f59.ntmps = 59 := Tryd.ntmps59
theorem ZcH : Tryd.f59.results = #[ResultVar.tmp 4] := Tryd.results59
abbrev ZaY : FuncId := 60
theorem ZaQ : C.P.funcs[60]? = some Tryd.f60 := Tryd.func60
theorem Zbv : Enters C.P 60 := Enters.mk ZaQ (by kernel_rfl) (by kernel_rfl)
theorem Zbw : Tryd.f60.ntmps = 28 := Tryd.ntmps60
theorem Zbx : Tryd.f60.results = #[ResultVar.tmp 4] := Tryd.results60
abbrev Zbz : FuncId := 61
theorem ZaA : C.P.funcs[61]? = some Tryd.f61 := Tryd.func61
theorem Zbn : Enters C.P 61 := Enters.mk ZaA (by kernel_rfl) (by kernel_rfl)
theorem Zbo : Tryd.f61.ntmps = 142 := Tryd.ntmps61
theorem Zbp : Tryd.f61.results = #[ResultVar.cell 2 46] := Tryd.results61
abbrev ZcB : FuncId := 62
theorem Zb9 : C.P.funcs[62]? = some Tryd.f62 := Tryd.func62
theorem Zd9 : Enters C.P 62 := Enters.mk Zb9 (by kernel_rfl) (by kernel_rfl)
theorem Zea : Tryd.f62.ntmps = 14 := Tryd.ntmps62
theorem Zeb : Tryd.f62.results = #[ResultVar.tmp 2] := Tryd.results62
abbrev Zhd : FuncId := 63
theorem Zek : C.P.funcs[63]? = some Tryd.f63 := Tryd.func63
theorem Zgx : Enters C.P 63 := Enters.mk Zek (by kernel_rfl) (by kernel_rfl)
theorem Zgy : Tryd.f63.ntmps = 13 := Tryd.ntmps63
theorem Zgz : Tryd.f63.results = #[ResultVar.tmp 2] := Tryd.results63
abbrev Zcp : FuncId := 66
theorem Za3 : C.P.funcs[66]? = some Tryd.f66 := Tryd.func66
theorem Zca : Enters C.P 66 := Enters.mk Za3 (by kernel_rfl) (by kernel_rfl)
theorem Zcb : Tryd.f66.ntmps = 15 := Tryd.ntmps66
theorem Zcc : Tryd.f66.results = #[ResultVar.tmp 4, ResultVar.tmp 5] := Tryd.results66
abbrev Zcq : FuncId := 67
theorem Zcd : C.P.funcs[67]? = some Tryd.f67 := Tryd.func67
theorem Zce : Enters C.P 67 := Enters.mk Zcd (by kernel_rfl) (by kernel_rfl)
abbrev Zec : FuncId := 68
theorem ZbS : C.P.funcs[68]? = some Tryd.f68 := Tryd.func68
theorem ZdE : Enters C.P 68 := Enters.mk ZbS (by kernel_rfl) (by kernel_rfl)
theorem ZdF : Tryd.f68.ntmps = 17 := Tryd.ntmps68
theorem ZdG : Tryd.f68.results = #[ResultVar.tmp 2] := Tryd.results68
abbrev Zfz : FuncId := 69
theorem ZcR : C.P.funcs[69]? = some Tryd.f69 := Tryd.func69
theorem Ze5 : Enters C.P 69 := Enters.mk ZcR (by kernel_rfl) (by kernel_rfl)
theorem Ze6 : Tryd.f69.ntmps = 45 := Tryd.ntmps69
theorem Ze7 : Tryd.f69.results = #[ResultVar.tmp 4] := Tryd.results69
abbrev Zf9 : FuncId := 70
theorem Zda : C.P.funcs[70]? = some Tryd.f70 := Tryd.func70
theorem ZfA : Enters C.P 70 := Enters.mk Zda (by kernel_rfl) (by kernel_rfl)
theorem ZfB : Tryd.f70.ntmps = 29 := Tryd.ntmps70
theorem ZfC : Tryd.f70.results = #[ResultVar.tmp 2] := Tryd.results70
abbrev Zhe : FuncId := 71
theorem Zel : C.P.funcs[71]? = some Tryd.f71 := Tryd.func71
theorem ZgA : Enters C.P 71 := Enters.mk Zel (by kernel_rfl) (by kernel_rfl)
theorem ZgB : Tryd.f71.ntmps = 32 := Tryd.ntmps71
theorem ZgC : Tryd.f71.results = #[ResultVar.tmp 2] := Tryd.results71
abbrev ZhH : FuncId := 72
theorem Ze8 : C.P.funcs[72]? = some Tryd.f72 := Tryd.func72
theorem Zhf : Enters C.P 72 := Enters.mk Ze8 (by kernel_rfl) (by kernel_rfl)
theorem Zhg : Tryd.f72.ntmps = 35 := Tryd.ntmps72
theorem Zhh : Tryd.f72.results = #[ResultVar.tmp 4] := Tryd.results72
abbrev Zar : FuncId := 73
theorem Zap : C.P.funcs[73]? = some Tryd.f73 := Tryd.func73
theorem ZaF : Enters C.P 73 := Enters.mk Zap (by kernel_rfl) (by kernel_rfl)
theorem ZaG : Tryd.f73.ntmps = 20 := Tryd.ntmps73
theorem ZaH : Tryd.f73.results = #[] := Tryd.results73
abbrev ZbW : FuncId := 74
theorem Ze9 : C.P.funcs[74]? = some Tryd.f74 := Tryd.func74
theorem Zfa : Enters C.P 74 := Enters.mk Ze9 (by kernel_rfl) (by kernel_rfl)
abbrev ZcS : FuncId := 75
theorem ZdH : C.P.funcs[75]? = some Tryd.f75 := Tryd.func75
theorem Zga : Enters C.P 75 := Enters.mk ZdH (by kernel_rfl) (by kernel_rfl)
theorem Zgb : Tryd.f75.ntmps = 23 := Tryd.ntmps75
theorem Zgc : Tryd.f75.results = #[ResultVar.tmp 2] := Tryd.results75
abbrev Zgd : FuncId := 76
theorem Zdb : C.P.funcs[76]? = some Tryd.f76 := Tryd.func76
theorem ZfD : Enters C.P 76 := Enters.mk Zdb (by kernel_rfl) (by kernel_rfl)
theorem ZfE : Tryd.f76.ntmps = 2 := Tryd.ntmps76
theorem ZfF : Tryd.f76.results = #[ResultVar.tmp 0] := Tryd.results76
abbrev Zbl : FuncId := 77
theorem ZbT : C.P.funcs[77]? = some Tryd.f77 := Tryd.func77
theorem ZdI : Enters C.P 77 := Enters.mk ZbT (by kernel_rfl) (by kernel_rfl)
theorem ZdJ : Tryd.f77.ntmps = 24 := Tryd.ntmps77
theorem ZdK : Tryd.f77.results = #[ResultVar.tmp 3] := Tryd.results77
abbrev Zcf : FuncId := 78
theorem ZbU : C.P.funcs[78]? = some Tryd.f78 := Tryd.func78
theorem ZdL : Enters C.P 78 := Enters.mk ZbU (by kernel_rfl) (by kernel_rfl)
theorem ZdM : Tryd.f78.ntmps = 27 := Tryd.ntmps78
theorem ZdN : Tryd.f78.results = #[] := Tryd.results78
abbrev Zge : FuncId := 79
theorem Zdc : C.P.funcs[79]? = some Tryd.f79 := Tryd.func79
theorem ZfG : Enters C.P 79 := Enters.mk Zdc (by kernel_rfl) (by kernel_rfl)
theorem ZfH : Tryd.f79.ntmps = 13 := Tryd.ntmps79
theorem ZfI : Tryd.f79.results = #[ResultVar.tmp 2] := Tryd.results79
abbrev ZbJ : FuncId := 80
theorem ZaJ : C.P.funcs[80]? = some Tryd.f80 := Tryd.func80
theorem ZbG : Enters C.P 80 := Enters.mk ZaJ (by kernel_rfl) (by kernel_rfl)
theorem ZbH : Tryd.f80.ntmps = 53 := Tryd.ntmps80
theorem ZbI : Tryd.f80.results = #[ResultVar.tmp 2, ResultVar.tmp 3] := Tryd.results80
abbrev Zcr : FuncId := 81
theorem Za4 : C.P.funcs[81]? = some Tryd.f81 := Tryd.func81
theorem Zcg : Enters C.P 81 := Enters.mk Za4 (by kernel_rfl) (by kernel_rfl)
theorem Zch : Tryd.f81.ntmps = 77 := Tryd.ntmps81
theorem Zci : Tryd.f81.results = #[ResultVar.tmp 2] := Tryd.results81
abbrev Zcj : FuncId := 82
theorem ZaU : C.P.funcs[82]? = some Tryd.f82 := Tryd.func82
theorem ZbX : Enters C.P 82 := Enters.mk ZaU (by kernel_rfl) (by kernel_rfl)
theorem ZbY : Tryd.f82.ntmps = 49 := Tryd.ntmps82
theorem ZbZ : Tryd.f82.results = #[ResultVar.tmp 2] := Tryd.results82
abbrev ZcT : FuncId := 83
theorem Zbi : C.P.funcs[83]? = some Tryd.f83 := Tryd.func83
theorem ZcI : Enters C.P 83 := Enters.mk Zbi (by kernel_rfl) (by kernel_rfl)
theorem ZcJ : Tryd.f83.ntmps = 89 := Tryd.ntmps83
theorem ZcK : Tryd.f83.results = #[ResultVar.cell 4 28] := Tryd.results83
abbrev Zcs : FuncId := 86
theorem Za5 : C.P.funcs[86]? = some Tryd.f86 := Tryd.func86
theorem Zck : Enters C.P 86 := Enters.mk Za5 (by kernel_rfl) (by kernel_rfl)
theorem Zcl : Tryd.f86.ntmps = 18 := Tryd.ntmps86
theorem Zcm : Tryd.f86.results = #[ResultVar.tmp 4] := Tryd.results86
abbrev Zdt : FuncId := 90
theorem Zby : C.P.funcs[90]? = some Tryd.f90 := Tryd.func90
theorem Zc3 : Enters C.P 90 := Enters.mk Zby (by kernel_rfl) (by kernel_rfl)
theorem Zc4 : Tryd.f90.ntmps = 8 := Tryd.ntmps90
theorem Zc5 : Tryd.f90.results = #[ResultVar.tmp 4] := Tryd.results90
end Go.V
set_option maxHeartbeats 4000000
set_option maxRecDepth 100000
namespace Go.V
open Go.RowKit Go.Proofs
def sby (s : ByteArray) : List Nat := s.data.toList.map (·.toNat)
theorem sby_len (s : ByteArray) : (sby s).length = s.size := by
  unfold sby; rw [List.length_map, Array.length_toList]; rfl
theorem sby_lt {s : ByteArray} (i : Nat) : (sby s).getD i 0 < 256 := by
  rw [List.getD_eq_getElem?_getD]
  unfold sby
  rw [List.getElem?_map]
  cases h : s.data.toList[i]? with
  | none => decide
  | some u => exact u.toNat_lt
theorem sby_get {s : ByteArray} {i : Nat} (h1 : ((i : Nat) : Int).toNat < s.size) : ((s[((i : Nat) : Int).toNat]'h1).toNat : Int) = (((sby s).getD i 0 : Nat) : Int) := by
  have h3 : i < s.data.size := by simpa using h1
  have h4 : s[((i : Nat) : Int).toNat]'h1 = s.data[i]'h3 := rfl
  rw [h4, List.getD_eq_getElem?_getD]
  unfold sby
  rw [List.getElem?_map, Array.getElem?_toList, Array.getElem?_eq_getElem h3]
  rfl
theorem sby_bytesOf {l : List Nat} (h : ∀ c ∈ l, c < 256) : sby (bytesOf l) = l := by
  unfold sby bytesOf
  simp only [List.map_map]
  conv => rhs; rw [← List.map_id l]
  apply List.map_congr_left
  intro c hc
  show (UInt8.ofNat c).toNat = c
  rw [UInt8.toNat_ofNat']
  have := h c hc
  omega
theorem drop_at {s : ByteArray} {p : Nat} (h : p < s.size) : (sby s).drop p = (sby s).getD p 0 :: (sby s).drop (p + 1) := by
  have hl := sby_len s
  rw [List.drop_eq_getElem_cons (by omega), List.getD_eq_getElem?_getD, List.getElem?_eq_getElem (by omega)]; rfl
theorem drop_end {s : ByteArray} {p : Nat} (h : s.size ≤ p) : (sby s).drop p = [] := List.drop_eq_nil_of_le (by rw [sby_len]; exact h)
theorem sby_cut {s : ByteArray} {i n : Nat} (h : i + n ≤ s.size) : sby (s.extract i (i + n)) = ((sby s).drop i).take n := by
  unfold sby
  rw [ByteArray.data_extract, Array.toList_extract]
  show List.map _ ((s.data.toList.drop i).take (i + n - i)) = _
  rw [show i + n - i = n by omega, List.map_take, List.map_drop]
theorem int_dec {n : Nat} {k : Int} {m : Nat} (h : k = (m : Int)) : decide ((n : Int) = k) = decide (n = m) := decide_eq_decide.2 (by omega)
theorem nts_length {k : IntKind} {xs : List Nat} : (nts k xs).length = xs.length := by simp [nts]
theorem bytesOf_size (l : List Nat) : (bytesOf l).size = l.length := by simp [bytesOf, ByteArray.size]
theorem bytesOf_append (l m : List Nat) : bytesOf (l ++ m) = bytesOf l ++ bytesOf m := by
  apply ByteArray.ext
  simp [bytesOf]
end Go.V
namespace Go.V
open Go.RowKit
def bw (S : Nat → Bool) (off : Nat) : Nat → Nat
  | 0 => 0
  | n + 1 => bw S off n + (if S (off + n) then 2 ^ n else 0)
theorem bw_lt (S : Nat → Bool) (off : Nat) : ∀ n, bw S off n < 2 ^ n
  | 0 => Nat.one_pos
  | n + 1 => by
    have := bw_lt S off n
    rw [bw, Nat.pow_succ]
    split <;> omega
theorem bw_bit (S : Nat → Bool) (off : Nat) : ∀ n j, (bw S off n).testBit j = (decide (j < n) && S (off + j))
  | 0, j => by rw [bw, Nat.zero_testBit]; simp
  | n + 1, j => by
    have h := bw_lt S off n
    have ih := bw_bit S off n
    rw [bw]
    rcases Nat.lt_trichotomy j n with g | rfl | g
    · rw [decide_eq_true (show j < n + 1 by omega), Bool.true_and]
      have e := ih j
      rw [decide_eq_true g, Bool.true_and] at e
      split
      · rw [Nat.add_comm, Nat.testBit_two_pow_add_gt g, e]
      rw [Nat.add_zero, e]
    · rw [decide_eq_true (show j < j + 1 by omega), Bool.true_and]
      have e := ih j
      rw [decide_eq_false (show ¬ j < j by omega), Bool.false_and] at e
      split
      · rename_i hs
        rw [Nat.add_comm, Nat.testBit_two_pow_add_eq, e, hs]; rfl
      rename_i hs
      rw [Nat.add_zero, e]
      cases hb : S (off + j)
      · rfl
      exact absurd hb hs
    rw [decide_eq_false (show ¬ j < n + 1 by omega), Bool.false_and]
    apply Nat.testBit_lt_two_pow
    have := Nat.pow_le_pow_right (n := 2) (by decide) (show n + 1 ≤ j by omega)
    rw [Nat.pow_succ] at this
    split <;> omega
def sw (S : Nat → Bool) (i : Nat) : Nat := bw S (64 * i) 64
theorem sw_lt (S : Nat → Bool) (i : Nat) : sw S i < 18446744073709551616 := bw_lt S (64 * i) 64
theorem sw_bit (S : Nat → Bool) (i : Nat) {j : Nat} (h : j < 64) : (sw S i).testBit j = S (64 * i + j) := by
  unfold sw; rw [bw_bit, decide_eq_true h, Bool.true_and]
theorem sw_ext {x : Nat} {S : Nat → Bool} {i : Nat} (hx : x < 18446744073709551616) (h : ∀ j, j < 64 → x.testBit j = S (64 * i + j)) : x = sw S i := by
  apply Nat.eq_of_testBit_eq
  intro j
  rcases Nat.lt_or_ge j 64 with g | g
  · rw [h j g, sw_bit S i g]
  have e : ∀ y : Nat, y < 18446744073709551616 → y.testBit j = false := fun y hy => Nat.testBit_lt_two_pow (Nat.lt_of_lt_of_le hy (by
    have := Nat.pow_le_pow_right (n := 2) (by decide) g
    exact Nat.le_trans (by decide) this))
  rw [e x hx, e _ (sw_lt S i)]
theorem sw_congr {S T : Nat → Bool} {i : Nat} (h : ∀ j, j < 64 → S (64 * i + j) = T (64 * i + j)) : sw S i = sw T i := sw_ext (sw_lt S i) fun j g => by rw [sw_bit S i g, h j g]
abbrev swL (S : Nat → Bool) : List D := [.int .u64 ((sw S 0 : Nat) : Int), .int .u64 ((sw S 1 : Nat) : Int), .int .u64 ((sw S 2 : Nat) : Int), .int .u64 ((sw S 3 : Nat) : Int)]
abbrev setD (S : Nat → Bool) : D := .agg (swL S)
theorem swL_get (S : Nat → Bool) : ∀ i, i < 4 → (swL S)[i]? = some (.int .u64 ((sw S i : Nat) : Int))
  | 0, _ | 1, _ | 2, _ | 3, _ => rfl
  | i + 4, h => by omega
theorem swL_drop (S : Nat → Bool) {i : Nat} (h : i < 4) : ((swL S).drop i)[0]? = some (.int .u64 ((sw S i : Nat) : Int)) := by
  rw [List.getElem?_drop, Nat.add_zero]; exact swL_get S i h
theorem swL_ext {S T : Nat → Bool} (h : ∀ c, c < 256 → S c = T c) : swL S = swL T := by
  have e : ∀ i, i < 4 → sw S i = sw T i := fun i hi => sw_congr fun j hj => h _ (by omega)
  unfold swL
  rw [e 0 (by decide), e 1 (by decide), e 2 (by decide), e 3 (by decide)]
theorem swL_set {S T : Nat → Bool} {i x : Nat} (hi : i < 4) (hx : x < 18446744073709551616) (h : ∀ j, j < 64 → x.testBit j = T (64 * i + j)) (ho : ∀ c, c < 256 → c / 64 ≠ i → S c = T c) : (swL S).set i (.int .u64 (x : Int)) = swL T := by
  have e := sw_ext hx h
  subst e
  have o : ∀ k, k < 4 → k ≠ i → sw S k = sw T k := fun k hk hne => sw_congr fun j hj => ho _ (by omega) (by omega)
  match i, hi with
  | 0, _ => show [_, _, _, _] = [_, _, _, _]; rw [o 1 (by decide) (by decide), o 2 (by decide) (by decide), o 3 (by decide) (by decide)]
  | 1, _ => show [_, _, _, _] = [_, _, _, _]; rw [o 0 (by decide) (by decide), o 2 (by decide) (by decide), o 3 (by decide) (by decide)]
  | 2, _ => show [_, _, _, _] = [_, _, _, _]; rw [o 0 (by decide) (by decide), o 1 (by decide) (by decide), o 3 (by decide) (by decide)]
  | 3, _ => show [_, _, _, _] = [_, _, _, _]; rw [o 0 (by decide) (by decide), o 1 (by decide) (by decide), o 2 (by decide) (by decide)]
def swith (S : Nat → Bool) (c : Nat) : Nat → Bool := fun x => S x || decide (x = c)
def sother (S : Nat → Bool) : Nat → Bool := fun x => !S x && decide (x ≠ 0)
def swhite (c : Nat) : Bool := (decide (9 ≤ c) && decide (c ≤ 13)) || decide (c = 32)
def splain (c : Nat) : Bool := decide (c ≠ 0) && (decide (c ≠ 37) && !swhite c)
def ssize (S : Nat → Bool) (k : Nat) : Nat := ((List.range k).filter S).length
theorem ssize_succ (S : Nat → Bool) (k : Nat) : ssize S (k + 1) = ssize S k + (bif S k then 1 else 0) := by
  unfold ssize
  rw [List.range_succ, List.filter_append, List.length_append]
  cases h : S k <;> simp [h]
theorem ssize_le (S : Nat → Bool) (k : Nat) : ssize S k ≤ k := by
  have := List.length_filter_le S (List.range k)
  rw [List.length_range] at this
  exact this
def ofW (l : List Nat) : Nat → Bool := fun c => (l.getD (c / 64) 0).testBit (c % 64)
theorem ofW_sw {w0 w1 w2 w3 : Nat} (h0 : w0 < 18446744073709551616) (h1 : w1 < 18446744073709551616) (h2 : w2 < 18446744073709551616) (h3 : w3 < 18446744073709551616) : swL (ofW [w0, w1, w2, w3]) = [.int .u64 (w0 : Int), .int .u64 (w1 : Int), .int .u64 (w2 : Int), .int .u64 (w3 : Int)] := by
  have e : ∀ i x, x < 18446744073709551616 → [w0, w1, w2, w3].getD i 0 = x → sw (ofW [w0, w1, w2, w3]) i = x := fun i x hx h => (sw_ext hx fun j hj => by
    unfold ofW
    rw [show (64 * i + j) / 64 = i by omega, show (64 * i + j) % 64 = j by omega, h]).symm
  unfold swL
  rw [e 0 w0 h0 rfl, e 1 w1 h1 rfl, e 2 w2 h2 rfl, e 3 w3 h3 rfl]
end Go.V
set_option maxHeartbeats 4000000
set_option maxRecDepth 100000
set_option synthInstance.maxSize 100000
set_option synthInstance.maxHeartbeats 2000000
namespace Go.V
open Go.RowKit Go.Proofs
theorem wrap_u64N {x : Nat} (h : x < 18446744073709551616) : IntKind.u64.wrap (x : Int) = (x : Int) := IntWalk.u64_in _ (by omega)
theorem ofInt_u64 {x : Nat} (h : x < 18446744073709551616) : (BitVec.ofInt IntKind.u64.bits (x : Int)).toNat = x := by
  show (BitVec.ofInt 64 (x : Int)).toNat = x
  rw [BitVec.ofInt_natCast, BitVec.toNat_ofNat]
  exact Nat.mod_eq_of_lt h
theorem land_u64 {x y : Nat} (hx : x < 18446744073709551616) (hy : y < 18446744073709551616) : IntKind.u64.wrap (BitVec.ofInt IntKind.u64.bits (x : Int) &&& BitVec.ofInt IntKind.u64.bits (y : Int)).toNat = ((x &&& y : Nat) : Int) := by
  rw [BitVec.toNat_and, ofInt_u64 hx, ofInt_u64 hy]; exact wrap_u64N (Nat.and_lt_two_pow (n := 64) _ hy)
theorem lor_u64 {x y : Nat} (hx : x < 18446744073709551616) (hy : y < 18446744073709551616) : IntKind.u64.wrap (BitVec.ofInt IntKind.u64.bits (x : Int) ||| BitVec.ofInt IntKind.u64.bits (y : Int)).toNat = ((x ||| y : Nat) : Int) := by
  rw [BitVec.toNat_or, ofInt_u64 hx, ofInt_u64 hy]; exact wrap_u64N (Nat.or_lt_two_pow (n := 64) hx hy)
theorem compl_u64 {x : Nat} (h : x < 18446744073709551616) : IntKind.u64.wrap (BitVec.ofInt IntKind.u64.bits (if IntKind.u64.signed then -1 else IntKind.u64.max) ^^^ BitVec.ofInt IntKind.u64.bits (x : Int)).toNat = ((18446744073709551615 - x : Nat) : Int) := by
  have h1 : BitVec.ofInt IntKind.u64.bits (if IntKind.u64.signed then -1 else IntKind.u64.max) = BitVec.allOnes 64 := by show BitVec.ofInt 64 18446744073709551615 = _; decide
  rw [h1]
  show IntKind.u64.wrap (BitVec.allOnes 64 ^^^ BitVec.ofInt 64 (x : Int)).toNat = _
  rw [BitVec.xor_comm, BitVec.xor_allOnes, BitVec.toNat_not, show (BitVec.ofInt 64 (x : Int)).toNat = x from ofInt_u64 h]
  exact wrap_u64N (by omega)
theorem add_pow_bit {x s j : Nat} (hb : x.testBit s = false) (g : s < j) : (2 ^ s + x).testBit j = (x.testBit j || decide (s = j)) := by
  rw [decide_eq_false (by omega), Bool.or_false]
  have h0 : x / 2 ^ s % 2 = 0 := by
    rw [Nat.testBit_eq_decide_div_mod_eq] at hb
    have := of_decide_eq_false hb
    omega
  have hm : x % 2 ^ (s + 1) = x % 2 ^ s := by
    have := Nat.mod_pow_succ (x := x) (b := 2) (k := s)
    rw [h0] at this
    simpa using this
  have hd := Nat.div_add_mod x (2 ^ (s + 1))
  rw [hm] at hd
  have hr : x % 2 ^ s < 2 ^ s := Nat.mod_lt _ (Nat.two_pow_pos s)
  have h2 : 2 ^ (s + 1) = 2 ^ s + 2 ^ s := by rw [Nat.pow_succ]; omega
  have e1 := Nat.testBit_two_pow_mul_add (x / 2 ^ (s + 1)) (show x % 2 ^ s < 2 ^ (s + 1) by omega) j
  have e2 := Nat.testBit_two_pow_mul_add (x / 2 ^ (s + 1)) (show 2 ^ s + x % 2 ^ s < 2 ^ (s + 1) by omega) j
  rw [if_neg (by omega)] at e1 e2
  rw [hd] at e1
  rw [e1, ← e2]
  congr 1
  omega
theorem shr_has {S : Nat → Bool} {c : Nat} (hc : c < 256) : (decide (sw S (c / 64) / 2 ^ (c % 64) % 2 = 1)) = S c := by
  rw [← Nat.testBit_eq_decide_div_mod_eq, sw_bit S _ (by omega), show 64 * (c / 64) + c % 64 = c by omega]
theorem and_one (x : Nat) : x &&& 1 = x % 2 := Nat.and_one_is_mod x
theorem div_sw_lt (S : Nat → Bool) (i s : Nat) : sw S i / 2 ^ s < 18446744073709551616 := Nat.lt_of_le_of_lt (Nat.div_le_self _ _) (sw_lt S i)
theorem pow_lt64 {s : Nat} (h : s < 64) : 2 ^ s < 18446744073709551616 := by
  have := Nat.pow_lt_pow_right (a := 2) (by decide) h
  exact this
theorem shl_one {s : Nat} (h : s < 64) : IntKind.u64.wrap ((1 : Int) * 2 ^ min ((s : Int)).toNat IntKind.u64.bits) = ((2 ^ s : Nat) : Int) := by
  have := nshl_u64 (y := (s : Int)) (m := 1) (s := s) rfl (by omega) (by rw [Nat.one_mul]; exact pow_lt64 h)
  rw [Nat.one_mul] at this
  exact this
theorem with_bits {S : Nat → Bool} {c : Nat} (hc : c < 256) : ∀ j, j < 64 → (sw S (c / 64) ||| 2 ^ (c % 64)).testBit j = swith S c (64 * (c / 64) + j) := by
  intro j hj
  rw [Nat.testBit_or, sw_bit S _ hj, Nat.testBit_two_pow]
  unfold swith
  congr 1
  exact decide_eq_decide.2 (by omega)
theorem with_lt {S : Nat → Bool} {i s : Nat} (h : s < 64) : sw S i ||| 2 ^ s < 18446744073709551616 := Nat.or_lt_two_pow (n := 64) (sw_lt S i) (pow_lt64 h)
theorem with_other {S : Nat → Bool} {c : Nat} : ∀ x, x < 256 → x / 64 ≠ c / 64 → S x = swith S c x := by
  intro x _ h
  unfold swith
  rw [decide_eq_false (by omega), Bool.or_false]
theorem ZaL (S : Nat → Bool) (c : Nat) (hc : c < 256) : PC C Zfq [setD S, .int .u8 (c : Int)] (fun o => o = .ret (.bool (S c))) := by
  have h1 := div_sw_lt S (c / 64) (c % 64)
  refine PC.rn ZcM ZeP ZeQ (rs := [.tmp 4]) (by rw [ZeR]) ?_
  refine ARun.seq (ARun.region ?_); refine zzb ?_; refine zza ?_; refine AOps.nil (ARun.seq (ARun.region ?_)); refine zzm ?_
  refine y_op rfl (q_quo rfl rfl (by omega) (show _ = ((c / 64 : Nat) : Int) by rw [IntKind.wrap_u8]; simp; omega)) ?_
  refine y_op rfl (ZbA rfl rfl rfl rfl (by omega) (by omega) (drop_nat rfl)) ?_
  refine y_op rfl (q_load rfl rfl rfl (swL_drop S (by omega))) ?_
  refine zzm ?_
  refine y_op rfl (q_rem rfl rfl (by omega) (nrem (n := 64) rfl)) ?_
  refine y_op rfl (q_shr rfl rfl (by omega) (nshr (s := c % 64) rfl (by show c % 64 ≤ 64; omega))) ?_
  refine y_op rfl (q_andR rfl rfl (show _ = ((sw S (c / 64) / 2 ^ (c % 64) % 2 : Nat) : Int) by rw [← and_one]; exact land_u64 (y := 1) h1 (by decide))) ?_
  refine y_op rfl (OpQ.cast (q_int rfl rfl rfl) (congrArg D.bool ((int_dec (m := 1) rfl).trans (shr_has hc)))) ?_
  refine zza ?_; refine AOps.nil ?_
  refine ARun.ret ?_
  refine ⟨_, _, _, .tmp rfl .nil, .cons (.same _) .nil, rfl, ?_⟩
  rfl
theorem ZaM (S : Nat → Bool) (c : Nat) (hc : c < 256) : PC C ZhX [setD S, .int .u8 (c : Int)] (fun o => o = .ret (.bool (S c))) := by
  have h1 := div_sw_lt S (c / 64) (c % 64)
  refine PC.rn ZfO ZhB ZhC (rs := [.tmp 4]) (by rw [ZhD]) ?_
  refine ARun.seq (ARun.region ?_); refine zzb ?_; refine zza ?_; refine AOps.nil (ARun.seq (ARun.region ?_)); refine zzm ?_
  refine y_op rfl (q_quo rfl rfl (by omega) (show _ = ((c / 64 : Nat) : Int) by rw [IntKind.wrap_u8]; simp; omega)) ?_
  refine y_op rfl (ZbA rfl rfl rfl rfl (by omega) (by omega) (drop_nat rfl)) ?_
  refine y_op rfl (q_load rfl rfl rfl (swL_drop S (by omega))) ?_
  refine zzm ?_
  refine y_op rfl (q_rem rfl rfl (by omega) (nrem (n := 64) rfl)) ?_
  refine y_op rfl (q_shr rfl rfl (by omega) (nshr (s := c % 64) rfl (by show c % 64 ≤ 64; omega))) ?_
  refine y_op rfl (q_rem rfl rfl (by omega) (nrem (n := 2) rfl)) ?_
  refine y_op rfl (OpQ.cast (q_int rfl rfl rfl) (congrArg D.bool ((int_dec (m := 1) rfl).trans (shr_has hc)))) ?_
  refine zza ?_; refine AOps.nil ?_
  refine ARun.ret ?_
  refine ⟨_, _, _, .tmp rfl .nil, .cons (.same _) .nil, rfl, ?_⟩
  rfl
theorem ZdO (S : Nat → Bool) (c : Nat) (hc : c < 256) : PC C ZeZ [setD S, .int .u8 (c : Int)] (fun o => o = .ret (setD (swith S c))) := by
  have h1 := sw_lt S (c / 64)
  refine PC.rn Zcx Zey Zez (rs := [.cell 4 28]) (by rw [ZeA]) ?_
  refine ARun.seq (ARun.region ?_)
  refine y_new rfl (n_box rfl rfl rfl) ?_
  refine y_new rfl (ZaN rfl rfl rfl rfl) ?_
  refine AOps.nil (ARun.seq (ARun.region ?_)); refine zzm ?_
  refine y_op rfl (q_quo rfl rfl (by omega) (show _ = ((c / 64 : Nat) : Int) by rw [IntKind.wrap_u8]; simp; omega)) ?_
  refine y_op rfl (Za8 (j := c / 64) rfl rfl rfl rfl (by omega) (by omega) (show 0 + ((c / 64 : Nat) : Int).toNat * 1 = c / 64 by rw [Int.toNat_natCast]; omega)) ?_
  refine y_op rfl (Zaa rfl rfl rfl rfl (swL_get S (c / 64) (by omega))) ?_
  refine zzm ?_
  refine y_op rfl (q_rem rfl rfl (by omega) (nrem (n := 64) rfl)) ?_
  refine y_op rfl (q_shl rfl rfl (by omega) (shl_one (by omega))) ?_
  refine y_op rfl (q_orR rfl rfl (lor_u64 h1 (pow_lt64 (by omega)))) ?_
  refine y_op rfl (Za8 (j := c / 64) rfl rfl rfl rfl (by omega) (by omega) (show 0 + ((c / 64 : Nat) : Int).toNat * 1 = c / 64 by rw [Int.toNat_natCast]; omega)) ?_
  refine y_new rfl (Zad (cs := swL (swith S c)) rfl rfl rfl rfl rfl rfl (show c / 64 < 4 by omega) (swL_set (by omega) (with_lt (by omega)) (with_bits hc) with_other)) ?_
  refine AOps.nil (ARun.seq (ARun.region ?_))
  refine y_op rfl (Zab rfl rfl rfl rfl rfl rfl) ?_
  refine y_new rfl (Zak rfl rfl rfl rfl rfl rfl rfl rfl (Nat.le_of_ble_eq_true rfl) rfl) ?_
  refine AOps.nil ?_
  refine ARun.ret ?_
  refine ⟨_, _, _, ResR.cellA rfl rfl rfl rfl rfl rfl .nil, .cons (.same _) .nil, rfl, ?_⟩
  rfl
theorem ZhY (S : Nat → Bool) (c : Nat) (hc : c < 256) : PC C ZhE [setD S, .int .u8 (c : Int)] (fun o => o = .ret (setD (swith S c))) := by
  have h1 := sw_lt S (c / 64)
  refine PC.rn Ze0 Zg3 Zg4 (rs := [.cell 4 28]) (by rw [Zg5]) ?_
  refine ARun.seq (ARun.region ?_)
  refine y_new rfl (n_box rfl rfl rfl) ?_
  refine y_new rfl (ZaN rfl rfl rfl rfl) ?_
  refine AOps.nil (ARun.seq (ARun.seq (ARun.region ?_)))
  refine y_op rfl (Zab rfl rfl rfl rfl rfl rfl) ?_
  refine zzm ?_
  refine zzc rfl rfl (ZaM S c hc) ?_
  refine zzn ?_; refine AOps.nil ?_
  refine ARun.cond rfl (fun h => ?_) (fun h => ?_)
  · skip
    have h : S c = false := by simpa using h
    have hb : (sw S (c / 64)).testBit (c % 64) = false := by rw [sw_bit S _ (by omega), show 64 * (c / 64) + c % 64 = c by omega, h]
    have hsum : sw S (c / 64) + 2 ^ (c % 64) = sw S (c / 64) ||| 2 ^ (c % 64) := by
      apply Nat.eq_of_testBit_eq
      intro j
      rw [Nat.testBit_or, Nat.testBit_two_pow, Nat.add_comm]
      rcases Nat.lt_trichotomy j (c % 64) with g | g | g
      · rw [Nat.testBit_two_pow_add_gt g, decide_eq_false (by omega), Bool.or_false]
      · subst g; rw [Nat.testBit_two_pow_add_eq, hb]; simp
      exact add_pow_bit hb g
    refine ARun.region ?_; refine zzm ?_
    refine y_op rfl (q_quo rfl rfl (by omega) (show _ = ((c / 64 : Nat) : Int) by rw [IntKind.wrap_u8]; simp; omega)) ?_
    refine zzm ?_
    refine y_op rfl (q_quo rfl rfl (by omega) (show _ = ((c / 64 : Nat) : Int) by rw [IntKind.wrap_u8]; simp; omega)) ?_
    refine y_op rfl (Za8 (j := c / 64) rfl rfl rfl rfl (by omega) (by omega) (show 0 + ((c / 64 : Nat) : Int).toNat * 1 = c / 64 by rw [Int.toNat_natCast]; omega)) ?_
    refine y_op rfl (Zaa rfl rfl rfl rfl (swL_get S (c / 64) (by omega))) ?_
    refine zzm ?_
    refine y_op rfl (q_rem rfl rfl (by omega) (nrem (n := 64) rfl)) ?_
    refine y_op rfl (q_shl rfl rfl (by omega) (shl_one (by omega))) ?_
    refine y_op rfl (q_add rfl rfl (show _ = ((sw S (c / 64) ||| 2 ^ (c % 64) : Nat) : Int) by rw [← hsum]; exact nadd_u64 (by rw [hsum]; exact Nat.le_of_lt_succ (with_lt (S := S) (i := c / 64) (show c % 64 < 64 by omega))))) ?_
    refine y_op rfl (Za8 (j := c / 64) rfl rfl rfl rfl (by omega) (by omega) (show 0 + ((c / 64 : Nat) : Int).toNat * 1 = c / 64 by rw [Int.toNat_natCast]; omega)) ?_
    refine y_new rfl (Zad (cs := swL (swith S c)) rfl rfl rfl rfl rfl rfl (show c / 64 < 4 by omega) (swL_set (by omega) (with_lt (by omega)) (with_bits hc) with_other)) ?_
    refine AOps.nil (ARun.seq (ARun.region ?_))
    refine y_op rfl (Zab rfl rfl rfl rfl rfl rfl) ?_
    refine y_new rfl (Zak rfl rfl rfl rfl rfl rfl rfl rfl (Nat.le_of_ble_eq_true rfl) rfl) ?_
    refine AOps.nil ?_
    refine ARun.ret ?_
    refine ⟨_, _, _, ResR.cellA rfl rfl rfl rfl rfl rfl .nil, .cons (.same _) .nil, rfl, ?_⟩
    rfl
  have h : S c = true := by simpa using h
  rw [show swith S c = S by funext x; unfold swith; by_cases e : x = c
                            · subst e; rw [h, Bool.true_or]
                            rw [decide_eq_false e, Bool.or_false]]
  refine ARun.skip (ARun.seq (ARun.region ?_))
  refine y_op rfl (Zab rfl rfl rfl rfl rfl rfl) ?_
  refine y_new rfl (Zak rfl rfl rfl rfl rfl rfl rfl rfl (Nat.le_of_ble_eq_true rfl) rfl) ?_
  refine AOps.nil ?_
  refine ARun.ret ?_
  refine ⟨_, _, _, ResR.cellA rfl rfl rfl rfl rfl rfl .nil, .cons (.same _) .nil, rfl, ?_⟩
  rfl
end Go.V
