/- A part of the proof: abstract values, rules for the steps of the program's form, and contracts of its functions, each proved; no condition. -/
import Derived.Test.YthankfodgdfgaaaDoorA06
import Derived.Test.YthankfodgdfgaaaDoorProg
import Derived.Shelf.Strings.Search1
set_option linter.unusedVariables false
set_option linter.unusedSimpArgs false
set_option linter.unnecessarySimpa false
/- THE SEAT's TABLE, PRINTED BY seatv.py (a program of this session's): what each type is, by the translation's own facts; the functions, by name. -/
namespace Go.V
open Go.RowKit Go.Proofs
theorem te1 : TEok Tryd.prog 1 ⟨.other, 1, 8, .nilFunc⟩ := ⟨by kernel_rfl, ⟨_, Tryd.underlying1, rfl⟩⟩
theorem te2 : TEok Tryd.prog 2 ⟨.int .i64, 1, 8, .int .i64 0⟩ := ⟨by kernel_rfl, Tryd.underlying2⟩
theorem te3 : TEok Tryd.prog 3 ⟨.int .i64, 1, 8, .int .i64 0⟩ := ⟨by kernel_rfl, Tryd.underlying3⟩
theorem te4 : TEok Tryd.prog 4 ⟨.bool, 1, 1, .bool false⟩ := ⟨by kernel_rfl, Tryd.underlying4⟩
theorem te5 : TEok Tryd.prog 5 ⟨.int .u8, 1, 1, .int .u8 0⟩ := ⟨by kernel_rfl, Tryd.underlying5⟩
theorem te6 : TEok Tryd.prog 6 ⟨.int .u8, 1, 1, .int .u8 0⟩ := ⟨by kernel_rfl, Tryd.underlying6⟩
theorem te7 : TEok Tryd.prog 7 ⟨.struct [(0, 1), (1, 1), (2, 1), (3, 1)], 4, 24, .agg #[.int .i64 0, .int .i64 0, .bool false, .int .u8 0]⟩ := ⟨by kernel_rfl, ⟨_, Tryd.underlying7, by kernel_rfl⟩⟩
theorem te8 : TEok Tryd.prog 8 ⟨.struct [(0, 1), (1, 1), (2, 1), (3, 1)], 4, 24, .agg #[.int .i64 0, .int .i64 0, .bool false, .int .u8 0]⟩ := ⟨by kernel_rfl, ⟨_, Tryd.underlying8, by kernel_rfl⟩⟩
theorem te9 : TEok Tryd.prog 9 ⟨.str, 1, 16, .string ⟨#[]⟩⟩ := ⟨by kernel_rfl, Tryd.underlying9⟩
theorem te10 : TEok Tryd.prog 10 ⟨.str, 1, 16, .string ⟨#[]⟩⟩ := ⟨by kernel_rfl, Tryd.underlying10⟩
theorem te11 : TEok Tryd.prog 11 ⟨.str, 1, 16, .string ⟨#[]⟩⟩ := ⟨by kernel_rfl, Tryd.underlying11⟩
theorem te12 : TEok Tryd.prog 12 ⟨.int .u64, 1, 8, .int .u64 0⟩ := ⟨by kernel_rfl, Tryd.underlying12⟩
theorem te13 : TEok Tryd.prog 13 ⟨.struct [(0, 1), (1, 1)], 2, 24, .agg #[.string ⟨#[]⟩, .int .u64 0]⟩ := ⟨by kernel_rfl, ⟨_, Tryd.underlying13, by kernel_rfl⟩⟩
theorem te14 : TEok Tryd.prog 14 ⟨.struct [(0, 1), (1, 1)], 2, 24, .agg #[.string ⟨#[]⟩, .int .u64 0]⟩ := ⟨by kernel_rfl, ⟨_, Tryd.underlying14, by kernel_rfl⟩⟩
theorem te15 : TEok Tryd.prog 15 ⟨.ptr, 1, 8, .pointer none⟩ := ⟨by kernel_rfl, ⟨_, Tryd.underlying15⟩⟩
theorem te16 : TEok Tryd.prog 16 ⟨.ptr, 1, 8, .pointer none⟩ := ⟨by kernel_rfl, ⟨_, Tryd.underlying16⟩⟩
theorem te17 : TEok Tryd.prog 17 ⟨.ptr, 1, 8, .pointer none⟩ := ⟨by kernel_rfl, ⟨_, Tryd.underlying17⟩⟩
theorem te18 : TEok Tryd.prog 18 ⟨.struct [(0, 1)], 1, 8, .agg #[.pointer none]⟩ := ⟨by kernel_rfl, ⟨_, Tryd.underlying18, by kernel_rfl⟩⟩
theorem te19 : TEok Tryd.prog 19 ⟨.struct [(0, 1)], 1, 8, .agg #[.pointer none]⟩ := ⟨by kernel_rfl, ⟨_, Tryd.underlying19, by kernel_rfl⟩⟩
theorem te20 : TEok Tryd.prog 20 ⟨.other, 1, 16, .nilIface⟩ := ⟨by kernel_rfl, ⟨_, Tryd.underlying20, rfl⟩⟩
theorem te21 : TEok Tryd.prog 21 ⟨.int .i32, 1, 4, .int .i32 0⟩ := ⟨by kernel_rfl, Tryd.underlying21⟩
theorem te22 : TEok Tryd.prog 22 ⟨.other, 1, 8, .nilFunc⟩ := ⟨by kernel_rfl, ⟨_, Tryd.underlying22, rfl⟩⟩
theorem te23 : TEok Tryd.prog 23 ⟨.slice 46, 1, 24, .slice none 0 0⟩ := ⟨by kernel_rfl, Tryd.underlying23⟩
theorem te24 : TEok Tryd.prog 24 ⟨.int .i64, 1, 8, .int .i64 0⟩ := ⟨by kernel_rfl, Tryd.underlying24⟩
theorem te26 : TEok Tryd.prog 26 ⟨.other, 1, 8, .nilFunc⟩ := ⟨by kernel_rfl, ⟨_, Tryd.underlying26, rfl⟩⟩
theorem te27 : TEok Tryd.prog 27 ⟨.int .u64, 1, 8, .int .u64 0⟩ := ⟨by kernel_rfl, Tryd.underlying27⟩
theorem te28 : TEok Tryd.prog 28 ⟨.array 4 27, 4, 32, .agg #[.int .u64 0, .int .u64 0, .int .u64 0, .int .u64 0]⟩ := ⟨by kernel_rfl, Tryd.underlying28⟩
theorem te30 : TEok Tryd.prog 30 ⟨.other, 1, 8, .nilFunc⟩ := ⟨by kernel_rfl, ⟨_, Tryd.underlying30, rfl⟩⟩
theorem te31 : TEok Tryd.prog 31 ⟨.other, 1, 8, .nilFunc⟩ := ⟨by kernel_rfl, ⟨_, Tryd.underlying31, rfl⟩⟩
theorem te32 : TEok Tryd.prog 32 ⟨.other, 1, 8, .nilFunc⟩ := ⟨by kernel_rfl, ⟨_, Tryd.underlying32, rfl⟩⟩
theorem te34 : TEok Tryd.prog 34 ⟨.other, 1, 8, .nilFunc⟩ := ⟨by kernel_rfl, ⟨_, Tryd.underlying34, rfl⟩⟩
theorem te36 : TEok Tryd.prog 36 ⟨.other, 1, 8, .nilFunc⟩ := ⟨by kernel_rfl, ⟨_, Tryd.underlying36, rfl⟩⟩
theorem te38 : TEok Tryd.prog 38 ⟨.other, 1, 8, .nilFunc⟩ := ⟨by kernel_rfl, ⟨_, Tryd.underlying38, rfl⟩⟩
theorem te40 : TEok Tryd.prog 40 ⟨.other, 1, 8, .nilFunc⟩ := ⟨by kernel_rfl, ⟨_, Tryd.underlying40, rfl⟩⟩
theorem te41 : TEok Tryd.prog 41 ⟨.other, 1, 8, .nilFunc⟩ := ⟨by kernel_rfl, ⟨_, Tryd.underlying41, rfl⟩⟩
theorem te42 : TEok Tryd.prog 42 ⟨.other, 1, 8, .nilFunc⟩ := ⟨by kernel_rfl, ⟨_, Tryd.underlying42, rfl⟩⟩
theorem te43 : TEok Tryd.prog 43 ⟨.other, 1, 8, .nilFunc⟩ := ⟨by kernel_rfl, ⟨_, Tryd.underlying43, rfl⟩⟩
theorem te44 : TEok Tryd.prog 44 ⟨.other, 1, 8, .nilFunc⟩ := ⟨by kernel_rfl, ⟨_, Tryd.underlying44, rfl⟩⟩
theorem te45 : TEok Tryd.prog 45 ⟨.struct [(0, 1), (1, 1), (2, 1), (3, 1), (4, 1), (5, 4)], 9, 80, .agg #[.string ⟨#[]⟩, .int .i64 0, .int .i64 0, .int .i64 0, .int .u8 0, .int .u64 0, .int .u64 0, .int .u64 0, .int .u64 0]⟩ := ⟨by kernel_rfl, ⟨_, Tryd.underlying45, by kernel_rfl⟩⟩
theorem te46 : TEok Tryd.prog 46 ⟨.struct [(0, 1), (1, 1), (2, 1), (3, 1), (4, 1), (5, 4)], 9, 80, .agg #[.string ⟨#[]⟩, .int .i64 0, .int .i64 0, .int .i64 0, .int .u8 0, .int .u64 0, .int .u64 0, .int .u64 0, .int .u64 0]⟩ := ⟨by kernel_rfl, ⟨_, Tryd.underlying46, by kernel_rfl⟩⟩
theorem te47 : TEok Tryd.prog 47 ⟨.other, 1, 8, .nilFunc⟩ := ⟨by kernel_rfl, ⟨_, Tryd.underlying47, rfl⟩⟩
theorem te48 : TEok Tryd.prog 48 ⟨.other, 1, 8, .nilFunc⟩ := ⟨by kernel_rfl, ⟨_, Tryd.underlying48, rfl⟩⟩
theorem te49 : TEok Tryd.prog 49 ⟨.ptr, 1, 8, .pointer none⟩ := ⟨by kernel_rfl, ⟨_, Tryd.underlying49⟩⟩
theorem te50 : TEok Tryd.prog 50 ⟨.ptr, 1, 8, .pointer none⟩ := ⟨by kernel_rfl, ⟨_, Tryd.underlying50⟩⟩
theorem te51 : TEok Tryd.prog 51 ⟨.ptr, 1, 8, .pointer none⟩ := ⟨by kernel_rfl, ⟨_, Tryd.underlying51⟩⟩
theorem te52 : TEok Tryd.prog 52 ⟨.struct [(0, 1), (1, 1)], 2, 24, .agg #[.string ⟨#[]⟩, .int .i64 0]⟩ := ⟨by kernel_rfl, ⟨_, Tryd.underlying52, by kernel_rfl⟩⟩
theorem te53 : TEok Tryd.prog 53 ⟨.struct [(0, 1), (1, 1)], 2, 24, .agg #[.string ⟨#[]⟩, .int .i64 0]⟩ := ⟨by kernel_rfl, ⟨_, Tryd.underlying53, by kernel_rfl⟩⟩
theorem te54 : TEok Tryd.prog 54 ⟨.struct [(0, 2), (2, 1), (3, 1), (4, 1)], 5, 40, .agg #[.string ⟨#[]⟩, .int .i64 0, .int .i64 0, .bool false, .bool false]⟩ := ⟨by kernel_rfl, ⟨_, Tryd.underlying54, by kernel_rfl⟩⟩
theorem te55 : TEok Tryd.prog 55 ⟨.struct [(0, 2), (2, 1), (3, 1), (4, 1)], 5, 40, .agg #[.string ⟨#[]⟩, .int .i64 0, .int .i64 0, .bool false, .bool false]⟩ := ⟨by kernel_rfl, ⟨_, Tryd.underlying55, by kernel_rfl⟩⟩
theorem te56 : TEok Tryd.prog 56 ⟨.other, 1, 8, .nilFunc⟩ := ⟨by kernel_rfl, ⟨_, Tryd.underlying56, rfl⟩⟩
theorem te58 : TEok Tryd.prog 58 ⟨.other, 1, 8, .nilFunc⟩ := ⟨by kernel_rfl, ⟨_, Tryd.underlying58, rfl⟩⟩
theorem te59 : TEok Tryd.prog 59 ⟨.other, 1, 8, .nilFunc⟩ := ⟨by kernel_rfl, ⟨_, Tryd.underlying59, rfl⟩⟩
theorem te60 : TEok Tryd.prog 60 ⟨.struct [(0, 9), (9, 1), (10, 1), (11, 1), (12, 1)], 13, 96, .agg #[.string ⟨#[]⟩, .int .i64 0, .int .i64 0, .int .i64 0, .int .u8 0, .int .u64 0, .int .u64 0, .int .u64 0, .int .u64 0, .int .i64 0, .bool false, .bool false, .bool false]⟩ := ⟨by kernel_rfl, ⟨_, Tryd.underlying60, by kernel_rfl⟩⟩
theorem te61 : TEok Tryd.prog 61 ⟨.struct [(0, 9), (9, 1), (10, 1), (11, 1), (12, 1)], 13, 96, .agg #[.string ⟨#[]⟩, .int .i64 0, .int .i64 0, .int .i64 0, .int .u8 0, .int .u64 0, .int .u64 0, .int .u64 0, .int .u64 0, .int .i64 0, .bool false, .bool false, .bool false]⟩ := ⟨by kernel_rfl, ⟨_, Tryd.underlying61, by kernel_rfl⟩⟩
theorem te62 : TEok Tryd.prog 62 ⟨.other, 1, 8, .nilFunc⟩ := ⟨by kernel_rfl, ⟨_, Tryd.underlying62, rfl⟩⟩
theorem te63 : TEok Tryd.prog 63 ⟨.other, 1, 8, .nilFunc⟩ := ⟨by kernel_rfl, ⟨_, Tryd.underlying63, rfl⟩⟩
theorem te65 : TEok Tryd.prog 65 ⟨.other, 1, 8, .nilFunc⟩ := ⟨by kernel_rfl, ⟨_, Tryd.underlying65, rfl⟩⟩
theorem te67 : TEok Tryd.prog 67 ⟨.other, 1, 8, .nilFunc⟩ := ⟨by kernel_rfl, ⟨_, Tryd.underlying67, rfl⟩⟩
theorem te68 : TEok Tryd.prog 68 ⟨.other, 1, 8, .nilFunc⟩ := ⟨by kernel_rfl, ⟨_, Tryd.underlying68, rfl⟩⟩
theorem te69 : TEok Tryd.prog 69 ⟨.other, 1, 8, .nilFunc⟩ := ⟨by kernel_rfl, ⟨_, Tryd.underlying69, rfl⟩⟩
theorem te70 : TEok Tryd.prog 70 ⟨.other, 1, 8, .nilFunc⟩ := ⟨by kernel_rfl, ⟨_, Tryd.underlying70, rfl⟩⟩
theorem te71 : TEok Tryd.prog 71 ⟨.ptr, 1, 8, .pointer none⟩ := ⟨by kernel_rfl, ⟨_, Tryd.underlying71⟩⟩
theorem te72 : TEok Tryd.prog 72 ⟨.slice 5, 1, 24, .slice none 0 0⟩ := ⟨by kernel_rfl, Tryd.underlying72⟩
theorem te73 : TEok Tryd.prog 73 ⟨.struct [(0, 1), (1, 1)], 2, 32, .agg #[.pointer none, .slice none 0 0]⟩ := ⟨by kernel_rfl, ⟨_, Tryd.underlying73, by kernel_rfl⟩⟩
theorem te74 : TEok Tryd.prog 74 ⟨.struct [(0, 1), (1, 1)], 2, 32, .agg #[.pointer none, .slice none 0 0]⟩ := ⟨by kernel_rfl, ⟨_, Tryd.underlying74, by kernel_rfl⟩⟩
theorem te75 : TEok Tryd.prog 75 ⟨.other, 1, 16, .nilIface⟩ := ⟨by kernel_rfl, ⟨_, Tryd.underlying75, rfl⟩⟩
theorem te76 : TEok Tryd.prog 76 ⟨.other, 1, 16, .nilIface⟩ := ⟨by kernel_rfl, ⟨_, Tryd.underlying76, rfl⟩⟩
theorem te78 : TEok Tryd.prog 78 ⟨.other, 1, 8, .nilFunc⟩ := ⟨by kernel_rfl, ⟨_, Tryd.underlying78, rfl⟩⟩
theorem te79 : TEok Tryd.prog 79 ⟨.other, 1, 8, .nilFunc⟩ := ⟨by kernel_rfl, ⟨_, Tryd.underlying79, rfl⟩⟩
theorem te80 : TEok Tryd.prog 80 ⟨.other, 1, 8, .nilFunc⟩ := ⟨by kernel_rfl, ⟨_, Tryd.underlying80, rfl⟩⟩
theorem te81 : TEok Tryd.prog 81 ⟨.other, 1, 8, .nilFunc⟩ := ⟨by kernel_rfl, ⟨_, Tryd.underlying81, rfl⟩⟩
theorem te82 : TEok Tryd.prog 82 ⟨.other, 1, 8, .nilFunc⟩ := ⟨by kernel_rfl, ⟨_, Tryd.underlying82, rfl⟩⟩
theorem te83 : TEok Tryd.prog 83 ⟨.other, 1, 8, .nilFunc⟩ := ⟨by kernel_rfl, ⟨_, Tryd.underlying83, rfl⟩⟩
theorem te84 : TEok Tryd.prog 84 ⟨.other, 1, 8, .nilFunc⟩ := ⟨by kernel_rfl, ⟨_, Tryd.underlying84, rfl⟩⟩
theorem te85 : TEok Tryd.prog 85 ⟨.other, 1, 8, .nilFunc⟩ := ⟨by kernel_rfl, ⟨_, Tryd.underlying85, rfl⟩⟩
theorem te86 : TEok Tryd.prog 86 ⟨.other, 1, 8, .nilFunc⟩ := ⟨by kernel_rfl, ⟨_, Tryd.underlying86, rfl⟩⟩
theorem te87 : TEok Tryd.prog 87 ⟨.other, 1, 8, .nilFunc⟩ := ⟨by kernel_rfl, ⟨_, Tryd.underlying87, rfl⟩⟩
theorem te88 : TEok Tryd.prog 88 ⟨.other, 1, 8, .nilFunc⟩ := ⟨by kernel_rfl, ⟨_, Tryd.underlying88, rfl⟩⟩
theorem te89 : TEok Tryd.prog 89 ⟨.struct [(0, 1), (1, 1)], 2, 16, .agg #[.int .i64 0, .int .i64 0]⟩ := ⟨by kernel_rfl, ⟨_, Tryd.underlying89, by kernel_rfl⟩⟩
theorem te90 : TEok Tryd.prog 90 ⟨.struct [(0, 1), (1, 1)], 2, 16, .agg #[.int .i64 0, .int .i64 0]⟩ := ⟨by kernel_rfl, ⟨_, Tryd.underlying90, by kernel_rfl⟩⟩
theorem te91 : TEok Tryd.prog 91 ⟨.other, 1, 8, .nilFunc⟩ := ⟨by kernel_rfl, ⟨_, Tryd.underlying91, rfl⟩⟩
theorem te92 : TEok Tryd.prog 92 ⟨.other, 1, 8, .nilFunc⟩ := ⟨by kernel_rfl, ⟨_, Tryd.underlying92, rfl⟩⟩
theorem te93 : TEok Tryd.prog 93 ⟨.other, 1, 8, .map none⟩ := ⟨by kernel_rfl, ⟨_, Tryd.underlying93, rfl⟩⟩
theorem te94 : TEok Tryd.prog 94 ⟨.other, 1, 8, .nilFunc⟩ := ⟨by kernel_rfl, ⟨_, Tryd.underlying94, rfl⟩⟩
theorem te95 : TEok Tryd.prog 95 ⟨.other, 1, 8, .map none⟩ := ⟨by kernel_rfl, ⟨_, Tryd.underlying95, rfl⟩⟩
theorem te96 : TEok Tryd.prog 96 ⟨.other, 1, 8, .nilFunc⟩ := ⟨by kernel_rfl, ⟨_, Tryd.underlying96, rfl⟩⟩
theorem te97 : TEok Tryd.prog 97 ⟨.other, 1, 8, .nilFunc⟩ := ⟨by kernel_rfl, ⟨_, Tryd.underlying97, rfl⟩⟩
theorem te98 : TEok Tryd.prog 98 ⟨.other, 1, 8, .nilFunc⟩ := ⟨by kernel_rfl, ⟨_, Tryd.underlying98, rfl⟩⟩
theorem te99 : TEok Tryd.prog 99 ⟨.array 12 9, 12, 192, .agg #[.string ⟨#[]⟩, .string ⟨#[]⟩, .string ⟨#[]⟩, .string ⟨#[]⟩, .string ⟨#[]⟩, .string ⟨#[]⟩, .string ⟨#[]⟩, .string ⟨#[]⟩, .string ⟨#[]⟩, .string ⟨#[]⟩, .string ⟨#[]⟩, .string ⟨#[]⟩]⟩ := ⟨by kernel_rfl, Tryd.underlying99⟩
theorem te100 : TEok Tryd.prog 100 ⟨.ptr, 1, 8, .pointer none⟩ := ⟨by kernel_rfl, ⟨_, Tryd.underlying100⟩⟩
theorem te101 : TEok Tryd.prog 101 ⟨.slice 9, 1, 24, .slice none 0 0⟩ := ⟨by kernel_rfl, Tryd.underlying101⟩
theorem te102 : TEok Tryd.prog 102 ⟨.other, 1, 8, .nilFunc⟩ := ⟨by kernel_rfl, ⟨_, Tryd.underlying102, rfl⟩⟩
theorem te103 : TEok Tryd.prog 103 ⟨.other, 1, 8, .nilFunc⟩ := ⟨by kernel_rfl, ⟨_, Tryd.underlying103, rfl⟩⟩
theorem te104 : TEok Tryd.prog 104 ⟨.other, 1, 8, .nilFunc⟩ := ⟨by kernel_rfl, ⟨_, Tryd.underlying104, rfl⟩⟩
theorem te105 : TEok Tryd.prog 105 ⟨.ptr, 1, 8, .pointer none⟩ := ⟨by kernel_rfl, ⟨_, Tryd.underlying105⟩⟩
theorem te106 : TEok Tryd.prog 106 ⟨.other, 1, 8, .nilFunc⟩ := ⟨by kernel_rfl, ⟨_, Tryd.underlying106, rfl⟩⟩
theorem te107 : TEok Tryd.prog 107 ⟨.other, 1, 8, .nilFunc⟩ := ⟨by kernel_rfl, ⟨_, Tryd.underlying107, rfl⟩⟩
theorem te109 : TEok Tryd.prog 109 ⟨.other, 1, 8, .nilFunc⟩ := ⟨by kernel_rfl, ⟨_, Tryd.underlying109, rfl⟩⟩
theorem te110 : TEok Tryd.prog 110 ⟨.other, 1, 8, .nilFunc⟩ := ⟨by kernel_rfl, ⟨_, Tryd.underlying110, rfl⟩⟩
theorem te112 : TEok Tryd.prog 112 ⟨.other, 1, 8, .nilFunc⟩ := ⟨by kernel_rfl, ⟨_, Tryd.underlying112, rfl⟩⟩
theorem te114 : TEok Tryd.prog 114 ⟨.other, 1, 8, .nilFunc⟩ := ⟨by kernel_rfl, ⟨_, Tryd.underlying114, rfl⟩⟩
theorem te115 : TEok Tryd.prog 115 ⟨.other, 1, 8, .nilFunc⟩ := ⟨by kernel_rfl, ⟨_, Tryd.underlying115, rfl⟩⟩
theorem te116 : TEok Tryd.prog 116 ⟨.array 24 5, 24, 24, .agg #[.int .u8 0, .int .u8 0, .int .u8 0, .int .u8 0, .int .u8 0, .int .u8 0, .int .u8 0, .int .u8 0, .int .u8 0, .int .u8 0, .int .u8 0, .int .u8 0, .int .u8 0, .int .u8 0, .int .u8 0, .int .u8 0, .int .u8 0, .int .u8 0, .int .u8 0, .int .u8 0, .int .u8 0, .int .u8 0, .int .u8 0, .int .u8 0]⟩ := ⟨by kernel_rfl, Tryd.underlying116⟩
theorem te117 : TEok Tryd.prog 117 ⟨.other, 1, 8, .nilFunc⟩ := ⟨by kernel_rfl, ⟨_, Tryd.underlying117, rfl⟩⟩
theorem te118 : TEok Tryd.prog 118 ⟨.other, 1, 8, .nilFunc⟩ := ⟨by kernel_rfl, ⟨_, Tryd.underlying118, rfl⟩⟩
theorem te120 : TEok Tryd.prog 120 ⟨.other, 1, 8, .nilFunc⟩ := ⟨by kernel_rfl, ⟨_, Tryd.underlying120, rfl⟩⟩
theorem te121 : TEok Tryd.prog 121 ⟨.other, 1, 8, .nilFunc⟩ := ⟨by kernel_rfl, ⟨_, Tryd.underlying121, rfl⟩⟩
theorem te122 : TEok Tryd.prog 122 ⟨.other, 1, 8, .nilFunc⟩ := ⟨by kernel_rfl, ⟨_, Tryd.underlying122, rfl⟩⟩
theorem te123 : TEok Tryd.prog 123 ⟨.array 20 27, 20, 160, .agg #[.int .u64 0, .int .u64 0, .int .u64 0, .int .u64 0, .int .u64 0, .int .u64 0, .int .u64 0, .int .u64 0, .int .u64 0, .int .u64 0, .int .u64 0, .int .u64 0, .int .u64 0, .int .u64 0, .int .u64 0, .int .u64 0, .int .u64 0, .int .u64 0, .int .u64 0, .int .u64 0]⟩ := ⟨by kernel_rfl, Tryd.underlying123⟩
theorem te124 : TEok Tryd.prog 124 ⟨.int .u32, 1, 4, .int .u32 0⟩ := ⟨by kernel_rfl, Tryd.underlying124⟩
theorem te125 : TEok Tryd.prog 125 ⟨.array 65 5, 65, 65, .agg #[.int .u8 0, .int .u8 0, .int .u8 0, .int .u8 0, .int .u8 0, .int .u8 0, .int .u8 0, .int .u8 0, .int .u8 0, .int .u8 0, .int .u8 0, .int .u8 0, .int .u8 0, .int .u8 0, .int .u8 0, .int .u8 0, .int .u8 0, .int .u8 0, .int .u8 0, .int .u8 0, .int .u8 0, .int .u8 0, .int .u8 0, .int .u8 0, .int .u8 0, .int .u8 0, .int .u8 0, .int .u8 0, .int .u8 0, .int .u8 0, .int .u8 0, .int .u8 0, .int .u8 0, .int .u8 0, .int .u8 0, .int .u8 0, .int .u8 0, .int .u8 0, .int .u8 0, .int .u8 0, .int .u8 0, .int .u8 0, .int .u8 0, .int .u8 0, .int .u8 0, .int .u8 0, .int .u8 0, .int .u8 0, .int .u8 0, .int .u8 0, .int .u8 0, .int .u8 0, .int .u8 0, .int .u8 0, .int .u8 0, .int .u8 0, .int .u8 0, .int .u8 0, .int .u8 0, .int .u8 0, .int .u8 0, .int .u8 0, .int .u8 0, .int .u8 0, .int .u8 0]⟩ := ⟨by kernel_rfl, Tryd.underlying125⟩
theorem te126 : TEok Tryd.prog 126 ⟨.int .u64, 1, 8, .int .u64 0⟩ := ⟨by kernel_rfl, Tryd.underlying126⟩
theorem te127 : TEok Tryd.prog 127 ⟨.other, 1, 8, .nilFunc⟩ := ⟨by kernel_rfl, ⟨_, Tryd.underlying127, rfl⟩⟩
theorem te128 : TEok Tryd.prog 128 ⟨.other, 1, 8, .nilFunc⟩ := ⟨by kernel_rfl, ⟨_, Tryd.underlying128, rfl⟩⟩
theorem te129 : TEok Tryd.prog 129 ⟨.array 32 5, 32, 32, .agg #[.int .u8 0, .int .u8 0, .int .u8 0, .int .u8 0, .int .u8 0, .int .u8 0, .int .u8 0, .int .u8 0, .int .u8 0, .int .u8 0, .int .u8 0, .int .u8 0, .int .u8 0, .int .u8 0, .int .u8 0, .int .u8 0, .int .u8 0, .int .u8 0, .int .u8 0, .int .u8 0, .int .u8 0, .int .u8 0, .int .u8 0, .int .u8 0, .int .u8 0, .int .u8 0, .int .u8 0, .int .u8 0, .int .u8 0, .int .u8 0, .int .u8 0, .int .u8 0]⟩ := ⟨by kernel_rfl, Tryd.underlying129⟩
theorem te130 : TEok Tryd.prog 130 ⟨.array 64 5, 64, 64, .agg #[.int .u8 0, .int .u8 0, .int .u8 0, .int .u8 0, .int .u8 0, .int .u8 0, .int .u8 0, .int .u8 0, .int .u8 0, .int .u8 0, .int .u8 0, .int .u8 0, .int .u8 0, .int .u8 0, .int .u8 0, .int .u8 0, .int .u8 0, .int .u8 0, .int .u8 0, .int .u8 0, .int .u8 0, .int .u8 0, .int .u8 0, .int .u8 0, .int .u8 0, .int .u8 0, .int .u8 0, .int .u8 0, .int .u8 0, .int .u8 0, .int .u8 0, .int .u8 0, .int .u8 0, .int .u8 0, .int .u8 0, .int .u8 0, .int .u8 0, .int .u8 0, .int .u8 0, .int .u8 0, .int .u8 0, .int .u8 0, .int .u8 0, .int .u8 0, .int .u8 0, .int .u8 0, .int .u8 0, .int .u8 0, .int .u8 0, .int .u8 0, .int .u8 0, .int .u8 0, .int .u8 0, .int .u8 0, .int .u8 0, .int .u8 0, .int .u8 0, .int .u8 0, .int .u8 0, .int .u8 0, .int .u8 0, .int .u8 0, .int .u8 0, .int .u8 0]⟩ := ⟨by kernel_rfl, Tryd.underlying130⟩
theorem te131 : TEok Tryd.prog 131 ⟨.struct [(0, 1), (1, 1), (2, 1), (3, 1)], 4, 40, .agg #[.pointer none, .pointer none, .pointer none, .string ⟨#[]⟩]⟩ := ⟨by kernel_rfl, ⟨_, Tryd.underlying131, by kernel_rfl⟩⟩
theorem te132 : TEok Tryd.prog 132 ⟨.struct [(0, 1), (1, 1), (2, 1), (3, 1)], 4, 40, .agg #[.pointer none, .pointer none, .pointer none, .string ⟨#[]⟩]⟩ := ⟨by kernel_rfl, ⟨_, Tryd.underlying132, by kernel_rfl⟩⟩
theorem te133 : TEok Tryd.prog 133 ⟨.array 0 16, 0, 0, .agg #[]⟩ := ⟨by kernel_rfl, Tryd.underlying133⟩
theorem te134 : TEok Tryd.prog 134 ⟨.struct [(0, 0)], 0, 0, .agg #[]⟩ := ⟨by kernel_rfl, ⟨_, Tryd.underlying134, by kernel_rfl⟩⟩
theorem te135 : TEok Tryd.prog 135 ⟨.struct [(0, 0)], 0, 0, .agg #[]⟩ := ⟨by kernel_rfl, ⟨_, Tryd.underlying135, by kernel_rfl⟩⟩
theorem te136 : TEok Tryd.prog 136 ⟨.int .u8, 1, 1, .int .u8 0⟩ := ⟨by kernel_rfl, Tryd.underlying136⟩
theorem te137 : TEok Tryd.prog 137 ⟨.int .u8, 1, 1, .int .u8 0⟩ := ⟨by kernel_rfl, Tryd.underlying137⟩
theorem te138 : TEok Tryd.prog 138 ⟨.other, 1, 8, .nilFunc⟩ := ⟨by kernel_rfl, ⟨_, Tryd.underlying138, rfl⟩⟩
theorem te139 : TEok Tryd.prog 139 ⟨.int .i32, 1, 4, .int .i32 0⟩ := ⟨by kernel_rfl, Tryd.underlying139⟩
theorem te140 : TEok Tryd.prog 140 ⟨.int .i32, 1, 4, .int .i32 0⟩ := ⟨by kernel_rfl, Tryd.underlying140⟩
theorem te141 : TEok Tryd.prog 141 ⟨.struct [(0, 1), (1, 1), (2, 1), (3, 1), (4, 1), (5, 1), (6, 1), (7, 1), (8, 1), (9, 1), (10, 1)], 11, 48, .agg #[.int .u64 0, .int .u64 0, .int .u32 0, .int .u8 0, .int .u8 0, .int .u8 0, .int .u8 0, .nilFunc, .pointer none, .int .i32 0, .int .i32 0]⟩ := ⟨by kernel_rfl, ⟨_, Tryd.underlying141, by kernel_rfl⟩⟩
theorem te142 : TEok Tryd.prog 142 ⟨.struct [(0, 1), (1, 1), (2, 1), (3, 1), (4, 1), (5, 1), (6, 1), (7, 1), (8, 1), (9, 1), (10, 1)], 11, 48, .agg #[.int .u64 0, .int .u64 0, .int .u32 0, .int .u8 0, .int .u8 0, .int .u8 0, .int .u8 0, .nilFunc, .pointer none, .int .i32 0, .int .i32 0]⟩ := ⟨by kernel_rfl, ⟨_, Tryd.underlying142, by kernel_rfl⟩⟩
abbrev t_int : TypeId := 3
abbrev t_bool : TypeId := 4
abbrev Zbl : TypeId := 5
abbrev Zag : TypeId := 23
abbrev Zfw : TypeId := 24
abbrev Zep : TypeId := 27
abbrev Zai : TypeId := 28
abbrev Zab : TypeId := 46
abbrev ZdC : TypeId := 55
abbrev Zbx : TypeId := 71
abbrev ZaP : TypeId := 74
abbrev Zd3 : TypeId := 90
noncomputable def tys : Tr := (.node 73 (.node 36 (.node 16 (.node 8 (.node 4 (.node 2 (.node 1 (.leaf 1 ⟨.other, 1, 8, .nilFunc⟩) (.leaf 2 ⟨.int .i64, 1, 8, .int .i64 0⟩)) (.node 3 (.leaf 3 ⟨.int .i64, 1, 8, .int .i64 0⟩) (.leaf 4 ⟨.bool, 1, 1, .bool false⟩))) (.node 6 (.node 5 (.leaf 5 ⟨.int .u8, 1, 1, .int .u8 0⟩) (.leaf 6 ⟨.int .u8, 1, 1, .int .u8 0⟩)) (.node 7 (.leaf 7 ⟨.struct [(0, 1), (1, 1), (2, 1), (3, 1)], 4, 24, .agg #[.int .i64 0, .int .i64 0, .bool false, .int .u8 0]⟩) (.leaf 8 ⟨.struct [(0, 1), (1, 1), (2, 1), (3, 1)], 4, 24, .agg #[.int .i64 0, .int .i64 0, .bool false, .int .u8 0]⟩)))) (.node 12 (.node 10 (.node 9 (.leaf 9 ⟨.str, 1, 16, .string ⟨#[]⟩⟩) (.leaf 10 ⟨.str, 1, 16, .string ⟨#[]⟩⟩)) (.node 11 (.leaf 11 ⟨.str, 1, 16, .string ⟨#[]⟩⟩) (.leaf 12 ⟨.int .u64, 1, 8, .int .u64 0⟩))) (.node 14 (.node 13 (.leaf 13 ⟨.struct [(0, 1), (1, 1)], 2, 24, .agg #[.string ⟨#[]⟩, .int .u64 0]⟩) (.leaf 14 ⟨.struct [(0, 1), (1, 1)], 2, 24, .agg #[.string ⟨#[]⟩, .int .u64 0]⟩)) (.node 15 (.leaf 15 ⟨.ptr, 1, 8, .pointer none⟩) (.leaf 16 ⟨.ptr, 1, 8, .pointer none⟩))))) (.node 24 (.node 20 (.node 18 (.node 17 (.leaf 17 ⟨.ptr, 1, 8, .pointer none⟩) (.leaf 18 ⟨.struct [(0, 1)], 1, 8, .agg #[.pointer none]⟩)) (.node 19 (.leaf 19 ⟨.struct [(0, 1)], 1, 8, .agg #[.pointer none]⟩) (.leaf 20 ⟨.other, 1, 16, .nilIface⟩))) (.node 22 (.node 21 (.leaf 21 ⟨.int .i32, 1, 4, .int .i32 0⟩) (.leaf 22 ⟨.other, 1, 8, .nilFunc⟩)) (.node 23 (.leaf 23 ⟨.slice 46, 1, 24, .slice none 0 0⟩) (.leaf 24 ⟨.int .i64, 1, 8, .int .i64 0⟩)))) (.node 30 (.node 27 (.node 26 (.leaf 26 ⟨.other, 1, 8, .nilFunc⟩) (.leaf 27 ⟨.int .u64, 1, 8, .int .u64 0⟩)) (.node 28 (.leaf 28 ⟨.array 4 27, 4, 32, .agg #[.int .u64 0, .int .u64 0, .int .u64 0, .int .u64 0]⟩) (.leaf 30 ⟨.other, 1, 8, .nilFunc⟩))) (.node 32 (.node 31 (.leaf 31 ⟨.other, 1, 8, .nilFunc⟩) (.leaf 32 ⟨.other, 1, 8, .nilFunc⟩)) (.node 34 (.leaf 34 ⟨.other, 1, 8, .nilFunc⟩) (.leaf 36 ⟨.other, 1, 8, .nilFunc⟩)))))) (.node 54 (.node 46 (.node 42 (.node 40 (.node 38 (.leaf 38 ⟨.other, 1, 8, .nilFunc⟩) (.leaf 40 ⟨.other, 1, 8, .nilFunc⟩)) (.node 41 (.leaf 41 ⟨.other, 1, 8, .nilFunc⟩) (.leaf 42 ⟨.other, 1, 8, .nilFunc⟩))) (.node 44 (.node 43 (.leaf 43 ⟨.other, 1, 8, .nilFunc⟩) (.leaf 44 ⟨.other, 1, 8, .nilFunc⟩)) (.node 45 (.leaf 45 ⟨.struct [(0, 1), (1, 1), (2, 1), (3, 1), (4, 1), (5, 4)], 9, 80, .agg #[.string ⟨#[]⟩, .int .i64 0, .int .i64 0, .int .i64 0, .int .u8 0, .int .u64 0, .int .u64 0, .int .u64 0, .int .u64 0]⟩) (.leaf 46 ⟨.struct [(0, 1), (1, 1), (2, 1), (3, 1), (4, 1), (5, 4)], 9, 80, .agg #[.string ⟨#[]⟩, .int .i64 0, .int .i64 0, .int .i64 0, .int .u8 0, .int .u64 0, .int .u64 0, .int .u64 0, .int .u64 0]⟩)))) (.node 50 (.node 48 (.node 47 (.leaf 47 ⟨.other, 1, 8, .nilFunc⟩) (.leaf 48 ⟨.other, 1, 8, .nilFunc⟩)) (.node 49 (.leaf 49 ⟨.ptr, 1, 8, .pointer none⟩) (.leaf 50 ⟨.ptr, 1, 8, .pointer none⟩))) (.node 52 (.node 51 (.leaf 51 ⟨.ptr, 1, 8, .pointer none⟩) (.leaf 52 ⟨.struct [(0, 1), (1, 1)], 2, 24, .agg #[.string ⟨#[]⟩, .int .i64 0]⟩)) (.node 53 (.leaf 53 ⟨.struct [(0, 1), (1, 1)], 2, 24, .agg #[.string ⟨#[]⟩, .int .i64 0]⟩) (.leaf 54 ⟨.struct [(0, 2), (2, 1), (3, 1), (4, 1)], 5, 40, .agg #[.string ⟨#[]⟩, .int .i64 0, .int .i64 0, .bool false, .bool false]⟩))))) (.node 63 (.node 59 (.node 56 (.node 55 (.leaf 55 ⟨.struct [(0, 2), (2, 1), (3, 1), (4, 1)], 5, 40, .agg #[.string ⟨#[]⟩, .int .i64 0, .int .i64 0, .bool false, .bool false]⟩) (.leaf 56 ⟨.other, 1, 8, .nilFunc⟩)) (.node 58 (.leaf 58 ⟨.other, 1, 8, .nilFunc⟩) (.leaf 59 ⟨.other, 1, 8, .nilFunc⟩))) (.node 61 (.node 60 (.leaf 60 ⟨.struct [(0, 9), (9, 1), (10, 1), (11, 1), (12, 1)], 13, 96, .agg #[.string ⟨#[]⟩, .int .i64 0, .int .i64 0, .int .i64 0, .int .u8 0, .int .u64 0, .int .u64 0, .int .u64 0, .int .u64 0, .int .i64 0, .bool false, .bool false, .bool false]⟩) (.leaf 61 ⟨.struct [(0, 9), (9, 1), (10, 1), (11, 1), (12, 1)], 13, 96, .agg #[.string ⟨#[]⟩, .int .i64 0, .int .i64 0, .int .i64 0, .int .u8 0, .int .u64 0, .int .u64 0, .int .u64 0, .int .u64 0, .int .i64 0, .bool false, .bool false, .bool false]⟩)) (.node 62 (.leaf 62 ⟨.other, 1, 8, .nilFunc⟩) (.leaf 63 ⟨.other, 1, 8, .nilFunc⟩)))) (.node 69 (.node 67 (.node 65 (.leaf 65 ⟨.other, 1, 8, .nilFunc⟩) (.leaf 67 ⟨.other, 1, 8, .nilFunc⟩)) (.node 68 (.leaf 68 ⟨.other, 1, 8, .nilFunc⟩) (.leaf 69 ⟨.other, 1, 8, .nilFunc⟩))) (.node 71 (.node 70 (.leaf 70 ⟨.other, 1, 8, .nilFunc⟩) (.leaf 71 ⟨.ptr, 1, 8, .pointer none⟩)) (.node 72 (.leaf 72 ⟨.slice 5, 1, 24, .slice none 0 0⟩) (.leaf 73 ⟨.struct [(0, 1), (1, 1)], 2, 32, .agg #[.pointer none, .slice none 0 0]⟩))))))) (.node 106 (.node 90 (.node 82 (.node 78 (.node 75 (.node 74 (.leaf 74 ⟨.struct [(0, 1), (1, 1)], 2, 32, .agg #[.pointer none, .slice none 0 0]⟩) (.leaf 75 ⟨.other, 1, 16, .nilIface⟩)) (.node 76 (.leaf 76 ⟨.other, 1, 16, .nilIface⟩) (.leaf 78 ⟨.other, 1, 8, .nilFunc⟩))) (.node 80 (.node 79 (.leaf 79 ⟨.other, 1, 8, .nilFunc⟩) (.leaf 80 ⟨.other, 1, 8, .nilFunc⟩)) (.node 81 (.leaf 81 ⟨.other, 1, 8, .nilFunc⟩) (.leaf 82 ⟨.other, 1, 8, .nilFunc⟩)))) (.node 86 (.node 84 (.node 83 (.leaf 83 ⟨.other, 1, 8, .nilFunc⟩) (.leaf 84 ⟨.other, 1, 8, .nilFunc⟩)) (.node 85 (.leaf 85 ⟨.other, 1, 8, .nilFunc⟩) (.leaf 86 ⟨.other, 1, 8, .nilFunc⟩))) (.node 88 (.node 87 (.leaf 87 ⟨.other, 1, 8, .nilFunc⟩) (.leaf 88 ⟨.other, 1, 8, .nilFunc⟩)) (.node 89 (.leaf 89 ⟨.struct [(0, 1), (1, 1)], 2, 16, .agg #[.int .i64 0, .int .i64 0]⟩) (.leaf 90 ⟨.struct [(0, 1), (1, 1)], 2, 16, .agg #[.int .i64 0, .int .i64 0]⟩))))) (.node 98 (.node 94 (.node 92 (.node 91 (.leaf 91 ⟨.other, 1, 8, .nilFunc⟩) (.leaf 92 ⟨.other, 1, 8, .nilFunc⟩)) (.node 93 (.leaf 93 ⟨.other, 1, 8, .map none⟩) (.leaf 94 ⟨.other, 1, 8, .nilFunc⟩))) (.node 96 (.node 95 (.leaf 95 ⟨.other, 1, 8, .map none⟩) (.leaf 96 ⟨.other, 1, 8, .nilFunc⟩)) (.node 97 (.leaf 97 ⟨.other, 1, 8, .nilFunc⟩) (.leaf 98 ⟨.other, 1, 8, .nilFunc⟩)))) (.node 102 (.node 100 (.node 99 (.leaf 99 ⟨.array 12 9, 12, 192, .agg #[.string ⟨#[]⟩, .string ⟨#[]⟩, .string ⟨#[]⟩, .string ⟨#[]⟩, .string ⟨#[]⟩, .string ⟨#[]⟩, .string ⟨#[]⟩, .string ⟨#[]⟩, .string ⟨#[]⟩, .string ⟨#[]⟩, .string ⟨#[]⟩, .string ⟨#[]⟩]⟩) (.leaf 100 ⟨.ptr, 1, 8, .pointer none⟩)) (.node 101 (.leaf 101 ⟨.slice 9, 1, 24, .slice none 0 0⟩) (.leaf 102 ⟨.other, 1, 8, .nilFunc⟩))) (.node 104 (.node 103 (.leaf 103 ⟨.other, 1, 8, .nilFunc⟩) (.leaf 104 ⟨.other, 1, 8, .nilFunc⟩)) (.node 105 (.leaf 105 ⟨.ptr, 1, 8, .pointer none⟩) (.leaf 106 ⟨.other, 1, 8, .nilFunc⟩)))))) (.node 126 (.node 117 (.node 112 (.node 109 (.node 107 (.leaf 107 ⟨.other, 1, 8, .nilFunc⟩) (.leaf 109 ⟨.other, 1, 8, .nilFunc⟩)) (.node 110 (.leaf 110 ⟨.other, 1, 8, .nilFunc⟩) (.leaf 112 ⟨.other, 1, 8, .nilFunc⟩))) (.node 115 (.node 114 (.leaf 114 ⟨.other, 1, 8, .nilFunc⟩) (.leaf 115 ⟨.other, 1, 8, .nilFunc⟩)) (.node 116 (.leaf 116 ⟨.array 24 5, 24, 24, .agg #[.int .u8 0, .int .u8 0, .int .u8 0, .int .u8 0, .int .u8 0, .int .u8 0, .int .u8 0, .int .u8 0, .int .u8 0, .int .u8 0, .int .u8 0, .int .u8 0, .int .u8 0, .int .u8 0, .int .u8 0, .int .u8 0, .int .u8 0, .int .u8 0, .int .u8 0, .int .u8 0, .int .u8 0, .int .u8 0, .int .u8 0, .int .u8 0]⟩) (.leaf 117 ⟨.other, 1, 8, .nilFunc⟩)))) (.node 122 (.node 120 (.node 118 (.leaf 118 ⟨.other, 1, 8, .nilFunc⟩) (.leaf 120 ⟨.other, 1, 8, .nilFunc⟩)) (.node 121 (.leaf 121 ⟨.other, 1, 8, .nilFunc⟩) (.leaf 122 ⟨.other, 1, 8, .nilFunc⟩))) (.node 124 (.node 123 (.leaf 123 ⟨.array 20 27, 20, 160, .agg #[.int .u64 0, .int .u64 0, .int .u64 0, .int .u64 0, .int .u64 0, .int .u64 0, .int .u64 0, .int .u64 0, .int .u64 0, .int .u64 0, .int .u64 0, .int .u64 0, .int .u64 0, .int .u64 0, .int .u64 0, .int .u64 0, .int .u64 0, .int .u64 0, .int .u64 0, .int .u64 0]⟩) (.leaf 124 ⟨.int .u32, 1, 4, .int .u32 0⟩)) (.node 125 (.leaf 125 ⟨.array 65 5, 65, 65, .agg #[.int .u8 0, .int .u8 0, .int .u8 0, .int .u8 0, .int .u8 0, .int .u8 0, .int .u8 0, .int .u8 0, .int .u8 0, .int .u8 0, .int .u8 0, .int .u8 0, .int .u8 0, .int .u8 0, .int .u8 0, .int .u8 0, .int .u8 0, .int .u8 0, .int .u8 0, .int .u8 0, .int .u8 0, .int .u8 0, .int .u8 0, .int .u8 0, .int .u8 0, .int .u8 0, .int .u8 0, .int .u8 0, .int .u8 0, .int .u8 0, .int .u8 0, .int .u8 0, .int .u8 0, .int .u8 0, .int .u8 0, .int .u8 0, .int .u8 0, .int .u8 0, .int .u8 0, .int .u8 0, .int .u8 0, .int .u8 0, .int .u8 0, .int .u8 0, .int .u8 0, .int .u8 0, .int .u8 0, .int .u8 0, .int .u8 0, .int .u8 0, .int .u8 0, .int .u8 0, .int .u8 0, .int .u8 0, .int .u8 0, .int .u8 0, .int .u8 0, .int .u8 0, .int .u8 0, .int .u8 0, .int .u8 0, .int .u8 0, .int .u8 0, .int .u8 0, .int .u8 0]⟩) (.leaf 126 ⟨.int .u64, 1, 8, .int .u64 0⟩))))) (.node 134 (.node 130 (.node 128 (.node 127 (.leaf 127 ⟨.other, 1, 8, .nilFunc⟩) (.leaf 128 ⟨.other, 1, 8, .nilFunc⟩)) (.node 129 (.leaf 129 ⟨.array 32 5, 32, 32, .agg #[.int .u8 0, .int .u8 0, .int .u8 0, .int .u8 0, .int .u8 0, .int .u8 0, .int .u8 0, .int .u8 0, .int .u8 0, .int .u8 0, .int .u8 0, .int .u8 0, .int .u8 0, .int .u8 0, .int .u8 0, .int .u8 0, .int .u8 0, .int .u8 0, .int .u8 0, .int .u8 0, .int .u8 0, .int .u8 0, .int .u8 0, .int .u8 0, .int .u8 0, .int .u8 0, .int .u8 0, .int .u8 0, .int .u8 0, .int .u8 0, .int .u8 0, .int .u8 0]⟩) (.leaf 130 ⟨.array 64 5, 64, 64, .agg #[.int .u8 0, .int .u8 0, .int .u8 0, .int .u8 0, .int .u8 0, .int .u8 0, .int .u8 0, .int .u8 0, .int .u8 0, .int .u8 0, .int .u8 0, .int .u8 0, .int .u8 0, .int .u8 0, .int .u8 0, .int .u8 0, .int .u8 0, .int .u8 0, .int .u8 0, .int .u8 0, .int .u8 0, .int .u8 0, .int .u8 0, .int .u8 0, .int .u8 0, .int .u8 0, .int .u8 0, .int .u8 0, .int .u8 0, .int .u8 0, .int .u8 0, .int .u8 0, .int .u8 0, .int .u8 0, .int .u8 0, .int .u8 0, .int .u8 0, .int .u8 0, .int .u8 0, .int .u8 0, .int .u8 0, .int .u8 0, .int .u8 0, .int .u8 0, .int .u8 0, .int .u8 0, .int .u8 0, .int .u8 0, .int .u8 0, .int .u8 0, .int .u8 0, .int .u8 0, .int .u8 0, .int .u8 0, .int .u8 0, .int .u8 0, .int .u8 0, .int .u8 0, .int .u8 0, .int .u8 0, .int .u8 0, .int .u8 0, .int .u8 0, .int .u8 0]⟩))) (.node 132 (.node 131 (.leaf 131 ⟨.struct [(0, 1), (1, 1), (2, 1), (3, 1)], 4, 40, .agg #[.pointer none, .pointer none, .pointer none, .string ⟨#[]⟩]⟩) (.leaf 132 ⟨.struct [(0, 1), (1, 1), (2, 1), (3, 1)], 4, 40, .agg #[.pointer none, .pointer none, .pointer none, .string ⟨#[]⟩]⟩)) (.node 133 (.leaf 133 ⟨.array 0 16, 0, 0, .agg #[]⟩) (.leaf 134 ⟨.struct [(0, 0)], 0, 0, .agg #[]⟩)))) (.node 138 (.node 136 (.node 135 (.leaf 135 ⟨.struct [(0, 0)], 0, 0, .agg #[]⟩) (.leaf 136 ⟨.int .u8, 1, 1, .int .u8 0⟩)) (.node 137 (.leaf 137 ⟨.int .u8, 1, 1, .int .u8 0⟩) (.leaf 138 ⟨.other, 1, 8, .nilFunc⟩))) (.node 140 (.node 139 (.leaf 139 ⟨.int .i32, 1, 4, .int .i32 0⟩) (.leaf 140 ⟨.int .i32, 1, 4, .int .i32 0⟩)) (.node 141 (.leaf 141 ⟨.struct [(0, 1), (1, 1), (2, 1), (3, 1), (4, 1), (5, 1), (6, 1), (7, 1), (8, 1), (9, 1), (10, 1)], 11, 48, .agg #[.int .u64 0, .int .u64 0, .int .u32 0, .int .u8 0, .int .u8 0, .int .u8 0, .int .u8 0, .nilFunc, .pointer none, .int .i32 0, .int .i32 0]⟩) (.leaf 142 ⟨.struct [(0, 1), (1, 1), (2, 1), (3, 1), (4, 1), (5, 1), (6, 1), (7, 1), (8, 1), (9, 1), (10, 1)], 11, 48, .agg #[.int .u64 0, .int .u64 0, .int .u32 0, .int .u8 0, .int .u8 0, .int .u8 0, .int .u8 0, .nilFunc, .pointer none, .int .i32 0, .int .i32 0]⟩))))))))
theorem tysOk : tys.All Tryd.prog := ⟨⟨⟨⟨⟨⟨⟨te1, te2⟩, ⟨te3, te4⟩⟩, ⟨⟨te5, te6⟩, ⟨te7, te8⟩⟩⟩, ⟨⟨⟨te9, te10⟩, ⟨te11, te12⟩⟩, ⟨⟨te13, te14⟩, ⟨te15, te16⟩⟩⟩⟩, ⟨⟨⟨⟨te17, te18⟩, ⟨te19, te20⟩⟩, ⟨⟨te21, te22⟩, ⟨te23, te24⟩⟩⟩, ⟨⟨⟨te26, te27⟩, ⟨te28, te30⟩⟩, ⟨⟨te31, te32⟩, ⟨te34, te36⟩⟩⟩⟩⟩, ⟨⟨⟨⟨⟨te38, te40⟩, ⟨te41, te42⟩⟩, ⟨⟨te43, te44⟩, ⟨te45, te46⟩⟩⟩, ⟨⟨⟨te47, te48⟩, ⟨te49, te50⟩⟩, ⟨⟨te51, te52⟩, ⟨te53, te54⟩⟩⟩⟩, ⟨⟨⟨⟨te55, te56⟩, ⟨te58, te59⟩⟩, ⟨⟨te60, te61⟩, ⟨te62, te63⟩⟩⟩, ⟨⟨⟨te65, te67⟩, ⟨te68, te69⟩⟩, ⟨⟨te70, te71⟩, ⟨te72, te73⟩⟩⟩⟩⟩⟩, ⟨⟨⟨⟨⟨⟨te74, te75⟩, ⟨te76, te78⟩⟩, ⟨⟨te79, te80⟩, ⟨te81, te82⟩⟩⟩, ⟨⟨⟨te83, te84⟩, ⟨te85, te86⟩⟩, ⟨⟨te87, te88⟩, ⟨te89, te90⟩⟩⟩⟩, ⟨⟨⟨⟨te91, te92⟩, ⟨te93, te94⟩⟩, ⟨⟨te95, te96⟩, ⟨te97, te98⟩⟩⟩, ⟨⟨⟨te99, te100⟩, ⟨te101, te102⟩⟩, ⟨⟨te103, te104⟩, ⟨te105, te106⟩⟩⟩⟩⟩, ⟨⟨⟨⟨⟨te107, te109⟩, ⟨te110, te112⟩⟩, ⟨⟨te114, te115⟩, ⟨te116, te117⟩⟩⟩, ⟨⟨⟨te118, te120⟩, ⟨te121, te122⟩⟩, ⟨⟨te123, te124⟩, ⟨te125, te126⟩⟩⟩⟩, ⟨⟨⟨⟨te127, te128⟩, ⟨te129, te130⟩⟩, ⟨⟨te131, te132⟩, ⟨te133, te134⟩⟩⟩, ⟨⟨⟨te135, te136⟩, ⟨te137, te138⟩⟩, ⟨⟨te139, te140⟩, ⟨te141, te142⟩⟩⟩⟩⟩⟩⟩
noncomputable def C : Ctx := ⟨Tryd.prog, [], tys.get, fun _ _ h => Tr.get_ok tysOk h⟩
theorem mixC : C.P.follows .mixedOrders = true := by kernel_rfl
abbrev Zak : FuncId := 9
theorem Zaj : C.P.funcs[9]? = some Tryd.f9 := Tryd.func9
theorem Zam : Enters C.P 9 := Enters.mk Zaj (by kernel_rfl) (by kernel_rfl)
theorem Zan : Tryd.f9.ntmps = 143 := Tryd.ntmps9
theorem Zao : Tryd.f9.results = #[ResultVar.tmp 4] := Tryd.results9
abbrev Zff : FuncId := 11
theorem Zdj : C.P.funcs[11]? = some Tryd.f11 := Tryd.func11
theorem Ze4 : Enters C.P 11 := Enters.mk Zdj (by kernel_rfl) (by kernel_rfl)
theorem Ze5 : Tryd.f11.ntmps = 161 := Tryd.ntmps11
theorem Ze6 : Tryd.f11.results = #[ResultVar.tmp 0] := Tryd.results11
abbrev ZaX : FuncId := 12
theorem Zb1 : C.P.funcs[12]? = some Tryd.f12 := Tryd.func12
theorem ZdD : Enters C.P 12 := Enters.mk Zb1 (by kernel_rfl) (by kernel_rfl)
theorem ZdE : Tryd.f12.ntmps = 47 := Tryd.ntmps12
theorem ZdF : Tryd.f12.results = #[ResultVar.tmp 2, ResultVar.cell 3 24, ResultVar.cell 4 3] := Tryd.results12
abbrev ZbJ : FuncId := 14
theorem Zby : C.P.funcs[14]? = some Tryd.f14 := Tryd.func14
theorem Zc3 : Enters C.P 14 := Enters.mk Zby (by kernel_rfl) (by kernel_rfl)
theorem Zc4 : Tryd.f14.ntmps = 82 := Tryd.ntmps14
theorem Zc5 : Tryd.f14.results = #[ResultVar.cell 2 28, ResultVar.tmp 3] := Tryd.results14
abbrev ZeW : FuncId := 16
theorem Zer : C.P.funcs[16]? = some Tryd.f16 := Tryd.func16
theorem Zfx : Enters C.P 16 := Enters.mk Zer (by kernel_rfl) (by kernel_rfl)
theorem Zfy : Tryd.f16.ntmps = 26 := Tryd.ntmps16
theorem Zfz : Tryd.f16.results = #[ResultVar.tmp 4] := Tryd.results16
abbrev Zd4 : FuncId := 17
theorem Zb2 : C.P.funcs[17]? = some Tryd.f17 := Tryd.func17
theorem ZdG : Enters C.P 17 := Enters.mk Zb2 (by kernel_rfl) (by kernel_rfl)
theorem ZdH : Tryd.f17.ntmps = 56 := Tryd.ntmps17
theorem ZdI : Tryd.f17.results = #[ResultVar.tmp 2, ResultVar.tmp 3] := Tryd.results17
abbrev Zcv : FuncId := 19
theorem Zb3 : C.P.funcs[19]? = some Tryd.f19 := Tryd.func19
theorem ZdJ : Enters C.P 19 := Enters.mk Zb3 (by kernel_rfl) (by kernel_rfl)
theorem ZdK : Tryd.f19.ntmps = 47 := Tryd.ntmps19
theorem ZdL : Tryd.f19.results = #[ResultVar.tmp 2, ResultVar.tmp 3] := Tryd.results19
abbrev ZcM : FuncId := 21
theorem Zcw : C.P.funcs[21]? = some Tryd.f21 := Tryd.func21
theorem Zd5 : Enters C.P 21 := Enters.mk Zcw (by kernel_rfl) (by kernel_rfl)
theorem Zd6 : Tryd.f21.ntmps = 22 := Tryd.ntmps21
theorem Zd7 : Tryd.f21.results = #[ResultVar.tmp 2, ResultVar.tmp 3] := Tryd.results21
abbrev ZbK : FuncId := 23
theorem Zbz : C.P.funcs[23]? = some Tryd.f23 := Tryd.func23
theorem Zc6 : Enters C.P 23 := Enters.mk Zbz (by kernel_rfl) (by kernel_rfl)
theorem Zc7 : Tryd.f23.ntmps = 16 := Tryd.ntmps23
theorem Zc8 : Tryd.f23.results = #[ResultVar.tmp 2, ResultVar.tmp 3] := Tryd.results23
abbrev ZbL : FuncId := 25
theorem ZbA : C.P.funcs[25]? = some Tryd.f25 := Tryd.func25
theorem Zc9 : Enters C.P 25 := Enters.mk ZbA (by kernel_rfl) (by kernel_rfl)
theorem Zda : Tryd.f25.ntmps = 79 := Tryd.ntmps25
theorem Zdb : Tryd.f25.results = #[ResultVar.tmp 2, ResultVar.tmp 3] := Tryd.results25
abbrev ZeO : FuncId := 27
theorem ZcN : C.P.funcs[27]? = some Tryd.f27 := Tryd.func27
theorem Zes : Enters C.P 27 := Enters.mk ZcN (by kernel_rfl) (by kernel_rfl)
theorem Zet : Tryd.f27.ntmps = 14 := Tryd.ntmps27
theorem Zeu : Tryd.f27.results = #[ResultVar.tmp 4] := Tryd.results27
abbrev ZdM : FuncId := 29
theorem ZbM : C.P.funcs[29]? = some Tryd.f29 := Tryd.func29
theorem Zdk : Enters C.P 29 := Enters.mk ZbM (by kernel_rfl) (by kernel_rfl)
theorem Zdl : Tryd.f29.ntmps = 14 := Tryd.ntmps29
theorem Zdm : Tryd.f29.results = #[ResultVar.tmp 2] := Tryd.results29
abbrev Zbi : FuncId := 30
theorem Za9 : C.P.funcs[30]? = some Tryd.f30 := Tryd.func30
theorem ZbN : Enters C.P 30 := Enters.mk Za9 (by kernel_rfl) (by kernel_rfl)
theorem ZbO : Tryd.f30.ntmps = 21 := Tryd.ntmps30
theorem ZbP : Tryd.f30.results = #[] := Tryd.results30
abbrev Zcp : FuncId := 31
theorem ZaZ : C.P.funcs[31]? = some Tryd.f31 := Tryd.func31
theorem Zb4 : Enters C.P 31 := Enters.mk ZaZ (by kernel_rfl) (by kernel_rfl)
theorem Zb5 : Tryd.f31.ntmps = 64 := Tryd.ntmps31
theorem Zb6 : Tryd.f31.results = #[ResultVar.cell 2 46] := Tryd.results31
abbrev Zev : FuncId := 32
theorem Zcx : C.P.funcs[32]? = some Tryd.f32 := Tryd.func32
theorem Zd8 : Enters C.P 32 := Enters.mk Zcx (by kernel_rfl) (by kernel_rfl)
theorem Zd9 : Tryd.f32.ntmps = 31 := Tryd.ntmps32
theorem Zea : Tryd.f32.results = #[ResultVar.tmp 2, ResultVar.tmp 3] := Tryd.results32
abbrev ZeP : FuncId := 33
theorem ZcO : C.P.funcs[33]? = some Tryd.f33 := Tryd.func33
theorem Zew : Enters C.P 33 := Enters.mk ZcO (by kernel_rfl) (by kernel_rfl)
theorem Zex : Tryd.f33.ntmps = 5 := Tryd.ntmps33
theorem Zey : Tryd.f33.results = #[] := Tryd.results33
abbrev Zdc : FuncId := 37
theorem Zbp : C.P.funcs[37]? = some Tryd.f37 := Tryd.func37
theorem ZcT : Enters C.P 37 := Enters.mk Zbp (by kernel_rfl) (by kernel_rfl)
theorem ZcU : Tryd.f37.ntmps = 11 := Tryd.ntmps37
theorem ZcV : Tryd.f37.results = #[ResultVar.tmp 4, ResultVar.tmp 5] := Tryd.results37
abbrev Zdd : FuncId := 38
theorem Zbq : C.P.funcs[38]? = some Tryd.f38 := Tryd.func38
theorem ZcW : Enters C.P 38 := Enters.mk Zbq (by kernel_rfl) (by kernel_rfl)
theorem ZcX : Tryd.f38.ntmps = 8 := Tryd.ntmps38
theorem ZcY : Tryd.f38.results = #[ResultVar.tmp 4] := Tryd.results38
abbrev Zez : FuncId := 39
theorem Zcy : C.P.funcs[39]? = some Tryd.f39 := Tryd.func39
theorem Zeb : Enters C.P 39 := Enters.mk Zcy (by kernel_rfl) (by kernel_rfl)
theorem Zec : Tryd.f39.ntmps = 15 := Tryd.ntmps39
theorem Zed : Tryd.f39.results = #[ResultVar.cell 4 28] := Tryd.results39
abbrev ZdN : FuncId := 40
theorem ZbQ : C.P.funcs[40]? = some Tryd.f40 := Tryd.func40
theorem Zdn : Enters C.P 40 := Enters.mk ZbQ (by kernel_rfl) (by kernel_rfl)
theorem Zdo : Tryd.f40.ntmps = 19 := Tryd.ntmps40
theorem Zdp : Tryd.f40.results = #[ResultVar.cell 2 28] := Tryd.results40
abbrev Zee : FuncId := 43
theorem Zb7 : C.P.funcs[43]? = some Tryd.f43 := Tryd.func43
theorem ZdO : Enters C.P 43 := Enters.mk Zb7 (by kernel_rfl) (by kernel_rfl)
theorem ZdP : Tryd.f43.ntmps = 92 := Tryd.ntmps43
theorem ZdQ : Tryd.f43.results = #[ResultVar.tmp 2] := Tryd.results43
abbrev Zdq : FuncId := 45
theorem ZbB : C.P.funcs[45]? = some Tryd.f45 := Tryd.func45
theorem Zde : Enters C.P 45 := Enters.mk ZbB (by kernel_rfl) (by kernel_rfl)
theorem Zdf : Tryd.f45.ntmps = 22 := Tryd.ntmps45
theorem Zdg : Tryd.f45.results = #[ResultVar.tmp 2] := Tryd.results45
abbrev Zap : FuncId := 46
theorem Zal : C.P.funcs[46]? = some Tryd.f46 := Tryd.func46
theorem ZaB : Enters C.P 46 := Enters.mk Zal (by kernel_rfl) (by kernel_rfl)
theorem ZaC : Tryd.f46.ntmps = 19 := Tryd.ntmps46
theorem ZaD : Tryd.f46.results = #[ResultVar.tmp 4, ResultVar.tmp 5] := Tryd.results46
abbrev Zat : FuncId := 47
theorem Zar : C.P.funcs[47]? = some Tryd.f47 := Tryd.func47
theorem ZaH : Enters C.P 47 := Enters.mk Zar (by kernel_rfl) (by kernel_rfl)
theorem ZaI : Tryd.f47.ntmps = 17 := Tryd.ntmps47
theorem ZaJ : Tryd.f47.results = #[ResultVar.tmp 4] := Tryd.results47
abbrev ZcP : FuncId := 48
theorem Zba : C.P.funcs[48]? = some Tryd.f48 := Tryd.func48
theorem ZcD : Enters C.P 48 := Enters.mk Zba (by kernel_rfl) (by kernel_rfl)
theorem ZcE : Tryd.f48.ntmps = 56 := Tryd.ntmps48
theorem ZcF : Tryd.f48.results = #[ResultVar.tmp 4] := Tryd.results48
abbrev ZaN : FuncId := 49
theorem ZaG : C.P.funcs[49]? = some Tryd.f49 := Tryd.func49
theorem Zbb : Enters C.P 49 := Enters.mk ZaG (by kernel_rfl) (by kernel_rfl)
theorem Zbc : Tryd.f49.ntmps = 8 := Tryd.ntmps49
theorem Zbd : Tryd.f49.results = #[ResultVar.tmp 2] := Tryd.results49
abbrev Zaz : FuncId := 50
theorem Zax : C.P.funcs[50]? = some Tryd.f50 := Tryd.func50
theorem ZaS : Enters C.P 50 := Enters.mk Zax (by kernel_rfl) (by kernel_rfl)
theorem ZaT : Tryd.f50.ntmps = 14 := Tryd.ntmps50
theorem ZaU : Tryd.f50.results = #[ResultVar.tmp 2] := Tryd.results50
abbrev ZeA : FuncId := 53
theorem Zcz : C.P.funcs[53]? = some Tryd.f53 := Tryd.func53
theorem Zef : Enters C.P 53 := Enters.mk Zcz (by kernel_rfl) (by kernel_rfl)
theorem Zeg : Tryd.f53.ntmps = 16 := Tryd.ntmps53
theorem Zeh : Tryd.f53.results = #[ResultVar.tmp 2] := Tryd.results53
abbrev ZeB : FuncId := 54
theorem ZcA : C.P.funcs[54]? = some Tryd.f54 := Tryd.func54
theorem Zei : Enters C.P 54 := Enters.mk ZcA (by kernel_rfl) (by kernel_rfl)
theorem Zej : Tryd.f54.ntmps = 6 := Tryd.ntmps54
theorem Zek : Tryd.f54.results = #[ResultVar.tmp 2] := Tryd.results54
abbrev ZaE : FuncId := 55
theorem ZaA : C.P.funcs[55]? = some Tryd.f55 := Tryd.func55
theorem Za0 : Enters C.P 55 := Enters.mk ZaA (by kernel_rfl) (by kernel_rfl)
theorem Za1 : Tryd.f55.ntmps = 19 := Tryd.ntmps55
theorem Za2 : Tryd.f55.results = #[ResultVar.tmp 4, ResultVar.tmp 5] := Tryd.results55
abbrev ZcB : FuncId := 58
theorem Zb8 : C.P.funcs[58]? = some Tryd.f58 := Tryd.func58
theorem ZdR : Enters C.P 58 := Enters.mk Zb8 (by kernel_rfl) (by kernel_rfl)
theorem ZdS : Tryd.f58.ntmps = 13 := Tryd.ntmps58
theorem ZdT : Tryd.f58.results = #[ResultVar.tmp 2] := Tryd.results58
abbrev ZcQ : FuncId := 59
theorem Zbe : C.P.funcs[59]? = some Tryd.f59 := Tryd.func59
theorem ZcG : Enters C.P 59 := Enters.mk Zbe (by kernel_rfl) (by kernel_rfl)
theorem ZcH : Tryd.f59.ntmps = 59 := Tryd.ntmps59
theorem ZcI : Tryd.f59.results = #[ResultVar.tmp 4] := Tryd.results59
abbrev ZaY : FuncId := 60
theorem ZaQ : C.P.funcs[60]? = some Tryd.f60 := Tryd.func60
theorem Zbr : Enters C.P 60 := Enters.mk ZaQ (by kernel_rfl) (by kernel_rfl)
theorem Zbs : Tryd.f60.ntmps = 28 := Tryd.ntmps60
theorem Zbt : Tryd.f60.results = #[ResultVar.tmp 4] := Tryd.results60
abbrev Zbv : FuncId := 61
theorem ZaF : C.P.funcs[61]? = some Tryd.f61 := Tryd.func61
theorem Zbm : Enters C.P 61 := Enters.mk ZaF (by kernel_rfl) (by kernel_rfl)
theorem Zbn : Tryd.f61.ntmps = 142 := Tryd.ntmps61
theorem Zbo : Tryd.f61.results = #[ResultVar.cell 2 46] := Tryd.results61
abbrev ZcC : FuncId := 62
theorem Zb9 : C.P.funcs[62]? = some Tryd.f62 := Tryd.func62
theorem ZdU : Enters C.P 62 := Enters.mk Zb9 (by kernel_rfl) (by kernel_rfl)
theorem ZdV : Tryd.f62.ntmps = 14 := Tryd.ntmps62
theorem ZdW : Tryd.f62.results = #[ResultVar.tmp 2] := Tryd.results62
abbrev Zcq : FuncId := 66
theorem Za3 : C.P.funcs[66]? = some Tryd.f66 := Tryd.func66
theorem Zca : Enters C.P 66 := Enters.mk Za3 (by kernel_rfl) (by kernel_rfl)
theorem Zcb : Tryd.f66.ntmps = 15 := Tryd.ntmps66
theorem Zcc : Tryd.f66.results = #[ResultVar.tmp 4, ResultVar.tmp 5] := Tryd.results66
abbrev Zcr : FuncId := 67
theorem Zcd : C.P.funcs[67]? = some Tryd.f67 := Tryd.func67
theorem Zce : Enters C.P 67 := Enters.mk Zcd (by kernel_rfl) (by kernel_rfl)
abbrev ZdX : FuncId := 68
theorem ZbR : C.P.funcs[68]? = some Tryd.f68 := Tryd.func68
theorem Zdr : Enters C.P 68 := Enters.mk ZbR (by kernel_rfl) (by kernel_rfl)
theorem Zds : Tryd.f68.ntmps = 17 := Tryd.ntmps68
theorem Zdt : Tryd.f68.results = #[ResultVar.tmp 2] := Tryd.results68
abbrev ZeQ : FuncId := 69
theorem ZcR : C.P.funcs[69]? = some Tryd.f69 := Tryd.func69
theorem ZeC : Enters C.P 69 := Enters.mk ZcR (by kernel_rfl) (by kernel_rfl)
theorem ZeD : Tryd.f69.ntmps = 45 := Tryd.ntmps69
theorem ZeE : Tryd.f69.results = #[ResultVar.tmp 4] := Tryd.results69
abbrev Zau : FuncId := 73
theorem Zas : C.P.funcs[73]? = some Tryd.f73 := Tryd.func73
theorem ZaK : Enters C.P 73 := Enters.mk Zas (by kernel_rfl) (by kernel_rfl)
theorem ZaL : Tryd.f73.ntmps = 20 := Tryd.ntmps73
theorem ZaM : Tryd.f73.results = #[] := Tryd.results73
abbrev ZbV : FuncId := 74
theorem ZeF : C.P.funcs[74]? = some Tryd.f74 := Tryd.func74
theorem ZeG : Enters C.P 74 := Enters.mk ZeF (by kernel_rfl) (by kernel_rfl)
abbrev Zbj : FuncId := 77
theorem ZbS : C.P.funcs[77]? = some Tryd.f77 := Tryd.func77
theorem Zdu : Enters C.P 77 := Enters.mk ZbS (by kernel_rfl) (by kernel_rfl)
theorem Zdv : Tryd.f77.ntmps = 24 := Tryd.ntmps77
theorem Zdw : Tryd.f77.results = #[ResultVar.tmp 3] := Tryd.results77
abbrev Zcf : FuncId := 78
theorem ZbT : C.P.funcs[78]? = some Tryd.f78 := Tryd.func78
theorem Zdx : Enters C.P 78 := Enters.mk ZbT (by kernel_rfl) (by kernel_rfl)
theorem Zdy : Tryd.f78.ntmps = 27 := Tryd.ntmps78
theorem Zdz : Tryd.f78.results = #[] := Tryd.results78
abbrev ZbF : FuncId := 80
theorem ZaO : C.P.funcs[80]? = some Tryd.f80 := Tryd.func80
theorem ZbC : Enters C.P 80 := Enters.mk ZaO (by kernel_rfl) (by kernel_rfl)
theorem ZbD : Tryd.f80.ntmps = 53 := Tryd.ntmps80
theorem ZbE : Tryd.f80.results = #[ResultVar.tmp 2, ResultVar.tmp 3] := Tryd.results80
abbrev Zcs : FuncId := 81
theorem Za4 : C.P.funcs[81]? = some Tryd.f81 := Tryd.func81
theorem Zcg : Enters C.P 81 := Enters.mk Za4 (by kernel_rfl) (by kernel_rfl)
theorem Zch : Tryd.f81.ntmps = 77 := Tryd.ntmps81
theorem Zci : Tryd.f81.results = #[ResultVar.tmp 2] := Tryd.results81
abbrev Zcj : FuncId := 82
theorem ZaV : C.P.funcs[82]? = some Tryd.f82 := Tryd.func82
theorem ZbW : Enters C.P 82 := Enters.mk ZaV (by kernel_rfl) (by kernel_rfl)
theorem ZbX : Tryd.f82.ntmps = 49 := Tryd.ntmps82
theorem ZbY : Tryd.f82.results = #[ResultVar.tmp 2] := Tryd.results82
abbrev ZcS : FuncId := 83
theorem Zbf : C.P.funcs[83]? = some Tryd.f83 := Tryd.func83
theorem ZcJ : Enters C.P 83 := Enters.mk Zbf (by kernel_rfl) (by kernel_rfl)
theorem ZcK : Tryd.f83.ntmps = 89 := Tryd.ntmps83
theorem ZcL : Tryd.f83.results = #[ResultVar.cell 4 28] := Tryd.results83
abbrev Zct : FuncId := 86
theorem Za5 : C.P.funcs[86]? = some Tryd.f86 := Tryd.func86
theorem Zck : Enters C.P 86 := Enters.mk Za5 (by kernel_rfl) (by kernel_rfl)
theorem Zcl : Tryd.f86.ntmps = 18 := Tryd.ntmps86
theorem Zcm : Tryd.f86.results = #[ResultVar.tmp 4] := Tryd.results86
abbrev Zdh : FuncId := 90
theorem Zbu : C.P.funcs[90]? = some Tryd.f90 := Tryd.func90
theorem ZcZ : Enters C.P 90 := Enters.mk Zbu (by kernel_rfl) (by kernel_rfl)
theorem Zc0 : Tryd.f90.ntmps = 8 := Tryd.ntmps90
theorem Zc1 : Tryd.f90.results = #[ResultVar.tmp 4] := Tryd.results90
end Go.V
set_option maxHeartbeats 4000000
set_option maxRecDepth 100000
namespace Go.V
open Go.RowKit Go.Proofs
def sby (s : ByteArray) : List Nat := s.data.toList.map (·.toNat)
theorem sby_len (s : ByteArray) : (sby s).length = s.size := by
  unfold sby; rw [List.length_map, Array.length_toList]; rfl
theorem sby_lt {s : ByteArray} (i : Nat) : (sby s).getD i 0 < 256 := by
  rw [List.getD_eq_getElem?_getD]
  unfold sby
  rw [List.getElem?_map]
  cases h : s.data.toList[i]? with
  | none => decide
  | some u => exact u.toNat_lt
theorem sby_get {s : ByteArray} {i : Nat} (h1 : ((i : Nat) : Int).toNat < s.size) : ((s[((i : Nat) : Int).toNat]'h1).toNat : Int) = (((sby s).getD i 0 : Nat) : Int) := by
  have h3 : i < s.data.size := by simpa using h1
  have h4 : s[((i : Nat) : Int).toNat]'h1 = s.data[i]'h3 := rfl
  rw [h4, List.getD_eq_getElem?_getD]
  unfold sby
  rw [List.getElem?_map, Array.getElem?_toList, Array.getElem?_eq_getElem h3]
  rfl
theorem sby_bytesOf {l : List Nat} (h : ∀ c ∈ l, c < 256) : sby (bytesOf l) = l := by
  unfold sby bytesOf
  simp only [List.map_map]
  conv => rhs; rw [← List.map_id l]
  apply List.map_congr_left
  intro c hc
  show (UInt8.ofNat c).toNat = c
  rw [UInt8.toNat_ofNat']
  have := h c hc
  omega
theorem drop_at {s : ByteArray} {p : Nat} (h : p < s.size) : (sby s).drop p = (sby s).getD p 0 :: (sby s).drop (p + 1) := by
  have hl := sby_len s
  rw [List.drop_eq_getElem_cons (by omega), List.getD_eq_getElem?_getD, List.getElem?_eq_getElem (by omega)]; rfl
theorem drop_end {s : ByteArray} {p : Nat} (h : s.size ≤ p) : (sby s).drop p = [] := List.drop_eq_nil_of_le (by rw [sby_len]; exact h)
theorem sby_cut {s : ByteArray} {i n : Nat} (h : i + n ≤ s.size) : sby (s.extract i (i + n)) = ((sby s).drop i).take n := by
  unfold sby
  rw [ByteArray.data_extract, Array.toList_extract]
  show List.map _ ((s.data.toList.drop i).take (i + n - i)) = _
  rw [show i + n - i = n by omega, List.map_take, List.map_drop]
theorem int_dec {n : Nat} {k : Int} {m : Nat} (h : k = (m : Int)) : decide ((n : Int) = k) = decide (n = m) := decide_eq_decide.2 (by omega)
theorem nts_length {k : IntKind} {xs : List Nat} : (nts k xs).length = xs.length := by simp [nts]
theorem bytesOf_size (l : List Nat) : (bytesOf l).size = l.length := by simp [bytesOf, ByteArray.size]
theorem bytesOf_append (l m : List Nat) : bytesOf (l ++ m) = bytesOf l ++ bytesOf m := by
  apply ByteArray.ext
  simp [bytesOf]
end Go.V
namespace Go.V
open Go.RowKit
def bw (S : Nat → Bool) (off : Nat) : Nat → Nat
  | 0 => 0
  | n + 1 => bw S off n + (if S (off + n) then 2 ^ n else 0)
theorem bw_lt (S : Nat → Bool) (off : Nat) : ∀ n, bw S off n < 2 ^ n
  | 0 => Nat.one_pos
  | n + 1 => by
    have := bw_lt S off n
    rw [bw, Nat.pow_succ]
    split <;> omega
theorem bw_bit (S : Nat → Bool) (off : Nat) : ∀ n j, (bw S off n).testBit j = (decide (j < n) && S (off + j))
  | 0, j => by rw [bw, Nat.zero_testBit]; simp
  | n + 1, j => by
    have h := bw_lt S off n
    have ih := bw_bit S off n
    rw [bw]
    rcases Nat.lt_trichotomy j n with g | rfl | g
    · rw [decide_eq_true (show j < n + 1 by omega), Bool.true_and]
      have e := ih j
      rw [decide_eq_true g, Bool.true_and] at e
      split
      · rw [Nat.add_comm, Nat.testBit_two_pow_add_gt g, e]
      rw [Nat.add_zero, e]
    · rw [decide_eq_true (show j < j + 1 by omega), Bool.true_and]
      have e := ih j
      rw [decide_eq_false (show ¬ j < j by omega), Bool.false_and] at e
      split
      · rename_i hs
        rw [Nat.add_comm, Nat.testBit_two_pow_add_eq, e, hs]; rfl
      rename_i hs
      rw [Nat.add_zero, e]
      cases hb : S (off + j)
      · rfl
      exact absurd hb hs
    rw [decide_eq_false (show ¬ j < n + 1 by omega), Bool.false_and]
    apply Nat.testBit_lt_two_pow
    have := Nat.pow_le_pow_right (n := 2) (by decide) (show n + 1 ≤ j by omega)
    rw [Nat.pow_succ] at this
    split <;> omega
def sw (S : Nat → Bool) (i : Nat) : Nat := bw S (64 * i) 64
theorem sw_lt (S : Nat → Bool) (i : Nat) : sw S i < 18446744073709551616 := bw_lt S (64 * i) 64
theorem sw_bit (S : Nat → Bool) (i : Nat) {j : Nat} (h : j < 64) : (sw S i).testBit j = S (64 * i + j) := by
  unfold sw; rw [bw_bit, decide_eq_true h, Bool.true_and]
theorem sw_ext {x : Nat} {S : Nat → Bool} {i : Nat} (hx : x < 18446744073709551616) (h : ∀ j, j < 64 → x.testBit j = S (64 * i + j)) : x = sw S i := by
  apply Nat.eq_of_testBit_eq
  intro j
  rcases Nat.lt_or_ge j 64 with g | g
  · rw [h j g, sw_bit S i g]
  have e : ∀ y : Nat, y < 18446744073709551616 → y.testBit j = false := fun y hy => Nat.testBit_lt_two_pow (Nat.lt_of_lt_of_le hy (by
    have := Nat.pow_le_pow_right (n := 2) (by decide) g
    exact Nat.le_trans (by decide) this))
  rw [e x hx, e _ (sw_lt S i)]
theorem sw_congr {S T : Nat → Bool} {i : Nat} (h : ∀ j, j < 64 → S (64 * i + j) = T (64 * i + j)) : sw S i = sw T i := sw_ext (sw_lt S i) fun j g => by rw [sw_bit S i g, h j g]
abbrev swL (S : Nat → Bool) : List D := [.int .u64 ((sw S 0 : Nat) : Int), .int .u64 ((sw S 1 : Nat) : Int), .int .u64 ((sw S 2 : Nat) : Int), .int .u64 ((sw S 3 : Nat) : Int)]
abbrev setD (S : Nat → Bool) : D := .agg (swL S)
theorem swL_get (S : Nat → Bool) : ∀ i, i < 4 → (swL S)[i]? = some (.int .u64 ((sw S i : Nat) : Int))
  | 0, _ | 1, _ | 2, _ | 3, _ => rfl
  | i + 4, h => by omega
theorem swL_drop (S : Nat → Bool) {i : Nat} (h : i < 4) : ((swL S).drop i)[0]? = some (.int .u64 ((sw S i : Nat) : Int)) := by
  rw [List.getElem?_drop, Nat.add_zero]; exact swL_get S i h
theorem swL_set {S T : Nat → Bool} {i x : Nat} (hi : i < 4) (hx : x < 18446744073709551616) (h : ∀ j, j < 64 → x.testBit j = T (64 * i + j)) (ho : ∀ c, c < 256 → c / 64 ≠ i → S c = T c) : (swL S).set i (.int .u64 (x : Int)) = swL T := by
  have e := sw_ext hx h
  subst e
  have o : ∀ k, k < 4 → k ≠ i → sw S k = sw T k := fun k hk hne => sw_congr fun j hj => ho _ (by omega) (by omega)
  match i, hi with
  | 0, _ => show [_, _, _, _] = [_, _, _, _]; rw [o 1 (by decide) (by decide), o 2 (by decide) (by decide), o 3 (by decide) (by decide)]
  | 1, _ => show [_, _, _, _] = [_, _, _, _]; rw [o 0 (by decide) (by decide), o 2 (by decide) (by decide), o 3 (by decide) (by decide)]
  | 2, _ => show [_, _, _, _] = [_, _, _, _]; rw [o 0 (by decide) (by decide), o 1 (by decide) (by decide), o 3 (by decide) (by decide)]
  | 3, _ => show [_, _, _, _] = [_, _, _, _]; rw [o 0 (by decide) (by decide), o 1 (by decide) (by decide), o 2 (by decide) (by decide)]
def swith (S : Nat → Bool) (c : Nat) : Nat → Bool := fun x => S x || decide (x = c)
def sother (S : Nat → Bool) : Nat → Bool := fun x => !S x && decide (x ≠ 0)
def swhite (c : Nat) : Bool := (decide (9 ≤ c) && decide (c ≤ 13)) || decide (c = 32)
def splain (c : Nat) : Bool := decide (c ≠ 0) && (decide (c ≠ 37) && !swhite c)
def ssize (S : Nat → Bool) (k : Nat) : Nat := ((List.range k).filter S).length
theorem ssize_succ (S : Nat → Bool) (k : Nat) : ssize S (k + 1) = ssize S k + (bif S k then 1 else 0) := by
  unfold ssize
  rw [List.range_succ, List.filter_append, List.length_append]
  cases h : S k <;> simp [h]
theorem ssize_le (S : Nat → Bool) (k : Nat) : ssize S k ≤ k := by
  have := List.length_filter_le S (List.range k)
  rw [List.length_range] at this
  exact this
end Go.V
set_option maxHeartbeats 4000000
set_option maxRecDepth 100000
set_option synthInstance.maxSize 100000
set_option synthInstance.maxHeartbeats 2000000
namespace Go.V
open Go.RowKit Go.Proofs
theorem wrap_u64N {x : Nat} (h : x < 18446744073709551616) : IntKind.u64.wrap (x : Int) = (x : Int) := IntWalk.u64_in _ (by omega)
theorem ofInt_u64 {x : Nat} (h : x < 18446744073709551616) : (BitVec.ofInt IntKind.u64.bits (x : Int)).toNat = x := by
  show (BitVec.ofInt 64 (x : Int)).toNat = x
  rw [BitVec.ofInt_natCast, BitVec.toNat_ofNat]
  exact Nat.mod_eq_of_lt h
theorem land_u64 {x y : Nat} (hx : x < 18446744073709551616) (hy : y < 18446744073709551616) : IntKind.u64.wrap (BitVec.ofInt IntKind.u64.bits (x : Int) &&& BitVec.ofInt IntKind.u64.bits (y : Int)).toNat = ((x &&& y : Nat) : Int) := by
  rw [BitVec.toNat_and, ofInt_u64 hx, ofInt_u64 hy]; exact wrap_u64N (Nat.and_lt_two_pow (n := 64) _ hy)
theorem lor_u64 {x y : Nat} (hx : x < 18446744073709551616) (hy : y < 18446744073709551616) : IntKind.u64.wrap (BitVec.ofInt IntKind.u64.bits (x : Int) ||| BitVec.ofInt IntKind.u64.bits (y : Int)).toNat = ((x ||| y : Nat) : Int) := by
  rw [BitVec.toNat_or, ofInt_u64 hx, ofInt_u64 hy]; exact wrap_u64N (Nat.or_lt_two_pow (n := 64) hx hy)
theorem compl_u64 {x : Nat} (h : x < 18446744073709551616) : IntKind.u64.wrap (BitVec.ofInt IntKind.u64.bits (if IntKind.u64.signed then -1 else IntKind.u64.max) ^^^ BitVec.ofInt IntKind.u64.bits (x : Int)).toNat = ((18446744073709551615 - x : Nat) : Int) := by
  have h1 : BitVec.ofInt IntKind.u64.bits (if IntKind.u64.signed then -1 else IntKind.u64.max) = BitVec.allOnes 64 := by show BitVec.ofInt 64 18446744073709551615 = _; decide
  rw [h1]
  show IntKind.u64.wrap (BitVec.allOnes 64 ^^^ BitVec.ofInt 64 (x : Int)).toNat = _
  rw [BitVec.xor_comm, BitVec.xor_allOnes, BitVec.toNat_not, show (BitVec.ofInt 64 (x : Int)).toNat = x from ofInt_u64 h]
  exact wrap_u64N (by omega)
theorem shr_has {S : Nat → Bool} {c : Nat} (hc : c < 256) : (decide (sw S (c / 64) / 2 ^ (c % 64) % 2 = 1)) = S c := by
  rw [← Nat.testBit_eq_decide_div_mod_eq, sw_bit S _ (by omega), show 64 * (c / 64) + c % 64 = c by omega]
theorem and_one (x : Nat) : x &&& 1 = x % 2 := Nat.and_one_is_mod x
theorem div_sw_lt (S : Nat → Bool) (i s : Nat) : sw S i / 2 ^ s < 18446744073709551616 := Nat.lt_of_le_of_lt (Nat.div_le_self _ _) (sw_lt S i)
theorem pow_lt64 {s : Nat} (h : s < 64) : 2 ^ s < 18446744073709551616 := by
  have := Nat.pow_lt_pow_right (a := 2) (by decide) h
  exact this
theorem shl_one {s : Nat} (h : s < 64) : IntKind.u64.wrap ((1 : Int) * 2 ^ min ((s : Int)).toNat IntKind.u64.bits) = ((2 ^ s : Nat) : Int) := by
  have := nshl_u64 (y := (s : Int)) (m := 1) (s := s) rfl (by omega) (by rw [Nat.one_mul]; exact pow_lt64 h)
  rw [Nat.one_mul] at this
  exact this
theorem with_bits {S : Nat → Bool} {c : Nat} (hc : c < 256) : ∀ j, j < 64 → (sw S (c / 64) ||| 2 ^ (c % 64)).testBit j = swith S c (64 * (c / 64) + j) := by
  intro j hj
  rw [Nat.testBit_or, sw_bit S _ hj, Nat.testBit_two_pow]
  unfold swith
  congr 1
  exact decide_eq_decide.2 (by omega)
theorem with_lt {S : Nat → Bool} {i s : Nat} (h : s < 64) : sw S i ||| 2 ^ s < 18446744073709551616 := Nat.or_lt_two_pow (n := 64) (sw_lt S i) (pow_lt64 h)
theorem with_other {S : Nat → Bool} {c : Nat} : ∀ x, x < 256 → x / 64 ≠ c / 64 → S x = swith S c x := by
  intro x _ h
  unfold swith
  rw [decide_eq_false (by omega), Bool.or_false]
theorem ZbU (S : Nat → Bool) (c : Nat) (hc : c < 256) : PC C ZeO [setD S, .int .u8 (c : Int)] (fun o => o = .ret (.bool (S c))) := by
  have h1 := div_sw_lt S (c / 64) (c % 64)
  refine PC.rn ZcN Zes Zet (rs := [.tmp 4]) (by rw [Zeu]) ?_
  refine ARun.seq (ARun.region ?_); refine zzb ?_; refine zza ?_; refine AOps.nil (ARun.seq (ARun.region ?_)); refine zzm ?_
  refine y_op rfl (q_quo rfl rfl (by omega) (show _ = ((c / 64 : Nat) : Int) by rw [IntKind.wrap_u8]; simp; omega)) ?_
  refine y_op rfl (Zb0 rfl rfl rfl rfl (by omega) (by omega) (drop_nat rfl)) ?_
  refine y_op rfl (q_load rfl rfl rfl (swL_drop S (by omega))) ?_
  refine zzm ?_
  refine y_op rfl (q_rem rfl rfl (by omega) (nrem (n := 64) rfl)) ?_
  refine y_op rfl (q_shr rfl rfl (by omega) (nshr (s := c % 64) rfl (by show c % 64 ≤ 64; omega))) ?_
  refine y_op rfl (q_andR rfl rfl (show _ = ((sw S (c / 64) / 2 ^ (c % 64) % 2 : Nat) : Int) by rw [← and_one]; exact land_u64 (y := 1) h1 (by decide))) ?_
  refine y_op rfl (OpQ.cast (q_int rfl rfl rfl) (congrArg D.bool ((int_dec (m := 1) rfl).trans (shr_has hc)))) ?_
  refine zza ?_; refine AOps.nil ?_
  refine ARun.ret ?_
  refine ⟨_, _, _, .tmp rfl .nil, .cons (.same _) .nil, rfl, ?_⟩
  rfl
theorem ZdA (S : Nat → Bool) (c : Nat) (hc : c < 256) : PC C Zez [setD S, .int .u8 (c : Int)] (fun o => o = .ret (setD (swith S c))) := by
  have h1 := sw_lt S (c / 64)
  refine PC.rn Zcy Zeb Zec (rs := [.cell 4 28]) (by rw [Zed]) ?_
  refine ARun.seq (ARun.region ?_)
  refine y_new rfl (n_box rfl rfl rfl) ?_
  refine y_new rfl (Zbk rfl rfl rfl rfl) ?_
  refine AOps.nil (ARun.seq (ARun.region ?_)); refine zzm ?_
  refine y_op rfl (q_quo rfl rfl (by omega) (show _ = ((c / 64 : Nat) : Int) by rw [IntKind.wrap_u8]; simp; omega)) ?_
  refine y_op rfl (Zbw (j := c / 64) rfl rfl rfl rfl (by omega) (by omega) (show 0 + ((c / 64 : Nat) : Int).toNat * 1 = c / 64 by rw [Int.toNat_natCast]; omega)) ?_
  refine y_op rfl (Zaa rfl rfl rfl rfl (swL_get S (c / 64) (by omega))) ?_
  refine zzm ?_
  refine y_op rfl (q_rem rfl rfl (by omega) (nrem (n := 64) rfl)) ?_
  refine y_op rfl (q_shl rfl rfl (by omega) (shl_one (by omega))) ?_
  refine y_op rfl (q_orR rfl rfl (lor_u64 h1 (pow_lt64 (by omega)))) ?_
  refine y_op rfl (Zbw (j := c / 64) rfl rfl rfl rfl (by omega) (by omega) (show 0 + ((c / 64 : Nat) : Int).toNat * 1 = c / 64 by rw [Int.toNat_natCast]; omega)) ?_
  refine y_new rfl (Zac (cs := swL (swith S c)) rfl rfl rfl rfl rfl rfl (show c / 64 < 4 by omega) (swL_set (by omega) (with_lt (by omega)) (with_bits hc) with_other)) ?_
  refine AOps.nil (ARun.seq (ARun.region ?_))
  refine y_op rfl (Zaf rfl rfl rfl rfl rfl rfl) ?_
  refine y_new rfl (Zaw rfl rfl rfl rfl rfl rfl rfl rfl (Nat.le_of_ble_eq_true rfl) rfl) ?_
  refine AOps.nil ?_
  refine ARun.ret ?_
  refine ⟨_, _, _, ResR.cellA rfl rfl rfl rfl rfl rfl .nil, .cons (.same _) .nil, rfl, ?_⟩
  rfl
end Go.V
set_option maxHeartbeats 4000000
set_option maxRecDepth 100000
set_option synthInstance.maxSize 100000
set_option synthInstance.maxHeartbeats 2000000
namespace Go.V
open Go.RowKit Go.Proofs
theorem u8_ge {n m : Nat} {k : Int} (h : k = (m : Int)) : decide ((n : Int) ≥ k) = decide (m ≤ n) := decide_eq_decide.2 (by omega)
theorem u8_le {n m : Nat} {k : Int} (h : k = (m : Int)) : decide ((n : Int) ≤ k) = decide (n ≤ m) := decide_eq_decide.2 (by omega)
theorem u8_ne {n m : Nat} {k : Int} (h : k = (m : Int)) : ((n : Int) != k) = decide (n ≠ m) := by
  rw [Bool.eq_iff_iff, bne_iff_ne, decide_eq_true_eq]; omega
theorem ZdY (c : Nat) : PC C ZcB [.int .u8 (c : Int)] (fun o => o = .ret (.bool (swhite c))) := by
  refine PC.rn Zb8 ZdR ZdS (rs := [.tmp 2]) (by rw [ZdT]) ?_
  refine ARun.seq (ARun.region ?_); refine zza ?_; refine AOps.nil (ARun.seq (ARun.region ?_)); refine zzm ?_
  refine y_op rfl (OpQ.cast (q_int rfl rfl rfl) (congrArg D.bool (u8_ge (m := 9) rfl))) ?_
  refine zzm ?_
  apply AOps.andJ 5 (fun sj1 => [(5, .any), (6, .any), (7, .any), (8, .bool sj1)]) rfl
  · intro hj1 run1
    try replace hj1 := of_decide_eq_true hj1
    refine zzm ?_
    refine y_op rfl (OpQ.cast (q_int rfl rfl rfl) (congrArg D.bool (u8_le (m := 13) rfl))) ?_
    refine zzp ?_
    exact AOps.ag run1
  · intro hj1 run1
    try replace hj1 := of_decide_eq_false hj1
    refine zzk ?_; refine zzk ?_; refine zzp ?_
    exact AOps.ag run1
  refine zzm ?_
  apply AOps.orJ 9 (fun sj2 => [(9, .any), (10, .any), (11, .any), (12, .bool sj2)]) rfl
  · intro hj2 run2
    try replace hj2 := of_decide_eq_true hj2
    refine zzk ?_; refine zzk ?_; refine zzp ?_
    exact AOps.ag run2
  · intro hj2 run2
    try replace hj2 := of_decide_eq_false hj2
    refine zzm ?_
    refine y_op rfl (OpQ.cast (q_int rfl rfl rfl) (congrArg D.bool (int_dec (m := 32) rfl))) ?_
    refine zzp ?_
    exact AOps.ag run2
  refine zza ?_; refine AOps.nil ?_
  refine ARun.ret ?_
  refine ⟨_, _, _, .tmp rfl .nil, .cons (.same _) .nil, rfl, ?_⟩
  rfl
theorem ZeX (c : Nat) : PC C ZcC [.int .u8 (c : Int)] (fun o => o = .ret (.bool (splain c))) := by
  unfold splain
  refine PC.rn Zb9 ZdU ZdV (rs := [.tmp 2]) (by rw [ZdW]) ?_
  refine ARun.seq (ARun.region ?_); refine zza ?_; refine AOps.nil (ARun.seq (ARun.region ?_)); refine zzm ?_
  refine y_op rfl (OpQ.cast (q_int rfl rfl rfl) (congrArg D.bool (u8_ne (m := 0) rfl))) ?_
  refine zzm ?_
  apply AOps.andJ 5 (fun sj1 => [(5, .any), (6, .any), (7, .any), (8, .bool sj1)]) rfl
  · intro hj1 run1
    try replace hj1 := of_decide_eq_true hj1
    refine zzm ?_
    refine y_op rfl (OpQ.cast (q_int rfl rfl rfl) (congrArg D.bool (u8_ne (m := 37) rfl))) ?_
    refine zzp ?_
    exact AOps.ag run1
  · intro hj1 run1
    try replace hj1 := of_decide_eq_false hj1
    refine zzk ?_; refine zzk ?_; refine zzp ?_
    exact AOps.ag run1
  refine zzm ?_
  apply AOps.andJ 9 (fun sj2 => [(9, .any), (10, .any), (11, .any), (12, .any), (13, .bool sj2)]) rfl
  · intro hj2 run2
    try replace hj2 := of_decide_eq_true hj2
    refine zzm ?_
    refine zzc rfl rfl (ZdY c) ?_
    refine zzn ?_; refine zzp ?_
    exact AOps.ag run2
  · intro hj2 run2
    try replace hj2 := of_decide_eq_false hj2
    refine zzk ?_; refine zzk ?_; refine zzk ?_; refine zzp ?_
    exact AOps.ag run2
  refine zza ?_; refine AOps.nil ?_
  refine ARun.ret ?_
  refine ⟨_, _, _, .tmp rfl .nil, .cons (.same _) .nil, rfl, ?_⟩
  rw [Bool.and_assoc]; rfl
theorem size_in {k : Nat} (h : k < 256) : IntKind.u8.wrap (k : Int) = (k : Int) := by rw [IntKind.wrap_u8]; omega
theorem Zf3 (S : Nat → Bool) : PC C ZeA [setD S] (fun o => o = .ret (.int .i64 ((ssize S 256 : Nat) : Int))) := by
  refine PC.rn Zcz Zef Zeg (rs := [.tmp 2]) (by rw [Zeh]) ?_
  refine ARun.seq (ARun.region ?_); refine zzb ?_; refine zza ?_; refine AOps.nil (ARun.seq (ARun.region ?_)); refine zza ?_; refine AOps.nil (ARun.seq (ARun.seq (ARun.region ?_))); refine zzm ?_; refine AOps.nil (ARun.block ?_)
  refine ARun.loopI (S := Nat) (fun k : Nat => [(4, .any), (6, .any), (7, .any), (8, .any), (9, .any), (10, .any), (11, .any), (12, .any), (13, .any), (14, .any), (3, .int .i64 ((ssize S k : Nat) : Int)), (5, .int .i64 (k : Int))]) (fun k : Nat => []) (fun k : Nat => k ≤ 256) (fun k : Nat => 256 - k) (0) ?_ ?_ ?_ ?_
  · exact Nat.zero_le _
  · (repeat' first | exact envLe_nil | apply envLe_any | apply envLe_same)
  · rfl
  rintro k hinv ih
  have hle := ssize_le S k
  have hs := ssize_succ S k
  refine ARun.seq (ARun.region ?_); refine zzi ?_; refine AOps.nil (ARun.seq ?_)
  refine ARun.ite rfl (fun g => ?_) (fun g => ?_)
  · skip
    have g : k < 256 := by omega
    refine ARun.skip (ARun.seq (ARun.block (ARun.seq (ARun.region ?_)))); refine zzm ?_; refine zza ?_; refine AOps.nil (ARun.seq (ARun.region ?_)); refine zzL ?_; refine zzm ?_
    refine y_op rfl (q_conv rfl rfl rfl (size_in g)) ?_
    refine zzc rfl rfl (ZbU S k g) ?_
    refine AOps.nil ?_
    refine ARun.cond rfl (fun h => ?_) (fun h => ?_)
    · skip
      rw [h, cond_true] at hs
      refine ARun.region ?_; refine zzm ?_
      refine y_op rfl (q_add rfl rfl (nadd1_i64 (by omega))) ?_
      refine zza ?_; refine AOps.nil (ARun.inBlock (ARun.region ?_))
      refine y_op rfl (q_add rfl rfl (nadd1_i64 (by omega))) ?_
      refine zzm ?_; refine AOps.nil ?_
      rw [← hs]
      refine ARun.again (ih (k + 1) ?_ ?_) ?_ ?_
      · exact g
      · omega
      · (repeat' first | exact envLe_nil | apply envLe_any | apply envLe_same)
      rfl
    replace hs : ssize S (k + 1) = ssize S k := by rw [hs, h]; rfl
    refine ARun.skip (ARun.inBlock (ARun.region ?_))
    refine y_op rfl (q_add rfl rfl (nadd1_i64 (by omega))) ?_
    refine zzm ?_; refine AOps.nil ?_
    rw [← hs]
    refine ARun.again (ih (k + 1) ?_ ?_) ?_ ?_
    · exact g
    · omega
    · (repeat' first | exact envLe_nil | apply envLe_any | apply envLe_same)
    rfl
  obtain rfl : k = 256 := by omega
  refine ARun.exit rfl ?_
  refine ARun.seq (ARun.region ?_); refine zzm ?_; refine zza ?_; refine AOps.nil ?_
  refine ARun.ret ?_
  refine ⟨_, _, _, .tmp rfl .nil, .cons (.same _) .nil, rfl, ?_⟩
  rfl
def mid (S : Nat → Bool) (i : Nat) : Nat → Bool := fun c => if c / 64 < i then !S c else S c
theorem mid_zero (S : Nat → Bool) : mid S 0 = S := by
  funext c; unfold mid; rw [if_neg (by omega)]
theorem mid_set (S : Nat → Bool) {i : Nat} (h : i < 4) : (swL (mid S i)).set i (.int .u64 ((18446744073709551615 - sw (mid S i) i : Nat) : Int)) = swL (mid S (i + 1)) := by
  have hlt := sw_lt (mid S i) i
  refine swL_set h (by omega) (fun j hj => ?_) (fun c _ hne => ?_)
  · have := Nat.testBit_two_pow_sub_succ (n := 64) hlt j
    rw [show 2 ^ 64 - (sw (mid S i) i + 1) = 18446744073709551615 - sw (mid S i) i by omega] at this
    rw [this, decide_eq_true hj, Bool.true_and, sw_bit _ _ hj]
    unfold mid
    rw [if_neg (by omega), if_pos (by omega)]
  unfold mid
  by_cases e : c / 64 < i
  · rw [if_pos e, if_pos (by omega)]
  rw [if_neg e, if_neg (by omega)]
theorem andn_u64 {x : Nat} (hx : x < 18446744073709551616) : IntKind.u64.wrap (BitVec.ofInt IntKind.u64.bits (x : Int) &&& ~~~ BitVec.ofInt IntKind.u64.bits 1).toNat = ((x &&& 18446744073709551614 : Nat) : Int) := by
  rw [BitVec.toNat_and, ofInt_u64 hx, show (~~~ BitVec.ofInt IntKind.u64.bits 1).toNat = 18446744073709551614 from by decide]
  exact wrap_u64N (Nat.and_lt_two_pow (n := 64) _ (by decide))
theorem mid_end (S : Nat → Bool) : (swL (mid S 4)).set 0 (.int .u64 ((sw (mid S 4) 0 &&& 18446744073709551614 : Nat) : Int)) = swL (sother S) := by
  refine swL_set (by decide) (Nat.and_lt_two_pow (n := 64) _ (by decide)) (fun j hj => ?_) (fun c hc hne => ?_)
  · have h := Nat.testBit_two_pow_sub_succ (n := 64) (x := 1) (by decide) j
    rw [show 2 ^ 64 - (1 + 1) = 18446744073709551614 by decide] at h
    have h1 : Nat.testBit 1 j = decide (j = 0) := by rw [Bool.eq_iff_iff, Nat.testBit_one_eq_true_iff_self_eq_zero, decide_eq_true_eq]
    rw [Nat.testBit_and, h, sw_bit _ _ hj, decide_eq_true hj, Bool.true_and, h1]
    unfold mid sother
    rw [if_pos (by omega), ← decide_not]
    congr 1
    exact decide_eq_decide.2 (by omega)
  unfold mid sother
  rw [if_pos (by omega), decide_eq_true (by omega), Bool.and_true]
theorem ZeH (S : Nat → Bool) : PC C ZdN [setD S] (fun o => o = .ret (setD (sother S))) := by
  refine PC.rn ZbQ Zdn Zdo (rs := [.cell 2 28]) (by rw [Zdp]) ?_
  refine ARun.seq (ARun.region ?_)
  refine y_new rfl (n_box rfl rfl rfl) ?_
  refine y_new rfl (Zbk rfl rfl rfl rfl) ?_
  refine AOps.nil (ARun.seq (ARun.seq (ARun.region ?_))); refine zzm ?_; refine AOps.nil (ARun.block ?_)
  refine ARun.loopI (S := Nat) (fun i : Nat => [(3, .any), (5, .any), (6, .any), (7, .any), (8, .any), (9, .any), (10, .any), (11, .any), (12, .any), (13, .any), (4, .int .i64 (i : Int))]) (fun i : Nat => [some ⟨swL (mid S i), Zai, 1, true, none⟩, some ⟨[.int .u64 0, .int .u64 0, .int .u64 0, .int .u64 0], Zai, 1, true, none⟩]) (fun i : Nat => i ≤ 4) (fun i : Nat => 4 - i) (0) ?_ ?_ ?_ ?_
  · exact Nat.zero_le _
  · (repeat' first | exact envLe_nil | apply envLe_any | apply envLe_same)
  · rw [mid_zero]
  rintro i hinv ih
  refine ARun.seq (ARun.region ?_); refine zzi ?_; refine AOps.nil (ARun.seq ?_)
  refine ARun.ite rfl (fun g => ?_) (fun g => ?_)
  · skip
    have g : i < 4 := by omega
    refine ARun.skip (ARun.seq (ARun.block (ARun.seq (ARun.region ?_)))); refine zzm ?_; refine zza ?_; refine AOps.nil (ARun.region ?_); refine zzm ?_; refine zzm ?_
    refine y_op rfl (Zbw (j := i) rfl rfl rfl rfl (by omega) (by omega) (show 0 + ((i : Nat) : Int).toNat * 1 = i by rw [Int.toNat_natCast]; omega)) ?_
    refine y_op rfl (Zaa rfl rfl rfl rfl (swL_get (mid S i) i g)) ?_
    refine y_op rfl (ZgF rfl (compl_u64 (sw_lt (mid S i) i))) ?_
    refine y_op rfl (Zbw (j := i) rfl rfl rfl rfl (by omega) (by omega) (show 0 + ((i : Nat) : Int).toNat * 1 = i by rw [Int.toNat_natCast]; omega)) ?_
    refine y_new rfl (Zac (cs := swL (mid S (i + 1))) rfl rfl rfl rfl rfl rfl (show i < 4 from g) (mid_set S g)) ?_
    refine AOps.nil (ARun.inBlock (ARun.region ?_))
    refine y_op rfl (q_add rfl rfl (nadd1_i64 (by omega))) ?_
    refine zzm ?_; refine AOps.nil ?_
    refine ARun.again (ih (i + 1) ?_ ?_) ?_ ?_
    · exact g
    · omega
    · (repeat' first | exact envLe_nil | apply envLe_any | apply envLe_same)
    rfl
  obtain rfl : i = 4 := by omega
  refine ARun.exit rfl ?_
  refine ARun.seq (ARun.region ?_)
  refine y_op rfl (Zbw rfl rfl rfl rfl (by omega) (by omega) rfl) ?_
  refine y_op rfl (Zaa rfl rfl rfl rfl (swL_get (mid S 4) 0 (by decide))) ?_
  refine y_op rfl (OpQ.cast (q_int rfl rfl rfl) (congrArg (D.int .u64) (andn_u64 (sw_lt (mid S 4) 0)))) ?_
  refine y_op rfl (Zbw rfl rfl rfl rfl (by omega) (by omega) rfl) ?_
  refine y_new rfl (Zac (cs := swL (sother S)) rfl rfl rfl rfl rfl rfl (show 0 < 4 by decide) (mid_end S)) ?_
  refine AOps.nil (ARun.seq (ARun.region ?_))
  refine y_op rfl (Zaf rfl rfl rfl rfl rfl rfl) ?_
  refine y_new rfl (Zaw rfl rfl rfl rfl rfl rfl rfl rfl (Nat.le_of_ble_eq_true rfl) rfl) ?_
  refine AOps.nil ?_
  refine ARun.ret ?_
  refine ⟨_, _, _, ResR.cellA rfl rfl rfl rfl rfl rfl .nil, .cons (.same _) .nil, rfl, ?_⟩
  rfl
end Go.V
/- strings.IndexByte: the library's contract, laid at this seat's numbers. -/
set_option maxRecDepth 100000
set_option maxHeartbeats 1000000
namespace Go.V
open Go.Shelf Go.RowKit Go.Proofs
def bRen217 : Ren := ⟨fun | 217 => 67 | 266 => 87 | n => n, fun | 3 => 3 | 5 => 5 | 9 => 9 | n => n, fun n => n⟩
theorem bLay217 : Lays.n217 Tryd.prog bRen217 := {
  mixed := by kernel_rfl
  f217 := Tryd.func67.trans (congrArg some (by kernel_rfl))
  f266 := Tryd.func87.trans (congrArg some (by kernel_rfl))
  t3 := Tryd.underlying3
  a3 := Tryd.isAgg3
  z3 := Tryd.sizeOf3
  v3 := Tryd.zeroValue3
  t5 := Tryd.underlying5
  a5 := Tryd.isAgg5
  z5 := Tryd.sizeOf5
  v5 := Tryd.zeroValue5
  t9 := Tryd.underlying9
  a9 := Tryd.isAgg9
  z9 := Tryd.sizeOf9
  v9 := Tryd.zeroValue9 }
theorem below_same (w : World) : Below w.heap.size w w := by
  refine ⟨?_, ?_, ?_, ?_, ?_⟩
  all_goals first | rfl | exact Nat.le_refl _ | (intros; rfl) | (intros; assumption)
theorem ZeI (s : ByteArray) (c : Int) : PC C Zcr [.str s, .int .u8 c] (fun o => o = .ret (.int .i64 (Lib.indexByte s.data.toList c.toNat.toUInt8))) := by
  refine PC.of_below (v := .int .i64 (Lib.indexByte s.data.toList c.toNat.toUInt8)) Zce (fun _ _ _ _ => by simp only [VR]) (fun w L μ H vs ha => ?_)
  simp only [VRs, VR] at ha
  obtain ⟨_, _, rfl, rfl, _, _, rfl, rfl, rfl⟩ := ha
  exact (Any.stringslite_IndexByte bLay217 s c w).mono fun e w' ⟨h1, h2⟩ => ⟨h1, by rw [h2]; exact below_same w⟩
end Go.V
set_option maxHeartbeats 4000000
set_option maxRecDepth 100000
set_option synthInstance.maxSize 100000
set_option synthInstance.maxHeartbeats 2000000
namespace Go.V
open Go.RowKit Go.Proofs
theorem ixB_nn : ∀ (l : List UInt8) (c : UInt8), Lib.indexByte l c ≥ 0 ↔ c ∈ l
  | [], c => by simp [Lib.indexByte]
  | b :: l, c => by
    have ih := ixB_nn l c
    unfold Lib.indexByte
    by_cases h : b = c
    · subst h; simp
    have h1 : (b == c) = false := beq_eq_false_iff_ne.2 h
    rw [h1]
    simp only [Bool.false_eq_true, if_false, List.mem_cons]
    have hne : ¬ c = b := fun e => h e.symm
    simp only [hne, false_or]
    by_cases h2 : (Lib.indexByte l c == -1) = true
    · rw [if_pos h2]
      have := eq_of_beq h2
      rw [← ih]; omega
    rw [if_neg h2]
    have h3 : ¬ Lib.indexByte l c = -1 := fun e => h2 (by rw [e]; rfl)
    rw [← ih]
    have h4 : -1 ≤ Lib.indexByte l c := by
      clear ih h2 h3
      induction l with
      | nil => unfold Lib.indexByte; omega
      | cons d l ih => unfold Lib.indexByte; split; omega; split; omega; omega
    omega
theorem mem_sby (s : ByteArray) (c : Nat) (h : c < 256) : c.toUInt8 ∈ s.data.toList ↔ c ∈ sby s := by
  have e : (c.toUInt8).toNat = c := by show (UInt8.ofNat c).toNat = c; rw [UInt8.toNat_ofNat']; omega
  unfold sby
  rw [List.mem_map]
  constructor
  · exact fun h => ⟨_, h, e⟩
  rintro ⟨x, hx, he⟩
  have : x = c.toUInt8 := UInt8.toNat_inj.1 (he.trans e.symm)
  rw [← this]; exact hx
theorem Zcu (s : ByteArray) (c : Nat) : PC C Zdd [.str s, .int .u8 (c : Int)] (fun o => o = .ret (.int .i64 (Lib.indexByte s.data.toList c.toUInt8))) := by
  refine PC.rn Zbq ZcW ZcX (rs := [.tmp 4]) (by rw [ZcY]) ?_
  refine ARun.seq (ARun.region ?_); refine zza ?_; refine AOps.nil (ARun.seq (ARun.region ?_)); refine zzm ?_; refine zzm ?_
  refine zzc rfl rfl (ZeI s c) ?_
  refine zza ?_; refine AOps.nil ?_
  refine ARun.ret ?_
  refine ⟨_, _, _, .tmp rfl .nil, .cons (.same _) .nil, rfl, ?_⟩
  rfl
theorem ix_ge {s : ByteArray} {c : Nat} (h : c < 256) : decide (Lib.indexByte s.data.toList c.toUInt8 ≥ 0) = decide (c ∈ sby s) := decide_eq_decide.2 ((ixB_nn _ _).trans (mem_sby s c h))
theorem str_eq (s t : ByteArray) : (s.toList == t.toList) = decide (sby s = sby t) := by
  rw [ByteArray.toList_eq, ByteArray.toList_eq, Bool.eq_iff_iff, beq_iff_eq, decide_eq_true_eq]
  constructor
  · intro h; unfold sby; rw [h]
  intro h
  have hm : ∀ x : ByteArray, x.data.toList = (sby x).map UInt8.ofNat := fun x => by
    unfold sby
    rw [List.map_map]
    conv => lhs; rw [← List.map_id x.data.toList]
    apply List.map_congr_left
    intro c _
    show c = UInt8.ofNat c.toNat
    rw [UInt8.ofNat_toNat]
  rw [hm s, hm t, h]
theorem sby_pre (s : ByteArray) {n : Nat} (h : n ≤ s.size) : sby (s.extract 0 n) = (sby s).take n := by
  have := sby_cut (s := s) (i := 0) (n := n) (by omega)
  rw [Nat.zero_add, List.drop_zero] at this
  exact this
theorem sby_suf (s : ByteArray) {n : Nat} (h : n ≤ s.size) : sby (s.extract n s.size) = (sby s).drop n := by
  have := sby_cut (s := s) (i := n) (n := s.size - n) (by omega)
  rw [show n + (s.size - n) = s.size by omega, List.take_of_length_le (by rw [List.length_drop, sby_len]; exact Nat.le_refl _)] at this
  exact this
def isPre (s p : ByteArray) : Bool := decide ((sby s).take p.size = sby p)
theorem ZdB (s p : ByteArray) (hs : s.size ≤ 100000) (hp : p.size ≤ 100000) : PC C Zct [.str s, .str p] (fun o => o = .ret (.bool (isPre s p))) := by
  refine PC.rn Za5 Zck Zcl (rs := [.tmp 4]) (by rw [Zcm]) ?_
  refine ARun.seq (ARun.region ?_); refine zza ?_; refine AOps.nil (ARun.seq (ARun.region ?_)); refine zzm ?_
  refine y_op rfl (Zae rfl rfl) ?_
  refine zzm ?_
  refine y_op rfl (Zae rfl rfl) ?_
  refine zzi ?_; refine zzm ?_
  refine AOps.bool 10 rfl (fun g => ?_) (fun g => ?_)
  · skip
    have g : p.size ≤ s.size := by have := of_decide_eq_true g; omega
    refine zzm ?_; refine zzm ?_
    refine y_op rfl (Zae rfl rfl) ?_
    refine y_op rfl (Zbg (lo := 0) (hi := p.size) rfl rfl rfl (bnd_nat rfl rfl) (Nat.zero_le _) g) ?_
    refine zzm ?_
    refine y_op rfl (OpQ.cast (Ze0 rfl rfl) (congrArg D.bool (show _ = isPre s p by rw [str_eq, sby_pre s g]; rfl))) ?_
    refine zzp ?_; refine zza ?_; refine AOps.nil ?_
    refine ARun.ret ?_
    refine ⟨_, _, _, .tmp rfl .nil, .cons (.same _) .nil, rfl, ?_⟩
    rfl
  have g : ¬ p.size ≤ s.size := by have := of_decide_eq_false g; omega
  have hf : isPre s p = false := decide_eq_false (fun h => by
    have := congrArg List.length h
    rw [List.length_take, sby_len, sby_len] at this
    omega)
  rw [hf]
  refine zzk ?_; refine zzk ?_; refine zzk ?_; refine zzk ?_; refine zzk ?_; refine zzk ?_; refine zzp ?_; refine zza ?_; refine AOps.nil ?_
  refine ARun.ret ?_
  refine ⟨_, _, _, .tmp rfl .nil, .cons (.same _) .nil, rfl, ?_⟩
  rfl
def cutR (s p : ByteArray) : ByteArray := bif isPre s p then s.extract p.size s.size else s
theorem Ze7 (s p : ByteArray) (hs : s.size ≤ 100000) (hp : p.size ≤ 100000) : PC C Zcq [.str s, .str p] (fun o => o = .ret (.tup [.str (cutR s p), .bool (isPre s p)])) := by
  unfold cutR
  refine PC.rn Za3 Zca Zcb (rs := [.tmp 4, .tmp 5]) (by rw [Zcc]) ?_
  refine ARun.seq (ARun.region ?_); refine zza ?_; refine zza ?_; refine AOps.nil (ARun.seq (ARun.seq (ARun.region ?_))); refine zzm ?_; refine zzm ?_
  refine zzc rfl rfl (ZdB s p hs hp) ?_
  refine zzn ?_; refine AOps.nil ?_
  refine ARun.cond rfl (fun h => ?_) (fun h => ?_)
  · skip
    have h : isPre s p = false := by simpa using h
    rw [h]
    refine ARun.seq (ARun.region ?_); refine zzm ?_; refine zza ?_; refine zza ?_; refine AOps.nil ?_
    refine ARun.ret ?_
    refine ⟨_, _, _, .tmp rfl (.tmp rfl .nil), .cons (.same _) (.cons (.same _) .nil), rfl, ?_⟩
    rfl
  have h : isPre s p = true := by simpa using h
  have hle : p.size ≤ s.size := by
    have := congrArg List.length (of_decide_eq_true h)
    rw [List.length_take, sby_len, sby_len] at this
    omega
  rw [h]
  refine ARun.skip (ARun.seq (ARun.region ?_)); refine zzm ?_; refine zzm ?_
  refine y_op rfl (Zae rfl rfl) ?_
  refine y_op rfl (Zbg (lo := p.size) (hi := s.size) rfl rfl (bnd_nat rfl rfl) rfl hle (Nat.le_refl _)) ?_
  refine zza ?_; refine zza ?_; refine AOps.nil ?_
  refine ARun.ret ?_
  refine ⟨_, _, _, .tmp rfl (.tmp rfl .nil), .cons (.same _) (.cons (.same _) .nil), rfl, ?_⟩
  rfl
theorem Zfg (s p : ByteArray) (hs : s.size ≤ 100000) (hp : p.size ≤ 100000) : PC C Zdc [.str s, .str p] (fun o => o = .ret (.tup [.str (cutR s p), .bool (isPre s p)])) := by
  refine PC.rn Zbp ZcT ZcU (rs := [.tmp 4, .tmp 5]) (by rw [ZcV]) ?_
  refine ARun.seq (ARun.region ?_); refine zza ?_; refine zza ?_; refine AOps.nil (ARun.seq (ARun.region ?_)); refine zzm ?_; refine zzm ?_
  refine zzc rfl rfl (Ze7 s p hs hp) ?_
  refine zze ?_; refine zze ?_; refine zza ?_; refine zza ?_; refine AOps.nil ?_
  refine ARun.ret ?_
  refine ⟨_, _, _, .tmp rfl (.tmp rfl .nil), .cons (.same _) (.cons (.same _) .nil), rfl, ?_⟩
  rfl
theorem Zfh (s p : ByteArray) (hs : s.size ≤ 100000) (hp : p.size ≤ 100000) : PC C Zdh [.str s, .str p] (fun o => o = .ret (.bool (isPre s p))) := by
  refine PC.rn Zbu ZcZ Zc0 (rs := [.tmp 4]) (by rw [Zc1]) ?_
  refine ARun.seq (ARun.region ?_); refine zza ?_; refine AOps.nil (ARun.seq (ARun.region ?_)); refine zzm ?_; refine zzm ?_
  refine zzc rfl rfl (ZdB s p hs hp) ?_
  refine zza ?_; refine AOps.nil ?_
  refine ARun.ret ?_
  refine ⟨_, _, _, .tmp rfl .nil, .cons (.same _) .nil, rfl, ?_⟩
  rfl
end Go.V
