/- A part of the proof: abstract values, rules for the steps of the program's form, and contracts of its functions, each proved; no condition. -/
import Derived.Test.YtjohcjagbodicaaGreatDoorA02
import Derived.Test.YtjohcjagbodicaaGreatDoorProg
set_option linter.unusedVariables false
set_option linter.unusedSimpArgs false
/- THE SEAT's TABLE, PRINTED BY seatv.py (a program of this session's): what each type is, by the translation's own facts; the functions, by name. -/
namespace Go.V
open Go.RowKit Go.Proofs
theorem te1 : TEok Tryz.prog 1 ⟨.other, 1, 8, .nilFunc⟩ := ⟨by kernel_rfl, ⟨_, Tryz.underlying1, rfl⟩⟩
theorem te2 : TEok Tryz.prog 2 ⟨.int .i64, 1, 8, .int .i64 0⟩ := ⟨by kernel_rfl, Tryz.underlying2⟩
theorem te3 : TEok Tryz.prog 3 ⟨.int .i64, 1, 8, .int .i64 0⟩ := ⟨by kernel_rfl, Tryz.underlying3⟩
theorem te4 : TEok Tryz.prog 4 ⟨.bool, 1, 1, .bool false⟩ := ⟨by kernel_rfl, Tryz.underlying4⟩
theorem te5 : TEok Tryz.prog 5 ⟨.int .u8, 1, 1, .int .u8 0⟩ := ⟨by kernel_rfl, Tryz.underlying5⟩
theorem te6 : TEok Tryz.prog 6 ⟨.int .u8, 1, 1, .int .u8 0⟩ := ⟨by kernel_rfl, Tryz.underlying6⟩
theorem te7 : TEok Tryz.prog 7 ⟨.struct [(0, 1), (1, 1), (2, 1), (3, 1)], 4, 24, .agg #[.int .i64 0, .int .i64 0, .bool false, .int .u8 0]⟩ := ⟨by kernel_rfl, ⟨_, Tryz.underlying7, by kernel_rfl⟩⟩
theorem te8 : TEok Tryz.prog 8 ⟨.struct [(0, 1), (1, 1), (2, 1), (3, 1)], 4, 24, .agg #[.int .i64 0, .int .i64 0, .bool false, .int .u8 0]⟩ := ⟨by kernel_rfl, ⟨_, Tryz.underlying8, by kernel_rfl⟩⟩
theorem te9 : TEok Tryz.prog 9 ⟨.str, 1, 16, .string ⟨#[]⟩⟩ := ⟨by kernel_rfl, Tryz.underlying9⟩
theorem te10 : TEok Tryz.prog 10 ⟨.str, 1, 16, .string ⟨#[]⟩⟩ := ⟨by kernel_rfl, Tryz.underlying10⟩
theorem te11 : TEok Tryz.prog 11 ⟨.str, 1, 16, .string ⟨#[]⟩⟩ := ⟨by kernel_rfl, Tryz.underlying11⟩
theorem te12 : TEok Tryz.prog 12 ⟨.int .u64, 1, 8, .int .u64 0⟩ := ⟨by kernel_rfl, Tryz.underlying12⟩
theorem te13 : TEok Tryz.prog 13 ⟨.struct [(0, 1), (1, 1)], 2, 24, .agg #[.string ⟨#[]⟩, .int .u64 0]⟩ := ⟨by kernel_rfl, ⟨_, Tryz.underlying13, by kernel_rfl⟩⟩
theorem te14 : TEok Tryz.prog 14 ⟨.struct [(0, 1), (1, 1)], 2, 24, .agg #[.string ⟨#[]⟩, .int .u64 0]⟩ := ⟨by kernel_rfl, ⟨_, Tryz.underlying14, by kernel_rfl⟩⟩
theorem te15 : TEok Tryz.prog 15 ⟨.ptr, 1, 8, .pointer none⟩ := ⟨by kernel_rfl, ⟨_, Tryz.underlying15⟩⟩
theorem te16 : TEok Tryz.prog 16 ⟨.ptr, 1, 8, .pointer none⟩ := ⟨by kernel_rfl, ⟨_, Tryz.underlying16⟩⟩
theorem te17 : TEok Tryz.prog 17 ⟨.ptr, 1, 8, .pointer none⟩ := ⟨by kernel_rfl, ⟨_, Tryz.underlying17⟩⟩
theorem te18 : TEok Tryz.prog 18 ⟨.struct [(0, 1)], 1, 8, .agg #[.pointer none]⟩ := ⟨by kernel_rfl, ⟨_, Tryz.underlying18, by kernel_rfl⟩⟩
theorem te19 : TEok Tryz.prog 19 ⟨.struct [(0, 1)], 1, 8, .agg #[.pointer none]⟩ := ⟨by kernel_rfl, ⟨_, Tryz.underlying19, by kernel_rfl⟩⟩
theorem te20 : TEok Tryz.prog 20 ⟨.other, 1, 16, .nilIface⟩ := ⟨by kernel_rfl, ⟨_, Tryz.underlying20, rfl⟩⟩
theorem te21 : TEok Tryz.prog 21 ⟨.int .i32, 1, 4, .int .i32 0⟩ := ⟨by kernel_rfl, Tryz.underlying21⟩
theorem te22 : TEok Tryz.prog 22 ⟨.slice 54, 1, 24, .slice none 0 0⟩ := ⟨by kernel_rfl, Tryz.underlying22⟩
theorem te23 : TEok Tryz.prog 23 ⟨.slice 54, 1, 24, .slice none 0 0⟩ := ⟨by kernel_rfl, Tryz.underlying23⟩
theorem te24 : TEok Tryz.prog 24 ⟨.struct [(0, 1), (1, 1)], 2, 32, .agg #[.bool false, .slice none 0 0]⟩ := ⟨by kernel_rfl, ⟨_, Tryz.underlying24, by kernel_rfl⟩⟩
theorem te25 : TEok Tryz.prog 25 ⟨.struct [(0, 1), (1, 1)], 2, 32, .agg #[.bool false, .slice none 0 0]⟩ := ⟨by kernel_rfl, ⟨_, Tryz.underlying25, by kernel_rfl⟩⟩
theorem te26 : TEok Tryz.prog 26 ⟨.other, 1, 8, .nilFunc⟩ := ⟨by kernel_rfl, ⟨_, Tryz.underlying26, rfl⟩⟩
theorem te27 : TEok Tryz.prog 27 ⟨.other, 1, 8, .nilFunc⟩ := ⟨by kernel_rfl, ⟨_, Tryz.underlying27, rfl⟩⟩
theorem te28 : TEok Tryz.prog 28 ⟨.int .i64, 1, 8, .int .i64 0⟩ := ⟨by kernel_rfl, Tryz.underlying28⟩
theorem te30 : TEok Tryz.prog 30 ⟨.other, 1, 8, .nilFunc⟩ := ⟨by kernel_rfl, ⟨_, Tryz.underlying30, rfl⟩⟩
theorem te31 : TEok Tryz.prog 31 ⟨.struct [(0, 2), (2, 2), (4, 1)], 5, 72, .agg #[.bool false, .slice none 0 0, .bool false, .slice none 0 0, .int .i64 0]⟩ := ⟨by kernel_rfl, ⟨_, Tryz.underlying31, by kernel_rfl⟩⟩
theorem te32 : TEok Tryz.prog 32 ⟨.struct [(0, 2), (2, 2), (4, 1)], 5, 72, .agg #[.bool false, .slice none 0 0, .bool false, .slice none 0 0, .int .i64 0]⟩ := ⟨by kernel_rfl, ⟨_, Tryz.underlying32, by kernel_rfl⟩⟩
theorem te33 : TEok Tryz.prog 33 ⟨.other, 1, 8, .nilFunc⟩ := ⟨by kernel_rfl, ⟨_, Tryz.underlying33, rfl⟩⟩
theorem te34 : TEok Tryz.prog 34 ⟨.other, 1, 8, .nilFunc⟩ := ⟨by kernel_rfl, ⟨_, Tryz.underlying34, rfl⟩⟩
theorem te35 : TEok Tryz.prog 35 ⟨.other, 1, 8, .nilFunc⟩ := ⟨by kernel_rfl, ⟨_, Tryz.underlying35, rfl⟩⟩
theorem te37 : TEok Tryz.prog 37 ⟨.other, 1, 8, .nilFunc⟩ := ⟨by kernel_rfl, ⟨_, Tryz.underlying37, rfl⟩⟩
theorem te38 : TEok Tryz.prog 38 ⟨.struct [(0, 2), (2, 2), (4, 2), (6, 1)], 7, 104, .agg #[.bool false, .slice none 0 0, .bool false, .slice none 0 0, .bool false, .slice none 0 0, .int .i64 0]⟩ := ⟨by kernel_rfl, ⟨_, Tryz.underlying38, by kernel_rfl⟩⟩
theorem te39 : TEok Tryz.prog 39 ⟨.struct [(0, 2), (2, 2), (4, 2), (6, 1)], 7, 104, .agg #[.bool false, .slice none 0 0, .bool false, .slice none 0 0, .bool false, .slice none 0 0, .int .i64 0]⟩ := ⟨by kernel_rfl, ⟨_, Tryz.underlying39, by kernel_rfl⟩⟩
theorem te40 : TEok Tryz.prog 40 ⟨.other, 1, 8, .nilFunc⟩ := ⟨by kernel_rfl, ⟨_, Tryz.underlying40, rfl⟩⟩
theorem te42 : TEok Tryz.prog 42 ⟨.other, 1, 8, .nilFunc⟩ := ⟨by kernel_rfl, ⟨_, Tryz.underlying42, rfl⟩⟩
theorem te43 : TEok Tryz.prog 43 ⟨.other, 1, 8, .nilFunc⟩ := ⟨by kernel_rfl, ⟨_, Tryz.underlying43, rfl⟩⟩
theorem te44 : TEok Tryz.prog 44 ⟨.struct [(0, 2), (2, 1)], 3, 40, .agg #[.bool false, .slice none 0 0, .int .i64 0]⟩ := ⟨by kernel_rfl, ⟨_, Tryz.underlying44, by kernel_rfl⟩⟩
theorem te45 : TEok Tryz.prog 45 ⟨.struct [(0, 2), (2, 1)], 3, 40, .agg #[.bool false, .slice none 0 0, .int .i64 0]⟩ := ⟨by kernel_rfl, ⟨_, Tryz.underlying45, by kernel_rfl⟩⟩
theorem te46 : TEok Tryz.prog 46 ⟨.other, 1, 8, .nilFunc⟩ := ⟨by kernel_rfl, ⟨_, Tryz.underlying46, rfl⟩⟩
theorem te47 : TEok Tryz.prog 47 ⟨.other, 1, 8, .nilFunc⟩ := ⟨by kernel_rfl, ⟨_, Tryz.underlying47, rfl⟩⟩
theorem te48 : TEok Tryz.prog 48 ⟨.other, 1, 8, .nilFunc⟩ := ⟨by kernel_rfl, ⟨_, Tryz.underlying48, rfl⟩⟩
theorem te49 : TEok Tryz.prog 49 ⟨.other, 1, 8, .nilFunc⟩ := ⟨by kernel_rfl, ⟨_, Tryz.underlying49, rfl⟩⟩
theorem te50 : TEok Tryz.prog 50 ⟨.slice 25, 1, 24, .slice none 0 0⟩ := ⟨by kernel_rfl, Tryz.underlying50⟩
theorem te51 : TEok Tryz.prog 51 ⟨.other, 1, 8, .nilFunc⟩ := ⟨by kernel_rfl, ⟨_, Tryz.underlying51, rfl⟩⟩
theorem te52 : TEok Tryz.prog 52 ⟨.other, 1, 8, .nilFunc⟩ := ⟨by kernel_rfl, ⟨_, Tryz.underlying52, rfl⟩⟩
theorem te53 : TEok Tryz.prog 53 ⟨.other, 1, 8, .nilFunc⟩ := ⟨by kernel_rfl, ⟨_, Tryz.underlying53, rfl⟩⟩
theorem te54 : TEok Tryz.prog 54 ⟨.int .u32, 1, 4, .int .u32 0⟩ := ⟨by kernel_rfl, Tryz.underlying54⟩
theorem te55 : TEok Tryz.prog 55 ⟨.other, 1, 8, .nilFunc⟩ := ⟨by kernel_rfl, ⟨_, Tryz.underlying55, rfl⟩⟩
theorem te57 : TEok Tryz.prog 57 ⟨.other, 1, 8, .nilFunc⟩ := ⟨by kernel_rfl, ⟨_, Tryz.underlying57, rfl⟩⟩
theorem te58 : TEok Tryz.prog 58 ⟨.other, 1, 8, .nilFunc⟩ := ⟨by kernel_rfl, ⟨_, Tryz.underlying58, rfl⟩⟩
theorem te59 : TEok Tryz.prog 59 ⟨.other, 1, 8, .nilFunc⟩ := ⟨by kernel_rfl, ⟨_, Tryz.underlying59, rfl⟩⟩
theorem te60 : TEok Tryz.prog 60 ⟨.other, 1, 8, .nilFunc⟩ := ⟨by kernel_rfl, ⟨_, Tryz.underlying60, rfl⟩⟩
theorem te61 : TEok Tryz.prog 61 ⟨.other, 1, 8, .nilFunc⟩ := ⟨by kernel_rfl, ⟨_, Tryz.underlying61, rfl⟩⟩
theorem te62 : TEok Tryz.prog 62 ⟨.other, 1, 8, .nilFunc⟩ := ⟨by kernel_rfl, ⟨_, Tryz.underlying62, rfl⟩⟩
theorem te64 : TEok Tryz.prog 64 ⟨.other, 1, 8, .nilFunc⟩ := ⟨by kernel_rfl, ⟨_, Tryz.underlying64, rfl⟩⟩
theorem te66 : TEok Tryz.prog 66 ⟨.other, 1, 8, .nilFunc⟩ := ⟨by kernel_rfl, ⟨_, Tryz.underlying66, rfl⟩⟩
theorem te67 : TEok Tryz.prog 67 ⟨.struct [(0, 2), (2, 1), (3, 1)], 4, 48, .agg #[.bool false, .slice none 0 0, .int .i64 0, .int .i64 0]⟩ := ⟨by kernel_rfl, ⟨_, Tryz.underlying67, by kernel_rfl⟩⟩
theorem te68 : TEok Tryz.prog 68 ⟨.struct [(0, 2), (2, 1), (3, 1)], 4, 48, .agg #[.bool false, .slice none 0 0, .int .i64 0, .int .i64 0]⟩ := ⟨by kernel_rfl, ⟨_, Tryz.underlying68, by kernel_rfl⟩⟩
theorem te69 : TEok Tryz.prog 69 ⟨.other, 1, 8, .nilFunc⟩ := ⟨by kernel_rfl, ⟨_, Tryz.underlying69, rfl⟩⟩
theorem te70 : TEok Tryz.prog 70 ⟨.other, 1, 8, .nilFunc⟩ := ⟨by kernel_rfl, ⟨_, Tryz.underlying70, rfl⟩⟩
theorem te71 : TEok Tryz.prog 71 ⟨.other, 1, 8, .nilFunc⟩ := ⟨by kernel_rfl, ⟨_, Tryz.underlying71, rfl⟩⟩
theorem te72 : TEok Tryz.prog 72 ⟨.other, 1, 8, .nilFunc⟩ := ⟨by kernel_rfl, ⟨_, Tryz.underlying72, rfl⟩⟩
theorem te73 : TEok Tryz.prog 73 ⟨.other, 1, 8, .nilFunc⟩ := ⟨by kernel_rfl, ⟨_, Tryz.underlying73, rfl⟩⟩
theorem te74 : TEok Tryz.prog 74 ⟨.other, 1, 8, .nilFunc⟩ := ⟨by kernel_rfl, ⟨_, Tryz.underlying74, rfl⟩⟩
theorem te75 : TEok Tryz.prog 75 ⟨.other, 1, 8, .nilFunc⟩ := ⟨by kernel_rfl, ⟨_, Tryz.underlying75, rfl⟩⟩
theorem te76 : TEok Tryz.prog 76 ⟨.other, 1, 8, .nilFunc⟩ := ⟨by kernel_rfl, ⟨_, Tryz.underlying76, rfl⟩⟩
theorem te77 : TEok Tryz.prog 77 ⟨.slice 3, 1, 24, .slice none 0 0⟩ := ⟨by kernel_rfl, Tryz.underlying77⟩
theorem te78 : TEok Tryz.prog 78 ⟨.other, 1, 8, .nilFunc⟩ := ⟨by kernel_rfl, ⟨_, Tryz.underlying78, rfl⟩⟩
theorem te79 : TEok Tryz.prog 79 ⟨.other, 1, 8, .nilFunc⟩ := ⟨by kernel_rfl, ⟨_, Tryz.underlying79, rfl⟩⟩
theorem te80 : TEok Tryz.prog 80 ⟨.other, 1, 8, .nilFunc⟩ := ⟨by kernel_rfl, ⟨_, Tryz.underlying80, rfl⟩⟩
theorem te81 : TEok Tryz.prog 81 ⟨.other, 1, 8, .nilFunc⟩ := ⟨by kernel_rfl, ⟨_, Tryz.underlying81, rfl⟩⟩
theorem te82 : TEok Tryz.prog 82 ⟨.other, 1, 8, .nilFunc⟩ := ⟨by kernel_rfl, ⟨_, Tryz.underlying82, rfl⟩⟩
theorem te84 : TEok Tryz.prog 84 ⟨.other, 1, 8, .nilFunc⟩ := ⟨by kernel_rfl, ⟨_, Tryz.underlying84, rfl⟩⟩
theorem te85 : TEok Tryz.prog 85 ⟨.other, 1, 8, .nilFunc⟩ := ⟨by kernel_rfl, ⟨_, Tryz.underlying85, rfl⟩⟩
theorem te86 : TEok Tryz.prog 86 ⟨.struct [(0, 1), (1, 1), (2, 1), (3, 1)], 4, 48, .agg #[.slice none 0 0, .int .i64 0, .bool false, .int .i64 0]⟩ := ⟨by kernel_rfl, ⟨_, Tryz.underlying86, by kernel_rfl⟩⟩
theorem te87 : TEok Tryz.prog 87 ⟨.struct [(0, 1), (1, 1), (2, 1), (3, 1)], 4, 48, .agg #[.slice none 0 0, .int .i64 0, .bool false, .int .i64 0]⟩ := ⟨by kernel_rfl, ⟨_, Tryz.underlying87, by kernel_rfl⟩⟩
theorem te89 : TEok Tryz.prog 89 ⟨.other, 1, 8, .nilFunc⟩ := ⟨by kernel_rfl, ⟨_, Tryz.underlying89, rfl⟩⟩
theorem te90 : TEok Tryz.prog 90 ⟨.struct [(0, 4), (4, 1), (5, 1)], 6, 64, .agg #[.slice none 0 0, .int .i64 0, .bool false, .int .i64 0, .int .i64 0, .int .i64 0]⟩ := ⟨by kernel_rfl, ⟨_, Tryz.underlying90, by kernel_rfl⟩⟩
theorem te91 : TEok Tryz.prog 91 ⟨.struct [(0, 4), (4, 1), (5, 1)], 6, 64, .agg #[.slice none 0 0, .int .i64 0, .bool false, .int .i64 0, .int .i64 0, .int .i64 0]⟩ := ⟨by kernel_rfl, ⟨_, Tryz.underlying91, by kernel_rfl⟩⟩
theorem te92 : TEok Tryz.prog 92 ⟨.other, 1, 8, .nilFunc⟩ := ⟨by kernel_rfl, ⟨_, Tryz.underlying92, rfl⟩⟩
theorem te93 : TEok Tryz.prog 93 ⟨.other, 1, 8, .nilFunc⟩ := ⟨by kernel_rfl, ⟨_, Tryz.underlying93, rfl⟩⟩
theorem te94 : TEok Tryz.prog 94 ⟨.struct [(0, 1), (1, 1)], 2, 16, .agg #[.int .i64 0, .bool false]⟩ := ⟨by kernel_rfl, ⟨_, Tryz.underlying94, by kernel_rfl⟩⟩
theorem te95 : TEok Tryz.prog 95 ⟨.struct [(0, 1), (1, 1)], 2, 16, .agg #[.int .i64 0, .bool false]⟩ := ⟨by kernel_rfl, ⟨_, Tryz.underlying95, by kernel_rfl⟩⟩
theorem te97 : TEok Tryz.prog 97 ⟨.other, 1, 8, .nilFunc⟩ := ⟨by kernel_rfl, ⟨_, Tryz.underlying97, rfl⟩⟩
theorem te98 : TEok Tryz.prog 98 ⟨.other, 1, 8, .nilFunc⟩ := ⟨by kernel_rfl, ⟨_, Tryz.underlying98, rfl⟩⟩
theorem te99 : TEok Tryz.prog 99 ⟨.other, 1, 8, .nilFunc⟩ := ⟨by kernel_rfl, ⟨_, Tryz.underlying99, rfl⟩⟩
theorem te100 : TEok Tryz.prog 100 ⟨.other, 1, 8, .nilFunc⟩ := ⟨by kernel_rfl, ⟨_, Tryz.underlying100, rfl⟩⟩
theorem te101 : TEok Tryz.prog 101 ⟨.ptr, 1, 8, .pointer none⟩ := ⟨by kernel_rfl, ⟨_, Tryz.underlying101⟩⟩
theorem te102 : TEok Tryz.prog 102 ⟨.other, 1, 8, .nilFunc⟩ := ⟨by kernel_rfl, ⟨_, Tryz.underlying102, rfl⟩⟩
theorem te103 : TEok Tryz.prog 103 ⟨.other, 1, 8, .nilFunc⟩ := ⟨by kernel_rfl, ⟨_, Tryz.underlying103, rfl⟩⟩
theorem te104 : TEok Tryz.prog 104 ⟨.struct [(0, 1)], 1, 8, .agg #[.nilFunc]⟩ := ⟨by kernel_rfl, ⟨_, Tryz.underlying104, by kernel_rfl⟩⟩
theorem te105 : TEok Tryz.prog 105 ⟨.struct [(0, 1)], 1, 8, .agg #[.nilFunc]⟩ := ⟨by kernel_rfl, ⟨_, Tryz.underlying105, by kernel_rfl⟩⟩
theorem te107 : TEok Tryz.prog 107 ⟨.other, 1, 8, .map none⟩ := ⟨by kernel_rfl, ⟨_, Tryz.underlying107, rfl⟩⟩
theorem te108 : TEok Tryz.prog 108 ⟨.other, 1, 8, .nilFunc⟩ := ⟨by kernel_rfl, ⟨_, Tryz.underlying108, rfl⟩⟩
theorem te109 : TEok Tryz.prog 109 ⟨.other, 1, 8, .nilFunc⟩ := ⟨by kernel_rfl, ⟨_, Tryz.underlying109, rfl⟩⟩
theorem te111 : TEok Tryz.prog 111 ⟨.other, 1, 8, .nilFunc⟩ := ⟨by kernel_rfl, ⟨_, Tryz.underlying111, rfl⟩⟩
theorem te112 : TEok Tryz.prog 112 ⟨.other, 1, 8, .nilFunc⟩ := ⟨by kernel_rfl, ⟨_, Tryz.underlying112, rfl⟩⟩
theorem te113 : TEok Tryz.prog 113 ⟨.other, 1, 8, .nilFunc⟩ := ⟨by kernel_rfl, ⟨_, Tryz.underlying113, rfl⟩⟩
theorem te114 : TEok Tryz.prog 114 ⟨.other, 1, 8, .nilFunc⟩ := ⟨by kernel_rfl, ⟨_, Tryz.underlying114, rfl⟩⟩
theorem te115 : TEok Tryz.prog 115 ⟨.other, 1, 8, .nilFunc⟩ := ⟨by kernel_rfl, ⟨_, Tryz.underlying115, rfl⟩⟩
theorem te116 : TEok Tryz.prog 116 ⟨.other, 1, 8, .nilFunc⟩ := ⟨by kernel_rfl, ⟨_, Tryz.underlying116, rfl⟩⟩
theorem te117 : TEok Tryz.prog 117 ⟨.other, 1, 8, .nilFunc⟩ := ⟨by kernel_rfl, ⟨_, Tryz.underlying117, rfl⟩⟩
theorem te118 : TEok Tryz.prog 118 ⟨.other, 1, 8, .nilFunc⟩ := ⟨by kernel_rfl, ⟨_, Tryz.underlying118, rfl⟩⟩
theorem te119 : TEok Tryz.prog 119 ⟨.other, 1, 8, .nilFunc⟩ := ⟨by kernel_rfl, ⟨_, Tryz.underlying119, rfl⟩⟩
theorem te120 : TEok Tryz.prog 120 ⟨.int .u64, 1, 8, .int .u64 0⟩ := ⟨by kernel_rfl, Tryz.underlying120⟩
theorem te122 : TEok Tryz.prog 122 ⟨.other, 1, 8, .nilFunc⟩ := ⟨by kernel_rfl, ⟨_, Tryz.underlying122, rfl⟩⟩
theorem te123 : TEok Tryz.prog 123 ⟨.other, 1, 8, .nilFunc⟩ := ⟨by kernel_rfl, ⟨_, Tryz.underlying123, rfl⟩⟩
theorem te124 : TEok Tryz.prog 124 ⟨.int .u64, 1, 8, .int .u64 0⟩ := ⟨by kernel_rfl, Tryz.underlying124⟩
theorem te125 : TEok Tryz.prog 125 ⟨.other, 1, 8, .nilFunc⟩ := ⟨by kernel_rfl, ⟨_, Tryz.underlying125, rfl⟩⟩
theorem te126 : TEok Tryz.prog 126 ⟨.other, 1, 8, .nilFunc⟩ := ⟨by kernel_rfl, ⟨_, Tryz.underlying126, rfl⟩⟩
theorem te128 : TEok Tryz.prog 128 ⟨.other, 1, 8, .nilFunc⟩ := ⟨by kernel_rfl, ⟨_, Tryz.underlying128, rfl⟩⟩
theorem te129 : TEok Tryz.prog 129 ⟨.other, 1, 8, .nilFunc⟩ := ⟨by kernel_rfl, ⟨_, Tryz.underlying129, rfl⟩⟩
theorem te130 : TEok Tryz.prog 130 ⟨.other, 1, 8, .nilFunc⟩ := ⟨by kernel_rfl, ⟨_, Tryz.underlying130, rfl⟩⟩
theorem te131 : TEok Tryz.prog 131 ⟨.other, 1, 8, .nilFunc⟩ := ⟨by kernel_rfl, ⟨_, Tryz.underlying131, rfl⟩⟩
theorem te132 : TEok Tryz.prog 132 ⟨.other, 1, 8, .nilFunc⟩ := ⟨by kernel_rfl, ⟨_, Tryz.underlying132, rfl⟩⟩
theorem te133 : TEok Tryz.prog 133 ⟨.other, 1, 8, .nilFunc⟩ := ⟨by kernel_rfl, ⟨_, Tryz.underlying133, rfl⟩⟩
theorem te134 : TEok Tryz.prog 134 ⟨.other, 1, 8, .nilFunc⟩ := ⟨by kernel_rfl, ⟨_, Tryz.underlying134, rfl⟩⟩
theorem te135 : TEok Tryz.prog 135 ⟨.ptr, 1, 8, .pointer none⟩ := ⟨by kernel_rfl, ⟨_, Tryz.underlying135⟩⟩
theorem te136 : TEok Tryz.prog 136 ⟨.ptr, 1, 8, .pointer none⟩ := ⟨by kernel_rfl, ⟨_, Tryz.underlying136⟩⟩
theorem te137 : TEok Tryz.prog 137 ⟨.struct [(0, 1), (1, 1)], 2, 24, .agg #[.string ⟨#[]⟩, .int .i64 0]⟩ := ⟨by kernel_rfl, ⟨_, Tryz.underlying137, by kernel_rfl⟩⟩
theorem te138 : TEok Tryz.prog 138 ⟨.struct [(0, 1), (1, 1)], 2, 24, .agg #[.string ⟨#[]⟩, .int .i64 0]⟩ := ⟨by kernel_rfl, ⟨_, Tryz.underlying138, by kernel_rfl⟩⟩
theorem te139 : TEok Tryz.prog 139 ⟨.other, 1, 8, .nilFunc⟩ := ⟨by kernel_rfl, ⟨_, Tryz.underlying139, rfl⟩⟩
theorem te140 : TEok Tryz.prog 140 ⟨.other, 1, 8, .nilFunc⟩ := ⟨by kernel_rfl, ⟨_, Tryz.underlying140, rfl⟩⟩
theorem te141 : TEok Tryz.prog 141 ⟨.other, 1, 8, .nilFunc⟩ := ⟨by kernel_rfl, ⟨_, Tryz.underlying141, rfl⟩⟩
theorem te142 : TEok Tryz.prog 142 ⟨.other, 1, 8, .nilFunc⟩ := ⟨by kernel_rfl, ⟨_, Tryz.underlying142, rfl⟩⟩
theorem te143 : TEok Tryz.prog 143 ⟨.other, 1, 8, .nilFunc⟩ := ⟨by kernel_rfl, ⟨_, Tryz.underlying143, rfl⟩⟩
theorem te144 : TEok Tryz.prog 144 ⟨.other, 1, 8, .nilFunc⟩ := ⟨by kernel_rfl, ⟨_, Tryz.underlying144, rfl⟩⟩
theorem te145 : TEok Tryz.prog 145 ⟨.other, 1, 8, .nilFunc⟩ := ⟨by kernel_rfl, ⟨_, Tryz.underlying145, rfl⟩⟩
theorem te147 : TEok Tryz.prog 147 ⟨.other, 1, 8, .nilFunc⟩ := ⟨by kernel_rfl, ⟨_, Tryz.underlying147, rfl⟩⟩
theorem te148 : TEok Tryz.prog 148 ⟨.other, 1, 8, .nilFunc⟩ := ⟨by kernel_rfl, ⟨_, Tryz.underlying148, rfl⟩⟩
theorem te149 : TEok Tryz.prog 149 ⟨.struct [(0, 1), (1, 1)], 2, 32, .agg #[.slice none 0 0, .int .u32 0]⟩ := ⟨by kernel_rfl, ⟨_, Tryz.underlying149, by kernel_rfl⟩⟩
theorem te150 : TEok Tryz.prog 150 ⟨.struct [(0, 1), (1, 1)], 2, 32, .agg #[.slice none 0 0, .int .u32 0]⟩ := ⟨by kernel_rfl, ⟨_, Tryz.underlying150, by kernel_rfl⟩⟩
theorem te151 : TEok Tryz.prog 151 ⟨.other, 1, 8, .nilFunc⟩ := ⟨by kernel_rfl, ⟨_, Tryz.underlying151, rfl⟩⟩
theorem te153 : TEok Tryz.prog 153 ⟨.other, 1, 8, .map none⟩ := ⟨by kernel_rfl, ⟨_, Tryz.underlying153, rfl⟩⟩
theorem te154 : TEok Tryz.prog 154 ⟨.other, 1, 8, .nilFunc⟩ := ⟨by kernel_rfl, ⟨_, Tryz.underlying154, rfl⟩⟩
theorem te155 : TEok Tryz.prog 155 ⟨.other, 1, 8, .nilFunc⟩ := ⟨by kernel_rfl, ⟨_, Tryz.underlying155, rfl⟩⟩
theorem te156 : TEok Tryz.prog 156 ⟨.other, 1, 8, .nilFunc⟩ := ⟨by kernel_rfl, ⟨_, Tryz.underlying156, rfl⟩⟩
theorem te157 : TEok Tryz.prog 157 ⟨.other, 1, 8, .nilFunc⟩ := ⟨by kernel_rfl, ⟨_, Tryz.underlying157, rfl⟩⟩
theorem te158 : TEok Tryz.prog 158 ⟨.other, 1, 8, .nilFunc⟩ := ⟨by kernel_rfl, ⟨_, Tryz.underlying158, rfl⟩⟩
theorem te159 : TEok Tryz.prog 159 ⟨.other, 1, 8, .nilFunc⟩ := ⟨by kernel_rfl, ⟨_, Tryz.underlying159, rfl⟩⟩
theorem te160 : TEok Tryz.prog 160 ⟨.other, 1, 8, .nilFunc⟩ := ⟨by kernel_rfl, ⟨_, Tryz.underlying160, rfl⟩⟩
theorem te162 : TEok Tryz.prog 162 ⟨.other, 1, 8, .nilFunc⟩ := ⟨by kernel_rfl, ⟨_, Tryz.underlying162, rfl⟩⟩
theorem te164 : TEok Tryz.prog 164 ⟨.other, 1, 8, .nilFunc⟩ := ⟨by kernel_rfl, ⟨_, Tryz.underlying164, rfl⟩⟩
theorem te166 : TEok Tryz.prog 166 ⟨.other, 1, 8, .nilFunc⟩ := ⟨by kernel_rfl, ⟨_, Tryz.underlying166, rfl⟩⟩
theorem te167 : TEok Tryz.prog 167 ⟨.other, 1, 8, .nilFunc⟩ := ⟨by kernel_rfl, ⟨_, Tryz.underlying167, rfl⟩⟩
theorem te168 : TEok Tryz.prog 168 ⟨.other, 1, 8, .nilFunc⟩ := ⟨by kernel_rfl, ⟨_, Tryz.underlying168, rfl⟩⟩
theorem te169 : TEok Tryz.prog 169 ⟨.struct [(0, 2), (2, 1)], 3, 24, .agg #[.int .i64 0, .bool false, .int .i64 0]⟩ := ⟨by kernel_rfl, ⟨_, Tryz.underlying169, by kernel_rfl⟩⟩
theorem te170 : TEok Tryz.prog 170 ⟨.array 6 169, 18, 144, .agg #[.int .i64 0, .bool false, .int .i64 0, .int .i64 0, .bool false, .int .i64 0, .int .i64 0, .bool false, .int .i64 0, .int .i64 0, .bool false, .int .i64 0, .int .i64 0, .bool false, .int .i64 0, .int .i64 0, .bool false, .int .i64 0]⟩ := ⟨by kernel_rfl, Tryz.underlying170⟩
theorem te171 : TEok Tryz.prog 171 ⟨.struct [(0, 1)], 1, 8, .agg #[.int .i64 0]⟩ := ⟨by kernel_rfl, ⟨_, Tryz.underlying171, by kernel_rfl⟩⟩
theorem te172 : TEok Tryz.prog 172 ⟨.struct [(0, 1)], 1, 8, .agg #[.int .i64 0]⟩ := ⟨by kernel_rfl, ⟨_, Tryz.underlying172, by kernel_rfl⟩⟩
theorem te173 : TEok Tryz.prog 173 ⟨.other, 1, 8, .nilFunc⟩ := ⟨by kernel_rfl, ⟨_, Tryz.underlying173, rfl⟩⟩
theorem te175 : TEok Tryz.prog 175 ⟨.other, 1, 8, .nilFunc⟩ := ⟨by kernel_rfl, ⟨_, Tryz.underlying175, rfl⟩⟩
theorem te176 : TEok Tryz.prog 176 ⟨.other, 1, 8, .nilFunc⟩ := ⟨by kernel_rfl, ⟨_, Tryz.underlying176, rfl⟩⟩
theorem te178 : TEok Tryz.prog 178 ⟨.struct [(0, 1), (1, 1)], 2, 48, .agg #[.slice none 0 0, .slice none 0 0]⟩ := ⟨by kernel_rfl, ⟨_, Tryz.underlying178, by kernel_rfl⟩⟩
theorem te179 : TEok Tryz.prog 179 ⟨.other, 1, 8, .nilFunc⟩ := ⟨by kernel_rfl, ⟨_, Tryz.underlying179, rfl⟩⟩
theorem te182 : TEok Tryz.prog 182 ⟨.other, 1, 8, .nilFunc⟩ := ⟨by kernel_rfl, ⟨_, Tryz.underlying182, rfl⟩⟩
theorem te183 : TEok Tryz.prog 183 ⟨.slice 54, 1, 24, .slice none 0 0⟩ := ⟨by kernel_rfl, Tryz.underlying183⟩
theorem te189 : TEok Tryz.prog 189 ⟨.other, 1, 8, .nilFunc⟩ := ⟨by kernel_rfl, ⟨_, Tryz.underlying189, rfl⟩⟩
theorem te193 : TEok Tryz.prog 193 ⟨.other, 1, 8, .nilFunc⟩ := ⟨by kernel_rfl, ⟨_, Tryz.underlying193, rfl⟩⟩
theorem te194 : TEok Tryz.prog 194 ⟨.other, 1, 8, .nilFunc⟩ := ⟨by kernel_rfl, ⟨_, Tryz.underlying194, rfl⟩⟩
theorem te196 : TEok Tryz.prog 196 ⟨.struct [(0, 1), (1, 1)], 2, 16, .agg #[.nilFunc, .nilFunc]⟩ := ⟨by kernel_rfl, ⟨_, Tryz.underlying196, by kernel_rfl⟩⟩
theorem te197 : TEok Tryz.prog 197 ⟨.slice 5, 1, 24, .slice none 0 0⟩ := ⟨by kernel_rfl, Tryz.underlying197⟩
theorem te198 : TEok Tryz.prog 198 ⟨.other, 1, 8, .nilFunc⟩ := ⟨by kernel_rfl, ⟨_, Tryz.underlying198, rfl⟩⟩
theorem te199 : TEok Tryz.prog 199 ⟨.other, 1, 8, .nilFunc⟩ := ⟨by kernel_rfl, ⟨_, Tryz.underlying199, rfl⟩⟩
theorem te200 : TEok Tryz.prog 200 ⟨.other, 1, 8, .nilFunc⟩ := ⟨by kernel_rfl, ⟨_, Tryz.underlying200, rfl⟩⟩
theorem te202 : TEok Tryz.prog 202 ⟨.ptr, 1, 8, .pointer none⟩ := ⟨by kernel_rfl, ⟨_, Tryz.underlying202⟩⟩
theorem te204 : TEok Tryz.prog 204 ⟨.struct [(0, 1), (1, 1)], 2, 32, .agg #[.pointer none, .slice none 0 0]⟩ := ⟨by kernel_rfl, ⟨_, Tryz.underlying204, by kernel_rfl⟩⟩
theorem te207 : TEok Tryz.prog 207 ⟨.other, 1, 16, .nilIface⟩ := ⟨by kernel_rfl, ⟨_, Tryz.underlying207, rfl⟩⟩
theorem te213 : TEok Tryz.prog 213 ⟨.other, 1, 8, .nilFunc⟩ := ⟨by kernel_rfl, ⟨_, Tryz.underlying213, rfl⟩⟩
theorem te216 : TEok Tryz.prog 216 ⟨.struct [(0, 1)], 1, 8, .agg #[.int .i64 0]⟩ := ⟨by kernel_rfl, ⟨_, Tryz.underlying216, by kernel_rfl⟩⟩
theorem te224 : TEok Tryz.prog 224 ⟨.other, 1, 8, .nilFunc⟩ := ⟨by kernel_rfl, ⟨_, Tryz.underlying224, rfl⟩⟩
theorem te230 : TEok Tryz.prog 230 ⟨.struct [(0, 1)], 1, 8, .agg #[.int .i64 0]⟩ := ⟨by kernel_rfl, ⟨_, Tryz.underlying230, by kernel_rfl⟩⟩
theorem te232 : TEok Tryz.prog 232 ⟨.slice 23, 1, 24, .slice none 0 0⟩ := ⟨by kernel_rfl, Tryz.underlying232⟩
theorem te234 : TEok Tryz.prog 234 ⟨.other, 1, 8, .nilFunc⟩ := ⟨by kernel_rfl, ⟨_, Tryz.underlying234, rfl⟩⟩
theorem te235 : TEok Tryz.prog 235 ⟨.other, 1, 8, .nilFunc⟩ := ⟨by kernel_rfl, ⟨_, Tryz.underlying235, rfl⟩⟩
theorem te237 : TEok Tryz.prog 237 ⟨.other, 1, 8, .nilFunc⟩ := ⟨by kernel_rfl, ⟨_, Tryz.underlying237, rfl⟩⟩
theorem te241 : TEok Tryz.prog 241 ⟨.other, 1, 8, .nilFunc⟩ := ⟨by kernel_rfl, ⟨_, Tryz.underlying241, rfl⟩⟩
theorem te250 : TEok Tryz.prog 250 ⟨.other, 1, 8, .nilFunc⟩ := ⟨by kernel_rfl, ⟨_, Tryz.underlying250, rfl⟩⟩
theorem te256 : TEok Tryz.prog 256 ⟨.other, 1, 8, .nilFunc⟩ := ⟨by kernel_rfl, ⟨_, Tryz.underlying256, rfl⟩⟩
theorem te269 : TEok Tryz.prog 269 ⟨.array 3 21, 3, 12, .agg #[.int .i32 0, .int .i32 0, .int .i32 0]⟩ := ⟨by kernel_rfl, Tryz.underlying269⟩
theorem te270 : TEok Tryz.prog 270 ⟨.array 3 21, 3, 12, .agg #[.int .i32 0, .int .i32 0, .int .i32 0]⟩ := ⟨by kernel_rfl, Tryz.underlying270⟩
theorem te271 : TEok Tryz.prog 271 ⟨.struct [(0, 1), (1, 1), (2, 3)], 5, 20, .agg #[.int .u32 0, .int .u32 0, .int .i32 0, .int .i32 0, .int .i32 0]⟩ := ⟨by kernel_rfl, ⟨_, Tryz.underlying271, by kernel_rfl⟩⟩
abbrev t_int : TypeId := 3
abbrev Zcj : TypeId := 5
abbrev Zd3 : TypeId := 23
abbrev Zjg : TypeId := 25
abbrev Zat : TypeId := 28
abbrev Zah : TypeId := 54
abbrev Zba : TypeId := 105
abbrev Zhb : TypeId := 138
abbrev ZcX : TypeId := 172
abbrev Zaj : TypeId := 178
abbrev Zck : TypeId := 183
abbrev Zge : TypeId := 197
abbrev Zcl : TypeId := 230
noncomputable def tys : Tr := (.node 102 (.node 49 (.node 23 (.node 11 (.node 5 (.node 2 (.node 1 (.leaf 1 ⟨.other, 1, 8, .nilFunc⟩) (.leaf 2 ⟨.int .i64, 1, 8, .int .i64 0⟩)) (.node 3 (.leaf 3 ⟨.int .i64, 1, 8, .int .i64 0⟩) (.node 4 (.leaf 4 ⟨.bool, 1, 1, .bool false⟩) (.leaf 5 ⟨.int .u8, 1, 1, .int .u8 0⟩)))) (.node 8 (.node 6 (.leaf 6 ⟨.int .u8, 1, 1, .int .u8 0⟩) (.node 7 (.leaf 7 ⟨.struct [(0, 1), (1, 1), (2, 1), (3, 1)], 4, 24, .agg #[.int .i64 0, .int .i64 0, .bool false, .int .u8 0]⟩) (.leaf 8 ⟨.struct [(0, 1), (1, 1), (2, 1), (3, 1)], 4, 24, .agg #[.int .i64 0, .int .i64 0, .bool false, .int .u8 0]⟩))) (.node 9 (.leaf 9 ⟨.str, 1, 16, .string ⟨#[]⟩⟩) (.node 10 (.leaf 10 ⟨.str, 1, 16, .string ⟨#[]⟩⟩) (.leaf 11 ⟨.str, 1, 16, .string ⟨#[]⟩⟩))))) (.node 17 (.node 14 (.node 12 (.leaf 12 ⟨.int .u64, 1, 8, .int .u64 0⟩) (.node 13 (.leaf 13 ⟨.struct [(0, 1), (1, 1)], 2, 24, .agg #[.string ⟨#[]⟩, .int .u64 0]⟩) (.leaf 14 ⟨.struct [(0, 1), (1, 1)], 2, 24, .agg #[.string ⟨#[]⟩, .int .u64 0]⟩))) (.node 15 (.leaf 15 ⟨.ptr, 1, 8, .pointer none⟩) (.node 16 (.leaf 16 ⟨.ptr, 1, 8, .pointer none⟩) (.leaf 17 ⟨.ptr, 1, 8, .pointer none⟩)))) (.node 20 (.node 18 (.leaf 18 ⟨.struct [(0, 1)], 1, 8, .agg #[.pointer none]⟩) (.node 19 (.leaf 19 ⟨.struct [(0, 1)], 1, 8, .agg #[.pointer none]⟩) (.leaf 20 ⟨.other, 1, 16, .nilIface⟩))) (.node 21 (.leaf 21 ⟨.int .i32, 1, 4, .int .i32 0⟩) (.node 22 (.leaf 22 ⟨.slice 54, 1, 24, .slice none 0 0⟩) (.leaf 23 ⟨.slice 54, 1, 24, .slice none 0 0⟩)))))) (.node 35 (.node 28 (.node 25 (.node 24 (.leaf 24 ⟨.struct [(0, 1), (1, 1)], 2, 32, .agg #[.bool false, .slice none 0 0]⟩) (.leaf 25 ⟨.struct [(0, 1), (1, 1)], 2, 32, .agg #[.bool false, .slice none 0 0]⟩)) (.node 26 (.leaf 26 ⟨.other, 1, 8, .nilFunc⟩) (.node 27 (.leaf 27 ⟨.other, 1, 8, .nilFunc⟩) (.leaf 28 ⟨.int .i64, 1, 8, .int .i64 0⟩)))) (.node 32 (.node 30 (.leaf 30 ⟨.other, 1, 8, .nilFunc⟩) (.node 31 (.leaf 31 ⟨.struct [(0, 2), (2, 2), (4, 1)], 5, 72, .agg #[.bool false, .slice none 0 0, .bool false, .slice none 0 0, .int .i64 0]⟩) (.leaf 32 ⟨.struct [(0, 2), (2, 2), (4, 1)], 5, 72, .agg #[.bool false, .slice none 0 0, .bool false, .slice none 0 0, .int .i64 0]⟩))) (.node 33 (.leaf 33 ⟨.other, 1, 8, .nilFunc⟩) (.node 34 (.leaf 34 ⟨.other, 1, 8, .nilFunc⟩) (.leaf 35 ⟨.other, 1, 8, .nilFunc⟩))))) (.node 43 (.node 39 (.node 37 (.leaf 37 ⟨.other, 1, 8, .nilFunc⟩) (.node 38 (.leaf 38 ⟨.struct [(0, 2), (2, 2), (4, 2), (6, 1)], 7, 104, .agg #[.bool false, .slice none 0 0, .bool false, .slice none 0 0, .bool false, .slice none 0 0, .int .i64 0]⟩) (.leaf 39 ⟨.struct [(0, 2), (2, 2), (4, 2), (6, 1)], 7, 104, .agg #[.bool false, .slice none 0 0, .bool false, .slice none 0 0, .bool false, .slice none 0 0, .int .i64 0]⟩))) (.node 40 (.leaf 40 ⟨.other, 1, 8, .nilFunc⟩) (.node 42 (.leaf 42 ⟨.other, 1, 8, .nilFunc⟩) (.leaf 43 ⟨.other, 1, 8, .nilFunc⟩)))) (.node 46 (.node 44 (.leaf 44 ⟨.struct [(0, 2), (2, 1)], 3, 40, .agg #[.bool false, .slice none 0 0, .int .i64 0]⟩) (.node 45 (.leaf 45 ⟨.struct [(0, 2), (2, 1)], 3, 40, .agg #[.bool false, .slice none 0 0, .int .i64 0]⟩) (.leaf 46 ⟨.other, 1, 8, .nilFunc⟩))) (.node 47 (.leaf 47 ⟨.other, 1, 8, .nilFunc⟩) (.node 48 (.leaf 48 ⟨.other, 1, 8, .nilFunc⟩) (.leaf 49 ⟨.other, 1, 8, .nilFunc⟩))))))) (.node 75 (.node 61 (.node 54 (.node 51 (.node 50 (.leaf 50 ⟨.slice 25, 1, 24, .slice none 0 0⟩) (.leaf 51 ⟨.other, 1, 8, .nilFunc⟩)) (.node 52 (.leaf 52 ⟨.other, 1, 8, .nilFunc⟩) (.node 53 (.leaf 53 ⟨.other, 1, 8, .nilFunc⟩) (.leaf 54 ⟨.int .u32, 1, 4, .int .u32 0⟩)))) (.node 58 (.node 55 (.leaf 55 ⟨.other, 1, 8, .nilFunc⟩) (.node 57 (.leaf 57 ⟨.other, 1, 8, .nilFunc⟩) (.leaf 58 ⟨.other, 1, 8, .nilFunc⟩))) (.node 59 (.leaf 59 ⟨.other, 1, 8, .nilFunc⟩) (.node 60 (.leaf 60 ⟨.other, 1, 8, .nilFunc⟩) (.leaf 61 ⟨.other, 1, 8, .nilFunc⟩))))) (.node 69 (.node 66 (.node 62 (.leaf 62 ⟨.other, 1, 8, .nilFunc⟩) (.node 64 (.leaf 64 ⟨.other, 1, 8, .nilFunc⟩) (.leaf 66 ⟨.other, 1, 8, .nilFunc⟩))) (.node 67 (.leaf 67 ⟨.struct [(0, 2), (2, 1), (3, 1)], 4, 48, .agg #[.bool false, .slice none 0 0, .int .i64 0, .int .i64 0]⟩) (.node 68 (.leaf 68 ⟨.struct [(0, 2), (2, 1), (3, 1)], 4, 48, .agg #[.bool false, .slice none 0 0, .int .i64 0, .int .i64 0]⟩) (.leaf 69 ⟨.other, 1, 8, .nilFunc⟩)))) (.node 72 (.node 70 (.leaf 70 ⟨.other, 1, 8, .nilFunc⟩) (.node 71 (.leaf 71 ⟨.other, 1, 8, .nilFunc⟩) (.leaf 72 ⟨.other, 1, 8, .nilFunc⟩))) (.node 73 (.leaf 73 ⟨.other, 1, 8, .nilFunc⟩) (.node 74 (.leaf 74 ⟨.other, 1, 8, .nilFunc⟩) (.leaf 75 ⟨.other, 1, 8, .nilFunc⟩)))))) (.node 89 (.node 81 (.node 78 (.node 76 (.leaf 76 ⟨.other, 1, 8, .nilFunc⟩) (.node 77 (.leaf 77 ⟨.slice 3, 1, 24, .slice none 0 0⟩) (.leaf 78 ⟨.other, 1, 8, .nilFunc⟩))) (.node 79 (.leaf 79 ⟨.other, 1, 8, .nilFunc⟩) (.node 80 (.leaf 80 ⟨.other, 1, 8, .nilFunc⟩) (.leaf 81 ⟨.other, 1, 8, .nilFunc⟩)))) (.node 85 (.node 82 (.leaf 82 ⟨.other, 1, 8, .nilFunc⟩) (.node 84 (.leaf 84 ⟨.other, 1, 8, .nilFunc⟩) (.leaf 85 ⟨.other, 1, 8, .nilFunc⟩))) (.node 86 (.leaf 86 ⟨.struct [(0, 1), (1, 1), (2, 1), (3, 1)], 4, 48, .agg #[.slice none 0 0, .int .i64 0, .bool false, .int .i64 0]⟩) (.node 87 (.leaf 87 ⟨.struct [(0, 1), (1, 1), (2, 1), (3, 1)], 4, 48, .agg #[.slice none 0 0, .int .i64 0, .bool false, .int .i64 0]⟩) (.leaf 89 ⟨.other, 1, 8, .nilFunc⟩))))) (.node 95 (.node 92 (.node 90 (.leaf 90 ⟨.struct [(0, 4), (4, 1), (5, 1)], 6, 64, .agg #[.slice none 0 0, .int .i64 0, .bool false, .int .i64 0, .int .i64 0, .int .i64 0]⟩) (.node 91 (.leaf 91 ⟨.struct [(0, 4), (4, 1), (5, 1)], 6, 64, .agg #[.slice none 0 0, .int .i64 0, .bool false, .int .i64 0, .int .i64 0, .int .i64 0]⟩) (.leaf 92 ⟨.other, 1, 8, .nilFunc⟩))) (.node 93 (.leaf 93 ⟨.other, 1, 8, .nilFunc⟩) (.node 94 (.leaf 94 ⟨.struct [(0, 1), (1, 1)], 2, 16, .agg #[.int .i64 0, .bool false]⟩) (.leaf 95 ⟨.struct [(0, 1), (1, 1)], 2, 16, .agg #[.int .i64 0, .bool false]⟩)))) (.node 99 (.node 97 (.leaf 97 ⟨.other, 1, 8, .nilFunc⟩) (.node 98 (.leaf 98 ⟨.other, 1, 8, .nilFunc⟩) (.leaf 99 ⟨.other, 1, 8, .nilFunc⟩))) (.node 100 (.leaf 100 ⟨.other, 1, 8, .nilFunc⟩) (.node 101 (.leaf 101 ⟨.ptr, 1, 8, .pointer none⟩) (.leaf 102 ⟨.other, 1, 8, .nilFunc⟩)))))))) (.node 154 (.node 129 (.node 115 (.node 108 (.node 104 (.node 103 (.leaf 103 ⟨.other, 1, 8, .nilFunc⟩) (.leaf 104 ⟨.struct [(0, 1)], 1, 8, .agg #[.nilFunc]⟩)) (.node 105 (.leaf 105 ⟨.struct [(0, 1)], 1, 8, .agg #[.nilFunc]⟩) (.node 107 (.leaf 107 ⟨.other, 1, 8, .map none⟩) (.leaf 108 ⟨.other, 1, 8, .nilFunc⟩)))) (.node 112 (.node 109 (.leaf 109 ⟨.other, 1, 8, .nilFunc⟩) (.node 111 (.leaf 111 ⟨.other, 1, 8, .nilFunc⟩) (.leaf 112 ⟨.other, 1, 8, .nilFunc⟩))) (.node 113 (.leaf 113 ⟨.other, 1, 8, .nilFunc⟩) (.node 114 (.leaf 114 ⟨.other, 1, 8, .nilFunc⟩) (.leaf 115 ⟨.other, 1, 8, .nilFunc⟩))))) (.node 122 (.node 118 (.node 116 (.leaf 116 ⟨.other, 1, 8, .nilFunc⟩) (.node 117 (.leaf 117 ⟨.other, 1, 8, .nilFunc⟩) (.leaf 118 ⟨.other, 1, 8, .nilFunc⟩))) (.node 119 (.leaf 119 ⟨.other, 1, 8, .nilFunc⟩) (.node 120 (.leaf 120 ⟨.int .u64, 1, 8, .int .u64 0⟩) (.leaf 122 ⟨.other, 1, 8, .nilFunc⟩)))) (.node 125 (.node 123 (.leaf 123 ⟨.other, 1, 8, .nilFunc⟩) (.node 124 (.leaf 124 ⟨.int .u64, 1, 8, .int .u64 0⟩) (.leaf 125 ⟨.other, 1, 8, .nilFunc⟩))) (.node 126 (.leaf 126 ⟨.other, 1, 8, .nilFunc⟩) (.node 128 (.leaf 128 ⟨.other, 1, 8, .nilFunc⟩) (.leaf 129 ⟨.other, 1, 8, .nilFunc⟩)))))) (.node 140 (.node 134 (.node 131 (.node 130 (.leaf 130 ⟨.other, 1, 8, .nilFunc⟩) (.leaf 131 ⟨.other, 1, 8, .nilFunc⟩)) (.node 132 (.leaf 132 ⟨.other, 1, 8, .nilFunc⟩) (.node 133 (.leaf 133 ⟨.other, 1, 8, .nilFunc⟩) (.leaf 134 ⟨.other, 1, 8, .nilFunc⟩)))) (.node 137 (.node 135 (.leaf 135 ⟨.ptr, 1, 8, .pointer none⟩) (.node 136 (.leaf 136 ⟨.ptr, 1, 8, .pointer none⟩) (.leaf 137 ⟨.struct [(0, 1), (1, 1)], 2, 24, .agg #[.string ⟨#[]⟩, .int .i64 0]⟩))) (.node 138 (.leaf 138 ⟨.struct [(0, 1), (1, 1)], 2, 24, .agg #[.string ⟨#[]⟩, .int .i64 0]⟩) (.node 139 (.leaf 139 ⟨.other, 1, 8, .nilFunc⟩) (.leaf 140 ⟨.other, 1, 8, .nilFunc⟩))))) (.node 147 (.node 143 (.node 141 (.leaf 141 ⟨.other, 1, 8, .nilFunc⟩) (.node 142 (.leaf 142 ⟨.other, 1, 8, .nilFunc⟩) (.leaf 143 ⟨.other, 1, 8, .nilFunc⟩))) (.node 144 (.leaf 144 ⟨.other, 1, 8, .nilFunc⟩) (.node 145 (.leaf 145 ⟨.other, 1, 8, .nilFunc⟩) (.leaf 147 ⟨.other, 1, 8, .nilFunc⟩)))) (.node 150 (.node 148 (.leaf 148 ⟨.other, 1, 8, .nilFunc⟩) (.node 149 (.leaf 149 ⟨.struct [(0, 1), (1, 1)], 2, 32, .agg #[.slice none 0 0, .int .u32 0]⟩) (.leaf 150 ⟨.struct [(0, 1), (1, 1)], 2, 32, .agg #[.slice none 0 0, .int .u32 0]⟩))) (.node 151 (.leaf 151 ⟨.other, 1, 8, .nilFunc⟩) (.node 153 (.leaf 153 ⟨.other, 1, 8, .map none⟩) (.leaf 154 ⟨.other, 1, 8, .nilFunc⟩))))))) (.node 189 (.node 168 (.node 159 (.node 156 (.node 155 (.leaf 155 ⟨.other, 1, 8, .nilFunc⟩) (.leaf 156 ⟨.other, 1, 8, .nilFunc⟩)) (.node 157 (.leaf 157 ⟨.other, 1, 8, .nilFunc⟩) (.node 158 (.leaf 158 ⟨.other, 1, 8, .nilFunc⟩) (.leaf 159 ⟨.other, 1, 8, .nilFunc⟩)))) (.node 164 (.node 160 (.leaf 160 ⟨.other, 1, 8, .nilFunc⟩) (.node 162 (.leaf 162 ⟨.other, 1, 8, .nilFunc⟩) (.leaf 164 ⟨.other, 1, 8, .nilFunc⟩))) (.node 166 (.leaf 166 ⟨.other, 1, 8, .nilFunc⟩) (.node 167 (.leaf 167 ⟨.other, 1, 8, .nilFunc⟩) (.leaf 168 ⟨.other, 1, 8, .nilFunc⟩))))) (.node 175 (.node 171 (.node 169 (.leaf 169 ⟨.struct [(0, 2), (2, 1)], 3, 24, .agg #[.int .i64 0, .bool false, .int .i64 0]⟩) (.node 170 (.leaf 170 ⟨.array 6 169, 18, 144, .agg #[.int .i64 0, .bool false, .int .i64 0, .int .i64 0, .bool false, .int .i64 0, .int .i64 0, .bool false, .int .i64 0, .int .i64 0, .bool false, .int .i64 0, .int .i64 0, .bool false, .int .i64 0, .int .i64 0, .bool false, .int .i64 0]⟩) (.leaf 171 ⟨.struct [(0, 1)], 1, 8, .agg #[.int .i64 0]⟩))) (.node 172 (.leaf 172 ⟨.struct [(0, 1)], 1, 8, .agg #[.int .i64 0]⟩) (.node 173 (.leaf 173 ⟨.other, 1, 8, .nilFunc⟩) (.leaf 175 ⟨.other, 1, 8, .nilFunc⟩)))) (.node 179 (.node 176 (.leaf 176 ⟨.other, 1, 8, .nilFunc⟩) (.node 178 (.leaf 178 ⟨.struct [(0, 1), (1, 1)], 2, 48, .agg #[.slice none 0 0, .slice none 0 0]⟩) (.leaf 179 ⟨.other, 1, 8, .nilFunc⟩))) (.node 182 (.leaf 182 ⟨.other, 1, 8, .nilFunc⟩) (.node 183 (.leaf 183 ⟨.slice 54, 1, 24, .slice none 0 0⟩) (.leaf 189 ⟨.other, 1, 8, .nilFunc⟩)))))) (.node 216 (.node 199 (.node 196 (.node 193 (.leaf 193 ⟨.other, 1, 8, .nilFunc⟩) (.node 194 (.leaf 194 ⟨.other, 1, 8, .nilFunc⟩) (.leaf 196 ⟨.struct [(0, 1), (1, 1)], 2, 16, .agg #[.nilFunc, .nilFunc]⟩))) (.node 197 (.leaf 197 ⟨.slice 5, 1, 24, .slice none 0 0⟩) (.node 198 (.leaf 198 ⟨.other, 1, 8, .nilFunc⟩) (.leaf 199 ⟨.other, 1, 8, .nilFunc⟩)))) (.node 204 (.node 200 (.leaf 200 ⟨.other, 1, 8, .nilFunc⟩) (.node 202 (.leaf 202 ⟨.ptr, 1, 8, .pointer none⟩) (.leaf 204 ⟨.struct [(0, 1), (1, 1)], 2, 32, .agg #[.pointer none, .slice none 0 0]⟩))) (.node 207 (.leaf 207 ⟨.other, 1, 16, .nilIface⟩) (.node 213 (.leaf 213 ⟨.other, 1, 8, .nilFunc⟩) (.leaf 216 ⟨.struct [(0, 1)], 1, 8, .agg #[.int .i64 0]⟩))))) (.node 237 (.node 232 (.node 224 (.leaf 224 ⟨.other, 1, 8, .nilFunc⟩) (.node 230 (.leaf 230 ⟨.struct [(0, 1)], 1, 8, .agg #[.int .i64 0]⟩) (.leaf 232 ⟨.slice 23, 1, 24, .slice none 0 0⟩))) (.node 234 (.leaf 234 ⟨.other, 1, 8, .nilFunc⟩) (.node 235 (.leaf 235 ⟨.other, 1, 8, .nilFunc⟩) (.leaf 237 ⟨.other, 1, 8, .nilFunc⟩)))) (.node 256 (.node 241 (.leaf 241 ⟨.other, 1, 8, .nilFunc⟩) (.node 250 (.leaf 250 ⟨.other, 1, 8, .nilFunc⟩) (.leaf 256 ⟨.other, 1, 8, .nilFunc⟩))) (.node 269 (.leaf 269 ⟨.array 3 21, 3, 12, .agg #[.int .i32 0, .int .i32 0, .int .i32 0]⟩) (.node 270 (.leaf 270 ⟨.array 3 21, 3, 12, .agg #[.int .i32 0, .int .i32 0, .int .i32 0]⟩) (.leaf 271 ⟨.struct [(0, 1), (1, 1), (2, 3)], 5, 20, .agg #[.int .u32 0, .int .u32 0, .int .i32 0, .int .i32 0, .int .i32 0]⟩)))))))))
theorem tysOk : tys.All Tryz.prog := ⟨⟨⟨⟨⟨⟨⟨te1, te2⟩, ⟨te3, ⟨te4, te5⟩⟩⟩, ⟨⟨te6, ⟨te7, te8⟩⟩, ⟨te9, ⟨te10, te11⟩⟩⟩⟩, ⟨⟨⟨te12, ⟨te13, te14⟩⟩, ⟨te15, ⟨te16, te17⟩⟩⟩, ⟨⟨te18, ⟨te19, te20⟩⟩, ⟨te21, ⟨te22, te23⟩⟩⟩⟩⟩, ⟨⟨⟨⟨te24, te25⟩, ⟨te26, ⟨te27, te28⟩⟩⟩, ⟨⟨te30, ⟨te31, te32⟩⟩, ⟨te33, ⟨te34, te35⟩⟩⟩⟩, ⟨⟨⟨te37, ⟨te38, te39⟩⟩, ⟨te40, ⟨te42, te43⟩⟩⟩, ⟨⟨te44, ⟨te45, te46⟩⟩, ⟨te47, ⟨te48, te49⟩⟩⟩⟩⟩⟩, ⟨⟨⟨⟨⟨te50, te51⟩, ⟨te52, ⟨te53, te54⟩⟩⟩, ⟨⟨te55, ⟨te57, te58⟩⟩, ⟨te59, ⟨te60, te61⟩⟩⟩⟩, ⟨⟨⟨te62, ⟨te64, te66⟩⟩, ⟨te67, ⟨te68, te69⟩⟩⟩, ⟨⟨te70, ⟨te71, te72⟩⟩, ⟨te73, ⟨te74, te75⟩⟩⟩⟩⟩, ⟨⟨⟨⟨te76, ⟨te77, te78⟩⟩, ⟨te79, ⟨te80, te81⟩⟩⟩, ⟨⟨te82, ⟨te84, te85⟩⟩, ⟨te86, ⟨te87, te89⟩⟩⟩⟩, ⟨⟨⟨te90, ⟨te91, te92⟩⟩, ⟨te93, ⟨te94, te95⟩⟩⟩, ⟨⟨te97, ⟨te98, te99⟩⟩, ⟨te100, ⟨te101, te102⟩⟩⟩⟩⟩⟩⟩, ⟨⟨⟨⟨⟨⟨te103, te104⟩, ⟨te105, ⟨te107, te108⟩⟩⟩, ⟨⟨te109, ⟨te111, te112⟩⟩, ⟨te113, ⟨te114, te115⟩⟩⟩⟩, ⟨⟨⟨te116, ⟨te117, te118⟩⟩, ⟨te119, ⟨te120, te122⟩⟩⟩, ⟨⟨te123, ⟨te124, te125⟩⟩, ⟨te126, ⟨te128, te129⟩⟩⟩⟩⟩, ⟨⟨⟨⟨te130, te131⟩, ⟨te132, ⟨te133, te134⟩⟩⟩, ⟨⟨te135, ⟨te136, te137⟩⟩, ⟨te138, ⟨te139, te140⟩⟩⟩⟩, ⟨⟨⟨te141, ⟨te142, te143⟩⟩, ⟨te144, ⟨te145, te147⟩⟩⟩, ⟨⟨te148, ⟨te149, te150⟩⟩, ⟨te151, ⟨te153, te154⟩⟩⟩⟩⟩⟩, ⟨⟨⟨⟨⟨te155, te156⟩, ⟨te157, ⟨te158, te159⟩⟩⟩, ⟨⟨te160, ⟨te162, te164⟩⟩, ⟨te166, ⟨te167, te168⟩⟩⟩⟩, ⟨⟨⟨te169, ⟨te170, te171⟩⟩, ⟨te172, ⟨te173, te175⟩⟩⟩, ⟨⟨te176, ⟨te178, te179⟩⟩, ⟨te182, ⟨te183, te189⟩⟩⟩⟩⟩, ⟨⟨⟨⟨te193, ⟨te194, te196⟩⟩, ⟨te197, ⟨te198, te199⟩⟩⟩, ⟨⟨te200, ⟨te202, te204⟩⟩, ⟨te207, ⟨te213, te216⟩⟩⟩⟩, ⟨⟨⟨te224, ⟨te230, te232⟩⟩, ⟨te234, ⟨te235, te237⟩⟩⟩, ⟨⟨te241, ⟨te250, te256⟩⟩, ⟨te269, ⟨te270, te271⟩⟩⟩⟩⟩⟩⟩⟩
noncomputable def C : Ctx := ⟨Tryz.prog, [], tys.get, fun _ _ h => Tr.get_ok tysOk h⟩
theorem mixC : C.P.follows .mixedOrders = true := by kernel_rfl
abbrev Zb1 : FuncId := 11
theorem ZbN : C.P.funcs[11]? = some Tryz.f11 := Tryz.func11
theorem ZdL : Enters C.P 11 := Enters.mk ZbN (by kernel_rfl) (by kernel_rfl)
theorem ZdM : Tryz.f11.ntmps = 82 := Tryz.ntmps11
theorem ZdN : Tryz.f11.results = #[ResultVar.tmp 8] := Tryz.results11
abbrev ZeA : FuncId := 12
theorem Zb2 : C.P.funcs[12]? = some Tryz.f12 := Tryz.func12
theorem Zd4 : Enters C.P 12 := Enters.mk Zb2 (by kernel_rfl) (by kernel_rfl)
theorem Zd5 : Tryz.f12.ntmps = 133 := Tryz.ntmps12
theorem Zd6 : Tryz.f12.results = #[ResultVar.tmp 6] := Tryz.results12
abbrev Zir : FuncId := 18
theorem Zdu : C.P.funcs[18]? = some Tryz.f18 := Tryz.func18
theorem Zhc : Enters C.P 18 := Enters.mk Zdu (by kernel_rfl) (by kernel_rfl)
theorem Zhd : Tryz.f18.ntmps = 10 := Tryz.ntmps18
theorem Zhe : Tryz.f18.results = #[ResultVar.tmp 4] := Tryz.results18
abbrev Zis : FuncId := 19
theorem Zdv : C.P.funcs[19]? = some Tryz.f19 := Tryz.func19
theorem Zhf : Enters C.P 19 := Enters.mk Zdv (by kernel_rfl) (by kernel_rfl)
theorem Zhg : Tryz.f19.ntmps = 73 := Tryz.ntmps19
theorem Zhh : Tryz.f19.results = #[ResultVar.tmp 0] := Tryz.results19
abbrev Zgf : FuncId := 20
theorem Ze4 : C.P.funcs[20]? = some Tryz.f20 := Tryz.func20
theorem Zjh : Enters C.P 20 := Enters.mk Ze4 (by kernel_rfl) (by kernel_rfl)
theorem Zji : Tryz.f20.ntmps = 39 := Tryz.ntmps20
theorem Zjj : Tryz.f20.results = #[ResultVar.cell 6 25, ResultVar.cell 7 25, ResultVar.cell 8 28] := Tryz.results20
abbrev Zh3 : FuncId := 22
theorem Zgg : C.P.funcs[22]? = some Tryz.f22 := Tryz.func22
theorem ZkM : Enters C.P 22 := Enters.mk Zgg (by kernel_rfl) (by kernel_rfl)
theorem ZkN : Tryz.f22.ntmps = 17 := Tryz.ntmps22
theorem ZkO : Tryz.f22.results = #[ResultVar.tmp 4] := Tryz.results22
abbrev Zgh : FuncId := 23
theorem Ze5 : C.P.funcs[23]? = some Tryz.f23 := Tryz.func23
theorem Zjk : Enters C.P 23 := Enters.mk Ze5 (by kernel_rfl) (by kernel_rfl)
theorem Zjl : Tryz.f23.ntmps = 25 := Tryz.ntmps23
theorem Zjm : Tryz.f23.results = #[ResultVar.cell 4 25, ResultVar.cell 5 25, ResultVar.cell 6 25, ResultVar.cell 7 28] := Tryz.results23
abbrev ZkP : FuncId := 26
theorem Ze6 : C.P.funcs[26]? = some Tryz.f26 := Tryz.func26
theorem Zjn : Enters C.P 26 := Enters.mk Ze6 (by kernel_rfl) (by kernel_rfl)
theorem Zjo : Tryz.f26.ntmps = 17 := Tryz.ntmps26
theorem Zjp : Tryz.f26.results = #[ResultVar.tmp 6] := Tryz.results26
abbrev Zjq : FuncId := 36
theorem Zd7 : C.P.funcs[36]? = some Tryz.f36 := Tryz.func36
theorem Zit : Enters C.P 36 := Enters.mk Zd7 (by kernel_rfl) (by kernel_rfl)
theorem Ziu : Tryz.f36.ntmps = 28 := Tryz.ntmps36
theorem Ziv : Tryz.f36.results = #[ResultVar.tmp 4] := Tryz.results36
abbrev Zgi : FuncId := 37
theorem Zcw : C.P.funcs[37]? = some Tryz.f37 := Tryz.func37
theorem Zfq : Enters C.P 37 := Enters.mk Zcw (by kernel_rfl) (by kernel_rfl)
theorem Zfr : Tryz.f37.ntmps = 14 := Tryz.ntmps37
theorem Zfs : Tryz.f37.results = #[ResultVar.cell 2 25] := Tryz.results37
abbrev Zd8 : FuncId := 38
theorem Zdw : C.P.funcs[38]? = some Tryz.f38 := Tryz.func38
theorem Zhi : Enters C.P 38 := Enters.mk Zdw (by kernel_rfl) (by kernel_rfl)
theorem Zhj : Tryz.f38.ntmps = 38 := Tryz.ntmps38
theorem Zhk : Tryz.f38.results = #[ResultVar.tmp 4] := Tryz.results38
abbrev Ziw : FuncId := 49
theorem Zdx : C.P.funcs[49]? = some Tryz.f49 := Tryz.func49
theorem Zhl : Enters C.P 49 := Enters.mk Zdx (by kernel_rfl) (by kernel_rfl)
theorem Zhm : Tryz.f49.ntmps = 17 := Tryz.ntmps49
theorem Zhn : Tryz.f49.results = #[ResultVar.tmp 2] := Tryz.results49
abbrev ZkQ : FuncId := 50
theorem Ze7 : C.P.funcs[50]? = some Tryz.f50 := Tryz.func50
theorem Zjr : Enters C.P 50 := Enters.mk Ze7 (by kernel_rfl) (by kernel_rfl)
theorem Zjs : Tryz.f50.ntmps = 17 := Tryz.ntmps50
theorem Zjt : Tryz.f50.results = #[ResultVar.tmp 2] := Tryz.results50
abbrev Zix : FuncId := 51
theorem Zdy : C.P.funcs[51]? = some Tryz.f51 := Tryz.func51
theorem Zho : Enters C.P 51 := Enters.mk Zdy (by kernel_rfl) (by kernel_rfl)
theorem Zhp : Tryz.f51.ntmps = 17 := Tryz.ntmps51
theorem Zhq : Tryz.f51.results = #[ResultVar.cell 2 25] := Tryz.results51
abbrev ZcY : FuncId := 54
theorem Zd9 : C.P.funcs[54]? = some Tryz.f54 := Tryz.func54
theorem Ziy : Enters C.P 54 := Enters.mk Zd9 (by kernel_rfl) (by kernel_rfl)
theorem Ziz : Tryz.f54.ntmps = 32 := Tryz.ntmps54
theorem ZiA : Tryz.f54.results = #[ResultVar.tmp 6, ResultVar.tmp 7] := Tryz.results54
abbrev ZlK : FuncId := 55
theorem Zgj : C.P.funcs[55]? = some Tryz.f55 := Tryz.func55
theorem ZkR : Enters C.P 55 := Enters.mk Zgj (by kernel_rfl) (by kernel_rfl)
theorem ZkS : Tryz.f55.ntmps = 30 := Tryz.ntmps55
theorem ZkT : Tryz.f55.results = #[ResultVar.tmp 6, ResultVar.tmp 7] := Tryz.results55
abbrev Zcm : FuncId := 56
theorem Zdz : C.P.funcs[56]? = some Tryz.f56 := Tryz.func56
theorem Zhr : Enters C.P 56 := Enters.mk Zdz (by kernel_rfl) (by kernel_rfl)
theorem Zhs : Tryz.f56.ntmps = 40 := Tryz.ntmps56
theorem Zht : Tryz.f56.results = #[ResultVar.cell 4 25, ResultVar.cell 5 28, ResultVar.cell 6 3] := Tryz.results56
abbrev ZkU : FuncId := 57
theorem Ze8 : C.P.funcs[57]? = some Tryz.f57 := Tryz.func57
theorem Zju : Enters C.P 57 := Enters.mk Ze8 (by kernel_rfl) (by kernel_rfl)
theorem Zjv : Tryz.f57.ntmps = 68 := Tryz.ntmps57
theorem Zjw : Tryz.f57.results = #[ResultVar.cell 4 68] := Tryz.results57
abbrev Zgk : FuncId := 58
theorem Zcx : C.P.funcs[58]? = some Tryz.f58 := Tryz.func58
theorem Zft : Enters C.P 58 := Enters.mk Zcx (by kernel_rfl) (by kernel_rfl)
theorem Zfu : Tryz.f58.ntmps = 29 := Tryz.ntmps58
theorem Zfv : Tryz.f58.results = #[ResultVar.tmp 2] := Tryz.results58
abbrev Zbs : FuncId := 78
theorem ZbO : C.P.funcs[78]? = some Tryz.f78 := Tryz.func78
theorem ZcZ : Enters C.P 78 := Enters.mk ZbO (by kernel_rfl) (by kernel_rfl)
theorem Zc0 : Tryz.f78.ntmps = 15 := Tryz.ntmps78
theorem Zc1 : Tryz.f78.results = #[] := Tryz.results78
abbrev Zjx : FuncId := 79
theorem Zea : C.P.funcs[79]? = some Tryz.f79 := Tryz.func79
theorem ZiB : Enters C.P 79 := Enters.mk Zea (by kernel_rfl) (by kernel_rfl)
theorem ZiC : Tryz.f79.ntmps = 6 := Tryz.ntmps79
theorem ZiD : Tryz.f79.results = #[] := Tryz.results79
abbrev ZiE : FuncId := 80
theorem ZdA : C.P.funcs[80]? = some Tryz.f80 := Tryz.func80
theorem Zhu : Enters C.P 80 := Enters.mk ZdA (by kernel_rfl) (by kernel_rfl)
theorem Zhv : Tryz.f80.ntmps = 7 := Tryz.ntmps80
theorem Zhw : Tryz.f80.results = #[ResultVar.tmp 0] := Tryz.results80
abbrev Zjy : FuncId := 81
theorem Zeb : C.P.funcs[81]? = some Tryz.f81 := Tryz.func81
theorem ZiF : Enters C.P 81 := Enters.mk Zeb (by kernel_rfl) (by kernel_rfl)
theorem ZiG : Tryz.f81.ntmps = 9 := Tryz.ntmps81
theorem ZiH : Tryz.f81.results = #[] := Tryz.results81
abbrev Zhx : FuncId := 82
theorem Zc2 : C.P.funcs[82]? = some Tryz.f82 := Tryz.func82
theorem Zgl : Enters C.P 82 := Enters.mk Zc2 (by kernel_rfl) (by kernel_rfl)
theorem Zgm : Tryz.f82.ntmps = 69 := Tryz.ntmps82
theorem Zgn : Tryz.f82.results = #[ResultVar.cell 6 25, ResultVar.cell 7 25] := Tryz.results82
abbrev Zgo : FuncId := 83
theorem Ze9 : C.P.funcs[83]? = some Tryz.f83 := Tryz.func83
theorem Zjz : Enters C.P 83 := Enters.mk Ze9 (by kernel_rfl) (by kernel_rfl)
theorem ZjA : Tryz.f83.ntmps = 9 := Tryz.ntmps83
theorem ZjB : Tryz.f83.results = #[ResultVar.cell 2 25] := Tryz.results83
abbrev ZlL : FuncId := 85
theorem Zgp : C.P.funcs[85]? = some Tryz.f85 := Tryz.func85
theorem ZkV : Enters C.P 85 := Enters.mk Zgp (by kernel_rfl) (by kernel_rfl)
theorem ZkW : Tryz.f85.ntmps = 26 := Tryz.ntmps85
theorem ZkX : Tryz.f85.results = #[ResultVar.tmp 4] := Tryz.results85
abbrev ZkY : FuncId := 86
theorem Zfa : C.P.funcs[86]? = some Tryz.f86 := Tryz.func86
theorem ZjC : Enters C.P 86 := Enters.mk Zfa (by kernel_rfl) (by kernel_rfl)
theorem ZjD : Tryz.f86.ntmps = 83 := Tryz.ntmps86
theorem ZjE : Tryz.f86.results = #[ResultVar.cell 4 25, ResultVar.cell 5 25, ResultVar.cell 6 25] := Tryz.results86
abbrev Zlv : FuncId := 87
theorem ZjF : C.P.funcs[87]? = some Tryz.f87 := Tryz.func87
theorem ZmD : Enters C.P 87 := Enters.mk ZjF (by kernel_rfl) (by kernel_rfl)
theorem ZmE : Tryz.f87.ntmps = 14 := Tryz.ntmps87
theorem ZmF : Tryz.f87.results = #[ResultVar.cell 4 25] := Tryz.results87
abbrev ZkZ : FuncId := 95
theorem Zfb : C.P.funcs[95]? = some Tryz.f95 := Tryz.func95
theorem ZjG : Enters C.P 95 := Enters.mk Zfb (by kernel_rfl) (by kernel_rfl)
theorem ZjH : Tryz.f95.ntmps = 34 := Tryz.ntmps95
theorem ZjI : Tryz.f95.results = #[ResultVar.tmp 4] := Tryz.results95
abbrev Zgq : FuncId := 97
theorem Zcy : C.P.funcs[97]? = some Tryz.f97 := Tryz.func97
theorem Zfw : Enters C.P 97 := Enters.mk Zcy (by kernel_rfl) (by kernel_rfl)
theorem Zfx : Tryz.f97.ntmps = 9 := Tryz.ntmps97
theorem Zfy : Tryz.f97.results = #[ResultVar.cell 2 25] := Tryz.results97
abbrev Zk0 : FuncId := 99
theorem Zfc : C.P.funcs[99]? = some Tryz.f99 := Tryz.func99
theorem ZjJ : Enters C.P 99 := Enters.mk Zfc (by kernel_rfl) (by kernel_rfl)
theorem ZjK : Tryz.f99.ntmps = 51 := Tryz.ntmps99
theorem ZjL : Tryz.f99.results = #[ResultVar.cell 4 25] := Tryz.results99
abbrev Zgr : FuncId := 102
theorem Zcz : C.P.funcs[102]? = some Tryz.f102 := Tryz.func102
theorem Zfz : Enters C.P 102 := Enters.mk Zcz (by kernel_rfl) (by kernel_rfl)
theorem ZfA : Tryz.f102.ntmps = 19 := Tryz.ntmps102
theorem ZfB : Tryz.f102.results = #[ResultVar.cell 4 25] := Tryz.results102
abbrev ZiI : FuncId := 104
theorem ZdB : C.P.funcs[104]? = some Tryz.f104 := Tryz.func104
theorem Zhy : Enters C.P 104 := Enters.mk ZdB (by kernel_rfl) (by kernel_rfl)
theorem Zhz : Tryz.f104.ntmps = 10 := Tryz.ntmps104
theorem ZhA : Tryz.f104.results = #[ResultVar.cell 2 45] := Tryz.results104
abbrev ZdC : FuncId := 106
theorem Zc3 : C.P.funcs[106]? = some Tryz.f106 := Tryz.func106
theorem Zgs : Enters C.P 106 := Enters.mk Zc3 (by kernel_rfl) (by kernel_rfl)
theorem Zgt : Tryz.f106.ntmps = 13 := Tryz.ntmps106
theorem Zgu : Tryz.f106.results = #[ResultVar.cell 4 25] := Tryz.results106
abbrev ZhB : FuncId := 107
theorem Zc4 : C.P.funcs[107]? = some Tryz.f107 := Tryz.func107
theorem Zgv : Enters C.P 107 := Enters.mk Zc4 (by kernel_rfl) (by kernel_rfl)
theorem Zgw : Tryz.f107.ntmps = 5 := Tryz.ntmps107
theorem Zgx : Tryz.f107.results = #[ResultVar.tmp 2] := Tryz.results107
abbrev ZjM : FuncId := 108
theorem Zec : C.P.funcs[108]? = some Tryz.f108 := Tryz.func108
theorem ZiJ : Enters C.P 108 := Enters.mk Zec (by kernel_rfl) (by kernel_rfl)
theorem ZiK : Tryz.f108.ntmps = 11 := Tryz.ntmps108
theorem ZiL : Tryz.f108.results = #[ResultVar.tmp 2] := Tryz.results108
abbrev ZlM : FuncId := 110
theorem Zgy : C.P.funcs[110]? = some Tryz.f110 := Tryz.func110
theorem Zk1 : Enters C.P 110 := Enters.mk Zgy (by kernel_rfl) (by kernel_rfl)
theorem Zk2 : Tryz.f110.ntmps = 25 := Tryz.ntmps110
theorem Zk3 : Tryz.f110.results = #[ResultVar.tmp 2] := Tryz.results110
abbrev Zk4 : FuncId := 111
theorem Zfd : C.P.funcs[111]? = some Tryz.f111 := Tryz.func111
theorem ZjN : Enters C.P 111 := Enters.mk Zfd (by kernel_rfl) (by kernel_rfl)
theorem ZjO : Tryz.f111.ntmps = 20 := Tryz.ntmps111
theorem ZjP : Tryz.f111.results = #[ResultVar.tmp 2] := Tryz.results111
abbrev Zk5 : FuncId := 112
theorem Zfe : C.P.funcs[112]? = some Tryz.f112 := Tryz.func112
theorem ZjQ : Enters C.P 112 := Enters.mk Zfe (by kernel_rfl) (by kernel_rfl)
theorem ZjR : Tryz.f112.ntmps = 20 := Tryz.ntmps112
theorem ZjS : Tryz.f112.results = #[ResultVar.tmp 2] := Tryz.results112
abbrev ZjT : FuncId := 113
theorem Zh4 : C.P.funcs[113]? = some Tryz.f113 := Tryz.func113
theorem ZlN : Enters C.P 113 := Enters.mk Zh4 (by kernel_rfl) (by kernel_rfl)
theorem ZlO : Tryz.f113.ntmps = 36 := Tryz.ntmps113
theorem ZlP : Tryz.f113.results = #[ResultVar.tmp 4] := Tryz.results113
abbrev Znv : FuncId := 114
theorem ZjU : C.P.funcs[114]? = some Tryz.f114 := Tryz.func114
theorem ZmG : Enters C.P 114 := Enters.mk ZjU (by kernel_rfl) (by kernel_rfl)
theorem ZmH : Tryz.f114.ntmps = 10 := Tryz.ntmps114
theorem ZmI : Tryz.f114.results = #[ResultVar.tmp 2] := Tryz.results114
abbrev ZaF : FuncId := 116
theorem Zed : C.P.funcs[116]? = some Tryz.f116 := Tryz.func116
theorem ZiM : Enters C.P 116 := Enters.mk Zed (by kernel_rfl) (by kernel_rfl)
theorem ZiN : Tryz.f116.ntmps = 10 := Tryz.ntmps116
theorem ZiO : Tryz.f116.results = #[ResultVar.tmp 4] := Tryz.results116
abbrev ZiP : FuncId := 118
theorem ZdD : C.P.funcs[118]? = some Tryz.f118 := Tryz.func118
theorem ZhC : Enters C.P 118 := Enters.mk ZdD (by kernel_rfl) (by kernel_rfl)
theorem ZhD : Tryz.f118.ntmps = 14 := Tryz.ntmps118
theorem ZhE : Tryz.f118.results = #[ResultVar.tmp 4] := Tryz.results118
abbrev ZmJ : FuncId := 121
theorem Zh5 : C.P.funcs[121]? = some Tryz.f121 := Tryz.func121
theorem ZlQ : Enters C.P 121 := Enters.mk Zh5 (by kernel_rfl) (by kernel_rfl)
theorem ZlR : Tryz.f121.ntmps = 12 := Tryz.ntmps121
theorem ZlS : Tryz.f121.results = #[ResultVar.tmp 4, ResultVar.tmp 5] := Tryz.results121
abbrev ZmK : FuncId := 122
theorem Zh6 : C.P.funcs[122]? = some Tryz.f122 := Tryz.func122
theorem ZlT : Enters C.P 122 := Enters.mk Zh6 (by kernel_rfl) (by kernel_rfl)
theorem ZlU : Tryz.f122.ntmps = 12 := Tryz.ntmps122
theorem ZlV : Tryz.f122.results = #[ResultVar.tmp 4, ResultVar.tmp 5] := Tryz.results122
abbrev ZjV : FuncId := 123
theorem Zee : C.P.funcs[123]? = some Tryz.f123 := Tryz.func123
theorem ZiQ : Enters C.P 123 := Enters.mk Zee (by kernel_rfl) (by kernel_rfl)
theorem ZiR : Tryz.f123.ntmps = 23 := Tryz.ntmps123
theorem ZiS : Tryz.f123.results = #[ResultVar.tmp 4] := Tryz.results123
abbrev ZeB : FuncId := 124
theorem Zef : C.P.funcs[124]? = some Tryz.f124 := Tryz.func124
theorem Zeg : Enters C.P 124 := Enters.mk Zef (by kernel_rfl) (by kernel_rfl)
abbrev Zb6 : FuncId := 125
theorem Zc5 : C.P.funcs[125]? = some Tryz.f125 := Tryz.func125
theorem Zgz : Enters C.P 125 := Enters.mk Zc5 (by kernel_rfl) (by kernel_rfl)
theorem ZgA : Tryz.f125.ntmps = 65 := Tryz.ntmps125
theorem ZgB : Tryz.f125.results = #[ResultVar.tmp 6] := Tryz.results125
abbrev Zbv : FuncId := 126
theorem ZbH : C.P.funcs[126]? = some Tryz.f126 := Tryz.func126
theorem Zcn : Enters C.P 126 := Enters.mk ZbH (by kernel_rfl) (by kernel_rfl)
theorem Zco : Tryz.f126.ntmps = 29 := Tryz.ntmps126
theorem Zcp : Tryz.f126.results = #[] := Tryz.results126
abbrev Za0 : FuncId := 127
theorem ZaS : C.P.funcs[127]? = some Tryz.f127 := Tryz.func127
theorem ZbC : Enters C.P 127 := Enters.mk ZaS (by kernel_rfl) (by kernel_rfl)
theorem ZbD : Tryz.f127.ntmps = 36 := Tryz.ntmps127
theorem ZbE : Tryz.f127.results = #[ResultVar.tmp 4] := Tryz.results127
abbrev Zc6 : FuncId := 128
theorem Zbl : C.P.funcs[128]? = some Tryz.f128 := Tryz.func128
theorem ZcO : Enters C.P 128 := Enters.mk Zbl (by kernel_rfl) (by kernel_rfl)
theorem ZcP : Tryz.f128.ntmps = 87 := Tryz.ntmps128
theorem ZcQ : Tryz.f128.results = #[ResultVar.tmp 8] := Tryz.results128
abbrev Zeh : FuncId := 129
theorem ZbP : C.P.funcs[129]? = some Tryz.f129 := Tryz.func129
theorem ZdO : Enters C.P 129 := Enters.mk ZbP (by kernel_rfl) (by kernel_rfl)
theorem ZdP : Tryz.f129.ntmps = 14 := Tryz.ntmps129
theorem ZdQ : Tryz.f129.results = #[] := Tryz.results129
abbrev Zbt : FuncId := 130
theorem Zc7 : C.P.funcs[130]? = some Tryz.f130 := Tryz.func130
theorem ZgC : Enters C.P 130 := Enters.mk Zc7 (by kernel_rfl) (by kernel_rfl)
theorem ZgD : Tryz.f130.ntmps = 65 := Tryz.ntmps130
theorem ZgE : Tryz.f130.results = #[ResultVar.tmp 4] := Tryz.results130
abbrev ZiT : FuncId := 131
theorem ZdE : C.P.funcs[131]? = some Tryz.f131 := Tryz.func131
theorem ZhF : Enters C.P 131 := Enters.mk ZdE (by kernel_rfl) (by kernel_rfl)
theorem ZhG : Tryz.f131.ntmps = 14 := Tryz.ntmps131
theorem ZhH : Tryz.f131.results = #[ResultVar.tmp 4] := Tryz.results131
abbrev ZjW : FuncId := 132
theorem Zei : C.P.funcs[132]? = some Tryz.f132 := Tryz.func132
theorem ZiU : Enters C.P 132 := Enters.mk Zei (by kernel_rfl) (by kernel_rfl)
theorem ZiV : Tryz.f132.ntmps = 31 := Tryz.ntmps132
theorem ZiW : Tryz.f132.results = #[ResultVar.tmp 4] := Tryz.results132
abbrev Zej : FuncId := 152
theorem ZdF : C.P.funcs[152]? = some Tryz.f152 := Tryz.func152
theorem ZhI : Enters C.P 152 := Enters.mk ZdF (by kernel_rfl) (by kernel_rfl)
theorem ZhJ : Tryz.f152.ntmps = 13 := Tryz.ntmps152
theorem ZhK : Tryz.f152.results = #[ResultVar.tmp 4] := Tryz.results152
abbrev Zek : FuncId := 153
theorem ZeC : C.P.funcs[153]? = some Tryz.f153 := Tryz.func153
theorem Zh7 : Enters C.P 153 := Enters.mk ZeC (by kernel_rfl) (by kernel_rfl)
theorem Zh8 : Tryz.f153.ntmps = 51 := Tryz.ntmps153
theorem Zh9 : Tryz.f153.results = #[ResultVar.tmp 4] := Tryz.results153
abbrev ZlW : FuncId := 159
theorem ZgF : C.P.funcs[159]? = some Tryz.f159 := Tryz.func159
theorem Zk6 : Enters C.P 159 := Enters.mk ZgF (by kernel_rfl) (by kernel_rfl)
theorem Zk7 : Tryz.f159.ntmps = 6 := Tryz.ntmps159
theorem Zk8 : Tryz.f159.results = #[ResultVar.tmp 2] := Tryz.results159
abbrev ZaT : FuncId := 163
theorem Zar : C.P.funcs[163]? = some Tryz.f163 := Tryz.func163
theorem ZaM : Enters C.P 163 := Enters.mk Zar (by kernel_rfl) (by kernel_rfl)
theorem ZaN : Tryz.f163.ntmps = 9 := Tryz.ntmps163
theorem ZaO : Tryz.f163.results = #[ResultVar.tmp 4] := Tryz.results163
abbrev ZdG : FuncId := 164
theorem Zc8 : C.P.funcs[164]? = some Tryz.f164 := Tryz.func164
theorem ZgG : Enters C.P 164 := Enters.mk Zc8 (by kernel_rfl) (by kernel_rfl)
theorem ZgH : Tryz.f164.ntmps = 6 := Tryz.ntmps164
theorem ZgI : Tryz.f164.results = #[ResultVar.tmp 2] := Tryz.results164
abbrev ZbQ : FuncId := 165
theorem ZcA : C.P.funcs[165]? = some Tryz.f165 := Tryz.func165
theorem ZfC : Enters C.P 165 := Enters.mk ZcA (by kernel_rfl) (by kernel_rfl)
theorem ZfD : Tryz.f165.ntmps = 9 := Tryz.ntmps165
theorem ZfE : Tryz.f165.results = #[ResultVar.tmp 8] := Tryz.results165
abbrev ZbR : FuncId := 166
theorem ZcB : C.P.funcs[166]? = some Tryz.f166 := Tryz.func166
theorem ZfF : Enters C.P 166 := Enters.mk ZcB (by kernel_rfl) (by kernel_rfl)
theorem ZfG : Tryz.f166.ntmps = 14 := Tryz.ntmps166
theorem ZfH : Tryz.f166.results = #[ResultVar.tmp 8] := Tryz.results166
abbrev ZbS : FuncId := 167
theorem ZcC : C.P.funcs[167]? = some Tryz.f167 := Tryz.func167
theorem ZfI : Enters C.P 167 := Enters.mk ZcC (by kernel_rfl) (by kernel_rfl)
theorem ZfJ : Tryz.f167.ntmps = 11 := Tryz.ntmps167
theorem ZfK : Tryz.f167.results = #[ResultVar.tmp 8] := Tryz.results167
abbrev ZbT : FuncId := 168
theorem ZcD : C.P.funcs[168]? = some Tryz.f168 := Tryz.func168
theorem ZfL : Enters C.P 168 := Enters.mk ZcD (by kernel_rfl) (by kernel_rfl)
theorem ZfM : Tryz.f168.ntmps = 41 := Tryz.ntmps168
theorem ZfN : Tryz.f168.results = #[ResultVar.tmp 8] := Tryz.results168
abbrev Zel : FuncId := 169
theorem Zia : C.P.funcs[169]? = some Tryz.f169 := Tryz.func169
theorem ZlX : Enters C.P 169 := Enters.mk Zia (by kernel_rfl) (by kernel_rfl)
theorem ZlY : Tryz.f169.ntmps = 14 := Tryz.ntmps169
theorem ZlZ : Tryz.f169.results = #[ResultVar.tmp 4, ResultVar.tmp 5, ResultVar.tmp 6] := Tryz.results169
abbrev ZbB : FuncId := 170
theorem ZaG : C.P.funcs[170]? = some Tryz.f170 := Tryz.func170
theorem Zbw : Enters C.P 170 := Enters.mk ZaG (by kernel_rfl) (by kernel_rfl)
theorem Zbx : Tryz.f170.ntmps = 8 := Tryz.ntmps170
theorem Zby : Tryz.f170.results = #[ResultVar.tmp 2] := Tryz.results170
abbrev ZmL : FuncId := 171
theorem Zib : C.P.funcs[171]? = some Tryz.f171 := Tryz.func171
theorem Zl0 : Enters C.P 171 := Enters.mk Zib (by kernel_rfl) (by kernel_rfl)
theorem Zl1 : Tryz.f171.ntmps = 176 := Tryz.ntmps171
theorem Zl2 : Tryz.f171.results = #[ResultVar.cell 4 178] := Tryz.results171
abbrev ZhL : FuncId := 173
theorem Zc9 : C.P.funcs[173]? = some Tryz.f173 := Tryz.func173
theorem ZgJ : Enters C.P 173 := Enters.mk Zc9 (by kernel_rfl) (by kernel_rfl)
theorem ZgK : Tryz.f173.ntmps = 60 := Tryz.ntmps173
theorem ZgL : Tryz.f173.results = #[ResultVar.tmp 4, ResultVar.cell 5 25, ResultVar.cell 6 25, ResultVar.tmp 7, ResultVar.tmp 8] := Tryz.results173
abbrev Zb7 : FuncId := 174
theorem ZdR : C.P.funcs[174]? = some Tryz.f174 := Tryz.func174
theorem ZgM : Enters C.P 174 := Enters.mk ZdR (by kernel_rfl) (by kernel_rfl)
theorem ZgN : Tryz.f174.ntmps = 23 := Tryz.ntmps174
theorem ZgO : Tryz.f174.results = #[ResultVar.tmp 2] := Tryz.results174
abbrev ZmM : FuncId := 175
theorem Zic : C.P.funcs[175]? = some Tryz.f175 := Tryz.func175
theorem Zl3 : Enters C.P 175 := Enters.mk Zic (by kernel_rfl) (by kernel_rfl)
theorem Zl4 : Tryz.f175.ntmps = 68 := Tryz.ntmps175
theorem Zl5 : Tryz.f175.results = #[ResultVar.tmp 4] := Tryz.results175
abbrev ZmN : FuncId := 176
theorem Zid : C.P.funcs[176]? = some Tryz.f176 := Tryz.func176
theorem Zl6 : Enters C.P 176 := Enters.mk Zid (by kernel_rfl) (by kernel_rfl)
theorem Zl7 : Tryz.f176.ntmps = 12 := Tryz.ntmps176
theorem Zl8 : Tryz.f176.results = #[ResultVar.tmp 4, ResultVar.tmp 5] := Tryz.results176
abbrev ZmO : FuncId := 177
theorem Zie : C.P.funcs[177]? = some Tryz.f177 := Tryz.func177
theorem Zl9 : Enters C.P 177 := Enters.mk Zie (by kernel_rfl) (by kernel_rfl)
theorem Zma : Tryz.f177.ntmps = 30 := Tryz.ntmps177
theorem Zmb : Tryz.f177.results = #[ResultVar.tmp 4] := Tryz.results177
abbrev Znw : FuncId := 179
theorem ZjX : C.P.funcs[179]? = some Tryz.f179 := Tryz.func179
theorem ZmP : Enters C.P 179 := Enters.mk ZjX (by kernel_rfl) (by kernel_rfl)
theorem ZmQ : Tryz.f179.ntmps = 10 := Tryz.ntmps179
theorem ZmR : Tryz.f179.results = #[ResultVar.tmp 2] := Tryz.results179
abbrev ZhM : FuncId := 180
theorem Zda : C.P.funcs[180]? = some Tryz.f180 := Tryz.func180
theorem ZgP : Enters C.P 180 := Enters.mk Zda (by kernel_rfl) (by kernel_rfl)
theorem ZgQ : Tryz.f180.ntmps = 14 := Tryz.ntmps180
theorem ZgR : Tryz.f180.results = #[ResultVar.tmp 4] := Tryz.results180
abbrev Zlw : FuncId := 181
theorem ZjY : C.P.funcs[181]? = some Tryz.f181 := Tryz.func181
theorem ZmS : Enters C.P 181 := Enters.mk ZjY (by kernel_rfl) (by kernel_rfl)
theorem ZmT : Tryz.f181.ntmps = 14 := Tryz.ntmps181
theorem ZmU : Tryz.f181.results = #[ResultVar.tmp 4] := Tryz.results181
abbrev ZaJ : FuncId := 182
theorem Zbf : C.P.funcs[182]? = some Tryz.f182 := Tryz.func182
theorem ZbI : Enters C.P 182 := Enters.mk Zbf (by kernel_rfl) (by kernel_rfl)
theorem ZbJ : Tryz.f182.ntmps = 20 := Tryz.ntmps182
theorem ZbK : Tryz.f182.results = #[] := Tryz.results182
abbrev Zk9 : FuncId := 183
theorem Zff : C.P.funcs[183]? = some Tryz.f183 := Tryz.func183
theorem ZjZ : Enters C.P 183 := Enters.mk Zff (by kernel_rfl) (by kernel_rfl)
theorem Zj0 : Tryz.f183.ntmps = 6 := Tryz.ntmps183
theorem Zj1 : Tryz.f183.results = #[] := Tryz.results183
abbrev Zmc : FuncId := 184
theorem ZgS : C.P.funcs[184]? = some Tryz.f184 := Tryz.func184
theorem Zla : Enters C.P 184 := Enters.mk ZgS (by kernel_rfl) (by kernel_rfl)
theorem Zlb : Tryz.f184.ntmps = 9 := Tryz.ntmps184
theorem Zlc : Tryz.f184.results = #[] := Tryz.results184
abbrev Zld : FuncId := 185
theorem Zfg : C.P.funcs[185]? = some Tryz.f185 := Tryz.func185
theorem Zj2 : Enters C.P 185 := Enters.mk Zfg (by kernel_rfl) (by kernel_rfl)
theorem Zj3 : Tryz.f185.ntmps = 9 := Tryz.ntmps185
theorem Zj4 : Tryz.f185.results = #[ResultVar.tmp 2] := Tryz.results185
abbrev ZbU : FuncId := 186
theorem ZcE : C.P.funcs[186]? = some Tryz.f186 := Tryz.func186
theorem ZfO : Enters C.P 186 := Enters.mk ZcE (by kernel_rfl) (by kernel_rfl)
theorem ZfP : Tryz.f186.ntmps = 53 := Tryz.ntmps186
theorem ZfQ : Tryz.f186.results = #[ResultVar.tmp 4] := Tryz.results186
abbrev ZmV : FuncId := 187
theorem Zif : C.P.funcs[187]? = some Tryz.f187 := Tryz.func187
theorem Zmd : Enters C.P 187 := Enters.mk Zif (by kernel_rfl) (by kernel_rfl)
theorem Zme : Tryz.f187.ntmps = 13 := Tryz.ntmps187
theorem Zmf : Tryz.f187.results = #[ResultVar.tmp 4, ResultVar.cell 5 28] := Tryz.results187
abbrev ZgT : FuncId := 188
theorem ZcF : C.P.funcs[188]? = some Tryz.f188 := Tryz.func188
theorem ZfR : Enters C.P 188 := Enters.mk ZcF (by kernel_rfl) (by kernel_rfl)
theorem ZfS : Tryz.f188.ntmps = 49 := Tryz.ntmps188
theorem ZfT : Tryz.f188.results = #[ResultVar.tmp 4] := Tryz.results188
abbrev ZfU : FuncId := 189
theorem Zb8 : C.P.funcs[189]? = some Tryz.f189 := Tryz.func189
theorem ZeD : Enters C.P 189 := Enters.mk Zb8 (by kernel_rfl) (by kernel_rfl)
theorem ZeE : Tryz.f189.ntmps = 18 := Tryz.ntmps189
theorem ZeF : Tryz.f189.results = #[ResultVar.tmp 6, ResultVar.cell 7 28] := Tryz.results189
abbrev ZgU : FuncId := 190
theorem Zfh : C.P.funcs[190]? = some Tryz.f190 := Tryz.func190
theorem Zj5 : Enters C.P 190 := Enters.mk Zfh (by kernel_rfl) (by kernel_rfl)
theorem Zj6 : Tryz.f190.ntmps = 13 := Tryz.ntmps190
theorem Zj7 : Tryz.f190.results = #[ResultVar.tmp 4] := Tryz.results190
abbrev Zdb : FuncId := 191
theorem ZcG : C.P.funcs[191]? = some Tryz.f191 := Tryz.func191
theorem ZfV : Enters C.P 191 := Enters.mk ZcG (by kernel_rfl) (by kernel_rfl)
theorem ZfW : Tryz.f191.ntmps = 37 := Tryz.ntmps191
theorem ZfX : Tryz.f191.results = #[ResultVar.cell 4 3] := Tryz.results191
abbrev Zdc : FuncId := 192
theorem ZcH : C.P.funcs[192]? = some Tryz.f192 := Tryz.func192
theorem ZfY : Enters C.P 192 := Enters.mk ZcH (by kernel_rfl) (by kernel_rfl)
theorem ZfZ : Tryz.f192.ntmps = 36 := Tryz.ntmps192
theorem Zf0 : Tryz.f192.results = #[ResultVar.tmp 4] := Tryz.results192
abbrev Zdd : FuncId := 193
theorem ZcI : C.P.funcs[193]? = some Tryz.f193 := Tryz.func193
theorem Zf1 : Enters C.P 193 := Enters.mk ZcI (by kernel_rfl) (by kernel_rfl)
theorem Zf2 : Tryz.f193.ntmps = 39 := Tryz.ntmps193
theorem Zf3 : Tryz.f193.results = #[ResultVar.tmp 4] := Tryz.results193
abbrev ZhN : FuncId := 194
theorem Zde : C.P.funcs[194]? = some Tryz.f194 := Tryz.func194
theorem ZgV : Enters C.P 194 := Enters.mk Zde (by kernel_rfl) (by kernel_rfl)
theorem ZgW : Tryz.f194.ntmps = 6 := Tryz.ntmps194
theorem ZgX : Tryz.f194.results = #[ResultVar.tmp 4] := Tryz.results194
abbrev Zb0 : FuncId := 195
theorem ZaK : C.P.funcs[195]? = some Tryz.f195 := Tryz.func195
theorem ZbV : Enters C.P 195 := Enters.mk ZaK (by kernel_rfl) (by kernel_rfl)
theorem ZbW : Tryz.f195.ntmps = 28 := Tryz.ntmps195
theorem ZbX : Tryz.f195.results = #[] := Tryz.results195
abbrev Zj8 : FuncId := 202
theorem Zem : C.P.funcs[202]? = some Tryz.f202 := Tryz.func202
theorem ZiX : Enters C.P 202 := Enters.mk Zem (by kernel_rfl) (by kernel_rfl)
theorem ZiY : Tryz.f202.ntmps = 19 := Tryz.ntmps202
theorem ZiZ : Tryz.f202.results = #[ResultVar.tmp 4] := Tryz.results202
abbrev ZdS : FuncId := 203
theorem ZbF : C.P.funcs[203]? = some Tryz.f203 := Tryz.func203
theorem Zdo : Enters C.P 203 := Enters.mk ZbF (by kernel_rfl) (by kernel_rfl)
theorem Zdp : Tryz.f203.ntmps = 8 := Tryz.ntmps203
theorem Zdq : Tryz.f203.results = #[ResultVar.tmp 4] := Tryz.results203
abbrev Zen : FuncId := 204
theorem ZdH : C.P.funcs[204]? = some Tryz.f204 := Tryz.func204
theorem ZhO : Enters C.P 204 := Enters.mk ZdH (by kernel_rfl) (by kernel_rfl)
theorem ZhP : Tryz.f204.ntmps = 35 := Tryz.ntmps204
theorem ZhQ : Tryz.f204.results = #[ResultVar.tmp 2] := Tryz.results204
abbrev ZdT : FuncId := 205
theorem ZbG : C.P.funcs[205]? = some Tryz.f205 := Tryz.func205
theorem Zdr : Enters C.P 205 := Enters.mk ZbG (by kernel_rfl) (by kernel_rfl)
theorem Zds : Tryz.f205.ntmps = 8 := Tryz.ntmps205
theorem Zdt : Tryz.f205.results = #[] := Tryz.results205
abbrev Zi0 : FuncId := 206
theorem ZdI : C.P.funcs[206]? = some Tryz.f206 := Tryz.func206
theorem ZhR : Enters C.P 206 := Enters.mk ZdI (by kernel_rfl) (by kernel_rfl)
theorem ZhS : Tryz.f206.ntmps = 22 := Tryz.ntmps206
theorem ZhT : Tryz.f206.results = #[ResultVar.tmp 2, ResultVar.tmp 3] := Tryz.results206
abbrev Zle : FuncId := 207
theorem Zfi : C.P.funcs[207]? = some Tryz.f207 := Tryz.func207
theorem Zj9 : Enters C.P 207 := Enters.mk Zfi (by kernel_rfl) (by kernel_rfl)
theorem Zka : Tryz.f207.ntmps = 35 := Tryz.ntmps207
theorem Zkb : Tryz.f207.results = #[ResultVar.tmp 2] := Tryz.results207
abbrev Zf4 : FuncId := 208
theorem Zb9 : C.P.funcs[208]? = some Tryz.f208 := Tryz.func208
theorem ZeG : Enters C.P 208 := Enters.mk Zb9 (by kernel_rfl) (by kernel_rfl)
theorem ZeH : Tryz.f208.ntmps = 18 := Tryz.ntmps208
theorem ZeI : Tryz.f208.results = #[ResultVar.tmp 2] := Tryz.results208
abbrev Zbc : FuncId := 212
theorem Zay : C.P.funcs[212]? = some Tryz.f212 := Tryz.func212
theorem Za1 : Enters C.P 212 := Enters.mk Zay (by kernel_rfl) (by kernel_rfl)
theorem Za2 : Tryz.f212.ntmps = 19 := Tryz.ntmps212
theorem Za3 : Tryz.f212.results = #[ResultVar.tmp 4] := Tryz.results212
abbrev Zi1 : FuncId := 213
theorem ZdJ : C.P.funcs[213]? = some Tryz.f213 := Tryz.func213
theorem ZhU : Enters C.P 213 := Enters.mk ZdJ (by kernel_rfl) (by kernel_rfl)
theorem ZhV : Tryz.f213.ntmps = 31 := Tryz.ntmps213
theorem ZhW : Tryz.f213.results = #[ResultVar.tmp 6, ResultVar.tmp 7, ResultVar.cell 8 28] := Tryz.results213
abbrev ZgY : FuncId := 214
theorem Zfj : C.P.funcs[214]? = some Tryz.f214 := Tryz.func214
theorem Zkc : Enters C.P 214 := Enters.mk Zfj (by kernel_rfl) (by kernel_rfl)
theorem Zkd : Tryz.f214.ntmps = 11 := Tryz.ntmps214
theorem Zke : Tryz.f214.results = #[ResultVar.tmp 4, ResultVar.tmp 5] := Tryz.results214
abbrev Zeo : FuncId := 215
theorem ZbY : C.P.funcs[215]? = some Tryz.f215 := Tryz.func215
theorem ZdU : Enters C.P 215 := Enters.mk ZbY (by kernel_rfl) (by kernel_rfl)
theorem ZdV : Tryz.f215.ntmps = 93 := Tryz.ntmps215
theorem ZdW : Tryz.f215.results = #[ResultVar.tmp 6, ResultVar.tmp 7] := Tryz.results215
abbrev Zlf : FuncId := 216
theorem Zfk : C.P.funcs[216]? = some Tryz.f216 := Tryz.func216
theorem Zkf : Enters C.P 216 := Enters.mk Zfk (by kernel_rfl) (by kernel_rfl)
theorem Zkg : Tryz.f216.ntmps = 44 := Tryz.ntmps216
theorem Zkh : Tryz.f216.results = #[ResultVar.cell 4 178] := Tryz.results216
abbrev ZmW : FuncId := 217
theorem Zig : C.P.funcs[217]? = some Tryz.f217 := Tryz.func217
theorem Zmg : Enters C.P 217 := Enters.mk Zig (by kernel_rfl) (by kernel_rfl)
theorem Zmh : Tryz.f217.ntmps = 40 := Tryz.ntmps217
theorem Zmi : Tryz.f217.results = #[ResultVar.tmp 4] := Tryz.results217
abbrev Zdf : FuncId := 218
theorem ZcJ : C.P.funcs[218]? = some Tryz.f218 := Tryz.func218
theorem Zf5 : Enters C.P 218 := Enters.mk ZcJ (by kernel_rfl) (by kernel_rfl)
theorem Zf6 : Tryz.f218.ntmps = 8 := Tryz.ntmps218
theorem Zf7 : Tryz.f218.results = #[ResultVar.tmp 4] := Tryz.results218
abbrev ZcK : FuncId := 219
theorem Zca : C.P.funcs[219]? = some Tryz.f219 := Tryz.func219
theorem ZeJ : Enters C.P 219 := Enters.mk Zca (by kernel_rfl) (by kernel_rfl)
theorem ZeK : Tryz.f219.ntmps = 21 := Tryz.ntmps219
theorem ZeL : Tryz.f219.results = #[ResultVar.tmp 2] := Tryz.results219
abbrev ZaU : FuncId := 220
theorem Zas : C.P.funcs[220]? = some Tryz.f220 := Tryz.func220
theorem ZaP : Enters C.P 220 := Enters.mk Zas (by kernel_rfl) (by kernel_rfl)
theorem ZaQ : Tryz.f220.ntmps = 9 := Tryz.ntmps220
theorem ZaR : Tryz.f220.results = #[ResultVar.tmp 4] := Tryz.results220
abbrev Zep : FuncId := 221
theorem ZdK : C.P.funcs[221]? = some Tryz.f221 := Tryz.func221
theorem ZhX : Enters C.P 221 := Enters.mk ZdK (by kernel_rfl) (by kernel_rfl)
theorem ZhY : Tryz.f221.ntmps = 6 := Tryz.ntmps221
theorem ZhZ : Tryz.f221.results = #[ResultVar.tmp 2] := Tryz.results221
abbrev Zbo : FuncId := 222
theorem ZaD : C.P.funcs[222]? = some Tryz.f222 := Tryz.func222
theorem Zbi : Enters C.P 222 := Enters.mk ZaD (by kernel_rfl) (by kernel_rfl)
theorem Zbj : Tryz.f222.ntmps = 8 := Tryz.ntmps222
theorem Zbk : Tryz.f222.results = #[ResultVar.tmp 2] := Tryz.results222
abbrev Zbd : FuncId := 223
theorem Zaz : C.P.funcs[223]? = some Tryz.f223 := Tryz.func223
theorem Za4 : Enters C.P 223 := Enters.mk Zaz (by kernel_rfl) (by kernel_rfl)
theorem Za5 : Tryz.f223.ntmps = 4 := Tryz.ntmps223
theorem Za6 : Tryz.f223.results = #[ResultVar.tmp 2] := Tryz.results223
abbrev ZcL : FuncId := 224
theorem Zcb : C.P.funcs[224]? = some Tryz.f224 := Tryz.func224
theorem ZeM : Enters C.P 224 := Enters.mk Zcb (by kernel_rfl) (by kernel_rfl)
theorem ZeN : Tryz.f224.ntmps = 62 := Tryz.ntmps224
theorem ZeO : Tryz.f224.results = #[] := Tryz.results224
abbrev Zcq : FuncId := 232
theorem Zcc : C.P.funcs[232]? = some Tryz.f232 := Tryz.func232
theorem Zcd : Enters C.P 232 := Enters.mk Zcc (by kernel_rfl) (by kernel_rfl)
abbrev Zki : FuncId := 233
theorem Zeq : C.P.funcs[233]? = some Tryz.f233 := Tryz.func233
theorem Zi2 : Enters C.P 233 := Enters.mk Zeq (by kernel_rfl) (by kernel_rfl)
theorem Zi3 : Tryz.f233.ntmps = 19 := Tryz.ntmps233
theorem Zi4 : Tryz.f233.results = #[ResultVar.tmp 2] := Tryz.results233
abbrev ZcM : FuncId := 235
theorem Zce : C.P.funcs[235]? = some Tryz.f235 := Tryz.func235
theorem ZeP : Enters C.P 235 := Enters.mk Zce (by kernel_rfl) (by kernel_rfl)
theorem ZeQ : Tryz.f235.ntmps = 80 := Tryz.ntmps235
theorem ZeR : Tryz.f235.results = #[ResultVar.tmp 4, ResultVar.tmp 5] := Tryz.results235
abbrev Zf8 : FuncId := 236
theorem Zcf : C.P.funcs[236]? = some Tryz.f236 := Tryz.func236
theorem ZeS : Enters C.P 236 := Enters.mk Zcf (by kernel_rfl) (by kernel_rfl)
theorem ZeT : Tryz.f236.ntmps = 12 := Tryz.ntmps236
theorem ZeU : Tryz.f236.results = #[ResultVar.tmp 4] := Tryz.results236
abbrev ZgZ : FuncId := 237
theorem ZcN : C.P.funcs[237]? = some Tryz.f237 := Tryz.func237
theorem Zf9 : Enters C.P 237 := Enters.mk ZcN (by kernel_rfl) (by kernel_rfl)
theorem Zga : Tryz.f237.ntmps = 13 := Tryz.ntmps237
theorem Zgb : Tryz.f237.results = #[ResultVar.tmp 4] := Tryz.results237
abbrev Zg0 : FuncId := 238
theorem Zfl : C.P.funcs[238]? = some Tryz.f238 := Tryz.func238
theorem Zkj : Enters C.P 238 := Enters.mk Zfl (by kernel_rfl) (by kernel_rfl)
theorem Zkk : Tryz.f238.ntmps = 61 := Tryz.ntmps238
theorem Zkl : Tryz.f238.results = #[ResultVar.tmp 8, ResultVar.tmp 9] := Tryz.results238
abbrev Zdg : FuncId := 239
theorem Zbm : C.P.funcs[239]? = some Tryz.f239 := Tryz.func239
theorem ZcR : Enters C.P 239 := Enters.mk Zbm (by kernel_rfl) (by kernel_rfl)
theorem ZcS : Tryz.f239.ntmps = 77 := Tryz.ntmps239
theorem ZcT : Tryz.f239.results = #[ResultVar.tmp 6] := Tryz.results239
abbrev Zbe : FuncId := 240
theorem ZaA : C.P.funcs[240]? = some Tryz.f240 := Tryz.func240
theorem Za7 : Enters C.P 240 := Enters.mk ZaA (by kernel_rfl) (by kernel_rfl)
theorem Za8 : Tryz.f240.ntmps = 19 := Tryz.ntmps240
theorem Za9 : Tryz.f240.results = #[ResultVar.tmp 4] := Tryz.results240
abbrev Zax : FuncId := 241
theorem Zav : C.P.funcs[241]? = some Tryz.f241 := Tryz.func241
theorem ZaV : Enters C.P 241 := Enters.mk Zav (by kernel_rfl) (by kernel_rfl)
theorem ZaW : Tryz.f241.ntmps = 19 := Tryz.ntmps241
theorem ZaX : Tryz.f241.results = #[] := Tryz.results241
abbrev ZeV : FuncId := 249
theorem Zb3 : C.P.funcs[249]? = some Tryz.f249 := Tryz.func249
theorem Zer : Enters C.P 249 := Enters.mk Zb3 (by kernel_rfl) (by kernel_rfl)
theorem Zes : Tryz.f249.ntmps = 43 := Tryz.ntmps249
theorem Zet : Tryz.f249.results = #[ResultVar.tmp 4, ResultVar.tmp 5] := Tryz.results249
abbrev Zdh : FuncId := 250
theorem Zbn : C.P.funcs[250]? = some Tryz.f250 := Tryz.func250
theorem ZcU : Enters C.P 250 := Enters.mk Zbn (by kernel_rfl) (by kernel_rfl)
theorem ZcV : Tryz.f250.ntmps = 6 := Tryz.ntmps250
theorem ZcW : Tryz.f250.results = #[ResultVar.tmp 2] := Tryz.results250
abbrev Zh0 : FuncId := 251
theorem Zdi : C.P.funcs[251]? = some Tryz.f251 := Tryz.func251
theorem Zg1 : Enters C.P 251 := Enters.mk Zdi (by kernel_rfl) (by kernel_rfl)
theorem Zg2 : Tryz.f251.ntmps = 109 := Tryz.ntmps251
theorem Zg3 : Tryz.f251.results = #[ResultVar.tmp 4] := Tryz.results251
abbrev Zkm : FuncId := 252
theorem Zeu : C.P.funcs[252]? = some Tryz.f252 := Tryz.func252
theorem Zi5 : Enters C.P 252 := Enters.mk Zeu (by kernel_rfl) (by kernel_rfl)
theorem Zi6 : Tryz.f252.ntmps = 79 := Tryz.ntmps252
theorem Zi7 : Tryz.f252.results = #[ResultVar.tmp 8, ResultVar.tmp 9] := Tryz.results252
abbrev Zev : FuncId := 253
theorem ZbZ : C.P.funcs[253]? = some Tryz.f253 := Tryz.func253
theorem ZdX : Enters C.P 253 := Enters.mk ZbZ (by kernel_rfl) (by kernel_rfl)
theorem ZdY : Tryz.f253.ntmps = 67 := Tryz.ntmps253
theorem ZdZ : Tryz.f253.results = #[ResultVar.tmp 4] := Tryz.results253
abbrev Zlg : FuncId := 257
theorem Zfm : C.P.funcs[257]? = some Tryz.f257 := Tryz.func257
theorem Zkn : Enters C.P 257 := Enters.mk Zfm (by kernel_rfl) (by kernel_rfl)
theorem Zko : Tryz.f257.ntmps = 46 := Tryz.ntmps257
theorem Zkp : Tryz.f257.results = #[ResultVar.tmp 6] := Tryz.results257
end Go.V
/- MORE RULES: panics, slices' bounds, append, strings and bytes; statements that draw their order. -/
namespace Go.V
open Go.RowKit
section
variable {C : Ctx} {Q : Post} {ops : Array Oper} {rest : List Oper} {k : List Item} {env env' : List D} {H H' : Heap} {df : List ADef}
variable {dst : Option Tmp} {op : Op} {ty : TypeId} {pos : String} {aft : Array Edge} {gd : Option (Nat × Bool)} {d : D} {t : Tmp} {x y z : Operand} {T e : TypeId} {te tee : TE}
theorem ZnR {T : TypeId} {d : D} (hx : evO C env x = some (.iface T d)) : OpH C ⟨dst, .panic x, ty, pos, aft, gd⟩ env H (fun _ _ => False) (fun d' H' => d' = .iface T d ∧ H' = H) := by
  refine ⟨fun L0 w μ a hs hv => ?_⟩
  have ex := evO_ok hs hv hx
  have ex' := ex
  simp only [VR] at ex
  obtain ⟨u, ex, _⟩ := ex
  have hrun : (execOp a.eval ⟨dst, .panic x, ty, pos, aft, gd⟩).run C.P w = .halt (.panic (.iface T u)) w := by
    simp only [execOp, ex, Instr.panic, Sem.run_bind, run_goPanic, Result.andThen_halt]
  unfold Oper.wp
  rw [hrun]
  exact ⟨.iface T u, .iface T d, H, μ, rfl, rfl, ⟨rfl, rfl⟩, hs, by rw [← ex]; exact ex', Evo.refl _ _ _⟩
theorem Zlh {T : TypeId} {d : D} (hg : gOk ops.toList env gd = some true) (hx : evO C env x = some (.iface T d)) (hp : Q (.pan (.iface T d)) env H df) : AOps C Q ops (⟨dst, .panic x, ty, pos, aft, gd⟩ :: rest) k env H df :=
  AOps.opH hg (ZnR hx) (fun _ _ h => h.elim) (fun _ _ ⟨h1, h2⟩ => by subst h1; subst h2; exact hp)
def asSl : D → Option (Nat × List D)
  | .sl n cs => some (n, cs)
  | .nilsl => some (0, [])
  | _ => none
theorem asSl_ok {w : World} {L : Nat → Prop} {μ : List Nat} {H : Heap} {d : D} {n : Nat} {cs : List D} {v : Value} (h : asSl d = some (n, cs)) (hv : VR w L μ H d v) :
    ∃ a cap, v = .slice a n cap ∧ n ≤ cap ∧ cap ≤ maxLen ∧ (cs ≠ [] → ∃ ad, a = some ad ∧ ad.block < w.heap.size ∧ ¬ L ad.block ∧ VRL w L ad 0 cs) := by
  unfold asSl at h
  split at h
  · injection h with h; injection h with h1 h2; subst h1; subst h2; simpa only [VR] using hv
  · injection h with h; injection h with h1 h2; subst h1; subst h2
    simp only [VR] at hv
    exact ⟨none, 0, hv, Nat.le_refl _, Nat.zero_le _, fun h => (h rfl).elim⟩
  · cases h
theorem VRL_take {w : World} {L : Nat → Prop} {ad : Addr} {cs : List D} (h : VRL w L ad 0 cs) (n : Nat) : VRL w L ad 0 (cs.take n) := by
  refine VRL_mk fun j d hd => ?_
  rw [List.getElem?_take] at hd
  split at hd
  · exact VRL_get h hd
  · cases hd
def bndO (C : Ctx) (env : List D) (dflt : Nat) : Option Operand → Option Nat
  | none => some dflt
  | some x => match evO C env x with
    | some (.int _ i) => if 0 ≤ i then some i.toNat else none
    | _ => none
theorem sub_sl {w : World} {L : Nat → Prop} {μ : List Nat} {H : Heap} {a : Option Addr} {n cap lo hi sz : Nat} {cs : List D} (h1 : n ≤ cap) (h2 : cap ≤ maxLen) (h3 : cs ≠ [] → ∃ ad, a = some ad ∧ ad.block < w.heap.size ∧ ¬ L ad.block ∧ VRL w L ad 0 cs) (hl : lo ≤ hi) (hh : hi ≤ n) (hlen : cs.length = n * sz) :
    VR w L μ H (.sl (hi - lo) ((cs.take (hi * sz)).drop (lo * sz))) (sliced a lo hi cap sz) := by
  simp only [VR, sliced]
  refine ⟨_, _, rfl, by omega, by omega, fun hne => ?_⟩
  have hcs : cs ≠ [] := by rintro rfl; simp at hne
  have hlt : lo < hi := by
    rcases Nat.lt_or_ge lo hi with h | h
    · exact h
    · have : hi = lo := by omega
      subst this
      exfalso
      apply hne
      simp [List.drop_eq_nil_iff, List.length_take]
  obtain ⟨ad, rfl, k1, k2, k3⟩ := h3 hcs
  refine ⟨ad.add (lo * sz), by rw [if_neg (by omega)]; rfl, by rw [add_block]; exact k1, by rw [add_block]; exact k2, VRL_drop (VRL_take k3 _) _⟩
theorem ZnS {descE : TypeDesc} {sizeE bytesE : Nat} {zeroE : Value} {n lo hi : Nat} {cs : List D} {ol oh : Option Operand} (ht : UN C T (.slice e)) (hee : TIC C e descE sizeE bytesE zeroE) (hx : evO C env x = some d) (hd : asSl d = some (n, cs)) (hlo : bndO C env 0 ol = some lo) (hhi : bndO C env n oh = some hi) (hl : lo ≤ hi) (hh : hi ≤ n) (hlen : cs.length = n * sizeE) :
    OpQ C ⟨dst, .slice T x ol oh none, ty, pos, aft, gd⟩ env H (.sl (hi - lo) ((cs.take (hi * sizeE)).drop (lo * sizeE))) :=
  OpQ.of_run fun L w μ a he => by
    have ex := he _ _ hx
    obtain ⟨a', cap, ex, h1, h2, h3⟩ := asSl_ok hd ex
    have hsub := sub_sl (μ := μ) (H := H) h1 h2 h3 hl hh hlen
    refine ⟨_, ?_, hsub⟩
    have hte : C.P.elem T = e := by unfold Program.elem; rw [show C.P.underlying T = some (.slice e) from ht]
    have ht' : C.P.underlying T = some (.slice (C.P.elem T)) := by rw [hte]; exact ht
    have hsz : ∀ w, (sizeOf (C.P.elem T)).run C.P w = .ok sizeE w := fun w => by rw [hte]; exact hee.run_size w
    have key : (Instr.sliceAt T (.slice a' n cap) (ol.map a.eval) (oh.map a.eval) none).run C.P w = .ok (sliced a' lo hi cap sizeE) w := by
      rw [run_sliceAt_slice _ _ _ _ _ _ ht']
      cases ol with
      | none =>
        simp only [bndO] at hlo
        injection hlo with hlo
        subst hlo
        cases oh with
        | none =>
          simp only [bndO] at hhi
          injection hhi with hhi
          subst hhi
          simp only [Option.map_none]
          rw [run_slice_all _ _ _ _ _ ht', hsz]
          rfl
        | some q =>
          simp only [bndO] at hhi
          split at hhi
          · rename_i ik i hq
            split at hhi
            · rename_i h0
              injection hhi with hhi
              have eq := he _ _ hq
              simp only [VR] at eq
              simp only [Option.map_none, Option.map_some, eq]
              rw [run_slice_h _ _ _ _ _ ht' ik i h0 (by omega), hsz]
              simp [hhi]
            · cases hhi
          · cases hhi
      | some p =>
        simp only [bndO] at hlo
        split at hlo
        · rename_i ik i hp
          split at hlo
          · rename_i h0
            injection hlo with hlo
            have ep := he _ _ hp
            simp only [VR] at ep
            cases oh with
            | none =>
              simp only [bndO] at hhi
              injection hhi with hhi
              subst hhi
              simp only [Option.map_none, Option.map_some, ep]
              rw [run_slice_l _ _ _ _ _ ht' ik i h0 (by omega), hsz]
              simp [hlo]
            | some q =>
              simp only [bndO] at hhi
              split at hhi
              · rename_i ik' i' hq
                split at hhi
                · rename_i h0'
                  injection hhi with hhi
                  have eq := he _ _ hq
                  simp only [VR] at eq
                  simp only [Option.map_some, ep, eq]
                  rw [run_slice_lh _ _ _ _ _ ht' ik ik' i i' h0 (by omega) (by omega), hsz]
                  simp [hlo, hhi]
                · cases hhi
              · cases hhi
          · cases hlo
        · cases hlo
    simp only [execOp, ex, Sem.run_bind, Option.map_none, key, Result.andThen_ok, Sem.run_pure]
theorem AOps.frz {ids : List Nat} (hH : Go.V.frz H ids = H') (hz : FzL H env env' ids) (hk : AOps C Q ops rest k env' H' df) : AOps C Q ops rest k env H df := by
  subst hH
  refine ⟨fun i hi => ⟨fun L0 w0 μ0 H0 w μ a hs hv hd he b cs hrd => ?_⟩⟩
  obtain ⟨hs', he'⟩ := hs.weak (HWeak.frz (ids := ids))
  have st := he'.step L0
  exact (hk.out i hi).out L0 w0 μ0 H0 w μ a hs' (FzL.ok hs' hz (fun i hi o ho => frz_dead hi ho) (VRs.step st hv)) (DfR.step st hd) (he.trans he') b cs (hrd.step he'.map)
theorem ARun.frz {ids : List Nat} (hH : Go.V.frz H ids = H') (hz : FzL H env env' ids) (hk : ARun C Q k env' H' df) : ARun C Q k env H df := by
  subst hH
  refine ⟨fun L0 w0 μ0 H0 w μ a hs hv hd he b cs hrd => ?_⟩
  obtain ⟨hs', he'⟩ := hs.weak (HWeak.frz (ids := ids))
  have st := he'.step L0
  exact hk.out L0 w0 μ0 H0 w μ a hs' (FzL.ok hs' hz (fun i hi o ho => frz_dead hi ho) (VRs.step st hv)) (DfR.step st hd) (he.trans he') b cs (hrd.step he'.map)
end
end Go.V
