/- A part of the proof: abstract values, rules for the steps of the program's form, and contracts of its functions, each proved; no condition. -/
import Derived.Test.YtjohcjagbodicaaGreatDoorA02
import Derived.Test.YtjohcjagbodicaaGreatDoorProg
set_option linter.unusedVariables false
set_option linter.unusedSimpArgs false
/- THE SEAT's TABLE, PRINTED BY seatv.py (a program of this session's): what each type is, by the translation's own facts; the functions, by name. -/
namespace Go.V
open Go.RowKit Go.Proofs
theorem te1 : TEok Tryz.prog 1 ⟨.other, 1, 8, .nilFunc⟩ := ⟨by kernel_rfl, ⟨_, Tryz.underlying1, rfl⟩⟩
theorem te2 : TEok Tryz.prog 2 ⟨.int .i64, 1, 8, .int .i64 0⟩ := ⟨by kernel_rfl, Tryz.underlying2⟩
theorem te3 : TEok Tryz.prog 3 ⟨.int .i64, 1, 8, .int .i64 0⟩ := ⟨by kernel_rfl, Tryz.underlying3⟩
theorem te4 : TEok Tryz.prog 4 ⟨.bool, 1, 1, .bool false⟩ := ⟨by kernel_rfl, Tryz.underlying4⟩
theorem te5 : TEok Tryz.prog 5 ⟨.int .u8, 1, 1, .int .u8 0⟩ := ⟨by kernel_rfl, Tryz.underlying5⟩
theorem te6 : TEok Tryz.prog 6 ⟨.int .u8, 1, 1, .int .u8 0⟩ := ⟨by kernel_rfl, Tryz.underlying6⟩
theorem te7 : TEok Tryz.prog 7 ⟨.struct [(0, 1), (1, 1), (2, 1), (3, 1)], 4, 24, .agg #[.int .i64 0, .int .i64 0, .bool false, .int .u8 0]⟩ := ⟨by kernel_rfl, ⟨_, Tryz.underlying7, by kernel_rfl⟩⟩
theorem te8 : TEok Tryz.prog 8 ⟨.struct [(0, 1), (1, 1), (2, 1), (3, 1)], 4, 24, .agg #[.int .i64 0, .int .i64 0, .bool false, .int .u8 0]⟩ := ⟨by kernel_rfl, ⟨_, Tryz.underlying8, by kernel_rfl⟩⟩
theorem te9 : TEok Tryz.prog 9 ⟨.str, 1, 16, .string ⟨#[]⟩⟩ := ⟨by kernel_rfl, Tryz.underlying9⟩
theorem te10 : TEok Tryz.prog 10 ⟨.str, 1, 16, .string ⟨#[]⟩⟩ := ⟨by kernel_rfl, Tryz.underlying10⟩
theorem te11 : TEok Tryz.prog 11 ⟨.str, 1, 16, .string ⟨#[]⟩⟩ := ⟨by kernel_rfl, Tryz.underlying11⟩
theorem te12 : TEok Tryz.prog 12 ⟨.int .u64, 1, 8, .int .u64 0⟩ := ⟨by kernel_rfl, Tryz.underlying12⟩
theorem te13 : TEok Tryz.prog 13 ⟨.struct [(0, 1), (1, 1)], 2, 24, .agg #[.string ⟨#[]⟩, .int .u64 0]⟩ := ⟨by kernel_rfl, ⟨_, Tryz.underlying13, by kernel_rfl⟩⟩
theorem te14 : TEok Tryz.prog 14 ⟨.struct [(0, 1), (1, 1)], 2, 24, .agg #[.string ⟨#[]⟩, .int .u64 0]⟩ := ⟨by kernel_rfl, ⟨_, Tryz.underlying14, by kernel_rfl⟩⟩
theorem te15 : TEok Tryz.prog 15 ⟨.ptr, 1, 8, .pointer none⟩ := ⟨by kernel_rfl, ⟨_, Tryz.underlying15⟩⟩
theorem te16 : TEok Tryz.prog 16 ⟨.ptr, 1, 8, .pointer none⟩ := ⟨by kernel_rfl, ⟨_, Tryz.underlying16⟩⟩
theorem te17 : TEok Tryz.prog 17 ⟨.ptr, 1, 8, .pointer none⟩ := ⟨by kernel_rfl, ⟨_, Tryz.underlying17⟩⟩
theorem te18 : TEok Tryz.prog 18 ⟨.struct [(0, 1)], 1, 8, .agg #[.pointer none]⟩ := ⟨by kernel_rfl, ⟨_, Tryz.underlying18, by kernel_rfl⟩⟩
theorem te19 : TEok Tryz.prog 19 ⟨.struct [(0, 1)], 1, 8, .agg #[.pointer none]⟩ := ⟨by kernel_rfl, ⟨_, Tryz.underlying19, by kernel_rfl⟩⟩
theorem te20 : TEok Tryz.prog 20 ⟨.other, 1, 16, .nilIface⟩ := ⟨by kernel_rfl, ⟨_, Tryz.underlying20, rfl⟩⟩
theorem te21 : TEok Tryz.prog 21 ⟨.int .i32, 1, 4, .int .i32 0⟩ := ⟨by kernel_rfl, Tryz.underlying21⟩
theorem te22 : TEok Tryz.prog 22 ⟨.slice 54, 1, 24, .slice none 0 0⟩ := ⟨by kernel_rfl, Tryz.underlying22⟩
theorem te23 : TEok Tryz.prog 23 ⟨.slice 54, 1, 24, .slice none 0 0⟩ := ⟨by kernel_rfl, Tryz.underlying23⟩
theorem te24 : TEok Tryz.prog 24 ⟨.struct [(0, 1), (1, 1)], 2, 32, .agg #[.bool false, .slice none 0 0]⟩ := ⟨by kernel_rfl, ⟨_, Tryz.underlying24, by kernel_rfl⟩⟩
theorem te25 : TEok Tryz.prog 25 ⟨.struct [(0, 1), (1, 1)], 2, 32, .agg #[.bool false, .slice none 0 0]⟩ := ⟨by kernel_rfl, ⟨_, Tryz.underlying25, by kernel_rfl⟩⟩
theorem te26 : TEok Tryz.prog 26 ⟨.other, 1, 8, .nilFunc⟩ := ⟨by kernel_rfl, ⟨_, Tryz.underlying26, rfl⟩⟩
theorem te27 : TEok Tryz.prog 27 ⟨.other, 1, 8, .nilFunc⟩ := ⟨by kernel_rfl, ⟨_, Tryz.underlying27, rfl⟩⟩
theorem te28 : TEok Tryz.prog 28 ⟨.int .i64, 1, 8, .int .i64 0⟩ := ⟨by kernel_rfl, Tryz.underlying28⟩
theorem te30 : TEok Tryz.prog 30 ⟨.other, 1, 8, .nilFunc⟩ := ⟨by kernel_rfl, ⟨_, Tryz.underlying30, rfl⟩⟩
theorem te31 : TEok Tryz.prog 31 ⟨.struct [(0, 2), (2, 2), (4, 1)], 5, 72, .agg #[.bool false, .slice none 0 0, .bool false, .slice none 0 0, .int .i64 0]⟩ := ⟨by kernel_rfl, ⟨_, Tryz.underlying31, by kernel_rfl⟩⟩
theorem te32 : TEok Tryz.prog 32 ⟨.struct [(0, 2), (2, 2), (4, 1)], 5, 72, .agg #[.bool false, .slice none 0 0, .bool false, .slice none 0 0, .int .i64 0]⟩ := ⟨by kernel_rfl, ⟨_, Tryz.underlying32, by kernel_rfl⟩⟩
theorem te33 : TEok Tryz.prog 33 ⟨.other, 1, 8, .nilFunc⟩ := ⟨by kernel_rfl, ⟨_, Tryz.underlying33, rfl⟩⟩
theorem te34 : TEok Tryz.prog 34 ⟨.other, 1, 8, .nilFunc⟩ := ⟨by kernel_rfl, ⟨_, Tryz.underlying34, rfl⟩⟩
theorem te35 : TEok Tryz.prog 35 ⟨.other, 1, 8, .nilFunc⟩ := ⟨by kernel_rfl, ⟨_, Tryz.underlying35, rfl⟩⟩
theorem te37 : TEok Tryz.prog 37 ⟨.other, 1, 8, .nilFunc⟩ := ⟨by kernel_rfl, ⟨_, Tryz.underlying37, rfl⟩⟩
theorem te38 : TEok Tryz.prog 38 ⟨.struct [(0, 2), (2, 2), (4, 2), (6, 1)], 7, 104, .agg #[.bool false, .slice none 0 0, .bool false, .slice none 0 0, .bool false, .slice none 0 0, .int .i64 0]⟩ := ⟨by kernel_rfl, ⟨_, Tryz.underlying38, by kernel_rfl⟩⟩
theorem te39 : TEok Tryz.prog 39 ⟨.struct [(0, 2), (2, 2), (4, 2), (6, 1)], 7, 104, .agg #[.bool false, .slice none 0 0, .bool false, .slice none 0 0, .bool false, .slice none 0 0, .int .i64 0]⟩ := ⟨by kernel_rfl, ⟨_, Tryz.underlying39, by kernel_rfl⟩⟩
theorem te40 : TEok Tryz.prog 40 ⟨.other, 1, 8, .nilFunc⟩ := ⟨by kernel_rfl, ⟨_, Tryz.underlying40, rfl⟩⟩
theorem te42 : TEok Tryz.prog 42 ⟨.other, 1, 8, .nilFunc⟩ := ⟨by kernel_rfl, ⟨_, Tryz.underlying42, rfl⟩⟩
theorem te43 : TEok Tryz.prog 43 ⟨.other, 1, 8, .nilFunc⟩ := ⟨by kernel_rfl, ⟨_, Tryz.underlying43, rfl⟩⟩
theorem te44 : TEok Tryz.prog 44 ⟨.struct [(0, 2), (2, 1)], 3, 40, .agg #[.bool false, .slice none 0 0, .int .i64 0]⟩ := ⟨by kernel_rfl, ⟨_, Tryz.underlying44, by kernel_rfl⟩⟩
theorem te45 : TEok Tryz.prog 45 ⟨.struct [(0, 2), (2, 1)], 3, 40, .agg #[.bool false, .slice none 0 0, .int .i64 0]⟩ := ⟨by kernel_rfl, ⟨_, Tryz.underlying45, by kernel_rfl⟩⟩
theorem te46 : TEok Tryz.prog 46 ⟨.other, 1, 8, .nilFunc⟩ := ⟨by kernel_rfl, ⟨_, Tryz.underlying46, rfl⟩⟩
theorem te47 : TEok Tryz.prog 47 ⟨.other, 1, 8, .nilFunc⟩ := ⟨by kernel_rfl, ⟨_, Tryz.underlying47, rfl⟩⟩
theorem te48 : TEok Tryz.prog 48 ⟨.other, 1, 8, .nilFunc⟩ := ⟨by kernel_rfl, ⟨_, Tryz.underlying48, rfl⟩⟩
theorem te49 : TEok Tryz.prog 49 ⟨.other, 1, 8, .nilFunc⟩ := ⟨by kernel_rfl, ⟨_, Tryz.underlying49, rfl⟩⟩
theorem te50 : TEok Tryz.prog 50 ⟨.slice 25, 1, 24, .slice none 0 0⟩ := ⟨by kernel_rfl, Tryz.underlying50⟩
theorem te51 : TEok Tryz.prog 51 ⟨.other, 1, 8, .nilFunc⟩ := ⟨by kernel_rfl, ⟨_, Tryz.underlying51, rfl⟩⟩
theorem te52 : TEok Tryz.prog 52 ⟨.other, 1, 8, .nilFunc⟩ := ⟨by kernel_rfl, ⟨_, Tryz.underlying52, rfl⟩⟩
theorem te53 : TEok Tryz.prog 53 ⟨.other, 1, 8, .nilFunc⟩ := ⟨by kernel_rfl, ⟨_, Tryz.underlying53, rfl⟩⟩
theorem te54 : TEok Tryz.prog 54 ⟨.int .u32, 1, 4, .int .u32 0⟩ := ⟨by kernel_rfl, Tryz.underlying54⟩
theorem te55 : TEok Tryz.prog 55 ⟨.other, 1, 8, .nilFunc⟩ := ⟨by kernel_rfl, ⟨_, Tryz.underlying55, rfl⟩⟩
theorem te57 : TEok Tryz.prog 57 ⟨.other, 1, 8, .nilFunc⟩ := ⟨by kernel_rfl, ⟨_, Tryz.underlying57, rfl⟩⟩
theorem te58 : TEok Tryz.prog 58 ⟨.other, 1, 8, .nilFunc⟩ := ⟨by kernel_rfl, ⟨_, Tryz.underlying58, rfl⟩⟩
theorem te59 : TEok Tryz.prog 59 ⟨.other, 1, 8, .nilFunc⟩ := ⟨by kernel_rfl, ⟨_, Tryz.underlying59, rfl⟩⟩
theorem te60 : TEok Tryz.prog 60 ⟨.other, 1, 8, .nilFunc⟩ := ⟨by kernel_rfl, ⟨_, Tryz.underlying60, rfl⟩⟩
theorem te61 : TEok Tryz.prog 61 ⟨.other, 1, 8, .nilFunc⟩ := ⟨by kernel_rfl, ⟨_, Tryz.underlying61, rfl⟩⟩
theorem te62 : TEok Tryz.prog 62 ⟨.other, 1, 8, .nilFunc⟩ := ⟨by kernel_rfl, ⟨_, Tryz.underlying62, rfl⟩⟩
theorem te64 : TEok Tryz.prog 64 ⟨.other, 1, 8, .nilFunc⟩ := ⟨by kernel_rfl, ⟨_, Tryz.underlying64, rfl⟩⟩
theorem te66 : TEok Tryz.prog 66 ⟨.other, 1, 8, .nilFunc⟩ := ⟨by kernel_rfl, ⟨_, Tryz.underlying66, rfl⟩⟩
theorem te67 : TEok Tryz.prog 67 ⟨.struct [(0, 2), (2, 1), (3, 1)], 4, 48, .agg #[.bool false, .slice none 0 0, .int .i64 0, .int .i64 0]⟩ := ⟨by kernel_rfl, ⟨_, Tryz.underlying67, by kernel_rfl⟩⟩
theorem te68 : TEok Tryz.prog 68 ⟨.struct [(0, 2), (2, 1), (3, 1)], 4, 48, .agg #[.bool false, .slice none 0 0, .int .i64 0, .int .i64 0]⟩ := ⟨by kernel_rfl, ⟨_, Tryz.underlying68, by kernel_rfl⟩⟩
theorem te69 : TEok Tryz.prog 69 ⟨.other, 1, 8, .nilFunc⟩ := ⟨by kernel_rfl, ⟨_, Tryz.underlying69, rfl⟩⟩
theorem te70 : TEok Tryz.prog 70 ⟨.other, 1, 8, .nilFunc⟩ := ⟨by kernel_rfl, ⟨_, Tryz.underlying70, rfl⟩⟩
theorem te71 : TEok Tryz.prog 71 ⟨.other, 1, 8, .nilFunc⟩ := ⟨by kernel_rfl, ⟨_, Tryz.underlying71, rfl⟩⟩
theorem te72 : TEok Tryz.prog 72 ⟨.other, 1, 8, .nilFunc⟩ := ⟨by kernel_rfl, ⟨_, Tryz.underlying72, rfl⟩⟩
theorem te73 : TEok Tryz.prog 73 ⟨.other, 1, 8, .nilFunc⟩ := ⟨by kernel_rfl, ⟨_, Tryz.underlying73, rfl⟩⟩
theorem te74 : TEok Tryz.prog 74 ⟨.other, 1, 8, .nilFunc⟩ := ⟨by kernel_rfl, ⟨_, Tryz.underlying74, rfl⟩⟩
theorem te75 : TEok Tryz.prog 75 ⟨.other, 1, 8, .nilFunc⟩ := ⟨by kernel_rfl, ⟨_, Tryz.underlying75, rfl⟩⟩
theorem te76 : TEok Tryz.prog 76 ⟨.other, 1, 8, .nilFunc⟩ := ⟨by kernel_rfl, ⟨_, Tryz.underlying76, rfl⟩⟩
theorem te77 : TEok Tryz.prog 77 ⟨.slice 3, 1, 24, .slice none 0 0⟩ := ⟨by kernel_rfl, Tryz.underlying77⟩
theorem te78 : TEok Tryz.prog 78 ⟨.other, 1, 8, .nilFunc⟩ := ⟨by kernel_rfl, ⟨_, Tryz.underlying78, rfl⟩⟩
theorem te79 : TEok Tryz.prog 79 ⟨.other, 1, 8, .nilFunc⟩ := ⟨by kernel_rfl, ⟨_, Tryz.underlying79, rfl⟩⟩
theorem te80 : TEok Tryz.prog 80 ⟨.other, 1, 8, .nilFunc⟩ := ⟨by kernel_rfl, ⟨_, Tryz.underlying80, rfl⟩⟩
theorem te81 : TEok Tryz.prog 81 ⟨.other, 1, 8, .nilFunc⟩ := ⟨by kernel_rfl, ⟨_, Tryz.underlying81, rfl⟩⟩
theorem te82 : TEok Tryz.prog 82 ⟨.other, 1, 8, .nilFunc⟩ := ⟨by kernel_rfl, ⟨_, Tryz.underlying82, rfl⟩⟩
theorem te84 : TEok Tryz.prog 84 ⟨.other, 1, 8, .nilFunc⟩ := ⟨by kernel_rfl, ⟨_, Tryz.underlying84, rfl⟩⟩
theorem te85 : TEok Tryz.prog 85 ⟨.other, 1, 8, .nilFunc⟩ := ⟨by kernel_rfl, ⟨_, Tryz.underlying85, rfl⟩⟩
theorem te86 : TEok Tryz.prog 86 ⟨.struct [(0, 1), (1, 1), (2, 1), (3, 1)], 4, 48, .agg #[.slice none 0 0, .int .i64 0, .bool false, .int .i64 0]⟩ := ⟨by kernel_rfl, ⟨_, Tryz.underlying86, by kernel_rfl⟩⟩
theorem te87 : TEok Tryz.prog 87 ⟨.struct [(0, 1), (1, 1), (2, 1), (3, 1)], 4, 48, .agg #[.slice none 0 0, .int .i64 0, .bool false, .int .i64 0]⟩ := ⟨by kernel_rfl, ⟨_, Tryz.underlying87, by kernel_rfl⟩⟩
theorem te89 : TEok Tryz.prog 89 ⟨.other, 1, 8, .nilFunc⟩ := ⟨by kernel_rfl, ⟨_, Tryz.underlying89, rfl⟩⟩
theorem te90 : TEok Tryz.prog 90 ⟨.struct [(0, 4), (4, 1), (5, 1)], 6, 64, .agg #[.slice none 0 0, .int .i64 0, .bool false, .int .i64 0, .int .i64 0, .int .i64 0]⟩ := ⟨by kernel_rfl, ⟨_, Tryz.underlying90, by kernel_rfl⟩⟩
theorem te91 : TEok Tryz.prog 91 ⟨.struct [(0, 4), (4, 1), (5, 1)], 6, 64, .agg #[.slice none 0 0, .int .i64 0, .bool false, .int .i64 0, .int .i64 0, .int .i64 0]⟩ := ⟨by kernel_rfl, ⟨_, Tryz.underlying91, by kernel_rfl⟩⟩
theorem te92 : TEok Tryz.prog 92 ⟨.other, 1, 8, .nilFunc⟩ := ⟨by kernel_rfl, ⟨_, Tryz.underlying92, rfl⟩⟩
theorem te93 : TEok Tryz.prog 93 ⟨.other, 1, 8, .nilFunc⟩ := ⟨by kernel_rfl, ⟨_, Tryz.underlying93, rfl⟩⟩
theorem te94 : TEok Tryz.prog 94 ⟨.struct [(0, 1), (1, 1)], 2, 16, .agg #[.int .i64 0, .bool false]⟩ := ⟨by kernel_rfl, ⟨_, Tryz.underlying94, by kernel_rfl⟩⟩
theorem te95 : TEok Tryz.prog 95 ⟨.struct [(0, 1), (1, 1)], 2, 16, .agg #[.int .i64 0, .bool false]⟩ := ⟨by kernel_rfl, ⟨_, Tryz.underlying95, by kernel_rfl⟩⟩
theorem te97 : TEok Tryz.prog 97 ⟨.other, 1, 8, .nilFunc⟩ := ⟨by kernel_rfl, ⟨_, Tryz.underlying97, rfl⟩⟩
theorem te98 : TEok Tryz.prog 98 ⟨.other, 1, 8, .nilFunc⟩ := ⟨by kernel_rfl, ⟨_, Tryz.underlying98, rfl⟩⟩
theorem te99 : TEok Tryz.prog 99 ⟨.other, 1, 8, .nilFunc⟩ := ⟨by kernel_rfl, ⟨_, Tryz.underlying99, rfl⟩⟩
theorem te100 : TEok Tryz.prog 100 ⟨.other, 1, 8, .nilFunc⟩ := ⟨by kernel_rfl, ⟨_, Tryz.underlying100, rfl⟩⟩
theorem te101 : TEok Tryz.prog 101 ⟨.ptr, 1, 8, .pointer none⟩ := ⟨by kernel_rfl, ⟨_, Tryz.underlying101⟩⟩
theorem te102 : TEok Tryz.prog 102 ⟨.other, 1, 8, .nilFunc⟩ := ⟨by kernel_rfl, ⟨_, Tryz.underlying102, rfl⟩⟩
theorem te103 : TEok Tryz.prog 103 ⟨.other, 1, 8, .nilFunc⟩ := ⟨by kernel_rfl, ⟨_, Tryz.underlying103, rfl⟩⟩
theorem te104 : TEok Tryz.prog 104 ⟨.struct [(0, 1)], 1, 8, .agg #[.nilFunc]⟩ := ⟨by kernel_rfl, ⟨_, Tryz.underlying104, by kernel_rfl⟩⟩
theorem te105 : TEok Tryz.prog 105 ⟨.struct [(0, 1)], 1, 8, .agg #[.nilFunc]⟩ := ⟨by kernel_rfl, ⟨_, Tryz.underlying105, by kernel_rfl⟩⟩
theorem te107 : TEok Tryz.prog 107 ⟨.other, 1, 8, .map none⟩ := ⟨by kernel_rfl, ⟨_, Tryz.underlying107, rfl⟩⟩
theorem te108 : TEok Tryz.prog 108 ⟨.other, 1, 8, .nilFunc⟩ := ⟨by kernel_rfl, ⟨_, Tryz.underlying108, rfl⟩⟩
theorem te109 : TEok Tryz.prog 109 ⟨.other, 1, 8, .nilFunc⟩ := ⟨by kernel_rfl, ⟨_, Tryz.underlying109, rfl⟩⟩
theorem te111 : TEok Tryz.prog 111 ⟨.other, 1, 8, .nilFunc⟩ := ⟨by kernel_rfl, ⟨_, Tryz.underlying111, rfl⟩⟩
theorem te112 : TEok Tryz.prog 112 ⟨.other, 1, 8, .nilFunc⟩ := ⟨by kernel_rfl, ⟨_, Tryz.underlying112, rfl⟩⟩
theorem te113 : TEok Tryz.prog 113 ⟨.other, 1, 8, .nilFunc⟩ := ⟨by kernel_rfl, ⟨_, Tryz.underlying113, rfl⟩⟩
theorem te114 : TEok Tryz.prog 114 ⟨.other, 1, 8, .nilFunc⟩ := ⟨by kernel_rfl, ⟨_, Tryz.underlying114, rfl⟩⟩
theorem te115 : TEok Tryz.prog 115 ⟨.other, 1, 8, .nilFunc⟩ := ⟨by kernel_rfl, ⟨_, Tryz.underlying115, rfl⟩⟩
theorem te116 : TEok Tryz.prog 116 ⟨.other, 1, 8, .nilFunc⟩ := ⟨by kernel_rfl, ⟨_, Tryz.underlying116, rfl⟩⟩
theorem te117 : TEok Tryz.prog 117 ⟨.other, 1, 8, .nilFunc⟩ := ⟨by kernel_rfl, ⟨_, Tryz.underlying117, rfl⟩⟩
theorem te118 : TEok Tryz.prog 118 ⟨.other, 1, 8, .nilFunc⟩ := ⟨by kernel_rfl, ⟨_, Tryz.underlying118, rfl⟩⟩
theorem te119 : TEok Tryz.prog 119 ⟨.other, 1, 8, .nilFunc⟩ := ⟨by kernel_rfl, ⟨_, Tryz.underlying119, rfl⟩⟩
theorem te120 : TEok Tryz.prog 120 ⟨.int .u64, 1, 8, .int .u64 0⟩ := ⟨by kernel_rfl, Tryz.underlying120⟩
theorem te122 : TEok Tryz.prog 122 ⟨.other, 1, 8, .nilFunc⟩ := ⟨by kernel_rfl, ⟨_, Tryz.underlying122, rfl⟩⟩
theorem te123 : TEok Tryz.prog 123 ⟨.other, 1, 8, .nilFunc⟩ := ⟨by kernel_rfl, ⟨_, Tryz.underlying123, rfl⟩⟩
theorem te124 : TEok Tryz.prog 124 ⟨.int .u64, 1, 8, .int .u64 0⟩ := ⟨by kernel_rfl, Tryz.underlying124⟩
theorem te125 : TEok Tryz.prog 125 ⟨.other, 1, 8, .nilFunc⟩ := ⟨by kernel_rfl, ⟨_, Tryz.underlying125, rfl⟩⟩
theorem te126 : TEok Tryz.prog 126 ⟨.other, 1, 8, .nilFunc⟩ := ⟨by kernel_rfl, ⟨_, Tryz.underlying126, rfl⟩⟩
theorem te128 : TEok Tryz.prog 128 ⟨.other, 1, 8, .nilFunc⟩ := ⟨by kernel_rfl, ⟨_, Tryz.underlying128, rfl⟩⟩
theorem te129 : TEok Tryz.prog 129 ⟨.other, 1, 8, .nilFunc⟩ := ⟨by kernel_rfl, ⟨_, Tryz.underlying129, rfl⟩⟩
theorem te130 : TEok Tryz.prog 130 ⟨.other, 1, 8, .nilFunc⟩ := ⟨by kernel_rfl, ⟨_, Tryz.underlying130, rfl⟩⟩
theorem te131 : TEok Tryz.prog 131 ⟨.other, 1, 8, .nilFunc⟩ := ⟨by kernel_rfl, ⟨_, Tryz.underlying131, rfl⟩⟩
theorem te132 : TEok Tryz.prog 132 ⟨.other, 1, 8, .nilFunc⟩ := ⟨by kernel_rfl, ⟨_, Tryz.underlying132, rfl⟩⟩
theorem te133 : TEok Tryz.prog 133 ⟨.other, 1, 8, .nilFunc⟩ := ⟨by kernel_rfl, ⟨_, Tryz.underlying133, rfl⟩⟩
theorem te134 : TEok Tryz.prog 134 ⟨.other, 1, 8, .nilFunc⟩ := ⟨by kernel_rfl, ⟨_, Tryz.underlying134, rfl⟩⟩
theorem te135 : TEok Tryz.prog 135 ⟨.ptr, 1, 8, .pointer none⟩ := ⟨by kernel_rfl, ⟨_, Tryz.underlying135⟩⟩
theorem te136 : TEok Tryz.prog 136 ⟨.ptr, 1, 8, .pointer none⟩ := ⟨by kernel_rfl, ⟨_, Tryz.underlying136⟩⟩
theorem te137 : TEok Tryz.prog 137 ⟨.struct [(0, 1), (1, 1)], 2, 24, .agg #[.string ⟨#[]⟩, .int .i64 0]⟩ := ⟨by kernel_rfl, ⟨_, Tryz.underlying137, by kernel_rfl⟩⟩
theorem te138 : TEok Tryz.prog 138 ⟨.struct [(0, 1), (1, 1)], 2, 24, .agg #[.string ⟨#[]⟩, .int .i64 0]⟩ := ⟨by kernel_rfl, ⟨_, Tryz.underlying138, by kernel_rfl⟩⟩
theorem te139 : TEok Tryz.prog 139 ⟨.other, 1, 8, .nilFunc⟩ := ⟨by kernel_rfl, ⟨_, Tryz.underlying139, rfl⟩⟩
theorem te140 : TEok Tryz.prog 140 ⟨.other, 1, 8, .nilFunc⟩ := ⟨by kernel_rfl, ⟨_, Tryz.underlying140, rfl⟩⟩
theorem te141 : TEok Tryz.prog 141 ⟨.other, 1, 8, .nilFunc⟩ := ⟨by kernel_rfl, ⟨_, Tryz.underlying141, rfl⟩⟩
theorem te142 : TEok Tryz.prog 142 ⟨.other, 1, 8, .nilFunc⟩ := ⟨by kernel_rfl, ⟨_, Tryz.underlying142, rfl⟩⟩
theorem te143 : TEok Tryz.prog 143 ⟨.other, 1, 8, .nilFunc⟩ := ⟨by kernel_rfl, ⟨_, Tryz.underlying143, rfl⟩⟩
theorem te144 : TEok Tryz.prog 144 ⟨.other, 1, 8, .nilFunc⟩ := ⟨by kernel_rfl, ⟨_, Tryz.underlying144, rfl⟩⟩
theorem te145 : TEok Tryz.prog 145 ⟨.other, 1, 8, .nilFunc⟩ := ⟨by kernel_rfl, ⟨_, Tryz.underlying145, rfl⟩⟩
theorem te147 : TEok Tryz.prog 147 ⟨.other, 1, 8, .nilFunc⟩ := ⟨by kernel_rfl, ⟨_, Tryz.underlying147, rfl⟩⟩
theorem te148 : TEok Tryz.prog 148 ⟨.other, 1, 8, .nilFunc⟩ := ⟨by kernel_rfl, ⟨_, Tryz.underlying148, rfl⟩⟩
theorem te149 : TEok Tryz.prog 149 ⟨.struct [(0, 1), (1, 1)], 2, 32, .agg #[.slice none 0 0, .int .u32 0]⟩ := ⟨by kernel_rfl, ⟨_, Tryz.underlying149, by kernel_rfl⟩⟩
theorem te150 : TEok Tryz.prog 150 ⟨.struct [(0, 1), (1, 1)], 2, 32, .agg #[.slice none 0 0, .int .u32 0]⟩ := ⟨by kernel_rfl, ⟨_, Tryz.underlying150, by kernel_rfl⟩⟩
theorem te151 : TEok Tryz.prog 151 ⟨.other, 1, 8, .nilFunc⟩ := ⟨by kernel_rfl, ⟨_, Tryz.underlying151, rfl⟩⟩
theorem te153 : TEok Tryz.prog 153 ⟨.other, 1, 8, .map none⟩ := ⟨by kernel_rfl, ⟨_, Tryz.underlying153, rfl⟩⟩
theorem te154 : TEok Tryz.prog 154 ⟨.other, 1, 8, .nilFunc⟩ := ⟨by kernel_rfl, ⟨_, Tryz.underlying154, rfl⟩⟩
theorem te155 : TEok Tryz.prog 155 ⟨.other, 1, 8, .nilFunc⟩ := ⟨by kernel_rfl, ⟨_, Tryz.underlying155, rfl⟩⟩
theorem te156 : TEok Tryz.prog 156 ⟨.other, 1, 8, .nilFunc⟩ := ⟨by kernel_rfl, ⟨_, Tryz.underlying156, rfl⟩⟩
theorem te157 : TEok Tryz.prog 157 ⟨.other, 1, 8, .nilFunc⟩ := ⟨by kernel_rfl, ⟨_, Tryz.underlying157, rfl⟩⟩
theorem te158 : TEok Tryz.prog 158 ⟨.other, 1, 8, .nilFunc⟩ := ⟨by kernel_rfl, ⟨_, Tryz.underlying158, rfl⟩⟩
theorem te159 : TEok Tryz.prog 159 ⟨.other, 1, 8, .nilFunc⟩ := ⟨by kernel_rfl, ⟨_, Tryz.underlying159, rfl⟩⟩
theorem te160 : TEok Tryz.prog 160 ⟨.other, 1, 8, .nilFunc⟩ := ⟨by kernel_rfl, ⟨_, Tryz.underlying160, rfl⟩⟩
theorem te162 : TEok Tryz.prog 162 ⟨.other, 1, 8, .nilFunc⟩ := ⟨by kernel_rfl, ⟨_, Tryz.underlying162, rfl⟩⟩
theorem te164 : TEok Tryz.prog 164 ⟨.other, 1, 8, .nilFunc⟩ := ⟨by kernel_rfl, ⟨_, Tryz.underlying164, rfl⟩⟩
theorem te166 : TEok Tryz.prog 166 ⟨.other, 1, 8, .nilFunc⟩ := ⟨by kernel_rfl, ⟨_, Tryz.underlying166, rfl⟩⟩
theorem te167 : TEok Tryz.prog 167 ⟨.other, 1, 8, .nilFunc⟩ := ⟨by kernel_rfl, ⟨_, Tryz.underlying167, rfl⟩⟩
theorem te168 : TEok Tryz.prog 168 ⟨.other, 1, 8, .nilFunc⟩ := ⟨by kernel_rfl, ⟨_, Tryz.underlying168, rfl⟩⟩
theorem te169 : TEok Tryz.prog 169 ⟨.struct [(0, 2), (2, 1)], 3, 24, .agg #[.int .i64 0, .bool false, .int .i64 0]⟩ := ⟨by kernel_rfl, ⟨_, Tryz.underlying169, by kernel_rfl⟩⟩
theorem te170 : TEok Tryz.prog 170 ⟨.array 6 169, 18, 144, .agg #[.int .i64 0, .bool false, .int .i64 0, .int .i64 0, .bool false, .int .i64 0, .int .i64 0, .bool false, .int .i64 0, .int .i64 0, .bool false, .int .i64 0, .int .i64 0, .bool false, .int .i64 0, .int .i64 0, .bool false, .int .i64 0]⟩ := ⟨by kernel_rfl, Tryz.underlying170⟩
theorem te171 : TEok Tryz.prog 171 ⟨.struct [(0, 1)], 1, 8, .agg #[.int .i64 0]⟩ := ⟨by kernel_rfl, ⟨_, Tryz.underlying171, by kernel_rfl⟩⟩
theorem te172 : TEok Tryz.prog 172 ⟨.struct [(0, 1)], 1, 8, .agg #[.int .i64 0]⟩ := ⟨by kernel_rfl, ⟨_, Tryz.underlying172, by kernel_rfl⟩⟩
theorem te173 : TEok Tryz.prog 173 ⟨.other, 1, 8, .nilFunc⟩ := ⟨by kernel_rfl, ⟨_, Tryz.underlying173, rfl⟩⟩
theorem te175 : TEok Tryz.prog 175 ⟨.other, 1, 8, .nilFunc⟩ := ⟨by kernel_rfl, ⟨_, Tryz.underlying175, rfl⟩⟩
theorem te176 : TEok Tryz.prog 176 ⟨.other, 1, 8, .nilFunc⟩ := ⟨by kernel_rfl, ⟨_, Tryz.underlying176, rfl⟩⟩
theorem te178 : TEok Tryz.prog 178 ⟨.struct [(0, 1), (1, 1)], 2, 48, .agg #[.slice none 0 0, .slice none 0 0]⟩ := ⟨by kernel_rfl, ⟨_, Tryz.underlying178, by kernel_rfl⟩⟩
theorem te179 : TEok Tryz.prog 179 ⟨.other, 1, 8, .nilFunc⟩ := ⟨by kernel_rfl, ⟨_, Tryz.underlying179, rfl⟩⟩
theorem te182 : TEok Tryz.prog 182 ⟨.other, 1, 8, .nilFunc⟩ := ⟨by kernel_rfl, ⟨_, Tryz.underlying182, rfl⟩⟩
theorem te183 : TEok Tryz.prog 183 ⟨.slice 54, 1, 24, .slice none 0 0⟩ := ⟨by kernel_rfl, Tryz.underlying183⟩
theorem te189 : TEok Tryz.prog 189 ⟨.other, 1, 8, .nilFunc⟩ := ⟨by kernel_rfl, ⟨_, Tryz.underlying189, rfl⟩⟩
theorem te193 : TEok Tryz.prog 193 ⟨.other, 1, 8, .nilFunc⟩ := ⟨by kernel_rfl, ⟨_, Tryz.underlying193, rfl⟩⟩
theorem te194 : TEok Tryz.prog 194 ⟨.other, 1, 8, .nilFunc⟩ := ⟨by kernel_rfl, ⟨_, Tryz.underlying194, rfl⟩⟩
theorem te195 : TEok Tryz.prog 195 ⟨.struct [(0, 1), (1, 1)], 2, 16, .agg #[.nilFunc, .nilFunc]⟩ := ⟨by kernel_rfl, ⟨_, Tryz.underlying195, by kernel_rfl⟩⟩
theorem te196 : TEok Tryz.prog 196 ⟨.struct [(0, 1), (1, 1)], 2, 16, .agg #[.nilFunc, .nilFunc]⟩ := ⟨by kernel_rfl, ⟨_, Tryz.underlying196, by kernel_rfl⟩⟩
theorem te197 : TEok Tryz.prog 197 ⟨.slice 5, 1, 24, .slice none 0 0⟩ := ⟨by kernel_rfl, Tryz.underlying197⟩
theorem te198 : TEok Tryz.prog 198 ⟨.other, 1, 8, .nilFunc⟩ := ⟨by kernel_rfl, ⟨_, Tryz.underlying198, rfl⟩⟩
theorem te199 : TEok Tryz.prog 199 ⟨.other, 1, 8, .nilFunc⟩ := ⟨by kernel_rfl, ⟨_, Tryz.underlying199, rfl⟩⟩
theorem te200 : TEok Tryz.prog 200 ⟨.other, 1, 8, .nilFunc⟩ := ⟨by kernel_rfl, ⟨_, Tryz.underlying200, rfl⟩⟩
theorem te202 : TEok Tryz.prog 202 ⟨.ptr, 1, 8, .pointer none⟩ := ⟨by kernel_rfl, ⟨_, Tryz.underlying202⟩⟩
theorem te204 : TEok Tryz.prog 204 ⟨.struct [(0, 1), (1, 1)], 2, 32, .agg #[.pointer none, .slice none 0 0]⟩ := ⟨by kernel_rfl, ⟨_, Tryz.underlying204, by kernel_rfl⟩⟩
theorem te207 : TEok Tryz.prog 207 ⟨.other, 1, 16, .nilIface⟩ := ⟨by kernel_rfl, ⟨_, Tryz.underlying207, rfl⟩⟩
theorem te213 : TEok Tryz.prog 213 ⟨.other, 1, 8, .nilFunc⟩ := ⟨by kernel_rfl, ⟨_, Tryz.underlying213, rfl⟩⟩
theorem te215 : TEok Tryz.prog 215 ⟨.struct [(0, 1)], 1, 8, .agg #[.int .i64 0]⟩ := ⟨by kernel_rfl, ⟨_, Tryz.underlying215, by kernel_rfl⟩⟩
theorem te224 : TEok Tryz.prog 224 ⟨.other, 1, 8, .nilFunc⟩ := ⟨by kernel_rfl, ⟨_, Tryz.underlying224, rfl⟩⟩
theorem te230 : TEok Tryz.prog 230 ⟨.struct [(0, 1)], 1, 8, .agg #[.int .i64 0]⟩ := ⟨by kernel_rfl, ⟨_, Tryz.underlying230, by kernel_rfl⟩⟩
theorem te232 : TEok Tryz.prog 232 ⟨.slice 23, 1, 24, .slice none 0 0⟩ := ⟨by kernel_rfl, Tryz.underlying232⟩
theorem te234 : TEok Tryz.prog 234 ⟨.other, 1, 8, .nilFunc⟩ := ⟨by kernel_rfl, ⟨_, Tryz.underlying234, rfl⟩⟩
theorem te235 : TEok Tryz.prog 235 ⟨.other, 1, 8, .nilFunc⟩ := ⟨by kernel_rfl, ⟨_, Tryz.underlying235, rfl⟩⟩
theorem te237 : TEok Tryz.prog 237 ⟨.other, 1, 8, .nilFunc⟩ := ⟨by kernel_rfl, ⟨_, Tryz.underlying237, rfl⟩⟩
theorem te238 : TEok Tryz.prog 238 ⟨.ptr, 1, 8, .pointer none⟩ := ⟨by kernel_rfl, ⟨_, Tryz.underlying238⟩⟩
theorem te241 : TEok Tryz.prog 241 ⟨.other, 1, 8, .nilFunc⟩ := ⟨by kernel_rfl, ⟨_, Tryz.underlying241, rfl⟩⟩
theorem te250 : TEok Tryz.prog 250 ⟨.other, 1, 8, .nilFunc⟩ := ⟨by kernel_rfl, ⟨_, Tryz.underlying250, rfl⟩⟩
theorem te256 : TEok Tryz.prog 256 ⟨.other, 1, 8, .nilFunc⟩ := ⟨by kernel_rfl, ⟨_, Tryz.underlying256, rfl⟩⟩
theorem te269 : TEok Tryz.prog 269 ⟨.array 3 21, 3, 12, .agg #[.int .i32 0, .int .i32 0, .int .i32 0]⟩ := ⟨by kernel_rfl, Tryz.underlying269⟩
theorem te270 : TEok Tryz.prog 270 ⟨.array 3 21, 3, 12, .agg #[.int .i32 0, .int .i32 0, .int .i32 0]⟩ := ⟨by kernel_rfl, Tryz.underlying270⟩
theorem te271 : TEok Tryz.prog 271 ⟨.struct [(0, 1), (1, 1), (2, 3)], 5, 20, .agg #[.int .u32 0, .int .u32 0, .int .i32 0, .int .i32 0, .int .i32 0]⟩ := ⟨by kernel_rfl, ⟨_, Tryz.underlying271, by kernel_rfl⟩⟩
theorem te274 : TEok Tryz.prog 274 ⟨.struct [(0, 1), (1, 1), (2, 1), (3, 1)], 4, 40, .agg #[.pointer none, .pointer none, .pointer none, .string ⟨#[]⟩]⟩ := ⟨by kernel_rfl, ⟨_, Tryz.underlying274, by kernel_rfl⟩⟩
theorem te278 : TEok Tryz.prog 278 ⟨.int .u8, 1, 1, .int .u8 0⟩ := ⟨by kernel_rfl, Tryz.underlying278⟩
theorem te279 : TEok Tryz.prog 279 ⟨.int .u8, 1, 1, .int .u8 0⟩ := ⟨by kernel_rfl, Tryz.underlying279⟩
theorem te280 : TEok Tryz.prog 280 ⟨.other, 1, 8, .nilFunc⟩ := ⟨by kernel_rfl, ⟨_, Tryz.underlying280, rfl⟩⟩
theorem te281 : TEok Tryz.prog 281 ⟨.int .i32, 1, 4, .int .i32 0⟩ := ⟨by kernel_rfl, Tryz.underlying281⟩
theorem te282 : TEok Tryz.prog 282 ⟨.int .i32, 1, 4, .int .i32 0⟩ := ⟨by kernel_rfl, Tryz.underlying282⟩
theorem te283 : TEok Tryz.prog 283 ⟨.struct [(0, 1), (1, 1), (2, 1), (3, 1), (4, 1), (5, 1), (6, 1), (7, 1), (8, 1), (9, 1), (10, 1)], 11, 48, .agg #[.int .u64 0, .int .u64 0, .int .u32 0, .int .u8 0, .int .u8 0, .int .u8 0, .int .u8 0, .nilFunc, .pointer none, .int .i32 0, .int .i32 0]⟩ := ⟨by kernel_rfl, ⟨_, Tryz.underlying283, by kernel_rfl⟩⟩
abbrev t_int : TypeId := 3
abbrev ZiW : TypeId := 5
abbrev ZdW : TypeId := 23
abbrev ZcS : TypeId := 25
abbrev Zar : TypeId := 28
abbrev ZdX : TypeId := 45
abbrev Zah : TypeId := 54
abbrev ZaJ : TypeId := 105
abbrev Zbh : TypeId := 150
abbrev ZcT : TypeId := 172
abbrev Zaj : TypeId := 178
abbrev Zcm : TypeId := 183
abbrev Zgx : TypeId := 197
abbrev Zcn : TypeId := 230
noncomputable def tys : Tr := (.node 107 (.node 51 (.node 24 (.node 12 (.node 6 (.node 3 (.node 1 (.leaf 1 ⟨.other, 1, 8, .nilFunc⟩) (.node 2 (.leaf 2 ⟨.int .i64, 1, 8, .int .i64 0⟩) (.leaf 3 ⟨.int .i64, 1, 8, .int .i64 0⟩))) (.node 4 (.leaf 4 ⟨.bool, 1, 1, .bool false⟩) (.node 5 (.leaf 5 ⟨.int .u8, 1, 1, .int .u8 0⟩) (.leaf 6 ⟨.int .u8, 1, 1, .int .u8 0⟩)))) (.node 9 (.node 7 (.leaf 7 ⟨.struct [(0, 1), (1, 1), (2, 1), (3, 1)], 4, 24, .agg #[.int .i64 0, .int .i64 0, .bool false, .int .u8 0]⟩) (.node 8 (.leaf 8 ⟨.struct [(0, 1), (1, 1), (2, 1), (3, 1)], 4, 24, .agg #[.int .i64 0, .int .i64 0, .bool false, .int .u8 0]⟩) (.leaf 9 ⟨.str, 1, 16, .string ⟨#[]⟩⟩))) (.node 10 (.leaf 10 ⟨.str, 1, 16, .string ⟨#[]⟩⟩) (.node 11 (.leaf 11 ⟨.str, 1, 16, .string ⟨#[]⟩⟩) (.leaf 12 ⟨.int .u64, 1, 8, .int .u64 0⟩))))) (.node 18 (.node 15 (.node 13 (.leaf 13 ⟨.struct [(0, 1), (1, 1)], 2, 24, .agg #[.string ⟨#[]⟩, .int .u64 0]⟩) (.node 14 (.leaf 14 ⟨.struct [(0, 1), (1, 1)], 2, 24, .agg #[.string ⟨#[]⟩, .int .u64 0]⟩) (.leaf 15 ⟨.ptr, 1, 8, .pointer none⟩))) (.node 16 (.leaf 16 ⟨.ptr, 1, 8, .pointer none⟩) (.node 17 (.leaf 17 ⟨.ptr, 1, 8, .pointer none⟩) (.leaf 18 ⟨.struct [(0, 1)], 1, 8, .agg #[.pointer none]⟩)))) (.node 21 (.node 19 (.leaf 19 ⟨.struct [(0, 1)], 1, 8, .agg #[.pointer none]⟩) (.node 20 (.leaf 20 ⟨.other, 1, 16, .nilIface⟩) (.leaf 21 ⟨.int .i32, 1, 4, .int .i32 0⟩))) (.node 22 (.leaf 22 ⟨.slice 54, 1, 24, .slice none 0 0⟩) (.node 23 (.leaf 23 ⟨.slice 54, 1, 24, .slice none 0 0⟩) (.leaf 24 ⟨.struct [(0, 1), (1, 1)], 2, 32, .agg #[.bool false, .slice none 0 0]⟩)))))) (.node 38 (.node 31 (.node 27 (.node 25 (.leaf 25 ⟨.struct [(0, 1), (1, 1)], 2, 32, .agg #[.bool false, .slice none 0 0]⟩) (.node 26 (.leaf 26 ⟨.other, 1, 8, .nilFunc⟩) (.leaf 27 ⟨.other, 1, 8, .nilFunc⟩))) (.node 28 (.leaf 28 ⟨.int .i64, 1, 8, .int .i64 0⟩) (.node 30 (.leaf 30 ⟨.other, 1, 8, .nilFunc⟩) (.leaf 31 ⟨.struct [(0, 2), (2, 2), (4, 1)], 5, 72, .agg #[.bool false, .slice none 0 0, .bool false, .slice none 0 0, .int .i64 0]⟩)))) (.node 34 (.node 32 (.leaf 32 ⟨.struct [(0, 2), (2, 2), (4, 1)], 5, 72, .agg #[.bool false, .slice none 0 0, .bool false, .slice none 0 0, .int .i64 0]⟩) (.node 33 (.leaf 33 ⟨.other, 1, 8, .nilFunc⟩) (.leaf 34 ⟨.other, 1, 8, .nilFunc⟩))) (.node 35 (.leaf 35 ⟨.other, 1, 8, .nilFunc⟩) (.node 37 (.leaf 37 ⟨.other, 1, 8, .nilFunc⟩) (.leaf 38 ⟨.struct [(0, 2), (2, 2), (4, 2), (6, 1)], 7, 104, .agg #[.bool false, .slice none 0 0, .bool false, .slice none 0 0, .bool false, .slice none 0 0, .int .i64 0]⟩))))) (.node 45 (.node 42 (.node 39 (.leaf 39 ⟨.struct [(0, 2), (2, 2), (4, 2), (6, 1)], 7, 104, .agg #[.bool false, .slice none 0 0, .bool false, .slice none 0 0, .bool false, .slice none 0 0, .int .i64 0]⟩) (.node 40 (.leaf 40 ⟨.other, 1, 8, .nilFunc⟩) (.leaf 42 ⟨.other, 1, 8, .nilFunc⟩))) (.node 43 (.leaf 43 ⟨.other, 1, 8, .nilFunc⟩) (.node 44 (.leaf 44 ⟨.struct [(0, 2), (2, 1)], 3, 40, .agg #[.bool false, .slice none 0 0, .int .i64 0]⟩) (.leaf 45 ⟨.struct [(0, 2), (2, 1)], 3, 40, .agg #[.bool false, .slice none 0 0, .int .i64 0]⟩)))) (.node 48 (.node 46 (.leaf 46 ⟨.other, 1, 8, .nilFunc⟩) (.node 47 (.leaf 47 ⟨.other, 1, 8, .nilFunc⟩) (.leaf 48 ⟨.other, 1, 8, .nilFunc⟩))) (.node 49 (.leaf 49 ⟨.other, 1, 8, .nilFunc⟩) (.node 50 (.leaf 50 ⟨.slice 25, 1, 24, .slice none 0 0⟩) (.leaf 51 ⟨.other, 1, 8, .nilFunc⟩))))))) (.node 78 (.node 66 (.node 58 (.node 54 (.node 52 (.leaf 52 ⟨.other, 1, 8, .nilFunc⟩) (.node 53 (.leaf 53 ⟨.other, 1, 8, .nilFunc⟩) (.leaf 54 ⟨.int .u32, 1, 4, .int .u32 0⟩))) (.node 55 (.leaf 55 ⟨.other, 1, 8, .nilFunc⟩) (.node 57 (.leaf 57 ⟨.other, 1, 8, .nilFunc⟩) (.leaf 58 ⟨.other, 1, 8, .nilFunc⟩)))) (.node 61 (.node 59 (.leaf 59 ⟨.other, 1, 8, .nilFunc⟩) (.node 60 (.leaf 60 ⟨.other, 1, 8, .nilFunc⟩) (.leaf 61 ⟨.other, 1, 8, .nilFunc⟩))) (.node 62 (.leaf 62 ⟨.other, 1, 8, .nilFunc⟩) (.node 64 (.leaf 64 ⟨.other, 1, 8, .nilFunc⟩) (.leaf 66 ⟨.other, 1, 8, .nilFunc⟩))))) (.node 72 (.node 69 (.node 67 (.leaf 67 ⟨.struct [(0, 2), (2, 1), (3, 1)], 4, 48, .agg #[.bool false, .slice none 0 0, .int .i64 0, .int .i64 0]⟩) (.node 68 (.leaf 68 ⟨.struct [(0, 2), (2, 1), (3, 1)], 4, 48, .agg #[.bool false, .slice none 0 0, .int .i64 0, .int .i64 0]⟩) (.leaf 69 ⟨.other, 1, 8, .nilFunc⟩))) (.node 70 (.leaf 70 ⟨.other, 1, 8, .nilFunc⟩) (.node 71 (.leaf 71 ⟨.other, 1, 8, .nilFunc⟩) (.leaf 72 ⟨.other, 1, 8, .nilFunc⟩)))) (.node 75 (.node 73 (.leaf 73 ⟨.other, 1, 8, .nilFunc⟩) (.node 74 (.leaf 74 ⟨.other, 1, 8, .nilFunc⟩) (.leaf 75 ⟨.other, 1, 8, .nilFunc⟩))) (.node 76 (.leaf 76 ⟨.other, 1, 8, .nilFunc⟩) (.node 77 (.leaf 77 ⟨.slice 3, 1, 24, .slice none 0 0⟩) (.leaf 78 ⟨.other, 1, 8, .nilFunc⟩)))))) (.node 92 (.node 85 (.node 81 (.node 79 (.leaf 79 ⟨.other, 1, 8, .nilFunc⟩) (.node 80 (.leaf 80 ⟨.other, 1, 8, .nilFunc⟩) (.leaf 81 ⟨.other, 1, 8, .nilFunc⟩))) (.node 82 (.leaf 82 ⟨.other, 1, 8, .nilFunc⟩) (.node 84 (.leaf 84 ⟨.other, 1, 8, .nilFunc⟩) (.leaf 85 ⟨.other, 1, 8, .nilFunc⟩)))) (.node 89 (.node 86 (.leaf 86 ⟨.struct [(0, 1), (1, 1), (2, 1), (3, 1)], 4, 48, .agg #[.slice none 0 0, .int .i64 0, .bool false, .int .i64 0]⟩) (.node 87 (.leaf 87 ⟨.struct [(0, 1), (1, 1), (2, 1), (3, 1)], 4, 48, .agg #[.slice none 0 0, .int .i64 0, .bool false, .int .i64 0]⟩) (.leaf 89 ⟨.other, 1, 8, .nilFunc⟩))) (.node 90 (.leaf 90 ⟨.struct [(0, 4), (4, 1), (5, 1)], 6, 64, .agg #[.slice none 0 0, .int .i64 0, .bool false, .int .i64 0, .int .i64 0, .int .i64 0]⟩) (.node 91 (.leaf 91 ⟨.struct [(0, 4), (4, 1), (5, 1)], 6, 64, .agg #[.slice none 0 0, .int .i64 0, .bool false, .int .i64 0, .int .i64 0, .int .i64 0]⟩) (.leaf 92 ⟨.other, 1, 8, .nilFunc⟩))))) (.node 99 (.node 95 (.node 93 (.leaf 93 ⟨.other, 1, 8, .nilFunc⟩) (.node 94 (.leaf 94 ⟨.struct [(0, 1), (1, 1)], 2, 16, .agg #[.int .i64 0, .bool false]⟩) (.leaf 95 ⟨.struct [(0, 1), (1, 1)], 2, 16, .agg #[.int .i64 0, .bool false]⟩))) (.node 97 (.leaf 97 ⟨.other, 1, 8, .nilFunc⟩) (.node 98 (.leaf 98 ⟨.other, 1, 8, .nilFunc⟩) (.leaf 99 ⟨.other, 1, 8, .nilFunc⟩)))) (.node 102 (.node 100 (.leaf 100 ⟨.other, 1, 8, .nilFunc⟩) (.node 101 (.leaf 101 ⟨.ptr, 1, 8, .pointer none⟩) (.leaf 102 ⟨.other, 1, 8, .nilFunc⟩))) (.node 104 (.node 103 (.leaf 103 ⟨.other, 1, 8, .nilFunc⟩) (.leaf 104 ⟨.struct [(0, 1)], 1, 8, .agg #[.nilFunc]⟩)) (.node 105 (.leaf 105 ⟨.struct [(0, 1)], 1, 8, .agg #[.nilFunc]⟩) (.leaf 107 ⟨.other, 1, 8, .map none⟩)))))))) (.node 162 (.node 134 (.node 120 (.node 114 (.node 111 (.node 108 (.leaf 108 ⟨.other, 1, 8, .nilFunc⟩) (.node 109 (.leaf 109 ⟨.other, 1, 8, .nilFunc⟩) (.leaf 111 ⟨.other, 1, 8, .nilFunc⟩))) (.node 112 (.leaf 112 ⟨.other, 1, 8, .nilFunc⟩) (.node 113 (.leaf 113 ⟨.other, 1, 8, .nilFunc⟩) (.leaf 114 ⟨.other, 1, 8, .nilFunc⟩)))) (.node 117 (.node 115 (.leaf 115 ⟨.other, 1, 8, .nilFunc⟩) (.node 116 (.leaf 116 ⟨.other, 1, 8, .nilFunc⟩) (.leaf 117 ⟨.other, 1, 8, .nilFunc⟩))) (.node 118 (.leaf 118 ⟨.other, 1, 8, .nilFunc⟩) (.node 119 (.leaf 119 ⟨.other, 1, 8, .nilFunc⟩) (.leaf 120 ⟨.int .u64, 1, 8, .int .u64 0⟩))))) (.node 128 (.node 124 (.node 122 (.leaf 122 ⟨.other, 1, 8, .nilFunc⟩) (.node 123 (.leaf 123 ⟨.other, 1, 8, .nilFunc⟩) (.leaf 124 ⟨.int .u64, 1, 8, .int .u64 0⟩))) (.node 125 (.leaf 125 ⟨.other, 1, 8, .nilFunc⟩) (.node 126 (.leaf 126 ⟨.other, 1, 8, .nilFunc⟩) (.leaf 128 ⟨.other, 1, 8, .nilFunc⟩)))) (.node 131 (.node 129 (.leaf 129 ⟨.other, 1, 8, .nilFunc⟩) (.node 130 (.leaf 130 ⟨.other, 1, 8, .nilFunc⟩) (.leaf 131 ⟨.other, 1, 8, .nilFunc⟩))) (.node 132 (.leaf 132 ⟨.other, 1, 8, .nilFunc⟩) (.node 133 (.leaf 133 ⟨.other, 1, 8, .nilFunc⟩) (.leaf 134 ⟨.other, 1, 8, .nilFunc⟩)))))) (.node 147 (.node 140 (.node 137 (.node 135 (.leaf 135 ⟨.ptr, 1, 8, .pointer none⟩) (.node 136 (.leaf 136 ⟨.ptr, 1, 8, .pointer none⟩) (.leaf 137 ⟨.struct [(0, 1), (1, 1)], 2, 24, .agg #[.string ⟨#[]⟩, .int .i64 0]⟩))) (.node 138 (.leaf 138 ⟨.struct [(0, 1), (1, 1)], 2, 24, .agg #[.string ⟨#[]⟩, .int .i64 0]⟩) (.node 139 (.leaf 139 ⟨.other, 1, 8, .nilFunc⟩) (.leaf 140 ⟨.other, 1, 8, .nilFunc⟩)))) (.node 143 (.node 141 (.leaf 141 ⟨.other, 1, 8, .nilFunc⟩) (.node 142 (.leaf 142 ⟨.other, 1, 8, .nilFunc⟩) (.leaf 143 ⟨.other, 1, 8, .nilFunc⟩))) (.node 144 (.leaf 144 ⟨.other, 1, 8, .nilFunc⟩) (.node 145 (.leaf 145 ⟨.other, 1, 8, .nilFunc⟩) (.leaf 147 ⟨.other, 1, 8, .nilFunc⟩))))) (.node 154 (.node 150 (.node 148 (.leaf 148 ⟨.other, 1, 8, .nilFunc⟩) (.node 149 (.leaf 149 ⟨.struct [(0, 1), (1, 1)], 2, 32, .agg #[.slice none 0 0, .int .u32 0]⟩) (.leaf 150 ⟨.struct [(0, 1), (1, 1)], 2, 32, .agg #[.slice none 0 0, .int .u32 0]⟩))) (.node 151 (.leaf 151 ⟨.other, 1, 8, .nilFunc⟩) (.node 153 (.leaf 153 ⟨.other, 1, 8, .map none⟩) (.leaf 154 ⟨.other, 1, 8, .nilFunc⟩)))) (.node 157 (.node 155 (.leaf 155 ⟨.other, 1, 8, .nilFunc⟩) (.node 156 (.leaf 156 ⟨.other, 1, 8, .nilFunc⟩) (.leaf 157 ⟨.other, 1, 8, .nilFunc⟩))) (.node 159 (.node 158 (.leaf 158 ⟨.other, 1, 8, .nilFunc⟩) (.leaf 159 ⟨.other, 1, 8, .nilFunc⟩)) (.node 160 (.leaf 160 ⟨.other, 1, 8, .nilFunc⟩) (.leaf 162 ⟨.other, 1, 8, .nilFunc⟩))))))) (.node 200 (.node 178 (.node 170 (.node 167 (.node 164 (.leaf 164 ⟨.other, 1, 8, .nilFunc⟩) (.node 166 (.leaf 166 ⟨.other, 1, 8, .nilFunc⟩) (.leaf 167 ⟨.other, 1, 8, .nilFunc⟩))) (.node 168 (.leaf 168 ⟨.other, 1, 8, .nilFunc⟩) (.node 169 (.leaf 169 ⟨.struct [(0, 2), (2, 1)], 3, 24, .agg #[.int .i64 0, .bool false, .int .i64 0]⟩) (.leaf 170 ⟨.array 6 169, 18, 144, .agg #[.int .i64 0, .bool false, .int .i64 0, .int .i64 0, .bool false, .int .i64 0, .int .i64 0, .bool false, .int .i64 0, .int .i64 0, .bool false, .int .i64 0, .int .i64 0, .bool false, .int .i64 0, .int .i64 0, .bool false, .int .i64 0]⟩)))) (.node 173 (.node 171 (.leaf 171 ⟨.struct [(0, 1)], 1, 8, .agg #[.int .i64 0]⟩) (.node 172 (.leaf 172 ⟨.struct [(0, 1)], 1, 8, .agg #[.int .i64 0]⟩) (.leaf 173 ⟨.other, 1, 8, .nilFunc⟩))) (.node 175 (.leaf 175 ⟨.other, 1, 8, .nilFunc⟩) (.node 176 (.leaf 176 ⟨.other, 1, 8, .nilFunc⟩) (.leaf 178 ⟨.struct [(0, 1), (1, 1)], 2, 48, .agg #[.slice none 0 0, .slice none 0 0]⟩))))) (.node 194 (.node 183 (.node 179 (.leaf 179 ⟨.other, 1, 8, .nilFunc⟩) (.node 182 (.leaf 182 ⟨.other, 1, 8, .nilFunc⟩) (.leaf 183 ⟨.slice 54, 1, 24, .slice none 0 0⟩))) (.node 189 (.leaf 189 ⟨.other, 1, 8, .nilFunc⟩) (.node 193 (.leaf 193 ⟨.other, 1, 8, .nilFunc⟩) (.leaf 194 ⟨.other, 1, 8, .nilFunc⟩)))) (.node 197 (.node 195 (.leaf 195 ⟨.struct [(0, 1), (1, 1)], 2, 16, .agg #[.nilFunc, .nilFunc]⟩) (.node 196 (.leaf 196 ⟨.struct [(0, 1), (1, 1)], 2, 16, .agg #[.nilFunc, .nilFunc]⟩) (.leaf 197 ⟨.slice 5, 1, 24, .slice none 0 0⟩))) (.node 198 (.leaf 198 ⟨.other, 1, 8, .nilFunc⟩) (.node 199 (.leaf 199 ⟨.other, 1, 8, .nilFunc⟩) (.leaf 200 ⟨.other, 1, 8, .nilFunc⟩)))))) (.node 238 (.node 224 (.node 207 (.node 202 (.leaf 202 ⟨.ptr, 1, 8, .pointer none⟩) (.node 204 (.leaf 204 ⟨.struct [(0, 1), (1, 1)], 2, 32, .agg #[.pointer none, .slice none 0 0]⟩) (.leaf 207 ⟨.other, 1, 16, .nilIface⟩))) (.node 213 (.leaf 213 ⟨.other, 1, 8, .nilFunc⟩) (.node 215 (.leaf 215 ⟨.struct [(0, 1)], 1, 8, .agg #[.int .i64 0]⟩) (.leaf 224 ⟨.other, 1, 8, .nilFunc⟩)))) (.node 234 (.node 230 (.leaf 230 ⟨.struct [(0, 1)], 1, 8, .agg #[.int .i64 0]⟩) (.node 232 (.leaf 232 ⟨.slice 23, 1, 24, .slice none 0 0⟩) (.leaf 234 ⟨.other, 1, 8, .nilFunc⟩))) (.node 235 (.leaf 235 ⟨.other, 1, 8, .nilFunc⟩) (.node 237 (.leaf 237 ⟨.other, 1, 8, .nilFunc⟩) (.leaf 238 ⟨.ptr, 1, 8, .pointer none⟩))))) (.node 271 (.node 256 (.node 241 (.leaf 241 ⟨.other, 1, 8, .nilFunc⟩) (.node 250 (.leaf 250 ⟨.other, 1, 8, .nilFunc⟩) (.leaf 256 ⟨.other, 1, 8, .nilFunc⟩))) (.node 269 (.leaf 269 ⟨.array 3 21, 3, 12, .agg #[.int .i32 0, .int .i32 0, .int .i32 0]⟩) (.node 270 (.leaf 270 ⟨.array 3 21, 3, 12, .agg #[.int .i32 0, .int .i32 0, .int .i32 0]⟩) (.leaf 271 ⟨.struct [(0, 1), (1, 1), (2, 3)], 5, 20, .agg #[.int .u32 0, .int .u32 0, .int .i32 0, .int .i32 0, .int .i32 0]⟩)))) (.node 279 (.node 274 (.leaf 274 ⟨.struct [(0, 1), (1, 1), (2, 1), (3, 1)], 4, 40, .agg #[.pointer none, .pointer none, .pointer none, .string ⟨#[]⟩]⟩) (.node 278 (.leaf 278 ⟨.int .u8, 1, 1, .int .u8 0⟩) (.leaf 279 ⟨.int .u8, 1, 1, .int .u8 0⟩))) (.node 281 (.node 280 (.leaf 280 ⟨.other, 1, 8, .nilFunc⟩) (.leaf 281 ⟨.int .i32, 1, 4, .int .i32 0⟩)) (.node 282 (.leaf 282 ⟨.int .i32, 1, 4, .int .i32 0⟩) (.leaf 283 ⟨.struct [(0, 1), (1, 1), (2, 1), (3, 1), (4, 1), (5, 1), (6, 1), (7, 1), (8, 1), (9, 1), (10, 1)], 11, 48, .agg #[.int .u64 0, .int .u64 0, .int .u32 0, .int .u8 0, .int .u8 0, .int .u8 0, .int .u8 0, .nilFunc, .pointer none, .int .i32 0, .int .i32 0]⟩)))))))))
theorem tysOk : tys.All Tryz.prog := ⟨⟨⟨⟨⟨⟨⟨te1, ⟨te2, te3⟩⟩, ⟨te4, ⟨te5, te6⟩⟩⟩, ⟨⟨te7, ⟨te8, te9⟩⟩, ⟨te10, ⟨te11, te12⟩⟩⟩⟩, ⟨⟨⟨te13, ⟨te14, te15⟩⟩, ⟨te16, ⟨te17, te18⟩⟩⟩, ⟨⟨te19, ⟨te20, te21⟩⟩, ⟨te22, ⟨te23, te24⟩⟩⟩⟩⟩, ⟨⟨⟨⟨te25, ⟨te26, te27⟩⟩, ⟨te28, ⟨te30, te31⟩⟩⟩, ⟨⟨te32, ⟨te33, te34⟩⟩, ⟨te35, ⟨te37, te38⟩⟩⟩⟩, ⟨⟨⟨te39, ⟨te40, te42⟩⟩, ⟨te43, ⟨te44, te45⟩⟩⟩, ⟨⟨te46, ⟨te47, te48⟩⟩, ⟨te49, ⟨te50, te51⟩⟩⟩⟩⟩⟩, ⟨⟨⟨⟨⟨te52, ⟨te53, te54⟩⟩, ⟨te55, ⟨te57, te58⟩⟩⟩, ⟨⟨te59, ⟨te60, te61⟩⟩, ⟨te62, ⟨te64, te66⟩⟩⟩⟩, ⟨⟨⟨te67, ⟨te68, te69⟩⟩, ⟨te70, ⟨te71, te72⟩⟩⟩, ⟨⟨te73, ⟨te74, te75⟩⟩, ⟨te76, ⟨te77, te78⟩⟩⟩⟩⟩, ⟨⟨⟨⟨te79, ⟨te80, te81⟩⟩, ⟨te82, ⟨te84, te85⟩⟩⟩, ⟨⟨te86, ⟨te87, te89⟩⟩, ⟨te90, ⟨te91, te92⟩⟩⟩⟩, ⟨⟨⟨te93, ⟨te94, te95⟩⟩, ⟨te97, ⟨te98, te99⟩⟩⟩, ⟨⟨te100, ⟨te101, te102⟩⟩, ⟨⟨te103, te104⟩, ⟨te105, te107⟩⟩⟩⟩⟩⟩⟩, ⟨⟨⟨⟨⟨⟨te108, ⟨te109, te111⟩⟩, ⟨te112, ⟨te113, te114⟩⟩⟩, ⟨⟨te115, ⟨te116, te117⟩⟩, ⟨te118, ⟨te119, te120⟩⟩⟩⟩, ⟨⟨⟨te122, ⟨te123, te124⟩⟩, ⟨te125, ⟨te126, te128⟩⟩⟩, ⟨⟨te129, ⟨te130, te131⟩⟩, ⟨te132, ⟨te133, te134⟩⟩⟩⟩⟩, ⟨⟨⟨⟨te135, ⟨te136, te137⟩⟩, ⟨te138, ⟨te139, te140⟩⟩⟩, ⟨⟨te141, ⟨te142, te143⟩⟩, ⟨te144, ⟨te145, te147⟩⟩⟩⟩, ⟨⟨⟨te148, ⟨te149, te150⟩⟩, ⟨te151, ⟨te153, te154⟩⟩⟩, ⟨⟨te155, ⟨te156, te157⟩⟩, ⟨⟨te158, te159⟩, ⟨te160, te162⟩⟩⟩⟩⟩⟩, ⟨⟨⟨⟨⟨te164, ⟨te166, te167⟩⟩, ⟨te168, ⟨te169, te170⟩⟩⟩, ⟨⟨te171, ⟨te172, te173⟩⟩, ⟨te175, ⟨te176, te178⟩⟩⟩⟩, ⟨⟨⟨te179, ⟨te182, te183⟩⟩, ⟨te189, ⟨te193, te194⟩⟩⟩, ⟨⟨te195, ⟨te196, te197⟩⟩, ⟨te198, ⟨te199, te200⟩⟩⟩⟩⟩, ⟨⟨⟨⟨te202, ⟨te204, te207⟩⟩, ⟨te213, ⟨te215, te224⟩⟩⟩, ⟨⟨te230, ⟨te232, te234⟩⟩, ⟨te235, ⟨te237, te238⟩⟩⟩⟩, ⟨⟨⟨te241, ⟨te250, te256⟩⟩, ⟨te269, ⟨te270, te271⟩⟩⟩, ⟨⟨te274, ⟨te278, te279⟩⟩, ⟨⟨te280, te281⟩, ⟨te282, te283⟩⟩⟩⟩⟩⟩⟩⟩
noncomputable def C : Ctx := ⟨Tryz.prog, [], tys.get, fun _ _ h => Tr.get_ok tysOk h⟩
theorem mixC : C.P.follows .mixedOrders = true := by kernel_rfl
abbrev Zey : FuncId := 15
theorem Zb1 : C.P.funcs[15]? = some Tryz.f15 := Tryz.func15
theorem ZdY : Enters C.P 15 := Enters.mk Zb1 (by kernel_rfl) (by kernel_rfl)
theorem ZdZ : Tryz.f15.ntmps = 89 := Tryz.ntmps15
theorem Zd0 : Tryz.f15.results = #[ResultVar.tmp 12] := Tryz.results15
abbrev ZiX : FuncId := 18
theorem Zdr : C.P.funcs[18]? = some Tryz.f18 := Tryz.func18
theorem ZhH : Enters C.P 18 := Enters.mk Zdr (by kernel_rfl) (by kernel_rfl)
theorem ZhI : Tryz.f18.ntmps = 10 := Tryz.ntmps18
theorem ZhJ : Tryz.f18.results = #[ResultVar.tmp 4] := Tryz.results18
abbrev ZiY : FuncId := 19
theorem Zds : C.P.funcs[19]? = some Tryz.f19 := Tryz.func19
theorem ZhK : Enters C.P 19 := Enters.mk Zds (by kernel_rfl) (by kernel_rfl)
theorem ZhL : Tryz.f19.ntmps = 73 := Tryz.ntmps19
theorem ZhM : Tryz.f19.results = #[ResultVar.tmp 0] := Tryz.results19
abbrev Zgy : FuncId := 20
theorem Zfa : C.P.funcs[20]? = some Tryz.f20 := Tryz.func20
theorem ZjN : Enters C.P 20 := Enters.mk Zfa (by kernel_rfl) (by kernel_rfl)
theorem ZjO : Tryz.f20.ntmps = 39 := Tryz.ntmps20
theorem ZjP : Tryz.f20.results = #[ResultVar.cell 6 25, ResultVar.cell 7 25, ResultVar.cell 8 28] := Tryz.results20
abbrev Zix : FuncId := 22
theorem Zgz : C.P.funcs[22]? = some Tryz.f22 := Tryz.func22
theorem Zlq : Enters C.P 22 := Enters.mk Zgz (by kernel_rfl) (by kernel_rfl)
theorem Zlr : Tryz.f22.ntmps = 17 := Tryz.ntmps22
theorem Zls : Tryz.f22.results = #[ResultVar.tmp 4] := Tryz.results22
abbrev ZgA : FuncId := 23
theorem Zfb : C.P.funcs[23]? = some Tryz.f23 := Tryz.func23
theorem ZjQ : Enters C.P 23 := Enters.mk Zfb (by kernel_rfl) (by kernel_rfl)
theorem ZjR : Tryz.f23.ntmps = 25 := Tryz.ntmps23
theorem ZjS : Tryz.f23.results = #[ResultVar.cell 4 25, ResultVar.cell 5 25, ResultVar.cell 6 25, ResultVar.cell 7 28] := Tryz.results23
abbrev Zlt : FuncId := 26
theorem Zfc : C.P.funcs[26]? = some Tryz.f26 := Tryz.func26
theorem ZjT : Enters C.P 26 := Enters.mk Zfc (by kernel_rfl) (by kernel_rfl)
theorem ZjU : Tryz.f26.ntmps = 17 := Tryz.ntmps26
theorem ZjV : Tryz.f26.results = #[ResultVar.tmp 6] := Tryz.results26
abbrev ZgB : FuncId := 37
theorem Zcp : C.P.funcs[37]? = some Tryz.f37 := Tryz.func37
theorem ZfB : Enters C.P 37 := Enters.mk Zcp (by kernel_rfl) (by kernel_rfl)
theorem ZfC : Tryz.f37.ntmps = 14 := Tryz.ntmps37
theorem ZfD : Tryz.f37.results = #[ResultVar.cell 2 25] := Tryz.results37
abbrev ZiZ : FuncId := 49
theorem Zdt : C.P.funcs[49]? = some Tryz.f49 := Tryz.func49
theorem ZhN : Enters C.P 49 := Enters.mk Zdt (by kernel_rfl) (by kernel_rfl)
theorem ZhO : Tryz.f49.ntmps = 17 := Tryz.ntmps49
theorem ZhP : Tryz.f49.results = #[ResultVar.tmp 2] := Tryz.results49
abbrev Zlu : FuncId := 50
theorem Zfd : C.P.funcs[50]? = some Tryz.f50 := Tryz.func50
theorem ZjW : Enters C.P 50 := Enters.mk Zfd (by kernel_rfl) (by kernel_rfl)
theorem ZjX : Tryz.f50.ntmps = 17 := Tryz.ntmps50
theorem ZjY : Tryz.f50.results = #[ResultVar.tmp 2] := Tryz.results50
abbrev Zi0 : FuncId := 51
theorem Zdu : C.P.funcs[51]? = some Tryz.f51 := Tryz.func51
theorem ZhQ : Enters C.P 51 := Enters.mk Zdu (by kernel_rfl) (by kernel_rfl)
theorem ZhR : Tryz.f51.ntmps = 17 := Tryz.ntmps51
theorem ZhS : Tryz.f51.results = #[ResultVar.cell 2 25] := Tryz.results51
abbrev ZjZ : FuncId := 52
theorem Zd1 : C.P.funcs[52]? = some Tryz.f52 := Tryz.func52
theorem Zi1 : Enters C.P 52 := Enters.mk Zd1 (by kernel_rfl) (by kernel_rfl)
theorem Zi2 : Tryz.f52.ntmps = 14 := Tryz.ntmps52
theorem Zi3 : Tryz.f52.results = #[ResultVar.cell 6 25, ResultVar.tmp 7] := Tryz.results52
abbrev Zi4 : FuncId := 53
theorem Zdv : C.P.funcs[53]? = some Tryz.f53 := Tryz.func53
theorem ZhT : Enters C.P 53 := Enters.mk Zdv (by kernel_rfl) (by kernel_rfl)
theorem ZhU : Tryz.f53.ntmps = 12 := Tryz.ntmps53
theorem ZhV : Tryz.f53.results = #[ResultVar.cell 4 25, ResultVar.tmp 5] := Tryz.results53
abbrev Zfe : FuncId := 54
theorem Zd2 : C.P.funcs[54]? = some Tryz.f54 := Tryz.func54
theorem Zi5 : Enters C.P 54 := Enters.mk Zd2 (by kernel_rfl) (by kernel_rfl)
theorem Zi6 : Tryz.f54.ntmps = 32 := Tryz.ntmps54
theorem Zi7 : Tryz.f54.results = #[ResultVar.tmp 6, ResultVar.tmp 7] := Tryz.results54
abbrev Zj0 : FuncId := 63
theorem Zd3 : C.P.funcs[63]? = some Tryz.f63 := Tryz.func63
theorem Zi8 : Enters C.P 63 := Enters.mk Zd3 (by kernel_rfl) (by kernel_rfl)
theorem Zi9 : Tryz.f63.ntmps = 15 := Tryz.ntmps63
theorem Zja : Tryz.f63.results = #[ResultVar.cell 6 25, ResultVar.tmp 7] := Tryz.results63
abbrev Zlv : FuncId := 64
theorem Zff : C.P.funcs[64]? = some Tryz.f64 := Tryz.func64
theorem Zj1 : Enters C.P 64 := Enters.mk Zff (by kernel_rfl) (by kernel_rfl)
theorem Zj2 : Tryz.f64.ntmps = 10 := Tryz.ntmps64
theorem Zj3 : Tryz.f64.results = #[ResultVar.cell 2 25, ResultVar.tmp 3] := Tryz.results64
abbrev Zmt : FuncId := 65
theorem ZgC : C.P.funcs[65]? = some Tryz.f65 := Tryz.func65
theorem Zlw : Enters C.P 65 := Enters.mk ZgC (by kernel_rfl) (by kernel_rfl)
theorem Zlx : Tryz.f65.ntmps = 24 := Tryz.ntmps65
theorem Zly : Tryz.f65.results = #[ResultVar.cell 6 45] := Tryz.results65
abbrev Zmu : FuncId := 66
theorem ZgD : C.P.funcs[66]? = some Tryz.f66 := Tryz.func66
theorem Zlz : Enters C.P 66 := Enters.mk ZgD (by kernel_rfl) (by kernel_rfl)
theorem ZlA : Tryz.f66.ntmps = 69 := Tryz.ntmps66
theorem ZlB : Tryz.f66.results = #[ResultVar.cell 6 45] := Tryz.results66
abbrev ZnC : FuncId := 67
theorem Ziy : C.P.funcs[67]? = some Tryz.f67 := Tryz.func67
theorem Zmv : Enters C.P 67 := Enters.mk Ziy (by kernel_rfl) (by kernel_rfl)
theorem Zmw : Tryz.f67.ntmps = 12 := Tryz.ntmps67
theorem Zmx : Tryz.f67.results = #[ResultVar.cell 2 45] := Tryz.results67
abbrev ZlC : FuncId := 68
theorem Zfg : C.P.funcs[68]? = some Tryz.f68 := Tryz.func68
theorem Zj4 : Enters C.P 68 := Enters.mk Zfg (by kernel_rfl) (by kernel_rfl)
theorem Zj5 : Tryz.f68.ntmps = 37 := Tryz.ntmps68
theorem Zj6 : Tryz.f68.results = #[ResultVar.cell 4 45] := Tryz.results68
abbrev Za0 : FuncId := 78
theorem ZbN : C.P.funcs[78]? = some Tryz.f78 := Tryz.func78
theorem ZcU : Enters C.P 78 := Enters.mk ZbN (by kernel_rfl) (by kernel_rfl)
theorem ZcV : Tryz.f78.ntmps = 15 := Tryz.ntmps78
theorem ZcW : Tryz.f78.results = #[] := Tryz.results78
abbrev Zj7 : FuncId := 79
theorem Zd4 : C.P.funcs[79]? = some Tryz.f79 := Tryz.func79
theorem Zjb : Enters C.P 79 := Enters.mk Zd4 (by kernel_rfl) (by kernel_rfl)
theorem Zjc : Tryz.f79.ntmps = 6 := Tryz.ntmps79
theorem Zjd : Tryz.f79.results = #[] := Tryz.results79
abbrev Zje : FuncId := 80
theorem Zdw : C.P.funcs[80]? = some Tryz.f80 := Tryz.func80
theorem ZhW : Enters C.P 80 := Enters.mk Zdw (by kernel_rfl) (by kernel_rfl)
theorem ZhX : Tryz.f80.ntmps = 7 := Tryz.ntmps80
theorem ZhY : Tryz.f80.results = #[ResultVar.tmp 0] := Tryz.results80
abbrev Zfh : FuncId := 81
theorem Zd5 : C.P.funcs[81]? = some Tryz.f81 := Tryz.func81
theorem Zjf : Enters C.P 81 := Enters.mk Zd5 (by kernel_rfl) (by kernel_rfl)
theorem Zjg : Tryz.f81.ntmps = 9 := Tryz.ntmps81
theorem Zjh : Tryz.f81.results = #[] := Tryz.results81
abbrev Zdx : FuncId := 82
theorem ZcX : C.P.funcs[82]? = some Tryz.f82 := Tryz.func82
theorem ZgE : Enters C.P 82 := Enters.mk ZcX (by kernel_rfl) (by kernel_rfl)
theorem ZgF : Tryz.f82.ntmps = 69 := Tryz.ntmps82
theorem ZgG : Tryz.f82.results = #[ResultVar.cell 6 25, ResultVar.cell 7 25] := Tryz.results82
abbrev ZgH : FuncId := 83
theorem Zfi : C.P.funcs[83]? = some Tryz.f83 := Tryz.func83
theorem Zj8 : Enters C.P 83 := Enters.mk Zfi (by kernel_rfl) (by kernel_rfl)
theorem Zj9 : Tryz.f83.ntmps = 9 := Tryz.ntmps83
theorem Zka : Tryz.f83.results = #[ResultVar.cell 2 25] := Tryz.results83
abbrev ZhZ : FuncId := 84
theorem ZcY : C.P.funcs[84]? = some Tryz.f84 := Tryz.func84
theorem ZgI : Enters C.P 84 := Enters.mk ZcY (by kernel_rfl) (by kernel_rfl)
theorem ZgJ : Tryz.f84.ntmps = 41 := Tryz.ntmps84
theorem ZgK : Tryz.f84.results = #[ResultVar.cell 6 32] := Tryz.results84
abbrev Zmy : FuncId := 85
theorem ZgL : C.P.funcs[85]? = some Tryz.f85 := Tryz.func85
theorem ZlD : Enters C.P 85 := Enters.mk ZgL (by kernel_rfl) (by kernel_rfl)
theorem ZlE : Tryz.f85.ntmps = 26 := Tryz.ntmps85
theorem ZlF : Tryz.f85.results = #[ResultVar.tmp 4] := Tryz.results85
abbrev ZlG : FuncId := 86
theorem Zfj : C.P.funcs[86]? = some Tryz.f86 := Tryz.func86
theorem Zkb : Enters C.P 86 := Enters.mk Zfj (by kernel_rfl) (by kernel_rfl)
theorem Zkc : Tryz.f86.ntmps = 83 := Tryz.ntmps86
theorem Zkd : Tryz.f86.results = #[ResultVar.cell 4 25, ResultVar.cell 5 25, ResultVar.cell 6 25] := Tryz.results86
abbrev Zji : FuncId := 87
theorem Zke : C.P.funcs[87]? = some Tryz.f87 := Tryz.func87
theorem ZnD : Enters C.P 87 := Enters.mk Zke (by kernel_rfl) (by kernel_rfl)
theorem ZnE : Tryz.f87.ntmps = 14 := Tryz.ntmps87
theorem ZnF : Tryz.f87.results = #[ResultVar.cell 4 25] := Tryz.results87
abbrev ZlH : FuncId := 91
theorem Zfk : C.P.funcs[91]? = some Tryz.f91 := Tryz.func91
theorem Zkf : Enters C.P 91 := Enters.mk Zfk (by kernel_rfl) (by kernel_rfl)
theorem Zkg : Tryz.f91.ntmps = 9 := Tryz.ntmps91
theorem Zkh : Tryz.f91.results = #[ResultVar.cell 4 25] := Tryz.results91
abbrev ZlI : FuncId := 92
theorem Zfl : C.P.funcs[92]? = some Tryz.f92 := Tryz.func92
theorem Zki : Enters C.P 92 := Enters.mk Zfl (by kernel_rfl) (by kernel_rfl)
theorem Zkj : Tryz.f92.ntmps = 16 := Tryz.ntmps92
theorem Zkk : Tryz.f92.results = #[ResultVar.cell 4 25] := Tryz.results92
abbrev ZgM : FuncId := 93
theorem Zcq : C.P.funcs[93]? = some Tryz.f93 := Tryz.func93
theorem ZfE : Enters C.P 93 := Enters.mk Zcq (by kernel_rfl) (by kernel_rfl)
theorem ZfF : Tryz.f93.ntmps = 10 := Tryz.ntmps93
theorem ZfG : Tryz.f93.results = #[ResultVar.cell 4 25, ResultVar.cell 5 28] := Tryz.results93
abbrev ZlJ : FuncId := 95
theorem Zfm : C.P.funcs[95]? = some Tryz.f95 := Tryz.func95
theorem Zkl : Enters C.P 95 := Enters.mk Zfm (by kernel_rfl) (by kernel_rfl)
theorem Zkm : Tryz.f95.ntmps = 34 := Tryz.ntmps95
theorem Zkn : Tryz.f95.results = #[ResultVar.tmp 4] := Tryz.results95
abbrev ZgN : FuncId := 97
theorem Zcr : C.P.funcs[97]? = some Tryz.f97 := Tryz.func97
theorem ZfH : Enters C.P 97 := Enters.mk Zcr (by kernel_rfl) (by kernel_rfl)
theorem ZfI : Tryz.f97.ntmps = 9 := Tryz.ntmps97
theorem ZfJ : Tryz.f97.results = #[ResultVar.cell 2 25] := Tryz.results97
abbrev ZdJ : FuncId := 99
theorem Zfn : C.P.funcs[99]? = some Tryz.f99 := Tryz.func99
theorem Zko : Enters C.P 99 := Enters.mk Zfn (by kernel_rfl) (by kernel_rfl)
theorem Zkp : Tryz.f99.ntmps = 51 := Tryz.ntmps99
theorem Zkq : Tryz.f99.results = #[ResultVar.cell 4 25] := Tryz.results99
abbrev ZgO : FuncId := 102
theorem Zcs : C.P.funcs[102]? = some Tryz.f102 := Tryz.func102
theorem ZfK : Enters C.P 102 := Enters.mk Zcs (by kernel_rfl) (by kernel_rfl)
theorem ZfL : Tryz.f102.ntmps = 19 := Tryz.ntmps102
theorem ZfM : Tryz.f102.results = #[ResultVar.cell 4 25] := Tryz.results102
abbrev Zh0 : FuncId := 103
theorem ZcZ : C.P.funcs[103]? = some Tryz.f103 := Tryz.func103
theorem ZgP : Enters C.P 103 := Enters.mk ZcZ (by kernel_rfl) (by kernel_rfl)
theorem ZgQ : Tryz.f103.ntmps = 9 := Tryz.ntmps103
theorem ZgR : Tryz.f103.results = #[ResultVar.cell 2 25] := Tryz.results103
abbrev Zjj : FuncId := 104
theorem Zdy : C.P.funcs[104]? = some Tryz.f104 := Tryz.func104
theorem Zh1 : Enters C.P 104 := Enters.mk Zdy (by kernel_rfl) (by kernel_rfl)
theorem Zh2 : Tryz.f104.ntmps = 10 := Tryz.ntmps104
theorem Zh3 : Tryz.f104.results = #[ResultVar.cell 2 45] := Tryz.results104
abbrev Zmz : FuncId := 105
theorem ZgS : C.P.funcs[105]? = some Tryz.f105 := Tryz.func105
theorem ZlK : Enters C.P 105 := Enters.mk ZgS (by kernel_rfl) (by kernel_rfl)
theorem ZlL : Tryz.f105.ntmps = 40 := Tryz.ntmps105
theorem ZlM : Tryz.f105.results = #[ResultVar.cell 4 25] := Tryz.results105
abbrev Zdz : FuncId := 106
theorem Zc0 : C.P.funcs[106]? = some Tryz.f106 := Tryz.func106
theorem ZgT : Enters C.P 106 := Enters.mk Zc0 (by kernel_rfl) (by kernel_rfl)
theorem ZgU : Tryz.f106.ntmps = 13 := Tryz.ntmps106
theorem ZgV : Tryz.f106.results = #[ResultVar.cell 4 25] := Tryz.results106
abbrev Zh4 : FuncId := 107
theorem Zc1 : C.P.funcs[107]? = some Tryz.f107 := Tryz.func107
theorem ZgW : Enters C.P 107 := Enters.mk Zc1 (by kernel_rfl) (by kernel_rfl)
theorem ZgX : Tryz.f107.ntmps = 5 := Tryz.ntmps107
theorem ZgY : Tryz.f107.results = #[ResultVar.tmp 2] := Tryz.results107
abbrev Zkr : FuncId := 108
theorem Zd6 : C.P.funcs[108]? = some Tryz.f108 := Tryz.func108
theorem Zjk : Enters C.P 108 := Enters.mk Zd6 (by kernel_rfl) (by kernel_rfl)
theorem Zjl : Tryz.f108.ntmps = 11 := Tryz.ntmps108
theorem Zjm : Tryz.f108.results = #[ResultVar.tmp 2] := Tryz.results108
abbrev ZmA : FuncId := 110
theorem ZgZ : C.P.funcs[110]? = some Tryz.f110 := Tryz.func110
theorem ZlN : Enters C.P 110 := Enters.mk ZgZ (by kernel_rfl) (by kernel_rfl)
theorem ZlO : Tryz.f110.ntmps = 25 := Tryz.ntmps110
theorem ZlP : Tryz.f110.results = #[ResultVar.tmp 2] := Tryz.results110
abbrev Zg0 : FuncId := 111
theorem Zfo : C.P.funcs[111]? = some Tryz.f111 := Tryz.func111
theorem Zks : Enters C.P 111 := Enters.mk Zfo (by kernel_rfl) (by kernel_rfl)
theorem Zkt : Tryz.f111.ntmps = 20 := Tryz.ntmps111
theorem Zku : Tryz.f111.results = #[ResultVar.tmp 2] := Tryz.results111
abbrev ZlQ : FuncId := 112
theorem Zfp : C.P.funcs[112]? = some Tryz.f112 := Tryz.func112
theorem Zkv : Enters C.P 112 := Enters.mk Zfp (by kernel_rfl) (by kernel_rfl)
theorem Zkw : Tryz.f112.ntmps = 20 := Tryz.ntmps112
theorem Zkx : Tryz.f112.results = #[ResultVar.tmp 2] := Tryz.results112
abbrev Zg1 : FuncId := 113
theorem Ziz : C.P.funcs[113]? = some Tryz.f113 := Tryz.func113
theorem ZmB : Enters C.P 113 := Enters.mk Ziz (by kernel_rfl) (by kernel_rfl)
theorem ZmC : Tryz.f113.ntmps = 36 := Tryz.ntmps113
theorem ZmD : Tryz.f113.results = #[ResultVar.tmp 4] := Tryz.results113
abbrev ZoF : FuncId := 114
theorem Zky : C.P.funcs[114]? = some Tryz.f114 := Tryz.func114
theorem ZnG : Enters C.P 114 := Enters.mk Zky (by kernel_rfl) (by kernel_rfl)
theorem ZnH : Tryz.f114.ntmps = 10 := Tryz.ntmps114
theorem ZnI : Tryz.f114.results = #[ResultVar.tmp 2] := Tryz.results114
abbrev ZdA : FuncId := 115
theorem Zc2 : C.P.funcs[115]? = some Tryz.f115 := Tryz.func115
theorem Zg2 : Enters C.P 115 := Enters.mk Zc2 (by kernel_rfl) (by kernel_rfl)
theorem Zg3 : Tryz.f115.ntmps = 49 := Tryz.ntmps115
theorem Zg4 : Tryz.f115.results = #[ResultVar.cell 3 25] := Tryz.results115
abbrev ZaK : FuncId := 116
theorem Zd7 : C.P.funcs[116]? = some Tryz.f116 := Tryz.func116
theorem Zjn : Enters C.P 116 := Enters.mk Zd7 (by kernel_rfl) (by kernel_rfl)
theorem Zjo : Tryz.f116.ntmps = 10 := Tryz.ntmps116
theorem Zjp : Tryz.f116.results = #[ResultVar.tmp 4] := Tryz.results116
abbrev Zkz : FuncId := 117
theorem ZiA : C.P.funcs[117]? = some Tryz.f117 := Tryz.func117
theorem ZmE : Enters C.P 117 := Enters.mk ZiA (by kernel_rfl) (by kernel_rfl)
theorem ZmF : Tryz.f117.ntmps = 22 := Tryz.ntmps117
theorem ZmG : Tryz.f117.results = #[ResultVar.tmp 4, ResultVar.cell 5 28] := Tryz.results117
abbrev Zjq : FuncId := 118
theorem ZdB : C.P.funcs[118]? = some Tryz.f118 := Tryz.func118
theorem Zh5 : Enters C.P 118 := Enters.mk ZdB (by kernel_rfl) (by kernel_rfl)
theorem Zh6 : Tryz.f118.ntmps = 14 := Tryz.ntmps118
theorem Zh7 : Tryz.f118.results = #[ResultVar.tmp 4] := Tryz.results118
abbrev Zc3 : FuncId := 119
theorem Zct : C.P.funcs[119]? = some Tryz.f119 := Tryz.func119
theorem ZfN : Enters C.P 119 := Enters.mk Zct (by kernel_rfl) (by kernel_rfl)
theorem ZfO : Tryz.f119.ntmps = 53 := Tryz.ntmps119
theorem ZfP : Tryz.f119.results = #[ResultVar.cell 2 25] := Tryz.results119
abbrev ZnJ : FuncId := 120
theorem ZiB : C.P.funcs[120]? = some Tryz.f120 := Tryz.func120
theorem ZmH : Enters C.P 120 := Enters.mk ZiB (by kernel_rfl) (by kernel_rfl)
theorem ZmI : Tryz.f120.ntmps = 16 := Tryz.ntmps120
theorem ZmJ : Tryz.f120.results = #[ResultVar.tmp 4, ResultVar.cell 5 28] := Tryz.results120
abbrev ZkA : FuncId := 121
theorem ZiC : C.P.funcs[121]? = some Tryz.f121 := Tryz.func121
theorem ZmK : Enters C.P 121 := Enters.mk ZiC (by kernel_rfl) (by kernel_rfl)
theorem ZmL : Tryz.f121.ntmps = 12 := Tryz.ntmps121
theorem ZmM : Tryz.f121.results = #[ResultVar.tmp 4, ResultVar.tmp 5] := Tryz.results121
abbrev ZkB : FuncId := 122
theorem ZiD : C.P.funcs[122]? = some Tryz.f122 := Tryz.func122
theorem ZmN : Enters C.P 122 := Enters.mk ZiD (by kernel_rfl) (by kernel_rfl)
theorem ZmO : Tryz.f122.ntmps = 12 := Tryz.ntmps122
theorem ZmP : Tryz.f122.results = #[ResultVar.tmp 4, ResultVar.tmp 5] := Tryz.results122
abbrev ZkC : FuncId := 123
theorem Zd8 : C.P.funcs[123]? = some Tryz.f123 := Tryz.func123
theorem Zjr : Enters C.P 123 := Enters.mk Zd8 (by kernel_rfl) (by kernel_rfl)
theorem Zjs : Tryz.f123.ntmps = 23 := Tryz.ntmps123
theorem Zjt : Tryz.f123.results = #[ResultVar.tmp 4] := Tryz.results123
abbrev Zez : FuncId := 124
theorem Zd9 : C.P.funcs[124]? = some Tryz.f124 := Tryz.func124
theorem Zea : Enters C.P 124 := Enters.mk Zd9 (by kernel_rfl) (by kernel_rfl)
abbrev ZmQ : FuncId := 139
theorem Zg5 : C.P.funcs[139]? = some Tryz.f139 := Tryz.func139
theorem ZlR : Enters C.P 139 := Enters.mk Zg5 (by kernel_rfl) (by kernel_rfl)
theorem ZlS : Tryz.f139.ntmps = 9 := Tryz.ntmps139
theorem ZlT : Tryz.f139.results = #[ResultVar.cell 4 25] := Tryz.results139
abbrev ZnK : FuncId := 140
theorem ZiE : C.P.funcs[140]? = some Tryz.f140 := Tryz.func140
theorem ZmR : Enters C.P 140 := Enters.mk ZiE (by kernel_rfl) (by kernel_rfl)
theorem ZmS : Tryz.f140.ntmps = 2 := Tryz.ntmps140
theorem ZmT : Tryz.f140.results = #[ResultVar.cell 0 25] := Tryz.results140
abbrev Zb9 : FuncId := 142
theorem ZbO : C.P.funcs[142]? = some Tryz.f142 := Tryz.func142
theorem Zc4 : Enters C.P 142 := Enters.mk ZbO (by kernel_rfl) (by kernel_rfl)
theorem Zc5 : Tryz.f142.ntmps = 63 := Tryz.ntmps142
theorem Zc6 : Tryz.f142.results = #[ResultVar.cell 3 25] := Tryz.results142
abbrev Zbq : FuncId := 143
theorem Zb2 : C.P.funcs[143]? = some Tryz.f143 := Tryz.func143
theorem Zeb : Enters C.P 143 := Enters.mk Zb2 (by kernel_rfl) (by kernel_rfl)
theorem Zec : Tryz.f143.ntmps = 10 := Tryz.ntmps143
theorem Zed : Tryz.f143.results = #[ResultVar.tmp 6] := Tryz.results143
abbrev ZbF : FuncId := 144
theorem Zcb : C.P.funcs[144]? = some Tryz.f144 := Tryz.func144
theorem ZeA : Enters C.P 144 := Enters.mk Zcb (by kernel_rfl) (by kernel_rfl)
theorem ZeB : Tryz.f144.ntmps = 10 := Tryz.ntmps144
theorem ZeC : Tryz.f144.results = #[ResultVar.tmp 6] := Tryz.results144
abbrev Zbr : FuncId := 145
theorem Zb3 : C.P.funcs[145]? = some Tryz.f145 := Tryz.func145
theorem Zee : Enters C.P 145 := Enters.mk Zb3 (by kernel_rfl) (by kernel_rfl)
theorem Zef : Tryz.f145.ntmps = 10 := Tryz.ntmps145
theorem Zeg : Tryz.f145.results = #[ResultVar.tmp 6] := Tryz.results145
abbrev Zeh : FuncId := 146
theorem ZbP : C.P.funcs[146]? = some Tryz.f146 := Tryz.func146
theorem ZdK : Enters C.P 146 := Enters.mk ZbP (by kernel_rfl) (by kernel_rfl)
theorem ZdL : Tryz.f146.ntmps = 34 := Tryz.ntmps146
theorem ZdM : Tryz.f146.results = #[ResultVar.cell 2 150] := Tryz.results146
abbrev ZfQ : FuncId := 147
theorem Zcc : C.P.funcs[147]? = some Tryz.f147 := Tryz.func147
theorem ZeD : Enters C.P 147 := Enters.mk Zcc (by kernel_rfl) (by kernel_rfl)
theorem ZeE : Tryz.f147.ntmps = 17 := Tryz.ntmps147
theorem ZeF : Tryz.f147.results = #[ResultVar.tmp 4] := Tryz.results147
abbrev Zbx : FuncId := 148
theorem Zbn : C.P.funcs[148]? = some Tryz.f148 := Tryz.func148
theorem ZcJ : Enters C.P 148 := Enters.mk Zbn (by kernel_rfl) (by kernel_rfl)
theorem ZcK : Tryz.f148.ntmps = 44 := Tryz.ntmps148
theorem ZcL : Tryz.f148.results = #[ResultVar.cell 2 25] := Tryz.results148
abbrev Zei : FuncId := 149
theorem ZdC : C.P.funcs[149]? = some Tryz.f149 := Tryz.func149
theorem Zh8 : Enters C.P 149 := Enters.mk ZdC (by kernel_rfl) (by kernel_rfl)
theorem Zh9 : Tryz.f149.ntmps = 7 := Tryz.ntmps149
theorem Zia : Tryz.f149.results = #[ResultVar.cell 1 25] := Tryz.results149
abbrev Zju : FuncId := 150
theorem ZdD : C.P.funcs[150]? = some Tryz.f150 := Tryz.func150
theorem Zib : Enters C.P 150 := Enters.mk ZdD (by kernel_rfl) (by kernel_rfl)
theorem Zic : Tryz.f150.ntmps = 25 := Tryz.ntmps150
theorem Zid : Tryz.f150.results = #[ResultVar.cell 6 25] := Tryz.results150
abbrev Zie : FuncId := 151
theorem Zc7 : C.P.funcs[151]? = some Tryz.f151 := Tryz.func151
theorem Zg6 : Enters C.P 151 := Enters.mk Zc7 (by kernel_rfl) (by kernel_rfl)
theorem Zg7 : Tryz.f151.ntmps = 21 := Tryz.ntmps151
theorem Zg8 : Tryz.f151.results = #[ResultVar.tmp 6] := Tryz.results151
abbrev Zjv : FuncId := 152
theorem ZdE : C.P.funcs[152]? = some Tryz.f152 := Tryz.func152
theorem Zif : Enters C.P 152 := Enters.mk ZdE (by kernel_rfl) (by kernel_rfl)
theorem Zig : Tryz.f152.ntmps = 13 := Tryz.ntmps152
theorem Zih : Tryz.f152.results = #[ResultVar.tmp 4] := Tryz.results152
abbrev Zej : FuncId := 153
theorem ZeG : C.P.funcs[153]? = some Tryz.f153 := Tryz.func153
theorem ZiF : Enters C.P 153 := Enters.mk ZeG (by kernel_rfl) (by kernel_rfl)
theorem ZiG : Tryz.f153.ntmps = 51 := Tryz.ntmps153
theorem ZiH : Tryz.f153.results = #[ResultVar.tmp 4] := Tryz.results153
abbrev ZlU : FuncId := 154
theorem Zfq : C.P.funcs[154]? = some Tryz.f154 := Tryz.func154
theorem ZkD : Enters C.P 154 := Enters.mk Zfq (by kernel_rfl) (by kernel_rfl)
theorem ZkE : Tryz.f154.ntmps = 7 := Tryz.ntmps154
theorem ZkF : Tryz.f154.results = #[ResultVar.cell 2 25] := Tryz.results154
abbrev ZmU : FuncId := 159
theorem Zg9 : C.P.funcs[159]? = some Tryz.f159 := Tryz.func159
theorem ZlV : Enters C.P 159 := Enters.mk Zg9 (by kernel_rfl) (by kernel_rfl)
theorem ZlW : Tryz.f159.ntmps = 6 := Tryz.ntmps159
theorem ZlX : Tryz.f159.results = #[ResultVar.tmp 2] := Tryz.results159
abbrev ZaV : FuncId := 163
theorem Zat : C.P.funcs[163]? = some Tryz.f163 := Tryz.func163
theorem ZaN : Enters C.P 163 := Enters.mk Zat (by kernel_rfl) (by kernel_rfl)
theorem ZaO : Tryz.f163.ntmps = 9 := Tryz.ntmps163
theorem ZaP : Tryz.f163.results = #[ResultVar.tmp 4] := Tryz.results163
abbrev ZdF : FuncId := 164
theorem Zc8 : C.P.funcs[164]? = some Tryz.f164 := Tryz.func164
theorem Zha : Enters C.P 164 := Enters.mk Zc8 (by kernel_rfl) (by kernel_rfl)
theorem Zhb : Tryz.f164.ntmps = 6 := Tryz.ntmps164
theorem Zhc : Tryz.f164.results = #[ResultVar.tmp 2] := Tryz.results164
abbrev ZbQ : FuncId := 165
theorem Zcu : C.P.funcs[165]? = some Tryz.f165 := Tryz.func165
theorem ZfR : Enters C.P 165 := Enters.mk Zcu (by kernel_rfl) (by kernel_rfl)
theorem ZfS : Tryz.f165.ntmps = 9 := Tryz.ntmps165
theorem ZfT : Tryz.f165.results = #[ResultVar.tmp 8] := Tryz.results165
abbrev ZbR : FuncId := 166
theorem Zcv : C.P.funcs[166]? = some Tryz.f166 := Tryz.func166
theorem ZfU : Enters C.P 166 := Enters.mk Zcv (by kernel_rfl) (by kernel_rfl)
theorem ZfV : Tryz.f166.ntmps = 14 := Tryz.ntmps166
theorem ZfW : Tryz.f166.results = #[ResultVar.tmp 8] := Tryz.results166
abbrev ZaL : FuncId := 167
theorem Zcw : C.P.funcs[167]? = some Tryz.f167 := Tryz.func167
theorem ZfX : Enters C.P 167 := Enters.mk Zcw (by kernel_rfl) (by kernel_rfl)
theorem ZfY : Tryz.f167.ntmps = 11 := Tryz.ntmps167
theorem ZfZ : Tryz.f167.results = #[ResultVar.tmp 8] := Tryz.results167
abbrev ZbS : FuncId := 168
theorem Zcx : C.P.funcs[168]? = some Tryz.f168 := Tryz.func168
theorem Zf0 : Enters C.P 168 := Enters.mk Zcx (by kernel_rfl) (by kernel_rfl)
theorem Zf1 : Tryz.f168.ntmps = 41 := Tryz.ntmps168
theorem Zf2 : Tryz.f168.results = #[ResultVar.tmp 8] := Tryz.results168
abbrev Zek : FuncId := 169
theorem ZiI : C.P.funcs[169]? = some Tryz.f169 := Tryz.func169
theorem ZmV : Enters C.P 169 := Enters.mk ZiI (by kernel_rfl) (by kernel_rfl)
theorem ZmW : Tryz.f169.ntmps = 14 := Tryz.ntmps169
theorem ZmX : Tryz.f169.results = #[ResultVar.tmp 4, ResultVar.tmp 5, ResultVar.tmp 6] := Tryz.results169
abbrev ZbG : FuncId := 170
theorem ZaE : C.P.funcs[170]? = some Tryz.f170 := Tryz.func170
theorem Zby : Enters C.P 170 := Enters.mk ZaE (by kernel_rfl) (by kernel_rfl)
theorem Zbz : Tryz.f170.ntmps = 8 := Tryz.ntmps170
theorem ZbA : Tryz.f170.results = #[ResultVar.tmp 2] := Tryz.results170
abbrev ZnL : FuncId := 171
theorem ZiJ : C.P.funcs[171]? = some Tryz.f171 := Tryz.func171
theorem ZmY : Enters C.P 171 := Enters.mk ZiJ (by kernel_rfl) (by kernel_rfl)
theorem ZmZ : Tryz.f171.ntmps = 176 := Tryz.ntmps171
theorem Zm0 : Tryz.f171.results = #[ResultVar.cell 4 178] := Tryz.results171
abbrev ZoG : FuncId := 172
theorem ZkG : C.P.funcs[172]? = some Tryz.f172 := Tryz.func172
theorem ZnM : Enters C.P 172 := Enters.mk ZkG (by kernel_rfl) (by kernel_rfl)
theorem ZnN : Tryz.f172.ntmps = 56 := Tryz.ntmps172
theorem ZnO : Tryz.f172.results = #[ResultVar.tmp 8] := Tryz.results172
abbrev Zii : FuncId := 173
theorem Zc9 : C.P.funcs[173]? = some Tryz.f173 := Tryz.func173
theorem Zhd : Enters C.P 173 := Enters.mk Zc9 (by kernel_rfl) (by kernel_rfl)
theorem Zhe : Tryz.f173.ntmps = 60 := Tryz.ntmps173
theorem Zhf : Tryz.f173.results = #[ResultVar.tmp 4, ResultVar.cell 5 25, ResultVar.cell 6 25, ResultVar.tmp 7, ResultVar.tmp 8] := Tryz.results173
abbrev Zcd : FuncId := 174
theorem ZdN : C.P.funcs[174]? = some Tryz.f174 := Tryz.func174
theorem Zhg : Enters C.P 174 := Enters.mk ZdN (by kernel_rfl) (by kernel_rfl)
theorem Zhh : Tryz.f174.ntmps = 23 := Tryz.ntmps174
theorem Zhi : Tryz.f174.results = #[ResultVar.tmp 2] := Tryz.results174
abbrev ZnP : FuncId := 175
theorem ZiK : C.P.funcs[175]? = some Tryz.f175 := Tryz.func175
theorem Zm1 : Enters C.P 175 := Enters.mk ZiK (by kernel_rfl) (by kernel_rfl)
theorem Zm2 : Tryz.f175.ntmps = 68 := Tryz.ntmps175
theorem Zm3 : Tryz.f175.results = #[ResultVar.tmp 4] := Tryz.results175
abbrev ZnQ : FuncId := 176
theorem ZiL : C.P.funcs[176]? = some Tryz.f176 := Tryz.func176
theorem Zm4 : Enters C.P 176 := Enters.mk ZiL (by kernel_rfl) (by kernel_rfl)
theorem Zm5 : Tryz.f176.ntmps = 12 := Tryz.ntmps176
theorem Zm6 : Tryz.f176.results = #[ResultVar.tmp 4, ResultVar.tmp 5] := Tryz.results176
abbrev ZnR : FuncId := 177
theorem ZiM : C.P.funcs[177]? = some Tryz.f177 := Tryz.func177
theorem Zm7 : Enters C.P 177 := Enters.mk ZiM (by kernel_rfl) (by kernel_rfl)
theorem Zm8 : Tryz.f177.ntmps = 30 := Tryz.ntmps177
theorem Zm9 : Tryz.f177.results = #[ResultVar.tmp 4] := Tryz.results177
abbrev ZnS : FuncId := 178
theorem ZiN : C.P.funcs[178]? = some Tryz.f178 := Tryz.func178
theorem Zna : Enters C.P 178 := Enters.mk ZiN (by kernel_rfl) (by kernel_rfl)
theorem Znb : Tryz.f178.ntmps = 33 := Tryz.ntmps178
theorem Znc : Tryz.f178.results = #[ResultVar.tmp 4] := Tryz.results178
abbrev ZoH : FuncId := 179
theorem ZkH : C.P.funcs[179]? = some Tryz.f179 := Tryz.func179
theorem ZnT : Enters C.P 179 := Enters.mk ZkH (by kernel_rfl) (by kernel_rfl)
theorem ZnU : Tryz.f179.ntmps = 10 := Tryz.ntmps179
theorem ZnV : Tryz.f179.results = #[ResultVar.tmp 2] := Tryz.results179
abbrev Zij : FuncId := 180
theorem Zda : C.P.funcs[180]? = some Tryz.f180 := Tryz.func180
theorem Zhj : Enters C.P 180 := Enters.mk Zda (by kernel_rfl) (by kernel_rfl)
theorem Zhk : Tryz.f180.ntmps = 14 := Tryz.ntmps180
theorem Zhl : Tryz.f180.results = #[ResultVar.tmp 4] := Tryz.results180
abbrev Zmf : FuncId := 181
theorem ZkI : C.P.funcs[181]? = some Tryz.f181 := Tryz.func181
theorem ZnW : Enters C.P 181 := Enters.mk ZkI (by kernel_rfl) (by kernel_rfl)
theorem ZnX : Tryz.f181.ntmps = 14 := Tryz.ntmps181
theorem ZnY : Tryz.f181.results = #[ResultVar.tmp 4] := Tryz.results181
abbrev ZaF : FuncId := 182
theorem Zbi : C.P.funcs[182]? = some Tryz.f182 := Tryz.func182
theorem ZbH : Enters C.P 182 := Enters.mk Zbi (by kernel_rfl) (by kernel_rfl)
theorem ZbI : Tryz.f182.ntmps = 20 := Tryz.ntmps182
theorem ZbJ : Tryz.f182.results = #[] := Tryz.results182
abbrev ZlY : FuncId := 183
theorem Zfr : C.P.funcs[183]? = some Tryz.f183 := Tryz.func183
theorem ZkJ : Enters C.P 183 := Enters.mk Zfr (by kernel_rfl) (by kernel_rfl)
theorem ZkK : Tryz.f183.ntmps = 6 := Tryz.ntmps183
theorem ZkL : Tryz.f183.results = #[] := Tryz.results183
abbrev Znd : FuncId := 184
theorem Zhm : C.P.funcs[184]? = some Tryz.f184 := Tryz.func184
theorem ZlZ : Enters C.P 184 := Enters.mk Zhm (by kernel_rfl) (by kernel_rfl)
theorem Zl0 : Tryz.f184.ntmps = 9 := Tryz.ntmps184
theorem Zl1 : Tryz.f184.results = #[] := Tryz.results184
abbrev Zl2 : FuncId := 185
theorem Zfs : C.P.funcs[185]? = some Tryz.f185 := Tryz.func185
theorem ZkM : Enters C.P 185 := Enters.mk Zfs (by kernel_rfl) (by kernel_rfl)
theorem ZkN : Tryz.f185.ntmps = 9 := Tryz.ntmps185
theorem ZkO : Tryz.f185.results = #[ResultVar.tmp 2] := Tryz.results185
abbrev ZbT : FuncId := 186
theorem Zcy : C.P.funcs[186]? = some Tryz.f186 := Tryz.func186
theorem Zf3 : Enters C.P 186 := Enters.mk Zcy (by kernel_rfl) (by kernel_rfl)
theorem Zf4 : Tryz.f186.ntmps = 53 := Tryz.ntmps186
theorem Zf5 : Tryz.f186.results = #[ResultVar.tmp 4] := Tryz.results186
abbrev ZnZ : FuncId := 187
theorem ZiO : C.P.funcs[187]? = some Tryz.f187 := Tryz.func187
theorem Zne : Enters C.P 187 := Enters.mk ZiO (by kernel_rfl) (by kernel_rfl)
theorem Znf : Tryz.f187.ntmps = 13 := Tryz.ntmps187
theorem Zng : Tryz.f187.results = #[ResultVar.tmp 4, ResultVar.cell 5 28] := Tryz.results187
abbrev Zhn : FuncId := 188
theorem Zcz : C.P.funcs[188]? = some Tryz.f188 := Tryz.func188
theorem Zf6 : Enters C.P 188 := Enters.mk Zcz (by kernel_rfl) (by kernel_rfl)
theorem Zf7 : Tryz.f188.ntmps = 49 := Tryz.ntmps188
theorem Zf8 : Tryz.f188.results = #[ResultVar.tmp 4] := Tryz.results188
abbrev Zf9 : FuncId := 189
theorem Zce : C.P.funcs[189]? = some Tryz.f189 := Tryz.func189
theorem ZeH : Enters C.P 189 := Enters.mk Zce (by kernel_rfl) (by kernel_rfl)
theorem ZeI : Tryz.f189.ntmps = 18 := Tryz.ntmps189
theorem ZeJ : Tryz.f189.results = #[ResultVar.tmp 6, ResultVar.cell 7 28] := Tryz.results189
abbrev Zho : FuncId := 190
theorem Zft : C.P.funcs[190]? = some Tryz.f190 := Tryz.func190
theorem ZkP : Enters C.P 190 := Enters.mk Zft (by kernel_rfl) (by kernel_rfl)
theorem ZkQ : Tryz.f190.ntmps = 13 := Tryz.ntmps190
theorem ZkR : Tryz.f190.results = #[ResultVar.tmp 4] := Tryz.results190
abbrev Zdb : FuncId := 191
theorem ZcA : C.P.funcs[191]? = some Tryz.f191 := Tryz.func191
theorem Zga : Enters C.P 191 := Enters.mk ZcA (by kernel_rfl) (by kernel_rfl)
theorem Zgb : Tryz.f191.ntmps = 37 := Tryz.ntmps191
theorem Zgc : Tryz.f191.results = #[ResultVar.cell 4 3] := Tryz.results191
abbrev Zdc : FuncId := 192
theorem ZcB : C.P.funcs[192]? = some Tryz.f192 := Tryz.func192
theorem Zgd : Enters C.P 192 := Enters.mk ZcB (by kernel_rfl) (by kernel_rfl)
theorem Zge : Tryz.f192.ntmps = 36 := Tryz.ntmps192
theorem Zgf : Tryz.f192.results = #[ResultVar.tmp 4] := Tryz.results192
abbrev Zdd : FuncId := 193
theorem ZcC : C.P.funcs[193]? = some Tryz.f193 := Tryz.func193
theorem Zgg : Enters C.P 193 := Enters.mk ZcC (by kernel_rfl) (by kernel_rfl)
theorem Zgh : Tryz.f193.ntmps = 39 := Tryz.ntmps193
theorem Zgi : Tryz.f193.results = #[ResultVar.tmp 4] := Tryz.results193
abbrev Zik : FuncId := 194
theorem Zde : C.P.funcs[194]? = some Tryz.f194 := Tryz.func194
theorem Zhp : Enters C.P 194 := Enters.mk Zde (by kernel_rfl) (by kernel_rfl)
theorem Zhq : Tryz.f194.ntmps = 6 := Tryz.ntmps194
theorem Zhr : Tryz.f194.results = #[ResultVar.tmp 4] := Tryz.results194
abbrev Zb0 : FuncId := 195
theorem ZaM : C.P.funcs[195]? = some Tryz.f195 := Tryz.func195
theorem ZbU : Enters C.P 195 := Enters.mk ZaM (by kernel_rfl) (by kernel_rfl)
theorem ZbV : Tryz.f195.ntmps = 28 := Tryz.ntmps195
theorem ZbW : Tryz.f195.results = #[] := Tryz.results195
abbrev Zjw : FuncId := 206
theorem ZdG : C.P.funcs[206]? = some Tryz.f206 := Tryz.func206
theorem Zil : Enters C.P 206 := Enters.mk ZdG (by kernel_rfl) (by kernel_rfl)
theorem Zim : Tryz.f206.ntmps = 22 := Tryz.ntmps206
theorem Zin : Tryz.f206.results = #[ResultVar.tmp 2, ResultVar.tmp 3] := Tryz.results206
abbrev Zgj : FuncId := 208
theorem Zcf : C.P.funcs[208]? = some Tryz.f208 := Tryz.func208
theorem ZeK : Enters C.P 208 := Enters.mk Zcf (by kernel_rfl) (by kernel_rfl)
theorem ZeL : Tryz.f208.ntmps = 18 := Tryz.ntmps208
theorem ZeM : Tryz.f208.results = #[ResultVar.tmp 2] := Tryz.results208
abbrev Zhs : FuncId := 211
theorem ZcD : C.P.funcs[211]? = some Tryz.f211 := Tryz.func211
theorem Zgk : Enters C.P 211 := Enters.mk ZcD (by kernel_rfl) (by kernel_rfl)
theorem Zgl : Tryz.f211.ntmps = 21 := Tryz.ntmps211
theorem Zgm : Tryz.f211.results = #[ResultVar.tmp 2] := Tryz.results211
abbrev Zbe : FuncId := 212
theorem Zay : C.P.funcs[212]? = some Tryz.f212 := Tryz.func212
theorem Za1 : Enters C.P 212 := Enters.mk Zay (by kernel_rfl) (by kernel_rfl)
theorem Za2 : Tryz.f212.ntmps = 19 := Tryz.ntmps212
theorem Za3 : Tryz.f212.results = #[ResultVar.tmp 4] := Tryz.results212
abbrev Zjx : FuncId := 213
theorem ZdH : C.P.funcs[213]? = some Tryz.f213 := Tryz.func213
theorem Zio : Enters C.P 213 := Enters.mk ZdH (by kernel_rfl) (by kernel_rfl)
theorem Zip : Tryz.f213.ntmps = 31 := Tryz.ntmps213
theorem Ziq : Tryz.f213.results = #[ResultVar.tmp 6, ResultVar.tmp 7, ResultVar.cell 8 28] := Tryz.results213
abbrev Zht : FuncId := 214
theorem Zfu : C.P.funcs[214]? = some Tryz.f214 := Tryz.func214
theorem ZkS : Enters C.P 214 := Enters.mk Zfu (by kernel_rfl) (by kernel_rfl)
theorem ZkT : Tryz.f214.ntmps = 11 := Tryz.ntmps214
theorem ZkU : Tryz.f214.results = #[ResultVar.tmp 4, ResultVar.tmp 5] := Tryz.results214
abbrev Zel : FuncId := 215
theorem ZbX : C.P.funcs[215]? = some Tryz.f215 := Tryz.func215
theorem ZdO : Enters C.P 215 := Enters.mk ZbX (by kernel_rfl) (by kernel_rfl)
theorem ZdP : Tryz.f215.ntmps = 93 := Tryz.ntmps215
theorem ZdQ : Tryz.f215.results = #[ResultVar.tmp 6, ResultVar.tmp 7] := Tryz.results215
abbrev Zl3 : FuncId := 216
theorem Zfv : C.P.funcs[216]? = some Tryz.f216 := Tryz.func216
theorem ZkV : Enters C.P 216 := Enters.mk Zfv (by kernel_rfl) (by kernel_rfl)
theorem ZkW : Tryz.f216.ntmps = 44 := Tryz.ntmps216
theorem ZkX : Tryz.f216.results = #[ResultVar.cell 4 178] := Tryz.results216
abbrev Zn0 : FuncId := 217
theorem ZiP : C.P.funcs[217]? = some Tryz.f217 := Tryz.func217
theorem Znh : Enters C.P 217 := Enters.mk ZiP (by kernel_rfl) (by kernel_rfl)
theorem Zni : Tryz.f217.ntmps = 40 := Tryz.ntmps217
theorem Znj : Tryz.f217.results = #[ResultVar.tmp 4] := Tryz.results217
abbrev Zdf : FuncId := 218
theorem ZcE : C.P.funcs[218]? = some Tryz.f218 := Tryz.func218
theorem Zgn : Enters C.P 218 := Enters.mk ZcE (by kernel_rfl) (by kernel_rfl)
theorem Zgo : Tryz.f218.ntmps = 8 := Tryz.ntmps218
theorem Zgp : Tryz.f218.results = #[ResultVar.tmp 4] := Tryz.results218
abbrev ZcF : FuncId := 219
theorem Zcg : C.P.funcs[219]? = some Tryz.f219 := Tryz.func219
theorem ZeN : Enters C.P 219 := Enters.mk Zcg (by kernel_rfl) (by kernel_rfl)
theorem ZeO : Tryz.f219.ntmps = 21 := Tryz.ntmps219
theorem ZeP : Tryz.f219.results = #[ResultVar.tmp 2] := Tryz.results219
abbrev ZaW : FuncId := 220
theorem Zau : C.P.funcs[220]? = some Tryz.f220 := Tryz.func220
theorem ZaQ : Enters C.P 220 := Enters.mk Zau (by kernel_rfl) (by kernel_rfl)
theorem ZaR : Tryz.f220.ntmps = 9 := Tryz.ntmps220
theorem ZaS : Tryz.f220.results = #[ResultVar.tmp 4] := Tryz.results220
abbrev Zem : FuncId := 221
theorem ZdI : C.P.funcs[221]? = some Tryz.f221 := Tryz.func221
theorem Zir : Enters C.P 221 := Enters.mk ZdI (by kernel_rfl) (by kernel_rfl)
theorem Zis : Tryz.f221.ntmps = 6 := Tryz.ntmps221
theorem Zit : Tryz.f221.results = #[ResultVar.tmp 2] := Tryz.results221
abbrev Zbs : FuncId := 222
theorem ZaD : C.P.funcs[222]? = some Tryz.f222 := Tryz.func222
theorem Zbk : Enters C.P 222 := Enters.mk ZaD (by kernel_rfl) (by kernel_rfl)
theorem Zbl : Tryz.f222.ntmps = 8 := Tryz.ntmps222
theorem Zbm : Tryz.f222.results = #[ResultVar.tmp 2] := Tryz.results222
abbrev Zbf : FuncId := 223
theorem Zaz : C.P.funcs[223]? = some Tryz.f223 := Tryz.func223
theorem Za4 : Enters C.P 223 := Enters.mk Zaz (by kernel_rfl) (by kernel_rfl)
theorem Za5 : Tryz.f223.ntmps = 4 := Tryz.ntmps223
theorem Za6 : Tryz.f223.results = #[ResultVar.tmp 2] := Tryz.results223
abbrev ZcG : FuncId := 224
theorem Zch : C.P.funcs[224]? = some Tryz.f224 := Tryz.func224
theorem ZeQ : Enters C.P 224 := Enters.mk Zch (by kernel_rfl) (by kernel_rfl)
theorem ZeR : Tryz.f224.ntmps = 62 := Tryz.ntmps224
theorem ZeS : Tryz.f224.results = #[] := Tryz.results224
abbrev ZkY : FuncId := 233
theorem Zen : C.P.funcs[233]? = some Tryz.f233 := Tryz.func233
theorem Zjy : Enters C.P 233 := Enters.mk Zen (by kernel_rfl) (by kernel_rfl)
theorem Zjz : Tryz.f233.ntmps = 19 := Tryz.ntmps233
theorem ZjA : Tryz.f233.results = #[ResultVar.tmp 2] := Tryz.results233
abbrev ZcH : FuncId := 235
theorem Zci : C.P.funcs[235]? = some Tryz.f235 := Tryz.func235
theorem ZeT : Enters C.P 235 := Enters.mk Zci (by kernel_rfl) (by kernel_rfl)
theorem ZeU : Tryz.f235.ntmps = 80 := Tryz.ntmps235
theorem ZeV : Tryz.f235.results = #[ResultVar.tmp 4, ResultVar.tmp 5] := Tryz.results235
abbrev Zgq : FuncId := 236
theorem Zcj : C.P.funcs[236]? = some Tryz.f236 := Tryz.func236
theorem ZeW : Enters C.P 236 := Enters.mk Zcj (by kernel_rfl) (by kernel_rfl)
theorem ZeX : Tryz.f236.ntmps = 12 := Tryz.ntmps236
theorem ZeY : Tryz.f236.results = #[ResultVar.tmp 4] := Tryz.results236
abbrev Zhu : FuncId := 237
theorem ZcI : C.P.funcs[237]? = some Tryz.f237 := Tryz.func237
theorem Zgr : Enters C.P 237 := Enters.mk ZcI (by kernel_rfl) (by kernel_rfl)
theorem Zgs : Tryz.f237.ntmps = 13 := Tryz.ntmps237
theorem Zgt : Tryz.f237.results = #[ResultVar.tmp 4] := Tryz.results237
abbrev Zhv : FuncId := 238
theorem Zfw : C.P.funcs[238]? = some Tryz.f238 := Tryz.func238
theorem ZkZ : Enters C.P 238 := Enters.mk Zfw (by kernel_rfl) (by kernel_rfl)
theorem Zk0 : Tryz.f238.ntmps = 61 := Tryz.ntmps238
theorem Zk1 : Tryz.f238.results = #[ResultVar.tmp 8, ResultVar.tmp 9] := Tryz.results238
abbrev Zdg : FuncId := 239
theorem Zbo : C.P.funcs[239]? = some Tryz.f239 := Tryz.func239
theorem ZcM : Enters C.P 239 := Enters.mk Zbo (by kernel_rfl) (by kernel_rfl)
theorem ZcN : Tryz.f239.ntmps = 77 := Tryz.ntmps239
theorem ZcO : Tryz.f239.results = #[ResultVar.tmp 6] := Tryz.results239
abbrev Zbg : FuncId := 240
theorem ZaA : C.P.funcs[240]? = some Tryz.f240 := Tryz.func240
theorem Za7 : Enters C.P 240 := Enters.mk ZaA (by kernel_rfl) (by kernel_rfl)
theorem Za8 : Tryz.f240.ntmps = 19 := Tryz.ntmps240
theorem Za9 : Tryz.f240.results = #[ResultVar.tmp 4] := Tryz.results240
abbrev Zax : FuncId := 241
theorem Zaw : C.P.funcs[241]? = some Tryz.f241 := Tryz.func241
theorem ZaX : Enters C.P 241 := Enters.mk Zaw (by kernel_rfl) (by kernel_rfl)
theorem ZaY : Tryz.f241.ntmps = 19 := Tryz.ntmps241
theorem ZaZ : Tryz.f241.results = #[] := Tryz.results241
abbrev ZeZ : FuncId := 249
theorem Zb4 : C.P.funcs[249]? = some Tryz.f249 := Tryz.func249
theorem Zeo : Enters C.P 249 := Enters.mk Zb4 (by kernel_rfl) (by kernel_rfl)
theorem Zep : Tryz.f249.ntmps = 43 := Tryz.ntmps249
theorem Zeq : Tryz.f249.results = #[ResultVar.tmp 4, ResultVar.tmp 5] := Tryz.results249
abbrev Zdh : FuncId := 250
theorem Zbp : C.P.funcs[250]? = some Tryz.f250 := Tryz.func250
theorem ZcP : Enters C.P 250 := Enters.mk Zbp (by kernel_rfl) (by kernel_rfl)
theorem ZcQ : Tryz.f250.ntmps = 6 := Tryz.ntmps250
theorem ZcR : Tryz.f250.results = #[ResultVar.tmp 2] := Tryz.results250
abbrev Ziu : FuncId := 251
theorem Zdi : C.P.funcs[251]? = some Tryz.f251 := Tryz.func251
theorem Zhw : Enters C.P 251 := Enters.mk Zdi (by kernel_rfl) (by kernel_rfl)
theorem Zhx : Tryz.f251.ntmps = 109 := Tryz.ntmps251
theorem Zhy : Tryz.f251.results = #[ResultVar.tmp 4] := Tryz.results251
abbrev Zk2 : FuncId := 252
theorem Zer : C.P.funcs[252]? = some Tryz.f252 := Tryz.func252
theorem ZjB : Enters C.P 252 := Enters.mk Zer (by kernel_rfl) (by kernel_rfl)
theorem ZjC : Tryz.f252.ntmps = 79 := Tryz.ntmps252
theorem ZjD : Tryz.f252.results = #[ResultVar.tmp 8, ResultVar.tmp 9] := Tryz.results252
abbrev Zes : FuncId := 253
theorem ZbY : C.P.funcs[253]? = some Tryz.f253 := Tryz.func253
theorem ZdR : Enters C.P 253 := Enters.mk ZbY (by kernel_rfl) (by kernel_rfl)
theorem ZdS : Tryz.f253.ntmps = 67 := Tryz.ntmps253
theorem ZdT : Tryz.f253.results = #[ResultVar.tmp 4] := Tryz.results253
abbrev Zl4 : FuncId := 257
theorem Zfx : C.P.funcs[257]? = some Tryz.f257 := Tryz.func257
theorem Zk3 : Enters C.P 257 := Enters.mk Zfx (by kernel_rfl) (by kernel_rfl)
theorem Zk4 : Tryz.f257.ntmps = 46 := Tryz.ntmps257
theorem Zk5 : Tryz.f257.results = #[ResultVar.tmp 6] := Tryz.results257
end Go.V
