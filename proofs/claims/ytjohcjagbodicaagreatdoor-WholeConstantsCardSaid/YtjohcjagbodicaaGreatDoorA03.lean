/- A part of the proof: abstract values, rules for the steps of the program's form, and contracts of its functions, each proved; no condition. -/
import Derived.Test.YtjohcjagbodicaaGreatDoorA02
import Derived.Test.YtjohcjagbodicaaGreatDoorProg
set_option linter.unusedVariables false
set_option linter.unusedSimpArgs false
/- THE SEAT's TABLE, PRINTED BY seatv.py (a program of this session's): what each type is, by the translation's own facts; the functions, by name. -/
namespace Go.V
open Go.RowKit Go.Proofs
theorem te1 : TEok Tryz.prog 1 ⟨.other, 1, 8, .nilFunc⟩ := ⟨by kernel_rfl, ⟨_, Tryz.underlying1, rfl⟩⟩
theorem te2 : TEok Tryz.prog 2 ⟨.int .i64, 1, 8, .int .i64 0⟩ := ⟨by kernel_rfl, Tryz.underlying2⟩
theorem te3 : TEok Tryz.prog 3 ⟨.int .i64, 1, 8, .int .i64 0⟩ := ⟨by kernel_rfl, Tryz.underlying3⟩
theorem te4 : TEok Tryz.prog 4 ⟨.bool, 1, 1, .bool false⟩ := ⟨by kernel_rfl, Tryz.underlying4⟩
theorem te5 : TEok Tryz.prog 5 ⟨.int .u8, 1, 1, .int .u8 0⟩ := ⟨by kernel_rfl, Tryz.underlying5⟩
theorem te6 : TEok Tryz.prog 6 ⟨.int .u8, 1, 1, .int .u8 0⟩ := ⟨by kernel_rfl, Tryz.underlying6⟩
theorem te7 : TEok Tryz.prog 7 ⟨.struct [(0, 1), (1, 1), (2, 1), (3, 1)], 4, 24, .agg #[.int .i64 0, .int .i64 0, .bool false, .int .u8 0]⟩ := ⟨by kernel_rfl, ⟨_, Tryz.underlying7, by kernel_rfl⟩⟩
theorem te8 : TEok Tryz.prog 8 ⟨.struct [(0, 1), (1, 1), (2, 1), (3, 1)], 4, 24, .agg #[.int .i64 0, .int .i64 0, .bool false, .int .u8 0]⟩ := ⟨by kernel_rfl, ⟨_, Tryz.underlying8, by kernel_rfl⟩⟩
theorem te9 : TEok Tryz.prog 9 ⟨.str, 1, 16, .string ⟨#[]⟩⟩ := ⟨by kernel_rfl, Tryz.underlying9⟩
theorem te10 : TEok Tryz.prog 10 ⟨.str, 1, 16, .string ⟨#[]⟩⟩ := ⟨by kernel_rfl, Tryz.underlying10⟩
theorem te11 : TEok Tryz.prog 11 ⟨.str, 1, 16, .string ⟨#[]⟩⟩ := ⟨by kernel_rfl, Tryz.underlying11⟩
theorem te12 : TEok Tryz.prog 12 ⟨.int .u64, 1, 8, .int .u64 0⟩ := ⟨by kernel_rfl, Tryz.underlying12⟩
theorem te13 : TEok Tryz.prog 13 ⟨.struct [(0, 1), (1, 1)], 2, 24, .agg #[.string ⟨#[]⟩, .int .u64 0]⟩ := ⟨by kernel_rfl, ⟨_, Tryz.underlying13, by kernel_rfl⟩⟩
theorem te14 : TEok Tryz.prog 14 ⟨.struct [(0, 1), (1, 1)], 2, 24, .agg #[.string ⟨#[]⟩, .int .u64 0]⟩ := ⟨by kernel_rfl, ⟨_, Tryz.underlying14, by kernel_rfl⟩⟩
theorem te15 : TEok Tryz.prog 15 ⟨.ptr, 1, 8, .pointer none⟩ := ⟨by kernel_rfl, ⟨_, Tryz.underlying15⟩⟩
theorem te16 : TEok Tryz.prog 16 ⟨.ptr, 1, 8, .pointer none⟩ := ⟨by kernel_rfl, ⟨_, Tryz.underlying16⟩⟩
theorem te17 : TEok Tryz.prog 17 ⟨.ptr, 1, 8, .pointer none⟩ := ⟨by kernel_rfl, ⟨_, Tryz.underlying17⟩⟩
theorem te18 : TEok Tryz.prog 18 ⟨.struct [(0, 1)], 1, 8, .agg #[.pointer none]⟩ := ⟨by kernel_rfl, ⟨_, Tryz.underlying18, by kernel_rfl⟩⟩
theorem te19 : TEok Tryz.prog 19 ⟨.struct [(0, 1)], 1, 8, .agg #[.pointer none]⟩ := ⟨by kernel_rfl, ⟨_, Tryz.underlying19, by kernel_rfl⟩⟩
theorem te20 : TEok Tryz.prog 20 ⟨.other, 1, 16, .nilIface⟩ := ⟨by kernel_rfl, ⟨_, Tryz.underlying20, rfl⟩⟩
theorem te21 : TEok Tryz.prog 21 ⟨.int .i32, 1, 4, .int .i32 0⟩ := ⟨by kernel_rfl, Tryz.underlying21⟩
theorem te22 : TEok Tryz.prog 22 ⟨.slice 54, 1, 24, .slice none 0 0⟩ := ⟨by kernel_rfl, Tryz.underlying22⟩
theorem te23 : TEok Tryz.prog 23 ⟨.slice 54, 1, 24, .slice none 0 0⟩ := ⟨by kernel_rfl, Tryz.underlying23⟩
theorem te24 : TEok Tryz.prog 24 ⟨.struct [(0, 1), (1, 1)], 2, 32, .agg #[.bool false, .slice none 0 0]⟩ := ⟨by kernel_rfl, ⟨_, Tryz.underlying24, by kernel_rfl⟩⟩
theorem te25 : TEok Tryz.prog 25 ⟨.struct [(0, 1), (1, 1)], 2, 32, .agg #[.bool false, .slice none 0 0]⟩ := ⟨by kernel_rfl, ⟨_, Tryz.underlying25, by kernel_rfl⟩⟩
theorem te26 : TEok Tryz.prog 26 ⟨.other, 1, 8, .nilFunc⟩ := ⟨by kernel_rfl, ⟨_, Tryz.underlying26, rfl⟩⟩
theorem te27 : TEok Tryz.prog 27 ⟨.other, 1, 8, .nilFunc⟩ := ⟨by kernel_rfl, ⟨_, Tryz.underlying27, rfl⟩⟩
theorem te28 : TEok Tryz.prog 28 ⟨.int .i64, 1, 8, .int .i64 0⟩ := ⟨by kernel_rfl, Tryz.underlying28⟩
theorem te30 : TEok Tryz.prog 30 ⟨.other, 1, 8, .nilFunc⟩ := ⟨by kernel_rfl, ⟨_, Tryz.underlying30, rfl⟩⟩
theorem te31 : TEok Tryz.prog 31 ⟨.struct [(0, 2), (2, 2), (4, 1)], 5, 72, .agg #[.bool false, .slice none 0 0, .bool false, .slice none 0 0, .int .i64 0]⟩ := ⟨by kernel_rfl, ⟨_, Tryz.underlying31, by kernel_rfl⟩⟩
theorem te32 : TEok Tryz.prog 32 ⟨.struct [(0, 2), (2, 2), (4, 1)], 5, 72, .agg #[.bool false, .slice none 0 0, .bool false, .slice none 0 0, .int .i64 0]⟩ := ⟨by kernel_rfl, ⟨_, Tryz.underlying32, by kernel_rfl⟩⟩
theorem te33 : TEok Tryz.prog 33 ⟨.other, 1, 8, .nilFunc⟩ := ⟨by kernel_rfl, ⟨_, Tryz.underlying33, rfl⟩⟩
theorem te34 : TEok Tryz.prog 34 ⟨.other, 1, 8, .nilFunc⟩ := ⟨by kernel_rfl, ⟨_, Tryz.underlying34, rfl⟩⟩
theorem te35 : TEok Tryz.prog 35 ⟨.other, 1, 8, .nilFunc⟩ := ⟨by kernel_rfl, ⟨_, Tryz.underlying35, rfl⟩⟩
theorem te37 : TEok Tryz.prog 37 ⟨.other, 1, 8, .nilFunc⟩ := ⟨by kernel_rfl, ⟨_, Tryz.underlying37, rfl⟩⟩
theorem te38 : TEok Tryz.prog 38 ⟨.struct [(0, 2), (2, 2), (4, 2), (6, 1)], 7, 104, .agg #[.bool false, .slice none 0 0, .bool false, .slice none 0 0, .bool false, .slice none 0 0, .int .i64 0]⟩ := ⟨by kernel_rfl, ⟨_, Tryz.underlying38, by kernel_rfl⟩⟩
theorem te39 : TEok Tryz.prog 39 ⟨.struct [(0, 2), (2, 2), (4, 2), (6, 1)], 7, 104, .agg #[.bool false, .slice none 0 0, .bool false, .slice none 0 0, .bool false, .slice none 0 0, .int .i64 0]⟩ := ⟨by kernel_rfl, ⟨_, Tryz.underlying39, by kernel_rfl⟩⟩
theorem te40 : TEok Tryz.prog 40 ⟨.other, 1, 8, .nilFunc⟩ := ⟨by kernel_rfl, ⟨_, Tryz.underlying40, rfl⟩⟩
theorem te42 : TEok Tryz.prog 42 ⟨.other, 1, 8, .nilFunc⟩ := ⟨by kernel_rfl, ⟨_, Tryz.underlying42, rfl⟩⟩
theorem te43 : TEok Tryz.prog 43 ⟨.other, 1, 8, .nilFunc⟩ := ⟨by kernel_rfl, ⟨_, Tryz.underlying43, rfl⟩⟩
theorem te44 : TEok Tryz.prog 44 ⟨.struct [(0, 2), (2, 1)], 3, 40, .agg #[.bool false, .slice none 0 0, .int .i64 0]⟩ := ⟨by kernel_rfl, ⟨_, Tryz.underlying44, by kernel_rfl⟩⟩
theorem te45 : TEok Tryz.prog 45 ⟨.struct [(0, 2), (2, 1)], 3, 40, .agg #[.bool false, .slice none 0 0, .int .i64 0]⟩ := ⟨by kernel_rfl, ⟨_, Tryz.underlying45, by kernel_rfl⟩⟩
theorem te46 : TEok Tryz.prog 46 ⟨.other, 1, 8, .nilFunc⟩ := ⟨by kernel_rfl, ⟨_, Tryz.underlying46, rfl⟩⟩
theorem te47 : TEok Tryz.prog 47 ⟨.other, 1, 8, .nilFunc⟩ := ⟨by kernel_rfl, ⟨_, Tryz.underlying47, rfl⟩⟩
theorem te48 : TEok Tryz.prog 48 ⟨.other, 1, 8, .nilFunc⟩ := ⟨by kernel_rfl, ⟨_, Tryz.underlying48, rfl⟩⟩
theorem te49 : TEok Tryz.prog 49 ⟨.other, 1, 8, .nilFunc⟩ := ⟨by kernel_rfl, ⟨_, Tryz.underlying49, rfl⟩⟩
theorem te50 : TEok Tryz.prog 50 ⟨.slice 25, 1, 24, .slice none 0 0⟩ := ⟨by kernel_rfl, Tryz.underlying50⟩
theorem te51 : TEok Tryz.prog 51 ⟨.other, 1, 8, .nilFunc⟩ := ⟨by kernel_rfl, ⟨_, Tryz.underlying51, rfl⟩⟩
theorem te52 : TEok Tryz.prog 52 ⟨.other, 1, 8, .nilFunc⟩ := ⟨by kernel_rfl, ⟨_, Tryz.underlying52, rfl⟩⟩
theorem te53 : TEok Tryz.prog 53 ⟨.other, 1, 8, .nilFunc⟩ := ⟨by kernel_rfl, ⟨_, Tryz.underlying53, rfl⟩⟩
theorem te54 : TEok Tryz.prog 54 ⟨.int .u32, 1, 4, .int .u32 0⟩ := ⟨by kernel_rfl, Tryz.underlying54⟩
theorem te55 : TEok Tryz.prog 55 ⟨.other, 1, 8, .nilFunc⟩ := ⟨by kernel_rfl, ⟨_, Tryz.underlying55, rfl⟩⟩
theorem te57 : TEok Tryz.prog 57 ⟨.other, 1, 8, .nilFunc⟩ := ⟨by kernel_rfl, ⟨_, Tryz.underlying57, rfl⟩⟩
theorem te58 : TEok Tryz.prog 58 ⟨.other, 1, 8, .nilFunc⟩ := ⟨by kernel_rfl, ⟨_, Tryz.underlying58, rfl⟩⟩
theorem te59 : TEok Tryz.prog 59 ⟨.other, 1, 8, .nilFunc⟩ := ⟨by kernel_rfl, ⟨_, Tryz.underlying59, rfl⟩⟩
theorem te60 : TEok Tryz.prog 60 ⟨.other, 1, 8, .nilFunc⟩ := ⟨by kernel_rfl, ⟨_, Tryz.underlying60, rfl⟩⟩
theorem te61 : TEok Tryz.prog 61 ⟨.other, 1, 8, .nilFunc⟩ := ⟨by kernel_rfl, ⟨_, Tryz.underlying61, rfl⟩⟩
theorem te62 : TEok Tryz.prog 62 ⟨.other, 1, 8, .nilFunc⟩ := ⟨by kernel_rfl, ⟨_, Tryz.underlying62, rfl⟩⟩
theorem te64 : TEok Tryz.prog 64 ⟨.other, 1, 8, .nilFunc⟩ := ⟨by kernel_rfl, ⟨_, Tryz.underlying64, rfl⟩⟩
theorem te66 : TEok Tryz.prog 66 ⟨.other, 1, 8, .nilFunc⟩ := ⟨by kernel_rfl, ⟨_, Tryz.underlying66, rfl⟩⟩
theorem te67 : TEok Tryz.prog 67 ⟨.struct [(0, 2), (2, 1), (3, 1)], 4, 48, .agg #[.bool false, .slice none 0 0, .int .i64 0, .int .i64 0]⟩ := ⟨by kernel_rfl, ⟨_, Tryz.underlying67, by kernel_rfl⟩⟩
theorem te68 : TEok Tryz.prog 68 ⟨.struct [(0, 2), (2, 1), (3, 1)], 4, 48, .agg #[.bool false, .slice none 0 0, .int .i64 0, .int .i64 0]⟩ := ⟨by kernel_rfl, ⟨_, Tryz.underlying68, by kernel_rfl⟩⟩
theorem te69 : TEok Tryz.prog 69 ⟨.other, 1, 8, .nilFunc⟩ := ⟨by kernel_rfl, ⟨_, Tryz.underlying69, rfl⟩⟩
theorem te70 : TEok Tryz.prog 70 ⟨.other, 1, 8, .nilFunc⟩ := ⟨by kernel_rfl, ⟨_, Tryz.underlying70, rfl⟩⟩
theorem te71 : TEok Tryz.prog 71 ⟨.other, 1, 8, .nilFunc⟩ := ⟨by kernel_rfl, ⟨_, Tryz.underlying71, rfl⟩⟩
theorem te72 : TEok Tryz.prog 72 ⟨.other, 1, 8, .nilFunc⟩ := ⟨by kernel_rfl, ⟨_, Tryz.underlying72, rfl⟩⟩
theorem te73 : TEok Tryz.prog 73 ⟨.other, 1, 8, .nilFunc⟩ := ⟨by kernel_rfl, ⟨_, Tryz.underlying73, rfl⟩⟩
theorem te74 : TEok Tryz.prog 74 ⟨.other, 1, 8, .nilFunc⟩ := ⟨by kernel_rfl, ⟨_, Tryz.underlying74, rfl⟩⟩
theorem te75 : TEok Tryz.prog 75 ⟨.other, 1, 8, .nilFunc⟩ := ⟨by kernel_rfl, ⟨_, Tryz.underlying75, rfl⟩⟩
theorem te76 : TEok Tryz.prog 76 ⟨.other, 1, 8, .nilFunc⟩ := ⟨by kernel_rfl, ⟨_, Tryz.underlying76, rfl⟩⟩
theorem te77 : TEok Tryz.prog 77 ⟨.slice 3, 1, 24, .slice none 0 0⟩ := ⟨by kernel_rfl, Tryz.underlying77⟩
theorem te78 : TEok Tryz.prog 78 ⟨.other, 1, 8, .nilFunc⟩ := ⟨by kernel_rfl, ⟨_, Tryz.underlying78, rfl⟩⟩
theorem te79 : TEok Tryz.prog 79 ⟨.other, 1, 8, .nilFunc⟩ := ⟨by kernel_rfl, ⟨_, Tryz.underlying79, rfl⟩⟩
theorem te80 : TEok Tryz.prog 80 ⟨.other, 1, 8, .nilFunc⟩ := ⟨by kernel_rfl, ⟨_, Tryz.underlying80, rfl⟩⟩
theorem te81 : TEok Tryz.prog 81 ⟨.other, 1, 8, .nilFunc⟩ := ⟨by kernel_rfl, ⟨_, Tryz.underlying81, rfl⟩⟩
theorem te82 : TEok Tryz.prog 82 ⟨.other, 1, 8, .nilFunc⟩ := ⟨by kernel_rfl, ⟨_, Tryz.underlying82, rfl⟩⟩
theorem te84 : TEok Tryz.prog 84 ⟨.other, 1, 8, .nilFunc⟩ := ⟨by kernel_rfl, ⟨_, Tryz.underlying84, rfl⟩⟩
theorem te85 : TEok Tryz.prog 85 ⟨.other, 1, 8, .nilFunc⟩ := ⟨by kernel_rfl, ⟨_, Tryz.underlying85, rfl⟩⟩
theorem te86 : TEok Tryz.prog 86 ⟨.struct [(0, 1), (1, 1), (2, 1), (3, 1)], 4, 48, .agg #[.slice none 0 0, .int .i64 0, .bool false, .int .i64 0]⟩ := ⟨by kernel_rfl, ⟨_, Tryz.underlying86, by kernel_rfl⟩⟩
theorem te87 : TEok Tryz.prog 87 ⟨.struct [(0, 1), (1, 1), (2, 1), (3, 1)], 4, 48, .agg #[.slice none 0 0, .int .i64 0, .bool false, .int .i64 0]⟩ := ⟨by kernel_rfl, ⟨_, Tryz.underlying87, by kernel_rfl⟩⟩
theorem te89 : TEok Tryz.prog 89 ⟨.other, 1, 8, .nilFunc⟩ := ⟨by kernel_rfl, ⟨_, Tryz.underlying89, rfl⟩⟩
theorem te90 : TEok Tryz.prog 90 ⟨.struct [(0, 4), (4, 1), (5, 1)], 6, 64, .agg #[.slice none 0 0, .int .i64 0, .bool false, .int .i64 0, .int .i64 0, .int .i64 0]⟩ := ⟨by kernel_rfl, ⟨_, Tryz.underlying90, by kernel_rfl⟩⟩
theorem te91 : TEok Tryz.prog 91 ⟨.struct [(0, 4), (4, 1), (5, 1)], 6, 64, .agg #[.slice none 0 0, .int .i64 0, .bool false, .int .i64 0, .int .i64 0, .int .i64 0]⟩ := ⟨by kernel_rfl, ⟨_, Tryz.underlying91, by kernel_rfl⟩⟩
theorem te92 : TEok Tryz.prog 92 ⟨.other, 1, 8, .nilFunc⟩ := ⟨by kernel_rfl, ⟨_, Tryz.underlying92, rfl⟩⟩
theorem te93 : TEok Tryz.prog 93 ⟨.other, 1, 8, .nilFunc⟩ := ⟨by kernel_rfl, ⟨_, Tryz.underlying93, rfl⟩⟩
theorem te94 : TEok Tryz.prog 94 ⟨.struct [(0, 1), (1, 1)], 2, 16, .agg #[.int .i64 0, .bool false]⟩ := ⟨by kernel_rfl, ⟨_, Tryz.underlying94, by kernel_rfl⟩⟩
theorem te95 : TEok Tryz.prog 95 ⟨.struct [(0, 1), (1, 1)], 2, 16, .agg #[.int .i64 0, .bool false]⟩ := ⟨by kernel_rfl, ⟨_, Tryz.underlying95, by kernel_rfl⟩⟩
theorem te97 : TEok Tryz.prog 97 ⟨.other, 1, 8, .nilFunc⟩ := ⟨by kernel_rfl, ⟨_, Tryz.underlying97, rfl⟩⟩
theorem te98 : TEok Tryz.prog 98 ⟨.other, 1, 8, .nilFunc⟩ := ⟨by kernel_rfl, ⟨_, Tryz.underlying98, rfl⟩⟩
theorem te99 : TEok Tryz.prog 99 ⟨.other, 1, 8, .nilFunc⟩ := ⟨by kernel_rfl, ⟨_, Tryz.underlying99, rfl⟩⟩
theorem te100 : TEok Tryz.prog 100 ⟨.other, 1, 8, .nilFunc⟩ := ⟨by kernel_rfl, ⟨_, Tryz.underlying100, rfl⟩⟩
theorem te101 : TEok Tryz.prog 101 ⟨.ptr, 1, 8, .pointer none⟩ := ⟨by kernel_rfl, ⟨_, Tryz.underlying101⟩⟩
theorem te102 : TEok Tryz.prog 102 ⟨.other, 1, 8, .nilFunc⟩ := ⟨by kernel_rfl, ⟨_, Tryz.underlying102, rfl⟩⟩
theorem te103 : TEok Tryz.prog 103 ⟨.other, 1, 8, .nilFunc⟩ := ⟨by kernel_rfl, ⟨_, Tryz.underlying103, rfl⟩⟩
theorem te104 : TEok Tryz.prog 104 ⟨.struct [(0, 1)], 1, 8, .agg #[.nilFunc]⟩ := ⟨by kernel_rfl, ⟨_, Tryz.underlying104, by kernel_rfl⟩⟩
theorem te105 : TEok Tryz.prog 105 ⟨.struct [(0, 1)], 1, 8, .agg #[.nilFunc]⟩ := ⟨by kernel_rfl, ⟨_, Tryz.underlying105, by kernel_rfl⟩⟩
theorem te107 : TEok Tryz.prog 107 ⟨.other, 1, 8, .map none⟩ := ⟨by kernel_rfl, ⟨_, Tryz.underlying107, rfl⟩⟩
theorem te108 : TEok Tryz.prog 108 ⟨.other, 1, 8, .nilFunc⟩ := ⟨by kernel_rfl, ⟨_, Tryz.underlying108, rfl⟩⟩
theorem te109 : TEok Tryz.prog 109 ⟨.other, 1, 8, .nilFunc⟩ := ⟨by kernel_rfl, ⟨_, Tryz.underlying109, rfl⟩⟩
theorem te111 : TEok Tryz.prog 111 ⟨.other, 1, 8, .nilFunc⟩ := ⟨by kernel_rfl, ⟨_, Tryz.underlying111, rfl⟩⟩
theorem te112 : TEok Tryz.prog 112 ⟨.other, 1, 8, .nilFunc⟩ := ⟨by kernel_rfl, ⟨_, Tryz.underlying112, rfl⟩⟩
theorem te113 : TEok Tryz.prog 113 ⟨.other, 1, 8, .nilFunc⟩ := ⟨by kernel_rfl, ⟨_, Tryz.underlying113, rfl⟩⟩
theorem te114 : TEok Tryz.prog 114 ⟨.other, 1, 8, .nilFunc⟩ := ⟨by kernel_rfl, ⟨_, Tryz.underlying114, rfl⟩⟩
theorem te115 : TEok Tryz.prog 115 ⟨.other, 1, 8, .nilFunc⟩ := ⟨by kernel_rfl, ⟨_, Tryz.underlying115, rfl⟩⟩
theorem te116 : TEok Tryz.prog 116 ⟨.other, 1, 8, .nilFunc⟩ := ⟨by kernel_rfl, ⟨_, Tryz.underlying116, rfl⟩⟩
theorem te117 : TEok Tryz.prog 117 ⟨.other, 1, 8, .nilFunc⟩ := ⟨by kernel_rfl, ⟨_, Tryz.underlying117, rfl⟩⟩
theorem te118 : TEok Tryz.prog 118 ⟨.other, 1, 8, .nilFunc⟩ := ⟨by kernel_rfl, ⟨_, Tryz.underlying118, rfl⟩⟩
theorem te119 : TEok Tryz.prog 119 ⟨.other, 1, 8, .nilFunc⟩ := ⟨by kernel_rfl, ⟨_, Tryz.underlying119, rfl⟩⟩
theorem te120 : TEok Tryz.prog 120 ⟨.int .u64, 1, 8, .int .u64 0⟩ := ⟨by kernel_rfl, Tryz.underlying120⟩
theorem te122 : TEok Tryz.prog 122 ⟨.other, 1, 8, .nilFunc⟩ := ⟨by kernel_rfl, ⟨_, Tryz.underlying122, rfl⟩⟩
theorem te123 : TEok Tryz.prog 123 ⟨.other, 1, 8, .nilFunc⟩ := ⟨by kernel_rfl, ⟨_, Tryz.underlying123, rfl⟩⟩
theorem te124 : TEok Tryz.prog 124 ⟨.int .u64, 1, 8, .int .u64 0⟩ := ⟨by kernel_rfl, Tryz.underlying124⟩
theorem te125 : TEok Tryz.prog 125 ⟨.other, 1, 8, .nilFunc⟩ := ⟨by kernel_rfl, ⟨_, Tryz.underlying125, rfl⟩⟩
theorem te126 : TEok Tryz.prog 126 ⟨.other, 1, 8, .nilFunc⟩ := ⟨by kernel_rfl, ⟨_, Tryz.underlying126, rfl⟩⟩
theorem te128 : TEok Tryz.prog 128 ⟨.other, 1, 8, .nilFunc⟩ := ⟨by kernel_rfl, ⟨_, Tryz.underlying128, rfl⟩⟩
theorem te129 : TEok Tryz.prog 129 ⟨.other, 1, 8, .nilFunc⟩ := ⟨by kernel_rfl, ⟨_, Tryz.underlying129, rfl⟩⟩
theorem te130 : TEok Tryz.prog 130 ⟨.other, 1, 8, .nilFunc⟩ := ⟨by kernel_rfl, ⟨_, Tryz.underlying130, rfl⟩⟩
theorem te131 : TEok Tryz.prog 131 ⟨.other, 1, 8, .nilFunc⟩ := ⟨by kernel_rfl, ⟨_, Tryz.underlying131, rfl⟩⟩
theorem te132 : TEok Tryz.prog 132 ⟨.other, 1, 8, .nilFunc⟩ := ⟨by kernel_rfl, ⟨_, Tryz.underlying132, rfl⟩⟩
theorem te133 : TEok Tryz.prog 133 ⟨.other, 1, 8, .nilFunc⟩ := ⟨by kernel_rfl, ⟨_, Tryz.underlying133, rfl⟩⟩
theorem te134 : TEok Tryz.prog 134 ⟨.other, 1, 8, .nilFunc⟩ := ⟨by kernel_rfl, ⟨_, Tryz.underlying134, rfl⟩⟩
theorem te135 : TEok Tryz.prog 135 ⟨.ptr, 1, 8, .pointer none⟩ := ⟨by kernel_rfl, ⟨_, Tryz.underlying135⟩⟩
theorem te136 : TEok Tryz.prog 136 ⟨.ptr, 1, 8, .pointer none⟩ := ⟨by kernel_rfl, ⟨_, Tryz.underlying136⟩⟩
theorem te137 : TEok Tryz.prog 137 ⟨.struct [(0, 1), (1, 1)], 2, 24, .agg #[.string ⟨#[]⟩, .int .i64 0]⟩ := ⟨by kernel_rfl, ⟨_, Tryz.underlying137, by kernel_rfl⟩⟩
theorem te138 : TEok Tryz.prog 138 ⟨.struct [(0, 1), (1, 1)], 2, 24, .agg #[.string ⟨#[]⟩, .int .i64 0]⟩ := ⟨by kernel_rfl, ⟨_, Tryz.underlying138, by kernel_rfl⟩⟩
theorem te139 : TEok Tryz.prog 139 ⟨.other, 1, 8, .nilFunc⟩ := ⟨by kernel_rfl, ⟨_, Tryz.underlying139, rfl⟩⟩
theorem te140 : TEok Tryz.prog 140 ⟨.other, 1, 8, .nilFunc⟩ := ⟨by kernel_rfl, ⟨_, Tryz.underlying140, rfl⟩⟩
theorem te141 : TEok Tryz.prog 141 ⟨.other, 1, 8, .nilFunc⟩ := ⟨by kernel_rfl, ⟨_, Tryz.underlying141, rfl⟩⟩
theorem te142 : TEok Tryz.prog 142 ⟨.other, 1, 8, .nilFunc⟩ := ⟨by kernel_rfl, ⟨_, Tryz.underlying142, rfl⟩⟩
theorem te143 : TEok Tryz.prog 143 ⟨.other, 1, 8, .nilFunc⟩ := ⟨by kernel_rfl, ⟨_, Tryz.underlying143, rfl⟩⟩
theorem te144 : TEok Tryz.prog 144 ⟨.other, 1, 8, .nilFunc⟩ := ⟨by kernel_rfl, ⟨_, Tryz.underlying144, rfl⟩⟩
theorem te145 : TEok Tryz.prog 145 ⟨.other, 1, 8, .nilFunc⟩ := ⟨by kernel_rfl, ⟨_, Tryz.underlying145, rfl⟩⟩
theorem te147 : TEok Tryz.prog 147 ⟨.other, 1, 8, .nilFunc⟩ := ⟨by kernel_rfl, ⟨_, Tryz.underlying147, rfl⟩⟩
theorem te148 : TEok Tryz.prog 148 ⟨.other, 1, 8, .nilFunc⟩ := ⟨by kernel_rfl, ⟨_, Tryz.underlying148, rfl⟩⟩
theorem te149 : TEok Tryz.prog 149 ⟨.struct [(0, 1), (1, 1)], 2, 32, .agg #[.slice none 0 0, .int .u32 0]⟩ := ⟨by kernel_rfl, ⟨_, Tryz.underlying149, by kernel_rfl⟩⟩
theorem te150 : TEok Tryz.prog 150 ⟨.struct [(0, 1), (1, 1)], 2, 32, .agg #[.slice none 0 0, .int .u32 0]⟩ := ⟨by kernel_rfl, ⟨_, Tryz.underlying150, by kernel_rfl⟩⟩
theorem te151 : TEok Tryz.prog 151 ⟨.other, 1, 8, .nilFunc⟩ := ⟨by kernel_rfl, ⟨_, Tryz.underlying151, rfl⟩⟩
theorem te153 : TEok Tryz.prog 153 ⟨.other, 1, 8, .map none⟩ := ⟨by kernel_rfl, ⟨_, Tryz.underlying153, rfl⟩⟩
theorem te154 : TEok Tryz.prog 154 ⟨.other, 1, 8, .nilFunc⟩ := ⟨by kernel_rfl, ⟨_, Tryz.underlying154, rfl⟩⟩
theorem te155 : TEok Tryz.prog 155 ⟨.other, 1, 8, .nilFunc⟩ := ⟨by kernel_rfl, ⟨_, Tryz.underlying155, rfl⟩⟩
theorem te156 : TEok Tryz.prog 156 ⟨.other, 1, 8, .nilFunc⟩ := ⟨by kernel_rfl, ⟨_, Tryz.underlying156, rfl⟩⟩
theorem te157 : TEok Tryz.prog 157 ⟨.other, 1, 8, .nilFunc⟩ := ⟨by kernel_rfl, ⟨_, Tryz.underlying157, rfl⟩⟩
theorem te158 : TEok Tryz.prog 158 ⟨.other, 1, 8, .nilFunc⟩ := ⟨by kernel_rfl, ⟨_, Tryz.underlying158, rfl⟩⟩
theorem te159 : TEok Tryz.prog 159 ⟨.other, 1, 8, .nilFunc⟩ := ⟨by kernel_rfl, ⟨_, Tryz.underlying159, rfl⟩⟩
theorem te160 : TEok Tryz.prog 160 ⟨.other, 1, 8, .nilFunc⟩ := ⟨by kernel_rfl, ⟨_, Tryz.underlying160, rfl⟩⟩
theorem te162 : TEok Tryz.prog 162 ⟨.other, 1, 8, .nilFunc⟩ := ⟨by kernel_rfl, ⟨_, Tryz.underlying162, rfl⟩⟩
theorem te164 : TEok Tryz.prog 164 ⟨.other, 1, 8, .nilFunc⟩ := ⟨by kernel_rfl, ⟨_, Tryz.underlying164, rfl⟩⟩
theorem te166 : TEok Tryz.prog 166 ⟨.other, 1, 8, .nilFunc⟩ := ⟨by kernel_rfl, ⟨_, Tryz.underlying166, rfl⟩⟩
theorem te167 : TEok Tryz.prog 167 ⟨.other, 1, 8, .nilFunc⟩ := ⟨by kernel_rfl, ⟨_, Tryz.underlying167, rfl⟩⟩
theorem te168 : TEok Tryz.prog 168 ⟨.other, 1, 8, .nilFunc⟩ := ⟨by kernel_rfl, ⟨_, Tryz.underlying168, rfl⟩⟩
theorem te169 : TEok Tryz.prog 169 ⟨.struct [(0, 2), (2, 1)], 3, 24, .agg #[.int .i64 0, .bool false, .int .i64 0]⟩ := ⟨by kernel_rfl, ⟨_, Tryz.underlying169, by kernel_rfl⟩⟩
theorem te170 : TEok Tryz.prog 170 ⟨.array 6 169, 18, 144, .agg #[.int .i64 0, .bool false, .int .i64 0, .int .i64 0, .bool false, .int .i64 0, .int .i64 0, .bool false, .int .i64 0, .int .i64 0, .bool false, .int .i64 0, .int .i64 0, .bool false, .int .i64 0, .int .i64 0, .bool false, .int .i64 0]⟩ := ⟨by kernel_rfl, Tryz.underlying170⟩
theorem te171 : TEok Tryz.prog 171 ⟨.struct [(0, 1)], 1, 8, .agg #[.int .i64 0]⟩ := ⟨by kernel_rfl, ⟨_, Tryz.underlying171, by kernel_rfl⟩⟩
theorem te172 : TEok Tryz.prog 172 ⟨.struct [(0, 1)], 1, 8, .agg #[.int .i64 0]⟩ := ⟨by kernel_rfl, ⟨_, Tryz.underlying172, by kernel_rfl⟩⟩
theorem te173 : TEok Tryz.prog 173 ⟨.other, 1, 8, .nilFunc⟩ := ⟨by kernel_rfl, ⟨_, Tryz.underlying173, rfl⟩⟩
theorem te175 : TEok Tryz.prog 175 ⟨.other, 1, 8, .nilFunc⟩ := ⟨by kernel_rfl, ⟨_, Tryz.underlying175, rfl⟩⟩
theorem te176 : TEok Tryz.prog 176 ⟨.other, 1, 8, .nilFunc⟩ := ⟨by kernel_rfl, ⟨_, Tryz.underlying176, rfl⟩⟩
theorem te178 : TEok Tryz.prog 178 ⟨.struct [(0, 1), (1, 1)], 2, 48, .agg #[.slice none 0 0, .slice none 0 0]⟩ := ⟨by kernel_rfl, ⟨_, Tryz.underlying178, by kernel_rfl⟩⟩
theorem te179 : TEok Tryz.prog 179 ⟨.other, 1, 8, .nilFunc⟩ := ⟨by kernel_rfl, ⟨_, Tryz.underlying179, rfl⟩⟩
theorem te182 : TEok Tryz.prog 182 ⟨.other, 1, 8, .nilFunc⟩ := ⟨by kernel_rfl, ⟨_, Tryz.underlying182, rfl⟩⟩
theorem te183 : TEok Tryz.prog 183 ⟨.slice 54, 1, 24, .slice none 0 0⟩ := ⟨by kernel_rfl, Tryz.underlying183⟩
theorem te188 : TEok Tryz.prog 188 ⟨.other, 1, 8, .nilFunc⟩ := ⟨by kernel_rfl, ⟨_, Tryz.underlying188, rfl⟩⟩
theorem te189 : TEok Tryz.prog 189 ⟨.other, 1, 8, .nilFunc⟩ := ⟨by kernel_rfl, ⟨_, Tryz.underlying189, rfl⟩⟩
theorem te192 : TEok Tryz.prog 192 ⟨.other, 1, 8, .nilFunc⟩ := ⟨by kernel_rfl, ⟨_, Tryz.underlying192, rfl⟩⟩
theorem te193 : TEok Tryz.prog 193 ⟨.other, 1, 8, .nilFunc⟩ := ⟨by kernel_rfl, ⟨_, Tryz.underlying193, rfl⟩⟩
theorem te194 : TEok Tryz.prog 194 ⟨.other, 1, 8, .nilFunc⟩ := ⟨by kernel_rfl, ⟨_, Tryz.underlying194, rfl⟩⟩
theorem te196 : TEok Tryz.prog 196 ⟨.struct [(0, 1), (1, 1)], 2, 16, .agg #[.nilFunc, .nilFunc]⟩ := ⟨by kernel_rfl, ⟨_, Tryz.underlying196, by kernel_rfl⟩⟩
theorem te197 : TEok Tryz.prog 197 ⟨.slice 5, 1, 24, .slice none 0 0⟩ := ⟨by kernel_rfl, Tryz.underlying197⟩
theorem te198 : TEok Tryz.prog 198 ⟨.other, 1, 8, .nilFunc⟩ := ⟨by kernel_rfl, ⟨_, Tryz.underlying198, rfl⟩⟩
theorem te199 : TEok Tryz.prog 199 ⟨.other, 1, 8, .nilFunc⟩ := ⟨by kernel_rfl, ⟨_, Tryz.underlying199, rfl⟩⟩
theorem te200 : TEok Tryz.prog 200 ⟨.other, 1, 8, .nilFunc⟩ := ⟨by kernel_rfl, ⟨_, Tryz.underlying200, rfl⟩⟩
theorem te202 : TEok Tryz.prog 202 ⟨.ptr, 1, 8, .pointer none⟩ := ⟨by kernel_rfl, ⟨_, Tryz.underlying202⟩⟩
theorem te204 : TEok Tryz.prog 204 ⟨.struct [(0, 1), (1, 1)], 2, 32, .agg #[.pointer none, .slice none 0 0]⟩ := ⟨by kernel_rfl, ⟨_, Tryz.underlying204, by kernel_rfl⟩⟩
theorem te207 : TEok Tryz.prog 207 ⟨.other, 1, 16, .nilIface⟩ := ⟨by kernel_rfl, ⟨_, Tryz.underlying207, rfl⟩⟩
theorem te209 : TEok Tryz.prog 209 ⟨.other, 1, 8, .nilFunc⟩ := ⟨by kernel_rfl, ⟨_, Tryz.underlying209, rfl⟩⟩
theorem te213 : TEok Tryz.prog 213 ⟨.other, 1, 8, .nilFunc⟩ := ⟨by kernel_rfl, ⟨_, Tryz.underlying213, rfl⟩⟩
theorem te215 : TEok Tryz.prog 215 ⟨.struct [(0, 1)], 1, 8, .agg #[.int .i64 0]⟩ := ⟨by kernel_rfl, ⟨_, Tryz.underlying215, by kernel_rfl⟩⟩
theorem te216 : TEok Tryz.prog 216 ⟨.struct [(0, 1)], 1, 8, .agg #[.int .i64 0]⟩ := ⟨by kernel_rfl, ⟨_, Tryz.underlying216, by kernel_rfl⟩⟩
theorem te221 : TEok Tryz.prog 221 ⟨.other, 1, 8, .nilFunc⟩ := ⟨by kernel_rfl, ⟨_, Tryz.underlying221, rfl⟩⟩
theorem te222 : TEok Tryz.prog 222 ⟨.slice 9, 1, 24, .slice none 0 0⟩ := ⟨by kernel_rfl, Tryz.underlying222⟩
theorem te224 : TEok Tryz.prog 224 ⟨.other, 1, 8, .nilFunc⟩ := ⟨by kernel_rfl, ⟨_, Tryz.underlying224, rfl⟩⟩
theorem te230 : TEok Tryz.prog 230 ⟨.struct [(0, 1)], 1, 8, .agg #[.int .i64 0]⟩ := ⟨by kernel_rfl, ⟨_, Tryz.underlying230, by kernel_rfl⟩⟩
theorem te232 : TEok Tryz.prog 232 ⟨.slice 23, 1, 24, .slice none 0 0⟩ := ⟨by kernel_rfl, Tryz.underlying232⟩
theorem te234 : TEok Tryz.prog 234 ⟨.other, 1, 8, .nilFunc⟩ := ⟨by kernel_rfl, ⟨_, Tryz.underlying234, rfl⟩⟩
theorem te235 : TEok Tryz.prog 235 ⟨.other, 1, 8, .nilFunc⟩ := ⟨by kernel_rfl, ⟨_, Tryz.underlying235, rfl⟩⟩
theorem te237 : TEok Tryz.prog 237 ⟨.other, 1, 8, .nilFunc⟩ := ⟨by kernel_rfl, ⟨_, Tryz.underlying237, rfl⟩⟩
theorem te241 : TEok Tryz.prog 241 ⟨.other, 1, 8, .nilFunc⟩ := ⟨by kernel_rfl, ⟨_, Tryz.underlying241, rfl⟩⟩
theorem te250 : TEok Tryz.prog 250 ⟨.other, 1, 8, .nilFunc⟩ := ⟨by kernel_rfl, ⟨_, Tryz.underlying250, rfl⟩⟩
theorem te253 : TEok Tryz.prog 253 ⟨.other, 1, 8, .nilFunc⟩ := ⟨by kernel_rfl, ⟨_, Tryz.underlying253, rfl⟩⟩
theorem te256 : TEok Tryz.prog 256 ⟨.other, 1, 8, .nilFunc⟩ := ⟨by kernel_rfl, ⟨_, Tryz.underlying256, rfl⟩⟩
theorem te259 : TEok Tryz.prog 259 ⟨.other, 1, 8, .nilFunc⟩ := ⟨by kernel_rfl, ⟨_, Tryz.underlying259, rfl⟩⟩
theorem te262 : TEok Tryz.prog 262 ⟨.struct [(0, 1), (1, 1)], 2, 2, .agg #[.int .u8 0, .int .u8 0]⟩ := ⟨by kernel_rfl, ⟨_, Tryz.underlying262, by kernel_rfl⟩⟩
theorem te269 : TEok Tryz.prog 269 ⟨.array 3 21, 3, 12, .agg #[.int .i32 0, .int .i32 0, .int .i32 0]⟩ := ⟨by kernel_rfl, Tryz.underlying269⟩
theorem te270 : TEok Tryz.prog 270 ⟨.array 3 21, 3, 12, .agg #[.int .i32 0, .int .i32 0, .int .i32 0]⟩ := ⟨by kernel_rfl, Tryz.underlying270⟩
theorem te271 : TEok Tryz.prog 271 ⟨.struct [(0, 1), (1, 1), (2, 3)], 5, 20, .agg #[.int .u32 0, .int .u32 0, .int .i32 0, .int .i32 0, .int .i32 0]⟩ := ⟨by kernel_rfl, ⟨_, Tryz.underlying271, by kernel_rfl⟩⟩
theorem te281 : TEok Tryz.prog 281 ⟨.int .i32, 1, 4, .int .i32 0⟩ := ⟨by kernel_rfl, Tryz.underlying281⟩
abbrev t_int : TypeId := 3
abbrev Zci : TypeId := 5
abbrev Zd6 : TypeId := 23
abbrev Zjy : TypeId := 25
abbrev Zao : TypeId := 28
abbrev Zae : TypeId := 54
abbrev Zdz : TypeId := 87
abbrev ZdQ : TypeId := 95
abbrev Za6 : TypeId := 105
abbrev Zhk : TypeId := 138
abbrev ZcZ : TypeId := 172
abbrev Zaf : TypeId := 178
abbrev Zcj : TypeId := 183
abbrev Zgg : TypeId := 197
abbrev Zck : TypeId := 230
noncomputable def tys : Tr := (.node 108 (.node 52 (.node 24 (.node 12 (.node 6 (.node 3 (.node 1 (.leaf 1 ⟨.other, 1, 8, .nilFunc⟩) (.node 2 (.leaf 2 ⟨.int .i64, 1, 8, .int .i64 0⟩) (.leaf 3 ⟨.int .i64, 1, 8, .int .i64 0⟩))) (.node 4 (.leaf 4 ⟨.bool, 1, 1, .bool false⟩) (.node 5 (.leaf 5 ⟨.int .u8, 1, 1, .int .u8 0⟩) (.leaf 6 ⟨.int .u8, 1, 1, .int .u8 0⟩)))) (.node 9 (.node 7 (.leaf 7 ⟨.struct [(0, 1), (1, 1), (2, 1), (3, 1)], 4, 24, .agg #[.int .i64 0, .int .i64 0, .bool false, .int .u8 0]⟩) (.node 8 (.leaf 8 ⟨.struct [(0, 1), (1, 1), (2, 1), (3, 1)], 4, 24, .agg #[.int .i64 0, .int .i64 0, .bool false, .int .u8 0]⟩) (.leaf 9 ⟨.str, 1, 16, .string ⟨#[]⟩⟩))) (.node 10 (.leaf 10 ⟨.str, 1, 16, .string ⟨#[]⟩⟩) (.node 11 (.leaf 11 ⟨.str, 1, 16, .string ⟨#[]⟩⟩) (.leaf 12 ⟨.int .u64, 1, 8, .int .u64 0⟩))))) (.node 18 (.node 15 (.node 13 (.leaf 13 ⟨.struct [(0, 1), (1, 1)], 2, 24, .agg #[.string ⟨#[]⟩, .int .u64 0]⟩) (.node 14 (.leaf 14 ⟨.struct [(0, 1), (1, 1)], 2, 24, .agg #[.string ⟨#[]⟩, .int .u64 0]⟩) (.leaf 15 ⟨.ptr, 1, 8, .pointer none⟩))) (.node 16 (.leaf 16 ⟨.ptr, 1, 8, .pointer none⟩) (.node 17 (.leaf 17 ⟨.ptr, 1, 8, .pointer none⟩) (.leaf 18 ⟨.struct [(0, 1)], 1, 8, .agg #[.pointer none]⟩)))) (.node 21 (.node 19 (.leaf 19 ⟨.struct [(0, 1)], 1, 8, .agg #[.pointer none]⟩) (.node 20 (.leaf 20 ⟨.other, 1, 16, .nilIface⟩) (.leaf 21 ⟨.int .i32, 1, 4, .int .i32 0⟩))) (.node 22 (.leaf 22 ⟨.slice 54, 1, 24, .slice none 0 0⟩) (.node 23 (.leaf 23 ⟨.slice 54, 1, 24, .slice none 0 0⟩) (.leaf 24 ⟨.struct [(0, 1), (1, 1)], 2, 32, .agg #[.bool false, .slice none 0 0]⟩)))))) (.node 38 (.node 31 (.node 27 (.node 25 (.leaf 25 ⟨.struct [(0, 1), (1, 1)], 2, 32, .agg #[.bool false, .slice none 0 0]⟩) (.node 26 (.leaf 26 ⟨.other, 1, 8, .nilFunc⟩) (.leaf 27 ⟨.other, 1, 8, .nilFunc⟩))) (.node 28 (.leaf 28 ⟨.int .i64, 1, 8, .int .i64 0⟩) (.node 30 (.leaf 30 ⟨.other, 1, 8, .nilFunc⟩) (.leaf 31 ⟨.struct [(0, 2), (2, 2), (4, 1)], 5, 72, .agg #[.bool false, .slice none 0 0, .bool false, .slice none 0 0, .int .i64 0]⟩)))) (.node 34 (.node 32 (.leaf 32 ⟨.struct [(0, 2), (2, 2), (4, 1)], 5, 72, .agg #[.bool false, .slice none 0 0, .bool false, .slice none 0 0, .int .i64 0]⟩) (.node 33 (.leaf 33 ⟨.other, 1, 8, .nilFunc⟩) (.leaf 34 ⟨.other, 1, 8, .nilFunc⟩))) (.node 35 (.leaf 35 ⟨.other, 1, 8, .nilFunc⟩) (.node 37 (.leaf 37 ⟨.other, 1, 8, .nilFunc⟩) (.leaf 38 ⟨.struct [(0, 2), (2, 2), (4, 2), (6, 1)], 7, 104, .agg #[.bool false, .slice none 0 0, .bool false, .slice none 0 0, .bool false, .slice none 0 0, .int .i64 0]⟩))))) (.node 45 (.node 42 (.node 39 (.leaf 39 ⟨.struct [(0, 2), (2, 2), (4, 2), (6, 1)], 7, 104, .agg #[.bool false, .slice none 0 0, .bool false, .slice none 0 0, .bool false, .slice none 0 0, .int .i64 0]⟩) (.node 40 (.leaf 40 ⟨.other, 1, 8, .nilFunc⟩) (.leaf 42 ⟨.other, 1, 8, .nilFunc⟩))) (.node 43 (.leaf 43 ⟨.other, 1, 8, .nilFunc⟩) (.node 44 (.leaf 44 ⟨.struct [(0, 2), (2, 1)], 3, 40, .agg #[.bool false, .slice none 0 0, .int .i64 0]⟩) (.leaf 45 ⟨.struct [(0, 2), (2, 1)], 3, 40, .agg #[.bool false, .slice none 0 0, .int .i64 0]⟩)))) (.node 48 (.node 46 (.leaf 46 ⟨.other, 1, 8, .nilFunc⟩) (.node 47 (.leaf 47 ⟨.other, 1, 8, .nilFunc⟩) (.leaf 48 ⟨.other, 1, 8, .nilFunc⟩))) (.node 50 (.node 49 (.leaf 49 ⟨.other, 1, 8, .nilFunc⟩) (.leaf 50 ⟨.slice 25, 1, 24, .slice none 0 0⟩)) (.node 51 (.leaf 51 ⟨.other, 1, 8, .nilFunc⟩) (.leaf 52 ⟨.other, 1, 8, .nilFunc⟩))))))) (.node 79 (.node 67 (.node 59 (.node 55 (.node 53 (.leaf 53 ⟨.other, 1, 8, .nilFunc⟩) (.node 54 (.leaf 54 ⟨.int .u32, 1, 4, .int .u32 0⟩) (.leaf 55 ⟨.other, 1, 8, .nilFunc⟩))) (.node 57 (.leaf 57 ⟨.other, 1, 8, .nilFunc⟩) (.node 58 (.leaf 58 ⟨.other, 1, 8, .nilFunc⟩) (.leaf 59 ⟨.other, 1, 8, .nilFunc⟩)))) (.node 62 (.node 60 (.leaf 60 ⟨.other, 1, 8, .nilFunc⟩) (.node 61 (.leaf 61 ⟨.other, 1, 8, .nilFunc⟩) (.leaf 62 ⟨.other, 1, 8, .nilFunc⟩))) (.node 64 (.leaf 64 ⟨.other, 1, 8, .nilFunc⟩) (.node 66 (.leaf 66 ⟨.other, 1, 8, .nilFunc⟩) (.leaf 67 ⟨.struct [(0, 2), (2, 1), (3, 1)], 4, 48, .agg #[.bool false, .slice none 0 0, .int .i64 0, .int .i64 0]⟩))))) (.node 73 (.node 70 (.node 68 (.leaf 68 ⟨.struct [(0, 2), (2, 1), (3, 1)], 4, 48, .agg #[.bool false, .slice none 0 0, .int .i64 0, .int .i64 0]⟩) (.node 69 (.leaf 69 ⟨.other, 1, 8, .nilFunc⟩) (.leaf 70 ⟨.other, 1, 8, .nilFunc⟩))) (.node 71 (.leaf 71 ⟨.other, 1, 8, .nilFunc⟩) (.node 72 (.leaf 72 ⟨.other, 1, 8, .nilFunc⟩) (.leaf 73 ⟨.other, 1, 8, .nilFunc⟩)))) (.node 76 (.node 74 (.leaf 74 ⟨.other, 1, 8, .nilFunc⟩) (.node 75 (.leaf 75 ⟨.other, 1, 8, .nilFunc⟩) (.leaf 76 ⟨.other, 1, 8, .nilFunc⟩))) (.node 77 (.leaf 77 ⟨.slice 3, 1, 24, .slice none 0 0⟩) (.node 78 (.leaf 78 ⟨.other, 1, 8, .nilFunc⟩) (.leaf 79 ⟨.other, 1, 8, .nilFunc⟩)))))) (.node 93 (.node 86 (.node 82 (.node 80 (.leaf 80 ⟨.other, 1, 8, .nilFunc⟩) (.node 81 (.leaf 81 ⟨.other, 1, 8, .nilFunc⟩) (.leaf 82 ⟨.other, 1, 8, .nilFunc⟩))) (.node 84 (.leaf 84 ⟨.other, 1, 8, .nilFunc⟩) (.node 85 (.leaf 85 ⟨.other, 1, 8, .nilFunc⟩) (.leaf 86 ⟨.struct [(0, 1), (1, 1), (2, 1), (3, 1)], 4, 48, .agg #[.slice none 0 0, .int .i64 0, .bool false, .int .i64 0]⟩)))) (.node 90 (.node 87 (.leaf 87 ⟨.struct [(0, 1), (1, 1), (2, 1), (3, 1)], 4, 48, .agg #[.slice none 0 0, .int .i64 0, .bool false, .int .i64 0]⟩) (.node 89 (.leaf 89 ⟨.other, 1, 8, .nilFunc⟩) (.leaf 90 ⟨.struct [(0, 4), (4, 1), (5, 1)], 6, 64, .agg #[.slice none 0 0, .int .i64 0, .bool false, .int .i64 0, .int .i64 0, .int .i64 0]⟩))) (.node 91 (.leaf 91 ⟨.struct [(0, 4), (4, 1), (5, 1)], 6, 64, .agg #[.slice none 0 0, .int .i64 0, .bool false, .int .i64 0, .int .i64 0, .int .i64 0]⟩) (.node 92 (.leaf 92 ⟨.other, 1, 8, .nilFunc⟩) (.leaf 93 ⟨.other, 1, 8, .nilFunc⟩))))) (.node 100 (.node 97 (.node 94 (.leaf 94 ⟨.struct [(0, 1), (1, 1)], 2, 16, .agg #[.int .i64 0, .bool false]⟩) (.node 95 (.leaf 95 ⟨.struct [(0, 1), (1, 1)], 2, 16, .agg #[.int .i64 0, .bool false]⟩) (.leaf 97 ⟨.other, 1, 8, .nilFunc⟩))) (.node 98 (.leaf 98 ⟨.other, 1, 8, .nilFunc⟩) (.node 99 (.leaf 99 ⟨.other, 1, 8, .nilFunc⟩) (.leaf 100 ⟨.other, 1, 8, .nilFunc⟩)))) (.node 103 (.node 101 (.leaf 101 ⟨.ptr, 1, 8, .pointer none⟩) (.node 102 (.leaf 102 ⟨.other, 1, 8, .nilFunc⟩) (.leaf 103 ⟨.other, 1, 8, .nilFunc⟩))) (.node 105 (.node 104 (.leaf 104 ⟨.struct [(0, 1)], 1, 8, .agg #[.nilFunc]⟩) (.leaf 105 ⟨.struct [(0, 1)], 1, 8, .agg #[.nilFunc]⟩)) (.node 107 (.leaf 107 ⟨.other, 1, 8, .map none⟩) (.leaf 108 ⟨.other, 1, 8, .nilFunc⟩)))))))) (.node 164 (.node 135 (.node 122 (.node 115 (.node 112 (.node 109 (.leaf 109 ⟨.other, 1, 8, .nilFunc⟩) (.node 111 (.leaf 111 ⟨.other, 1, 8, .nilFunc⟩) (.leaf 112 ⟨.other, 1, 8, .nilFunc⟩))) (.node 113 (.leaf 113 ⟨.other, 1, 8, .nilFunc⟩) (.node 114 (.leaf 114 ⟨.other, 1, 8, .nilFunc⟩) (.leaf 115 ⟨.other, 1, 8, .nilFunc⟩)))) (.node 118 (.node 116 (.leaf 116 ⟨.other, 1, 8, .nilFunc⟩) (.node 117 (.leaf 117 ⟨.other, 1, 8, .nilFunc⟩) (.leaf 118 ⟨.other, 1, 8, .nilFunc⟩))) (.node 119 (.leaf 119 ⟨.other, 1, 8, .nilFunc⟩) (.node 120 (.leaf 120 ⟨.int .u64, 1, 8, .int .u64 0⟩) (.leaf 122 ⟨.other, 1, 8, .nilFunc⟩))))) (.node 129 (.node 125 (.node 123 (.leaf 123 ⟨.other, 1, 8, .nilFunc⟩) (.node 124 (.leaf 124 ⟨.int .u64, 1, 8, .int .u64 0⟩) (.leaf 125 ⟨.other, 1, 8, .nilFunc⟩))) (.node 126 (.leaf 126 ⟨.other, 1, 8, .nilFunc⟩) (.node 128 (.leaf 128 ⟨.other, 1, 8, .nilFunc⟩) (.leaf 129 ⟨.other, 1, 8, .nilFunc⟩)))) (.node 132 (.node 130 (.leaf 130 ⟨.other, 1, 8, .nilFunc⟩) (.node 131 (.leaf 131 ⟨.other, 1, 8, .nilFunc⟩) (.leaf 132 ⟨.other, 1, 8, .nilFunc⟩))) (.node 133 (.leaf 133 ⟨.other, 1, 8, .nilFunc⟩) (.node 134 (.leaf 134 ⟨.other, 1, 8, .nilFunc⟩) (.leaf 135 ⟨.ptr, 1, 8, .pointer none⟩)))))) (.node 148 (.node 141 (.node 138 (.node 136 (.leaf 136 ⟨.ptr, 1, 8, .pointer none⟩) (.node 137 (.leaf 137 ⟨.struct [(0, 1), (1, 1)], 2, 24, .agg #[.string ⟨#[]⟩, .int .i64 0]⟩) (.leaf 138 ⟨.struct [(0, 1), (1, 1)], 2, 24, .agg #[.string ⟨#[]⟩, .int .i64 0]⟩))) (.node 139 (.leaf 139 ⟨.other, 1, 8, .nilFunc⟩) (.node 140 (.leaf 140 ⟨.other, 1, 8, .nilFunc⟩) (.leaf 141 ⟨.other, 1, 8, .nilFunc⟩)))) (.node 144 (.node 142 (.leaf 142 ⟨.other, 1, 8, .nilFunc⟩) (.node 143 (.leaf 143 ⟨.other, 1, 8, .nilFunc⟩) (.leaf 144 ⟨.other, 1, 8, .nilFunc⟩))) (.node 145 (.leaf 145 ⟨.other, 1, 8, .nilFunc⟩) (.node 147 (.leaf 147 ⟨.other, 1, 8, .nilFunc⟩) (.leaf 148 ⟨.other, 1, 8, .nilFunc⟩))))) (.node 155 (.node 151 (.node 149 (.leaf 149 ⟨.struct [(0, 1), (1, 1)], 2, 32, .agg #[.slice none 0 0, .int .u32 0]⟩) (.node 150 (.leaf 150 ⟨.struct [(0, 1), (1, 1)], 2, 32, .agg #[.slice none 0 0, .int .u32 0]⟩) (.leaf 151 ⟨.other, 1, 8, .nilFunc⟩))) (.node 153 (.leaf 153 ⟨.other, 1, 8, .map none⟩) (.node 154 (.leaf 154 ⟨.other, 1, 8, .nilFunc⟩) (.leaf 155 ⟨.other, 1, 8, .nilFunc⟩)))) (.node 158 (.node 156 (.leaf 156 ⟨.other, 1, 8, .nilFunc⟩) (.node 157 (.leaf 157 ⟨.other, 1, 8, .nilFunc⟩) (.leaf 158 ⟨.other, 1, 8, .nilFunc⟩))) (.node 160 (.node 159 (.leaf 159 ⟨.other, 1, 8, .nilFunc⟩) (.leaf 160 ⟨.other, 1, 8, .nilFunc⟩)) (.node 162 (.leaf 162 ⟨.other, 1, 8, .nilFunc⟩) (.leaf 164 ⟨.other, 1, 8, .nilFunc⟩))))))) (.node 200 (.node 179 (.node 171 (.node 168 (.node 166 (.leaf 166 ⟨.other, 1, 8, .nilFunc⟩) (.node 167 (.leaf 167 ⟨.other, 1, 8, .nilFunc⟩) (.leaf 168 ⟨.other, 1, 8, .nilFunc⟩))) (.node 169 (.leaf 169 ⟨.struct [(0, 2), (2, 1)], 3, 24, .agg #[.int .i64 0, .bool false, .int .i64 0]⟩) (.node 170 (.leaf 170 ⟨.array 6 169, 18, 144, .agg #[.int .i64 0, .bool false, .int .i64 0, .int .i64 0, .bool false, .int .i64 0, .int .i64 0, .bool false, .int .i64 0, .int .i64 0, .bool false, .int .i64 0, .int .i64 0, .bool false, .int .i64 0, .int .i64 0, .bool false, .int .i64 0]⟩) (.leaf 171 ⟨.struct [(0, 1)], 1, 8, .agg #[.int .i64 0]⟩)))) (.node 175 (.node 172 (.leaf 172 ⟨.struct [(0, 1)], 1, 8, .agg #[.int .i64 0]⟩) (.node 173 (.leaf 173 ⟨.other, 1, 8, .nilFunc⟩) (.leaf 175 ⟨.other, 1, 8, .nilFunc⟩))) (.node 176 (.leaf 176 ⟨.other, 1, 8, .nilFunc⟩) (.node 178 (.leaf 178 ⟨.struct [(0, 1), (1, 1)], 2, 48, .agg #[.slice none 0 0, .slice none 0 0]⟩) (.leaf 179 ⟨.other, 1, 8, .nilFunc⟩))))) (.node 193 (.node 188 (.node 182 (.leaf 182 ⟨.other, 1, 8, .nilFunc⟩) (.node 183 (.leaf 183 ⟨.slice 54, 1, 24, .slice none 0 0⟩) (.leaf 188 ⟨.other, 1, 8, .nilFunc⟩))) (.node 189 (.leaf 189 ⟨.other, 1, 8, .nilFunc⟩) (.node 192 (.leaf 192 ⟨.other, 1, 8, .nilFunc⟩) (.leaf 193 ⟨.other, 1, 8, .nilFunc⟩)))) (.node 197 (.node 194 (.leaf 194 ⟨.other, 1, 8, .nilFunc⟩) (.node 196 (.leaf 196 ⟨.struct [(0, 1), (1, 1)], 2, 16, .agg #[.nilFunc, .nilFunc]⟩) (.leaf 197 ⟨.slice 5, 1, 24, .slice none 0 0⟩))) (.node 198 (.leaf 198 ⟨.other, 1, 8, .nilFunc⟩) (.node 199 (.leaf 199 ⟨.other, 1, 8, .nilFunc⟩) (.leaf 200 ⟨.other, 1, 8, .nilFunc⟩)))))) (.node 232 (.node 215 (.node 207 (.node 202 (.leaf 202 ⟨.ptr, 1, 8, .pointer none⟩) (.node 204 (.leaf 204 ⟨.struct [(0, 1), (1, 1)], 2, 32, .agg #[.pointer none, .slice none 0 0]⟩) (.leaf 207 ⟨.other, 1, 16, .nilIface⟩))) (.node 209 (.leaf 209 ⟨.other, 1, 8, .nilFunc⟩) (.node 213 (.leaf 213 ⟨.other, 1, 8, .nilFunc⟩) (.leaf 215 ⟨.struct [(0, 1)], 1, 8, .agg #[.int .i64 0]⟩)))) (.node 222 (.node 216 (.leaf 216 ⟨.struct [(0, 1)], 1, 8, .agg #[.int .i64 0]⟩) (.node 221 (.leaf 221 ⟨.other, 1, 8, .nilFunc⟩) (.leaf 222 ⟨.slice 9, 1, 24, .slice none 0 0⟩))) (.node 224 (.leaf 224 ⟨.other, 1, 8, .nilFunc⟩) (.node 230 (.leaf 230 ⟨.struct [(0, 1)], 1, 8, .agg #[.int .i64 0]⟩) (.leaf 232 ⟨.slice 23, 1, 24, .slice none 0 0⟩))))) (.node 253 (.node 237 (.node 234 (.leaf 234 ⟨.other, 1, 8, .nilFunc⟩) (.node 235 (.leaf 235 ⟨.other, 1, 8, .nilFunc⟩) (.leaf 237 ⟨.other, 1, 8, .nilFunc⟩))) (.node 241 (.leaf 241 ⟨.other, 1, 8, .nilFunc⟩) (.node 250 (.leaf 250 ⟨.other, 1, 8, .nilFunc⟩) (.leaf 253 ⟨.other, 1, 8, .nilFunc⟩)))) (.node 262 (.node 256 (.leaf 256 ⟨.other, 1, 8, .nilFunc⟩) (.node 259 (.leaf 259 ⟨.other, 1, 8, .nilFunc⟩) (.leaf 262 ⟨.struct [(0, 1), (1, 1)], 2, 2, .agg #[.int .u8 0, .int .u8 0]⟩))) (.node 270 (.node 269 (.leaf 269 ⟨.array 3 21, 3, 12, .agg #[.int .i32 0, .int .i32 0, .int .i32 0]⟩) (.leaf 270 ⟨.array 3 21, 3, 12, .agg #[.int .i32 0, .int .i32 0, .int .i32 0]⟩)) (.node 271 (.leaf 271 ⟨.struct [(0, 1), (1, 1), (2, 3)], 5, 20, .agg #[.int .u32 0, .int .u32 0, .int .i32 0, .int .i32 0, .int .i32 0]⟩) (.leaf 281 ⟨.int .i32, 1, 4, .int .i32 0⟩)))))))))
theorem tysOk : tys.All Tryz.prog := ⟨⟨⟨⟨⟨⟨⟨te1, ⟨te2, te3⟩⟩, ⟨te4, ⟨te5, te6⟩⟩⟩, ⟨⟨te7, ⟨te8, te9⟩⟩, ⟨te10, ⟨te11, te12⟩⟩⟩⟩, ⟨⟨⟨te13, ⟨te14, te15⟩⟩, ⟨te16, ⟨te17, te18⟩⟩⟩, ⟨⟨te19, ⟨te20, te21⟩⟩, ⟨te22, ⟨te23, te24⟩⟩⟩⟩⟩, ⟨⟨⟨⟨te25, ⟨te26, te27⟩⟩, ⟨te28, ⟨te30, te31⟩⟩⟩, ⟨⟨te32, ⟨te33, te34⟩⟩, ⟨te35, ⟨te37, te38⟩⟩⟩⟩, ⟨⟨⟨te39, ⟨te40, te42⟩⟩, ⟨te43, ⟨te44, te45⟩⟩⟩, ⟨⟨te46, ⟨te47, te48⟩⟩, ⟨⟨te49, te50⟩, ⟨te51, te52⟩⟩⟩⟩⟩⟩, ⟨⟨⟨⟨⟨te53, ⟨te54, te55⟩⟩, ⟨te57, ⟨te58, te59⟩⟩⟩, ⟨⟨te60, ⟨te61, te62⟩⟩, ⟨te64, ⟨te66, te67⟩⟩⟩⟩, ⟨⟨⟨te68, ⟨te69, te70⟩⟩, ⟨te71, ⟨te72, te73⟩⟩⟩, ⟨⟨te74, ⟨te75, te76⟩⟩, ⟨te77, ⟨te78, te79⟩⟩⟩⟩⟩, ⟨⟨⟨⟨te80, ⟨te81, te82⟩⟩, ⟨te84, ⟨te85, te86⟩⟩⟩, ⟨⟨te87, ⟨te89, te90⟩⟩, ⟨te91, ⟨te92, te93⟩⟩⟩⟩, ⟨⟨⟨te94, ⟨te95, te97⟩⟩, ⟨te98, ⟨te99, te100⟩⟩⟩, ⟨⟨te101, ⟨te102, te103⟩⟩, ⟨⟨te104, te105⟩, ⟨te107, te108⟩⟩⟩⟩⟩⟩⟩, ⟨⟨⟨⟨⟨⟨te109, ⟨te111, te112⟩⟩, ⟨te113, ⟨te114, te115⟩⟩⟩, ⟨⟨te116, ⟨te117, te118⟩⟩, ⟨te119, ⟨te120, te122⟩⟩⟩⟩, ⟨⟨⟨te123, ⟨te124, te125⟩⟩, ⟨te126, ⟨te128, te129⟩⟩⟩, ⟨⟨te130, ⟨te131, te132⟩⟩, ⟨te133, ⟨te134, te135⟩⟩⟩⟩⟩, ⟨⟨⟨⟨te136, ⟨te137, te138⟩⟩, ⟨te139, ⟨te140, te141⟩⟩⟩, ⟨⟨te142, ⟨te143, te144⟩⟩, ⟨te145, ⟨te147, te148⟩⟩⟩⟩, ⟨⟨⟨te149, ⟨te150, te151⟩⟩, ⟨te153, ⟨te154, te155⟩⟩⟩, ⟨⟨te156, ⟨te157, te158⟩⟩, ⟨⟨te159, te160⟩, ⟨te162, te164⟩⟩⟩⟩⟩⟩, ⟨⟨⟨⟨⟨te166, ⟨te167, te168⟩⟩, ⟨te169, ⟨te170, te171⟩⟩⟩, ⟨⟨te172, ⟨te173, te175⟩⟩, ⟨te176, ⟨te178, te179⟩⟩⟩⟩, ⟨⟨⟨te182, ⟨te183, te188⟩⟩, ⟨te189, ⟨te192, te193⟩⟩⟩, ⟨⟨te194, ⟨te196, te197⟩⟩, ⟨te198, ⟨te199, te200⟩⟩⟩⟩⟩, ⟨⟨⟨⟨te202, ⟨te204, te207⟩⟩, ⟨te209, ⟨te213, te215⟩⟩⟩, ⟨⟨te216, ⟨te221, te222⟩⟩, ⟨te224, ⟨te230, te232⟩⟩⟩⟩, ⟨⟨⟨te234, ⟨te235, te237⟩⟩, ⟨te241, ⟨te250, te253⟩⟩⟩, ⟨⟨te256, ⟨te259, te262⟩⟩, ⟨⟨te269, te270⟩, ⟨te271, te281⟩⟩⟩⟩⟩⟩⟩⟩
noncomputable def C : Ctx := ⟨Tryz.prog, [], tys.get, fun _ _ h => Tr.get_ok tysOk h⟩
theorem mixC : C.P.follows .mixedOrders = true := by kernel_rfl
abbrev Zbi : FuncId := 17
theorem Zbb : C.P.funcs[17]? = some Tryz.f17 := Tryz.func17
theorem Zcl : Enters C.P 17 := Enters.mk Zbb (by kernel_rfl) (by kernel_rfl)
theorem Zcm : Tryz.f17.ntmps = 105 := Tryz.ntmps17
theorem Zcn : Tryz.f17.results = #[ResultVar.tmp 4] := Tryz.results17
abbrev Zit : FuncId := 19
theorem ZdA : C.P.funcs[19]? = some Tryz.f19 := Tryz.func19
theorem Zhl : Enters C.P 19 := Enters.mk ZdA (by kernel_rfl) (by kernel_rfl)
theorem Zhm : Tryz.f19.ntmps = 73 := Tryz.ntmps19
theorem Zhn : Tryz.f19.results = #[ResultVar.tmp 0] := Tryz.results19
abbrev Zgh : FuncId := 20
theorem Zfa : C.P.funcs[20]? = some Tryz.f20 := Tryz.func20
theorem Zjz : Enters C.P 20 := Enters.mk Zfa (by kernel_rfl) (by kernel_rfl)
theorem ZjA : Tryz.f20.ntmps = 39 := Tryz.ntmps20
theorem ZjB : Tryz.f20.results = #[ResultVar.cell 6 25, ResultVar.cell 7 25, ResultVar.cell 8 28] := Tryz.results20
abbrev ZeE : FuncId := 22
theorem Zgi : C.P.funcs[22]? = some Tryz.f22 := Tryz.func22
theorem Zk0 : Enters C.P 22 := Enters.mk Zgi (by kernel_rfl) (by kernel_rfl)
theorem Zk1 : Tryz.f22.ntmps = 17 := Tryz.ntmps22
theorem Zk2 : Tryz.f22.results = #[ResultVar.tmp 4] := Tryz.results22
abbrev Zgj : FuncId := 23
theorem Zfb : C.P.funcs[23]? = some Tryz.f23 := Tryz.func23
theorem ZjC : Enters C.P 23 := Enters.mk Zfb (by kernel_rfl) (by kernel_rfl)
theorem ZjD : Tryz.f23.ntmps = 25 := Tryz.ntmps23
theorem ZjE : Tryz.f23.results = #[ResultVar.cell 4 25, ResultVar.cell 5 25, ResultVar.cell 6 25, ResultVar.cell 7 28] := Tryz.results23
abbrev Zgk : FuncId := 37
theorem Zcw : C.P.funcs[37]? = some Tryz.f37 := Tryz.func37
theorem Zfv : Enters C.P 37 := Enters.mk Zcw (by kernel_rfl) (by kernel_rfl)
theorem Zfw : Tryz.f37.ntmps = 14 := Tryz.ntmps37
theorem Zfx : Tryz.f37.results = #[ResultVar.cell 2 25] := Tryz.results37
abbrev Ziu : FuncId := 49
theorem ZdB : C.P.funcs[49]? = some Tryz.f49 := Tryz.func49
theorem Zho : Enters C.P 49 := Enters.mk ZdB (by kernel_rfl) (by kernel_rfl)
theorem Zhp : Tryz.f49.ntmps = 17 := Tryz.ntmps49
theorem Zhq : Tryz.f49.results = #[ResultVar.tmp 2] := Tryz.results49
abbrev Ziv : FuncId := 51
theorem ZdC : C.P.funcs[51]? = some Tryz.f51 := Tryz.func51
theorem Zhr : Enters C.P 51 := Enters.mk ZdC (by kernel_rfl) (by kernel_rfl)
theorem Zhs : Tryz.f51.ntmps = 17 := Tryz.ntmps51
theorem Zht : Tryz.f51.results = #[ResultVar.cell 2 25] := Tryz.results51
abbrev Zfc : FuncId := 54
theorem Zd7 : C.P.funcs[54]? = some Tryz.f54 := Tryz.func54
theorem Ziw : Enters C.P 54 := Enters.mk Zd7 (by kernel_rfl) (by kernel_rfl)
theorem Zix : Tryz.f54.ntmps = 32 := Tryz.ntmps54
theorem Ziy : Tryz.f54.results = #[ResultVar.tmp 6, ResultVar.tmp 7] := Tryz.results54
abbrev Zhu : FuncId := 71
theorem Zc0 : C.P.funcs[71]? = some Tryz.f71 := Tryz.func71
theorem Zgl : Enters C.P 71 := Enters.mk Zc0 (by kernel_rfl) (by kernel_rfl)
theorem Zgm : Tryz.f71.ntmps = 50 := Tryz.ntmps71
theorem Zgn : Tryz.f71.results = #[ResultVar.cell 2 87, ResultVar.cell 3 28, ResultVar.cell 4 3] := Tryz.results71
abbrev ZjF : FuncId := 72
theorem Zd8 : C.P.funcs[72]? = some Tryz.f72 := Tryz.func72
theorem Ziz : Enters C.P 72 := Enters.mk Zd8 (by kernel_rfl) (by kernel_rfl)
theorem ZiA : Tryz.f72.ntmps = 60 := Tryz.ntmps72
theorem ZiB : Tryz.f72.results = #[ResultVar.cell 2 91] := Tryz.results72
abbrev ZdD : FuncId := 73
theorem Zc1 : C.P.funcs[73]? = some Tryz.f73 := Tryz.func73
theorem Zgo : Enters C.P 73 := Enters.mk Zc1 (by kernel_rfl) (by kernel_rfl)
theorem Zgp : Tryz.f73.ntmps = 44 := Tryz.ntmps73
theorem Zgq : Tryz.f73.results = #[ResultVar.tmp 2, ResultVar.tmp 3] := Tryz.results73
abbrev Zfd : FuncId := 74
theorem Zd9 : C.P.funcs[74]? = some Tryz.f74 := Tryz.func74
theorem ZiC : Enters C.P 74 := Enters.mk Zd9 (by kernel_rfl) (by kernel_rfl)
theorem ZiD : Tryz.f74.ntmps = 40 := Tryz.ntmps74
theorem ZiE : Tryz.f74.results = #[ResultVar.tmp 2, ResultVar.tmp 3] := Tryz.results74
abbrev Zea : FuncId := 75
theorem ZdE : C.P.funcs[75]? = some Tryz.f75 := Tryz.func75
theorem Zhv : Enters C.P 75 := Enters.mk ZdE (by kernel_rfl) (by kernel_rfl)
theorem Zhw : Tryz.f75.ntmps = 66 := Tryz.ntmps75
theorem Zhx : Tryz.f75.results = #[ResultVar.cell 2 95, ResultVar.tmp 3] := Tryz.results75
abbrev Zgr : FuncId := 76
theorem Zfe : C.P.funcs[76]? = some Tryz.f76 := Tryz.func76
theorem ZjG : Enters C.P 76 := Enters.mk Zfe (by kernel_rfl) (by kernel_rfl)
theorem ZjH : Tryz.f76.ntmps = 47 := Tryz.ntmps76
theorem ZjI : Tryz.f76.results = #[ResultVar.cell 2 95, ResultVar.tmp 3] := Tryz.results76
abbrev Zff : FuncId := 77
theorem Zeb : C.P.funcs[77]? = some Tryz.f77 := Tryz.func77
theorem ZiF : Enters C.P 77 := Enters.mk Zeb (by kernel_rfl) (by kernel_rfl)
theorem ZiG : Tryz.f77.ntmps = 33 := Tryz.ntmps77
theorem ZiH : Tryz.f77.results = #[ResultVar.tmp 4] := Tryz.results77
abbrev Zbr : FuncId := 78
theorem ZbO : C.P.funcs[78]? = some Tryz.f78 := Tryz.func78
theorem Zc2 : Enters C.P 78 := Enters.mk ZbO (by kernel_rfl) (by kernel_rfl)
theorem Zc3 : Tryz.f78.ntmps = 15 := Tryz.ntmps78
theorem Zc4 : Tryz.f78.results = #[] := Tryz.results78
abbrev ZjJ : FuncId := 79
theorem Zec : C.P.funcs[79]? = some Tryz.f79 := Tryz.func79
theorem ZiI : Enters C.P 79 := Enters.mk Zec (by kernel_rfl) (by kernel_rfl)
theorem ZiJ : Tryz.f79.ntmps = 6 := Tryz.ntmps79
theorem ZiK : Tryz.f79.results = #[] := Tryz.results79
abbrev ZiL : FuncId := 80
theorem ZdF : C.P.funcs[80]? = some Tryz.f80 := Tryz.func80
theorem Zhy : Enters C.P 80 := Enters.mk ZdF (by kernel_rfl) (by kernel_rfl)
theorem Zhz : Tryz.f80.ntmps = 7 := Tryz.ntmps80
theorem ZhA : Tryz.f80.results = #[ResultVar.tmp 0] := Tryz.results80
abbrev ZjK : FuncId := 81
theorem Zed : C.P.funcs[81]? = some Tryz.f81 := Tryz.func81
theorem ZiM : Enters C.P 81 := Enters.mk Zed (by kernel_rfl) (by kernel_rfl)
theorem ZiN : Tryz.f81.ntmps = 9 := Tryz.ntmps81
theorem ZiO : Tryz.f81.results = #[] := Tryz.results81
abbrev ZhB : FuncId := 82
theorem Zc5 : C.P.funcs[82]? = some Tryz.f82 := Tryz.func82
theorem Zgs : Enters C.P 82 := Enters.mk Zc5 (by kernel_rfl) (by kernel_rfl)
theorem Zgt : Tryz.f82.ntmps = 69 := Tryz.ntmps82
theorem Zgu : Tryz.f82.results = #[ResultVar.cell 6 25, ResultVar.cell 7 25] := Tryz.results82
abbrev Zgv : FuncId := 83
theorem Zfg : C.P.funcs[83]? = some Tryz.f83 := Tryz.func83
theorem ZjL : Enters C.P 83 := Enters.mk Zfg (by kernel_rfl) (by kernel_rfl)
theorem ZjM : Tryz.f83.ntmps = 9 := Tryz.ntmps83
theorem ZjN : Tryz.f83.results = #[ResultVar.cell 2 25] := Tryz.results83
abbrev Zl3 : FuncId := 85
theorem Zgw : C.P.funcs[85]? = some Tryz.f85 := Tryz.func85
theorem Zk3 : Enters C.P 85 := Enters.mk Zgw (by kernel_rfl) (by kernel_rfl)
theorem Zk4 : Tryz.f85.ntmps = 26 := Tryz.ntmps85
theorem Zk5 : Tryz.f85.results = #[ResultVar.tmp 4] := Tryz.results85
abbrev Zk6 : FuncId := 86
theorem Zfh : C.P.funcs[86]? = some Tryz.f86 := Tryz.func86
theorem ZjO : Enters C.P 86 := Enters.mk Zfh (by kernel_rfl) (by kernel_rfl)
theorem ZjP : Tryz.f86.ntmps = 83 := Tryz.ntmps86
theorem ZjQ : Tryz.f86.results = #[ResultVar.cell 4 25, ResultVar.cell 5 25, ResultVar.cell 6 25] := Tryz.results86
abbrev ZlP : FuncId := 87
theorem ZjR : C.P.funcs[87]? = some Tryz.f87 := Tryz.func87
theorem ZmW : Enters C.P 87 := Enters.mk ZjR (by kernel_rfl) (by kernel_rfl)
theorem ZmX : Tryz.f87.ntmps = 14 := Tryz.ntmps87
theorem ZmY : Tryz.f87.results = #[ResultVar.cell 4 25] := Tryz.results87
abbrev Zk7 : FuncId := 95
theorem Zfi : C.P.funcs[95]? = some Tryz.f95 := Tryz.func95
theorem ZjS : Enters C.P 95 := Enters.mk Zfi (by kernel_rfl) (by kernel_rfl)
theorem ZjT : Tryz.f95.ntmps = 34 := Tryz.ntmps95
theorem ZjU : Tryz.f95.results = #[ResultVar.tmp 4] := Tryz.results95
abbrev Zgx : FuncId := 97
theorem Zcx : C.P.funcs[97]? = some Tryz.f97 := Tryz.func97
theorem Zfy : Enters C.P 97 := Enters.mk Zcx (by kernel_rfl) (by kernel_rfl)
theorem Zfz : Tryz.f97.ntmps = 9 := Tryz.ntmps97
theorem ZfA : Tryz.f97.results = #[ResultVar.cell 2 25] := Tryz.results97
abbrev Zk8 : FuncId := 99
theorem Zfj : C.P.funcs[99]? = some Tryz.f99 := Tryz.func99
theorem ZjV : Enters C.P 99 := Enters.mk Zfj (by kernel_rfl) (by kernel_rfl)
theorem ZjW : Tryz.f99.ntmps = 51 := Tryz.ntmps99
theorem ZjX : Tryz.f99.results = #[ResultVar.cell 4 25] := Tryz.results99
abbrev Zgy : FuncId := 102
theorem Zcy : C.P.funcs[102]? = some Tryz.f102 := Tryz.func102
theorem ZfB : Enters C.P 102 := Enters.mk Zcy (by kernel_rfl) (by kernel_rfl)
theorem ZfC : Tryz.f102.ntmps = 19 := Tryz.ntmps102
theorem ZfD : Tryz.f102.results = #[ResultVar.cell 4 25] := Tryz.results102
abbrev ZdG : FuncId := 106
theorem Zc6 : C.P.funcs[106]? = some Tryz.f106 := Tryz.func106
theorem Zgz : Enters C.P 106 := Enters.mk Zc6 (by kernel_rfl) (by kernel_rfl)
theorem ZgA : Tryz.f106.ntmps = 13 := Tryz.ntmps106
theorem ZgB : Tryz.f106.results = #[ResultVar.cell 4 25] := Tryz.results106
abbrev ZhC : FuncId := 107
theorem Zc7 : C.P.funcs[107]? = some Tryz.f107 := Tryz.func107
theorem ZgC : Enters C.P 107 := Enters.mk Zc7 (by kernel_rfl) (by kernel_rfl)
theorem ZgD : Tryz.f107.ntmps = 5 := Tryz.ntmps107
theorem ZgE : Tryz.f107.results = #[ResultVar.tmp 2] := Tryz.results107
abbrev ZjY : FuncId := 108
theorem Zee : C.P.funcs[108]? = some Tryz.f108 := Tryz.func108
theorem ZiP : Enters C.P 108 := Enters.mk Zee (by kernel_rfl) (by kernel_rfl)
theorem ZiQ : Tryz.f108.ntmps = 11 := Tryz.ntmps108
theorem ZiR : Tryz.f108.results = #[ResultVar.tmp 2] := Tryz.results108
abbrev Zl4 : FuncId := 110
theorem ZgF : C.P.funcs[110]? = some Tryz.f110 := Tryz.func110
theorem Zk9 : Enters C.P 110 := Enters.mk ZgF (by kernel_rfl) (by kernel_rfl)
theorem Zla : Tryz.f110.ntmps = 25 := Tryz.ntmps110
theorem Zlb : Tryz.f110.results = #[ResultVar.tmp 2] := Tryz.results110
abbrev ZgG : FuncId := 111
theorem Zfk : C.P.funcs[111]? = some Tryz.f111 := Tryz.func111
theorem ZjZ : Enters C.P 111 := Enters.mk Zfk (by kernel_rfl) (by kernel_rfl)
theorem Zj0 : Tryz.f111.ntmps = 20 := Tryz.ntmps111
theorem Zj1 : Tryz.f111.results = #[ResultVar.tmp 2] := Tryz.results111
abbrev Zlc : FuncId := 112
theorem Zfl : C.P.funcs[112]? = some Tryz.f112 := Tryz.func112
theorem Zj2 : Enters C.P 112 := Enters.mk Zfl (by kernel_rfl) (by kernel_rfl)
theorem Zj3 : Tryz.f112.ntmps = 20 := Tryz.ntmps112
theorem Zj4 : Tryz.f112.results = #[ResultVar.tmp 2] := Tryz.results112
abbrev Zj5 : FuncId := 113
theorem Zh6 : C.P.funcs[113]? = some Tryz.f113 := Tryz.func113
theorem Zl5 : Enters C.P 113 := Enters.mk Zh6 (by kernel_rfl) (by kernel_rfl)
theorem Zl6 : Tryz.f113.ntmps = 36 := Tryz.ntmps113
theorem Zl7 : Tryz.f113.results = #[ResultVar.tmp 4] := Tryz.results113
abbrev ZnP : FuncId := 114
theorem Zj6 : C.P.funcs[114]? = some Tryz.f114 := Tryz.func114
theorem ZmZ : Enters C.P 114 := Enters.mk Zj6 (by kernel_rfl) (by kernel_rfl)
theorem Zm0 : Tryz.f114.ntmps = 10 := Tryz.ntmps114
theorem Zm1 : Tryz.f114.results = #[ResultVar.tmp 2] := Tryz.results114
abbrev ZaC : FuncId := 116
theorem Zef : C.P.funcs[116]? = some Tryz.f116 := Tryz.func116
theorem ZiS : Enters C.P 116 := Enters.mk Zef (by kernel_rfl) (by kernel_rfl)
theorem ZiT : Tryz.f116.ntmps = 10 := Tryz.ntmps116
theorem ZiU : Tryz.f116.results = #[ResultVar.tmp 4] := Tryz.results116
abbrev ZiV : FuncId := 118
theorem ZdH : C.P.funcs[118]? = some Tryz.f118 := Tryz.func118
theorem ZhD : Enters C.P 118 := Enters.mk ZdH (by kernel_rfl) (by kernel_rfl)
theorem ZhE : Tryz.f118.ntmps = 14 := Tryz.ntmps118
theorem ZhF : Tryz.f118.results = #[ResultVar.tmp 4] := Tryz.results118
abbrev Zm2 : FuncId := 121
theorem Zh7 : C.P.funcs[121]? = some Tryz.f121 := Tryz.func121
theorem Zl8 : Enters C.P 121 := Enters.mk Zh7 (by kernel_rfl) (by kernel_rfl)
theorem Zl9 : Tryz.f121.ntmps = 12 := Tryz.ntmps121
theorem Zma : Tryz.f121.results = #[ResultVar.tmp 4, ResultVar.tmp 5] := Tryz.results121
abbrev Zm3 : FuncId := 122
theorem Zh8 : C.P.funcs[122]? = some Tryz.f122 := Tryz.func122
theorem Zmb : Enters C.P 122 := Enters.mk Zh8 (by kernel_rfl) (by kernel_rfl)
theorem Zmc : Tryz.f122.ntmps = 12 := Tryz.ntmps122
theorem Zmd : Tryz.f122.results = #[ResultVar.tmp 4, ResultVar.tmp 5] := Tryz.results122
abbrev Zj7 : FuncId := 123
theorem Zeg : C.P.funcs[123]? = some Tryz.f123 := Tryz.func123
theorem ZiW : Enters C.P 123 := Enters.mk Zeg (by kernel_rfl) (by kernel_rfl)
theorem ZiX : Tryz.f123.ntmps = 23 := Tryz.ntmps123
theorem ZiY : Tryz.f123.results = #[ResultVar.tmp 4] := Tryz.results123
abbrev ZeF : FuncId := 124
theorem Zeh : C.P.funcs[124]? = some Tryz.f124 := Tryz.func124
theorem Zei : Enters C.P 124 := Enters.mk Zeh (by kernel_rfl) (by kernel_rfl)
abbrev ZhG : FuncId := 125
theorem Zc8 : C.P.funcs[125]? = some Tryz.f125 := Tryz.func125
theorem ZgH : Enters C.P 125 := Enters.mk Zc8 (by kernel_rfl) (by kernel_rfl)
theorem ZgI : Tryz.f125.ntmps = 65 := Tryz.ntmps125
theorem ZgJ : Tryz.f125.results = #[ResultVar.tmp 6] := Tryz.results125
abbrev Zbu : FuncId := 126
theorem ZbG : C.P.funcs[126]? = some Tryz.f126 := Tryz.func126
theorem Zco : Enters C.P 126 := Enters.mk ZbG (by kernel_rfl) (by kernel_rfl)
theorem Zcp : Tryz.f126.ntmps = 29 := Tryz.ntmps126
theorem Zcq : Tryz.f126.results = #[] := Tryz.results126
abbrev ZaE : FuncId := 127
theorem ZaQ : C.P.funcs[127]? = some Tryz.f127 := Tryz.func127
theorem ZbB : Enters C.P 127 := Enters.mk ZaQ (by kernel_rfl) (by kernel_rfl)
theorem ZbC : Tryz.f127.ntmps = 36 := Tryz.ntmps127
theorem ZbD : Tryz.f127.results = #[ResultVar.tmp 4] := Tryz.results127
abbrev Zc9 : FuncId := 128
theorem Zbj : C.P.funcs[128]? = some Tryz.f128 := Tryz.func128
theorem ZcN : Enters C.P 128 := Enters.mk Zbj (by kernel_rfl) (by kernel_rfl)
theorem ZcO : Tryz.f128.ntmps = 87 := Tryz.ntmps128
theorem ZcP : Tryz.f128.results = #[ResultVar.tmp 8] := Tryz.results128
abbrev Zej : FuncId := 129
theorem ZbP : C.P.funcs[129]? = some Tryz.f129 := Tryz.func129
theorem ZdR : Enters C.P 129 := Enters.mk ZbP (by kernel_rfl) (by kernel_rfl)
theorem ZdS : Tryz.f129.ntmps = 14 := Tryz.ntmps129
theorem ZdT : Tryz.f129.results = #[] := Tryz.results129
abbrev ZdI : FuncId := 130
theorem Zda : C.P.funcs[130]? = some Tryz.f130 := Tryz.func130
theorem ZgK : Enters C.P 130 := Enters.mk Zda (by kernel_rfl) (by kernel_rfl)
theorem ZgL : Tryz.f130.ntmps = 65 := Tryz.ntmps130
theorem ZgM : Tryz.f130.results = #[ResultVar.tmp 4] := Tryz.results130
abbrev ZiZ : FuncId := 131
theorem ZdJ : C.P.funcs[131]? = some Tryz.f131 := Tryz.func131
theorem ZhH : Enters C.P 131 := Enters.mk ZdJ (by kernel_rfl) (by kernel_rfl)
theorem ZhI : Tryz.f131.ntmps = 14 := Tryz.ntmps131
theorem ZhJ : Tryz.f131.results = #[ResultVar.tmp 4] := Tryz.results131
abbrev Zj8 : FuncId := 132
theorem Zek : C.P.funcs[132]? = some Tryz.f132 := Tryz.func132
theorem Zi0 : Enters C.P 132 := Enters.mk Zek (by kernel_rfl) (by kernel_rfl)
theorem Zi1 : Tryz.f132.ntmps = 31 := Tryz.ntmps132
theorem Zi2 : Tryz.f132.results = #[ResultVar.tmp 4] := Tryz.results132
abbrev Zel : FuncId := 152
theorem ZdK : C.P.funcs[152]? = some Tryz.f152 := Tryz.func152
theorem ZhK : Enters C.P 152 := Enters.mk ZdK (by kernel_rfl) (by kernel_rfl)
theorem ZhL : Tryz.f152.ntmps = 13 := Tryz.ntmps152
theorem ZhM : Tryz.f152.results = #[ResultVar.tmp 4] := Tryz.results152
abbrev Zem : FuncId := 153
theorem ZeG : C.P.funcs[153]? = some Tryz.f153 := Tryz.func153
theorem Zh9 : Enters C.P 153 := Enters.mk ZeG (by kernel_rfl) (by kernel_rfl)
theorem Zia : Tryz.f153.ntmps = 51 := Tryz.ntmps153
theorem Zib : Tryz.f153.results = #[ResultVar.tmp 4] := Tryz.results153
abbrev Zdb : FuncId := 155
theorem Zbk : C.P.funcs[155]? = some Tryz.f155 := Tryz.func155
theorem ZcQ : Enters C.P 155 := Enters.mk Zbk (by kernel_rfl) (by kernel_rfl)
theorem ZcR : Tryz.f155.ntmps = 18 := Tryz.ntmps155
theorem ZcS : Tryz.f155.results = #[ResultVar.tmp 2] := Tryz.results155
abbrev Zme : FuncId := 156
theorem ZgN : C.P.funcs[156]? = some Tryz.f156 := Tryz.func156
theorem Zld : Enters C.P 156 := Enters.mk ZgN (by kernel_rfl) (by kernel_rfl)
theorem Zle : Tryz.f156.ntmps = 28 := Tryz.ntmps156
theorem Zlf : Tryz.f156.results = #[ResultVar.tmp 2, ResultVar.tmp 3] := Tryz.results156
abbrev Zj9 : FuncId := 157
theorem Zen : C.P.funcs[157]? = some Tryz.f157 := Tryz.func157
theorem Zi3 : Enters C.P 157 := Enters.mk Zen (by kernel_rfl) (by kernel_rfl)
theorem Zi4 : Tryz.f157.ntmps = 53 := Tryz.ntmps157
theorem Zi5 : Tryz.f157.results = #[ResultVar.tmp 6, ResultVar.tmp 7] := Tryz.results157
abbrev Zka : FuncId := 158
theorem Zeo : C.P.funcs[158]? = some Tryz.f158 := Tryz.func158
theorem Zi6 : Enters C.P 158 := Enters.mk Zeo (by kernel_rfl) (by kernel_rfl)
theorem Zi7 : Tryz.f158.ntmps = 90 := Tryz.ntmps158
theorem Zi8 : Tryz.f158.results = #[ResultVar.tmp 4, ResultVar.tmp 5, ResultVar.tmp 6] := Tryz.results158
abbrev Zmf : FuncId := 159
theorem ZgO : C.P.funcs[159]? = some Tryz.f159 := Tryz.func159
theorem Zlg : Enters C.P 159 := Enters.mk ZgO (by kernel_rfl) (by kernel_rfl)
theorem Zlh : Tryz.f159.ntmps = 6 := Tryz.ntmps159
theorem Zli : Tryz.f159.results = #[ResultVar.tmp 2] := Tryz.results159
abbrev ZfE : FuncId := 160
theorem Zb6 : C.P.funcs[160]? = some Tryz.f160 := Tryz.func160
theorem ZeH : Enters C.P 160 := Enters.mk Zb6 (by kernel_rfl) (by kernel_rfl)
theorem ZeI : Tryz.f160.ntmps = 44 := Tryz.ntmps160
theorem ZeJ : Tryz.f160.results = #[ResultVar.tmp 2] := Tryz.results160
abbrev Zkb : FuncId := 161
theorem Zep : C.P.funcs[161]? = some Tryz.f161 := Tryz.func161
theorem Zi9 : Enters C.P 161 := Enters.mk Zep (by kernel_rfl) (by kernel_rfl)
theorem Zja : Tryz.f161.ntmps = 49 := Tryz.ntmps161
theorem Zjb : Tryz.f161.results = #[ResultVar.tmp 2] := Tryz.results161
abbrev Zmg : FuncId := 162
theorem ZgP : C.P.funcs[162]? = some Tryz.f162 := Tryz.func162
theorem Zlj : Enters C.P 162 := Enters.mk ZgP (by kernel_rfl) (by kernel_rfl)
theorem Zlk : Tryz.f162.ntmps = 9 := Tryz.ntmps162
theorem Zll : Tryz.f162.results = #[ResultVar.tmp 2, ResultVar.tmp 3] := Tryz.results162
abbrev ZaR : FuncId := 163
theorem Zaq : C.P.funcs[163]? = some Tryz.f163 := Tryz.func163
theorem ZaK : Enters C.P 163 := Enters.mk Zaq (by kernel_rfl) (by kernel_rfl)
theorem ZaL : Tryz.f163.ntmps = 9 := Tryz.ntmps163
theorem ZaM : Tryz.f163.results = #[ResultVar.tmp 4] := Tryz.results163
abbrev ZdL : FuncId := 164
theorem Zdc : C.P.funcs[164]? = some Tryz.f164 := Tryz.func164
theorem ZgQ : Enters C.P 164 := Enters.mk Zdc (by kernel_rfl) (by kernel_rfl)
theorem ZgR : Tryz.f164.ntmps = 6 := Tryz.ntmps164
theorem ZgS : Tryz.f164.results = #[ResultVar.tmp 2] := Tryz.results164
abbrev ZbQ : FuncId := 165
theorem Zcz : C.P.funcs[165]? = some Tryz.f165 := Tryz.func165
theorem ZfF : Enters C.P 165 := Enters.mk Zcz (by kernel_rfl) (by kernel_rfl)
theorem ZfG : Tryz.f165.ntmps = 9 := Tryz.ntmps165
theorem ZfH : Tryz.f165.results = #[ResultVar.tmp 8] := Tryz.results165
abbrev ZbR : FuncId := 166
theorem ZcA : C.P.funcs[166]? = some Tryz.f166 := Tryz.func166
theorem ZfI : Enters C.P 166 := Enters.mk ZcA (by kernel_rfl) (by kernel_rfl)
theorem ZfJ : Tryz.f166.ntmps = 14 := Tryz.ntmps166
theorem ZfK : Tryz.f166.results = #[ResultVar.tmp 8] := Tryz.results166
abbrev ZbS : FuncId := 167
theorem ZcB : C.P.funcs[167]? = some Tryz.f167 := Tryz.func167
theorem ZfL : Enters C.P 167 := Enters.mk ZcB (by kernel_rfl) (by kernel_rfl)
theorem ZfM : Tryz.f167.ntmps = 11 := Tryz.ntmps167
theorem ZfN : Tryz.f167.results = #[ResultVar.tmp 8] := Tryz.results167
abbrev ZbT : FuncId := 168
theorem ZcC : C.P.funcs[168]? = some Tryz.f168 := Tryz.func168
theorem ZfO : Enters C.P 168 := Enters.mk ZcC (by kernel_rfl) (by kernel_rfl)
theorem ZfP : Tryz.f168.ntmps = 41 := Tryz.ntmps168
theorem ZfQ : Tryz.f168.results = #[ResultVar.tmp 8] := Tryz.results168
abbrev Zeq : FuncId := 169
theorem Zic : C.P.funcs[169]? = some Tryz.f169 := Tryz.func169
theorem Zmh : Enters C.P 169 := Enters.mk Zic (by kernel_rfl) (by kernel_rfl)
theorem Zmi : Tryz.f169.ntmps = 14 := Tryz.ntmps169
theorem Zmj : Tryz.f169.results = #[ResultVar.tmp 4, ResultVar.tmp 5, ResultVar.tmp 6] := Tryz.results169
abbrev ZbA : FuncId := 170
theorem ZaD : C.P.funcs[170]? = some Tryz.f170 := Tryz.func170
theorem Zbv : Enters C.P 170 := Enters.mk ZaD (by kernel_rfl) (by kernel_rfl)
theorem Zbw : Tryz.f170.ntmps = 8 := Tryz.ntmps170
theorem Zbx : Tryz.f170.results = #[ResultVar.tmp 2] := Tryz.results170
abbrev Zm4 : FuncId := 171
theorem Zid : C.P.funcs[171]? = some Tryz.f171 := Tryz.func171
theorem Zmk : Enters C.P 171 := Enters.mk Zid (by kernel_rfl) (by kernel_rfl)
theorem Zml : Tryz.f171.ntmps = 176 := Tryz.ntmps171
theorem Zmm : Tryz.f171.results = #[ResultVar.cell 4 178] := Tryz.results171
abbrev ZhN : FuncId := 173
theorem Zdd : C.P.funcs[173]? = some Tryz.f173 := Tryz.func173
theorem ZgT : Enters C.P 173 := Enters.mk Zdd (by kernel_rfl) (by kernel_rfl)
theorem ZgU : Tryz.f173.ntmps = 60 := Tryz.ntmps173
theorem ZgV : Tryz.f173.results = #[ResultVar.tmp 4, ResultVar.cell 5 25, ResultVar.cell 6 25, ResultVar.tmp 7, ResultVar.tmp 8] := Tryz.results173
abbrev Zb7 : FuncId := 174
theorem ZdU : C.P.funcs[174]? = some Tryz.f174 := Tryz.func174
theorem ZgW : Enters C.P 174 := Enters.mk ZdU (by kernel_rfl) (by kernel_rfl)
theorem ZgX : Tryz.f174.ntmps = 23 := Tryz.ntmps174
theorem ZgY : Tryz.f174.results = #[ResultVar.tmp 2] := Tryz.results174
abbrev Zm5 : FuncId := 175
theorem Zie : C.P.funcs[175]? = some Tryz.f175 := Tryz.func175
theorem Zmn : Enters C.P 175 := Enters.mk Zie (by kernel_rfl) (by kernel_rfl)
theorem Zmo : Tryz.f175.ntmps = 68 := Tryz.ntmps175
theorem Zmp : Tryz.f175.results = #[ResultVar.tmp 4] := Tryz.results175
abbrev Zm6 : FuncId := 176
theorem Zif : C.P.funcs[176]? = some Tryz.f176 := Tryz.func176
theorem Zmq : Enters C.P 176 := Enters.mk Zif (by kernel_rfl) (by kernel_rfl)
theorem Zmr : Tryz.f176.ntmps = 12 := Tryz.ntmps176
theorem Zms : Tryz.f176.results = #[ResultVar.tmp 4, ResultVar.tmp 5] := Tryz.results176
abbrev Zm7 : FuncId := 177
theorem Zig : C.P.funcs[177]? = some Tryz.f177 := Tryz.func177
theorem Zmt : Enters C.P 177 := Enters.mk Zig (by kernel_rfl) (by kernel_rfl)
theorem Zmu : Tryz.f177.ntmps = 30 := Tryz.ntmps177
theorem Zmv : Tryz.f177.results = #[ResultVar.tmp 4] := Tryz.results177
abbrev ZnQ : FuncId := 179
theorem Zkc : C.P.funcs[179]? = some Tryz.f179 := Tryz.func179
theorem Zm8 : Enters C.P 179 := Enters.mk Zkc (by kernel_rfl) (by kernel_rfl)
theorem Zm9 : Tryz.f179.ntmps = 10 := Tryz.ntmps179
theorem Zna : Tryz.f179.results = #[ResultVar.tmp 2] := Tryz.results179
abbrev ZhO : FuncId := 180
theorem Zde : C.P.funcs[180]? = some Tryz.f180 := Tryz.func180
theorem ZgZ : Enters C.P 180 := Enters.mk Zde (by kernel_rfl) (by kernel_rfl)
theorem Zg0 : Tryz.f180.ntmps = 14 := Tryz.ntmps180
theorem Zg1 : Tryz.f180.results = #[ResultVar.tmp 4] := Tryz.results180
abbrev ZlQ : FuncId := 181
theorem Zkd : C.P.funcs[181]? = some Tryz.f181 := Tryz.func181
theorem Znb : Enters C.P 181 := Enters.mk Zkd (by kernel_rfl) (by kernel_rfl)
theorem Znc : Tryz.f181.ntmps = 14 := Tryz.ntmps181
theorem Znd : Tryz.f181.results = #[ResultVar.tmp 4] := Tryz.results181
abbrev ZaH : FuncId := 182
theorem Zbc : C.P.funcs[182]? = some Tryz.f182 := Tryz.func182
theorem ZbH : Enters C.P 182 := Enters.mk Zbc (by kernel_rfl) (by kernel_rfl)
theorem ZbI : Tryz.f182.ntmps = 20 := Tryz.ntmps182
theorem ZbJ : Tryz.f182.results = #[] := Tryz.results182
abbrev Zlm : FuncId := 183
theorem Zfm : C.P.funcs[183]? = some Tryz.f183 := Tryz.func183
theorem Zke : Enters C.P 183 := Enters.mk Zfm (by kernel_rfl) (by kernel_rfl)
theorem Zkf : Tryz.f183.ntmps = 6 := Tryz.ntmps183
theorem Zkg : Tryz.f183.results = #[] := Tryz.results183
abbrev Zmw : FuncId := 184
theorem Zg2 : C.P.funcs[184]? = some Tryz.f184 := Tryz.func184
theorem Zln : Enters C.P 184 := Enters.mk Zg2 (by kernel_rfl) (by kernel_rfl)
theorem Zlo : Tryz.f184.ntmps = 9 := Tryz.ntmps184
theorem Zlp : Tryz.f184.results = #[] := Tryz.results184
abbrev Zlq : FuncId := 185
theorem Zfn : C.P.funcs[185]? = some Tryz.f185 := Tryz.func185
theorem Zkh : Enters C.P 185 := Enters.mk Zfn (by kernel_rfl) (by kernel_rfl)
theorem Zki : Tryz.f185.ntmps = 9 := Tryz.ntmps185
theorem Zkj : Tryz.f185.results = #[ResultVar.tmp 2] := Tryz.results185
abbrev ZbU : FuncId := 186
theorem ZcD : C.P.funcs[186]? = some Tryz.f186 := Tryz.func186
theorem ZfR : Enters C.P 186 := Enters.mk ZcD (by kernel_rfl) (by kernel_rfl)
theorem ZfS : Tryz.f186.ntmps = 53 := Tryz.ntmps186
theorem ZfT : Tryz.f186.results = #[ResultVar.tmp 4] := Tryz.results186
abbrev Zne : FuncId := 187
theorem Zih : C.P.funcs[187]? = some Tryz.f187 := Tryz.func187
theorem Zmx : Enters C.P 187 := Enters.mk Zih (by kernel_rfl) (by kernel_rfl)
theorem Zmy : Tryz.f187.ntmps = 13 := Tryz.ntmps187
theorem Zmz : Tryz.f187.results = #[ResultVar.tmp 4, ResultVar.cell 5 28] := Tryz.results187
abbrev Zg3 : FuncId := 188
theorem ZcE : C.P.funcs[188]? = some Tryz.f188 := Tryz.func188
theorem ZfU : Enters C.P 188 := Enters.mk ZcE (by kernel_rfl) (by kernel_rfl)
theorem ZfV : Tryz.f188.ntmps = 49 := Tryz.ntmps188
theorem ZfW : Tryz.f188.results = #[ResultVar.tmp 4] := Tryz.results188
abbrev ZfX : FuncId := 189
theorem Zb8 : C.P.funcs[189]? = some Tryz.f189 := Tryz.func189
theorem ZeK : Enters C.P 189 := Enters.mk Zb8 (by kernel_rfl) (by kernel_rfl)
theorem ZeL : Tryz.f189.ntmps = 18 := Tryz.ntmps189
theorem ZeM : Tryz.f189.results = #[ResultVar.tmp 6, ResultVar.cell 7 28] := Tryz.results189
abbrev Zg4 : FuncId := 190
theorem Zfo : C.P.funcs[190]? = some Tryz.f190 := Tryz.func190
theorem Zkk : Enters C.P 190 := Enters.mk Zfo (by kernel_rfl) (by kernel_rfl)
theorem Zkl : Tryz.f190.ntmps = 13 := Tryz.ntmps190
theorem Zkm : Tryz.f190.results = #[ResultVar.tmp 4] := Tryz.results190
abbrev Zdf : FuncId := 191
theorem ZcF : C.P.funcs[191]? = some Tryz.f191 := Tryz.func191
theorem ZfY : Enters C.P 191 := Enters.mk ZcF (by kernel_rfl) (by kernel_rfl)
theorem ZfZ : Tryz.f191.ntmps = 37 := Tryz.ntmps191
theorem Zf0 : Tryz.f191.results = #[ResultVar.cell 4 3] := Tryz.results191
abbrev Zdg : FuncId := 192
theorem ZcG : C.P.funcs[192]? = some Tryz.f192 := Tryz.func192
theorem Zf1 : Enters C.P 192 := Enters.mk ZcG (by kernel_rfl) (by kernel_rfl)
theorem Zf2 : Tryz.f192.ntmps = 36 := Tryz.ntmps192
theorem Zf3 : Tryz.f192.results = #[ResultVar.tmp 4] := Tryz.results192
abbrev Zdh : FuncId := 193
theorem ZcH : C.P.funcs[193]? = some Tryz.f193 := Tryz.func193
theorem Zf4 : Enters C.P 193 := Enters.mk ZcH (by kernel_rfl) (by kernel_rfl)
theorem Zf5 : Tryz.f193.ntmps = 39 := Tryz.ntmps193
theorem Zf6 : Tryz.f193.results = #[ResultVar.tmp 4] := Tryz.results193
abbrev ZhP : FuncId := 194
theorem Zdi : C.P.funcs[194]? = some Tryz.f194 := Tryz.func194
theorem Zg5 : Enters C.P 194 := Enters.mk Zdi (by kernel_rfl) (by kernel_rfl)
theorem Zg6 : Tryz.f194.ntmps = 6 := Tryz.ntmps194
theorem Zg7 : Tryz.f194.results = #[ResultVar.tmp 4] := Tryz.results194
abbrev Zb0 : FuncId := 195
theorem ZaI : C.P.funcs[195]? = some Tryz.f195 := Tryz.func195
theorem ZbV : Enters C.P 195 := Enters.mk ZaI (by kernel_rfl) (by kernel_rfl)
theorem ZbW : Tryz.f195.ntmps = 28 := Tryz.ntmps195
theorem ZbX : Tryz.f195.results = #[] := Tryz.results195
abbrev Zkn : FuncId := 202
theorem Zer : C.P.funcs[202]? = some Tryz.f202 := Tryz.func202
theorem Zjc : Enters C.P 202 := Enters.mk Zer (by kernel_rfl) (by kernel_rfl)
theorem Zjd : Tryz.f202.ntmps = 19 := Tryz.ntmps202
theorem Zje : Tryz.f202.results = #[ResultVar.tmp 4] := Tryz.results202
abbrev ZdV : FuncId := 203
theorem ZbE : C.P.funcs[203]? = some Tryz.f203 := Tryz.func203
theorem Zdt : Enters C.P 203 := Enters.mk ZbE (by kernel_rfl) (by kernel_rfl)
theorem Zdu : Tryz.f203.ntmps = 8 := Tryz.ntmps203
theorem Zdv : Tryz.f203.results = #[ResultVar.tmp 4] := Tryz.results203
abbrev Zjf : FuncId := 204
theorem ZdM : C.P.funcs[204]? = some Tryz.f204 := Tryz.func204
theorem ZhQ : Enters C.P 204 := Enters.mk ZdM (by kernel_rfl) (by kernel_rfl)
theorem ZhR : Tryz.f204.ntmps = 35 := Tryz.ntmps204
theorem ZhS : Tryz.f204.results = #[ResultVar.tmp 2] := Tryz.results204
abbrev ZdW : FuncId := 205
theorem ZbF : C.P.funcs[205]? = some Tryz.f205 := Tryz.func205
theorem Zdw : Enters C.P 205 := Enters.mk ZbF (by kernel_rfl) (by kernel_rfl)
theorem Zdx : Tryz.f205.ntmps = 8 := Tryz.ntmps205
theorem Zdy : Tryz.f205.results = #[] := Tryz.results205
abbrev Zjg : FuncId := 206
theorem ZdN : C.P.funcs[206]? = some Tryz.f206 := Tryz.func206
theorem ZhT : Enters C.P 206 := Enters.mk ZdN (by kernel_rfl) (by kernel_rfl)
theorem ZhU : Tryz.f206.ntmps = 22 := Tryz.ntmps206
theorem ZhV : Tryz.f206.results = #[ResultVar.tmp 2, ResultVar.tmp 3] := Tryz.results206
abbrev Zlr : FuncId := 207
theorem Zfp : C.P.funcs[207]? = some Tryz.f207 := Tryz.func207
theorem Zko : Enters C.P 207 := Enters.mk Zfp (by kernel_rfl) (by kernel_rfl)
theorem Zkp : Tryz.f207.ntmps = 35 := Tryz.ntmps207
theorem Zkq : Tryz.f207.results = #[ResultVar.tmp 2] := Tryz.results207
abbrev Zf7 : FuncId := 208
theorem Zb9 : C.P.funcs[208]? = some Tryz.f208 := Tryz.func208
theorem ZeN : Enters C.P 208 := Enters.mk Zb9 (by kernel_rfl) (by kernel_rfl)
theorem ZeO : Tryz.f208.ntmps = 18 := Tryz.ntmps208
theorem ZeP : Tryz.f208.results = #[ResultVar.tmp 2] := Tryz.results208
abbrev Za8 : FuncId := 212
theorem Zav : C.P.funcs[212]? = some Tryz.f212 := Tryz.func212
theorem ZaX : Enters C.P 212 := Enters.mk Zav (by kernel_rfl) (by kernel_rfl)
theorem ZaY : Tryz.f212.ntmps = 19 := Tryz.ntmps212
theorem ZaZ : Tryz.f212.results = #[ResultVar.tmp 4] := Tryz.results212
abbrev Zjh : FuncId := 213
theorem ZdO : C.P.funcs[213]? = some Tryz.f213 := Tryz.func213
theorem ZhW : Enters C.P 213 := Enters.mk ZdO (by kernel_rfl) (by kernel_rfl)
theorem ZhX : Tryz.f213.ntmps = 31 := Tryz.ntmps213
theorem ZhY : Tryz.f213.results = #[ResultVar.tmp 6, ResultVar.tmp 7, ResultVar.cell 8 28] := Tryz.results213
abbrev Zg8 : FuncId := 214
theorem Zfq : C.P.funcs[214]? = some Tryz.f214 := Tryz.func214
theorem Zkr : Enters C.P 214 := Enters.mk Zfq (by kernel_rfl) (by kernel_rfl)
theorem Zks : Tryz.f214.ntmps = 11 := Tryz.ntmps214
theorem Zkt : Tryz.f214.results = #[ResultVar.tmp 4, ResultVar.tmp 5] := Tryz.results214
abbrev Zes : FuncId := 215
theorem ZbY : C.P.funcs[215]? = some Tryz.f215 := Tryz.func215
theorem ZdX : Enters C.P 215 := Enters.mk ZbY (by kernel_rfl) (by kernel_rfl)
theorem ZdY : Tryz.f215.ntmps = 93 := Tryz.ntmps215
theorem ZdZ : Tryz.f215.results = #[ResultVar.tmp 6, ResultVar.tmp 7] := Tryz.results215
abbrev Zls : FuncId := 216
theorem Zfr : C.P.funcs[216]? = some Tryz.f216 := Tryz.func216
theorem Zku : Enters C.P 216 := Enters.mk Zfr (by kernel_rfl) (by kernel_rfl)
theorem Zkv : Tryz.f216.ntmps = 44 := Tryz.ntmps216
theorem Zkw : Tryz.f216.results = #[ResultVar.cell 4 178] := Tryz.results216
abbrev Znf : FuncId := 217
theorem Zii : C.P.funcs[217]? = some Tryz.f217 := Tryz.func217
theorem ZmA : Enters C.P 217 := Enters.mk Zii (by kernel_rfl) (by kernel_rfl)
theorem ZmB : Tryz.f217.ntmps = 40 := Tryz.ntmps217
theorem ZmC : Tryz.f217.results = #[ResultVar.tmp 4] := Tryz.results217
abbrev Zdj : FuncId := 218
theorem ZcI : C.P.funcs[218]? = some Tryz.f218 := Tryz.func218
theorem Zf8 : Enters C.P 218 := Enters.mk ZcI (by kernel_rfl) (by kernel_rfl)
theorem Zf9 : Tryz.f218.ntmps = 8 := Tryz.ntmps218
theorem Zga : Tryz.f218.results = #[ResultVar.tmp 4] := Tryz.results218
abbrev ZcJ : FuncId := 219
theorem Zca : C.P.funcs[219]? = some Tryz.f219 := Tryz.func219
theorem ZeQ : Enters C.P 219 := Enters.mk Zca (by kernel_rfl) (by kernel_rfl)
theorem ZeR : Tryz.f219.ntmps = 21 := Tryz.ntmps219
theorem ZeS : Tryz.f219.results = #[ResultVar.tmp 2] := Tryz.results219
abbrev ZaS : FuncId := 220
theorem Zar : C.P.funcs[220]? = some Tryz.f220 := Tryz.func220
theorem ZaN : Enters C.P 220 := Enters.mk Zar (by kernel_rfl) (by kernel_rfl)
theorem ZaO : Tryz.f220.ntmps = 9 := Tryz.ntmps220
theorem ZaP : Tryz.f220.results = #[ResultVar.tmp 4] := Tryz.results220
abbrev Zet : FuncId := 221
theorem ZdP : C.P.funcs[221]? = some Tryz.f221 := Tryz.func221
theorem ZhZ : Enters C.P 221 := Enters.mk ZdP (by kernel_rfl) (by kernel_rfl)
theorem Zh0 : Tryz.f221.ntmps = 6 := Tryz.ntmps221
theorem Zh1 : Tryz.f221.results = #[ResultVar.tmp 2] := Tryz.results221
abbrev Zbn : FuncId := 222
theorem ZaA : C.P.funcs[222]? = some Tryz.f222 := Tryz.func222
theorem Zbf : Enters C.P 222 := Enters.mk ZaA (by kernel_rfl) (by kernel_rfl)
theorem Zbg : Tryz.f222.ntmps = 8 := Tryz.ntmps222
theorem Zbh : Tryz.f222.results = #[ResultVar.tmp 2] := Tryz.results222
abbrev Za9 : FuncId := 223
theorem Zaw : C.P.funcs[223]? = some Tryz.f223 := Tryz.func223
theorem Za0 : Enters C.P 223 := Enters.mk Zaw (by kernel_rfl) (by kernel_rfl)
theorem Za1 : Tryz.f223.ntmps = 4 := Tryz.ntmps223
theorem Za2 : Tryz.f223.results = #[ResultVar.tmp 2] := Tryz.results223
abbrev ZcK : FuncId := 224
theorem Zcb : C.P.funcs[224]? = some Tryz.f224 := Tryz.func224
theorem ZeT : Enters C.P 224 := Enters.mk Zcb (by kernel_rfl) (by kernel_rfl)
theorem ZeU : Tryz.f224.ntmps = 62 := Tryz.ntmps224
theorem ZeV : Tryz.f224.results = #[] := Tryz.results224
abbrev Zcr : FuncId := 232
theorem Zcc : C.P.funcs[232]? = some Tryz.f232 := Tryz.func232
theorem Zcd : Enters C.P 232 := Enters.mk Zcc (by kernel_rfl) (by kernel_rfl)
abbrev Zkx : FuncId := 233
theorem Zeu : C.P.funcs[233]? = some Tryz.f233 := Tryz.func233
theorem Zji : Enters C.P 233 := Enters.mk Zeu (by kernel_rfl) (by kernel_rfl)
theorem Zjj : Tryz.f233.ntmps = 19 := Tryz.ntmps233
theorem Zjk : Tryz.f233.results = #[ResultVar.tmp 2] := Tryz.results233
abbrev ZcL : FuncId := 235
theorem Zce : C.P.funcs[235]? = some Tryz.f235 := Tryz.func235
theorem ZeW : Enters C.P 235 := Enters.mk Zce (by kernel_rfl) (by kernel_rfl)
theorem ZeX : Tryz.f235.ntmps = 80 := Tryz.ntmps235
theorem ZeY : Tryz.f235.results = #[ResultVar.tmp 4, ResultVar.tmp 5] := Tryz.results235
abbrev Zgb : FuncId := 236
theorem Zcf : C.P.funcs[236]? = some Tryz.f236 := Tryz.func236
theorem ZeZ : Enters C.P 236 := Enters.mk Zcf (by kernel_rfl) (by kernel_rfl)
theorem Ze0 : Tryz.f236.ntmps = 12 := Tryz.ntmps236
theorem Ze1 : Tryz.f236.results = #[ResultVar.tmp 4] := Tryz.results236
abbrev Zg9 : FuncId := 237
theorem ZcM : C.P.funcs[237]? = some Tryz.f237 := Tryz.func237
theorem Zgc : Enters C.P 237 := Enters.mk ZcM (by kernel_rfl) (by kernel_rfl)
theorem Zgd : Tryz.f237.ntmps = 13 := Tryz.ntmps237
theorem Zge : Tryz.f237.results = #[ResultVar.tmp 4] := Tryz.results237
abbrev Zha : FuncId := 238
theorem Zfs : C.P.funcs[238]? = some Tryz.f238 := Tryz.func238
theorem Zky : Enters C.P 238 := Enters.mk Zfs (by kernel_rfl) (by kernel_rfl)
theorem Zkz : Tryz.f238.ntmps = 61 := Tryz.ntmps238
theorem ZkA : Tryz.f238.results = #[ResultVar.tmp 8, ResultVar.tmp 9] := Tryz.results238
abbrev Zdk : FuncId := 239
theorem Zbl : C.P.funcs[239]? = some Tryz.f239 := Tryz.func239
theorem ZcT : Enters C.P 239 := Enters.mk Zbl (by kernel_rfl) (by kernel_rfl)
theorem ZcU : Tryz.f239.ntmps = 77 := Tryz.ntmps239
theorem ZcV : Tryz.f239.results = #[ResultVar.tmp 6] := Tryz.results239
abbrev Zba : FuncId := 240
theorem Zax : C.P.funcs[240]? = some Tryz.f240 := Tryz.func240
theorem Za3 : Enters C.P 240 := Enters.mk Zax (by kernel_rfl) (by kernel_rfl)
theorem Za4 : Tryz.f240.ntmps = 19 := Tryz.ntmps240
theorem Za5 : Tryz.f240.results = #[ResultVar.tmp 4] := Tryz.results240
abbrev Zau : FuncId := 241
theorem Zat : C.P.funcs[241]? = some Tryz.f241 := Tryz.func241
theorem ZaT : Enters C.P 241 := Enters.mk Zat (by kernel_rfl) (by kernel_rfl)
theorem ZaU : Tryz.f241.ntmps = 19 := Tryz.ntmps241
theorem ZaV : Tryz.f241.results = #[] := Tryz.results241
abbrev Ze2 : FuncId := 249
theorem Zb1 : C.P.funcs[249]? = some Tryz.f249 := Tryz.func249
theorem Zev : Enters C.P 249 := Enters.mk Zb1 (by kernel_rfl) (by kernel_rfl)
theorem Zew : Tryz.f249.ntmps = 43 := Tryz.ntmps249
theorem Zex : Tryz.f249.results = #[ResultVar.tmp 4, ResultVar.tmp 5] := Tryz.results249
abbrev Zdl : FuncId := 250
theorem Zbm : C.P.funcs[250]? = some Tryz.f250 := Tryz.func250
theorem ZcW : Enters C.P 250 := Enters.mk Zbm (by kernel_rfl) (by kernel_rfl)
theorem ZcX : Tryz.f250.ntmps = 6 := Tryz.ntmps250
theorem ZcY : Tryz.f250.results = #[ResultVar.tmp 2] := Tryz.results250
abbrev Zh2 : FuncId := 251
theorem Zdm : C.P.funcs[251]? = some Tryz.f251 := Tryz.func251
theorem Zhb : Enters C.P 251 := Enters.mk Zdm (by kernel_rfl) (by kernel_rfl)
theorem Zhc : Tryz.f251.ntmps = 109 := Tryz.ntmps251
theorem Zhd : Tryz.f251.results = #[ResultVar.tmp 4] := Tryz.results251
abbrev ZkB : FuncId := 252
theorem Zey : C.P.funcs[252]? = some Tryz.f252 := Tryz.func252
theorem Zjl : Enters C.P 252 := Enters.mk Zey (by kernel_rfl) (by kernel_rfl)
theorem Zjm : Tryz.f252.ntmps = 79 := Tryz.ntmps252
theorem Zjn : Tryz.f252.results = #[ResultVar.tmp 8, ResultVar.tmp 9] := Tryz.results252
abbrev Zez : FuncId := 253
theorem ZbZ : C.P.funcs[253]? = some Tryz.f253 := Tryz.func253
theorem Zd0 : Enters C.P 253 := Enters.mk ZbZ (by kernel_rfl) (by kernel_rfl)
theorem Zd1 : Tryz.f253.ntmps = 67 := Tryz.ntmps253
theorem Zd2 : Tryz.f253.results = #[ResultVar.tmp 4] := Tryz.results253
abbrev Zlt : FuncId := 257
theorem Zft : C.P.funcs[257]? = some Tryz.f257 := Tryz.func257
theorem ZkC : Enters C.P 257 := Enters.mk Zft (by kernel_rfl) (by kernel_rfl)
theorem ZkD : Tryz.f257.ntmps = 46 := Tryz.ntmps257
theorem ZkE : Tryz.f257.results = #[ResultVar.tmp 6] := Tryz.results257
end Go.V
