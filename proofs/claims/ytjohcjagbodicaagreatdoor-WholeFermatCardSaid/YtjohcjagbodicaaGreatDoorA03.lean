/- A part of the proof: abstract values, rules for the steps of the program's form, and contracts of its functions, each proved; no condition. -/
import Derived.Test.YtjohcjagbodicaaGreatDoorA02
import Derived.Test.YtjohcjagbodicaaGreatDoorProg
set_option linter.unusedVariables false
set_option linter.unusedSimpArgs false
/- THE SEAT's TABLE, PRINTED BY seatv.py (a program of this session's): what each type is, by the translation's own facts; the functions, by name. -/
namespace Go.V
open Go.RowKit Go.Proofs
theorem te1 : TEok Tryz.prog 1 ⟨.other, 1, 8, .nilFunc⟩ := ⟨by kernel_rfl, ⟨_, Tryz.underlying1, rfl⟩⟩
theorem te2 : TEok Tryz.prog 2 ⟨.int .i64, 1, 8, .int .i64 0⟩ := ⟨by kernel_rfl, Tryz.underlying2⟩
theorem te3 : TEok Tryz.prog 3 ⟨.int .i64, 1, 8, .int .i64 0⟩ := ⟨by kernel_rfl, Tryz.underlying3⟩
theorem te4 : TEok Tryz.prog 4 ⟨.bool, 1, 1, .bool false⟩ := ⟨by kernel_rfl, Tryz.underlying4⟩
theorem te5 : TEok Tryz.prog 5 ⟨.int .u8, 1, 1, .int .u8 0⟩ := ⟨by kernel_rfl, Tryz.underlying5⟩
theorem te6 : TEok Tryz.prog 6 ⟨.int .u8, 1, 1, .int .u8 0⟩ := ⟨by kernel_rfl, Tryz.underlying6⟩
theorem te7 : TEok Tryz.prog 7 ⟨.struct [(0, 1), (1, 1), (2, 1), (3, 1)], 4, 24, .agg #[.int .i64 0, .int .i64 0, .bool false, .int .u8 0]⟩ := ⟨by kernel_rfl, ⟨_, Tryz.underlying7, by kernel_rfl⟩⟩
theorem te8 : TEok Tryz.prog 8 ⟨.struct [(0, 1), (1, 1), (2, 1), (3, 1)], 4, 24, .agg #[.int .i64 0, .int .i64 0, .bool false, .int .u8 0]⟩ := ⟨by kernel_rfl, ⟨_, Tryz.underlying8, by kernel_rfl⟩⟩
theorem te9 : TEok Tryz.prog 9 ⟨.str, 1, 16, .string ⟨#[]⟩⟩ := ⟨by kernel_rfl, Tryz.underlying9⟩
theorem te10 : TEok Tryz.prog 10 ⟨.str, 1, 16, .string ⟨#[]⟩⟩ := ⟨by kernel_rfl, Tryz.underlying10⟩
theorem te11 : TEok Tryz.prog 11 ⟨.str, 1, 16, .string ⟨#[]⟩⟩ := ⟨by kernel_rfl, Tryz.underlying11⟩
theorem te12 : TEok Tryz.prog 12 ⟨.int .u64, 1, 8, .int .u64 0⟩ := ⟨by kernel_rfl, Tryz.underlying12⟩
theorem te13 : TEok Tryz.prog 13 ⟨.struct [(0, 1), (1, 1)], 2, 24, .agg #[.string ⟨#[]⟩, .int .u64 0]⟩ := ⟨by kernel_rfl, ⟨_, Tryz.underlying13, by kernel_rfl⟩⟩
theorem te14 : TEok Tryz.prog 14 ⟨.struct [(0, 1), (1, 1)], 2, 24, .agg #[.string ⟨#[]⟩, .int .u64 0]⟩ := ⟨by kernel_rfl, ⟨_, Tryz.underlying14, by kernel_rfl⟩⟩
theorem te15 : TEok Tryz.prog 15 ⟨.ptr, 1, 8, .pointer none⟩ := ⟨by kernel_rfl, ⟨_, Tryz.underlying15⟩⟩
theorem te16 : TEok Tryz.prog 16 ⟨.ptr, 1, 8, .pointer none⟩ := ⟨by kernel_rfl, ⟨_, Tryz.underlying16⟩⟩
theorem te17 : TEok Tryz.prog 17 ⟨.ptr, 1, 8, .pointer none⟩ := ⟨by kernel_rfl, ⟨_, Tryz.underlying17⟩⟩
theorem te18 : TEok Tryz.prog 18 ⟨.struct [(0, 1)], 1, 8, .agg #[.pointer none]⟩ := ⟨by kernel_rfl, ⟨_, Tryz.underlying18, by kernel_rfl⟩⟩
theorem te19 : TEok Tryz.prog 19 ⟨.struct [(0, 1)], 1, 8, .agg #[.pointer none]⟩ := ⟨by kernel_rfl, ⟨_, Tryz.underlying19, by kernel_rfl⟩⟩
theorem te20 : TEok Tryz.prog 20 ⟨.other, 1, 16, .nilIface⟩ := ⟨by kernel_rfl, ⟨_, Tryz.underlying20, rfl⟩⟩
theorem te21 : TEok Tryz.prog 21 ⟨.int .i32, 1, 4, .int .i32 0⟩ := ⟨by kernel_rfl, Tryz.underlying21⟩
theorem te22 : TEok Tryz.prog 22 ⟨.slice 54, 1, 24, .slice none 0 0⟩ := ⟨by kernel_rfl, Tryz.underlying22⟩
theorem te23 : TEok Tryz.prog 23 ⟨.slice 54, 1, 24, .slice none 0 0⟩ := ⟨by kernel_rfl, Tryz.underlying23⟩
theorem te24 : TEok Tryz.prog 24 ⟨.struct [(0, 1), (1, 1)], 2, 32, .agg #[.bool false, .slice none 0 0]⟩ := ⟨by kernel_rfl, ⟨_, Tryz.underlying24, by kernel_rfl⟩⟩
theorem te25 : TEok Tryz.prog 25 ⟨.struct [(0, 1), (1, 1)], 2, 32, .agg #[.bool false, .slice none 0 0]⟩ := ⟨by kernel_rfl, ⟨_, Tryz.underlying25, by kernel_rfl⟩⟩
theorem te26 : TEok Tryz.prog 26 ⟨.other, 1, 8, .nilFunc⟩ := ⟨by kernel_rfl, ⟨_, Tryz.underlying26, rfl⟩⟩
theorem te27 : TEok Tryz.prog 27 ⟨.other, 1, 8, .nilFunc⟩ := ⟨by kernel_rfl, ⟨_, Tryz.underlying27, rfl⟩⟩
theorem te28 : TEok Tryz.prog 28 ⟨.int .i64, 1, 8, .int .i64 0⟩ := ⟨by kernel_rfl, Tryz.underlying28⟩
theorem te30 : TEok Tryz.prog 30 ⟨.other, 1, 8, .nilFunc⟩ := ⟨by kernel_rfl, ⟨_, Tryz.underlying30, rfl⟩⟩
theorem te31 : TEok Tryz.prog 31 ⟨.struct [(0, 2), (2, 2), (4, 1)], 5, 72, .agg #[.bool false, .slice none 0 0, .bool false, .slice none 0 0, .int .i64 0]⟩ := ⟨by kernel_rfl, ⟨_, Tryz.underlying31, by kernel_rfl⟩⟩
theorem te32 : TEok Tryz.prog 32 ⟨.struct [(0, 2), (2, 2), (4, 1)], 5, 72, .agg #[.bool false, .slice none 0 0, .bool false, .slice none 0 0, .int .i64 0]⟩ := ⟨by kernel_rfl, ⟨_, Tryz.underlying32, by kernel_rfl⟩⟩
theorem te33 : TEok Tryz.prog 33 ⟨.other, 1, 8, .nilFunc⟩ := ⟨by kernel_rfl, ⟨_, Tryz.underlying33, rfl⟩⟩
theorem te34 : TEok Tryz.prog 34 ⟨.other, 1, 8, .nilFunc⟩ := ⟨by kernel_rfl, ⟨_, Tryz.underlying34, rfl⟩⟩
theorem te35 : TEok Tryz.prog 35 ⟨.other, 1, 8, .nilFunc⟩ := ⟨by kernel_rfl, ⟨_, Tryz.underlying35, rfl⟩⟩
theorem te37 : TEok Tryz.prog 37 ⟨.other, 1, 8, .nilFunc⟩ := ⟨by kernel_rfl, ⟨_, Tryz.underlying37, rfl⟩⟩
theorem te38 : TEok Tryz.prog 38 ⟨.struct [(0, 2), (2, 2), (4, 2), (6, 1)], 7, 104, .agg #[.bool false, .slice none 0 0, .bool false, .slice none 0 0, .bool false, .slice none 0 0, .int .i64 0]⟩ := ⟨by kernel_rfl, ⟨_, Tryz.underlying38, by kernel_rfl⟩⟩
theorem te39 : TEok Tryz.prog 39 ⟨.struct [(0, 2), (2, 2), (4, 2), (6, 1)], 7, 104, .agg #[.bool false, .slice none 0 0, .bool false, .slice none 0 0, .bool false, .slice none 0 0, .int .i64 0]⟩ := ⟨by kernel_rfl, ⟨_, Tryz.underlying39, by kernel_rfl⟩⟩
theorem te40 : TEok Tryz.prog 40 ⟨.other, 1, 8, .nilFunc⟩ := ⟨by kernel_rfl, ⟨_, Tryz.underlying40, rfl⟩⟩
theorem te42 : TEok Tryz.prog 42 ⟨.other, 1, 8, .nilFunc⟩ := ⟨by kernel_rfl, ⟨_, Tryz.underlying42, rfl⟩⟩
theorem te43 : TEok Tryz.prog 43 ⟨.other, 1, 8, .nilFunc⟩ := ⟨by kernel_rfl, ⟨_, Tryz.underlying43, rfl⟩⟩
theorem te44 : TEok Tryz.prog 44 ⟨.struct [(0, 2), (2, 1)], 3, 40, .agg #[.bool false, .slice none 0 0, .int .i64 0]⟩ := ⟨by kernel_rfl, ⟨_, Tryz.underlying44, by kernel_rfl⟩⟩
theorem te45 : TEok Tryz.prog 45 ⟨.struct [(0, 2), (2, 1)], 3, 40, .agg #[.bool false, .slice none 0 0, .int .i64 0]⟩ := ⟨by kernel_rfl, ⟨_, Tryz.underlying45, by kernel_rfl⟩⟩
theorem te46 : TEok Tryz.prog 46 ⟨.other, 1, 8, .nilFunc⟩ := ⟨by kernel_rfl, ⟨_, Tryz.underlying46, rfl⟩⟩
theorem te47 : TEok Tryz.prog 47 ⟨.other, 1, 8, .nilFunc⟩ := ⟨by kernel_rfl, ⟨_, Tryz.underlying47, rfl⟩⟩
theorem te48 : TEok Tryz.prog 48 ⟨.other, 1, 8, .nilFunc⟩ := ⟨by kernel_rfl, ⟨_, Tryz.underlying48, rfl⟩⟩
theorem te49 : TEok Tryz.prog 49 ⟨.other, 1, 8, .nilFunc⟩ := ⟨by kernel_rfl, ⟨_, Tryz.underlying49, rfl⟩⟩
theorem te50 : TEok Tryz.prog 50 ⟨.slice 25, 1, 24, .slice none 0 0⟩ := ⟨by kernel_rfl, Tryz.underlying50⟩
theorem te51 : TEok Tryz.prog 51 ⟨.other, 1, 8, .nilFunc⟩ := ⟨by kernel_rfl, ⟨_, Tryz.underlying51, rfl⟩⟩
theorem te52 : TEok Tryz.prog 52 ⟨.other, 1, 8, .nilFunc⟩ := ⟨by kernel_rfl, ⟨_, Tryz.underlying52, rfl⟩⟩
theorem te53 : TEok Tryz.prog 53 ⟨.other, 1, 8, .nilFunc⟩ := ⟨by kernel_rfl, ⟨_, Tryz.underlying53, rfl⟩⟩
theorem te54 : TEok Tryz.prog 54 ⟨.int .u32, 1, 4, .int .u32 0⟩ := ⟨by kernel_rfl, Tryz.underlying54⟩
theorem te55 : TEok Tryz.prog 55 ⟨.other, 1, 8, .nilFunc⟩ := ⟨by kernel_rfl, ⟨_, Tryz.underlying55, rfl⟩⟩
theorem te57 : TEok Tryz.prog 57 ⟨.other, 1, 8, .nilFunc⟩ := ⟨by kernel_rfl, ⟨_, Tryz.underlying57, rfl⟩⟩
theorem te58 : TEok Tryz.prog 58 ⟨.other, 1, 8, .nilFunc⟩ := ⟨by kernel_rfl, ⟨_, Tryz.underlying58, rfl⟩⟩
theorem te59 : TEok Tryz.prog 59 ⟨.other, 1, 8, .nilFunc⟩ := ⟨by kernel_rfl, ⟨_, Tryz.underlying59, rfl⟩⟩
theorem te60 : TEok Tryz.prog 60 ⟨.other, 1, 8, .nilFunc⟩ := ⟨by kernel_rfl, ⟨_, Tryz.underlying60, rfl⟩⟩
theorem te61 : TEok Tryz.prog 61 ⟨.other, 1, 8, .nilFunc⟩ := ⟨by kernel_rfl, ⟨_, Tryz.underlying61, rfl⟩⟩
theorem te62 : TEok Tryz.prog 62 ⟨.other, 1, 8, .nilFunc⟩ := ⟨by kernel_rfl, ⟨_, Tryz.underlying62, rfl⟩⟩
theorem te64 : TEok Tryz.prog 64 ⟨.other, 1, 8, .nilFunc⟩ := ⟨by kernel_rfl, ⟨_, Tryz.underlying64, rfl⟩⟩
theorem te66 : TEok Tryz.prog 66 ⟨.other, 1, 8, .nilFunc⟩ := ⟨by kernel_rfl, ⟨_, Tryz.underlying66, rfl⟩⟩
theorem te67 : TEok Tryz.prog 67 ⟨.struct [(0, 2), (2, 1), (3, 1)], 4, 48, .agg #[.bool false, .slice none 0 0, .int .i64 0, .int .i64 0]⟩ := ⟨by kernel_rfl, ⟨_, Tryz.underlying67, by kernel_rfl⟩⟩
theorem te68 : TEok Tryz.prog 68 ⟨.struct [(0, 2), (2, 1), (3, 1)], 4, 48, .agg #[.bool false, .slice none 0 0, .int .i64 0, .int .i64 0]⟩ := ⟨by kernel_rfl, ⟨_, Tryz.underlying68, by kernel_rfl⟩⟩
theorem te69 : TEok Tryz.prog 69 ⟨.other, 1, 8, .nilFunc⟩ := ⟨by kernel_rfl, ⟨_, Tryz.underlying69, rfl⟩⟩
theorem te70 : TEok Tryz.prog 70 ⟨.other, 1, 8, .nilFunc⟩ := ⟨by kernel_rfl, ⟨_, Tryz.underlying70, rfl⟩⟩
theorem te71 : TEok Tryz.prog 71 ⟨.other, 1, 8, .nilFunc⟩ := ⟨by kernel_rfl, ⟨_, Tryz.underlying71, rfl⟩⟩
theorem te72 : TEok Tryz.prog 72 ⟨.other, 1, 8, .nilFunc⟩ := ⟨by kernel_rfl, ⟨_, Tryz.underlying72, rfl⟩⟩
theorem te73 : TEok Tryz.prog 73 ⟨.other, 1, 8, .nilFunc⟩ := ⟨by kernel_rfl, ⟨_, Tryz.underlying73, rfl⟩⟩
theorem te74 : TEok Tryz.prog 74 ⟨.other, 1, 8, .nilFunc⟩ := ⟨by kernel_rfl, ⟨_, Tryz.underlying74, rfl⟩⟩
theorem te75 : TEok Tryz.prog 75 ⟨.other, 1, 8, .nilFunc⟩ := ⟨by kernel_rfl, ⟨_, Tryz.underlying75, rfl⟩⟩
theorem te76 : TEok Tryz.prog 76 ⟨.other, 1, 8, .nilFunc⟩ := ⟨by kernel_rfl, ⟨_, Tryz.underlying76, rfl⟩⟩
theorem te77 : TEok Tryz.prog 77 ⟨.slice 3, 1, 24, .slice none 0 0⟩ := ⟨by kernel_rfl, Tryz.underlying77⟩
theorem te78 : TEok Tryz.prog 78 ⟨.other, 1, 8, .nilFunc⟩ := ⟨by kernel_rfl, ⟨_, Tryz.underlying78, rfl⟩⟩
theorem te79 : TEok Tryz.prog 79 ⟨.other, 1, 8, .nilFunc⟩ := ⟨by kernel_rfl, ⟨_, Tryz.underlying79, rfl⟩⟩
theorem te80 : TEok Tryz.prog 80 ⟨.other, 1, 8, .nilFunc⟩ := ⟨by kernel_rfl, ⟨_, Tryz.underlying80, rfl⟩⟩
theorem te81 : TEok Tryz.prog 81 ⟨.other, 1, 8, .nilFunc⟩ := ⟨by kernel_rfl, ⟨_, Tryz.underlying81, rfl⟩⟩
theorem te82 : TEok Tryz.prog 82 ⟨.other, 1, 8, .nilFunc⟩ := ⟨by kernel_rfl, ⟨_, Tryz.underlying82, rfl⟩⟩
theorem te84 : TEok Tryz.prog 84 ⟨.other, 1, 8, .nilFunc⟩ := ⟨by kernel_rfl, ⟨_, Tryz.underlying84, rfl⟩⟩
theorem te85 : TEok Tryz.prog 85 ⟨.other, 1, 8, .nilFunc⟩ := ⟨by kernel_rfl, ⟨_, Tryz.underlying85, rfl⟩⟩
theorem te86 : TEok Tryz.prog 86 ⟨.struct [(0, 1), (1, 1), (2, 1), (3, 1)], 4, 48, .agg #[.slice none 0 0, .int .i64 0, .bool false, .int .i64 0]⟩ := ⟨by kernel_rfl, ⟨_, Tryz.underlying86, by kernel_rfl⟩⟩
theorem te87 : TEok Tryz.prog 87 ⟨.struct [(0, 1), (1, 1), (2, 1), (3, 1)], 4, 48, .agg #[.slice none 0 0, .int .i64 0, .bool false, .int .i64 0]⟩ := ⟨by kernel_rfl, ⟨_, Tryz.underlying87, by kernel_rfl⟩⟩
theorem te89 : TEok Tryz.prog 89 ⟨.other, 1, 8, .nilFunc⟩ := ⟨by kernel_rfl, ⟨_, Tryz.underlying89, rfl⟩⟩
theorem te90 : TEok Tryz.prog 90 ⟨.struct [(0, 4), (4, 1), (5, 1)], 6, 64, .agg #[.slice none 0 0, .int .i64 0, .bool false, .int .i64 0, .int .i64 0, .int .i64 0]⟩ := ⟨by kernel_rfl, ⟨_, Tryz.underlying90, by kernel_rfl⟩⟩
theorem te91 : TEok Tryz.prog 91 ⟨.struct [(0, 4), (4, 1), (5, 1)], 6, 64, .agg #[.slice none 0 0, .int .i64 0, .bool false, .int .i64 0, .int .i64 0, .int .i64 0]⟩ := ⟨by kernel_rfl, ⟨_, Tryz.underlying91, by kernel_rfl⟩⟩
theorem te92 : TEok Tryz.prog 92 ⟨.other, 1, 8, .nilFunc⟩ := ⟨by kernel_rfl, ⟨_, Tryz.underlying92, rfl⟩⟩
theorem te93 : TEok Tryz.prog 93 ⟨.other, 1, 8, .nilFunc⟩ := ⟨by kernel_rfl, ⟨_, Tryz.underlying93, rfl⟩⟩
theorem te94 : TEok Tryz.prog 94 ⟨.struct [(0, 1), (1, 1)], 2, 16, .agg #[.int .i64 0, .bool false]⟩ := ⟨by kernel_rfl, ⟨_, Tryz.underlying94, by kernel_rfl⟩⟩
theorem te95 : TEok Tryz.prog 95 ⟨.struct [(0, 1), (1, 1)], 2, 16, .agg #[.int .i64 0, .bool false]⟩ := ⟨by kernel_rfl, ⟨_, Tryz.underlying95, by kernel_rfl⟩⟩
theorem te97 : TEok Tryz.prog 97 ⟨.other, 1, 8, .nilFunc⟩ := ⟨by kernel_rfl, ⟨_, Tryz.underlying97, rfl⟩⟩
theorem te98 : TEok Tryz.prog 98 ⟨.other, 1, 8, .nilFunc⟩ := ⟨by kernel_rfl, ⟨_, Tryz.underlying98, rfl⟩⟩
theorem te99 : TEok Tryz.prog 99 ⟨.other, 1, 8, .nilFunc⟩ := ⟨by kernel_rfl, ⟨_, Tryz.underlying99, rfl⟩⟩
theorem te100 : TEok Tryz.prog 100 ⟨.other, 1, 8, .nilFunc⟩ := ⟨by kernel_rfl, ⟨_, Tryz.underlying100, rfl⟩⟩
theorem te101 : TEok Tryz.prog 101 ⟨.ptr, 1, 8, .pointer none⟩ := ⟨by kernel_rfl, ⟨_, Tryz.underlying101⟩⟩
theorem te102 : TEok Tryz.prog 102 ⟨.other, 1, 8, .nilFunc⟩ := ⟨by kernel_rfl, ⟨_, Tryz.underlying102, rfl⟩⟩
theorem te103 : TEok Tryz.prog 103 ⟨.other, 1, 8, .nilFunc⟩ := ⟨by kernel_rfl, ⟨_, Tryz.underlying103, rfl⟩⟩
theorem te104 : TEok Tryz.prog 104 ⟨.struct [(0, 1)], 1, 8, .agg #[.nilFunc]⟩ := ⟨by kernel_rfl, ⟨_, Tryz.underlying104, by kernel_rfl⟩⟩
theorem te105 : TEok Tryz.prog 105 ⟨.struct [(0, 1)], 1, 8, .agg #[.nilFunc]⟩ := ⟨by kernel_rfl, ⟨_, Tryz.underlying105, by kernel_rfl⟩⟩
theorem te107 : TEok Tryz.prog 107 ⟨.other, 1, 8, .map none⟩ := ⟨by kernel_rfl, ⟨_, Tryz.underlying107, rfl⟩⟩
theorem te108 : TEok Tryz.prog 108 ⟨.other, 1, 8, .nilFunc⟩ := ⟨by kernel_rfl, ⟨_, Tryz.underlying108, rfl⟩⟩
theorem te109 : TEok Tryz.prog 109 ⟨.other, 1, 8, .nilFunc⟩ := ⟨by kernel_rfl, ⟨_, Tryz.underlying109, rfl⟩⟩
theorem te111 : TEok Tryz.prog 111 ⟨.other, 1, 8, .nilFunc⟩ := ⟨by kernel_rfl, ⟨_, Tryz.underlying111, rfl⟩⟩
theorem te112 : TEok Tryz.prog 112 ⟨.other, 1, 8, .nilFunc⟩ := ⟨by kernel_rfl, ⟨_, Tryz.underlying112, rfl⟩⟩
theorem te113 : TEok Tryz.prog 113 ⟨.other, 1, 8, .nilFunc⟩ := ⟨by kernel_rfl, ⟨_, Tryz.underlying113, rfl⟩⟩
theorem te114 : TEok Tryz.prog 114 ⟨.other, 1, 8, .nilFunc⟩ := ⟨by kernel_rfl, ⟨_, Tryz.underlying114, rfl⟩⟩
theorem te115 : TEok Tryz.prog 115 ⟨.other, 1, 8, .nilFunc⟩ := ⟨by kernel_rfl, ⟨_, Tryz.underlying115, rfl⟩⟩
theorem te116 : TEok Tryz.prog 116 ⟨.other, 1, 8, .nilFunc⟩ := ⟨by kernel_rfl, ⟨_, Tryz.underlying116, rfl⟩⟩
theorem te117 : TEok Tryz.prog 117 ⟨.other, 1, 8, .nilFunc⟩ := ⟨by kernel_rfl, ⟨_, Tryz.underlying117, rfl⟩⟩
theorem te118 : TEok Tryz.prog 118 ⟨.other, 1, 8, .nilFunc⟩ := ⟨by kernel_rfl, ⟨_, Tryz.underlying118, rfl⟩⟩
theorem te119 : TEok Tryz.prog 119 ⟨.other, 1, 8, .nilFunc⟩ := ⟨by kernel_rfl, ⟨_, Tryz.underlying119, rfl⟩⟩
theorem te120 : TEok Tryz.prog 120 ⟨.int .u64, 1, 8, .int .u64 0⟩ := ⟨by kernel_rfl, Tryz.underlying120⟩
theorem te122 : TEok Tryz.prog 122 ⟨.other, 1, 8, .nilFunc⟩ := ⟨by kernel_rfl, ⟨_, Tryz.underlying122, rfl⟩⟩
theorem te123 : TEok Tryz.prog 123 ⟨.other, 1, 8, .nilFunc⟩ := ⟨by kernel_rfl, ⟨_, Tryz.underlying123, rfl⟩⟩
theorem te124 : TEok Tryz.prog 124 ⟨.int .u64, 1, 8, .int .u64 0⟩ := ⟨by kernel_rfl, Tryz.underlying124⟩
theorem te125 : TEok Tryz.prog 125 ⟨.other, 1, 8, .nilFunc⟩ := ⟨by kernel_rfl, ⟨_, Tryz.underlying125, rfl⟩⟩
theorem te126 : TEok Tryz.prog 126 ⟨.other, 1, 8, .nilFunc⟩ := ⟨by kernel_rfl, ⟨_, Tryz.underlying126, rfl⟩⟩
theorem te128 : TEok Tryz.prog 128 ⟨.other, 1, 8, .nilFunc⟩ := ⟨by kernel_rfl, ⟨_, Tryz.underlying128, rfl⟩⟩
theorem te129 : TEok Tryz.prog 129 ⟨.other, 1, 8, .nilFunc⟩ := ⟨by kernel_rfl, ⟨_, Tryz.underlying129, rfl⟩⟩
theorem te130 : TEok Tryz.prog 130 ⟨.other, 1, 8, .nilFunc⟩ := ⟨by kernel_rfl, ⟨_, Tryz.underlying130, rfl⟩⟩
theorem te131 : TEok Tryz.prog 131 ⟨.other, 1, 8, .nilFunc⟩ := ⟨by kernel_rfl, ⟨_, Tryz.underlying131, rfl⟩⟩
theorem te132 : TEok Tryz.prog 132 ⟨.other, 1, 8, .nilFunc⟩ := ⟨by kernel_rfl, ⟨_, Tryz.underlying132, rfl⟩⟩
theorem te133 : TEok Tryz.prog 133 ⟨.other, 1, 8, .nilFunc⟩ := ⟨by kernel_rfl, ⟨_, Tryz.underlying133, rfl⟩⟩
theorem te134 : TEok Tryz.prog 134 ⟨.other, 1, 8, .nilFunc⟩ := ⟨by kernel_rfl, ⟨_, Tryz.underlying134, rfl⟩⟩
theorem te135 : TEok Tryz.prog 135 ⟨.ptr, 1, 8, .pointer none⟩ := ⟨by kernel_rfl, ⟨_, Tryz.underlying135⟩⟩
theorem te136 : TEok Tryz.prog 136 ⟨.ptr, 1, 8, .pointer none⟩ := ⟨by kernel_rfl, ⟨_, Tryz.underlying136⟩⟩
theorem te137 : TEok Tryz.prog 137 ⟨.struct [(0, 1), (1, 1)], 2, 24, .agg #[.string ⟨#[]⟩, .int .i64 0]⟩ := ⟨by kernel_rfl, ⟨_, Tryz.underlying137, by kernel_rfl⟩⟩
theorem te138 : TEok Tryz.prog 138 ⟨.struct [(0, 1), (1, 1)], 2, 24, .agg #[.string ⟨#[]⟩, .int .i64 0]⟩ := ⟨by kernel_rfl, ⟨_, Tryz.underlying138, by kernel_rfl⟩⟩
theorem te139 : TEok Tryz.prog 139 ⟨.other, 1, 8, .nilFunc⟩ := ⟨by kernel_rfl, ⟨_, Tryz.underlying139, rfl⟩⟩
theorem te140 : TEok Tryz.prog 140 ⟨.other, 1, 8, .nilFunc⟩ := ⟨by kernel_rfl, ⟨_, Tryz.underlying140, rfl⟩⟩
theorem te141 : TEok Tryz.prog 141 ⟨.other, 1, 8, .nilFunc⟩ := ⟨by kernel_rfl, ⟨_, Tryz.underlying141, rfl⟩⟩
theorem te142 : TEok Tryz.prog 142 ⟨.other, 1, 8, .nilFunc⟩ := ⟨by kernel_rfl, ⟨_, Tryz.underlying142, rfl⟩⟩
theorem te143 : TEok Tryz.prog 143 ⟨.other, 1, 8, .nilFunc⟩ := ⟨by kernel_rfl, ⟨_, Tryz.underlying143, rfl⟩⟩
theorem te144 : TEok Tryz.prog 144 ⟨.other, 1, 8, .nilFunc⟩ := ⟨by kernel_rfl, ⟨_, Tryz.underlying144, rfl⟩⟩
theorem te145 : TEok Tryz.prog 145 ⟨.other, 1, 8, .nilFunc⟩ := ⟨by kernel_rfl, ⟨_, Tryz.underlying145, rfl⟩⟩
theorem te147 : TEok Tryz.prog 147 ⟨.other, 1, 8, .nilFunc⟩ := ⟨by kernel_rfl, ⟨_, Tryz.underlying147, rfl⟩⟩
theorem te148 : TEok Tryz.prog 148 ⟨.other, 1, 8, .nilFunc⟩ := ⟨by kernel_rfl, ⟨_, Tryz.underlying148, rfl⟩⟩
theorem te149 : TEok Tryz.prog 149 ⟨.struct [(0, 1), (1, 1)], 2, 32, .agg #[.slice none 0 0, .int .u32 0]⟩ := ⟨by kernel_rfl, ⟨_, Tryz.underlying149, by kernel_rfl⟩⟩
theorem te150 : TEok Tryz.prog 150 ⟨.struct [(0, 1), (1, 1)], 2, 32, .agg #[.slice none 0 0, .int .u32 0]⟩ := ⟨by kernel_rfl, ⟨_, Tryz.underlying150, by kernel_rfl⟩⟩
theorem te151 : TEok Tryz.prog 151 ⟨.other, 1, 8, .nilFunc⟩ := ⟨by kernel_rfl, ⟨_, Tryz.underlying151, rfl⟩⟩
theorem te153 : TEok Tryz.prog 153 ⟨.other, 1, 8, .map none⟩ := ⟨by kernel_rfl, ⟨_, Tryz.underlying153, rfl⟩⟩
theorem te154 : TEok Tryz.prog 154 ⟨.other, 1, 8, .nilFunc⟩ := ⟨by kernel_rfl, ⟨_, Tryz.underlying154, rfl⟩⟩
theorem te155 : TEok Tryz.prog 155 ⟨.other, 1, 8, .nilFunc⟩ := ⟨by kernel_rfl, ⟨_, Tryz.underlying155, rfl⟩⟩
theorem te156 : TEok Tryz.prog 156 ⟨.other, 1, 8, .nilFunc⟩ := ⟨by kernel_rfl, ⟨_, Tryz.underlying156, rfl⟩⟩
theorem te157 : TEok Tryz.prog 157 ⟨.other, 1, 8, .nilFunc⟩ := ⟨by kernel_rfl, ⟨_, Tryz.underlying157, rfl⟩⟩
theorem te158 : TEok Tryz.prog 158 ⟨.other, 1, 8, .nilFunc⟩ := ⟨by kernel_rfl, ⟨_, Tryz.underlying158, rfl⟩⟩
theorem te159 : TEok Tryz.prog 159 ⟨.other, 1, 8, .nilFunc⟩ := ⟨by kernel_rfl, ⟨_, Tryz.underlying159, rfl⟩⟩
theorem te160 : TEok Tryz.prog 160 ⟨.other, 1, 8, .nilFunc⟩ := ⟨by kernel_rfl, ⟨_, Tryz.underlying160, rfl⟩⟩
theorem te168 : TEok Tryz.prog 168 ⟨.other, 1, 8, .nilFunc⟩ := ⟨by kernel_rfl, ⟨_, Tryz.underlying168, rfl⟩⟩
theorem te169 : TEok Tryz.prog 169 ⟨.struct [(0, 2), (2, 1)], 3, 24, .agg #[.int .i64 0, .bool false, .int .i64 0]⟩ := ⟨by kernel_rfl, ⟨_, Tryz.underlying169, by kernel_rfl⟩⟩
theorem te170 : TEok Tryz.prog 170 ⟨.array 6 169, 18, 144, .agg #[.int .i64 0, .bool false, .int .i64 0, .int .i64 0, .bool false, .int .i64 0, .int .i64 0, .bool false, .int .i64 0, .int .i64 0, .bool false, .int .i64 0, .int .i64 0, .bool false, .int .i64 0, .int .i64 0, .bool false, .int .i64 0]⟩ := ⟨by kernel_rfl, Tryz.underlying170⟩
theorem te172 : TEok Tryz.prog 172 ⟨.struct [(0, 1)], 1, 8, .agg #[.int .i64 0]⟩ := ⟨by kernel_rfl, ⟨_, Tryz.underlying172, by kernel_rfl⟩⟩
theorem te176 : TEok Tryz.prog 176 ⟨.other, 1, 8, .nilFunc⟩ := ⟨by kernel_rfl, ⟨_, Tryz.underlying176, rfl⟩⟩
theorem te183 : TEok Tryz.prog 183 ⟨.slice 54, 1, 24, .slice none 0 0⟩ := ⟨by kernel_rfl, Tryz.underlying183⟩
theorem te189 : TEok Tryz.prog 189 ⟨.other, 1, 8, .nilFunc⟩ := ⟨by kernel_rfl, ⟨_, Tryz.underlying189, rfl⟩⟩
theorem te193 : TEok Tryz.prog 193 ⟨.other, 1, 8, .nilFunc⟩ := ⟨by kernel_rfl, ⟨_, Tryz.underlying193, rfl⟩⟩
theorem te194 : TEok Tryz.prog 194 ⟨.other, 1, 8, .nilFunc⟩ := ⟨by kernel_rfl, ⟨_, Tryz.underlying194, rfl⟩⟩
theorem te196 : TEok Tryz.prog 196 ⟨.struct [(0, 1), (1, 1)], 2, 16, .agg #[.nilFunc, .nilFunc]⟩ := ⟨by kernel_rfl, ⟨_, Tryz.underlying196, by kernel_rfl⟩⟩
theorem te197 : TEok Tryz.prog 197 ⟨.slice 5, 1, 24, .slice none 0 0⟩ := ⟨by kernel_rfl, Tryz.underlying197⟩
theorem te198 : TEok Tryz.prog 198 ⟨.other, 1, 8, .nilFunc⟩ := ⟨by kernel_rfl, ⟨_, Tryz.underlying198, rfl⟩⟩
theorem te199 : TEok Tryz.prog 199 ⟨.other, 1, 8, .nilFunc⟩ := ⟨by kernel_rfl, ⟨_, Tryz.underlying199, rfl⟩⟩
theorem te200 : TEok Tryz.prog 200 ⟨.other, 1, 8, .nilFunc⟩ := ⟨by kernel_rfl, ⟨_, Tryz.underlying200, rfl⟩⟩
theorem te202 : TEok Tryz.prog 202 ⟨.ptr, 1, 8, .pointer none⟩ := ⟨by kernel_rfl, ⟨_, Tryz.underlying202⟩⟩
theorem te204 : TEok Tryz.prog 204 ⟨.struct [(0, 1), (1, 1)], 2, 32, .agg #[.pointer none, .slice none 0 0]⟩ := ⟨by kernel_rfl, ⟨_, Tryz.underlying204, by kernel_rfl⟩⟩
theorem te207 : TEok Tryz.prog 207 ⟨.other, 1, 16, .nilIface⟩ := ⟨by kernel_rfl, ⟨_, Tryz.underlying207, rfl⟩⟩
theorem te213 : TEok Tryz.prog 213 ⟨.other, 1, 8, .nilFunc⟩ := ⟨by kernel_rfl, ⟨_, Tryz.underlying213, rfl⟩⟩
theorem te217 : TEok Tryz.prog 217 ⟨.other, 1, 8, .nilFunc⟩ := ⟨by kernel_rfl, ⟨_, Tryz.underlying217, rfl⟩⟩
theorem te224 : TEok Tryz.prog 224 ⟨.other, 1, 8, .nilFunc⟩ := ⟨by kernel_rfl, ⟨_, Tryz.underlying224, rfl⟩⟩
theorem te230 : TEok Tryz.prog 230 ⟨.struct [(0, 1)], 1, 8, .agg #[.int .i64 0]⟩ := ⟨by kernel_rfl, ⟨_, Tryz.underlying230, by kernel_rfl⟩⟩
theorem te232 : TEok Tryz.prog 232 ⟨.slice 23, 1, 24, .slice none 0 0⟩ := ⟨by kernel_rfl, Tryz.underlying232⟩
theorem te234 : TEok Tryz.prog 234 ⟨.other, 1, 8, .nilFunc⟩ := ⟨by kernel_rfl, ⟨_, Tryz.underlying234, rfl⟩⟩
theorem te235 : TEok Tryz.prog 235 ⟨.other, 1, 8, .nilFunc⟩ := ⟨by kernel_rfl, ⟨_, Tryz.underlying235, rfl⟩⟩
theorem te237 : TEok Tryz.prog 237 ⟨.other, 1, 8, .nilFunc⟩ := ⟨by kernel_rfl, ⟨_, Tryz.underlying237, rfl⟩⟩
theorem te241 : TEok Tryz.prog 241 ⟨.other, 1, 8, .nilFunc⟩ := ⟨by kernel_rfl, ⟨_, Tryz.underlying241, rfl⟩⟩
theorem te249 : TEok Tryz.prog 249 ⟨.other, 1, 8, .nilFunc⟩ := ⟨by kernel_rfl, ⟨_, Tryz.underlying249, rfl⟩⟩
theorem te250 : TEok Tryz.prog 250 ⟨.other, 1, 8, .nilFunc⟩ := ⟨by kernel_rfl, ⟨_, Tryz.underlying250, rfl⟩⟩
theorem te254 : TEok Tryz.prog 254 ⟨.other, 1, 8, .nilFunc⟩ := ⟨by kernel_rfl, ⟨_, Tryz.underlying254, rfl⟩⟩
theorem te270 : TEok Tryz.prog 270 ⟨.array 3 21, 3, 12, .agg #[.int .i32 0, .int .i32 0, .int .i32 0]⟩ := ⟨by kernel_rfl, Tryz.underlying270⟩
theorem te271 : TEok Tryz.prog 271 ⟨.struct [(0, 1), (1, 1), (2, 3)], 5, 20, .agg #[.int .u32 0, .int .u32 0, .int .i32 0, .int .i32 0, .int .i32 0]⟩ := ⟨by kernel_rfl, ⟨_, Tryz.underlying271, by kernel_rfl⟩⟩
abbrev t_int : TypeId := 3
abbrev t_uint8 : TypeId := 5
abbrev t_api_Nat : TypeId := 23
abbrev t_api_Int : TypeId := 25
abbrev t_api_Errno : TypeId := 28
abbrev t_uint32 : TypeId := 54
abbrev t_whole_kind : TypeId := 105
abbrev t_whole_failure : TypeId := 172
abbrev t_nat_limbs : TypeId := 183
abbrev t_S_uint8 : TypeId := 197
abbrev t_nat_failure : TypeId := 230
noncomputable def tys : Tr := (.node 97 (.node 47 (.node 22 (.node 11 (.node 5 (.node 2 (.node 1 (.leaf 1 ⟨.other, 1, 8, .nilFunc⟩) (.leaf 2 ⟨.int .i64, 1, 8, .int .i64 0⟩)) (.node 3 (.leaf 3 ⟨.int .i64, 1, 8, .int .i64 0⟩) (.node 4 (.leaf 4 ⟨.bool, 1, 1, .bool false⟩) (.leaf 5 ⟨.int .u8, 1, 1, .int .u8 0⟩)))) (.node 8 (.node 6 (.leaf 6 ⟨.int .u8, 1, 1, .int .u8 0⟩) (.node 7 (.leaf 7 ⟨.struct [(0, 1), (1, 1), (2, 1), (3, 1)], 4, 24, .agg #[.int .i64 0, .int .i64 0, .bool false, .int .u8 0]⟩) (.leaf 8 ⟨.struct [(0, 1), (1, 1), (2, 1), (3, 1)], 4, 24, .agg #[.int .i64 0, .int .i64 0, .bool false, .int .u8 0]⟩))) (.node 9 (.leaf 9 ⟨.str, 1, 16, .string ⟨#[]⟩⟩) (.node 10 (.leaf 10 ⟨.str, 1, 16, .string ⟨#[]⟩⟩) (.leaf 11 ⟨.str, 1, 16, .string ⟨#[]⟩⟩))))) (.node 16 (.node 13 (.node 12 (.leaf 12 ⟨.int .u64, 1, 8, .int .u64 0⟩) (.leaf 13 ⟨.struct [(0, 1), (1, 1)], 2, 24, .agg #[.string ⟨#[]⟩, .int .u64 0]⟩)) (.node 14 (.leaf 14 ⟨.struct [(0, 1), (1, 1)], 2, 24, .agg #[.string ⟨#[]⟩, .int .u64 0]⟩) (.node 15 (.leaf 15 ⟨.ptr, 1, 8, .pointer none⟩) (.leaf 16 ⟨.ptr, 1, 8, .pointer none⟩)))) (.node 19 (.node 17 (.leaf 17 ⟨.ptr, 1, 8, .pointer none⟩) (.node 18 (.leaf 18 ⟨.struct [(0, 1)], 1, 8, .agg #[.pointer none]⟩) (.leaf 19 ⟨.struct [(0, 1)], 1, 8, .agg #[.pointer none]⟩))) (.node 20 (.leaf 20 ⟨.other, 1, 16, .nilIface⟩) (.node 21 (.leaf 21 ⟨.int .i32, 1, 4, .int .i32 0⟩) (.leaf 22 ⟨.slice 54, 1, 24, .slice none 0 0⟩)))))) (.node 34 (.node 27 (.node 24 (.node 23 (.leaf 23 ⟨.slice 54, 1, 24, .slice none 0 0⟩) (.leaf 24 ⟨.struct [(0, 1), (1, 1)], 2, 32, .agg #[.bool false, .slice none 0 0]⟩)) (.node 25 (.leaf 25 ⟨.struct [(0, 1), (1, 1)], 2, 32, .agg #[.bool false, .slice none 0 0]⟩) (.node 26 (.leaf 26 ⟨.other, 1, 8, .nilFunc⟩) (.leaf 27 ⟨.other, 1, 8, .nilFunc⟩)))) (.node 31 (.node 28 (.leaf 28 ⟨.int .i64, 1, 8, .int .i64 0⟩) (.node 30 (.leaf 30 ⟨.other, 1, 8, .nilFunc⟩) (.leaf 31 ⟨.struct [(0, 2), (2, 2), (4, 1)], 5, 72, .agg #[.bool false, .slice none 0 0, .bool false, .slice none 0 0, .int .i64 0]⟩))) (.node 32 (.leaf 32 ⟨.struct [(0, 2), (2, 2), (4, 1)], 5, 72, .agg #[.bool false, .slice none 0 0, .bool false, .slice none 0 0, .int .i64 0]⟩) (.node 33 (.leaf 33 ⟨.other, 1, 8, .nilFunc⟩) (.leaf 34 ⟨.other, 1, 8, .nilFunc⟩))))) (.node 40 (.node 37 (.node 35 (.leaf 35 ⟨.other, 1, 8, .nilFunc⟩) (.leaf 37 ⟨.other, 1, 8, .nilFunc⟩)) (.node 38 (.leaf 38 ⟨.struct [(0, 2), (2, 2), (4, 2), (6, 1)], 7, 104, .agg #[.bool false, .slice none 0 0, .bool false, .slice none 0 0, .bool false, .slice none 0 0, .int .i64 0]⟩) (.node 39 (.leaf 39 ⟨.struct [(0, 2), (2, 2), (4, 2), (6, 1)], 7, 104, .agg #[.bool false, .slice none 0 0, .bool false, .slice none 0 0, .bool false, .slice none 0 0, .int .i64 0]⟩) (.leaf 40 ⟨.other, 1, 8, .nilFunc⟩)))) (.node 44 (.node 42 (.leaf 42 ⟨.other, 1, 8, .nilFunc⟩) (.node 43 (.leaf 43 ⟨.other, 1, 8, .nilFunc⟩) (.leaf 44 ⟨.struct [(0, 2), (2, 1)], 3, 40, .agg #[.bool false, .slice none 0 0, .int .i64 0]⟩))) (.node 45 (.leaf 45 ⟨.struct [(0, 2), (2, 1)], 3, 40, .agg #[.bool false, .slice none 0 0, .int .i64 0]⟩) (.node 46 (.leaf 46 ⟨.other, 1, 8, .nilFunc⟩) (.leaf 47 ⟨.other, 1, 8, .nilFunc⟩))))))) (.node 72 (.node 59 (.node 52 (.node 49 (.node 48 (.leaf 48 ⟨.other, 1, 8, .nilFunc⟩) (.leaf 49 ⟨.other, 1, 8, .nilFunc⟩)) (.node 50 (.leaf 50 ⟨.slice 25, 1, 24, .slice none 0 0⟩) (.node 51 (.leaf 51 ⟨.other, 1, 8, .nilFunc⟩) (.leaf 52 ⟨.other, 1, 8, .nilFunc⟩)))) (.node 55 (.node 53 (.leaf 53 ⟨.other, 1, 8, .nilFunc⟩) (.node 54 (.leaf 54 ⟨.int .u32, 1, 4, .int .u32 0⟩) (.leaf 55 ⟨.other, 1, 8, .nilFunc⟩))) (.node 57 (.leaf 57 ⟨.other, 1, 8, .nilFunc⟩) (.node 58 (.leaf 58 ⟨.other, 1, 8, .nilFunc⟩) (.leaf 59 ⟨.other, 1, 8, .nilFunc⟩))))) (.node 66 (.node 61 (.node 60 (.leaf 60 ⟨.other, 1, 8, .nilFunc⟩) (.leaf 61 ⟨.other, 1, 8, .nilFunc⟩)) (.node 62 (.leaf 62 ⟨.other, 1, 8, .nilFunc⟩) (.node 64 (.leaf 64 ⟨.other, 1, 8, .nilFunc⟩) (.leaf 66 ⟨.other, 1, 8, .nilFunc⟩)))) (.node 69 (.node 67 (.leaf 67 ⟨.struct [(0, 2), (2, 1), (3, 1)], 4, 48, .agg #[.bool false, .slice none 0 0, .int .i64 0, .int .i64 0]⟩) (.node 68 (.leaf 68 ⟨.struct [(0, 2), (2, 1), (3, 1)], 4, 48, .agg #[.bool false, .slice none 0 0, .int .i64 0, .int .i64 0]⟩) (.leaf 69 ⟨.other, 1, 8, .nilFunc⟩))) (.node 70 (.leaf 70 ⟨.other, 1, 8, .nilFunc⟩) (.node 71 (.leaf 71 ⟨.other, 1, 8, .nilFunc⟩) (.leaf 72 ⟨.other, 1, 8, .nilFunc⟩)))))) (.node 84 (.node 77 (.node 74 (.node 73 (.leaf 73 ⟨.other, 1, 8, .nilFunc⟩) (.leaf 74 ⟨.other, 1, 8, .nilFunc⟩)) (.node 75 (.leaf 75 ⟨.other, 1, 8, .nilFunc⟩) (.node 76 (.leaf 76 ⟨.other, 1, 8, .nilFunc⟩) (.leaf 77 ⟨.slice 3, 1, 24, .slice none 0 0⟩)))) (.node 80 (.node 78 (.leaf 78 ⟨.other, 1, 8, .nilFunc⟩) (.node 79 (.leaf 79 ⟨.other, 1, 8, .nilFunc⟩) (.leaf 80 ⟨.other, 1, 8, .nilFunc⟩))) (.node 81 (.leaf 81 ⟨.other, 1, 8, .nilFunc⟩) (.node 82 (.leaf 82 ⟨.other, 1, 8, .nilFunc⟩) (.leaf 84 ⟨.other, 1, 8, .nilFunc⟩))))) (.node 90 (.node 86 (.node 85 (.leaf 85 ⟨.other, 1, 8, .nilFunc⟩) (.leaf 86 ⟨.struct [(0, 1), (1, 1), (2, 1), (3, 1)], 4, 48, .agg #[.slice none 0 0, .int .i64 0, .bool false, .int .i64 0]⟩)) (.node 87 (.leaf 87 ⟨.struct [(0, 1), (1, 1), (2, 1), (3, 1)], 4, 48, .agg #[.slice none 0 0, .int .i64 0, .bool false, .int .i64 0]⟩) (.node 89 (.leaf 89 ⟨.other, 1, 8, .nilFunc⟩) (.leaf 90 ⟨.struct [(0, 4), (4, 1), (5, 1)], 6, 64, .agg #[.slice none 0 0, .int .i64 0, .bool false, .int .i64 0, .int .i64 0, .int .i64 0]⟩)))) (.node 93 (.node 91 (.leaf 91 ⟨.struct [(0, 4), (4, 1), (5, 1)], 6, 64, .agg #[.slice none 0 0, .int .i64 0, .bool false, .int .i64 0, .int .i64 0, .int .i64 0]⟩) (.node 92 (.leaf 92 ⟨.other, 1, 8, .nilFunc⟩) (.leaf 93 ⟨.other, 1, 8, .nilFunc⟩))) (.node 94 (.leaf 94 ⟨.struct [(0, 1), (1, 1)], 2, 16, .agg #[.int .i64 0, .bool false]⟩) (.node 95 (.leaf 95 ⟨.struct [(0, 1), (1, 1)], 2, 16, .agg #[.int .i64 0, .bool false]⟩) (.leaf 97 ⟨.other, 1, 8, .nilFunc⟩)))))))) (.node 145 (.node 122 (.node 109 (.node 102 (.node 99 (.node 98 (.leaf 98 ⟨.other, 1, 8, .nilFunc⟩) (.leaf 99 ⟨.other, 1, 8, .nilFunc⟩)) (.node 100 (.leaf 100 ⟨.other, 1, 8, .nilFunc⟩) (.node 101 (.leaf 101 ⟨.ptr, 1, 8, .pointer none⟩) (.leaf 102 ⟨.other, 1, 8, .nilFunc⟩)))) (.node 105 (.node 103 (.leaf 103 ⟨.other, 1, 8, .nilFunc⟩) (.node 104 (.leaf 104 ⟨.struct [(0, 1)], 1, 8, .agg #[.nilFunc]⟩) (.leaf 105 ⟨.struct [(0, 1)], 1, 8, .agg #[.nilFunc]⟩))) (.node 107 (.leaf 107 ⟨.other, 1, 8, .map none⟩) (.node 108 (.leaf 108 ⟨.other, 1, 8, .nilFunc⟩) (.leaf 109 ⟨.other, 1, 8, .nilFunc⟩))))) (.node 115 (.node 112 (.node 111 (.leaf 111 ⟨.other, 1, 8, .nilFunc⟩) (.leaf 112 ⟨.other, 1, 8, .nilFunc⟩)) (.node 113 (.leaf 113 ⟨.other, 1, 8, .nilFunc⟩) (.node 114 (.leaf 114 ⟨.other, 1, 8, .nilFunc⟩) (.leaf 115 ⟨.other, 1, 8, .nilFunc⟩)))) (.node 118 (.node 116 (.leaf 116 ⟨.other, 1, 8, .nilFunc⟩) (.node 117 (.leaf 117 ⟨.other, 1, 8, .nilFunc⟩) (.leaf 118 ⟨.other, 1, 8, .nilFunc⟩))) (.node 119 (.leaf 119 ⟨.other, 1, 8, .nilFunc⟩) (.node 120 (.leaf 120 ⟨.int .u64, 1, 8, .int .u64 0⟩) (.leaf 122 ⟨.other, 1, 8, .nilFunc⟩)))))) (.node 134 (.node 128 (.node 124 (.node 123 (.leaf 123 ⟨.other, 1, 8, .nilFunc⟩) (.leaf 124 ⟨.int .u64, 1, 8, .int .u64 0⟩)) (.node 125 (.leaf 125 ⟨.other, 1, 8, .nilFunc⟩) (.node 126 (.leaf 126 ⟨.other, 1, 8, .nilFunc⟩) (.leaf 128 ⟨.other, 1, 8, .nilFunc⟩)))) (.node 131 (.node 129 (.leaf 129 ⟨.other, 1, 8, .nilFunc⟩) (.node 130 (.leaf 130 ⟨.other, 1, 8, .nilFunc⟩) (.leaf 131 ⟨.other, 1, 8, .nilFunc⟩))) (.node 132 (.leaf 132 ⟨.other, 1, 8, .nilFunc⟩) (.node 133 (.leaf 133 ⟨.other, 1, 8, .nilFunc⟩) (.leaf 134 ⟨.other, 1, 8, .nilFunc⟩))))) (.node 139 (.node 136 (.node 135 (.leaf 135 ⟨.ptr, 1, 8, .pointer none⟩) (.leaf 136 ⟨.ptr, 1, 8, .pointer none⟩)) (.node 137 (.leaf 137 ⟨.struct [(0, 1), (1, 1)], 2, 24, .agg #[.string ⟨#[]⟩, .int .i64 0]⟩) (.node 138 (.leaf 138 ⟨.struct [(0, 1), (1, 1)], 2, 24, .agg #[.string ⟨#[]⟩, .int .i64 0]⟩) (.leaf 139 ⟨.other, 1, 8, .nilFunc⟩)))) (.node 142 (.node 140 (.leaf 140 ⟨.other, 1, 8, .nilFunc⟩) (.node 141 (.leaf 141 ⟨.other, 1, 8, .nilFunc⟩) (.leaf 142 ⟨.other, 1, 8, .nilFunc⟩))) (.node 143 (.leaf 143 ⟨.other, 1, 8, .nilFunc⟩) (.node 144 (.leaf 144 ⟨.other, 1, 8, .nilFunc⟩) (.leaf 145 ⟨.other, 1, 8, .nilFunc⟩))))))) (.node 194 (.node 158 (.node 151 (.node 148 (.node 147 (.leaf 147 ⟨.other, 1, 8, .nilFunc⟩) (.leaf 148 ⟨.other, 1, 8, .nilFunc⟩)) (.node 149 (.leaf 149 ⟨.struct [(0, 1), (1, 1)], 2, 32, .agg #[.slice none 0 0, .int .u32 0]⟩) (.node 150 (.leaf 150 ⟨.struct [(0, 1), (1, 1)], 2, 32, .agg #[.slice none 0 0, .int .u32 0]⟩) (.leaf 151 ⟨.other, 1, 8, .nilFunc⟩)))) (.node 155 (.node 153 (.leaf 153 ⟨.other, 1, 8, .map none⟩) (.node 154 (.leaf 154 ⟨.other, 1, 8, .nilFunc⟩) (.leaf 155 ⟨.other, 1, 8, .nilFunc⟩))) (.node 156 (.leaf 156 ⟨.other, 1, 8, .nilFunc⟩) (.node 157 (.leaf 157 ⟨.other, 1, 8, .nilFunc⟩) (.leaf 158 ⟨.other, 1, 8, .nilFunc⟩))))) (.node 170 (.node 160 (.node 159 (.leaf 159 ⟨.other, 1, 8, .nilFunc⟩) (.leaf 160 ⟨.other, 1, 8, .nilFunc⟩)) (.node 168 (.leaf 168 ⟨.other, 1, 8, .nilFunc⟩) (.node 169 (.leaf 169 ⟨.struct [(0, 2), (2, 1)], 3, 24, .agg #[.int .i64 0, .bool false, .int .i64 0]⟩) (.leaf 170 ⟨.array 6 169, 18, 144, .agg #[.int .i64 0, .bool false, .int .i64 0, .int .i64 0, .bool false, .int .i64 0, .int .i64 0, .bool false, .int .i64 0, .int .i64 0, .bool false, .int .i64 0, .int .i64 0, .bool false, .int .i64 0, .int .i64 0, .bool false, .int .i64 0]⟩)))) (.node 183 (.node 172 (.leaf 172 ⟨.struct [(0, 1)], 1, 8, .agg #[.int .i64 0]⟩) (.node 176 (.leaf 176 ⟨.other, 1, 8, .nilFunc⟩) (.leaf 183 ⟨.slice 54, 1, 24, .slice none 0 0⟩))) (.node 189 (.leaf 189 ⟨.other, 1, 8, .nilFunc⟩) (.node 193 (.leaf 193 ⟨.other, 1, 8, .nilFunc⟩) (.leaf 194 ⟨.other, 1, 8, .nilFunc⟩)))))) (.node 224 (.node 200 (.node 197 (.node 196 (.leaf 196 ⟨.struct [(0, 1), (1, 1)], 2, 16, .agg #[.nilFunc, .nilFunc]⟩) (.leaf 197 ⟨.slice 5, 1, 24, .slice none 0 0⟩)) (.node 198 (.leaf 198 ⟨.other, 1, 8, .nilFunc⟩) (.node 199 (.leaf 199 ⟨.other, 1, 8, .nilFunc⟩) (.leaf 200 ⟨.other, 1, 8, .nilFunc⟩)))) (.node 207 (.node 202 (.leaf 202 ⟨.ptr, 1, 8, .pointer none⟩) (.node 204 (.leaf 204 ⟨.struct [(0, 1), (1, 1)], 2, 32, .agg #[.pointer none, .slice none 0 0]⟩) (.leaf 207 ⟨.other, 1, 16, .nilIface⟩))) (.node 213 (.leaf 213 ⟨.other, 1, 8, .nilFunc⟩) (.node 217 (.leaf 217 ⟨.other, 1, 8, .nilFunc⟩) (.leaf 224 ⟨.other, 1, 8, .nilFunc⟩))))) (.node 237 (.node 232 (.node 230 (.leaf 230 ⟨.struct [(0, 1)], 1, 8, .agg #[.int .i64 0]⟩) (.leaf 232 ⟨.slice 23, 1, 24, .slice none 0 0⟩)) (.node 234 (.leaf 234 ⟨.other, 1, 8, .nilFunc⟩) (.node 235 (.leaf 235 ⟨.other, 1, 8, .nilFunc⟩) (.leaf 237 ⟨.other, 1, 8, .nilFunc⟩)))) (.node 250 (.node 241 (.leaf 241 ⟨.other, 1, 8, .nilFunc⟩) (.node 249 (.leaf 249 ⟨.other, 1, 8, .nilFunc⟩) (.leaf 250 ⟨.other, 1, 8, .nilFunc⟩))) (.node 254 (.leaf 254 ⟨.other, 1, 8, .nilFunc⟩) (.node 270 (.leaf 270 ⟨.array 3 21, 3, 12, .agg #[.int .i32 0, .int .i32 0, .int .i32 0]⟩) (.leaf 271 ⟨.struct [(0, 1), (1, 1), (2, 3)], 5, 20, .agg #[.int .u32 0, .int .u32 0, .int .i32 0, .int .i32 0, .int .i32 0]⟩)))))))))
theorem tysOk : tys.All Tryz.prog := ⟨⟨⟨⟨⟨⟨⟨te1, te2⟩, ⟨te3, ⟨te4, te5⟩⟩⟩, ⟨⟨te6, ⟨te7, te8⟩⟩, ⟨te9, ⟨te10, te11⟩⟩⟩⟩, ⟨⟨⟨te12, te13⟩, ⟨te14, ⟨te15, te16⟩⟩⟩, ⟨⟨te17, ⟨te18, te19⟩⟩, ⟨te20, ⟨te21, te22⟩⟩⟩⟩⟩, ⟨⟨⟨⟨te23, te24⟩, ⟨te25, ⟨te26, te27⟩⟩⟩, ⟨⟨te28, ⟨te30, te31⟩⟩, ⟨te32, ⟨te33, te34⟩⟩⟩⟩, ⟨⟨⟨te35, te37⟩, ⟨te38, ⟨te39, te40⟩⟩⟩, ⟨⟨te42, ⟨te43, te44⟩⟩, ⟨te45, ⟨te46, te47⟩⟩⟩⟩⟩⟩, ⟨⟨⟨⟨⟨te48, te49⟩, ⟨te50, ⟨te51, te52⟩⟩⟩, ⟨⟨te53, ⟨te54, te55⟩⟩, ⟨te57, ⟨te58, te59⟩⟩⟩⟩, ⟨⟨⟨te60, te61⟩, ⟨te62, ⟨te64, te66⟩⟩⟩, ⟨⟨te67, ⟨te68, te69⟩⟩, ⟨te70, ⟨te71, te72⟩⟩⟩⟩⟩, ⟨⟨⟨⟨te73, te74⟩, ⟨te75, ⟨te76, te77⟩⟩⟩, ⟨⟨te78, ⟨te79, te80⟩⟩, ⟨te81, ⟨te82, te84⟩⟩⟩⟩, ⟨⟨⟨te85, te86⟩, ⟨te87, ⟨te89, te90⟩⟩⟩, ⟨⟨te91, ⟨te92, te93⟩⟩, ⟨te94, ⟨te95, te97⟩⟩⟩⟩⟩⟩⟩, ⟨⟨⟨⟨⟨⟨te98, te99⟩, ⟨te100, ⟨te101, te102⟩⟩⟩, ⟨⟨te103, ⟨te104, te105⟩⟩, ⟨te107, ⟨te108, te109⟩⟩⟩⟩, ⟨⟨⟨te111, te112⟩, ⟨te113, ⟨te114, te115⟩⟩⟩, ⟨⟨te116, ⟨te117, te118⟩⟩, ⟨te119, ⟨te120, te122⟩⟩⟩⟩⟩, ⟨⟨⟨⟨te123, te124⟩, ⟨te125, ⟨te126, te128⟩⟩⟩, ⟨⟨te129, ⟨te130, te131⟩⟩, ⟨te132, ⟨te133, te134⟩⟩⟩⟩, ⟨⟨⟨te135, te136⟩, ⟨te137, ⟨te138, te139⟩⟩⟩, ⟨⟨te140, ⟨te141, te142⟩⟩, ⟨te143, ⟨te144, te145⟩⟩⟩⟩⟩⟩, ⟨⟨⟨⟨⟨te147, te148⟩, ⟨te149, ⟨te150, te151⟩⟩⟩, ⟨⟨te153, ⟨te154, te155⟩⟩, ⟨te156, ⟨te157, te158⟩⟩⟩⟩, ⟨⟨⟨te159, te160⟩, ⟨te168, ⟨te169, te170⟩⟩⟩, ⟨⟨te172, ⟨te176, te183⟩⟩, ⟨te189, ⟨te193, te194⟩⟩⟩⟩⟩, ⟨⟨⟨⟨te196, te197⟩, ⟨te198, ⟨te199, te200⟩⟩⟩, ⟨⟨te202, ⟨te204, te207⟩⟩, ⟨te213, ⟨te217, te224⟩⟩⟩⟩, ⟨⟨⟨te230, te232⟩, ⟨te234, ⟨te235, te237⟩⟩⟩, ⟨⟨te241, ⟨te249, te250⟩⟩, ⟨te254, ⟨te270, te271⟩⟩⟩⟩⟩⟩⟩⟩
noncomputable def C : Ctx := ⟨Tryz.prog, [], tys.get, fun _ _ h => Tr.get_ok tysOk h⟩
theorem mixC : C.P.follows .mixedOrders = true := by kernel_rfl
abbrev n_law02_WholeFermat : FuncId := 14
theorem fn_law02_WholeFermat : C.P.funcs[14]? = some Tryz.f14 := Tryz.func14
theorem en_law02_WholeFermat : Enters C.P 14 := Enters.mk fn_law02_WholeFermat (by kernel_rfl) (by kernel_rfl)
theorem nt_law02_WholeFermat : Tryz.f14.ntmps = 159 := Tryz.ntmps14
theorem rs_law02_WholeFermat : Tryz.f14.results = #[ResultVar.tmp 10] := Tryz.results14
abbrev n_law02_awake : FuncId := 19
theorem fn_law02_awake : C.P.funcs[19]? = some Tryz.f19 := Tryz.func19
theorem en_law02_awake : Enters C.P 19 := Enters.mk fn_law02_awake (by kernel_rfl) (by kernel_rfl)
theorem nt_law02_awake : Tryz.f19.ntmps = 73 := Tryz.ntmps19
theorem rs_law02_awake : Tryz.f19.results = #[ResultVar.tmp 0] := Tryz.results19
abbrev n_whole_Div : FuncId := 20
theorem fn_whole_Div : C.P.funcs[20]? = some Tryz.f20 := Tryz.func20
theorem en_whole_Div : Enters C.P 20 := Enters.mk fn_whole_Div (by kernel_rfl) (by kernel_rfl)
theorem nt_whole_Div : Tryz.f20.ntmps = 39 := Tryz.ntmps20
theorem rs_whole_Div : Tryz.f20.results = #[ResultVar.cell 6 25, ResultVar.cell 7 25, ResultVar.cell 8 28] := Tryz.results20
abbrev n_R02_Same : FuncId := 22
theorem fn_R02_Same : C.P.funcs[22]? = some Tryz.f22 := Tryz.func22
theorem en_R02_Same : Enters C.P 22 := Enters.mk fn_R02_Same (by kernel_rfl) (by kernel_rfl)
theorem nt_R02_Same : Tryz.f22.ntmps = 17 := Tryz.ntmps22
theorem rs_R02_Same : Tryz.f22.results = #[ResultVar.tmp 4] := Tryz.results22
abbrev n_whole_Gcd : FuncId := 23
theorem fn_whole_Gcd : C.P.funcs[23]? = some Tryz.f23 := Tryz.func23
theorem en_whole_Gcd : Enters C.P 23 := Enters.mk fn_whole_Gcd (by kernel_rfl) (by kernel_rfl)
theorem nt_whole_Gcd : Tryz.f23.ntmps = 25 := Tryz.ntmps23
theorem rs_whole_Gcd : Tryz.f23.results = #[ResultVar.cell 4 25, ResultVar.cell 5 25, ResultVar.cell 6 25, ResultVar.cell 7 28] := Tryz.results23
abbrev n_whole_Mul : FuncId := 31
theorem fn_whole_Mul : C.P.funcs[31]? = some Tryz.f31 := Tryz.func31
theorem en_whole_Mul : Enters C.P 31 := Enters.mk fn_whole_Mul (by kernel_rfl) (by kernel_rfl)
theorem nt_whole_Mul : Tryz.f31.ntmps = 13 := Tryz.ntmps31
theorem rs_whole_Mul : Tryz.f31.results = #[ResultVar.cell 4 25, ResultVar.tmp 5] := Tryz.results31
abbrev n_law02_fine : FuncId := 36
theorem fn_law02_fine : C.P.funcs[36]? = some Tryz.f36 := Tryz.func36
theorem en_law02_fine : Enters C.P 36 := Enters.mk fn_law02_fine (by kernel_rfl) (by kernel_rfl)
theorem nt_law02_fine : Tryz.f36.ntmps = 28 := Tryz.ntmps36
theorem rs_law02_fine : Tryz.f36.results = #[ResultVar.tmp 4] := Tryz.results36
abbrev n_whole_FromInt : FuncId := 37
theorem fn_whole_FromInt : C.P.funcs[37]? = some Tryz.f37 := Tryz.func37
theorem en_whole_FromInt : Enters C.P 37 := Enters.mk fn_whole_FromInt (by kernel_rfl) (by kernel_rfl)
theorem nt_whole_FromInt : Tryz.f37.ntmps = 14 := Tryz.ntmps37
theorem rs_whole_FromInt : Tryz.f37.results = #[ResultVar.cell 2 25] := Tryz.results37
abbrev n_law02_equal : FuncId := 38
theorem fn_law02_equal : C.P.funcs[38]? = some Tryz.f38 := Tryz.func38
theorem en_law02_equal : Enters C.P 38 := Enters.mk fn_law02_equal (by kernel_rfl) (by kernel_rfl)
theorem nt_law02_equal : Tryz.f38.ntmps = 38 := Tryz.ntmps38
theorem rs_law02_equal : Tryz.f38.results = #[ResultVar.tmp 4] := Tryz.results38
abbrev n_law02_mul : FuncId := 40
theorem fn_law02_mul : C.P.funcs[40]? = some Tryz.f40 := Tryz.func40
theorem en_law02_mul : Enters C.P 40 := Enters.mk fn_law02_mul (by kernel_rfl) (by kernel_rfl)
theorem nt_law02_mul : Tryz.f40.ntmps = 14 := Tryz.ntmps40
theorem rs_law02_mul : Tryz.f40.results = #[ResultVar.cell 4 25] := Tryz.results40
abbrev n_whole_Valid : FuncId := 49
theorem fn_whole_Valid : C.P.funcs[49]? = some Tryz.f49 := Tryz.func49
theorem en_whole_Valid : Enters C.P 49 := Enters.mk fn_whole_Valid (by kernel_rfl) (by kernel_rfl)
theorem nt_whole_Valid : Tryz.f49.ntmps = 17 := Tryz.ntmps49
theorem rs_whole_Valid : Tryz.f49.results = #[ResultVar.tmp 2] := Tryz.results49
abbrev n_R02_FromInt : FuncId := 51
theorem fn_R02_FromInt : C.P.funcs[51]? = some Tryz.f51 := Tryz.func51
theorem en_R02_FromInt : Enters C.P 51 := Enters.mk fn_R02_FromInt (by kernel_rfl) (by kernel_rfl)
theorem nt_R02_FromInt : Tryz.f51.ntmps = 17 := Tryz.ntmps51
theorem rs_R02_FromInt : Tryz.f51.results = #[ResultVar.cell 2 25] := Tryz.results51
abbrev n_whole_Text : FuncId := 54
theorem fn_whole_Text : C.P.funcs[54]? = some Tryz.f54 := Tryz.func54
theorem en_whole_Text : Enters C.P 54 := Enters.mk fn_whole_Text (by kernel_rfl) (by kernel_rfl)
theorem nt_whole_Text : Tryz.f54.ntmps = 32 := Tryz.ntmps54
theorem rs_whole_Text : Tryz.f54.results = #[ResultVar.tmp 6, ResultVar.tmp 7] := Tryz.results54
abbrev n_whole_Pow : FuncId := 59
theorem fn_whole_Pow : C.P.funcs[59]? = some Tryz.f59 := Tryz.func59
theorem en_whole_Pow : Enters C.P 59 := Enters.mk fn_whole_Pow (by kernel_rfl) (by kernel_rfl)
theorem nt_whole_Pow : Tryz.f59.ntmps = 12 := Tryz.ntmps59
theorem rs_whole_Pow : Tryz.f59.results = #[ResultVar.cell 4 25, ResultVar.tmp 5] := Tryz.results59
abbrev n_whole_ModPow : FuncId := 60
theorem fn_whole_ModPow : C.P.funcs[60]? = some Tryz.f60 := Tryz.func60
theorem en_whole_ModPow : Enters C.P 60 := Enters.mk fn_whole_ModPow (by kernel_rfl) (by kernel_rfl)
theorem nt_whole_ModPow : Tryz.f60.ntmps = 16 := Tryz.ntmps60
theorem rs_whole_ModPow : Tryz.f60.results = #[ResultVar.cell 6 25, ResultVar.tmp 7] := Tryz.results60
abbrev n_whole_caught : FuncId := 78
theorem fn_whole_caught : C.P.funcs[78]? = some Tryz.f78 := Tryz.func78
theorem en_whole_caught : Enters C.P 78 := Enters.mk fn_whole_caught (by kernel_rfl) (by kernel_rfl)
theorem nt_whole_caught : Tryz.f78.ntmps = 15 := Tryz.ntmps78
theorem rs_whole_caught : Tryz.f78.results = #[] := Tryz.results78
abbrev n_whole_args : FuncId := 79
theorem fn_whole_args : C.P.funcs[79]? = some Tryz.f79 := Tryz.func79
theorem en_whole_args : Enters C.P 79 := Enters.mk fn_whole_args (by kernel_rfl) (by kernel_rfl)
theorem nt_whole_args : Tryz.f79.ntmps = 6 := Tryz.ntmps79
theorem rs_whole_args : Tryz.f79.results = #[] := Tryz.results79
abbrev n_whole_kinds : FuncId := 80
theorem fn_whole_kinds : C.P.funcs[80]? = some Tryz.f80 := Tryz.func80
theorem en_whole_kinds : Enters C.P 80 := Enters.mk fn_whole_kinds (by kernel_rfl) (by kernel_rfl)
theorem nt_whole_kinds : Tryz.f80.ntmps = 7 := Tryz.ntmps80
theorem rs_whole_kinds : Tryz.f80.results = #[ResultVar.tmp 0] := Tryz.results80
abbrev n_whole_need : FuncId := 81
theorem fn_whole_need : C.P.funcs[81]? = some Tryz.f81 := Tryz.func81
theorem en_whole_need : Enters C.P 81 := Enters.mk fn_whole_need (by kernel_rfl) (by kernel_rfl)
theorem nt_whole_need : Tryz.f81.ntmps = 9 := Tryz.ntmps81
theorem rs_whole_need : Tryz.f81.results = #[] := Tryz.results81
abbrev n_whole_divide : FuncId := 82
theorem fn_whole_divide : C.P.funcs[82]? = some Tryz.f82 := Tryz.func82
theorem en_whole_divide : Enters C.P 82 := Enters.mk fn_whole_divide (by kernel_rfl) (by kernel_rfl)
theorem nt_whole_divide : Tryz.f82.ntmps = 69 := Tryz.ntmps82
theorem rs_whole_divide : Tryz.f82.results = #[ResultVar.cell 6 25, ResultVar.cell 7 25] := Tryz.results82
abbrev n_whole_own : FuncId := 83
theorem fn_whole_own : C.P.funcs[83]? = some Tryz.f83 := Tryz.func83
theorem en_whole_own : Enters C.P 83 := Enters.mk fn_whole_own (by kernel_rfl) (by kernel_rfl)
theorem nt_whole_own : Tryz.f83.ntmps = 9 := Tryz.ntmps83
theorem rs_whole_own : Tryz.f83.results = #[ResultVar.cell 2 25] := Tryz.results83
abbrev n_R01_Same : FuncId := 85
theorem fn_R01_Same : C.P.funcs[85]? = some Tryz.f85 := Tryz.func85
theorem en_R01_Same : Enters C.P 85 := Enters.mk fn_R01_Same (by kernel_rfl) (by kernel_rfl)
theorem nt_R01_Same : Tryz.f85.ntmps = 26 := Tryz.ntmps85
theorem rs_R01_Same : Tryz.f85.results = #[ResultVar.tmp 4] := Tryz.results85
abbrev n_whole_gcd : FuncId := 86
theorem fn_whole_gcd : C.P.funcs[86]? = some Tryz.f86 := Tryz.func86
theorem en_whole_gcd : Enters C.P 86 := Enters.mk fn_whole_gcd (by kernel_rfl) (by kernel_rfl)
theorem nt_whole_gcd : Tryz.f86.ntmps = 83 := Tryz.ntmps86
theorem rs_whole_gcd : Tryz.f86.results = #[ResultVar.cell 4 25, ResultVar.cell 5 25, ResultVar.cell 6 25] := Tryz.results86
abbrev n_R02_Of : FuncId := 87
theorem fn_R02_Of : C.P.funcs[87]? = some Tryz.f87 := Tryz.func87
theorem en_R02_Of : Enters C.P 87 := Enters.mk fn_R02_Of (by kernel_rfl) (by kernel_rfl)
theorem nt_R02_Of : Tryz.f87.ntmps = 14 := Tryz.ntmps87
theorem rs_R02_Of : Tryz.f87.results = #[ResultVar.cell 4 25] := Tryz.results87
abbrev n_whole_compute : FuncId := 93
theorem fn_whole_compute : C.P.funcs[93]? = some Tryz.f93 := Tryz.func93
theorem en_whole_compute : Enters C.P 93 := Enters.mk fn_whole_compute (by kernel_rfl) (by kernel_rfl)
theorem nt_whole_compute : Tryz.f93.ntmps = 10 := Tryz.ntmps93
theorem rs_whole_compute : Tryz.f93.results = #[ResultVar.cell 4 25, ResultVar.cell 5 28] := Tryz.results93
abbrev n_whole_cmp : FuncId := 95
theorem fn_whole_cmp : C.P.funcs[95]? = some Tryz.f95 := Tryz.func95
theorem en_whole_cmp : Enters C.P 95 := Enters.mk fn_whole_cmp (by kernel_rfl) (by kernel_rfl)
theorem nt_whole_cmp : Tryz.f95.ntmps = 34 := Tryz.ntmps95
theorem rs_whole_cmp : Tryz.f95.results = #[ResultVar.tmp 4] := Tryz.results95
abbrev n_whole_negated : FuncId := 97
theorem fn_whole_negated : C.P.funcs[97]? = some Tryz.f97 := Tryz.func97
theorem en_whole_negated : Enters C.P 97 := Enters.mk fn_whole_negated (by kernel_rfl) (by kernel_rfl)
theorem nt_whole_negated : Tryz.f97.ntmps = 9 := Tryz.ntmps97
theorem rs_whole_negated : Tryz.f97.results = #[ResultVar.cell 2 25] := Tryz.results97
abbrev n_whole_sum : FuncId := 99
theorem fn_whole_sum : C.P.funcs[99]? = some Tryz.f99 := Tryz.func99
theorem en_whole_sum : Enters C.P 99 := Enters.mk fn_whole_sum (by kernel_rfl) (by kernel_rfl)
theorem nt_whole_sum : Tryz.f99.ntmps = 51 := Tryz.ntmps99
theorem rs_whole_sum : Tryz.f99.results = #[ResultVar.cell 4 25] := Tryz.results99
abbrev n_whole_Mul_1 : FuncId := 101
theorem fn_whole_Mul_1 : C.P.funcs[101]? = some Tryz.f101 := Tryz.func101
theorem en_whole_Mul_1 : Enters C.P 101 := Enters.mk fn_whole_Mul_1 (by kernel_rfl) (by kernel_rfl)
theorem nt_whole_Mul_1 : Tryz.f101.ntmps = 7 := Tryz.ntmps101
theorem rs_whole_Mul_1 : Tryz.f101.results = #[ResultVar.cell 2 25] := Tryz.results101
abbrev n_whole_product : FuncId := 102
theorem fn_whole_product : C.P.funcs[102]? = some Tryz.f102 := Tryz.func102
theorem en_whole_product : Enters C.P 102 := Enters.mk fn_whole_product (by kernel_rfl) (by kernel_rfl)
theorem nt_whole_product : Tryz.f102.ntmps = 19 := Tryz.ntmps102
theorem rs_whole_product : Tryz.f102.results = #[ResultVar.cell 4 25] := Tryz.results102
abbrev n_whole_signed : FuncId := 106
theorem fn_whole_signed : C.P.funcs[106]? = some Tryz.f106 := Tryz.func106
theorem en_whole_signed : Enters C.P 106 := Enters.mk fn_whole_signed (by kernel_rfl) (by kernel_rfl)
theorem nt_whole_signed : Tryz.f106.ntmps = 13 := Tryz.ntmps106
theorem rs_whole_signed : Tryz.f106.results = #[ResultVar.cell 4 25] := Tryz.results106
abbrev n_nat_FromUint : FuncId := 107
theorem fn_nat_FromUint : C.P.funcs[107]? = some Tryz.f107 := Tryz.func107
theorem en_nat_FromUint : Enters C.P 107 := Enters.mk fn_nat_FromUint (by kernel_rfl) (by kernel_rfl)
theorem nt_nat_FromUint : Tryz.f107.ntmps = 5 := Tryz.ntmps107
theorem rs_nat_FromUint : Tryz.f107.results = #[ResultVar.tmp 2] := Tryz.results107
abbrev n_whole_sign : FuncId := 108
theorem fn_whole_sign : C.P.funcs[108]? = some Tryz.f108 := Tryz.func108
theorem en_whole_sign : Enters C.P 108 := Enters.mk fn_whole_sign (by kernel_rfl) (by kernel_rfl)
theorem nt_whole_sign : Tryz.f108.ntmps = 11 := Tryz.ntmps108
theorem rs_whole_sign : Tryz.f108.results = #[ResultVar.tmp 2] := Tryz.results108
abbrev n_nat_Valid : FuncId := 111
theorem fn_nat_Valid : C.P.funcs[111]? = some Tryz.f111 := Tryz.func111
theorem en_nat_Valid : Enters C.P 111 := Enters.mk fn_nat_Valid (by kernel_rfl) (by kernel_rfl)
theorem nt_nat_Valid : Tryz.f111.ntmps = 20 := Tryz.ntmps111
theorem rs_nat_Valid : Tryz.f111.results = #[ResultVar.tmp 2] := Tryz.results111
abbrev n_R01_Add : FuncId := 113
theorem fn_R01_Add : C.P.funcs[113]? = some Tryz.f113 := Tryz.func113
theorem en_R01_Add : Enters C.P 113 := Enters.mk fn_R01_Add (by kernel_rfl) (by kernel_rfl)
theorem nt_R01_Add : Tryz.f113.ntmps = 36 := Tryz.ntmps113
theorem rs_R01_Add : Tryz.f113.results = #[ResultVar.tmp 4] := Tryz.results113
abbrev n_R01_Of : FuncId := 114
theorem fn_R01_Of : C.P.funcs[114]? = some Tryz.f114 := Tryz.func114
theorem en_R01_Of : Enters C.P 114 := Enters.mk fn_R01_Of (by kernel_rfl) (by kernel_rfl)
theorem nt_R01_Of : Tryz.f114.ntmps = 10 := Tryz.ntmps114
theorem rs_R01_Of : Tryz.f114.results = #[ResultVar.tmp 2] := Tryz.results114
abbrev n_whole_must : FuncId := 116
theorem fn_whole_must : C.P.funcs[116]? = some Tryz.f116 := Tryz.func116
theorem en_whole_must : Enters C.P 116 := Enters.mk fn_whole_must (by kernel_rfl) (by kernel_rfl)
theorem nt_whole_must : Tryz.f116.ntmps = 10 := Tryz.ntmps116
theorem rs_whole_must : Tryz.f116.results = #[ResultVar.tmp 4] := Tryz.results116
abbrev n_whole_order : FuncId := 118
theorem fn_whole_order : C.P.funcs[118]? = some Tryz.f118 := Tryz.func118
theorem en_whole_order : Enters C.P 118 := Enters.mk fn_whole_order (by kernel_rfl) (by kernel_rfl)
theorem nt_whole_order : Tryz.f118.ntmps = 14 := Tryz.ntmps118
theorem rs_whole_order : Tryz.f118.results = #[ResultVar.tmp 4] := Tryz.results118
abbrev n_nat_Sub : FuncId := 121
theorem fn_nat_Sub : C.P.funcs[121]? = some Tryz.f121 := Tryz.func121
theorem en_nat_Sub : Enters C.P 121 := Enters.mk fn_nat_Sub (by kernel_rfl) (by kernel_rfl)
theorem nt_nat_Sub : Tryz.f121.ntmps = 12 := Tryz.ntmps121
theorem rs_nat_Sub : Tryz.f121.results = #[ResultVar.tmp 4, ResultVar.tmp 5] := Tryz.results121
abbrev n_nat_Add : FuncId := 122
theorem fn_nat_Add : C.P.funcs[122]? = some Tryz.f122 := Tryz.func122
theorem en_nat_Add : Enters C.P 122 := Enters.mk fn_nat_Add (by kernel_rfl) (by kernel_rfl)
theorem nt_nat_Add : Tryz.f122.ntmps = 12 := Tryz.ntmps122
theorem rs_nat_Add : Tryz.f122.results = #[ResultVar.tmp 4, ResultVar.tmp 5] := Tryz.results122
abbrev n_whole_text : FuncId := 123
theorem fn_whole_text : C.P.funcs[123]? = some Tryz.f123 := Tryz.func123
theorem en_whole_text : Enters C.P 123 := Enters.mk fn_whole_text (by kernel_rfl) (by kernel_rfl)
theorem nt_whole_text : Tryz.f123.ntmps = 23 := Tryz.ntmps123
theorem rs_whole_text : Tryz.f123.results = #[ResultVar.tmp 4] := Tryz.results123
abbrev n_strings_ToUpper : FuncId := 124
theorem fn_strings_ToUpper : C.P.funcs[124]? = some Tryz.f124 := Tryz.func124
theorem en_strings_ToUpper : Enters C.P 124 := Enters.mk fn_strings_ToUpper (by kernel_rfl) (by kernel_rfl)
abbrev n_whole_Pow_1 : FuncId := 133
theorem fn_whole_Pow_1 : C.P.funcs[133]? = some Tryz.f133 := Tryz.func133
theorem en_whole_Pow_1 : Enters C.P 133 := Enters.mk fn_whole_Pow_1 (by kernel_rfl) (by kernel_rfl)
theorem nt_whole_Pow_1 : Tryz.f133.ntmps = 22 := Tryz.ntmps133
theorem rs_whole_Pow_1 : Tryz.f133.results = #[ResultVar.cell 2 25] := Tryz.results133
abbrev n_nat_Pow : FuncId := 134
theorem fn_nat_Pow : C.P.funcs[134]? = some Tryz.f134 := Tryz.func134
theorem en_nat_Pow : Enters C.P 134 := Enters.mk fn_nat_Pow (by kernel_rfl) (by kernel_rfl)
theorem nt_nat_Pow : Tryz.f134.ntmps = 39 := Tryz.ntmps134
theorem rs_nat_Pow : Tryz.f134.results = #[ResultVar.tmp 4, ResultVar.cell 5 28] := Tryz.results134
abbrev n_whole_ModPow_1 : FuncId := 135
theorem fn_whole_ModPow_1 : C.P.funcs[135]? = some Tryz.f135 := Tryz.func135
theorem en_whole_ModPow_1 : Enters C.P 135 := Enters.mk fn_whole_ModPow_1 (by kernel_rfl) (by kernel_rfl)
theorem nt_whole_ModPow_1 : Tryz.f135.ntmps = 69 := Tryz.ntmps135
theorem rs_whole_ModPow_1 : Tryz.f135.results = #[ResultVar.cell 3 25] := Tryz.results135
abbrev n_whole_ModPow_1_1 : FuncId := 136
theorem fn_whole_ModPow_1_1 : C.P.funcs[136]? = some Tryz.f136 := Tryz.func136
theorem en_whole_ModPow_1_1 : Enters C.P 136 := Enters.mk fn_whole_ModPow_1_1 (by kernel_rfl) (by kernel_rfl)
theorem nt_whole_ModPow_1_1 : Tryz.f136.ntmps = 17 := Tryz.ntmps136
theorem rs_whole_ModPow_1_1 : Tryz.f136.results = #[] := Tryz.results136
abbrev n_whole_times : FuncId := 137
theorem fn_whole_times : C.P.funcs[137]? = some Tryz.f137 := Tryz.func137
theorem en_whole_times : Enters C.P 137 := Enters.mk fn_whole_times (by kernel_rfl) (by kernel_rfl)
theorem nt_whole_times : Tryz.f137.ntmps = 62 := Tryz.ntmps137
theorem rs_whole_times : Tryz.f137.results = #[ResultVar.tmp 6] := Tryz.results137
abbrev n_slices_ContainsFunc_api_Int_api_Int : FuncId := 163
theorem fn_slices_ContainsFunc_api_Int_api_Int : C.P.funcs[163]? = some Tryz.f163 := Tryz.func163
theorem en_slices_ContainsFunc_api_Int_api_Int : Enters C.P 163 := Enters.mk fn_slices_ContainsFunc_api_Int_api_Int (by kernel_rfl) (by kernel_rfl)
theorem nt_slices_ContainsFunc_api_Int_api_Int : Tryz.f163.ntmps = 9 := Tryz.ntmps163
theorem rs_slices_ContainsFunc_api_Int_api_Int : Tryz.f163.results = #[ResultVar.tmp 4] := Tryz.results163
abbrev n_whole_args_1 : FuncId := 164
theorem fn_whole_args_1 : C.P.funcs[164]? = some Tryz.f164 := Tryz.func164
theorem en_whole_args_1 : Enters C.P 164 := Enters.mk fn_whole_args_1 (by kernel_rfl) (by kernel_rfl)
theorem nt_whole_args_1 : Tryz.f164.ntmps = 6 := Tryz.ntmps164
theorem rs_whole_args_1 : Tryz.f164.results = #[ResultVar.tmp 2] := Tryz.results164
abbrev n_whole_kinds_1 : FuncId := 165
theorem fn_whole_kinds_1 : C.P.funcs[165]? = some Tryz.f165 := Tryz.func165
theorem en_whole_kinds_1 : Enters C.P 165 := Enters.mk fn_whole_kinds_1 (by kernel_rfl) (by kernel_rfl)
theorem nt_whole_kinds_1 : Tryz.f165.ntmps = 9 := Tryz.ntmps165
theorem rs_whole_kinds_1 : Tryz.f165.results = #[ResultVar.tmp 8] := Tryz.results165
abbrev n_whole_kinds_2 : FuncId := 166
theorem fn_whole_kinds_2 : C.P.funcs[166]? = some Tryz.f166 := Tryz.func166
theorem en_whole_kinds_2 : Enters C.P 166 := Enters.mk fn_whole_kinds_2 (by kernel_rfl) (by kernel_rfl)
theorem nt_whole_kinds_2 : Tryz.f166.ntmps = 14 := Tryz.ntmps166
theorem rs_whole_kinds_2 : Tryz.f166.results = #[ResultVar.tmp 8] := Tryz.results166
abbrev n_whole_kinds_3 : FuncId := 167
theorem fn_whole_kinds_3 : C.P.funcs[167]? = some Tryz.f167 := Tryz.func167
theorem en_whole_kinds_3 : Enters C.P 167 := Enters.mk fn_whole_kinds_3 (by kernel_rfl) (by kernel_rfl)
theorem nt_whole_kinds_3 : Tryz.f167.ntmps = 11 := Tryz.ntmps167
theorem rs_whole_kinds_3 : Tryz.f167.results = #[ResultVar.tmp 8] := Tryz.results167
abbrev n_whole_kinds_4 : FuncId := 168
theorem fn_whole_kinds_4 : C.P.funcs[168]? = some Tryz.f168 := Tryz.func168
theorem en_whole_kinds_4 : Enters C.P 168 := Enters.mk fn_whole_kinds_4 (by kernel_rfl) (by kernel_rfl)
theorem nt_whole_kinds_4 : Tryz.f168.ntmps = 41 := Tryz.ntmps168
theorem rs_whole_kinds_4 : Tryz.f168.results = #[ResultVar.tmp 8] := Tryz.results168
abbrev n_nat_Div : FuncId := 169
theorem fn_nat_Div : C.P.funcs[169]? = some Tryz.f169 := Tryz.func169
theorem en_nat_Div : Enters C.P 169 := Enters.mk fn_nat_Div (by kernel_rfl) (by kernel_rfl)
theorem nt_nat_Div : Tryz.f169.ntmps = 14 := Tryz.ntmps169
theorem rs_nat_Div : Tryz.f169.results = #[ResultVar.tmp 4, ResultVar.tmp 5, ResultVar.tmp 6] := Tryz.results169
abbrev n_slices_Clone_api_Nat_uint32 : FuncId := 170
theorem fn_slices_Clone_api_Nat_uint32 : C.P.funcs[170]? = some Tryz.f170 := Tryz.func170
theorem en_slices_Clone_api_Nat_uint32 : Enters C.P 170 := Enters.mk fn_slices_Clone_api_Nat_uint32 (by kernel_rfl) (by kernel_rfl)
theorem nt_slices_Clone_api_Nat_uint32 : Tryz.f170.ntmps = 8 := Tryz.ntmps170
theorem rs_slices_Clone_api_Nat_uint32 : Tryz.f170.results = #[ResultVar.tmp 2] := Tryz.results170
abbrev n_whole_common : FuncId := 173
theorem fn_whole_common : C.P.funcs[173]? = some Tryz.f173 := Tryz.func173
theorem en_whole_common : Enters C.P 173 := Enters.mk fn_whole_common (by kernel_rfl) (by kernel_rfl)
theorem nt_whole_common : Tryz.f173.ntmps = 60 := Tryz.ntmps173
theorem rs_whole_common : Tryz.f173.results = #[ResultVar.tmp 4, ResultVar.cell 5 25, ResultVar.cell 6 25, ResultVar.tmp 7, ResultVar.tmp 8] := Tryz.results173
abbrev n_R01_Trim : FuncId := 174
theorem fn_R01_Trim : C.P.funcs[174]? = some Tryz.f174 := Tryz.func174
theorem en_R01_Trim : Enters C.P 174 := Enters.mk fn_R01_Trim (by kernel_rfl) (by kernel_rfl)
theorem nt_R01_Trim : Tryz.f174.ntmps = 23 := Tryz.ntmps174
theorem rs_R01_Trim : Tryz.f174.results = #[ResultVar.tmp 2] := Tryz.results174
abbrev n_nat_Mul : FuncId := 176
theorem fn_nat_Mul : C.P.funcs[176]? = some Tryz.f176 := Tryz.func176
theorem en_nat_Mul : Enters C.P 176 := Enters.mk fn_nat_Mul (by kernel_rfl) (by kernel_rfl)
theorem nt_nat_Mul : Tryz.f176.ntmps = 12 := Tryz.ntmps176
theorem rs_nat_Mul : Tryz.f176.results = #[ResultVar.tmp 4, ResultVar.tmp 5] := Tryz.results176
abbrev n_nat_of : FuncId := 179
theorem fn_nat_of : C.P.funcs[179]? = some Tryz.f179 := Tryz.func179
theorem en_nat_of : Enters C.P 179 := Enters.mk fn_nat_of (by kernel_rfl) (by kernel_rfl)
theorem nt_nat_of : Tryz.f179.ntmps = 10 := Tryz.ntmps179
theorem rs_nat_of : Tryz.f179.results = #[ResultVar.tmp 2] := Tryz.results179
abbrev n_nat_limbs_at : FuncId := 180
theorem fn_nat_limbs_at : C.P.funcs[180]? = some Tryz.f180 := Tryz.func180
theorem en_nat_limbs_at : Enters C.P 180 := Enters.mk fn_nat_limbs_at (by kernel_rfl) (by kernel_rfl)
theorem nt_nat_limbs_at : Tryz.f180.ntmps = 14 := Tryz.ntmps180
theorem rs_nat_limbs_at : Tryz.f180.results = #[ResultVar.tmp 4] := Tryz.results180
abbrev n_R01_at : FuncId := 181
theorem fn_R01_at : C.P.funcs[181]? = some Tryz.f181 := Tryz.func181
theorem en_R01_at : Enters C.P 181 := Enters.mk fn_R01_at (by kernel_rfl) (by kernel_rfl)
theorem nt_R01_at : Tryz.f181.ntmps = 14 := Tryz.ntmps181
theorem rs_R01_at : Tryz.f181.results = #[ResultVar.tmp 4] := Tryz.results181
abbrev n_nat_caught : FuncId := 182
theorem fn_nat_caught : C.P.funcs[182]? = some Tryz.f182 := Tryz.func182
theorem en_nat_caught : Enters C.P 182 := Enters.mk fn_nat_caught (by kernel_rfl) (by kernel_rfl)
theorem nt_nat_caught : Tryz.f182.ntmps = 20 := Tryz.ntmps182
theorem rs_nat_caught : Tryz.f182.results = #[] := Tryz.results182
abbrev n_nat_taken : FuncId := 183
theorem fn_nat_taken : C.P.funcs[183]? = some Tryz.f183 := Tryz.func183
theorem en_nat_taken : Enters C.P 183 := Enters.mk fn_nat_taken (by kernel_rfl) (by kernel_rfl)
theorem nt_nat_taken : Tryz.f183.ntmps = 6 := Tryz.ntmps183
theorem rs_nat_taken : Tryz.f183.results = #[] := Tryz.results183
abbrev n_nat_need : FuncId := 184
theorem fn_nat_need : C.P.funcs[184]? = some Tryz.f184 := Tryz.func184
theorem en_nat_need : Enters C.P 184 := Enters.mk fn_nat_need (by kernel_rfl) (by kernel_rfl)
theorem nt_nat_need : Tryz.f184.ntmps = 9 := Tryz.ntmps184
theorem rs_nat_need : Tryz.f184.results = #[] := Tryz.results184
abbrev n_nat_given : FuncId := 185
theorem fn_nat_given : C.P.funcs[185]? = some Tryz.f185 := Tryz.func185
theorem en_nat_given : Enters C.P 185 := Enters.mk fn_nat_given (by kernel_rfl) (by kernel_rfl)
theorem nt_nat_given : Tryz.f185.ntmps = 9 := Tryz.ntmps185
theorem rs_nat_given : Tryz.f185.results = #[ResultVar.tmp 2] := Tryz.results185
abbrev n_nat_limbs_shl : FuncId := 186
theorem fn_nat_limbs_shl : C.P.funcs[186]? = some Tryz.f186 := Tryz.func186
theorem en_nat_limbs_shl : Enters C.P 186 := Enters.mk fn_nat_limbs_shl (by kernel_rfl) (by kernel_rfl)
theorem nt_nat_limbs_shl : Tryz.f186.ntmps = 53 := Tryz.ntmps186
theorem rs_nat_limbs_shl : Tryz.f186.results = #[ResultVar.tmp 4] := Tryz.results186
abbrev n_nat_Cmp : FuncId := 187
theorem fn_nat_Cmp : C.P.funcs[187]? = some Tryz.f187 := Tryz.func187
theorem en_nat_Cmp : Enters C.P 187 := Enters.mk fn_nat_Cmp (by kernel_rfl) (by kernel_rfl)
theorem nt_nat_Cmp : Tryz.f187.ntmps = 13 := Tryz.ntmps187
theorem rs_nat_Cmp : Tryz.f187.results = #[ResultVar.tmp 4, ResultVar.cell 5 28] := Tryz.results187
abbrev n_nat_limbs_shr : FuncId := 188
theorem fn_nat_limbs_shr : C.P.funcs[188]? = some Tryz.f188 := Tryz.func188
theorem en_nat_limbs_shr : Enters C.P 188 := Enters.mk fn_nat_limbs_shr (by kernel_rfl) (by kernel_rfl)
theorem nt_nat_limbs_shr : Tryz.f188.ntmps = 49 := Tryz.ntmps188
theorem rs_nat_limbs_shr : Tryz.f188.results = #[ResultVar.tmp 4] := Tryz.results188
abbrev n_nat_multiplied : FuncId := 189
theorem fn_nat_multiplied : C.P.funcs[189]? = some Tryz.f189 := Tryz.func189
theorem en_nat_multiplied : Enters C.P 189 := Enters.mk fn_nat_multiplied (by kernel_rfl) (by kernel_rfl)
theorem nt_nat_multiplied : Tryz.f189.ntmps = 18 := Tryz.ntmps189
theorem rs_nat_multiplied : Tryz.f189.results = #[ResultVar.tmp 6, ResultVar.cell 7 28] := Tryz.results189
abbrev n_nat_Sub_1 : FuncId := 190
theorem fn_nat_Sub_1 : C.P.funcs[190]? = some Tryz.f190 := Tryz.func190
theorem en_nat_Sub_1 : Enters C.P 190 := Enters.mk fn_nat_Sub_1 (by kernel_rfl) (by kernel_rfl)
theorem nt_nat_Sub_1 : Tryz.f190.ntmps = 13 := Tryz.ntmps190
theorem rs_nat_Sub_1 : Tryz.f190.results = #[ResultVar.tmp 4] := Tryz.results190
abbrev n_nat_limbs_cmp : FuncId := 191
theorem fn_nat_limbs_cmp : C.P.funcs[191]? = some Tryz.f191 := Tryz.func191
theorem en_nat_limbs_cmp : Enters C.P 191 := Enters.mk fn_nat_limbs_cmp (by kernel_rfl) (by kernel_rfl)
theorem nt_nat_limbs_cmp : Tryz.f191.ntmps = 37 := Tryz.ntmps191
theorem rs_nat_limbs_cmp : Tryz.f191.results = #[ResultVar.cell 4 3] := Tryz.results191
abbrev n_nat_limbs_sub : FuncId := 192
theorem fn_nat_limbs_sub : C.P.funcs[192]? = some Tryz.f192 := Tryz.func192
theorem en_nat_limbs_sub : Enters C.P 192 := Enters.mk fn_nat_limbs_sub (by kernel_rfl) (by kernel_rfl)
theorem nt_nat_limbs_sub : Tryz.f192.ntmps = 36 := Tryz.ntmps192
theorem rs_nat_limbs_sub : Tryz.f192.results = #[ResultVar.tmp 4] := Tryz.results192
abbrev n_nat_limbs_add : FuncId := 193
theorem fn_nat_limbs_add : C.P.funcs[193]? = some Tryz.f193 := Tryz.func193
theorem en_nat_limbs_add : Enters C.P 193 := Enters.mk fn_nat_limbs_add (by kernel_rfl) (by kernel_rfl)
theorem nt_nat_limbs_add : Tryz.f193.ntmps = 39 := Tryz.ntmps193
theorem rs_nat_limbs_add : Tryz.f193.results = #[ResultVar.tmp 4] := Tryz.results193
abbrev n_whole_digits : FuncId := 194
theorem fn_whole_digits : C.P.funcs[194]? = some Tryz.f194 := Tryz.func194
theorem en_whole_digits : Enters C.P 194 := Enters.mk fn_whole_digits (by kernel_rfl) (by kernel_rfl)
theorem nt_whole_digits : Tryz.f194.ntmps = 6 := Tryz.ntmps194
theorem rs_whole_digits : Tryz.f194.results = #[ResultVar.tmp 4] := Tryz.results194
abbrev n_slices_Reverse_byte_byte : FuncId := 195
theorem fn_slices_Reverse_byte_byte : C.P.funcs[195]? = some Tryz.f195 := Tryz.func195
theorem en_slices_Reverse_byte_byte : Enters C.P 195 := Enters.mk fn_slices_Reverse_byte_byte (by kernel_rfl) (by kernel_rfl)
theorem nt_slices_Reverse_byte_byte : Tryz.f195.ntmps = 28 := Tryz.ntmps195
theorem rs_slices_Reverse_byte_byte : Tryz.f195.results = #[] := Tryz.results195
abbrev n_whole_chunk : FuncId := 206
theorem fn_whole_chunk : C.P.funcs[206]? = some Tryz.f206 := Tryz.func206
theorem en_whole_chunk : Enters C.P 206 := Enters.mk fn_whole_chunk (by kernel_rfl) (by kernel_rfl)
theorem nt_whole_chunk : Tryz.f206.ntmps = 22 := Tryz.ntmps206
theorem rs_whole_chunk : Tryz.f206.results = #[ResultVar.tmp 2, ResultVar.tmp 3] := Tryz.results206
abbrev n_nat_limbs_size : FuncId := 208
theorem fn_nat_limbs_size : C.P.funcs[208]? = some Tryz.f208 := Tryz.func208
theorem en_nat_limbs_size : Enters C.P 208 := Enters.mk fn_nat_limbs_size (by kernel_rfl) (by kernel_rfl)
theorem nt_nat_limbs_size : Tryz.f208.ntmps = 18 := Tryz.ntmps208
theorem rs_nat_limbs_size : Tryz.f208.results = #[ResultVar.tmp 2] := Tryz.results208
abbrev n_nat_limbs_pow : FuncId := 209
theorem fn_nat_limbs_pow : C.P.funcs[209]? = some Tryz.f209 := Tryz.func209
theorem en_nat_limbs_pow : Enters C.P 209 := Enters.mk fn_nat_limbs_pow (by kernel_rfl) (by kernel_rfl)
theorem nt_nat_limbs_pow : Tryz.f209.ntmps = 28 := Tryz.ntmps209
theorem rs_nat_limbs_pow : Tryz.f209.results = #[ResultVar.tmp 4] := Tryz.results209
abbrev n_whole_modular : FuncId := 210
theorem fn_whole_modular : C.P.funcs[210]? = some Tryz.f210 := Tryz.func210
theorem en_whole_modular : Enters C.P 210 := Enters.mk fn_whole_modular (by kernel_rfl) (by kernel_rfl)
theorem nt_whole_modular : Tryz.f210.ntmps = 30 := Tryz.ntmps210
theorem rs_whole_modular : Tryz.f210.results = #[ResultVar.tmp 6] := Tryz.results210
abbrev n_slices_IndexFunc_api_Int_api_Int : FuncId := 212
theorem fn_slices_IndexFunc_api_Int_api_Int : C.P.funcs[212]? = some Tryz.f212 := Tryz.func212
theorem en_slices_IndexFunc_api_Int_api_Int : Enters C.P 212 := Enters.mk fn_slices_IndexFunc_api_Int_api_Int (by kernel_rfl) (by kernel_rfl)
theorem nt_slices_IndexFunc_api_Int_api_Int : Tryz.f212.ntmps = 19 := Tryz.ntmps212
theorem rs_slices_IndexFunc_api_Int_api_Int : Tryz.f212.results = #[ResultVar.tmp 4] := Tryz.results212
abbrev n_nat_divided : FuncId := 213
theorem fn_nat_divided : C.P.funcs[213]? = some Tryz.f213 := Tryz.func213
theorem en_nat_divided : Enters C.P 213 := Enters.mk fn_nat_divided (by kernel_rfl) (by kernel_rfl)
theorem nt_nat_divided : Tryz.f213.ntmps = 31 := Tryz.ntmps213
theorem rs_nat_divided : Tryz.f213.results = #[ResultVar.tmp 6, ResultVar.tmp 7, ResultVar.cell 8 28] := Tryz.results213
abbrev n_nat_Div_1 : FuncId := 214
theorem fn_nat_Div_1 : C.P.funcs[214]? = some Tryz.f214 := Tryz.func214
theorem en_nat_Div_1 : Enters C.P 214 := Enters.mk fn_nat_Div_1 (by kernel_rfl) (by kernel_rfl)
theorem nt_nat_Div_1 : Tryz.f214.ntmps = 11 := Tryz.ntmps214
theorem rs_nat_Div_1 : Tryz.f214.results = #[ResultVar.tmp 4, ResultVar.tmp 5] := Tryz.results214
abbrev n_nat_limbs_blocks : FuncId := 215
theorem fn_nat_limbs_blocks : C.P.funcs[215]? = some Tryz.f215 := Tryz.func215
theorem en_nat_limbs_blocks : Enters C.P 215 := Enters.mk fn_nat_limbs_blocks (by kernel_rfl) (by kernel_rfl)
theorem nt_nat_limbs_blocks : Tryz.f215.ntmps = 93 := Tryz.ntmps215
theorem rs_nat_limbs_blocks : Tryz.f215.results = #[ResultVar.tmp 6, ResultVar.tmp 7] := Tryz.results215
abbrev n_nat_limbs_mul : FuncId := 218
theorem fn_nat_limbs_mul : C.P.funcs[218]? = some Tryz.f218 := Tryz.func218
theorem en_nat_limbs_mul : Enters C.P 218 := Enters.mk fn_nat_limbs_mul (by kernel_rfl) (by kernel_rfl)
theorem nt_nat_limbs_mul : Tryz.f218.ntmps = 8 := Tryz.ntmps218
theorem rs_nat_limbs_mul : Tryz.f218.results = #[ResultVar.tmp 4] := Tryz.results218
abbrev n_nat_limbs_trim : FuncId := 219
theorem fn_nat_limbs_trim : C.P.funcs[219]? = some Tryz.f219 := Tryz.func219
theorem en_nat_limbs_trim : Enters C.P 219 := Enters.mk fn_nat_limbs_trim (by kernel_rfl) (by kernel_rfl)
theorem nt_nat_limbs_trim : Tryz.f219.ntmps = 21 := Tryz.ntmps219
theorem rs_nat_limbs_trim : Tryz.f219.results = #[ResultVar.tmp 2] := Tryz.results219
abbrev n_slices_ContainsFunc_api_Nat_api_Nat : FuncId := 220
theorem fn_slices_ContainsFunc_api_Nat_api_Nat : C.P.funcs[220]? = some Tryz.f220 := Tryz.func220
theorem en_slices_ContainsFunc_api_Nat_api_Nat : Enters C.P 220 := Enters.mk fn_slices_ContainsFunc_api_Nat_api_Nat (by kernel_rfl) (by kernel_rfl)
theorem nt_slices_ContainsFunc_api_Nat_api_Nat : Tryz.f220.ntmps = 9 := Tryz.ntmps220
theorem rs_slices_ContainsFunc_api_Nat_api_Nat : Tryz.f220.results = #[ResultVar.tmp 4] := Tryz.results220
abbrev n_nat_taken_1 : FuncId := 221
theorem fn_nat_taken_1 : C.P.funcs[221]? = some Tryz.f221 := Tryz.func221
theorem en_nat_taken_1 : Enters C.P 221 := Enters.mk fn_nat_taken_1 (by kernel_rfl) (by kernel_rfl)
theorem nt_nat_taken_1 : Tryz.f221.ntmps = 6 := Tryz.ntmps221
theorem rs_nat_taken_1 : Tryz.f221.results = #[ResultVar.tmp 2] := Tryz.results221
abbrev n_slices_Clone_nat_limbs_uint32 : FuncId := 222
theorem fn_slices_Clone_nat_limbs_uint32 : C.P.funcs[222]? = some Tryz.f222 := Tryz.func222
theorem en_slices_Clone_nat_limbs_uint32 : Enters C.P 222 := Enters.mk fn_slices_Clone_nat_limbs_uint32 (by kernel_rfl) (by kernel_rfl)
theorem nt_slices_Clone_nat_limbs_uint32 : Tryz.f222.ntmps = 8 := Tryz.ntmps222
theorem rs_slices_Clone_nat_limbs_uint32 : Tryz.f222.results = #[ResultVar.tmp 2] := Tryz.results222
abbrev n_slices_Backward_nat_limbs_uint32 : FuncId := 223
theorem fn_slices_Backward_nat_limbs_uint32 : C.P.funcs[223]? = some Tryz.f223 := Tryz.func223
theorem en_slices_Backward_nat_limbs_uint32 : Enters C.P 223 := Enters.mk fn_slices_Backward_nat_limbs_uint32 (by kernel_rfl) (by kernel_rfl)
theorem nt_slices_Backward_nat_limbs_uint32 : Tryz.f223.ntmps = 4 := Tryz.ntmps223
theorem rs_slices_Backward_nat_limbs_uint32 : Tryz.f223.results = #[ResultVar.tmp 2] := Tryz.results223
abbrev n_whole_digits_1 : FuncId := 224
theorem fn_whole_digits_1 : C.P.funcs[224]? = some Tryz.f224 := Tryz.func224
theorem en_whole_digits_1 : Enters C.P 224 := Enters.mk fn_whole_digits_1 (by kernel_rfl) (by kernel_rfl)
theorem nt_whole_digits_1 : Tryz.f224.ntmps = 62 := Tryz.ntmps224
theorem rs_whole_digits_1 : Tryz.f224.results = #[] := Tryz.results224
abbrev n_bits_Len32 : FuncId := 233
theorem fn_bits_Len32 : C.P.funcs[233]? = some Tryz.f233 := Tryz.func233
theorem en_bits_Len32 : Enters C.P 233 := Enters.mk fn_bits_Len32 (by kernel_rfl) (by kernel_rfl)
theorem nt_bits_Len32 : Tryz.f233.ntmps = 19 := Tryz.ntmps233
theorem rs_bits_Len32 : Tryz.f233.results = #[ResultVar.tmp 2] := Tryz.results233
abbrev n_bits_Len : FuncId := 234
theorem fn_bits_Len : C.P.funcs[234]? = some Tryz.f234 := Tryz.func234
theorem en_bits_Len : Enters C.P 234 := Enters.mk fn_bits_Len (by kernel_rfl) (by kernel_rfl)
theorem nt_bits_Len : Tryz.f234.ntmps = 8 := Tryz.ntmps234
theorem rs_bits_Len : Tryz.f234.results = #[ResultVar.tmp 2] := Tryz.results234
abbrev n_nat_limbs_long : FuncId := 235
theorem fn_nat_limbs_long : C.P.funcs[235]? = some Tryz.f235 := Tryz.func235
theorem en_nat_limbs_long : Enters C.P 235 := Enters.mk fn_nat_limbs_long (by kernel_rfl) (by kernel_rfl)
theorem nt_nat_limbs_long : Tryz.f235.ntmps = 80 := Tryz.ntmps235
theorem rs_nat_limbs_long : Tryz.f235.results = #[ResultVar.tmp 4, ResultVar.tmp 5] := Tryz.results235
abbrev n_nat_limbs_high : FuncId := 236
theorem fn_nat_limbs_high : C.P.funcs[236]? = some Tryz.f236 := Tryz.func236
theorem en_nat_limbs_high : Enters C.P 236 := Enters.mk fn_nat_limbs_high (by kernel_rfl) (by kernel_rfl)
theorem nt_nat_limbs_high : Tryz.f236.ntmps = 12 := Tryz.ntmps236
theorem rs_nat_limbs_high : Tryz.f236.results = #[ResultVar.tmp 4] := Tryz.results236
abbrev n_nat_limbs_low : FuncId := 237
theorem fn_nat_limbs_low : C.P.funcs[237]? = some Tryz.f237 := Tryz.func237
theorem en_nat_limbs_low : Enters C.P 237 := Enters.mk fn_nat_limbs_low (by kernel_rfl) (by kernel_rfl)
theorem nt_nat_limbs_low : Tryz.f237.ntmps = 13 := Tryz.ntmps237
theorem rs_nat_limbs_low : Tryz.f237.results = #[ResultVar.tmp 4] := Tryz.results237
abbrev n_nat_twice : FuncId := 238
theorem fn_nat_twice : C.P.funcs[238]? = some Tryz.f238 := Tryz.func238
theorem en_nat_twice : Enters C.P 238 := Enters.mk fn_nat_twice (by kernel_rfl) (by kernel_rfl)
theorem nt_nat_twice : Tryz.f238.ntmps = 61 := Tryz.ntmps238
theorem rs_nat_twice : Tryz.f238.results = #[ResultVar.tmp 8, ResultVar.tmp 9] := Tryz.results238
abbrev n_nat_limbs_karatsuba : FuncId := 239
theorem fn_nat_limbs_karatsuba : C.P.funcs[239]? = some Tryz.f239 := Tryz.func239
theorem en_nat_limbs_karatsuba : Enters C.P 239 := Enters.mk fn_nat_limbs_karatsuba (by kernel_rfl) (by kernel_rfl)
theorem nt_nat_limbs_karatsuba : Tryz.f239.ntmps = 77 := Tryz.ntmps239
theorem rs_nat_limbs_karatsuba : Tryz.f239.results = #[ResultVar.tmp 6] := Tryz.results239
abbrev n_slices_IndexFunc_api_Nat_api_Nat : FuncId := 240
theorem fn_slices_IndexFunc_api_Nat_api_Nat : C.P.funcs[240]? = some Tryz.f240 := Tryz.func240
theorem en_slices_IndexFunc_api_Nat_api_Nat : Enters C.P 240 := Enters.mk fn_slices_IndexFunc_api_Nat_api_Nat (by kernel_rfl) (by kernel_rfl)
theorem nt_slices_IndexFunc_api_Nat_api_Nat : Tryz.f240.ntmps = 19 := Tryz.ntmps240
theorem rs_slices_IndexFunc_api_Nat_api_Nat : Tryz.f240.results = #[ResultVar.tmp 4] := Tryz.results240
abbrev n_slices_Backward_nat_limbs_uint32_1 : FuncId := 241
theorem fn_slices_Backward_nat_limbs_uint32_1 : C.P.funcs[241]? = some Tryz.f241 := Tryz.func241
theorem en_slices_Backward_nat_limbs_uint32_1 : Enters C.P 241 := Enters.mk fn_slices_Backward_nat_limbs_uint32_1 (by kernel_rfl) (by kernel_rfl)
theorem nt_slices_Backward_nat_limbs_uint32_1 : Tryz.f241.ntmps = 19 := Tryz.ntmps241
theorem rs_slices_Backward_nat_limbs_uint32_1 : Tryz.f241.results = #[] := Tryz.results241
abbrev n_bits_Len64 : FuncId := 248
theorem fn_bits_Len64 : C.P.funcs[248]? = some Tryz.f248 := Tryz.func248
theorem en_bits_Len64 : Enters C.P 248 := Enters.mk fn_bits_Len64 (by kernel_rfl) (by kernel_rfl)
theorem nt_bits_Len64 : Tryz.f248.ntmps = 25 := Tryz.ntmps248
theorem rs_bits_Len64 : Tryz.f248.results = #[ResultVar.tmp 2] := Tryz.results248
abbrev n_nat_limbs_short : FuncId := 249
theorem fn_nat_limbs_short : C.P.funcs[249]? = some Tryz.f249 := Tryz.func249
theorem en_nat_limbs_short : Enters C.P 249 := Enters.mk fn_nat_limbs_short (by kernel_rfl) (by kernel_rfl)
theorem nt_nat_limbs_short : Tryz.f249.ntmps = 43 := Tryz.ntmps249
theorem rs_nat_limbs_short : Tryz.f249.results = #[ResultVar.tmp 4, ResultVar.tmp 5] := Tryz.results249
abbrev n_bits_LeadingZeros32 : FuncId := 250
theorem fn_bits_LeadingZeros32 : C.P.funcs[250]? = some Tryz.f250 := Tryz.func250
theorem en_bits_LeadingZeros32 : Enters C.P 250 := Enters.mk fn_bits_LeadingZeros32 (by kernel_rfl) (by kernel_rfl)
theorem nt_bits_LeadingZeros32 : Tryz.f250.ntmps = 6 := Tryz.ntmps250
theorem rs_bits_LeadingZeros32 : Tryz.f250.results = #[ResultVar.tmp 2] := Tryz.results250
abbrev n_nat_estimate : FuncId := 251
theorem fn_nat_estimate : C.P.funcs[251]? = some Tryz.f251 := Tryz.func251
theorem en_nat_estimate : Enters C.P 251 := Enters.mk fn_nat_estimate (by kernel_rfl) (by kernel_rfl)
theorem nt_nat_estimate : Tryz.f251.ntmps = 109 := Tryz.ntmps251
theorem rs_nat_estimate : Tryz.f251.results = #[ResultVar.tmp 4] := Tryz.results251
abbrev n_nat_thrice : FuncId := 252
theorem fn_nat_thrice : C.P.funcs[252]? = some Tryz.f252 := Tryz.func252
theorem en_nat_thrice : Enters C.P 252 := Enters.mk fn_nat_thrice (by kernel_rfl) (by kernel_rfl)
theorem nt_nat_thrice : Tryz.f252.ntmps = 79 := Tryz.ntmps252
theorem rs_nat_thrice : Tryz.f252.results = #[ResultVar.tmp 8, ResultVar.tmp 9] := Tryz.results252
abbrev n_nat_limbs_school : FuncId := 253
theorem fn_nat_limbs_school : C.P.funcs[253]? = some Tryz.f253 := Tryz.func253
theorem en_nat_limbs_school : Enters C.P 253 := Enters.mk fn_nat_limbs_school (by kernel_rfl) (by kernel_rfl)
theorem nt_nat_limbs_school : Tryz.f253.ntmps = 67 := Tryz.ntmps253
theorem rs_nat_limbs_school : Tryz.f253.results = #[ResultVar.tmp 4] := Tryz.results253
abbrev n_nat_takes : FuncId := 257
theorem fn_nat_takes : C.P.funcs[257]? = some Tryz.f257 := Tryz.func257
theorem en_nat_takes : Enters C.P 257 := Enters.mk fn_nat_takes (by kernel_rfl) (by kernel_rfl)
theorem nt_nat_takes : Tryz.f257.ntmps = 46 := Tryz.ntmps257
theorem rs_nat_takes : Tryz.f257.results = #[ResultVar.tmp 6] := Tryz.results257
end Go.V
/- MORE RULES: panics, slices' bounds, append, strings and bytes; statements that draw their order. -/
namespace Go.V
open Go.RowKit
section
variable {C : Ctx} {Q : Post} {ops : Array Oper} {rest : List Oper} {k : List Item} {env env' : List D} {H H' : Heap} {df : List ADef}
variable {dst : Option Tmp} {op : Op} {ty : TypeId} {pos : String} {aft : Array Edge} {gd : Option (Nat × Bool)} {d : D} {t : Tmp} {x y z : Operand} {T e : TypeId} {te tee : TE}
theorem o_panic {T : TypeId} {d : D} (hx : evO C env x = some (.iface T d)) : OpH C ⟨dst, .panic x, ty, pos, aft, gd⟩ env H (fun _ _ => False) (fun d' H' => d' = .iface T d ∧ H' = H) := by
  refine ⟨fun L0 w μ a hs hv => ?_⟩
  have ex := evO_ok hs hv hx
  have ex' := ex
  simp only [VR] at ex
  obtain ⟨u, ex, _⟩ := ex
  have hrun : (execOp a.eval ⟨dst, .panic x, ty, pos, aft, gd⟩).run C.P w = .halt (.panic (.iface T u)) w := by
    simp only [execOp, ex, Instr.panic, Sem.run_bind, run_goPanic, Result.andThen_halt]
  unfold Oper.wp
  rw [hrun]
  exact ⟨.iface T u, .iface T d, H, μ, rfl, rfl, ⟨rfl, rfl⟩, hs, by rw [← ex]; exact ex', Evo.refl _ _ _⟩
theorem x_panic {T : TypeId} {d : D} (hg : gOk ops.toList env gd = some true) (hx : evO C env x = some (.iface T d)) (hp : Q (.pan (.iface T d)) env H df) : AOps C Q ops (⟨dst, .panic x, ty, pos, aft, gd⟩ :: rest) k env H df :=
  AOps.opH hg (o_panic hx) (fun _ _ h => h.elim) (fun _ _ ⟨h1, h2⟩ => by subst h1; subst h2; exact hp)
/-- A slice whose memory is never written. -/
def asSl : D → Option (Nat × List D)
  | .sl n cs => some (n, cs)
  | .nilsl => some (0, [])
  | _ => none
theorem asSl_ok {w : World} {L : Nat → Prop} {μ : List Nat} {H : Heap} {d : D} {n : Nat} {cs : List D} {v : Value} (h : asSl d = some (n, cs)) (hv : VR w L μ H d v) :
    ∃ a cap, v = .slice a n cap ∧ n ≤ cap ∧ cap ≤ maxLen ∧ (cs ≠ [] → ∃ ad, a = some ad ∧ ad.block < w.heap.size ∧ ¬ L ad.block ∧ VRL w L ad 0 cs) := by
  unfold asSl at h
  split at h
  · injection h with h; injection h with h1 h2; subst h1; subst h2; simpa only [VR] using hv
  · injection h with h; injection h with h1 h2; subst h1; subst h2
    simp only [VR] at hv
    exact ⟨none, 0, hv, Nat.le_refl _, Nat.zero_le _, fun h => (h rfl).elim⟩
  · cases h
theorem VRL_take {w : World} {L : Nat → Prop} {ad : Addr} {cs : List D} (h : VRL w L ad 0 cs) (n : Nat) : VRL w L ad 0 (cs.take n) := by
  refine VRL_mk fun j d hd => ?_
  rw [List.getElem?_take] at hd
  split at hd
  · exact VRL_get h hd
  · cases hd
/-- What a slice expression's bound reads as. -/
def bndO (C : Ctx) (env : List D) (dflt : Nat) : Option Operand → Option Nat
  | none => some dflt
  | some x => match evO C env x with
    | some (.int _ i) => if 0 ≤ i then some i.toNat else none
    | _ => none
theorem sub_sl {w : World} {L : Nat → Prop} {μ : List Nat} {H : Heap} {a : Option Addr} {n cap lo hi sz : Nat} {cs : List D} (h1 : n ≤ cap) (h2 : cap ≤ maxLen) (h3 : cs ≠ [] → ∃ ad, a = some ad ∧ ad.block < w.heap.size ∧ ¬ L ad.block ∧ VRL w L ad 0 cs) (hl : lo ≤ hi) (hh : hi ≤ n) (hlen : cs.length = n * sz) :
    VR w L μ H (.sl (hi - lo) ((cs.take (hi * sz)).drop (lo * sz))) (sliced a lo hi cap sz) := by
  simp only [VR, sliced]
  refine ⟨_, _, rfl, by omega, by omega, fun hne => ?_⟩
  have hcs : cs ≠ [] := by rintro rfl; simp at hne
  have hlt : lo < hi := by
    rcases Nat.lt_or_ge lo hi with h | h
    · exact h
    · have : hi = lo := by omega
      subst this
      exfalso
      apply hne
      simp [List.drop_eq_nil_iff, List.length_take]
  obtain ⟨ad, rfl, k1, k2, k3⟩ := h3 hcs
  refine ⟨ad.add (lo * sz), by rw [if_neg (by omega)]; rfl, by rw [add_block]; exact k1, by rw [add_block]; exact k2, VRL_drop (VRL_take k3 _) _⟩
theorem o_slice {descE : TypeDesc} {sizeE bytesE : Nat} {zeroE : Value} {n lo hi : Nat} {cs : List D} {ol oh : Option Operand} (ht : UN C T (.slice e)) (hee : TIC C e descE sizeE bytesE zeroE) (hx : evO C env x = some d) (hd : asSl d = some (n, cs)) (hlo : bndO C env 0 ol = some lo) (hhi : bndO C env n oh = some hi) (hl : lo ≤ hi) (hh : hi ≤ n) (hlen : cs.length = n * sizeE) :
    OpQ C ⟨dst, .slice T x ol oh none, ty, pos, aft, gd⟩ env H (.sl (hi - lo) ((cs.take (hi * sizeE)).drop (lo * sizeE))) :=
  OpQ.of_run fun L w μ a he => by
    have ex := he _ _ hx
    obtain ⟨a', cap, ex, h1, h2, h3⟩ := asSl_ok hd ex
    have hsub := sub_sl (μ := μ) (H := H) h1 h2 h3 hl hh hlen
    refine ⟨_, ?_, hsub⟩
    have hte : C.P.elem T = e := by unfold Program.elem; rw [show C.P.underlying T = some (.slice e) from ht]
    have ht' : C.P.underlying T = some (.slice (C.P.elem T)) := by rw [hte]; exact ht
    have hsz : ∀ w, (sizeOf (C.P.elem T)).run C.P w = .ok sizeE w := fun w => by rw [hte]; exact hee.run_size w
    have key : (Instr.sliceAt T (.slice a' n cap) (ol.map a.eval) (oh.map a.eval) none).run C.P w = .ok (sliced a' lo hi cap sizeE) w := by
      rw [run_sliceAt_slice _ _ _ _ _ _ ht']
      cases ol with
      | none =>
        simp only [bndO] at hlo
        injection hlo with hlo
        subst hlo
        cases oh with
        | none =>
          simp only [bndO] at hhi
          injection hhi with hhi
          subst hhi
          simp only [Option.map_none]
          rw [run_slice_all _ _ _ _ _ ht', hsz]
          rfl
        | some q =>
          simp only [bndO] at hhi
          split at hhi
          · rename_i ik i hq
            split at hhi
            · rename_i h0
              injection hhi with hhi
              have eq := he _ _ hq
              simp only [VR] at eq
              simp only [Option.map_none, Option.map_some, eq]
              rw [run_slice_h _ _ _ _ _ ht' ik i h0 (by omega), hsz]
              simp [hhi]
            · cases hhi
          · cases hhi
      | some p =>
        simp only [bndO] at hlo
        split at hlo
        · rename_i ik i hp
          split at hlo
          · rename_i h0
            injection hlo with hlo
            have ep := he _ _ hp
            simp only [VR] at ep
            cases oh with
            | none =>
              simp only [bndO] at hhi
              injection hhi with hhi
              subst hhi
              simp only [Option.map_none, Option.map_some, ep]
              rw [run_slice_l _ _ _ _ _ ht' ik i h0 (by omega), hsz]
              simp [hlo]
            | some q =>
              simp only [bndO] at hhi
              split at hhi
              · rename_i ik' i' hq
                split at hhi
                · rename_i h0'
                  injection hhi with hhi
                  have eq := he _ _ hq
                  simp only [VR] at eq
                  simp only [Option.map_some, ep, eq]
                  rw [run_slice_lh _ _ _ _ _ ht' ik ik' i i' h0 (by omega) (by omega), hsz]
                  simp [hlo, hhi]
                · cases hhi
              · cases hhi
          · cases hlo
        · cases hlo
    simp only [execOp, ex, Sem.run_bind, Option.map_none, key, Result.andThen_ok, Sem.run_pure]
/-- The rows that are named are no longer written; where they stand in a slot, they are slices that are never written. -/
theorem AOps.frz {ids : List Nat} (hH : Go.V.frz H ids = H') (hz : FzL H env env' ids) (hk : AOps C Q ops rest k env' H' df) : AOps C Q ops rest k env H df := by
  subst hH
  refine ⟨fun i hi => ⟨fun L0 w0 μ0 H0 w μ a hs hv hd he b cs hrd => ?_⟩⟩
  obtain ⟨hs', he'⟩ := hs.weak (HWeak.frz (ids := ids))
  have st := he'.step L0
  exact (hk.out i hi).out L0 w0 μ0 H0 w μ a hs' (FzL.ok hs' hz (fun i hi o ho => frz_dead hi ho) (VRs.step st hv)) (DfR.step st hd) (he.trans he') b cs (hrd.step he'.map)
theorem ARun.frz {ids : List Nat} (hH : Go.V.frz H ids = H') (hz : FzL H env env' ids) (hk : ARun C Q k env' H' df) : ARun C Q k env H df := by
  subst hH
  refine ⟨fun L0 w0 μ0 H0 w μ a hs hv hd he b cs hrd => ?_⟩
  obtain ⟨hs', he'⟩ := hs.weak (HWeak.frz (ids := ids))
  have st := he'.step L0
  exact hk.out L0 w0 μ0 H0 w μ a hs' (FzL.ok hs' hz (fun i hi o ho => frz_dead hi ho) (VRs.step st hv)) (DfR.step st hd) (he.trans he') b cs (hrd.step he'.map)
end
end Go.V
