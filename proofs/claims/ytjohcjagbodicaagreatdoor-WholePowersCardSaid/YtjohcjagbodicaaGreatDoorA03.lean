/- A part of the proof: abstract values, rules for the steps of the program's form, and contracts of its functions, each proved; no condition. -/
import Derived.Test.YtjohcjagbodicaaGreatDoorA02
import Derived.Test.YtjohcjagbodicaaGreatDoorProg
set_option linter.unusedVariables false
set_option linter.unusedSimpArgs false
/- THE SEAT's TABLE, PRINTED BY seatv.py (a program of this session's): what each type is, by the translation's own facts; the functions, by name. -/
namespace Go.V
open Go.RowKit Go.Proofs
theorem te1 : TEok Tryz.prog 1 ⟨.other, 1, 8, .nilFunc⟩ := ⟨by kernel_rfl, ⟨_, Tryz.underlying1, rfl⟩⟩
theorem te2 : TEok Tryz.prog 2 ⟨.int .i64, 1, 8, .int .i64 0⟩ := ⟨by kernel_rfl, Tryz.underlying2⟩
theorem te3 : TEok Tryz.prog 3 ⟨.int .i64, 1, 8, .int .i64 0⟩ := ⟨by kernel_rfl, Tryz.underlying3⟩
theorem te4 : TEok Tryz.prog 4 ⟨.bool, 1, 1, .bool false⟩ := ⟨by kernel_rfl, Tryz.underlying4⟩
theorem te5 : TEok Tryz.prog 5 ⟨.int .u8, 1, 1, .int .u8 0⟩ := ⟨by kernel_rfl, Tryz.underlying5⟩
theorem te6 : TEok Tryz.prog 6 ⟨.int .u8, 1, 1, .int .u8 0⟩ := ⟨by kernel_rfl, Tryz.underlying6⟩
theorem te7 : TEok Tryz.prog 7 ⟨.struct [(0, 1), (1, 1), (2, 1), (3, 1)], 4, 24, .agg #[.int .i64 0, .int .i64 0, .bool false, .int .u8 0]⟩ := ⟨by kernel_rfl, ⟨_, Tryz.underlying7, by kernel_rfl⟩⟩
theorem te8 : TEok Tryz.prog 8 ⟨.struct [(0, 1), (1, 1), (2, 1), (3, 1)], 4, 24, .agg #[.int .i64 0, .int .i64 0, .bool false, .int .u8 0]⟩ := ⟨by kernel_rfl, ⟨_, Tryz.underlying8, by kernel_rfl⟩⟩
theorem te9 : TEok Tryz.prog 9 ⟨.str, 1, 16, .string ⟨#[]⟩⟩ := ⟨by kernel_rfl, Tryz.underlying9⟩
theorem te10 : TEok Tryz.prog 10 ⟨.str, 1, 16, .string ⟨#[]⟩⟩ := ⟨by kernel_rfl, Tryz.underlying10⟩
theorem te11 : TEok Tryz.prog 11 ⟨.str, 1, 16, .string ⟨#[]⟩⟩ := ⟨by kernel_rfl, Tryz.underlying11⟩
theorem te12 : TEok Tryz.prog 12 ⟨.int .u64, 1, 8, .int .u64 0⟩ := ⟨by kernel_rfl, Tryz.underlying12⟩
theorem te13 : TEok Tryz.prog 13 ⟨.struct [(0, 1), (1, 1)], 2, 24, .agg #[.string ⟨#[]⟩, .int .u64 0]⟩ := ⟨by kernel_rfl, ⟨_, Tryz.underlying13, by kernel_rfl⟩⟩
theorem te14 : TEok Tryz.prog 14 ⟨.struct [(0, 1), (1, 1)], 2, 24, .agg #[.string ⟨#[]⟩, .int .u64 0]⟩ := ⟨by kernel_rfl, ⟨_, Tryz.underlying14, by kernel_rfl⟩⟩
theorem te15 : TEok Tryz.prog 15 ⟨.ptr, 1, 8, .pointer none⟩ := ⟨by kernel_rfl, ⟨_, Tryz.underlying15⟩⟩
theorem te16 : TEok Tryz.prog 16 ⟨.ptr, 1, 8, .pointer none⟩ := ⟨by kernel_rfl, ⟨_, Tryz.underlying16⟩⟩
theorem te17 : TEok Tryz.prog 17 ⟨.ptr, 1, 8, .pointer none⟩ := ⟨by kernel_rfl, ⟨_, Tryz.underlying17⟩⟩
theorem te18 : TEok Tryz.prog 18 ⟨.struct [(0, 1)], 1, 8, .agg #[.pointer none]⟩ := ⟨by kernel_rfl, ⟨_, Tryz.underlying18, by kernel_rfl⟩⟩
theorem te19 : TEok Tryz.prog 19 ⟨.struct [(0, 1)], 1, 8, .agg #[.pointer none]⟩ := ⟨by kernel_rfl, ⟨_, Tryz.underlying19, by kernel_rfl⟩⟩
theorem te20 : TEok Tryz.prog 20 ⟨.other, 1, 16, .nilIface⟩ := ⟨by kernel_rfl, ⟨_, Tryz.underlying20, rfl⟩⟩
theorem te21 : TEok Tryz.prog 21 ⟨.int .i32, 1, 4, .int .i32 0⟩ := ⟨by kernel_rfl, Tryz.underlying21⟩
theorem te22 : TEok Tryz.prog 22 ⟨.slice 54, 1, 24, .slice none 0 0⟩ := ⟨by kernel_rfl, Tryz.underlying22⟩
theorem te23 : TEok Tryz.prog 23 ⟨.slice 54, 1, 24, .slice none 0 0⟩ := ⟨by kernel_rfl, Tryz.underlying23⟩
theorem te24 : TEok Tryz.prog 24 ⟨.struct [(0, 1), (1, 1)], 2, 32, .agg #[.bool false, .slice none 0 0]⟩ := ⟨by kernel_rfl, ⟨_, Tryz.underlying24, by kernel_rfl⟩⟩
theorem te25 : TEok Tryz.prog 25 ⟨.struct [(0, 1), (1, 1)], 2, 32, .agg #[.bool false, .slice none 0 0]⟩ := ⟨by kernel_rfl, ⟨_, Tryz.underlying25, by kernel_rfl⟩⟩
theorem te26 : TEok Tryz.prog 26 ⟨.other, 1, 8, .nilFunc⟩ := ⟨by kernel_rfl, ⟨_, Tryz.underlying26, rfl⟩⟩
theorem te27 : TEok Tryz.prog 27 ⟨.other, 1, 8, .nilFunc⟩ := ⟨by kernel_rfl, ⟨_, Tryz.underlying27, rfl⟩⟩
theorem te28 : TEok Tryz.prog 28 ⟨.int .i64, 1, 8, .int .i64 0⟩ := ⟨by kernel_rfl, Tryz.underlying28⟩
theorem te30 : TEok Tryz.prog 30 ⟨.other, 1, 8, .nilFunc⟩ := ⟨by kernel_rfl, ⟨_, Tryz.underlying30, rfl⟩⟩
theorem te31 : TEok Tryz.prog 31 ⟨.struct [(0, 2), (2, 2), (4, 1)], 5, 72, .agg #[.bool false, .slice none 0 0, .bool false, .slice none 0 0, .int .i64 0]⟩ := ⟨by kernel_rfl, ⟨_, Tryz.underlying31, by kernel_rfl⟩⟩
theorem te32 : TEok Tryz.prog 32 ⟨.struct [(0, 2), (2, 2), (4, 1)], 5, 72, .agg #[.bool false, .slice none 0 0, .bool false, .slice none 0 0, .int .i64 0]⟩ := ⟨by kernel_rfl, ⟨_, Tryz.underlying32, by kernel_rfl⟩⟩
theorem te33 : TEok Tryz.prog 33 ⟨.other, 1, 8, .nilFunc⟩ := ⟨by kernel_rfl, ⟨_, Tryz.underlying33, rfl⟩⟩
theorem te34 : TEok Tryz.prog 34 ⟨.other, 1, 8, .nilFunc⟩ := ⟨by kernel_rfl, ⟨_, Tryz.underlying34, rfl⟩⟩
theorem te35 : TEok Tryz.prog 35 ⟨.other, 1, 8, .nilFunc⟩ := ⟨by kernel_rfl, ⟨_, Tryz.underlying35, rfl⟩⟩
theorem te37 : TEok Tryz.prog 37 ⟨.other, 1, 8, .nilFunc⟩ := ⟨by kernel_rfl, ⟨_, Tryz.underlying37, rfl⟩⟩
theorem te38 : TEok Tryz.prog 38 ⟨.struct [(0, 2), (2, 2), (4, 2), (6, 1)], 7, 104, .agg #[.bool false, .slice none 0 0, .bool false, .slice none 0 0, .bool false, .slice none 0 0, .int .i64 0]⟩ := ⟨by kernel_rfl, ⟨_, Tryz.underlying38, by kernel_rfl⟩⟩
theorem te39 : TEok Tryz.prog 39 ⟨.struct [(0, 2), (2, 2), (4, 2), (6, 1)], 7, 104, .agg #[.bool false, .slice none 0 0, .bool false, .slice none 0 0, .bool false, .slice none 0 0, .int .i64 0]⟩ := ⟨by kernel_rfl, ⟨_, Tryz.underlying39, by kernel_rfl⟩⟩
theorem te40 : TEok Tryz.prog 40 ⟨.other, 1, 8, .nilFunc⟩ := ⟨by kernel_rfl, ⟨_, Tryz.underlying40, rfl⟩⟩
theorem te42 : TEok Tryz.prog 42 ⟨.other, 1, 8, .nilFunc⟩ := ⟨by kernel_rfl, ⟨_, Tryz.underlying42, rfl⟩⟩
theorem te43 : TEok Tryz.prog 43 ⟨.other, 1, 8, .nilFunc⟩ := ⟨by kernel_rfl, ⟨_, Tryz.underlying43, rfl⟩⟩
theorem te44 : TEok Tryz.prog 44 ⟨.struct [(0, 2), (2, 1)], 3, 40, .agg #[.bool false, .slice none 0 0, .int .i64 0]⟩ := ⟨by kernel_rfl, ⟨_, Tryz.underlying44, by kernel_rfl⟩⟩
theorem te45 : TEok Tryz.prog 45 ⟨.struct [(0, 2), (2, 1)], 3, 40, .agg #[.bool false, .slice none 0 0, .int .i64 0]⟩ := ⟨by kernel_rfl, ⟨_, Tryz.underlying45, by kernel_rfl⟩⟩
theorem te46 : TEok Tryz.prog 46 ⟨.other, 1, 8, .nilFunc⟩ := ⟨by kernel_rfl, ⟨_, Tryz.underlying46, rfl⟩⟩
theorem te47 : TEok Tryz.prog 47 ⟨.other, 1, 8, .nilFunc⟩ := ⟨by kernel_rfl, ⟨_, Tryz.underlying47, rfl⟩⟩
theorem te48 : TEok Tryz.prog 48 ⟨.other, 1, 8, .nilFunc⟩ := ⟨by kernel_rfl, ⟨_, Tryz.underlying48, rfl⟩⟩
theorem te49 : TEok Tryz.prog 49 ⟨.other, 1, 8, .nilFunc⟩ := ⟨by kernel_rfl, ⟨_, Tryz.underlying49, rfl⟩⟩
theorem te50 : TEok Tryz.prog 50 ⟨.slice 25, 1, 24, .slice none 0 0⟩ := ⟨by kernel_rfl, Tryz.underlying50⟩
theorem te51 : TEok Tryz.prog 51 ⟨.other, 1, 8, .nilFunc⟩ := ⟨by kernel_rfl, ⟨_, Tryz.underlying51, rfl⟩⟩
theorem te52 : TEok Tryz.prog 52 ⟨.other, 1, 8, .nilFunc⟩ := ⟨by kernel_rfl, ⟨_, Tryz.underlying52, rfl⟩⟩
theorem te53 : TEok Tryz.prog 53 ⟨.other, 1, 8, .nilFunc⟩ := ⟨by kernel_rfl, ⟨_, Tryz.underlying53, rfl⟩⟩
theorem te54 : TEok Tryz.prog 54 ⟨.int .u32, 1, 4, .int .u32 0⟩ := ⟨by kernel_rfl, Tryz.underlying54⟩
theorem te55 : TEok Tryz.prog 55 ⟨.other, 1, 8, .nilFunc⟩ := ⟨by kernel_rfl, ⟨_, Tryz.underlying55, rfl⟩⟩
theorem te57 : TEok Tryz.prog 57 ⟨.other, 1, 8, .nilFunc⟩ := ⟨by kernel_rfl, ⟨_, Tryz.underlying57, rfl⟩⟩
theorem te58 : TEok Tryz.prog 58 ⟨.other, 1, 8, .nilFunc⟩ := ⟨by kernel_rfl, ⟨_, Tryz.underlying58, rfl⟩⟩
theorem te59 : TEok Tryz.prog 59 ⟨.other, 1, 8, .nilFunc⟩ := ⟨by kernel_rfl, ⟨_, Tryz.underlying59, rfl⟩⟩
theorem te60 : TEok Tryz.prog 60 ⟨.other, 1, 8, .nilFunc⟩ := ⟨by kernel_rfl, ⟨_, Tryz.underlying60, rfl⟩⟩
theorem te61 : TEok Tryz.prog 61 ⟨.other, 1, 8, .nilFunc⟩ := ⟨by kernel_rfl, ⟨_, Tryz.underlying61, rfl⟩⟩
theorem te62 : TEok Tryz.prog 62 ⟨.other, 1, 8, .nilFunc⟩ := ⟨by kernel_rfl, ⟨_, Tryz.underlying62, rfl⟩⟩
theorem te64 : TEok Tryz.prog 64 ⟨.other, 1, 8, .nilFunc⟩ := ⟨by kernel_rfl, ⟨_, Tryz.underlying64, rfl⟩⟩
theorem te66 : TEok Tryz.prog 66 ⟨.other, 1, 8, .nilFunc⟩ := ⟨by kernel_rfl, ⟨_, Tryz.underlying66, rfl⟩⟩
theorem te67 : TEok Tryz.prog 67 ⟨.struct [(0, 2), (2, 1), (3, 1)], 4, 48, .agg #[.bool false, .slice none 0 0, .int .i64 0, .int .i64 0]⟩ := ⟨by kernel_rfl, ⟨_, Tryz.underlying67, by kernel_rfl⟩⟩
theorem te68 : TEok Tryz.prog 68 ⟨.struct [(0, 2), (2, 1), (3, 1)], 4, 48, .agg #[.bool false, .slice none 0 0, .int .i64 0, .int .i64 0]⟩ := ⟨by kernel_rfl, ⟨_, Tryz.underlying68, by kernel_rfl⟩⟩
theorem te69 : TEok Tryz.prog 69 ⟨.other, 1, 8, .nilFunc⟩ := ⟨by kernel_rfl, ⟨_, Tryz.underlying69, rfl⟩⟩
theorem te70 : TEok Tryz.prog 70 ⟨.other, 1, 8, .nilFunc⟩ := ⟨by kernel_rfl, ⟨_, Tryz.underlying70, rfl⟩⟩
theorem te71 : TEok Tryz.prog 71 ⟨.other, 1, 8, .nilFunc⟩ := ⟨by kernel_rfl, ⟨_, Tryz.underlying71, rfl⟩⟩
theorem te72 : TEok Tryz.prog 72 ⟨.other, 1, 8, .nilFunc⟩ := ⟨by kernel_rfl, ⟨_, Tryz.underlying72, rfl⟩⟩
theorem te73 : TEok Tryz.prog 73 ⟨.other, 1, 8, .nilFunc⟩ := ⟨by kernel_rfl, ⟨_, Tryz.underlying73, rfl⟩⟩
theorem te74 : TEok Tryz.prog 74 ⟨.other, 1, 8, .nilFunc⟩ := ⟨by kernel_rfl, ⟨_, Tryz.underlying74, rfl⟩⟩
theorem te75 : TEok Tryz.prog 75 ⟨.other, 1, 8, .nilFunc⟩ := ⟨by kernel_rfl, ⟨_, Tryz.underlying75, rfl⟩⟩
theorem te76 : TEok Tryz.prog 76 ⟨.other, 1, 8, .nilFunc⟩ := ⟨by kernel_rfl, ⟨_, Tryz.underlying76, rfl⟩⟩
theorem te77 : TEok Tryz.prog 77 ⟨.slice 3, 1, 24, .slice none 0 0⟩ := ⟨by kernel_rfl, Tryz.underlying77⟩
theorem te78 : TEok Tryz.prog 78 ⟨.other, 1, 8, .nilFunc⟩ := ⟨by kernel_rfl, ⟨_, Tryz.underlying78, rfl⟩⟩
theorem te79 : TEok Tryz.prog 79 ⟨.other, 1, 8, .nilFunc⟩ := ⟨by kernel_rfl, ⟨_, Tryz.underlying79, rfl⟩⟩
theorem te80 : TEok Tryz.prog 80 ⟨.other, 1, 8, .nilFunc⟩ := ⟨by kernel_rfl, ⟨_, Tryz.underlying80, rfl⟩⟩
theorem te81 : TEok Tryz.prog 81 ⟨.other, 1, 8, .nilFunc⟩ := ⟨by kernel_rfl, ⟨_, Tryz.underlying81, rfl⟩⟩
theorem te82 : TEok Tryz.prog 82 ⟨.other, 1, 8, .nilFunc⟩ := ⟨by kernel_rfl, ⟨_, Tryz.underlying82, rfl⟩⟩
theorem te84 : TEok Tryz.prog 84 ⟨.other, 1, 8, .nilFunc⟩ := ⟨by kernel_rfl, ⟨_, Tryz.underlying84, rfl⟩⟩
theorem te85 : TEok Tryz.prog 85 ⟨.other, 1, 8, .nilFunc⟩ := ⟨by kernel_rfl, ⟨_, Tryz.underlying85, rfl⟩⟩
theorem te86 : TEok Tryz.prog 86 ⟨.struct [(0, 1), (1, 1), (2, 1), (3, 1)], 4, 48, .agg #[.slice none 0 0, .int .i64 0, .bool false, .int .i64 0]⟩ := ⟨by kernel_rfl, ⟨_, Tryz.underlying86, by kernel_rfl⟩⟩
theorem te87 : TEok Tryz.prog 87 ⟨.struct [(0, 1), (1, 1), (2, 1), (3, 1)], 4, 48, .agg #[.slice none 0 0, .int .i64 0, .bool false, .int .i64 0]⟩ := ⟨by kernel_rfl, ⟨_, Tryz.underlying87, by kernel_rfl⟩⟩
theorem te89 : TEok Tryz.prog 89 ⟨.other, 1, 8, .nilFunc⟩ := ⟨by kernel_rfl, ⟨_, Tryz.underlying89, rfl⟩⟩
theorem te90 : TEok Tryz.prog 90 ⟨.struct [(0, 4), (4, 1), (5, 1)], 6, 64, .agg #[.slice none 0 0, .int .i64 0, .bool false, .int .i64 0, .int .i64 0, .int .i64 0]⟩ := ⟨by kernel_rfl, ⟨_, Tryz.underlying90, by kernel_rfl⟩⟩
theorem te91 : TEok Tryz.prog 91 ⟨.struct [(0, 4), (4, 1), (5, 1)], 6, 64, .agg #[.slice none 0 0, .int .i64 0, .bool false, .int .i64 0, .int .i64 0, .int .i64 0]⟩ := ⟨by kernel_rfl, ⟨_, Tryz.underlying91, by kernel_rfl⟩⟩
theorem te92 : TEok Tryz.prog 92 ⟨.other, 1, 8, .nilFunc⟩ := ⟨by kernel_rfl, ⟨_, Tryz.underlying92, rfl⟩⟩
theorem te93 : TEok Tryz.prog 93 ⟨.other, 1, 8, .nilFunc⟩ := ⟨by kernel_rfl, ⟨_, Tryz.underlying93, rfl⟩⟩
theorem te94 : TEok Tryz.prog 94 ⟨.struct [(0, 1), (1, 1)], 2, 16, .agg #[.int .i64 0, .bool false]⟩ := ⟨by kernel_rfl, ⟨_, Tryz.underlying94, by kernel_rfl⟩⟩
theorem te95 : TEok Tryz.prog 95 ⟨.struct [(0, 1), (1, 1)], 2, 16, .agg #[.int .i64 0, .bool false]⟩ := ⟨by kernel_rfl, ⟨_, Tryz.underlying95, by kernel_rfl⟩⟩
theorem te97 : TEok Tryz.prog 97 ⟨.other, 1, 8, .nilFunc⟩ := ⟨by kernel_rfl, ⟨_, Tryz.underlying97, rfl⟩⟩
theorem te98 : TEok Tryz.prog 98 ⟨.other, 1, 8, .nilFunc⟩ := ⟨by kernel_rfl, ⟨_, Tryz.underlying98, rfl⟩⟩
theorem te99 : TEok Tryz.prog 99 ⟨.other, 1, 8, .nilFunc⟩ := ⟨by kernel_rfl, ⟨_, Tryz.underlying99, rfl⟩⟩
theorem te100 : TEok Tryz.prog 100 ⟨.other, 1, 8, .nilFunc⟩ := ⟨by kernel_rfl, ⟨_, Tryz.underlying100, rfl⟩⟩
theorem te101 : TEok Tryz.prog 101 ⟨.ptr, 1, 8, .pointer none⟩ := ⟨by kernel_rfl, ⟨_, Tryz.underlying101⟩⟩
theorem te102 : TEok Tryz.prog 102 ⟨.other, 1, 8, .nilFunc⟩ := ⟨by kernel_rfl, ⟨_, Tryz.underlying102, rfl⟩⟩
theorem te103 : TEok Tryz.prog 103 ⟨.other, 1, 8, .nilFunc⟩ := ⟨by kernel_rfl, ⟨_, Tryz.underlying103, rfl⟩⟩
theorem te104 : TEok Tryz.prog 104 ⟨.struct [(0, 1)], 1, 8, .agg #[.nilFunc]⟩ := ⟨by kernel_rfl, ⟨_, Tryz.underlying104, by kernel_rfl⟩⟩
theorem te105 : TEok Tryz.prog 105 ⟨.struct [(0, 1)], 1, 8, .agg #[.nilFunc]⟩ := ⟨by kernel_rfl, ⟨_, Tryz.underlying105, by kernel_rfl⟩⟩
theorem te107 : TEok Tryz.prog 107 ⟨.other, 1, 8, .map none⟩ := ⟨by kernel_rfl, ⟨_, Tryz.underlying107, rfl⟩⟩
theorem te108 : TEok Tryz.prog 108 ⟨.other, 1, 8, .nilFunc⟩ := ⟨by kernel_rfl, ⟨_, Tryz.underlying108, rfl⟩⟩
theorem te109 : TEok Tryz.prog 109 ⟨.other, 1, 8, .nilFunc⟩ := ⟨by kernel_rfl, ⟨_, Tryz.underlying109, rfl⟩⟩
theorem te111 : TEok Tryz.prog 111 ⟨.other, 1, 8, .nilFunc⟩ := ⟨by kernel_rfl, ⟨_, Tryz.underlying111, rfl⟩⟩
theorem te112 : TEok Tryz.prog 112 ⟨.other, 1, 8, .nilFunc⟩ := ⟨by kernel_rfl, ⟨_, Tryz.underlying112, rfl⟩⟩
theorem te113 : TEok Tryz.prog 113 ⟨.other, 1, 8, .nilFunc⟩ := ⟨by kernel_rfl, ⟨_, Tryz.underlying113, rfl⟩⟩
theorem te114 : TEok Tryz.prog 114 ⟨.other, 1, 8, .nilFunc⟩ := ⟨by kernel_rfl, ⟨_, Tryz.underlying114, rfl⟩⟩
theorem te115 : TEok Tryz.prog 115 ⟨.other, 1, 8, .nilFunc⟩ := ⟨by kernel_rfl, ⟨_, Tryz.underlying115, rfl⟩⟩
theorem te116 : TEok Tryz.prog 116 ⟨.other, 1, 8, .nilFunc⟩ := ⟨by kernel_rfl, ⟨_, Tryz.underlying116, rfl⟩⟩
theorem te117 : TEok Tryz.prog 117 ⟨.other, 1, 8, .nilFunc⟩ := ⟨by kernel_rfl, ⟨_, Tryz.underlying117, rfl⟩⟩
theorem te118 : TEok Tryz.prog 118 ⟨.other, 1, 8, .nilFunc⟩ := ⟨by kernel_rfl, ⟨_, Tryz.underlying118, rfl⟩⟩
theorem te119 : TEok Tryz.prog 119 ⟨.other, 1, 8, .nilFunc⟩ := ⟨by kernel_rfl, ⟨_, Tryz.underlying119, rfl⟩⟩
theorem te120 : TEok Tryz.prog 120 ⟨.int .u64, 1, 8, .int .u64 0⟩ := ⟨by kernel_rfl, Tryz.underlying120⟩
theorem te122 : TEok Tryz.prog 122 ⟨.other, 1, 8, .nilFunc⟩ := ⟨by kernel_rfl, ⟨_, Tryz.underlying122, rfl⟩⟩
theorem te123 : TEok Tryz.prog 123 ⟨.other, 1, 8, .nilFunc⟩ := ⟨by kernel_rfl, ⟨_, Tryz.underlying123, rfl⟩⟩
theorem te124 : TEok Tryz.prog 124 ⟨.int .u64, 1, 8, .int .u64 0⟩ := ⟨by kernel_rfl, Tryz.underlying124⟩
theorem te125 : TEok Tryz.prog 125 ⟨.other, 1, 8, .nilFunc⟩ := ⟨by kernel_rfl, ⟨_, Tryz.underlying125, rfl⟩⟩
theorem te126 : TEok Tryz.prog 126 ⟨.other, 1, 8, .nilFunc⟩ := ⟨by kernel_rfl, ⟨_, Tryz.underlying126, rfl⟩⟩
theorem te128 : TEok Tryz.prog 128 ⟨.other, 1, 8, .nilFunc⟩ := ⟨by kernel_rfl, ⟨_, Tryz.underlying128, rfl⟩⟩
theorem te129 : TEok Tryz.prog 129 ⟨.other, 1, 8, .nilFunc⟩ := ⟨by kernel_rfl, ⟨_, Tryz.underlying129, rfl⟩⟩
theorem te130 : TEok Tryz.prog 130 ⟨.other, 1, 8, .nilFunc⟩ := ⟨by kernel_rfl, ⟨_, Tryz.underlying130, rfl⟩⟩
theorem te131 : TEok Tryz.prog 131 ⟨.other, 1, 8, .nilFunc⟩ := ⟨by kernel_rfl, ⟨_, Tryz.underlying131, rfl⟩⟩
theorem te132 : TEok Tryz.prog 132 ⟨.other, 1, 8, .nilFunc⟩ := ⟨by kernel_rfl, ⟨_, Tryz.underlying132, rfl⟩⟩
theorem te133 : TEok Tryz.prog 133 ⟨.other, 1, 8, .nilFunc⟩ := ⟨by kernel_rfl, ⟨_, Tryz.underlying133, rfl⟩⟩
theorem te134 : TEok Tryz.prog 134 ⟨.other, 1, 8, .nilFunc⟩ := ⟨by kernel_rfl, ⟨_, Tryz.underlying134, rfl⟩⟩
theorem te135 : TEok Tryz.prog 135 ⟨.ptr, 1, 8, .pointer none⟩ := ⟨by kernel_rfl, ⟨_, Tryz.underlying135⟩⟩
theorem te136 : TEok Tryz.prog 136 ⟨.ptr, 1, 8, .pointer none⟩ := ⟨by kernel_rfl, ⟨_, Tryz.underlying136⟩⟩
theorem te137 : TEok Tryz.prog 137 ⟨.struct [(0, 1), (1, 1)], 2, 24, .agg #[.string ⟨#[]⟩, .int .i64 0]⟩ := ⟨by kernel_rfl, ⟨_, Tryz.underlying137, by kernel_rfl⟩⟩
theorem te138 : TEok Tryz.prog 138 ⟨.struct [(0, 1), (1, 1)], 2, 24, .agg #[.string ⟨#[]⟩, .int .i64 0]⟩ := ⟨by kernel_rfl, ⟨_, Tryz.underlying138, by kernel_rfl⟩⟩
theorem te139 : TEok Tryz.prog 139 ⟨.other, 1, 8, .nilFunc⟩ := ⟨by kernel_rfl, ⟨_, Tryz.underlying139, rfl⟩⟩
theorem te140 : TEok Tryz.prog 140 ⟨.other, 1, 8, .nilFunc⟩ := ⟨by kernel_rfl, ⟨_, Tryz.underlying140, rfl⟩⟩
theorem te141 : TEok Tryz.prog 141 ⟨.other, 1, 8, .nilFunc⟩ := ⟨by kernel_rfl, ⟨_, Tryz.underlying141, rfl⟩⟩
theorem te142 : TEok Tryz.prog 142 ⟨.other, 1, 8, .nilFunc⟩ := ⟨by kernel_rfl, ⟨_, Tryz.underlying142, rfl⟩⟩
theorem te143 : TEok Tryz.prog 143 ⟨.other, 1, 8, .nilFunc⟩ := ⟨by kernel_rfl, ⟨_, Tryz.underlying143, rfl⟩⟩
theorem te144 : TEok Tryz.prog 144 ⟨.other, 1, 8, .nilFunc⟩ := ⟨by kernel_rfl, ⟨_, Tryz.underlying144, rfl⟩⟩
theorem te145 : TEok Tryz.prog 145 ⟨.other, 1, 8, .nilFunc⟩ := ⟨by kernel_rfl, ⟨_, Tryz.underlying145, rfl⟩⟩
theorem te147 : TEok Tryz.prog 147 ⟨.other, 1, 8, .nilFunc⟩ := ⟨by kernel_rfl, ⟨_, Tryz.underlying147, rfl⟩⟩
theorem te148 : TEok Tryz.prog 148 ⟨.other, 1, 8, .nilFunc⟩ := ⟨by kernel_rfl, ⟨_, Tryz.underlying148, rfl⟩⟩
theorem te149 : TEok Tryz.prog 149 ⟨.struct [(0, 1), (1, 1)], 2, 32, .agg #[.slice none 0 0, .int .u32 0]⟩ := ⟨by kernel_rfl, ⟨_, Tryz.underlying149, by kernel_rfl⟩⟩
theorem te150 : TEok Tryz.prog 150 ⟨.struct [(0, 1), (1, 1)], 2, 32, .agg #[.slice none 0 0, .int .u32 0]⟩ := ⟨by kernel_rfl, ⟨_, Tryz.underlying150, by kernel_rfl⟩⟩
theorem te151 : TEok Tryz.prog 151 ⟨.other, 1, 8, .nilFunc⟩ := ⟨by kernel_rfl, ⟨_, Tryz.underlying151, rfl⟩⟩
theorem te153 : TEok Tryz.prog 153 ⟨.other, 1, 8, .map none⟩ := ⟨by kernel_rfl, ⟨_, Tryz.underlying153, rfl⟩⟩
theorem te154 : TEok Tryz.prog 154 ⟨.other, 1, 8, .nilFunc⟩ := ⟨by kernel_rfl, ⟨_, Tryz.underlying154, rfl⟩⟩
theorem te155 : TEok Tryz.prog 155 ⟨.other, 1, 8, .nilFunc⟩ := ⟨by kernel_rfl, ⟨_, Tryz.underlying155, rfl⟩⟩
theorem te156 : TEok Tryz.prog 156 ⟨.other, 1, 8, .nilFunc⟩ := ⟨by kernel_rfl, ⟨_, Tryz.underlying156, rfl⟩⟩
theorem te157 : TEok Tryz.prog 157 ⟨.other, 1, 8, .nilFunc⟩ := ⟨by kernel_rfl, ⟨_, Tryz.underlying157, rfl⟩⟩
theorem te158 : TEok Tryz.prog 158 ⟨.other, 1, 8, .nilFunc⟩ := ⟨by kernel_rfl, ⟨_, Tryz.underlying158, rfl⟩⟩
theorem te159 : TEok Tryz.prog 159 ⟨.other, 1, 8, .nilFunc⟩ := ⟨by kernel_rfl, ⟨_, Tryz.underlying159, rfl⟩⟩
theorem te160 : TEok Tryz.prog 160 ⟨.other, 1, 8, .nilFunc⟩ := ⟨by kernel_rfl, ⟨_, Tryz.underlying160, rfl⟩⟩
theorem te162 : TEok Tryz.prog 162 ⟨.other, 1, 8, .nilFunc⟩ := ⟨by kernel_rfl, ⟨_, Tryz.underlying162, rfl⟩⟩
theorem te164 : TEok Tryz.prog 164 ⟨.other, 1, 8, .nilFunc⟩ := ⟨by kernel_rfl, ⟨_, Tryz.underlying164, rfl⟩⟩
theorem te166 : TEok Tryz.prog 166 ⟨.other, 1, 8, .nilFunc⟩ := ⟨by kernel_rfl, ⟨_, Tryz.underlying166, rfl⟩⟩
theorem te167 : TEok Tryz.prog 167 ⟨.other, 1, 8, .nilFunc⟩ := ⟨by kernel_rfl, ⟨_, Tryz.underlying167, rfl⟩⟩
theorem te168 : TEok Tryz.prog 168 ⟨.other, 1, 8, .nilFunc⟩ := ⟨by kernel_rfl, ⟨_, Tryz.underlying168, rfl⟩⟩
theorem te169 : TEok Tryz.prog 169 ⟨.struct [(0, 2), (2, 1)], 3, 24, .agg #[.int .i64 0, .bool false, .int .i64 0]⟩ := ⟨by kernel_rfl, ⟨_, Tryz.underlying169, by kernel_rfl⟩⟩
theorem te170 : TEok Tryz.prog 170 ⟨.array 6 169, 18, 144, .agg #[.int .i64 0, .bool false, .int .i64 0, .int .i64 0, .bool false, .int .i64 0, .int .i64 0, .bool false, .int .i64 0, .int .i64 0, .bool false, .int .i64 0, .int .i64 0, .bool false, .int .i64 0, .int .i64 0, .bool false, .int .i64 0]⟩ := ⟨by kernel_rfl, Tryz.underlying170⟩
theorem te171 : TEok Tryz.prog 171 ⟨.struct [(0, 1)], 1, 8, .agg #[.int .i64 0]⟩ := ⟨by kernel_rfl, ⟨_, Tryz.underlying171, by kernel_rfl⟩⟩
theorem te172 : TEok Tryz.prog 172 ⟨.struct [(0, 1)], 1, 8, .agg #[.int .i64 0]⟩ := ⟨by kernel_rfl, ⟨_, Tryz.underlying172, by kernel_rfl⟩⟩
theorem te173 : TEok Tryz.prog 173 ⟨.other, 1, 8, .nilFunc⟩ := ⟨by kernel_rfl, ⟨_, Tryz.underlying173, rfl⟩⟩
theorem te175 : TEok Tryz.prog 175 ⟨.other, 1, 8, .nilFunc⟩ := ⟨by kernel_rfl, ⟨_, Tryz.underlying175, rfl⟩⟩
theorem te176 : TEok Tryz.prog 176 ⟨.other, 1, 8, .nilFunc⟩ := ⟨by kernel_rfl, ⟨_, Tryz.underlying176, rfl⟩⟩
theorem te178 : TEok Tryz.prog 178 ⟨.struct [(0, 1), (1, 1)], 2, 48, .agg #[.slice none 0 0, .slice none 0 0]⟩ := ⟨by kernel_rfl, ⟨_, Tryz.underlying178, by kernel_rfl⟩⟩
theorem te179 : TEok Tryz.prog 179 ⟨.other, 1, 8, .nilFunc⟩ := ⟨by kernel_rfl, ⟨_, Tryz.underlying179, rfl⟩⟩
theorem te182 : TEok Tryz.prog 182 ⟨.other, 1, 8, .nilFunc⟩ := ⟨by kernel_rfl, ⟨_, Tryz.underlying182, rfl⟩⟩
theorem te183 : TEok Tryz.prog 183 ⟨.slice 54, 1, 24, .slice none 0 0⟩ := ⟨by kernel_rfl, Tryz.underlying183⟩
theorem te189 : TEok Tryz.prog 189 ⟨.other, 1, 8, .nilFunc⟩ := ⟨by kernel_rfl, ⟨_, Tryz.underlying189, rfl⟩⟩
theorem te192 : TEok Tryz.prog 192 ⟨.other, 1, 8, .nilFunc⟩ := ⟨by kernel_rfl, ⟨_, Tryz.underlying192, rfl⟩⟩
theorem te193 : TEok Tryz.prog 193 ⟨.other, 1, 8, .nilFunc⟩ := ⟨by kernel_rfl, ⟨_, Tryz.underlying193, rfl⟩⟩
theorem te194 : TEok Tryz.prog 194 ⟨.other, 1, 8, .nilFunc⟩ := ⟨by kernel_rfl, ⟨_, Tryz.underlying194, rfl⟩⟩
theorem te195 : TEok Tryz.prog 195 ⟨.struct [(0, 1), (1, 1)], 2, 16, .agg #[.nilFunc, .nilFunc]⟩ := ⟨by kernel_rfl, ⟨_, Tryz.underlying195, by kernel_rfl⟩⟩
theorem te196 : TEok Tryz.prog 196 ⟨.struct [(0, 1), (1, 1)], 2, 16, .agg #[.nilFunc, .nilFunc]⟩ := ⟨by kernel_rfl, ⟨_, Tryz.underlying196, by kernel_rfl⟩⟩
theorem te197 : TEok Tryz.prog 197 ⟨.slice 5, 1, 24, .slice none 0 0⟩ := ⟨by kernel_rfl, Tryz.underlying197⟩
theorem te198 : TEok Tryz.prog 198 ⟨.other, 1, 8, .nilFunc⟩ := ⟨by kernel_rfl, ⟨_, Tryz.underlying198, rfl⟩⟩
theorem te199 : TEok Tryz.prog 199 ⟨.other, 1, 8, .nilFunc⟩ := ⟨by kernel_rfl, ⟨_, Tryz.underlying199, rfl⟩⟩
theorem te200 : TEok Tryz.prog 200 ⟨.other, 1, 8, .nilFunc⟩ := ⟨by kernel_rfl, ⟨_, Tryz.underlying200, rfl⟩⟩
theorem te202 : TEok Tryz.prog 202 ⟨.ptr, 1, 8, .pointer none⟩ := ⟨by kernel_rfl, ⟨_, Tryz.underlying202⟩⟩
theorem te204 : TEok Tryz.prog 204 ⟨.struct [(0, 1), (1, 1)], 2, 32, .agg #[.pointer none, .slice none 0 0]⟩ := ⟨by kernel_rfl, ⟨_, Tryz.underlying204, by kernel_rfl⟩⟩
theorem te207 : TEok Tryz.prog 207 ⟨.other, 1, 16, .nilIface⟩ := ⟨by kernel_rfl, ⟨_, Tryz.underlying207, rfl⟩⟩
theorem te213 : TEok Tryz.prog 213 ⟨.other, 1, 8, .nilFunc⟩ := ⟨by kernel_rfl, ⟨_, Tryz.underlying213, rfl⟩⟩
theorem te216 : TEok Tryz.prog 216 ⟨.struct [(0, 1)], 1, 8, .agg #[.int .i64 0]⟩ := ⟨by kernel_rfl, ⟨_, Tryz.underlying216, by kernel_rfl⟩⟩
theorem te217 : TEok Tryz.prog 217 ⟨.other, 1, 8, .nilFunc⟩ := ⟨by kernel_rfl, ⟨_, Tryz.underlying217, rfl⟩⟩
theorem te224 : TEok Tryz.prog 224 ⟨.other, 1, 8, .nilFunc⟩ := ⟨by kernel_rfl, ⟨_, Tryz.underlying224, rfl⟩⟩
theorem te230 : TEok Tryz.prog 230 ⟨.struct [(0, 1)], 1, 8, .agg #[.int .i64 0]⟩ := ⟨by kernel_rfl, ⟨_, Tryz.underlying230, by kernel_rfl⟩⟩
theorem te232 : TEok Tryz.prog 232 ⟨.slice 23, 1, 24, .slice none 0 0⟩ := ⟨by kernel_rfl, Tryz.underlying232⟩
theorem te234 : TEok Tryz.prog 234 ⟨.other, 1, 8, .nilFunc⟩ := ⟨by kernel_rfl, ⟨_, Tryz.underlying234, rfl⟩⟩
theorem te235 : TEok Tryz.prog 235 ⟨.other, 1, 8, .nilFunc⟩ := ⟨by kernel_rfl, ⟨_, Tryz.underlying235, rfl⟩⟩
theorem te237 : TEok Tryz.prog 237 ⟨.other, 1, 8, .nilFunc⟩ := ⟨by kernel_rfl, ⟨_, Tryz.underlying237, rfl⟩⟩
theorem te241 : TEok Tryz.prog 241 ⟨.other, 1, 8, .nilFunc⟩ := ⟨by kernel_rfl, ⟨_, Tryz.underlying241, rfl⟩⟩
theorem te249 : TEok Tryz.prog 249 ⟨.other, 1, 8, .nilFunc⟩ := ⟨by kernel_rfl, ⟨_, Tryz.underlying249, rfl⟩⟩
theorem te250 : TEok Tryz.prog 250 ⟨.other, 1, 8, .nilFunc⟩ := ⟨by kernel_rfl, ⟨_, Tryz.underlying250, rfl⟩⟩
theorem te254 : TEok Tryz.prog 254 ⟨.other, 1, 8, .nilFunc⟩ := ⟨by kernel_rfl, ⟨_, Tryz.underlying254, rfl⟩⟩
theorem te256 : TEok Tryz.prog 256 ⟨.other, 1, 8, .nilFunc⟩ := ⟨by kernel_rfl, ⟨_, Tryz.underlying256, rfl⟩⟩
theorem te269 : TEok Tryz.prog 269 ⟨.array 3 21, 3, 12, .agg #[.int .i32 0, .int .i32 0, .int .i32 0]⟩ := ⟨by kernel_rfl, Tryz.underlying269⟩
theorem te270 : TEok Tryz.prog 270 ⟨.array 3 21, 3, 12, .agg #[.int .i32 0, .int .i32 0, .int .i32 0]⟩ := ⟨by kernel_rfl, Tryz.underlying270⟩
theorem te271 : TEok Tryz.prog 271 ⟨.struct [(0, 1), (1, 1), (2, 3)], 5, 20, .agg #[.int .u32 0, .int .u32 0, .int .i32 0, .int .i32 0, .int .i32 0]⟩ := ⟨by kernel_rfl, ⟨_, Tryz.underlying271, by kernel_rfl⟩⟩
abbrev t_int : TypeId := 3
abbrev t_uint8 : TypeId := 5
abbrev t_api_Nat : TypeId := 23
abbrev t_api_Int : TypeId := 25
abbrev t_api_Errno : TypeId := 28
abbrev t_sorobanref02_Got : TypeId := 45
abbrev t_uint32 : TypeId := 54
abbrev t_whole_kind : TypeId := 105
abbrev t_whole_failure : TypeId := 172
abbrev t_sorobanref01_Divided : TypeId := 178
abbrev t_nat_limbs : TypeId := 183
abbrev t_S_uint8 : TypeId := 197
abbrev t_nat_failure : TypeId := 230
noncomputable def tys : Tr := (.node 104 (.node 50 (.node 23 (.node 11 (.node 5 (.node 2 (.node 1 (.leaf 1 ⟨.other, 1, 8, .nilFunc⟩) (.leaf 2 ⟨.int .i64, 1, 8, .int .i64 0⟩)) (.node 3 (.leaf 3 ⟨.int .i64, 1, 8, .int .i64 0⟩) (.node 4 (.leaf 4 ⟨.bool, 1, 1, .bool false⟩) (.leaf 5 ⟨.int .u8, 1, 1, .int .u8 0⟩)))) (.node 8 (.node 6 (.leaf 6 ⟨.int .u8, 1, 1, .int .u8 0⟩) (.node 7 (.leaf 7 ⟨.struct [(0, 1), (1, 1), (2, 1), (3, 1)], 4, 24, .agg #[.int .i64 0, .int .i64 0, .bool false, .int .u8 0]⟩) (.leaf 8 ⟨.struct [(0, 1), (1, 1), (2, 1), (3, 1)], 4, 24, .agg #[.int .i64 0, .int .i64 0, .bool false, .int .u8 0]⟩))) (.node 9 (.leaf 9 ⟨.str, 1, 16, .string ⟨#[]⟩⟩) (.node 10 (.leaf 10 ⟨.str, 1, 16, .string ⟨#[]⟩⟩) (.leaf 11 ⟨.str, 1, 16, .string ⟨#[]⟩⟩))))) (.node 17 (.node 14 (.node 12 (.leaf 12 ⟨.int .u64, 1, 8, .int .u64 0⟩) (.node 13 (.leaf 13 ⟨.struct [(0, 1), (1, 1)], 2, 24, .agg #[.string ⟨#[]⟩, .int .u64 0]⟩) (.leaf 14 ⟨.struct [(0, 1), (1, 1)], 2, 24, .agg #[.string ⟨#[]⟩, .int .u64 0]⟩))) (.node 15 (.leaf 15 ⟨.ptr, 1, 8, .pointer none⟩) (.node 16 (.leaf 16 ⟨.ptr, 1, 8, .pointer none⟩) (.leaf 17 ⟨.ptr, 1, 8, .pointer none⟩)))) (.node 20 (.node 18 (.leaf 18 ⟨.struct [(0, 1)], 1, 8, .agg #[.pointer none]⟩) (.node 19 (.leaf 19 ⟨.struct [(0, 1)], 1, 8, .agg #[.pointer none]⟩) (.leaf 20 ⟨.other, 1, 16, .nilIface⟩))) (.node 21 (.leaf 21 ⟨.int .i32, 1, 4, .int .i32 0⟩) (.node 22 (.leaf 22 ⟨.slice 54, 1, 24, .slice none 0 0⟩) (.leaf 23 ⟨.slice 54, 1, 24, .slice none 0 0⟩)))))) (.node 37 (.node 30 (.node 26 (.node 24 (.leaf 24 ⟨.struct [(0, 1), (1, 1)], 2, 32, .agg #[.bool false, .slice none 0 0]⟩) (.node 25 (.leaf 25 ⟨.struct [(0, 1), (1, 1)], 2, 32, .agg #[.bool false, .slice none 0 0]⟩) (.leaf 26 ⟨.other, 1, 8, .nilFunc⟩))) (.node 27 (.leaf 27 ⟨.other, 1, 8, .nilFunc⟩) (.node 28 (.leaf 28 ⟨.int .i64, 1, 8, .int .i64 0⟩) (.leaf 30 ⟨.other, 1, 8, .nilFunc⟩)))) (.node 33 (.node 31 (.leaf 31 ⟨.struct [(0, 2), (2, 2), (4, 1)], 5, 72, .agg #[.bool false, .slice none 0 0, .bool false, .slice none 0 0, .int .i64 0]⟩) (.node 32 (.leaf 32 ⟨.struct [(0, 2), (2, 2), (4, 1)], 5, 72, .agg #[.bool false, .slice none 0 0, .bool false, .slice none 0 0, .int .i64 0]⟩) (.leaf 33 ⟨.other, 1, 8, .nilFunc⟩))) (.node 34 (.leaf 34 ⟨.other, 1, 8, .nilFunc⟩) (.node 35 (.leaf 35 ⟨.other, 1, 8, .nilFunc⟩) (.leaf 37 ⟨.other, 1, 8, .nilFunc⟩))))) (.node 44 (.node 40 (.node 38 (.leaf 38 ⟨.struct [(0, 2), (2, 2), (4, 2), (6, 1)], 7, 104, .agg #[.bool false, .slice none 0 0, .bool false, .slice none 0 0, .bool false, .slice none 0 0, .int .i64 0]⟩) (.node 39 (.leaf 39 ⟨.struct [(0, 2), (2, 2), (4, 2), (6, 1)], 7, 104, .agg #[.bool false, .slice none 0 0, .bool false, .slice none 0 0, .bool false, .slice none 0 0, .int .i64 0]⟩) (.leaf 40 ⟨.other, 1, 8, .nilFunc⟩))) (.node 42 (.leaf 42 ⟨.other, 1, 8, .nilFunc⟩) (.node 43 (.leaf 43 ⟨.other, 1, 8, .nilFunc⟩) (.leaf 44 ⟨.struct [(0, 2), (2, 1)], 3, 40, .agg #[.bool false, .slice none 0 0, .int .i64 0]⟩)))) (.node 47 (.node 45 (.leaf 45 ⟨.struct [(0, 2), (2, 1)], 3, 40, .agg #[.bool false, .slice none 0 0, .int .i64 0]⟩) (.node 46 (.leaf 46 ⟨.other, 1, 8, .nilFunc⟩) (.leaf 47 ⟨.other, 1, 8, .nilFunc⟩))) (.node 48 (.leaf 48 ⟨.other, 1, 8, .nilFunc⟩) (.node 49 (.leaf 49 ⟨.other, 1, 8, .nilFunc⟩) (.leaf 50 ⟨.slice 25, 1, 24, .slice none 0 0⟩))))))) (.node 77 (.node 64 (.node 57 (.node 53 (.node 51 (.leaf 51 ⟨.other, 1, 8, .nilFunc⟩) (.node 52 (.leaf 52 ⟨.other, 1, 8, .nilFunc⟩) (.leaf 53 ⟨.other, 1, 8, .nilFunc⟩))) (.node 54 (.leaf 54 ⟨.int .u32, 1, 4, .int .u32 0⟩) (.node 55 (.leaf 55 ⟨.other, 1, 8, .nilFunc⟩) (.leaf 57 ⟨.other, 1, 8, .nilFunc⟩)))) (.node 60 (.node 58 (.leaf 58 ⟨.other, 1, 8, .nilFunc⟩) (.node 59 (.leaf 59 ⟨.other, 1, 8, .nilFunc⟩) (.leaf 60 ⟨.other, 1, 8, .nilFunc⟩))) (.node 61 (.leaf 61 ⟨.other, 1, 8, .nilFunc⟩) (.node 62 (.leaf 62 ⟨.other, 1, 8, .nilFunc⟩) (.leaf 64 ⟨.other, 1, 8, .nilFunc⟩))))) (.node 71 (.node 68 (.node 66 (.leaf 66 ⟨.other, 1, 8, .nilFunc⟩) (.node 67 (.leaf 67 ⟨.struct [(0, 2), (2, 1), (3, 1)], 4, 48, .agg #[.bool false, .slice none 0 0, .int .i64 0, .int .i64 0]⟩) (.leaf 68 ⟨.struct [(0, 2), (2, 1), (3, 1)], 4, 48, .agg #[.bool false, .slice none 0 0, .int .i64 0, .int .i64 0]⟩))) (.node 69 (.leaf 69 ⟨.other, 1, 8, .nilFunc⟩) (.node 70 (.leaf 70 ⟨.other, 1, 8, .nilFunc⟩) (.leaf 71 ⟨.other, 1, 8, .nilFunc⟩)))) (.node 74 (.node 72 (.leaf 72 ⟨.other, 1, 8, .nilFunc⟩) (.node 73 (.leaf 73 ⟨.other, 1, 8, .nilFunc⟩) (.leaf 74 ⟨.other, 1, 8, .nilFunc⟩))) (.node 75 (.leaf 75 ⟨.other, 1, 8, .nilFunc⟩) (.node 76 (.leaf 76 ⟨.other, 1, 8, .nilFunc⟩) (.leaf 77 ⟨.slice 3, 1, 24, .slice none 0 0⟩)))))) (.node 91 (.node 84 (.node 80 (.node 78 (.leaf 78 ⟨.other, 1, 8, .nilFunc⟩) (.node 79 (.leaf 79 ⟨.other, 1, 8, .nilFunc⟩) (.leaf 80 ⟨.other, 1, 8, .nilFunc⟩))) (.node 81 (.leaf 81 ⟨.other, 1, 8, .nilFunc⟩) (.node 82 (.leaf 82 ⟨.other, 1, 8, .nilFunc⟩) (.leaf 84 ⟨.other, 1, 8, .nilFunc⟩)))) (.node 87 (.node 85 (.leaf 85 ⟨.other, 1, 8, .nilFunc⟩) (.node 86 (.leaf 86 ⟨.struct [(0, 1), (1, 1), (2, 1), (3, 1)], 4, 48, .agg #[.slice none 0 0, .int .i64 0, .bool false, .int .i64 0]⟩) (.leaf 87 ⟨.struct [(0, 1), (1, 1), (2, 1), (3, 1)], 4, 48, .agg #[.slice none 0 0, .int .i64 0, .bool false, .int .i64 0]⟩))) (.node 89 (.leaf 89 ⟨.other, 1, 8, .nilFunc⟩) (.node 90 (.leaf 90 ⟨.struct [(0, 4), (4, 1), (5, 1)], 6, 64, .agg #[.slice none 0 0, .int .i64 0, .bool false, .int .i64 0, .int .i64 0, .int .i64 0]⟩) (.leaf 91 ⟨.struct [(0, 4), (4, 1), (5, 1)], 6, 64, .agg #[.slice none 0 0, .int .i64 0, .bool false, .int .i64 0, .int .i64 0, .int .i64 0]⟩))))) (.node 98 (.node 94 (.node 92 (.leaf 92 ⟨.other, 1, 8, .nilFunc⟩) (.node 93 (.leaf 93 ⟨.other, 1, 8, .nilFunc⟩) (.leaf 94 ⟨.struct [(0, 1), (1, 1)], 2, 16, .agg #[.int .i64 0, .bool false]⟩))) (.node 95 (.leaf 95 ⟨.struct [(0, 1), (1, 1)], 2, 16, .agg #[.int .i64 0, .bool false]⟩) (.node 97 (.leaf 97 ⟨.other, 1, 8, .nilFunc⟩) (.leaf 98 ⟨.other, 1, 8, .nilFunc⟩)))) (.node 101 (.node 99 (.leaf 99 ⟨.other, 1, 8, .nilFunc⟩) (.node 100 (.leaf 100 ⟨.other, 1, 8, .nilFunc⟩) (.leaf 101 ⟨.ptr, 1, 8, .pointer none⟩))) (.node 102 (.leaf 102 ⟨.other, 1, 8, .nilFunc⟩) (.node 103 (.leaf 103 ⟨.other, 1, 8, .nilFunc⟩) (.leaf 104 ⟨.struct [(0, 1)], 1, 8, .agg #[.nilFunc]⟩)))))))) (.node 158 (.node 132 (.node 118 (.node 112 (.node 108 (.node 105 (.leaf 105 ⟨.struct [(0, 1)], 1, 8, .agg #[.nilFunc]⟩) (.node 107 (.leaf 107 ⟨.other, 1, 8, .map none⟩) (.leaf 108 ⟨.other, 1, 8, .nilFunc⟩))) (.node 109 (.leaf 109 ⟨.other, 1, 8, .nilFunc⟩) (.node 111 (.leaf 111 ⟨.other, 1, 8, .nilFunc⟩) (.leaf 112 ⟨.other, 1, 8, .nilFunc⟩)))) (.node 115 (.node 113 (.leaf 113 ⟨.other, 1, 8, .nilFunc⟩) (.node 114 (.leaf 114 ⟨.other, 1, 8, .nilFunc⟩) (.leaf 115 ⟨.other, 1, 8, .nilFunc⟩))) (.node 116 (.leaf 116 ⟨.other, 1, 8, .nilFunc⟩) (.node 117 (.leaf 117 ⟨.other, 1, 8, .nilFunc⟩) (.leaf 118 ⟨.other, 1, 8, .nilFunc⟩))))) (.node 125 (.node 122 (.node 119 (.leaf 119 ⟨.other, 1, 8, .nilFunc⟩) (.node 120 (.leaf 120 ⟨.int .u64, 1, 8, .int .u64 0⟩) (.leaf 122 ⟨.other, 1, 8, .nilFunc⟩))) (.node 123 (.leaf 123 ⟨.other, 1, 8, .nilFunc⟩) (.node 124 (.leaf 124 ⟨.int .u64, 1, 8, .int .u64 0⟩) (.leaf 125 ⟨.other, 1, 8, .nilFunc⟩)))) (.node 129 (.node 126 (.leaf 126 ⟨.other, 1, 8, .nilFunc⟩) (.node 128 (.leaf 128 ⟨.other, 1, 8, .nilFunc⟩) (.leaf 129 ⟨.other, 1, 8, .nilFunc⟩))) (.node 130 (.leaf 130 ⟨.other, 1, 8, .nilFunc⟩) (.node 131 (.leaf 131 ⟨.other, 1, 8, .nilFunc⟩) (.leaf 132 ⟨.other, 1, 8, .nilFunc⟩)))))) (.node 144 (.node 138 (.node 135 (.node 133 (.leaf 133 ⟨.other, 1, 8, .nilFunc⟩) (.node 134 (.leaf 134 ⟨.other, 1, 8, .nilFunc⟩) (.leaf 135 ⟨.ptr, 1, 8, .pointer none⟩))) (.node 136 (.leaf 136 ⟨.ptr, 1, 8, .pointer none⟩) (.node 137 (.leaf 137 ⟨.struct [(0, 1), (1, 1)], 2, 24, .agg #[.string ⟨#[]⟩, .int .i64 0]⟩) (.leaf 138 ⟨.struct [(0, 1), (1, 1)], 2, 24, .agg #[.string ⟨#[]⟩, .int .i64 0]⟩)))) (.node 141 (.node 139 (.leaf 139 ⟨.other, 1, 8, .nilFunc⟩) (.node 140 (.leaf 140 ⟨.other, 1, 8, .nilFunc⟩) (.leaf 141 ⟨.other, 1, 8, .nilFunc⟩))) (.node 142 (.leaf 142 ⟨.other, 1, 8, .nilFunc⟩) (.node 143 (.leaf 143 ⟨.other, 1, 8, .nilFunc⟩) (.leaf 144 ⟨.other, 1, 8, .nilFunc⟩))))) (.node 151 (.node 148 (.node 145 (.leaf 145 ⟨.other, 1, 8, .nilFunc⟩) (.node 147 (.leaf 147 ⟨.other, 1, 8, .nilFunc⟩) (.leaf 148 ⟨.other, 1, 8, .nilFunc⟩))) (.node 149 (.leaf 149 ⟨.struct [(0, 1), (1, 1)], 2, 32, .agg #[.slice none 0 0, .int .u32 0]⟩) (.node 150 (.leaf 150 ⟨.struct [(0, 1), (1, 1)], 2, 32, .agg #[.slice none 0 0, .int .u32 0]⟩) (.leaf 151 ⟨.other, 1, 8, .nilFunc⟩)))) (.node 155 (.node 153 (.leaf 153 ⟨.other, 1, 8, .map none⟩) (.node 154 (.leaf 154 ⟨.other, 1, 8, .nilFunc⟩) (.leaf 155 ⟨.other, 1, 8, .nilFunc⟩))) (.node 156 (.leaf 156 ⟨.other, 1, 8, .nilFunc⟩) (.node 157 (.leaf 157 ⟨.other, 1, 8, .nilFunc⟩) (.leaf 158 ⟨.other, 1, 8, .nilFunc⟩))))))) (.node 196 (.node 173 (.node 167 (.node 162 (.node 159 (.leaf 159 ⟨.other, 1, 8, .nilFunc⟩) (.node 160 (.leaf 160 ⟨.other, 1, 8, .nilFunc⟩) (.leaf 162 ⟨.other, 1, 8, .nilFunc⟩))) (.node 164 (.leaf 164 ⟨.other, 1, 8, .nilFunc⟩) (.node 166 (.leaf 166 ⟨.other, 1, 8, .nilFunc⟩) (.leaf 167 ⟨.other, 1, 8, .nilFunc⟩)))) (.node 170 (.node 168 (.leaf 168 ⟨.other, 1, 8, .nilFunc⟩) (.node 169 (.leaf 169 ⟨.struct [(0, 2), (2, 1)], 3, 24, .agg #[.int .i64 0, .bool false, .int .i64 0]⟩) (.leaf 170 ⟨.array 6 169, 18, 144, .agg #[.int .i64 0, .bool false, .int .i64 0, .int .i64 0, .bool false, .int .i64 0, .int .i64 0, .bool false, .int .i64 0, .int .i64 0, .bool false, .int .i64 0, .int .i64 0, .bool false, .int .i64 0, .int .i64 0, .bool false, .int .i64 0]⟩))) (.node 171 (.leaf 171 ⟨.struct [(0, 1)], 1, 8, .agg #[.int .i64 0]⟩) (.node 172 (.leaf 172 ⟨.struct [(0, 1)], 1, 8, .agg #[.int .i64 0]⟩) (.leaf 173 ⟨.other, 1, 8, .nilFunc⟩))))) (.node 183 (.node 178 (.node 175 (.leaf 175 ⟨.other, 1, 8, .nilFunc⟩) (.node 176 (.leaf 176 ⟨.other, 1, 8, .nilFunc⟩) (.leaf 178 ⟨.struct [(0, 1), (1, 1)], 2, 48, .agg #[.slice none 0 0, .slice none 0 0]⟩))) (.node 179 (.leaf 179 ⟨.other, 1, 8, .nilFunc⟩) (.node 182 (.leaf 182 ⟨.other, 1, 8, .nilFunc⟩) (.leaf 183 ⟨.slice 54, 1, 24, .slice none 0 0⟩)))) (.node 193 (.node 189 (.leaf 189 ⟨.other, 1, 8, .nilFunc⟩) (.node 192 (.leaf 192 ⟨.other, 1, 8, .nilFunc⟩) (.leaf 193 ⟨.other, 1, 8, .nilFunc⟩))) (.node 194 (.leaf 194 ⟨.other, 1, 8, .nilFunc⟩) (.node 195 (.leaf 195 ⟨.struct [(0, 1), (1, 1)], 2, 16, .agg #[.nilFunc, .nilFunc]⟩) (.leaf 196 ⟨.struct [(0, 1), (1, 1)], 2, 16, .agg #[.nilFunc, .nilFunc]⟩)))))) (.node 230 (.node 204 (.node 199 (.node 197 (.leaf 197 ⟨.slice 5, 1, 24, .slice none 0 0⟩) (.node 198 (.leaf 198 ⟨.other, 1, 8, .nilFunc⟩) (.leaf 199 ⟨.other, 1, 8, .nilFunc⟩))) (.node 200 (.leaf 200 ⟨.other, 1, 8, .nilFunc⟩) (.node 202 (.leaf 202 ⟨.ptr, 1, 8, .pointer none⟩) (.leaf 204 ⟨.struct [(0, 1), (1, 1)], 2, 32, .agg #[.pointer none, .slice none 0 0]⟩)))) (.node 216 (.node 207 (.leaf 207 ⟨.other, 1, 16, .nilIface⟩) (.node 213 (.leaf 213 ⟨.other, 1, 8, .nilFunc⟩) (.leaf 216 ⟨.struct [(0, 1)], 1, 8, .agg #[.int .i64 0]⟩))) (.node 217 (.leaf 217 ⟨.other, 1, 8, .nilFunc⟩) (.node 224 (.leaf 224 ⟨.other, 1, 8, .nilFunc⟩) (.leaf 230 ⟨.struct [(0, 1)], 1, 8, .agg #[.int .i64 0]⟩))))) (.node 249 (.node 235 (.node 232 (.leaf 232 ⟨.slice 23, 1, 24, .slice none 0 0⟩) (.node 234 (.leaf 234 ⟨.other, 1, 8, .nilFunc⟩) (.leaf 235 ⟨.other, 1, 8, .nilFunc⟩))) (.node 237 (.leaf 237 ⟨.other, 1, 8, .nilFunc⟩) (.node 241 (.leaf 241 ⟨.other, 1, 8, .nilFunc⟩) (.leaf 249 ⟨.other, 1, 8, .nilFunc⟩)))) (.node 256 (.node 250 (.leaf 250 ⟨.other, 1, 8, .nilFunc⟩) (.node 254 (.leaf 254 ⟨.other, 1, 8, .nilFunc⟩) (.leaf 256 ⟨.other, 1, 8, .nilFunc⟩))) (.node 269 (.leaf 269 ⟨.array 3 21, 3, 12, .agg #[.int .i32 0, .int .i32 0, .int .i32 0]⟩) (.node 270 (.leaf 270 ⟨.array 3 21, 3, 12, .agg #[.int .i32 0, .int .i32 0, .int .i32 0]⟩) (.leaf 271 ⟨.struct [(0, 1), (1, 1), (2, 3)], 5, 20, .agg #[.int .u32 0, .int .u32 0, .int .i32 0, .int .i32 0, .int .i32 0]⟩)))))))))
theorem tysOk : tys.All Tryz.prog := ⟨⟨⟨⟨⟨⟨⟨te1, te2⟩, ⟨te3, ⟨te4, te5⟩⟩⟩, ⟨⟨te6, ⟨te7, te8⟩⟩, ⟨te9, ⟨te10, te11⟩⟩⟩⟩, ⟨⟨⟨te12, ⟨te13, te14⟩⟩, ⟨te15, ⟨te16, te17⟩⟩⟩, ⟨⟨te18, ⟨te19, te20⟩⟩, ⟨te21, ⟨te22, te23⟩⟩⟩⟩⟩, ⟨⟨⟨⟨te24, ⟨te25, te26⟩⟩, ⟨te27, ⟨te28, te30⟩⟩⟩, ⟨⟨te31, ⟨te32, te33⟩⟩, ⟨te34, ⟨te35, te37⟩⟩⟩⟩, ⟨⟨⟨te38, ⟨te39, te40⟩⟩, ⟨te42, ⟨te43, te44⟩⟩⟩, ⟨⟨te45, ⟨te46, te47⟩⟩, ⟨te48, ⟨te49, te50⟩⟩⟩⟩⟩⟩, ⟨⟨⟨⟨⟨te51, ⟨te52, te53⟩⟩, ⟨te54, ⟨te55, te57⟩⟩⟩, ⟨⟨te58, ⟨te59, te60⟩⟩, ⟨te61, ⟨te62, te64⟩⟩⟩⟩, ⟨⟨⟨te66, ⟨te67, te68⟩⟩, ⟨te69, ⟨te70, te71⟩⟩⟩, ⟨⟨te72, ⟨te73, te74⟩⟩, ⟨te75, ⟨te76, te77⟩⟩⟩⟩⟩, ⟨⟨⟨⟨te78, ⟨te79, te80⟩⟩, ⟨te81, ⟨te82, te84⟩⟩⟩, ⟨⟨te85, ⟨te86, te87⟩⟩, ⟨te89, ⟨te90, te91⟩⟩⟩⟩, ⟨⟨⟨te92, ⟨te93, te94⟩⟩, ⟨te95, ⟨te97, te98⟩⟩⟩, ⟨⟨te99, ⟨te100, te101⟩⟩, ⟨te102, ⟨te103, te104⟩⟩⟩⟩⟩⟩⟩, ⟨⟨⟨⟨⟨⟨te105, ⟨te107, te108⟩⟩, ⟨te109, ⟨te111, te112⟩⟩⟩, ⟨⟨te113, ⟨te114, te115⟩⟩, ⟨te116, ⟨te117, te118⟩⟩⟩⟩, ⟨⟨⟨te119, ⟨te120, te122⟩⟩, ⟨te123, ⟨te124, te125⟩⟩⟩, ⟨⟨te126, ⟨te128, te129⟩⟩, ⟨te130, ⟨te131, te132⟩⟩⟩⟩⟩, ⟨⟨⟨⟨te133, ⟨te134, te135⟩⟩, ⟨te136, ⟨te137, te138⟩⟩⟩, ⟨⟨te139, ⟨te140, te141⟩⟩, ⟨te142, ⟨te143, te144⟩⟩⟩⟩, ⟨⟨⟨te145, ⟨te147, te148⟩⟩, ⟨te149, ⟨te150, te151⟩⟩⟩, ⟨⟨te153, ⟨te154, te155⟩⟩, ⟨te156, ⟨te157, te158⟩⟩⟩⟩⟩⟩, ⟨⟨⟨⟨⟨te159, ⟨te160, te162⟩⟩, ⟨te164, ⟨te166, te167⟩⟩⟩, ⟨⟨te168, ⟨te169, te170⟩⟩, ⟨te171, ⟨te172, te173⟩⟩⟩⟩, ⟨⟨⟨te175, ⟨te176, te178⟩⟩, ⟨te179, ⟨te182, te183⟩⟩⟩, ⟨⟨te189, ⟨te192, te193⟩⟩, ⟨te194, ⟨te195, te196⟩⟩⟩⟩⟩, ⟨⟨⟨⟨te197, ⟨te198, te199⟩⟩, ⟨te200, ⟨te202, te204⟩⟩⟩, ⟨⟨te207, ⟨te213, te216⟩⟩, ⟨te217, ⟨te224, te230⟩⟩⟩⟩, ⟨⟨⟨te232, ⟨te234, te235⟩⟩, ⟨te237, ⟨te241, te249⟩⟩⟩, ⟨⟨te250, ⟨te254, te256⟩⟩, ⟨te269, ⟨te270, te271⟩⟩⟩⟩⟩⟩⟩⟩
noncomputable def C : Ctx := ⟨Tryz.prog, [], tys.get, fun _ _ h => Tr.get_ok tysOk h⟩
theorem mixC : C.P.follows .mixedOrders = true := by kernel_rfl
abbrev n_law02_WholePowers : FuncId := 13
theorem fn_law02_WholePowers : C.P.funcs[13]? = some Tryz.f13 := Tryz.func13
theorem en_law02_WholePowers : Enters C.P 13 := Enters.mk fn_law02_WholePowers (by kernel_rfl) (by kernel_rfl)
theorem nt_law02_WholePowers : Tryz.f13.ntmps = 68 := Tryz.ntmps13
theorem rs_law02_WholePowers : Tryz.f13.results = #[ResultVar.tmp 8] := Tryz.results13
abbrev n_law02_small : FuncId := 18
theorem fn_law02_small : C.P.funcs[18]? = some Tryz.f18 := Tryz.func18
theorem en_law02_small : Enters C.P 18 := Enters.mk fn_law02_small (by kernel_rfl) (by kernel_rfl)
theorem nt_law02_small : Tryz.f18.ntmps = 10 := Tryz.ntmps18
theorem rs_law02_small : Tryz.f18.results = #[ResultVar.tmp 4] := Tryz.results18
abbrev n_law02_awake : FuncId := 19
theorem fn_law02_awake : C.P.funcs[19]? = some Tryz.f19 := Tryz.func19
theorem en_law02_awake : Enters C.P 19 := Enters.mk fn_law02_awake (by kernel_rfl) (by kernel_rfl)
theorem nt_law02_awake : Tryz.f19.ntmps = 73 := Tryz.ntmps19
theorem rs_law02_awake : Tryz.f19.results = #[ResultVar.tmp 0] := Tryz.results19
abbrev n_whole_Div : FuncId := 20
theorem fn_whole_Div : C.P.funcs[20]? = some Tryz.f20 := Tryz.func20
theorem en_whole_Div : Enters C.P 20 := Enters.mk fn_whole_Div (by kernel_rfl) (by kernel_rfl)
theorem nt_whole_Div : Tryz.f20.ntmps = 39 := Tryz.ntmps20
theorem rs_whole_Div : Tryz.f20.results = #[ResultVar.cell 6 25, ResultVar.cell 7 25, ResultVar.cell 8 28] := Tryz.results20
abbrev n_R02_Same : FuncId := 22
theorem fn_R02_Same : C.P.funcs[22]? = some Tryz.f22 := Tryz.func22
theorem en_R02_Same : Enters C.P 22 := Enters.mk fn_R02_Same (by kernel_rfl) (by kernel_rfl)
theorem nt_R02_Same : Tryz.f22.ntmps = 17 := Tryz.ntmps22
theorem rs_R02_Same : Tryz.f22.results = #[ResultVar.tmp 4] := Tryz.results22
abbrev n_whole_Gcd : FuncId := 23
theorem fn_whole_Gcd : C.P.funcs[23]? = some Tryz.f23 := Tryz.func23
theorem en_whole_Gcd : Enters C.P 23 := Enters.mk fn_whole_Gcd (by kernel_rfl) (by kernel_rfl)
theorem nt_whole_Gcd : Tryz.f23.ntmps = 25 := Tryz.ntmps23
theorem rs_whole_Gcd : Tryz.f23.results = #[ResultVar.cell 4 25, ResultVar.cell 5 25, ResultVar.cell 6 25, ResultVar.cell 7 28] := Tryz.results23
abbrev n_law02_got : FuncId := 26
theorem fn_law02_got : C.P.funcs[26]? = some Tryz.f26 := Tryz.func26
theorem en_law02_got : Enters C.P 26 := Enters.mk fn_law02_got (by kernel_rfl) (by kernel_rfl)
theorem nt_law02_got : Tryz.f26.ntmps = 17 := Tryz.ntmps26
theorem rs_law02_got : Tryz.f26.results = #[ResultVar.tmp 6] := Tryz.results26
abbrev n_whole_FromInt : FuncId := 37
theorem fn_whole_FromInt : C.P.funcs[37]? = some Tryz.f37 := Tryz.func37
theorem en_whole_FromInt : Enters C.P 37 := Enters.mk fn_whole_FromInt (by kernel_rfl) (by kernel_rfl)
theorem nt_whole_FromInt : Tryz.f37.ntmps = 14 := Tryz.ntmps37
theorem rs_whole_FromInt : Tryz.f37.results = #[ResultVar.cell 2 25] := Tryz.results37
abbrev n_whole_Valid : FuncId := 49
theorem fn_whole_Valid : C.P.funcs[49]? = some Tryz.f49 := Tryz.func49
theorem en_whole_Valid : Enters C.P 49 := Enters.mk fn_whole_Valid (by kernel_rfl) (by kernel_rfl)
theorem nt_whole_Valid : Tryz.f49.ntmps = 17 := Tryz.ntmps49
theorem rs_whole_Valid : Tryz.f49.results = #[ResultVar.tmp 2] := Tryz.results49
abbrev n_R02_Valid : FuncId := 50
theorem fn_R02_Valid : C.P.funcs[50]? = some Tryz.f50 := Tryz.func50
theorem en_R02_Valid : Enters C.P 50 := Enters.mk fn_R02_Valid (by kernel_rfl) (by kernel_rfl)
theorem nt_R02_Valid : Tryz.f50.ntmps = 17 := Tryz.ntmps50
theorem rs_R02_Valid : Tryz.f50.results = #[ResultVar.tmp 2] := Tryz.results50
abbrev n_R02_FromInt : FuncId := 51
theorem fn_R02_FromInt : C.P.funcs[51]? = some Tryz.f51 := Tryz.func51
theorem en_R02_FromInt : Enters C.P 51 := Enters.mk fn_R02_FromInt (by kernel_rfl) (by kernel_rfl)
theorem nt_R02_FromInt : Tryz.f51.ntmps = 17 := Tryz.ntmps51
theorem rs_R02_FromInt : Tryz.f51.results = #[ResultVar.cell 2 25] := Tryz.results51
abbrev n_whole_Text : FuncId := 54
theorem fn_whole_Text : C.P.funcs[54]? = some Tryz.f54 := Tryz.func54
theorem en_whole_Text : Enters C.P 54 := Enters.mk fn_whole_Text (by kernel_rfl) (by kernel_rfl)
theorem nt_whole_Text : Tryz.f54.ntmps = 32 := Tryz.ntmps54
theorem rs_whole_Text : Tryz.f54.results = #[ResultVar.tmp 6, ResultVar.tmp 7] := Tryz.results54
abbrev n_whole_Pow : FuncId := 59
theorem fn_whole_Pow : C.P.funcs[59]? = some Tryz.f59 := Tryz.func59
theorem en_whole_Pow : Enters C.P 59 := Enters.mk fn_whole_Pow (by kernel_rfl) (by kernel_rfl)
theorem nt_whole_Pow : Tryz.f59.ntmps = 12 := Tryz.ntmps59
theorem rs_whole_Pow : Tryz.f59.results = #[ResultVar.cell 4 25, ResultVar.tmp 5] := Tryz.results59
abbrev n_whole_ModPow : FuncId := 60
theorem fn_whole_ModPow : C.P.funcs[60]? = some Tryz.f60 := Tryz.func60
theorem en_whole_ModPow : Enters C.P 60 := Enters.mk fn_whole_ModPow (by kernel_rfl) (by kernel_rfl)
theorem nt_whole_ModPow : Tryz.f60.ntmps = 16 := Tryz.ntmps60
theorem rs_whole_ModPow : Tryz.f60.results = #[ResultVar.cell 6 25, ResultVar.tmp 7] := Tryz.results60
abbrev n_R02_Pow : FuncId := 61
theorem fn_R02_Pow : C.P.funcs[61]? = some Tryz.f61 := Tryz.func61
theorem en_R02_Pow : Enters C.P 61 := Enters.mk fn_R02_Pow (by kernel_rfl) (by kernel_rfl)
theorem nt_R02_Pow : Tryz.f61.ntmps = 35 := Tryz.ntmps61
theorem rs_R02_Pow : Tryz.f61.results = #[ResultVar.cell 4 45] := Tryz.results61
abbrev n_R02_ModPow : FuncId := 62
theorem fn_R02_ModPow : C.P.funcs[62]? = some Tryz.f62 := Tryz.func62
theorem en_R02_ModPow : Enters C.P 62 := Enters.mk fn_R02_ModPow (by kernel_rfl) (by kernel_rfl)
theorem nt_R02_ModPow : Tryz.f62.ntmps = 63 := Tryz.ntmps62
theorem rs_R02_ModPow : Tryz.f62.results = #[ResultVar.cell 6 45] := Tryz.results62
abbrev n_whole_caught : FuncId := 78
theorem fn_whole_caught : C.P.funcs[78]? = some Tryz.f78 := Tryz.func78
theorem en_whole_caught : Enters C.P 78 := Enters.mk fn_whole_caught (by kernel_rfl) (by kernel_rfl)
theorem nt_whole_caught : Tryz.f78.ntmps = 15 := Tryz.ntmps78
theorem rs_whole_caught : Tryz.f78.results = #[] := Tryz.results78
abbrev n_whole_args : FuncId := 79
theorem fn_whole_args : C.P.funcs[79]? = some Tryz.f79 := Tryz.func79
theorem en_whole_args : Enters C.P 79 := Enters.mk fn_whole_args (by kernel_rfl) (by kernel_rfl)
theorem nt_whole_args : Tryz.f79.ntmps = 6 := Tryz.ntmps79
theorem rs_whole_args : Tryz.f79.results = #[] := Tryz.results79
abbrev n_whole_kinds : FuncId := 80
theorem fn_whole_kinds : C.P.funcs[80]? = some Tryz.f80 := Tryz.func80
theorem en_whole_kinds : Enters C.P 80 := Enters.mk fn_whole_kinds (by kernel_rfl) (by kernel_rfl)
theorem nt_whole_kinds : Tryz.f80.ntmps = 7 := Tryz.ntmps80
theorem rs_whole_kinds : Tryz.f80.results = #[ResultVar.tmp 0] := Tryz.results80
abbrev n_whole_need : FuncId := 81
theorem fn_whole_need : C.P.funcs[81]? = some Tryz.f81 := Tryz.func81
theorem en_whole_need : Enters C.P 81 := Enters.mk fn_whole_need (by kernel_rfl) (by kernel_rfl)
theorem nt_whole_need : Tryz.f81.ntmps = 9 := Tryz.ntmps81
theorem rs_whole_need : Tryz.f81.results = #[] := Tryz.results81
abbrev n_whole_divide : FuncId := 82
theorem fn_whole_divide : C.P.funcs[82]? = some Tryz.f82 := Tryz.func82
theorem en_whole_divide : Enters C.P 82 := Enters.mk fn_whole_divide (by kernel_rfl) (by kernel_rfl)
theorem nt_whole_divide : Tryz.f82.ntmps = 69 := Tryz.ntmps82
theorem rs_whole_divide : Tryz.f82.results = #[ResultVar.cell 6 25, ResultVar.cell 7 25] := Tryz.results82
abbrev n_whole_own : FuncId := 83
theorem fn_whole_own : C.P.funcs[83]? = some Tryz.f83 := Tryz.func83
theorem en_whole_own : Enters C.P 83 := Enters.mk fn_whole_own (by kernel_rfl) (by kernel_rfl)
theorem nt_whole_own : Tryz.f83.ntmps = 9 := Tryz.ntmps83
theorem rs_whole_own : Tryz.f83.results = #[ResultVar.cell 2 25] := Tryz.results83
abbrev n_R02_Quotient : FuncId := 84
theorem fn_R02_Quotient : C.P.funcs[84]? = some Tryz.f84 := Tryz.func84
theorem en_R02_Quotient : Enters C.P 84 := Enters.mk fn_R02_Quotient (by kernel_rfl) (by kernel_rfl)
theorem nt_R02_Quotient : Tryz.f84.ntmps = 41 := Tryz.ntmps84
theorem rs_R02_Quotient : Tryz.f84.results = #[ResultVar.cell 6 32] := Tryz.results84
abbrev n_R01_Same : FuncId := 85
theorem fn_R01_Same : C.P.funcs[85]? = some Tryz.f85 := Tryz.func85
theorem en_R01_Same : Enters C.P 85 := Enters.mk fn_R01_Same (by kernel_rfl) (by kernel_rfl)
theorem nt_R01_Same : Tryz.f85.ntmps = 26 := Tryz.ntmps85
theorem rs_R01_Same : Tryz.f85.results = #[ResultVar.tmp 4] := Tryz.results85
abbrev n_whole_gcd : FuncId := 86
theorem fn_whole_gcd : C.P.funcs[86]? = some Tryz.f86 := Tryz.func86
theorem en_whole_gcd : Enters C.P 86 := Enters.mk fn_whole_gcd (by kernel_rfl) (by kernel_rfl)
theorem nt_whole_gcd : Tryz.f86.ntmps = 83 := Tryz.ntmps86
theorem rs_whole_gcd : Tryz.f86.results = #[ResultVar.cell 4 25, ResultVar.cell 5 25, ResultVar.cell 6 25] := Tryz.results86
abbrev n_R02_Of : FuncId := 87
theorem fn_R02_Of : C.P.funcs[87]? = some Tryz.f87 := Tryz.func87
theorem en_R02_Of : Enters C.P 87 := Enters.mk fn_R02_Of (by kernel_rfl) (by kernel_rfl)
theorem nt_R02_Of : Tryz.f87.ntmps = 14 := Tryz.ntmps87
theorem rs_R02_Of : Tryz.f87.results = #[ResultVar.cell 4 25] := Tryz.results87
abbrev n_R02_Minus : FuncId := 91
theorem fn_R02_Minus : C.P.funcs[91]? = some Tryz.f91 := Tryz.func91
theorem en_R02_Minus : Enters C.P 91 := Enters.mk fn_R02_Minus (by kernel_rfl) (by kernel_rfl)
theorem nt_R02_Minus : Tryz.f91.ntmps = 9 := Tryz.ntmps91
theorem rs_R02_Minus : Tryz.f91.results = #[ResultVar.cell 4 25] := Tryz.results91
abbrev n_R02_Times : FuncId := 92
theorem fn_R02_Times : C.P.funcs[92]? = some Tryz.f92 := Tryz.func92
theorem en_R02_Times : Enters C.P 92 := Enters.mk fn_R02_Times (by kernel_rfl) (by kernel_rfl)
theorem nt_R02_Times : Tryz.f92.ntmps = 16 := Tryz.ntmps92
theorem rs_R02_Times : Tryz.f92.results = #[ResultVar.cell 4 25] := Tryz.results92
abbrev n_whole_compute : FuncId := 93
theorem fn_whole_compute : C.P.funcs[93]? = some Tryz.f93 := Tryz.func93
theorem en_whole_compute : Enters C.P 93 := Enters.mk fn_whole_compute (by kernel_rfl) (by kernel_rfl)
theorem nt_whole_compute : Tryz.f93.ntmps = 10 := Tryz.ntmps93
theorem rs_whole_compute : Tryz.f93.results = #[ResultVar.cell 4 25, ResultVar.cell 5 28] := Tryz.results93
abbrev n_whole_cmp : FuncId := 95
theorem fn_whole_cmp : C.P.funcs[95]? = some Tryz.f95 := Tryz.func95
theorem en_whole_cmp : Enters C.P 95 := Enters.mk fn_whole_cmp (by kernel_rfl) (by kernel_rfl)
theorem nt_whole_cmp : Tryz.f95.ntmps = 34 := Tryz.ntmps95
theorem rs_whole_cmp : Tryz.f95.results = #[ResultVar.tmp 4] := Tryz.results95
abbrev n_whole_negated : FuncId := 97
theorem fn_whole_negated : C.P.funcs[97]? = some Tryz.f97 := Tryz.func97
theorem en_whole_negated : Enters C.P 97 := Enters.mk fn_whole_negated (by kernel_rfl) (by kernel_rfl)
theorem nt_whole_negated : Tryz.f97.ntmps = 9 := Tryz.ntmps97
theorem rs_whole_negated : Tryz.f97.results = #[ResultVar.cell 2 25] := Tryz.results97
abbrev n_whole_sum : FuncId := 99
theorem fn_whole_sum : C.P.funcs[99]? = some Tryz.f99 := Tryz.func99
theorem en_whole_sum : Enters C.P 99 := Enters.mk fn_whole_sum (by kernel_rfl) (by kernel_rfl)
theorem nt_whole_sum : Tryz.f99.ntmps = 51 := Tryz.ntmps99
theorem rs_whole_sum : Tryz.f99.results = #[ResultVar.cell 4 25] := Tryz.results99
abbrev n_whole_product : FuncId := 102
theorem fn_whole_product : C.P.funcs[102]? = some Tryz.f102 := Tryz.func102
theorem en_whole_product : Enters C.P 102 := Enters.mk fn_whole_product (by kernel_rfl) (by kernel_rfl)
theorem nt_whole_product : Tryz.f102.ntmps = 19 := Tryz.ntmps102
theorem rs_whole_product : Tryz.f102.results = #[ResultVar.cell 4 25] := Tryz.results102
abbrev n_R02_Opposite : FuncId := 103
theorem fn_R02_Opposite : C.P.funcs[103]? = some Tryz.f103 := Tryz.func103
theorem en_R02_Opposite : Enters C.P 103 := Enters.mk fn_R02_Opposite (by kernel_rfl) (by kernel_rfl)
theorem nt_R02_Opposite : Tryz.f103.ntmps = 9 := Tryz.ntmps103
theorem rs_R02_Opposite : Tryz.f103.results = #[ResultVar.cell 2 25] := Tryz.results103
abbrev n_R02_Plus : FuncId := 105
theorem fn_R02_Plus : C.P.funcs[105]? = some Tryz.f105 := Tryz.func105
theorem en_R02_Plus : Enters C.P 105 := Enters.mk fn_R02_Plus (by kernel_rfl) (by kernel_rfl)
theorem nt_R02_Plus : Tryz.f105.ntmps = 40 := Tryz.ntmps105
theorem rs_R02_Plus : Tryz.f105.results = #[ResultVar.cell 4 25] := Tryz.results105
abbrev n_whole_signed : FuncId := 106
theorem fn_whole_signed : C.P.funcs[106]? = some Tryz.f106 := Tryz.func106
theorem en_whole_signed : Enters C.P 106 := Enters.mk fn_whole_signed (by kernel_rfl) (by kernel_rfl)
theorem nt_whole_signed : Tryz.f106.ntmps = 13 := Tryz.ntmps106
theorem rs_whole_signed : Tryz.f106.results = #[ResultVar.cell 4 25] := Tryz.results106
abbrev n_nat_FromUint : FuncId := 107
theorem fn_nat_FromUint : C.P.funcs[107]? = some Tryz.f107 := Tryz.func107
theorem en_nat_FromUint : Enters C.P 107 := Enters.mk fn_nat_FromUint (by kernel_rfl) (by kernel_rfl)
theorem nt_nat_FromUint : Tryz.f107.ntmps = 5 := Tryz.ntmps107
theorem rs_nat_FromUint : Tryz.f107.results = #[ResultVar.tmp 2] := Tryz.results107
abbrev n_whole_sign : FuncId := 108
theorem fn_whole_sign : C.P.funcs[108]? = some Tryz.f108 := Tryz.func108
theorem en_whole_sign : Enters C.P 108 := Enters.mk fn_whole_sign (by kernel_rfl) (by kernel_rfl)
theorem nt_whole_sign : Tryz.f108.ntmps = 11 := Tryz.ntmps108
theorem rs_whole_sign : Tryz.f108.results = #[ResultVar.tmp 2] := Tryz.results108
abbrev n_R01_Bits : FuncId := 110
theorem fn_R01_Bits : C.P.funcs[110]? = some Tryz.f110 := Tryz.func110
theorem en_R01_Bits : Enters C.P 110 := Enters.mk fn_R01_Bits (by kernel_rfl) (by kernel_rfl)
theorem nt_R01_Bits : Tryz.f110.ntmps = 25 := Tryz.ntmps110
theorem rs_R01_Bits : Tryz.f110.results = #[ResultVar.tmp 2] := Tryz.results110
abbrev n_nat_Valid : FuncId := 111
theorem fn_nat_Valid : C.P.funcs[111]? = some Tryz.f111 := Tryz.func111
theorem en_nat_Valid : Enters C.P 111 := Enters.mk fn_nat_Valid (by kernel_rfl) (by kernel_rfl)
theorem nt_nat_Valid : Tryz.f111.ntmps = 20 := Tryz.ntmps111
theorem rs_nat_Valid : Tryz.f111.results = #[ResultVar.tmp 2] := Tryz.results111
abbrev n_R01_Valid : FuncId := 112
theorem fn_R01_Valid : C.P.funcs[112]? = some Tryz.f112 := Tryz.func112
theorem en_R01_Valid : Enters C.P 112 := Enters.mk fn_R01_Valid (by kernel_rfl) (by kernel_rfl)
theorem nt_R01_Valid : Tryz.f112.ntmps = 20 := Tryz.ntmps112
theorem rs_R01_Valid : Tryz.f112.results = #[ResultVar.tmp 2] := Tryz.results112
abbrev n_R01_Add : FuncId := 113
theorem fn_R01_Add : C.P.funcs[113]? = some Tryz.f113 := Tryz.func113
theorem en_R01_Add : Enters C.P 113 := Enters.mk fn_R01_Add (by kernel_rfl) (by kernel_rfl)
theorem nt_R01_Add : Tryz.f113.ntmps = 36 := Tryz.ntmps113
theorem rs_R01_Add : Tryz.f113.results = #[ResultVar.tmp 4] := Tryz.results113
abbrev n_R01_Of : FuncId := 114
theorem fn_R01_Of : C.P.funcs[114]? = some Tryz.f114 := Tryz.func114
theorem en_R01_Of : Enters C.P 114 := Enters.mk fn_R01_Of (by kernel_rfl) (by kernel_rfl)
theorem nt_R01_Of : Tryz.f114.ntmps = 10 := Tryz.ntmps114
theorem rs_R01_Of : Tryz.f114.results = #[ResultVar.tmp 2] := Tryz.results114
abbrev n_whole_must : FuncId := 116
theorem fn_whole_must : C.P.funcs[116]? = some Tryz.f116 := Tryz.func116
theorem en_whole_must : Enters C.P 116 := Enters.mk fn_whole_must (by kernel_rfl) (by kernel_rfl)
theorem nt_whole_must : Tryz.f116.ntmps = 10 := Tryz.ntmps116
theorem rs_whole_must : Tryz.f116.results = #[ResultVar.tmp 4] := Tryz.results116
abbrev n_whole_order : FuncId := 118
theorem fn_whole_order : C.P.funcs[118]? = some Tryz.f118 := Tryz.func118
theorem en_whole_order : Enters C.P 118 := Enters.mk fn_whole_order (by kernel_rfl) (by kernel_rfl)
theorem nt_whole_order : Tryz.f118.ntmps = 14 := Tryz.ntmps118
theorem rs_whole_order : Tryz.f118.results = #[ResultVar.tmp 4] := Tryz.results118
abbrev n_nat_Sub : FuncId := 121
theorem fn_nat_Sub : C.P.funcs[121]? = some Tryz.f121 := Tryz.func121
theorem en_nat_Sub : Enters C.P 121 := Enters.mk fn_nat_Sub (by kernel_rfl) (by kernel_rfl)
theorem nt_nat_Sub : Tryz.f121.ntmps = 12 := Tryz.ntmps121
theorem rs_nat_Sub : Tryz.f121.results = #[ResultVar.tmp 4, ResultVar.tmp 5] := Tryz.results121
abbrev n_nat_Add : FuncId := 122
theorem fn_nat_Add : C.P.funcs[122]? = some Tryz.f122 := Tryz.func122
theorem en_nat_Add : Enters C.P 122 := Enters.mk fn_nat_Add (by kernel_rfl) (by kernel_rfl)
theorem nt_nat_Add : Tryz.f122.ntmps = 12 := Tryz.ntmps122
theorem rs_nat_Add : Tryz.f122.results = #[ResultVar.tmp 4, ResultVar.tmp 5] := Tryz.results122
abbrev n_whole_text : FuncId := 123
theorem fn_whole_text : C.P.funcs[123]? = some Tryz.f123 := Tryz.func123
theorem en_whole_text : Enters C.P 123 := Enters.mk fn_whole_text (by kernel_rfl) (by kernel_rfl)
theorem nt_whole_text : Tryz.f123.ntmps = 23 := Tryz.ntmps123
theorem rs_whole_text : Tryz.f123.results = #[ResultVar.tmp 4] := Tryz.results123
abbrev n_strings_ToUpper : FuncId := 124
theorem fn_strings_ToUpper : C.P.funcs[124]? = some Tryz.f124 := Tryz.func124
theorem en_strings_ToUpper : Enters C.P 124 := Enters.mk fn_strings_ToUpper (by kernel_rfl) (by kernel_rfl)
abbrev n_whole_Pow_1 : FuncId := 133
theorem fn_whole_Pow_1 : C.P.funcs[133]? = some Tryz.f133 := Tryz.func133
theorem en_whole_Pow_1 : Enters C.P 133 := Enters.mk fn_whole_Pow_1 (by kernel_rfl) (by kernel_rfl)
theorem nt_whole_Pow_1 : Tryz.f133.ntmps = 22 := Tryz.ntmps133
theorem rs_whole_Pow_1 : Tryz.f133.results = #[ResultVar.cell 2 25] := Tryz.results133
abbrev n_nat_Pow : FuncId := 134
theorem fn_nat_Pow : C.P.funcs[134]? = some Tryz.f134 := Tryz.func134
theorem en_nat_Pow : Enters C.P 134 := Enters.mk fn_nat_Pow (by kernel_rfl) (by kernel_rfl)
theorem nt_nat_Pow : Tryz.f134.ntmps = 39 := Tryz.ntmps134
theorem rs_nat_Pow : Tryz.f134.results = #[ResultVar.tmp 4, ResultVar.cell 5 28] := Tryz.results134
abbrev n_whole_ModPow_1 : FuncId := 135
theorem fn_whole_ModPow_1 : C.P.funcs[135]? = some Tryz.f135 := Tryz.func135
theorem en_whole_ModPow_1 : Enters C.P 135 := Enters.mk fn_whole_ModPow_1 (by kernel_rfl) (by kernel_rfl)
theorem nt_whole_ModPow_1 : Tryz.f135.ntmps = 69 := Tryz.ntmps135
theorem rs_whole_ModPow_1 : Tryz.f135.results = #[ResultVar.cell 3 25] := Tryz.results135
abbrev n_whole_ModPow_1_1 : FuncId := 136
theorem fn_whole_ModPow_1_1 : C.P.funcs[136]? = some Tryz.f136 := Tryz.func136
theorem en_whole_ModPow_1_1 : Enters C.P 136 := Enters.mk fn_whole_ModPow_1_1 (by kernel_rfl) (by kernel_rfl)
theorem nt_whole_ModPow_1_1 : Tryz.f136.ntmps = 17 := Tryz.ntmps136
theorem rs_whole_ModPow_1_1 : Tryz.f136.results = #[] := Tryz.results136
abbrev n_whole_times : FuncId := 137
theorem fn_whole_times : C.P.funcs[137]? = some Tryz.f137 := Tryz.func137
theorem en_whole_times : Enters C.P 137 := Enters.mk fn_whole_times (by kernel_rfl) (by kernel_rfl)
theorem nt_whole_times : Tryz.f137.ntmps = 62 := Tryz.ntmps137
theorem rs_whole_times : Tryz.f137.results = #[ResultVar.tmp 6] := Tryz.results137
abbrev n_R01_Pow : FuncId := 138
theorem fn_R01_Pow : C.P.funcs[138]? = some Tryz.f138 := Tryz.func138
theorem en_R01_Pow : Enters C.P 138 := Enters.mk fn_R01_Pow (by kernel_rfl) (by kernel_rfl)
theorem nt_R01_Pow : Tryz.f138.ntmps = 33 := Tryz.ntmps138
theorem rs_R01_Pow : Tryz.f138.results = #[ResultVar.tmp 4, ResultVar.tmp 5] := Tryz.results138
abbrev n_R02_rest : FuncId := 139
theorem fn_R02_rest : C.P.funcs[139]? = some Tryz.f139 := Tryz.func139
theorem en_R02_rest : Enters C.P 139 := Enters.mk fn_R02_rest (by kernel_rfl) (by kernel_rfl)
theorem nt_R02_rest : Tryz.f139.ntmps = 9 := Tryz.ntmps139
theorem rs_R02_rest : Tryz.f139.results = #[ResultVar.cell 4 25] := Tryz.results139
abbrev n_R02_One : FuncId := 140
theorem fn_R02_One : C.P.funcs[140]? = some Tryz.f140 := Tryz.func140
theorem en_R02_One : Enters C.P 140 := Enters.mk fn_R02_One (by kernel_rfl) (by kernel_rfl)
theorem nt_R02_One : Tryz.f140.ntmps = 2 := Tryz.ntmps140
theorem rs_R02_One : Tryz.f140.results = #[ResultVar.cell 0 25] := Tryz.results140
abbrev n_R01_Bit : FuncId := 141
theorem fn_R01_Bit : C.P.funcs[141]? = some Tryz.f141 := Tryz.func141
theorem en_R01_Bit : Enters C.P 141 := Enters.mk fn_R01_Bit (by kernel_rfl) (by kernel_rfl)
theorem nt_R01_Bit : Tryz.f141.ntmps = 13 := Tryz.ntmps141
theorem rs_R01_Bit : Tryz.f141.results = #[ResultVar.tmp 4] := Tryz.results141
abbrev n_R01_Shl : FuncId := 153
theorem fn_R01_Shl : C.P.funcs[153]? = some Tryz.f153 := Tryz.func153
theorem en_R01_Shl : Enters C.P 153 := Enters.mk fn_R01_Shl (by kernel_rfl) (by kernel_rfl)
theorem nt_R01_Shl : Tryz.f153.ntmps = 51 := Tryz.ntmps153
theorem rs_R01_Shl : Tryz.f153.results = #[ResultVar.tmp 4] := Tryz.results153
abbrev n_R01_Fits : FuncId := 159
theorem fn_R01_Fits : C.P.funcs[159]? = some Tryz.f159 := Tryz.func159
theorem en_R01_Fits : Enters C.P 159 := Enters.mk fn_R01_Fits (by kernel_rfl) (by kernel_rfl)
theorem nt_R01_Fits : Tryz.f159.ntmps = 6 := Tryz.ntmps159
theorem rs_R01_Fits : Tryz.f159.results = #[ResultVar.tmp 2] := Tryz.results159
abbrev n_slices_ContainsFunc_api_Int_api_Int : FuncId := 163
theorem fn_slices_ContainsFunc_api_Int_api_Int : C.P.funcs[163]? = some Tryz.f163 := Tryz.func163
theorem en_slices_ContainsFunc_api_Int_api_Int : Enters C.P 163 := Enters.mk fn_slices_ContainsFunc_api_Int_api_Int (by kernel_rfl) (by kernel_rfl)
theorem nt_slices_ContainsFunc_api_Int_api_Int : Tryz.f163.ntmps = 9 := Tryz.ntmps163
theorem rs_slices_ContainsFunc_api_Int_api_Int : Tryz.f163.results = #[ResultVar.tmp 4] := Tryz.results163
abbrev n_whole_args_1 : FuncId := 164
theorem fn_whole_args_1 : C.P.funcs[164]? = some Tryz.f164 := Tryz.func164
theorem en_whole_args_1 : Enters C.P 164 := Enters.mk fn_whole_args_1 (by kernel_rfl) (by kernel_rfl)
theorem nt_whole_args_1 : Tryz.f164.ntmps = 6 := Tryz.ntmps164
theorem rs_whole_args_1 : Tryz.f164.results = #[ResultVar.tmp 2] := Tryz.results164
abbrev n_whole_kinds_1 : FuncId := 165
theorem fn_whole_kinds_1 : C.P.funcs[165]? = some Tryz.f165 := Tryz.func165
theorem en_whole_kinds_1 : Enters C.P 165 := Enters.mk fn_whole_kinds_1 (by kernel_rfl) (by kernel_rfl)
theorem nt_whole_kinds_1 : Tryz.f165.ntmps = 9 := Tryz.ntmps165
theorem rs_whole_kinds_1 : Tryz.f165.results = #[ResultVar.tmp 8] := Tryz.results165
abbrev n_whole_kinds_2 : FuncId := 166
theorem fn_whole_kinds_2 : C.P.funcs[166]? = some Tryz.f166 := Tryz.func166
theorem en_whole_kinds_2 : Enters C.P 166 := Enters.mk fn_whole_kinds_2 (by kernel_rfl) (by kernel_rfl)
theorem nt_whole_kinds_2 : Tryz.f166.ntmps = 14 := Tryz.ntmps166
theorem rs_whole_kinds_2 : Tryz.f166.results = #[ResultVar.tmp 8] := Tryz.results166
abbrev n_whole_kinds_3 : FuncId := 167
theorem fn_whole_kinds_3 : C.P.funcs[167]? = some Tryz.f167 := Tryz.func167
theorem en_whole_kinds_3 : Enters C.P 167 := Enters.mk fn_whole_kinds_3 (by kernel_rfl) (by kernel_rfl)
theorem nt_whole_kinds_3 : Tryz.f167.ntmps = 11 := Tryz.ntmps167
theorem rs_whole_kinds_3 : Tryz.f167.results = #[ResultVar.tmp 8] := Tryz.results167
abbrev n_whole_kinds_4 : FuncId := 168
theorem fn_whole_kinds_4 : C.P.funcs[168]? = some Tryz.f168 := Tryz.func168
theorem en_whole_kinds_4 : Enters C.P 168 := Enters.mk fn_whole_kinds_4 (by kernel_rfl) (by kernel_rfl)
theorem nt_whole_kinds_4 : Tryz.f168.ntmps = 41 := Tryz.ntmps168
theorem rs_whole_kinds_4 : Tryz.f168.results = #[ResultVar.tmp 8] := Tryz.results168
abbrev n_nat_Div : FuncId := 169
theorem fn_nat_Div : C.P.funcs[169]? = some Tryz.f169 := Tryz.func169
theorem en_nat_Div : Enters C.P 169 := Enters.mk fn_nat_Div (by kernel_rfl) (by kernel_rfl)
theorem nt_nat_Div : Tryz.f169.ntmps = 14 := Tryz.ntmps169
theorem rs_nat_Div : Tryz.f169.results = #[ResultVar.tmp 4, ResultVar.tmp 5, ResultVar.tmp 6] := Tryz.results169
abbrev n_slices_Clone_api_Nat_uint32 : FuncId := 170
theorem fn_slices_Clone_api_Nat_uint32 : C.P.funcs[170]? = some Tryz.f170 := Tryz.func170
theorem en_slices_Clone_api_Nat_uint32 : Enters C.P 170 := Enters.mk fn_slices_Clone_api_Nat_uint32 (by kernel_rfl) (by kernel_rfl)
theorem nt_slices_Clone_api_Nat_uint32 : Tryz.f170.ntmps = 8 := Tryz.ntmps170
theorem rs_slices_Clone_api_Nat_uint32 : Tryz.f170.results = #[ResultVar.tmp 2] := Tryz.results170
abbrev n_R01_Div : FuncId := 171
theorem fn_R01_Div : C.P.funcs[171]? = some Tryz.f171 := Tryz.func171
theorem en_R01_Div : Enters C.P 171 := Enters.mk fn_R01_Div (by kernel_rfl) (by kernel_rfl)
theorem nt_R01_Div : Tryz.f171.ntmps = 176 := Tryz.ntmps171
theorem rs_R01_Div : Tryz.f171.results = #[ResultVar.cell 4 178] := Tryz.results171
abbrev n_R02_up : FuncId := 172
theorem fn_R02_up : C.P.funcs[172]? = some Tryz.f172 := Tryz.func172
theorem en_R02_up : Enters C.P 172 := Enters.mk fn_R02_up (by kernel_rfl) (by kernel_rfl)
theorem nt_R02_up : Tryz.f172.ntmps = 56 := Tryz.ntmps172
theorem rs_R02_up : Tryz.f172.results = #[ResultVar.tmp 8] := Tryz.results172
abbrev n_whole_common : FuncId := 173
theorem fn_whole_common : C.P.funcs[173]? = some Tryz.f173 := Tryz.func173
theorem en_whole_common : Enters C.P 173 := Enters.mk fn_whole_common (by kernel_rfl) (by kernel_rfl)
theorem nt_whole_common : Tryz.f173.ntmps = 60 := Tryz.ntmps173
theorem rs_whole_common : Tryz.f173.results = #[ResultVar.tmp 4, ResultVar.cell 5 25, ResultVar.cell 6 25, ResultVar.tmp 7, ResultVar.tmp 8] := Tryz.results173
abbrev n_R01_Trim : FuncId := 174
theorem fn_R01_Trim : C.P.funcs[174]? = some Tryz.f174 := Tryz.func174
theorem en_R01_Trim : Enters C.P 174 := Enters.mk fn_R01_Trim (by kernel_rfl) (by kernel_rfl)
theorem nt_R01_Trim : Tryz.f174.ntmps = 23 := Tryz.ntmps174
theorem rs_R01_Trim : Tryz.f174.results = #[ResultVar.tmp 2] := Tryz.results174
abbrev n_R01_Mul : FuncId := 175
theorem fn_R01_Mul : C.P.funcs[175]? = some Tryz.f175 := Tryz.func175
theorem en_R01_Mul : Enters C.P 175 := Enters.mk fn_R01_Mul (by kernel_rfl) (by kernel_rfl)
theorem nt_R01_Mul : Tryz.f175.ntmps = 68 := Tryz.ntmps175
theorem rs_R01_Mul : Tryz.f175.results = #[ResultVar.tmp 4] := Tryz.results175
abbrev n_nat_Mul : FuncId := 176
theorem fn_nat_Mul : C.P.funcs[176]? = some Tryz.f176 := Tryz.func176
theorem en_nat_Mul : Enters C.P 176 := Enters.mk fn_nat_Mul (by kernel_rfl) (by kernel_rfl)
theorem nt_nat_Mul : Tryz.f176.ntmps = 12 := Tryz.ntmps176
theorem rs_nat_Mul : Tryz.f176.results = #[ResultVar.tmp 4, ResultVar.tmp 5] := Tryz.results176
abbrev n_R01_Cmp : FuncId := 177
theorem fn_R01_Cmp : C.P.funcs[177]? = some Tryz.f177 := Tryz.func177
theorem en_R01_Cmp : Enters C.P 177 := Enters.mk fn_R01_Cmp (by kernel_rfl) (by kernel_rfl)
theorem nt_R01_Cmp : Tryz.f177.ntmps = 30 := Tryz.ntmps177
theorem rs_R01_Cmp : Tryz.f177.results = #[ResultVar.tmp 4] := Tryz.results177
abbrev n_R01_Sub : FuncId := 178
theorem fn_R01_Sub : C.P.funcs[178]? = some Tryz.f178 := Tryz.func178
theorem en_R01_Sub : Enters C.P 178 := Enters.mk fn_R01_Sub (by kernel_rfl) (by kernel_rfl)
theorem nt_R01_Sub : Tryz.f178.ntmps = 33 := Tryz.ntmps178
theorem rs_R01_Sub : Tryz.f178.results = #[ResultVar.tmp 4] := Tryz.results178
abbrev n_nat_of : FuncId := 179
theorem fn_nat_of : C.P.funcs[179]? = some Tryz.f179 := Tryz.func179
theorem en_nat_of : Enters C.P 179 := Enters.mk fn_nat_of (by kernel_rfl) (by kernel_rfl)
theorem nt_nat_of : Tryz.f179.ntmps = 10 := Tryz.ntmps179
theorem rs_nat_of : Tryz.f179.results = #[ResultVar.tmp 2] := Tryz.results179
abbrev n_nat_limbs_at : FuncId := 180
theorem fn_nat_limbs_at : C.P.funcs[180]? = some Tryz.f180 := Tryz.func180
theorem en_nat_limbs_at : Enters C.P 180 := Enters.mk fn_nat_limbs_at (by kernel_rfl) (by kernel_rfl)
theorem nt_nat_limbs_at : Tryz.f180.ntmps = 14 := Tryz.ntmps180
theorem rs_nat_limbs_at : Tryz.f180.results = #[ResultVar.tmp 4] := Tryz.results180
abbrev n_R01_at : FuncId := 181
theorem fn_R01_at : C.P.funcs[181]? = some Tryz.f181 := Tryz.func181
theorem en_R01_at : Enters C.P 181 := Enters.mk fn_R01_at (by kernel_rfl) (by kernel_rfl)
theorem nt_R01_at : Tryz.f181.ntmps = 14 := Tryz.ntmps181
theorem rs_R01_at : Tryz.f181.results = #[ResultVar.tmp 4] := Tryz.results181
abbrev n_nat_caught : FuncId := 182
theorem fn_nat_caught : C.P.funcs[182]? = some Tryz.f182 := Tryz.func182
theorem en_nat_caught : Enters C.P 182 := Enters.mk fn_nat_caught (by kernel_rfl) (by kernel_rfl)
theorem nt_nat_caught : Tryz.f182.ntmps = 20 := Tryz.ntmps182
theorem rs_nat_caught : Tryz.f182.results = #[] := Tryz.results182
abbrev n_nat_taken : FuncId := 183
theorem fn_nat_taken : C.P.funcs[183]? = some Tryz.f183 := Tryz.func183
theorem en_nat_taken : Enters C.P 183 := Enters.mk fn_nat_taken (by kernel_rfl) (by kernel_rfl)
theorem nt_nat_taken : Tryz.f183.ntmps = 6 := Tryz.ntmps183
theorem rs_nat_taken : Tryz.f183.results = #[] := Tryz.results183
abbrev n_nat_need : FuncId := 184
theorem fn_nat_need : C.P.funcs[184]? = some Tryz.f184 := Tryz.func184
theorem en_nat_need : Enters C.P 184 := Enters.mk fn_nat_need (by kernel_rfl) (by kernel_rfl)
theorem nt_nat_need : Tryz.f184.ntmps = 9 := Tryz.ntmps184
theorem rs_nat_need : Tryz.f184.results = #[] := Tryz.results184
abbrev n_nat_given : FuncId := 185
theorem fn_nat_given : C.P.funcs[185]? = some Tryz.f185 := Tryz.func185
theorem en_nat_given : Enters C.P 185 := Enters.mk fn_nat_given (by kernel_rfl) (by kernel_rfl)
theorem nt_nat_given : Tryz.f185.ntmps = 9 := Tryz.ntmps185
theorem rs_nat_given : Tryz.f185.results = #[ResultVar.tmp 2] := Tryz.results185
abbrev n_nat_limbs_shl : FuncId := 186
theorem fn_nat_limbs_shl : C.P.funcs[186]? = some Tryz.f186 := Tryz.func186
theorem en_nat_limbs_shl : Enters C.P 186 := Enters.mk fn_nat_limbs_shl (by kernel_rfl) (by kernel_rfl)
theorem nt_nat_limbs_shl : Tryz.f186.ntmps = 53 := Tryz.ntmps186
theorem rs_nat_limbs_shl : Tryz.f186.results = #[ResultVar.tmp 4] := Tryz.results186
abbrev n_nat_Cmp : FuncId := 187
theorem fn_nat_Cmp : C.P.funcs[187]? = some Tryz.f187 := Tryz.func187
theorem en_nat_Cmp : Enters C.P 187 := Enters.mk fn_nat_Cmp (by kernel_rfl) (by kernel_rfl)
theorem nt_nat_Cmp : Tryz.f187.ntmps = 13 := Tryz.ntmps187
theorem rs_nat_Cmp : Tryz.f187.results = #[ResultVar.tmp 4, ResultVar.cell 5 28] := Tryz.results187
abbrev n_nat_limbs_shr : FuncId := 188
theorem fn_nat_limbs_shr : C.P.funcs[188]? = some Tryz.f188 := Tryz.func188
theorem en_nat_limbs_shr : Enters C.P 188 := Enters.mk fn_nat_limbs_shr (by kernel_rfl) (by kernel_rfl)
theorem nt_nat_limbs_shr : Tryz.f188.ntmps = 49 := Tryz.ntmps188
theorem rs_nat_limbs_shr : Tryz.f188.results = #[ResultVar.tmp 4] := Tryz.results188
abbrev n_nat_multiplied : FuncId := 189
theorem fn_nat_multiplied : C.P.funcs[189]? = some Tryz.f189 := Tryz.func189
theorem en_nat_multiplied : Enters C.P 189 := Enters.mk fn_nat_multiplied (by kernel_rfl) (by kernel_rfl)
theorem nt_nat_multiplied : Tryz.f189.ntmps = 18 := Tryz.ntmps189
theorem rs_nat_multiplied : Tryz.f189.results = #[ResultVar.tmp 6, ResultVar.cell 7 28] := Tryz.results189
abbrev n_nat_Sub_1 : FuncId := 190
theorem fn_nat_Sub_1 : C.P.funcs[190]? = some Tryz.f190 := Tryz.func190
theorem en_nat_Sub_1 : Enters C.P 190 := Enters.mk fn_nat_Sub_1 (by kernel_rfl) (by kernel_rfl)
theorem nt_nat_Sub_1 : Tryz.f190.ntmps = 13 := Tryz.ntmps190
theorem rs_nat_Sub_1 : Tryz.f190.results = #[ResultVar.tmp 4] := Tryz.results190
abbrev n_nat_limbs_cmp : FuncId := 191
theorem fn_nat_limbs_cmp : C.P.funcs[191]? = some Tryz.f191 := Tryz.func191
theorem en_nat_limbs_cmp : Enters C.P 191 := Enters.mk fn_nat_limbs_cmp (by kernel_rfl) (by kernel_rfl)
theorem nt_nat_limbs_cmp : Tryz.f191.ntmps = 37 := Tryz.ntmps191
theorem rs_nat_limbs_cmp : Tryz.f191.results = #[ResultVar.cell 4 3] := Tryz.results191
abbrev n_nat_limbs_sub : FuncId := 192
theorem fn_nat_limbs_sub : C.P.funcs[192]? = some Tryz.f192 := Tryz.func192
theorem en_nat_limbs_sub : Enters C.P 192 := Enters.mk fn_nat_limbs_sub (by kernel_rfl) (by kernel_rfl)
theorem nt_nat_limbs_sub : Tryz.f192.ntmps = 36 := Tryz.ntmps192
theorem rs_nat_limbs_sub : Tryz.f192.results = #[ResultVar.tmp 4] := Tryz.results192
abbrev n_nat_limbs_add : FuncId := 193
theorem fn_nat_limbs_add : C.P.funcs[193]? = some Tryz.f193 := Tryz.func193
theorem en_nat_limbs_add : Enters C.P 193 := Enters.mk fn_nat_limbs_add (by kernel_rfl) (by kernel_rfl)
theorem nt_nat_limbs_add : Tryz.f193.ntmps = 39 := Tryz.ntmps193
theorem rs_nat_limbs_add : Tryz.f193.results = #[ResultVar.tmp 4] := Tryz.results193
abbrev n_whole_digits : FuncId := 194
theorem fn_whole_digits : C.P.funcs[194]? = some Tryz.f194 := Tryz.func194
theorem en_whole_digits : Enters C.P 194 := Enters.mk fn_whole_digits (by kernel_rfl) (by kernel_rfl)
theorem nt_whole_digits : Tryz.f194.ntmps = 6 := Tryz.ntmps194
theorem rs_whole_digits : Tryz.f194.results = #[ResultVar.tmp 4] := Tryz.results194
abbrev n_slices_Reverse_byte_byte : FuncId := 195
theorem fn_slices_Reverse_byte_byte : C.P.funcs[195]? = some Tryz.f195 := Tryz.func195
theorem en_slices_Reverse_byte_byte : Enters C.P 195 := Enters.mk fn_slices_Reverse_byte_byte (by kernel_rfl) (by kernel_rfl)
theorem nt_slices_Reverse_byte_byte : Tryz.f195.ntmps = 28 := Tryz.ntmps195
theorem rs_slices_Reverse_byte_byte : Tryz.f195.results = #[] := Tryz.results195
abbrev n_whole_chunk : FuncId := 206
theorem fn_whole_chunk : C.P.funcs[206]? = some Tryz.f206 := Tryz.func206
theorem en_whole_chunk : Enters C.P 206 := Enters.mk fn_whole_chunk (by kernel_rfl) (by kernel_rfl)
theorem nt_whole_chunk : Tryz.f206.ntmps = 22 := Tryz.ntmps206
theorem rs_whole_chunk : Tryz.f206.results = #[ResultVar.tmp 2, ResultVar.tmp 3] := Tryz.results206
abbrev n_nat_limbs_size : FuncId := 208
theorem fn_nat_limbs_size : C.P.funcs[208]? = some Tryz.f208 := Tryz.func208
theorem en_nat_limbs_size : Enters C.P 208 := Enters.mk fn_nat_limbs_size (by kernel_rfl) (by kernel_rfl)
theorem nt_nat_limbs_size : Tryz.f208.ntmps = 18 := Tryz.ntmps208
theorem rs_nat_limbs_size : Tryz.f208.results = #[ResultVar.tmp 2] := Tryz.results208
abbrev n_nat_limbs_pow : FuncId := 209
theorem fn_nat_limbs_pow : C.P.funcs[209]? = some Tryz.f209 := Tryz.func209
theorem en_nat_limbs_pow : Enters C.P 209 := Enters.mk fn_nat_limbs_pow (by kernel_rfl) (by kernel_rfl)
theorem nt_nat_limbs_pow : Tryz.f209.ntmps = 28 := Tryz.ntmps209
theorem rs_nat_limbs_pow : Tryz.f209.results = #[ResultVar.tmp 4] := Tryz.results209
abbrev n_whole_modular : FuncId := 210
theorem fn_whole_modular : C.P.funcs[210]? = some Tryz.f210 := Tryz.func210
theorem en_whole_modular : Enters C.P 210 := Enters.mk fn_whole_modular (by kernel_rfl) (by kernel_rfl)
theorem nt_whole_modular : Tryz.f210.ntmps = 30 := Tryz.ntmps210
theorem rs_whole_modular : Tryz.f210.results = #[ResultVar.tmp 6] := Tryz.results210
abbrev n_slices_IndexFunc_api_Int_api_Int : FuncId := 212
theorem fn_slices_IndexFunc_api_Int_api_Int : C.P.funcs[212]? = some Tryz.f212 := Tryz.func212
theorem en_slices_IndexFunc_api_Int_api_Int : Enters C.P 212 := Enters.mk fn_slices_IndexFunc_api_Int_api_Int (by kernel_rfl) (by kernel_rfl)
theorem nt_slices_IndexFunc_api_Int_api_Int : Tryz.f212.ntmps = 19 := Tryz.ntmps212
theorem rs_slices_IndexFunc_api_Int_api_Int : Tryz.f212.results = #[ResultVar.tmp 4] := Tryz.results212
abbrev n_nat_divided : FuncId := 213
theorem fn_nat_divided : C.P.funcs[213]? = some Tryz.f213 := Tryz.func213
theorem en_nat_divided : Enters C.P 213 := Enters.mk fn_nat_divided (by kernel_rfl) (by kernel_rfl)
theorem nt_nat_divided : Tryz.f213.ntmps = 31 := Tryz.ntmps213
theorem rs_nat_divided : Tryz.f213.results = #[ResultVar.tmp 6, ResultVar.tmp 7, ResultVar.cell 8 28] := Tryz.results213
abbrev n_nat_Div_1 : FuncId := 214
theorem fn_nat_Div_1 : C.P.funcs[214]? = some Tryz.f214 := Tryz.func214
theorem en_nat_Div_1 : Enters C.P 214 := Enters.mk fn_nat_Div_1 (by kernel_rfl) (by kernel_rfl)
theorem nt_nat_Div_1 : Tryz.f214.ntmps = 11 := Tryz.ntmps214
theorem rs_nat_Div_1 : Tryz.f214.results = #[ResultVar.tmp 4, ResultVar.tmp 5] := Tryz.results214
abbrev n_nat_limbs_blocks : FuncId := 215
theorem fn_nat_limbs_blocks : C.P.funcs[215]? = some Tryz.f215 := Tryz.func215
theorem en_nat_limbs_blocks : Enters C.P 215 := Enters.mk fn_nat_limbs_blocks (by kernel_rfl) (by kernel_rfl)
theorem nt_nat_limbs_blocks : Tryz.f215.ntmps = 93 := Tryz.ntmps215
theorem rs_nat_limbs_blocks : Tryz.f215.results = #[ResultVar.tmp 6, ResultVar.tmp 7] := Tryz.results215
abbrev n_R01_short : FuncId := 216
theorem fn_R01_short : C.P.funcs[216]? = some Tryz.f216 := Tryz.func216
theorem en_R01_short : Enters C.P 216 := Enters.mk fn_R01_short (by kernel_rfl) (by kernel_rfl)
theorem nt_R01_short : Tryz.f216.ntmps = 44 := Tryz.ntmps216
theorem rs_R01_short : Tryz.f216.results = #[ResultVar.cell 4 178] := Tryz.results216
abbrev n_R01_Shr : FuncId := 217
theorem fn_R01_Shr : C.P.funcs[217]? = some Tryz.f217 := Tryz.func217
theorem en_R01_Shr : Enters C.P 217 := Enters.mk fn_R01_Shr (by kernel_rfl) (by kernel_rfl)
theorem nt_R01_Shr : Tryz.f217.ntmps = 40 := Tryz.ntmps217
theorem rs_R01_Shr : Tryz.f217.results = #[ResultVar.tmp 4] := Tryz.results217
abbrev n_nat_limbs_mul : FuncId := 218
theorem fn_nat_limbs_mul : C.P.funcs[218]? = some Tryz.f218 := Tryz.func218
theorem en_nat_limbs_mul : Enters C.P 218 := Enters.mk fn_nat_limbs_mul (by kernel_rfl) (by kernel_rfl)
theorem nt_nat_limbs_mul : Tryz.f218.ntmps = 8 := Tryz.ntmps218
theorem rs_nat_limbs_mul : Tryz.f218.results = #[ResultVar.tmp 4] := Tryz.results218
abbrev n_nat_limbs_trim : FuncId := 219
theorem fn_nat_limbs_trim : C.P.funcs[219]? = some Tryz.f219 := Tryz.func219
theorem en_nat_limbs_trim : Enters C.P 219 := Enters.mk fn_nat_limbs_trim (by kernel_rfl) (by kernel_rfl)
theorem nt_nat_limbs_trim : Tryz.f219.ntmps = 21 := Tryz.ntmps219
theorem rs_nat_limbs_trim : Tryz.f219.results = #[ResultVar.tmp 2] := Tryz.results219
abbrev n_slices_ContainsFunc_api_Nat_api_Nat : FuncId := 220
theorem fn_slices_ContainsFunc_api_Nat_api_Nat : C.P.funcs[220]? = some Tryz.f220 := Tryz.func220
theorem en_slices_ContainsFunc_api_Nat_api_Nat : Enters C.P 220 := Enters.mk fn_slices_ContainsFunc_api_Nat_api_Nat (by kernel_rfl) (by kernel_rfl)
theorem nt_slices_ContainsFunc_api_Nat_api_Nat : Tryz.f220.ntmps = 9 := Tryz.ntmps220
theorem rs_slices_ContainsFunc_api_Nat_api_Nat : Tryz.f220.results = #[ResultVar.tmp 4] := Tryz.results220
abbrev n_nat_taken_1 : FuncId := 221
theorem fn_nat_taken_1 : C.P.funcs[221]? = some Tryz.f221 := Tryz.func221
theorem en_nat_taken_1 : Enters C.P 221 := Enters.mk fn_nat_taken_1 (by kernel_rfl) (by kernel_rfl)
theorem nt_nat_taken_1 : Tryz.f221.ntmps = 6 := Tryz.ntmps221
theorem rs_nat_taken_1 : Tryz.f221.results = #[ResultVar.tmp 2] := Tryz.results221
abbrev n_slices_Clone_nat_limbs_uint32 : FuncId := 222
theorem fn_slices_Clone_nat_limbs_uint32 : C.P.funcs[222]? = some Tryz.f222 := Tryz.func222
theorem en_slices_Clone_nat_limbs_uint32 : Enters C.P 222 := Enters.mk fn_slices_Clone_nat_limbs_uint32 (by kernel_rfl) (by kernel_rfl)
theorem nt_slices_Clone_nat_limbs_uint32 : Tryz.f222.ntmps = 8 := Tryz.ntmps222
theorem rs_slices_Clone_nat_limbs_uint32 : Tryz.f222.results = #[ResultVar.tmp 2] := Tryz.results222
abbrev n_slices_Backward_nat_limbs_uint32 : FuncId := 223
theorem fn_slices_Backward_nat_limbs_uint32 : C.P.funcs[223]? = some Tryz.f223 := Tryz.func223
theorem en_slices_Backward_nat_limbs_uint32 : Enters C.P 223 := Enters.mk fn_slices_Backward_nat_limbs_uint32 (by kernel_rfl) (by kernel_rfl)
theorem nt_slices_Backward_nat_limbs_uint32 : Tryz.f223.ntmps = 4 := Tryz.ntmps223
theorem rs_slices_Backward_nat_limbs_uint32 : Tryz.f223.results = #[ResultVar.tmp 2] := Tryz.results223
abbrev n_whole_digits_1 : FuncId := 224
theorem fn_whole_digits_1 : C.P.funcs[224]? = some Tryz.f224 := Tryz.func224
theorem en_whole_digits_1 : Enters C.P 224 := Enters.mk fn_whole_digits_1 (by kernel_rfl) (by kernel_rfl)
theorem nt_whole_digits_1 : Tryz.f224.ntmps = 62 := Tryz.ntmps224
theorem rs_whole_digits_1 : Tryz.f224.results = #[] := Tryz.results224
abbrev n_bits_Len32 : FuncId := 233
theorem fn_bits_Len32 : C.P.funcs[233]? = some Tryz.f233 := Tryz.func233
theorem en_bits_Len32 : Enters C.P 233 := Enters.mk fn_bits_Len32 (by kernel_rfl) (by kernel_rfl)
theorem nt_bits_Len32 : Tryz.f233.ntmps = 19 := Tryz.ntmps233
theorem rs_bits_Len32 : Tryz.f233.results = #[ResultVar.tmp 2] := Tryz.results233
abbrev n_bits_Len : FuncId := 234
theorem fn_bits_Len : C.P.funcs[234]? = some Tryz.f234 := Tryz.func234
theorem en_bits_Len : Enters C.P 234 := Enters.mk fn_bits_Len (by kernel_rfl) (by kernel_rfl)
theorem nt_bits_Len : Tryz.f234.ntmps = 8 := Tryz.ntmps234
theorem rs_bits_Len : Tryz.f234.results = #[ResultVar.tmp 2] := Tryz.results234
abbrev n_nat_limbs_long : FuncId := 235
theorem fn_nat_limbs_long : C.P.funcs[235]? = some Tryz.f235 := Tryz.func235
theorem en_nat_limbs_long : Enters C.P 235 := Enters.mk fn_nat_limbs_long (by kernel_rfl) (by kernel_rfl)
theorem nt_nat_limbs_long : Tryz.f235.ntmps = 80 := Tryz.ntmps235
theorem rs_nat_limbs_long : Tryz.f235.results = #[ResultVar.tmp 4, ResultVar.tmp 5] := Tryz.results235
abbrev n_nat_limbs_high : FuncId := 236
theorem fn_nat_limbs_high : C.P.funcs[236]? = some Tryz.f236 := Tryz.func236
theorem en_nat_limbs_high : Enters C.P 236 := Enters.mk fn_nat_limbs_high (by kernel_rfl) (by kernel_rfl)
theorem nt_nat_limbs_high : Tryz.f236.ntmps = 12 := Tryz.ntmps236
theorem rs_nat_limbs_high : Tryz.f236.results = #[ResultVar.tmp 4] := Tryz.results236
abbrev n_nat_limbs_low : FuncId := 237
theorem fn_nat_limbs_low : C.P.funcs[237]? = some Tryz.f237 := Tryz.func237
theorem en_nat_limbs_low : Enters C.P 237 := Enters.mk fn_nat_limbs_low (by kernel_rfl) (by kernel_rfl)
theorem nt_nat_limbs_low : Tryz.f237.ntmps = 13 := Tryz.ntmps237
theorem rs_nat_limbs_low : Tryz.f237.results = #[ResultVar.tmp 4] := Tryz.results237
abbrev n_nat_twice : FuncId := 238
theorem fn_nat_twice : C.P.funcs[238]? = some Tryz.f238 := Tryz.func238
theorem en_nat_twice : Enters C.P 238 := Enters.mk fn_nat_twice (by kernel_rfl) (by kernel_rfl)
theorem nt_nat_twice : Tryz.f238.ntmps = 61 := Tryz.ntmps238
theorem rs_nat_twice : Tryz.f238.results = #[ResultVar.tmp 8, ResultVar.tmp 9] := Tryz.results238
abbrev n_nat_limbs_karatsuba : FuncId := 239
theorem fn_nat_limbs_karatsuba : C.P.funcs[239]? = some Tryz.f239 := Tryz.func239
theorem en_nat_limbs_karatsuba : Enters C.P 239 := Enters.mk fn_nat_limbs_karatsuba (by kernel_rfl) (by kernel_rfl)
theorem nt_nat_limbs_karatsuba : Tryz.f239.ntmps = 77 := Tryz.ntmps239
theorem rs_nat_limbs_karatsuba : Tryz.f239.results = #[ResultVar.tmp 6] := Tryz.results239
abbrev n_slices_IndexFunc_api_Nat_api_Nat : FuncId := 240
theorem fn_slices_IndexFunc_api_Nat_api_Nat : C.P.funcs[240]? = some Tryz.f240 := Tryz.func240
theorem en_slices_IndexFunc_api_Nat_api_Nat : Enters C.P 240 := Enters.mk fn_slices_IndexFunc_api_Nat_api_Nat (by kernel_rfl) (by kernel_rfl)
theorem nt_slices_IndexFunc_api_Nat_api_Nat : Tryz.f240.ntmps = 19 := Tryz.ntmps240
theorem rs_slices_IndexFunc_api_Nat_api_Nat : Tryz.f240.results = #[ResultVar.tmp 4] := Tryz.results240
abbrev n_slices_Backward_nat_limbs_uint32_1 : FuncId := 241
theorem fn_slices_Backward_nat_limbs_uint32_1 : C.P.funcs[241]? = some Tryz.f241 := Tryz.func241
theorem en_slices_Backward_nat_limbs_uint32_1 : Enters C.P 241 := Enters.mk fn_slices_Backward_nat_limbs_uint32_1 (by kernel_rfl) (by kernel_rfl)
theorem nt_slices_Backward_nat_limbs_uint32_1 : Tryz.f241.ntmps = 19 := Tryz.ntmps241
theorem rs_slices_Backward_nat_limbs_uint32_1 : Tryz.f241.results = #[] := Tryz.results241
abbrev n_bits_Len64 : FuncId := 248
theorem fn_bits_Len64 : C.P.funcs[248]? = some Tryz.f248 := Tryz.func248
theorem en_bits_Len64 : Enters C.P 248 := Enters.mk fn_bits_Len64 (by kernel_rfl) (by kernel_rfl)
theorem nt_bits_Len64 : Tryz.f248.ntmps = 25 := Tryz.ntmps248
theorem rs_bits_Len64 : Tryz.f248.results = #[ResultVar.tmp 2] := Tryz.results248
abbrev n_nat_limbs_short : FuncId := 249
theorem fn_nat_limbs_short : C.P.funcs[249]? = some Tryz.f249 := Tryz.func249
theorem en_nat_limbs_short : Enters C.P 249 := Enters.mk fn_nat_limbs_short (by kernel_rfl) (by kernel_rfl)
theorem nt_nat_limbs_short : Tryz.f249.ntmps = 43 := Tryz.ntmps249
theorem rs_nat_limbs_short : Tryz.f249.results = #[ResultVar.tmp 4, ResultVar.tmp 5] := Tryz.results249
abbrev n_bits_LeadingZeros32 : FuncId := 250
theorem fn_bits_LeadingZeros32 : C.P.funcs[250]? = some Tryz.f250 := Tryz.func250
theorem en_bits_LeadingZeros32 : Enters C.P 250 := Enters.mk fn_bits_LeadingZeros32 (by kernel_rfl) (by kernel_rfl)
theorem nt_bits_LeadingZeros32 : Tryz.f250.ntmps = 6 := Tryz.ntmps250
theorem rs_bits_LeadingZeros32 : Tryz.f250.results = #[ResultVar.tmp 2] := Tryz.results250
abbrev n_nat_estimate : FuncId := 251
theorem fn_nat_estimate : C.P.funcs[251]? = some Tryz.f251 := Tryz.func251
theorem en_nat_estimate : Enters C.P 251 := Enters.mk fn_nat_estimate (by kernel_rfl) (by kernel_rfl)
theorem nt_nat_estimate : Tryz.f251.ntmps = 109 := Tryz.ntmps251
theorem rs_nat_estimate : Tryz.f251.results = #[ResultVar.tmp 4] := Tryz.results251
abbrev n_nat_thrice : FuncId := 252
theorem fn_nat_thrice : C.P.funcs[252]? = some Tryz.f252 := Tryz.func252
theorem en_nat_thrice : Enters C.P 252 := Enters.mk fn_nat_thrice (by kernel_rfl) (by kernel_rfl)
theorem nt_nat_thrice : Tryz.f252.ntmps = 79 := Tryz.ntmps252
theorem rs_nat_thrice : Tryz.f252.results = #[ResultVar.tmp 8, ResultVar.tmp 9] := Tryz.results252
abbrev n_nat_limbs_school : FuncId := 253
theorem fn_nat_limbs_school : C.P.funcs[253]? = some Tryz.f253 := Tryz.func253
theorem en_nat_limbs_school : Enters C.P 253 := Enters.mk fn_nat_limbs_school (by kernel_rfl) (by kernel_rfl)
theorem nt_nat_limbs_school : Tryz.f253.ntmps = 67 := Tryz.ntmps253
theorem rs_nat_limbs_school : Tryz.f253.results = #[ResultVar.tmp 4] := Tryz.results253
abbrev n_nat_takes : FuncId := 257
theorem fn_nat_takes : C.P.funcs[257]? = some Tryz.f257 := Tryz.func257
theorem en_nat_takes : Enters C.P 257 := Enters.mk fn_nat_takes (by kernel_rfl) (by kernel_rfl)
theorem nt_nat_takes : Tryz.f257.ntmps = 46 := Tryz.ntmps257
theorem rs_nat_takes : Tryz.f257.results = #[ResultVar.tmp 6] := Tryz.results257
end Go.V
