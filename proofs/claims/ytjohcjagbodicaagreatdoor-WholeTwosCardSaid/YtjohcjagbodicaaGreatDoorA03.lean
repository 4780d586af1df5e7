/- A part of the proof: abstract values, rules for the steps of the program's form, and contracts of its functions, each proved; no condition. -/
import Derived.Test.YtjohcjagbodicaaGreatDoorA02
import Derived.Test.YtjohcjagbodicaaGreatDoorProg
set_option linter.unusedVariables false
set_option linter.unusedSimpArgs false
/- THE SEAT's TABLE, PRINTED BY seatv.py (a program of this session's): what each type is, by the translation's own facts; the functions, by name. -/
namespace Go.V
open Go.RowKit Go.Proofs
theorem te1 : TEok Tryz.prog 1 ⟨.other, 1, 8, .nilFunc⟩ := ⟨by kernel_rfl, ⟨_, Tryz.underlying1, rfl⟩⟩
theorem te2 : TEok Tryz.prog 2 ⟨.int .i64, 1, 8, .int .i64 0⟩ := ⟨by kernel_rfl, Tryz.underlying2⟩
theorem te3 : TEok Tryz.prog 3 ⟨.int .i64, 1, 8, .int .i64 0⟩ := ⟨by kernel_rfl, Tryz.underlying3⟩
theorem te4 : TEok Tryz.prog 4 ⟨.bool, 1, 1, .bool false⟩ := ⟨by kernel_rfl, Tryz.underlying4⟩
theorem te5 : TEok Tryz.prog 5 ⟨.int .u8, 1, 1, .int .u8 0⟩ := ⟨by kernel_rfl, Tryz.underlying5⟩
theorem te6 : TEok Tryz.prog 6 ⟨.int .u8, 1, 1, .int .u8 0⟩ := ⟨by kernel_rfl, Tryz.underlying6⟩
theorem te7 : TEok Tryz.prog 7 ⟨.struct [(0, 1), (1, 1), (2, 1), (3, 1)], 4, 24, .agg #[.int .i64 0, .int .i64 0, .bool false, .int .u8 0]⟩ := ⟨by kernel_rfl, ⟨_, Tryz.underlying7, by kernel_rfl⟩⟩
theorem te8 : TEok Tryz.prog 8 ⟨.struct [(0, 1), (1, 1), (2, 1), (3, 1)], 4, 24, .agg #[.int .i64 0, .int .i64 0, .bool false, .int .u8 0]⟩ := ⟨by kernel_rfl, ⟨_, Tryz.underlying8, by kernel_rfl⟩⟩
theorem te9 : TEok Tryz.prog 9 ⟨.str, 1, 16, .string ⟨#[]⟩⟩ := ⟨by kernel_rfl, Tryz.underlying9⟩
theorem te10 : TEok Tryz.prog 10 ⟨.str, 1, 16, .string ⟨#[]⟩⟩ := ⟨by kernel_rfl, Tryz.underlying10⟩
theorem te11 : TEok Tryz.prog 11 ⟨.str, 1, 16, .string ⟨#[]⟩⟩ := ⟨by kernel_rfl, Tryz.underlying11⟩
theorem te12 : TEok Tryz.prog 12 ⟨.int .u64, 1, 8, .int .u64 0⟩ := ⟨by kernel_rfl, Tryz.underlying12⟩
theorem te13 : TEok Tryz.prog 13 ⟨.struct [(0, 1), (1, 1)], 2, 24, .agg #[.string ⟨#[]⟩, .int .u64 0]⟩ := ⟨by kernel_rfl, ⟨_, Tryz.underlying13, by kernel_rfl⟩⟩
theorem te14 : TEok Tryz.prog 14 ⟨.struct [(0, 1), (1, 1)], 2, 24, .agg #[.string ⟨#[]⟩, .int .u64 0]⟩ := ⟨by kernel_rfl, ⟨_, Tryz.underlying14, by kernel_rfl⟩⟩
theorem te15 : TEok Tryz.prog 15 ⟨.ptr, 1, 8, .pointer none⟩ := ⟨by kernel_rfl, ⟨_, Tryz.underlying15⟩⟩
theorem te16 : TEok Tryz.prog 16 ⟨.ptr, 1, 8, .pointer none⟩ := ⟨by kernel_rfl, ⟨_, Tryz.underlying16⟩⟩
theorem te17 : TEok Tryz.prog 17 ⟨.ptr, 1, 8, .pointer none⟩ := ⟨by kernel_rfl, ⟨_, Tryz.underlying17⟩⟩
theorem te18 : TEok Tryz.prog 18 ⟨.struct [(0, 1)], 1, 8, .agg #[.pointer none]⟩ := ⟨by kernel_rfl, ⟨_, Tryz.underlying18, by kernel_rfl⟩⟩
theorem te19 : TEok Tryz.prog 19 ⟨.struct [(0, 1)], 1, 8, .agg #[.pointer none]⟩ := ⟨by kernel_rfl, ⟨_, Tryz.underlying19, by kernel_rfl⟩⟩
theorem te20 : TEok Tryz.prog 20 ⟨.other, 1, 16, .nilIface⟩ := ⟨by kernel_rfl, ⟨_, Tryz.underlying20, rfl⟩⟩
theorem te21 : TEok Tryz.prog 21 ⟨.int .i32, 1, 4, .int .i32 0⟩ := ⟨by kernel_rfl, Tryz.underlying21⟩
theorem te22 : TEok Tryz.prog 22 ⟨.slice 54, 1, 24, .slice none 0 0⟩ := ⟨by kernel_rfl, Tryz.underlying22⟩
theorem te23 : TEok Tryz.prog 23 ⟨.slice 54, 1, 24, .slice none 0 0⟩ := ⟨by kernel_rfl, Tryz.underlying23⟩
theorem te24 : TEok Tryz.prog 24 ⟨.struct [(0, 1), (1, 1)], 2, 32, .agg #[.bool false, .slice none 0 0]⟩ := ⟨by kernel_rfl, ⟨_, Tryz.underlying24, by kernel_rfl⟩⟩
theorem te25 : TEok Tryz.prog 25 ⟨.struct [(0, 1), (1, 1)], 2, 32, .agg #[.bool false, .slice none 0 0]⟩ := ⟨by kernel_rfl, ⟨_, Tryz.underlying25, by kernel_rfl⟩⟩
theorem te26 : TEok Tryz.prog 26 ⟨.other, 1, 8, .nilFunc⟩ := ⟨by kernel_rfl, ⟨_, Tryz.underlying26, rfl⟩⟩
theorem te27 : TEok Tryz.prog 27 ⟨.other, 1, 8, .nilFunc⟩ := ⟨by kernel_rfl, ⟨_, Tryz.underlying27, rfl⟩⟩
theorem te28 : TEok Tryz.prog 28 ⟨.int .i64, 1, 8, .int .i64 0⟩ := ⟨by kernel_rfl, Tryz.underlying28⟩
theorem te30 : TEok Tryz.prog 30 ⟨.other, 1, 8, .nilFunc⟩ := ⟨by kernel_rfl, ⟨_, Tryz.underlying30, rfl⟩⟩
theorem te31 : TEok Tryz.prog 31 ⟨.struct [(0, 2), (2, 2), (4, 1)], 5, 72, .agg #[.bool false, .slice none 0 0, .bool false, .slice none 0 0, .int .i64 0]⟩ := ⟨by kernel_rfl, ⟨_, Tryz.underlying31, by kernel_rfl⟩⟩
theorem te32 : TEok Tryz.prog 32 ⟨.struct [(0, 2), (2, 2), (4, 1)], 5, 72, .agg #[.bool false, .slice none 0 0, .bool false, .slice none 0 0, .int .i64 0]⟩ := ⟨by kernel_rfl, ⟨_, Tryz.underlying32, by kernel_rfl⟩⟩
theorem te33 : TEok Tryz.prog 33 ⟨.other, 1, 8, .nilFunc⟩ := ⟨by kernel_rfl, ⟨_, Tryz.underlying33, rfl⟩⟩
theorem te34 : TEok Tryz.prog 34 ⟨.other, 1, 8, .nilFunc⟩ := ⟨by kernel_rfl, ⟨_, Tryz.underlying34, rfl⟩⟩
theorem te35 : TEok Tryz.prog 35 ⟨.other, 1, 8, .nilFunc⟩ := ⟨by kernel_rfl, ⟨_, Tryz.underlying35, rfl⟩⟩
theorem te37 : TEok Tryz.prog 37 ⟨.other, 1, 8, .nilFunc⟩ := ⟨by kernel_rfl, ⟨_, Tryz.underlying37, rfl⟩⟩
theorem te38 : TEok Tryz.prog 38 ⟨.struct [(0, 2), (2, 2), (4, 2), (6, 1)], 7, 104, .agg #[.bool false, .slice none 0 0, .bool false, .slice none 0 0, .bool false, .slice none 0 0, .int .i64 0]⟩ := ⟨by kernel_rfl, ⟨_, Tryz.underlying38, by kernel_rfl⟩⟩
theorem te39 : TEok Tryz.prog 39 ⟨.struct [(0, 2), (2, 2), (4, 2), (6, 1)], 7, 104, .agg #[.bool false, .slice none 0 0, .bool false, .slice none 0 0, .bool false, .slice none 0 0, .int .i64 0]⟩ := ⟨by kernel_rfl, ⟨_, Tryz.underlying39, by kernel_rfl⟩⟩
theorem te40 : TEok Tryz.prog 40 ⟨.other, 1, 8, .nilFunc⟩ := ⟨by kernel_rfl, ⟨_, Tryz.underlying40, rfl⟩⟩
theorem te42 : TEok Tryz.prog 42 ⟨.other, 1, 8, .nilFunc⟩ := ⟨by kernel_rfl, ⟨_, Tryz.underlying42, rfl⟩⟩
theorem te43 : TEok Tryz.prog 43 ⟨.other, 1, 8, .nilFunc⟩ := ⟨by kernel_rfl, ⟨_, Tryz.underlying43, rfl⟩⟩
theorem te44 : TEok Tryz.prog 44 ⟨.struct [(0, 2), (2, 1)], 3, 40, .agg #[.bool false, .slice none 0 0, .int .i64 0]⟩ := ⟨by kernel_rfl, ⟨_, Tryz.underlying44, by kernel_rfl⟩⟩
theorem te45 : TEok Tryz.prog 45 ⟨.struct [(0, 2), (2, 1)], 3, 40, .agg #[.bool false, .slice none 0 0, .int .i64 0]⟩ := ⟨by kernel_rfl, ⟨_, Tryz.underlying45, by kernel_rfl⟩⟩
theorem te46 : TEok Tryz.prog 46 ⟨.other, 1, 8, .nilFunc⟩ := ⟨by kernel_rfl, ⟨_, Tryz.underlying46, rfl⟩⟩
theorem te47 : TEok Tryz.prog 47 ⟨.other, 1, 8, .nilFunc⟩ := ⟨by kernel_rfl, ⟨_, Tryz.underlying47, rfl⟩⟩
theorem te48 : TEok Tryz.prog 48 ⟨.other, 1, 8, .nilFunc⟩ := ⟨by kernel_rfl, ⟨_, Tryz.underlying48, rfl⟩⟩
theorem te49 : TEok Tryz.prog 49 ⟨.other, 1, 8, .nilFunc⟩ := ⟨by kernel_rfl, ⟨_, Tryz.underlying49, rfl⟩⟩
theorem te50 : TEok Tryz.prog 50 ⟨.slice 25, 1, 24, .slice none 0 0⟩ := ⟨by kernel_rfl, Tryz.underlying50⟩
theorem te51 : TEok Tryz.prog 51 ⟨.other, 1, 8, .nilFunc⟩ := ⟨by kernel_rfl, ⟨_, Tryz.underlying51, rfl⟩⟩
theorem te52 : TEok Tryz.prog 52 ⟨.other, 1, 8, .nilFunc⟩ := ⟨by kernel_rfl, ⟨_, Tryz.underlying52, rfl⟩⟩
theorem te53 : TEok Tryz.prog 53 ⟨.other, 1, 8, .nilFunc⟩ := ⟨by kernel_rfl, ⟨_, Tryz.underlying53, rfl⟩⟩
theorem te54 : TEok Tryz.prog 54 ⟨.int .u32, 1, 4, .int .u32 0⟩ := ⟨by kernel_rfl, Tryz.underlying54⟩
theorem te55 : TEok Tryz.prog 55 ⟨.other, 1, 8, .nilFunc⟩ := ⟨by kernel_rfl, ⟨_, Tryz.underlying55, rfl⟩⟩
theorem te57 : TEok Tryz.prog 57 ⟨.other, 1, 8, .nilFunc⟩ := ⟨by kernel_rfl, ⟨_, Tryz.underlying57, rfl⟩⟩
theorem te58 : TEok Tryz.prog 58 ⟨.other, 1, 8, .nilFunc⟩ := ⟨by kernel_rfl, ⟨_, Tryz.underlying58, rfl⟩⟩
theorem te59 : TEok Tryz.prog 59 ⟨.other, 1, 8, .nilFunc⟩ := ⟨by kernel_rfl, ⟨_, Tryz.underlying59, rfl⟩⟩
theorem te60 : TEok Tryz.prog 60 ⟨.other, 1, 8, .nilFunc⟩ := ⟨by kernel_rfl, ⟨_, Tryz.underlying60, rfl⟩⟩
theorem te61 : TEok Tryz.prog 61 ⟨.other, 1, 8, .nilFunc⟩ := ⟨by kernel_rfl, ⟨_, Tryz.underlying61, rfl⟩⟩
theorem te62 : TEok Tryz.prog 62 ⟨.other, 1, 8, .nilFunc⟩ := ⟨by kernel_rfl, ⟨_, Tryz.underlying62, rfl⟩⟩
theorem te64 : TEok Tryz.prog 64 ⟨.other, 1, 8, .nilFunc⟩ := ⟨by kernel_rfl, ⟨_, Tryz.underlying64, rfl⟩⟩
theorem te66 : TEok Tryz.prog 66 ⟨.other, 1, 8, .nilFunc⟩ := ⟨by kernel_rfl, ⟨_, Tryz.underlying66, rfl⟩⟩
theorem te67 : TEok Tryz.prog 67 ⟨.struct [(0, 2), (2, 1), (3, 1)], 4, 48, .agg #[.bool false, .slice none 0 0, .int .i64 0, .int .i64 0]⟩ := ⟨by kernel_rfl, ⟨_, Tryz.underlying67, by kernel_rfl⟩⟩
theorem te68 : TEok Tryz.prog 68 ⟨.struct [(0, 2), (2, 1), (3, 1)], 4, 48, .agg #[.bool false, .slice none 0 0, .int .i64 0, .int .i64 0]⟩ := ⟨by kernel_rfl, ⟨_, Tryz.underlying68, by kernel_rfl⟩⟩
theorem te69 : TEok Tryz.prog 69 ⟨.other, 1, 8, .nilFunc⟩ := ⟨by kernel_rfl, ⟨_, Tryz.underlying69, rfl⟩⟩
theorem te70 : TEok Tryz.prog 70 ⟨.other, 1, 8, .nilFunc⟩ := ⟨by kernel_rfl, ⟨_, Tryz.underlying70, rfl⟩⟩
theorem te71 : TEok Tryz.prog 71 ⟨.other, 1, 8, .nilFunc⟩ := ⟨by kernel_rfl, ⟨_, Tryz.underlying71, rfl⟩⟩
theorem te72 : TEok Tryz.prog 72 ⟨.other, 1, 8, .nilFunc⟩ := ⟨by kernel_rfl, ⟨_, Tryz.underlying72, rfl⟩⟩
theorem te73 : TEok Tryz.prog 73 ⟨.other, 1, 8, .nilFunc⟩ := ⟨by kernel_rfl, ⟨_, Tryz.underlying73, rfl⟩⟩
theorem te74 : TEok Tryz.prog 74 ⟨.other, 1, 8, .nilFunc⟩ := ⟨by kernel_rfl, ⟨_, Tryz.underlying74, rfl⟩⟩
theorem te75 : TEok Tryz.prog 75 ⟨.other, 1, 8, .nilFunc⟩ := ⟨by kernel_rfl, ⟨_, Tryz.underlying75, rfl⟩⟩
theorem te76 : TEok Tryz.prog 76 ⟨.other, 1, 8, .nilFunc⟩ := ⟨by kernel_rfl, ⟨_, Tryz.underlying76, rfl⟩⟩
theorem te77 : TEok Tryz.prog 77 ⟨.slice 3, 1, 24, .slice none 0 0⟩ := ⟨by kernel_rfl, Tryz.underlying77⟩
theorem te78 : TEok Tryz.prog 78 ⟨.other, 1, 8, .nilFunc⟩ := ⟨by kernel_rfl, ⟨_, Tryz.underlying78, rfl⟩⟩
theorem te79 : TEok Tryz.prog 79 ⟨.other, 1, 8, .nilFunc⟩ := ⟨by kernel_rfl, ⟨_, Tryz.underlying79, rfl⟩⟩
theorem te80 : TEok Tryz.prog 80 ⟨.other, 1, 8, .nilFunc⟩ := ⟨by kernel_rfl, ⟨_, Tryz.underlying80, rfl⟩⟩
theorem te81 : TEok Tryz.prog 81 ⟨.other, 1, 8, .nilFunc⟩ := ⟨by kernel_rfl, ⟨_, Tryz.underlying81, rfl⟩⟩
theorem te82 : TEok Tryz.prog 82 ⟨.other, 1, 8, .nilFunc⟩ := ⟨by kernel_rfl, ⟨_, Tryz.underlying82, rfl⟩⟩
theorem te84 : TEok Tryz.prog 84 ⟨.other, 1, 8, .nilFunc⟩ := ⟨by kernel_rfl, ⟨_, Tryz.underlying84, rfl⟩⟩
theorem te85 : TEok Tryz.prog 85 ⟨.other, 1, 8, .nilFunc⟩ := ⟨by kernel_rfl, ⟨_, Tryz.underlying85, rfl⟩⟩
theorem te86 : TEok Tryz.prog 86 ⟨.struct [(0, 1), (1, 1), (2, 1), (3, 1)], 4, 48, .agg #[.slice none 0 0, .int .i64 0, .bool false, .int .i64 0]⟩ := ⟨by kernel_rfl, ⟨_, Tryz.underlying86, by kernel_rfl⟩⟩
theorem te87 : TEok Tryz.prog 87 ⟨.struct [(0, 1), (1, 1), (2, 1), (3, 1)], 4, 48, .agg #[.slice none 0 0, .int .i64 0, .bool false, .int .i64 0]⟩ := ⟨by kernel_rfl, ⟨_, Tryz.underlying87, by kernel_rfl⟩⟩
theorem te89 : TEok Tryz.prog 89 ⟨.other, 1, 8, .nilFunc⟩ := ⟨by kernel_rfl, ⟨_, Tryz.underlying89, rfl⟩⟩
theorem te90 : TEok Tryz.prog 90 ⟨.struct [(0, 4), (4, 1), (5, 1)], 6, 64, .agg #[.slice none 0 0, .int .i64 0, .bool false, .int .i64 0, .int .i64 0, .int .i64 0]⟩ := ⟨by kernel_rfl, ⟨_, Tryz.underlying90, by kernel_rfl⟩⟩
theorem te91 : TEok Tryz.prog 91 ⟨.struct [(0, 4), (4, 1), (5, 1)], 6, 64, .agg #[.slice none 0 0, .int .i64 0, .bool false, .int .i64 0, .int .i64 0, .int .i64 0]⟩ := ⟨by kernel_rfl, ⟨_, Tryz.underlying91, by kernel_rfl⟩⟩
theorem te92 : TEok Tryz.prog 92 ⟨.other, 1, 8, .nilFunc⟩ := ⟨by kernel_rfl, ⟨_, Tryz.underlying92, rfl⟩⟩
theorem te93 : TEok Tryz.prog 93 ⟨.other, 1, 8, .nilFunc⟩ := ⟨by kernel_rfl, ⟨_, Tryz.underlying93, rfl⟩⟩
theorem te94 : TEok Tryz.prog 94 ⟨.struct [(0, 1), (1, 1)], 2, 16, .agg #[.int .i64 0, .bool false]⟩ := ⟨by kernel_rfl, ⟨_, Tryz.underlying94, by kernel_rfl⟩⟩
theorem te95 : TEok Tryz.prog 95 ⟨.struct [(0, 1), (1, 1)], 2, 16, .agg #[.int .i64 0, .bool false]⟩ := ⟨by kernel_rfl, ⟨_, Tryz.underlying95, by kernel_rfl⟩⟩
theorem te97 : TEok Tryz.prog 97 ⟨.other, 1, 8, .nilFunc⟩ := ⟨by kernel_rfl, ⟨_, Tryz.underlying97, rfl⟩⟩
theorem te98 : TEok Tryz.prog 98 ⟨.other, 1, 8, .nilFunc⟩ := ⟨by kernel_rfl, ⟨_, Tryz.underlying98, rfl⟩⟩
theorem te99 : TEok Tryz.prog 99 ⟨.other, 1, 8, .nilFunc⟩ := ⟨by kernel_rfl, ⟨_, Tryz.underlying99, rfl⟩⟩
theorem te100 : TEok Tryz.prog 100 ⟨.other, 1, 8, .nilFunc⟩ := ⟨by kernel_rfl, ⟨_, Tryz.underlying100, rfl⟩⟩
theorem te101 : TEok Tryz.prog 101 ⟨.ptr, 1, 8, .pointer none⟩ := ⟨by kernel_rfl, ⟨_, Tryz.underlying101⟩⟩
theorem te102 : TEok Tryz.prog 102 ⟨.other, 1, 8, .nilFunc⟩ := ⟨by kernel_rfl, ⟨_, Tryz.underlying102, rfl⟩⟩
theorem te103 : TEok Tryz.prog 103 ⟨.other, 1, 8, .nilFunc⟩ := ⟨by kernel_rfl, ⟨_, Tryz.underlying103, rfl⟩⟩
theorem te104 : TEok Tryz.prog 104 ⟨.struct [(0, 1)], 1, 8, .agg #[.nilFunc]⟩ := ⟨by kernel_rfl, ⟨_, Tryz.underlying104, by kernel_rfl⟩⟩
theorem te105 : TEok Tryz.prog 105 ⟨.struct [(0, 1)], 1, 8, .agg #[.nilFunc]⟩ := ⟨by kernel_rfl, ⟨_, Tryz.underlying105, by kernel_rfl⟩⟩
theorem te107 : TEok Tryz.prog 107 ⟨.other, 1, 8, .map none⟩ := ⟨by kernel_rfl, ⟨_, Tryz.underlying107, rfl⟩⟩
theorem te108 : TEok Tryz.prog 108 ⟨.other, 1, 8, .nilFunc⟩ := ⟨by kernel_rfl, ⟨_, Tryz.underlying108, rfl⟩⟩
theorem te109 : TEok Tryz.prog 109 ⟨.other, 1, 8, .nilFunc⟩ := ⟨by kernel_rfl, ⟨_, Tryz.underlying109, rfl⟩⟩
theorem te111 : TEok Tryz.prog 111 ⟨.other, 1, 8, .nilFunc⟩ := ⟨by kernel_rfl, ⟨_, Tryz.underlying111, rfl⟩⟩
theorem te112 : TEok Tryz.prog 112 ⟨.other, 1, 8, .nilFunc⟩ := ⟨by kernel_rfl, ⟨_, Tryz.underlying112, rfl⟩⟩
theorem te113 : TEok Tryz.prog 113 ⟨.other, 1, 8, .nilFunc⟩ := ⟨by kernel_rfl, ⟨_, Tryz.underlying113, rfl⟩⟩
theorem te114 : TEok Tryz.prog 114 ⟨.other, 1, 8, .nilFunc⟩ := ⟨by kernel_rfl, ⟨_, Tryz.underlying114, rfl⟩⟩
theorem te115 : TEok Tryz.prog 115 ⟨.other, 1, 8, .nilFunc⟩ := ⟨by kernel_rfl, ⟨_, Tryz.underlying115, rfl⟩⟩
theorem te116 : TEok Tryz.prog 116 ⟨.other, 1, 8, .nilFunc⟩ := ⟨by kernel_rfl, ⟨_, Tryz.underlying116, rfl⟩⟩
theorem te117 : TEok Tryz.prog 117 ⟨.other, 1, 8, .nilFunc⟩ := ⟨by kernel_rfl, ⟨_, Tryz.underlying117, rfl⟩⟩
theorem te118 : TEok Tryz.prog 118 ⟨.other, 1, 8, .nilFunc⟩ := ⟨by kernel_rfl, ⟨_, Tryz.underlying118, rfl⟩⟩
theorem te119 : TEok Tryz.prog 119 ⟨.other, 1, 8, .nilFunc⟩ := ⟨by kernel_rfl, ⟨_, Tryz.underlying119, rfl⟩⟩
theorem te120 : TEok Tryz.prog 120 ⟨.int .u64, 1, 8, .int .u64 0⟩ := ⟨by kernel_rfl, Tryz.underlying120⟩
theorem te122 : TEok Tryz.prog 122 ⟨.other, 1, 8, .nilFunc⟩ := ⟨by kernel_rfl, ⟨_, Tryz.underlying122, rfl⟩⟩
theorem te123 : TEok Tryz.prog 123 ⟨.other, 1, 8, .nilFunc⟩ := ⟨by kernel_rfl, ⟨_, Tryz.underlying123, rfl⟩⟩
theorem te124 : TEok Tryz.prog 124 ⟨.int .u64, 1, 8, .int .u64 0⟩ := ⟨by kernel_rfl, Tryz.underlying124⟩
theorem te125 : TEok Tryz.prog 125 ⟨.other, 1, 8, .nilFunc⟩ := ⟨by kernel_rfl, ⟨_, Tryz.underlying125, rfl⟩⟩
theorem te126 : TEok Tryz.prog 126 ⟨.other, 1, 8, .nilFunc⟩ := ⟨by kernel_rfl, ⟨_, Tryz.underlying126, rfl⟩⟩
theorem te128 : TEok Tryz.prog 128 ⟨.other, 1, 8, .nilFunc⟩ := ⟨by kernel_rfl, ⟨_, Tryz.underlying128, rfl⟩⟩
theorem te129 : TEok Tryz.prog 129 ⟨.other, 1, 8, .nilFunc⟩ := ⟨by kernel_rfl, ⟨_, Tryz.underlying129, rfl⟩⟩
theorem te130 : TEok Tryz.prog 130 ⟨.other, 1, 8, .nilFunc⟩ := ⟨by kernel_rfl, ⟨_, Tryz.underlying130, rfl⟩⟩
theorem te131 : TEok Tryz.prog 131 ⟨.other, 1, 8, .nilFunc⟩ := ⟨by kernel_rfl, ⟨_, Tryz.underlying131, rfl⟩⟩
theorem te132 : TEok Tryz.prog 132 ⟨.other, 1, 8, .nilFunc⟩ := ⟨by kernel_rfl, ⟨_, Tryz.underlying132, rfl⟩⟩
theorem te133 : TEok Tryz.prog 133 ⟨.other, 1, 8, .nilFunc⟩ := ⟨by kernel_rfl, ⟨_, Tryz.underlying133, rfl⟩⟩
theorem te134 : TEok Tryz.prog 134 ⟨.other, 1, 8, .nilFunc⟩ := ⟨by kernel_rfl, ⟨_, Tryz.underlying134, rfl⟩⟩
theorem te135 : TEok Tryz.prog 135 ⟨.ptr, 1, 8, .pointer none⟩ := ⟨by kernel_rfl, ⟨_, Tryz.underlying135⟩⟩
theorem te136 : TEok Tryz.prog 136 ⟨.ptr, 1, 8, .pointer none⟩ := ⟨by kernel_rfl, ⟨_, Tryz.underlying136⟩⟩
theorem te137 : TEok Tryz.prog 137 ⟨.struct [(0, 1), (1, 1)], 2, 24, .agg #[.string ⟨#[]⟩, .int .i64 0]⟩ := ⟨by kernel_rfl, ⟨_, Tryz.underlying137, by kernel_rfl⟩⟩
theorem te138 : TEok Tryz.prog 138 ⟨.struct [(0, 1), (1, 1)], 2, 24, .agg #[.string ⟨#[]⟩, .int .i64 0]⟩ := ⟨by kernel_rfl, ⟨_, Tryz.underlying138, by kernel_rfl⟩⟩
theorem te139 : TEok Tryz.prog 139 ⟨.other, 1, 8, .nilFunc⟩ := ⟨by kernel_rfl, ⟨_, Tryz.underlying139, rfl⟩⟩
theorem te140 : TEok Tryz.prog 140 ⟨.other, 1, 8, .nilFunc⟩ := ⟨by kernel_rfl, ⟨_, Tryz.underlying140, rfl⟩⟩
theorem te141 : TEok Tryz.prog 141 ⟨.other, 1, 8, .nilFunc⟩ := ⟨by kernel_rfl, ⟨_, Tryz.underlying141, rfl⟩⟩
theorem te142 : TEok Tryz.prog 142 ⟨.other, 1, 8, .nilFunc⟩ := ⟨by kernel_rfl, ⟨_, Tryz.underlying142, rfl⟩⟩
theorem te143 : TEok Tryz.prog 143 ⟨.other, 1, 8, .nilFunc⟩ := ⟨by kernel_rfl, ⟨_, Tryz.underlying143, rfl⟩⟩
theorem te144 : TEok Tryz.prog 144 ⟨.other, 1, 8, .nilFunc⟩ := ⟨by kernel_rfl, ⟨_, Tryz.underlying144, rfl⟩⟩
theorem te145 : TEok Tryz.prog 145 ⟨.other, 1, 8, .nilFunc⟩ := ⟨by kernel_rfl, ⟨_, Tryz.underlying145, rfl⟩⟩
theorem te147 : TEok Tryz.prog 147 ⟨.other, 1, 8, .nilFunc⟩ := ⟨by kernel_rfl, ⟨_, Tryz.underlying147, rfl⟩⟩
theorem te148 : TEok Tryz.prog 148 ⟨.other, 1, 8, .nilFunc⟩ := ⟨by kernel_rfl, ⟨_, Tryz.underlying148, rfl⟩⟩
theorem te149 : TEok Tryz.prog 149 ⟨.struct [(0, 1), (1, 1)], 2, 32, .agg #[.slice none 0 0, .int .u32 0]⟩ := ⟨by kernel_rfl, ⟨_, Tryz.underlying149, by kernel_rfl⟩⟩
theorem te150 : TEok Tryz.prog 150 ⟨.struct [(0, 1), (1, 1)], 2, 32, .agg #[.slice none 0 0, .int .u32 0]⟩ := ⟨by kernel_rfl, ⟨_, Tryz.underlying150, by kernel_rfl⟩⟩
theorem te151 : TEok Tryz.prog 151 ⟨.other, 1, 8, .nilFunc⟩ := ⟨by kernel_rfl, ⟨_, Tryz.underlying151, rfl⟩⟩
theorem te153 : TEok Tryz.prog 153 ⟨.other, 1, 8, .map none⟩ := ⟨by kernel_rfl, ⟨_, Tryz.underlying153, rfl⟩⟩
theorem te155 : TEok Tryz.prog 155 ⟨.other, 1, 8, .nilFunc⟩ := ⟨by kernel_rfl, ⟨_, Tryz.underlying155, rfl⟩⟩
theorem te156 : TEok Tryz.prog 156 ⟨.other, 1, 8, .nilFunc⟩ := ⟨by kernel_rfl, ⟨_, Tryz.underlying156, rfl⟩⟩
theorem te159 : TEok Tryz.prog 159 ⟨.other, 1, 8, .nilFunc⟩ := ⟨by kernel_rfl, ⟨_, Tryz.underlying159, rfl⟩⟩
theorem te168 : TEok Tryz.prog 168 ⟨.other, 1, 8, .nilFunc⟩ := ⟨by kernel_rfl, ⟨_, Tryz.underlying168, rfl⟩⟩
theorem te169 : TEok Tryz.prog 169 ⟨.struct [(0, 2), (2, 1)], 3, 24, .agg #[.int .i64 0, .bool false, .int .i64 0]⟩ := ⟨by kernel_rfl, ⟨_, Tryz.underlying169, by kernel_rfl⟩⟩
theorem te170 : TEok Tryz.prog 170 ⟨.array 6 169, 18, 144, .agg #[.int .i64 0, .bool false, .int .i64 0, .int .i64 0, .bool false, .int .i64 0, .int .i64 0, .bool false, .int .i64 0, .int .i64 0, .bool false, .int .i64 0, .int .i64 0, .bool false, .int .i64 0, .int .i64 0, .bool false, .int .i64 0]⟩ := ⟨by kernel_rfl, Tryz.underlying170⟩
theorem te172 : TEok Tryz.prog 172 ⟨.struct [(0, 1)], 1, 8, .agg #[.int .i64 0]⟩ := ⟨by kernel_rfl, ⟨_, Tryz.underlying172, by kernel_rfl⟩⟩
theorem te176 : TEok Tryz.prog 176 ⟨.other, 1, 8, .nilFunc⟩ := ⟨by kernel_rfl, ⟨_, Tryz.underlying176, rfl⟩⟩
theorem te183 : TEok Tryz.prog 183 ⟨.slice 54, 1, 24, .slice none 0 0⟩ := ⟨by kernel_rfl, Tryz.underlying183⟩
theorem te189 : TEok Tryz.prog 189 ⟨.other, 1, 8, .nilFunc⟩ := ⟨by kernel_rfl, ⟨_, Tryz.underlying189, rfl⟩⟩
theorem te193 : TEok Tryz.prog 193 ⟨.other, 1, 8, .nilFunc⟩ := ⟨by kernel_rfl, ⟨_, Tryz.underlying193, rfl⟩⟩
theorem te194 : TEok Tryz.prog 194 ⟨.other, 1, 8, .nilFunc⟩ := ⟨by kernel_rfl, ⟨_, Tryz.underlying194, rfl⟩⟩
theorem te196 : TEok Tryz.prog 196 ⟨.struct [(0, 1), (1, 1)], 2, 16, .agg #[.nilFunc, .nilFunc]⟩ := ⟨by kernel_rfl, ⟨_, Tryz.underlying196, by kernel_rfl⟩⟩
theorem te197 : TEok Tryz.prog 197 ⟨.slice 5, 1, 24, .slice none 0 0⟩ := ⟨by kernel_rfl, Tryz.underlying197⟩
theorem te198 : TEok Tryz.prog 198 ⟨.other, 1, 8, .nilFunc⟩ := ⟨by kernel_rfl, ⟨_, Tryz.underlying198, rfl⟩⟩
theorem te199 : TEok Tryz.prog 199 ⟨.other, 1, 8, .nilFunc⟩ := ⟨by kernel_rfl, ⟨_, Tryz.underlying199, rfl⟩⟩
theorem te200 : TEok Tryz.prog 200 ⟨.other, 1, 8, .nilFunc⟩ := ⟨by kernel_rfl, ⟨_, Tryz.underlying200, rfl⟩⟩
theorem te202 : TEok Tryz.prog 202 ⟨.ptr, 1, 8, .pointer none⟩ := ⟨by kernel_rfl, ⟨_, Tryz.underlying202⟩⟩
theorem te204 : TEok Tryz.prog 204 ⟨.struct [(0, 1), (1, 1)], 2, 32, .agg #[.pointer none, .slice none 0 0]⟩ := ⟨by kernel_rfl, ⟨_, Tryz.underlying204, by kernel_rfl⟩⟩
theorem te207 : TEok Tryz.prog 207 ⟨.other, 1, 16, .nilIface⟩ := ⟨by kernel_rfl, ⟨_, Tryz.underlying207, rfl⟩⟩
theorem te213 : TEok Tryz.prog 213 ⟨.other, 1, 8, .nilFunc⟩ := ⟨by kernel_rfl, ⟨_, Tryz.underlying213, rfl⟩⟩
theorem te215 : TEok Tryz.prog 215 ⟨.struct [(0, 1)], 1, 8, .agg #[.int .i64 0]⟩ := ⟨by kernel_rfl, ⟨_, Tryz.underlying215, by kernel_rfl⟩⟩
theorem te224 : TEok Tryz.prog 224 ⟨.other, 1, 8, .nilFunc⟩ := ⟨by kernel_rfl, ⟨_, Tryz.underlying224, rfl⟩⟩
theorem te230 : TEok Tryz.prog 230 ⟨.struct [(0, 1)], 1, 8, .agg #[.int .i64 0]⟩ := ⟨by kernel_rfl, ⟨_, Tryz.underlying230, by kernel_rfl⟩⟩
theorem te232 : TEok Tryz.prog 232 ⟨.slice 23, 1, 24, .slice none 0 0⟩ := ⟨by kernel_rfl, Tryz.underlying232⟩
theorem te234 : TEok Tryz.prog 234 ⟨.other, 1, 8, .nilFunc⟩ := ⟨by kernel_rfl, ⟨_, Tryz.underlying234, rfl⟩⟩
theorem te235 : TEok Tryz.prog 235 ⟨.other, 1, 8, .nilFunc⟩ := ⟨by kernel_rfl, ⟨_, Tryz.underlying235, rfl⟩⟩
theorem te237 : TEok Tryz.prog 237 ⟨.other, 1, 8, .nilFunc⟩ := ⟨by kernel_rfl, ⟨_, Tryz.underlying237, rfl⟩⟩
theorem te241 : TEok Tryz.prog 241 ⟨.other, 1, 8, .nilFunc⟩ := ⟨by kernel_rfl, ⟨_, Tryz.underlying241, rfl⟩⟩
theorem te250 : TEok Tryz.prog 250 ⟨.other, 1, 8, .nilFunc⟩ := ⟨by kernel_rfl, ⟨_, Tryz.underlying250, rfl⟩⟩
theorem te270 : TEok Tryz.prog 270 ⟨.array 3 21, 3, 12, .agg #[.int .i32 0, .int .i32 0, .int .i32 0]⟩ := ⟨by kernel_rfl, Tryz.underlying270⟩
theorem te271 : TEok Tryz.prog 271 ⟨.struct [(0, 1), (1, 1), (2, 3)], 5, 20, .agg #[.int .u32 0, .int .u32 0, .int .i32 0, .int .i32 0, .int .i32 0]⟩ := ⟨by kernel_rfl, ⟨_, Tryz.underlying271, by kernel_rfl⟩⟩
abbrev t_int : TypeId := 3
abbrev Zh5 : TypeId := 5
abbrev ZdI : TypeId := 23
abbrev ZcL : TypeId := 25
abbrev Zao : TypeId := 28
abbrev Zap : TypeId := 54
abbrev Za6 : TypeId := 105
abbrev Zbc : TypeId := 150
abbrev ZcM : TypeId := 172
abbrev Zcd : TypeId := 183
abbrev Zgg : TypeId := 197
abbrev Zce : TypeId := 230
noncomputable def tys : Tr := (.node 93 (.node 45 (.node 21 (.node 10 (.node 5 (.node 2 (.node 1 (.leaf 1 ⟨.other, 1, 8, .nilFunc⟩) (.leaf 2 ⟨.int .i64, 1, 8, .int .i64 0⟩)) (.node 3 (.leaf 3 ⟨.int .i64, 1, 8, .int .i64 0⟩) (.node 4 (.leaf 4 ⟨.bool, 1, 1, .bool false⟩) (.leaf 5 ⟨.int .u8, 1, 1, .int .u8 0⟩)))) (.node 7 (.node 6 (.leaf 6 ⟨.int .u8, 1, 1, .int .u8 0⟩) (.leaf 7 ⟨.struct [(0, 1), (1, 1), (2, 1), (3, 1)], 4, 24, .agg #[.int .i64 0, .int .i64 0, .bool false, .int .u8 0]⟩)) (.node 8 (.leaf 8 ⟨.struct [(0, 1), (1, 1), (2, 1), (3, 1)], 4, 24, .agg #[.int .i64 0, .int .i64 0, .bool false, .int .u8 0]⟩) (.node 9 (.leaf 9 ⟨.str, 1, 16, .string ⟨#[]⟩⟩) (.leaf 10 ⟨.str, 1, 16, .string ⟨#[]⟩⟩))))) (.node 15 (.node 12 (.node 11 (.leaf 11 ⟨.str, 1, 16, .string ⟨#[]⟩⟩) (.leaf 12 ⟨.int .u64, 1, 8, .int .u64 0⟩)) (.node 13 (.leaf 13 ⟨.struct [(0, 1), (1, 1)], 2, 24, .agg #[.string ⟨#[]⟩, .int .u64 0]⟩) (.node 14 (.leaf 14 ⟨.struct [(0, 1), (1, 1)], 2, 24, .agg #[.string ⟨#[]⟩, .int .u64 0]⟩) (.leaf 15 ⟨.ptr, 1, 8, .pointer none⟩)))) (.node 18 (.node 16 (.leaf 16 ⟨.ptr, 1, 8, .pointer none⟩) (.node 17 (.leaf 17 ⟨.ptr, 1, 8, .pointer none⟩) (.leaf 18 ⟨.struct [(0, 1)], 1, 8, .agg #[.pointer none]⟩))) (.node 19 (.leaf 19 ⟨.struct [(0, 1)], 1, 8, .agg #[.pointer none]⟩) (.node 20 (.leaf 20 ⟨.other, 1, 16, .nilIface⟩) (.leaf 21 ⟨.int .i32, 1, 4, .int .i32 0⟩)))))) (.node 32 (.node 26 (.node 23 (.node 22 (.leaf 22 ⟨.slice 54, 1, 24, .slice none 0 0⟩) (.leaf 23 ⟨.slice 54, 1, 24, .slice none 0 0⟩)) (.node 24 (.leaf 24 ⟨.struct [(0, 1), (1, 1)], 2, 32, .agg #[.bool false, .slice none 0 0]⟩) (.node 25 (.leaf 25 ⟨.struct [(0, 1), (1, 1)], 2, 32, .agg #[.bool false, .slice none 0 0]⟩) (.leaf 26 ⟨.other, 1, 8, .nilFunc⟩)))) (.node 28 (.node 27 (.leaf 27 ⟨.other, 1, 8, .nilFunc⟩) (.leaf 28 ⟨.int .i64, 1, 8, .int .i64 0⟩)) (.node 30 (.leaf 30 ⟨.other, 1, 8, .nilFunc⟩) (.node 31 (.leaf 31 ⟨.struct [(0, 2), (2, 2), (4, 1)], 5, 72, .agg #[.bool false, .slice none 0 0, .bool false, .slice none 0 0, .int .i64 0]⟩) (.leaf 32 ⟨.struct [(0, 2), (2, 2), (4, 1)], 5, 72, .agg #[.bool false, .slice none 0 0, .bool false, .slice none 0 0, .int .i64 0]⟩))))) (.node 38 (.node 34 (.node 33 (.leaf 33 ⟨.other, 1, 8, .nilFunc⟩) (.leaf 34 ⟨.other, 1, 8, .nilFunc⟩)) (.node 35 (.leaf 35 ⟨.other, 1, 8, .nilFunc⟩) (.node 37 (.leaf 37 ⟨.other, 1, 8, .nilFunc⟩) (.leaf 38 ⟨.struct [(0, 2), (2, 2), (4, 2), (6, 1)], 7, 104, .agg #[.bool false, .slice none 0 0, .bool false, .slice none 0 0, .bool false, .slice none 0 0, .int .i64 0]⟩)))) (.node 42 (.node 39 (.leaf 39 ⟨.struct [(0, 2), (2, 2), (4, 2), (6, 1)], 7, 104, .agg #[.bool false, .slice none 0 0, .bool false, .slice none 0 0, .bool false, .slice none 0 0, .int .i64 0]⟩) (.node 40 (.leaf 40 ⟨.other, 1, 8, .nilFunc⟩) (.leaf 42 ⟨.other, 1, 8, .nilFunc⟩))) (.node 43 (.leaf 43 ⟨.other, 1, 8, .nilFunc⟩) (.node 44 (.leaf 44 ⟨.struct [(0, 2), (2, 1)], 3, 40, .agg #[.bool false, .slice none 0 0, .int .i64 0]⟩) (.leaf 45 ⟨.struct [(0, 2), (2, 1)], 3, 40, .agg #[.bool false, .slice none 0 0, .int .i64 0]⟩))))))) (.node 69 (.node 55 (.node 50 (.node 47 (.node 46 (.leaf 46 ⟨.other, 1, 8, .nilFunc⟩) (.leaf 47 ⟨.other, 1, 8, .nilFunc⟩)) (.node 48 (.leaf 48 ⟨.other, 1, 8, .nilFunc⟩) (.node 49 (.leaf 49 ⟨.other, 1, 8, .nilFunc⟩) (.leaf 50 ⟨.slice 25, 1, 24, .slice none 0 0⟩)))) (.node 52 (.node 51 (.leaf 51 ⟨.other, 1, 8, .nilFunc⟩) (.leaf 52 ⟨.other, 1, 8, .nilFunc⟩)) (.node 53 (.leaf 53 ⟨.other, 1, 8, .nilFunc⟩) (.node 54 (.leaf 54 ⟨.int .u32, 1, 4, .int .u32 0⟩) (.leaf 55 ⟨.other, 1, 8, .nilFunc⟩))))) (.node 61 (.node 58 (.node 57 (.leaf 57 ⟨.other, 1, 8, .nilFunc⟩) (.leaf 58 ⟨.other, 1, 8, .nilFunc⟩)) (.node 59 (.leaf 59 ⟨.other, 1, 8, .nilFunc⟩) (.node 60 (.leaf 60 ⟨.other, 1, 8, .nilFunc⟩) (.leaf 61 ⟨.other, 1, 8, .nilFunc⟩)))) (.node 66 (.node 62 (.leaf 62 ⟨.other, 1, 8, .nilFunc⟩) (.node 64 (.leaf 64 ⟨.other, 1, 8, .nilFunc⟩) (.leaf 66 ⟨.other, 1, 8, .nilFunc⟩))) (.node 67 (.leaf 67 ⟨.struct [(0, 2), (2, 1), (3, 1)], 4, 48, .agg #[.bool false, .slice none 0 0, .int .i64 0, .int .i64 0]⟩) (.node 68 (.leaf 68 ⟨.struct [(0, 2), (2, 1), (3, 1)], 4, 48, .agg #[.bool false, .slice none 0 0, .int .i64 0, .int .i64 0]⟩) (.leaf 69 ⟨.other, 1, 8, .nilFunc⟩)))))) (.node 80 (.node 74 (.node 71 (.node 70 (.leaf 70 ⟨.other, 1, 8, .nilFunc⟩) (.leaf 71 ⟨.other, 1, 8, .nilFunc⟩)) (.node 72 (.leaf 72 ⟨.other, 1, 8, .nilFunc⟩) (.node 73 (.leaf 73 ⟨.other, 1, 8, .nilFunc⟩) (.leaf 74 ⟨.other, 1, 8, .nilFunc⟩)))) (.node 77 (.node 75 (.leaf 75 ⟨.other, 1, 8, .nilFunc⟩) (.node 76 (.leaf 76 ⟨.other, 1, 8, .nilFunc⟩) (.leaf 77 ⟨.slice 3, 1, 24, .slice none 0 0⟩))) (.node 78 (.leaf 78 ⟨.other, 1, 8, .nilFunc⟩) (.node 79 (.leaf 79 ⟨.other, 1, 8, .nilFunc⟩) (.leaf 80 ⟨.other, 1, 8, .nilFunc⟩))))) (.node 86 (.node 82 (.node 81 (.leaf 81 ⟨.other, 1, 8, .nilFunc⟩) (.leaf 82 ⟨.other, 1, 8, .nilFunc⟩)) (.node 84 (.leaf 84 ⟨.other, 1, 8, .nilFunc⟩) (.node 85 (.leaf 85 ⟨.other, 1, 8, .nilFunc⟩) (.leaf 86 ⟨.struct [(0, 1), (1, 1), (2, 1), (3, 1)], 4, 48, .agg #[.slice none 0 0, .int .i64 0, .bool false, .int .i64 0]⟩)))) (.node 90 (.node 87 (.leaf 87 ⟨.struct [(0, 1), (1, 1), (2, 1), (3, 1)], 4, 48, .agg #[.slice none 0 0, .int .i64 0, .bool false, .int .i64 0]⟩) (.node 89 (.leaf 89 ⟨.other, 1, 8, .nilFunc⟩) (.leaf 90 ⟨.struct [(0, 4), (4, 1), (5, 1)], 6, 64, .agg #[.slice none 0 0, .int .i64 0, .bool false, .int .i64 0, .int .i64 0, .int .i64 0]⟩))) (.node 91 (.leaf 91 ⟨.struct [(0, 4), (4, 1), (5, 1)], 6, 64, .agg #[.slice none 0 0, .int .i64 0, .bool false, .int .i64 0, .int .i64 0, .int .i64 0]⟩) (.node 92 (.leaf 92 ⟨.other, 1, 8, .nilFunc⟩) (.leaf 93 ⟨.other, 1, 8, .nilFunc⟩)))))))) (.node 140 (.node 117 (.node 104 (.node 99 (.node 95 (.node 94 (.leaf 94 ⟨.struct [(0, 1), (1, 1)], 2, 16, .agg #[.int .i64 0, .bool false]⟩) (.leaf 95 ⟨.struct [(0, 1), (1, 1)], 2, 16, .agg #[.int .i64 0, .bool false]⟩)) (.node 97 (.leaf 97 ⟨.other, 1, 8, .nilFunc⟩) (.node 98 (.leaf 98 ⟨.other, 1, 8, .nilFunc⟩) (.leaf 99 ⟨.other, 1, 8, .nilFunc⟩)))) (.node 101 (.node 100 (.leaf 100 ⟨.other, 1, 8, .nilFunc⟩) (.leaf 101 ⟨.ptr, 1, 8, .pointer none⟩)) (.node 102 (.leaf 102 ⟨.other, 1, 8, .nilFunc⟩) (.node 103 (.leaf 103 ⟨.other, 1, 8, .nilFunc⟩) (.leaf 104 ⟨.struct [(0, 1)], 1, 8, .agg #[.nilFunc]⟩))))) (.node 111 (.node 107 (.node 105 (.leaf 105 ⟨.struct [(0, 1)], 1, 8, .agg #[.nilFunc]⟩) (.leaf 107 ⟨.other, 1, 8, .map none⟩)) (.node 108 (.leaf 108 ⟨.other, 1, 8, .nilFunc⟩) (.node 109 (.leaf 109 ⟨.other, 1, 8, .nilFunc⟩) (.leaf 111 ⟨.other, 1, 8, .nilFunc⟩)))) (.node 114 (.node 112 (.leaf 112 ⟨.other, 1, 8, .nilFunc⟩) (.node 113 (.leaf 113 ⟨.other, 1, 8, .nilFunc⟩) (.leaf 114 ⟨.other, 1, 8, .nilFunc⟩))) (.node 115 (.leaf 115 ⟨.other, 1, 8, .nilFunc⟩) (.node 116 (.leaf 116 ⟨.other, 1, 8, .nilFunc⟩) (.leaf 117 ⟨.other, 1, 8, .nilFunc⟩)))))) (.node 129 (.node 123 (.node 119 (.node 118 (.leaf 118 ⟨.other, 1, 8, .nilFunc⟩) (.leaf 119 ⟨.other, 1, 8, .nilFunc⟩)) (.node 120 (.leaf 120 ⟨.int .u64, 1, 8, .int .u64 0⟩) (.node 122 (.leaf 122 ⟨.other, 1, 8, .nilFunc⟩) (.leaf 123 ⟨.other, 1, 8, .nilFunc⟩)))) (.node 125 (.node 124 (.leaf 124 ⟨.int .u64, 1, 8, .int .u64 0⟩) (.leaf 125 ⟨.other, 1, 8, .nilFunc⟩)) (.node 126 (.leaf 126 ⟨.other, 1, 8, .nilFunc⟩) (.node 128 (.leaf 128 ⟨.other, 1, 8, .nilFunc⟩) (.leaf 129 ⟨.other, 1, 8, .nilFunc⟩))))) (.node 134 (.node 131 (.node 130 (.leaf 130 ⟨.other, 1, 8, .nilFunc⟩) (.leaf 131 ⟨.other, 1, 8, .nilFunc⟩)) (.node 132 (.leaf 132 ⟨.other, 1, 8, .nilFunc⟩) (.node 133 (.leaf 133 ⟨.other, 1, 8, .nilFunc⟩) (.leaf 134 ⟨.other, 1, 8, .nilFunc⟩)))) (.node 137 (.node 135 (.leaf 135 ⟨.ptr, 1, 8, .pointer none⟩) (.node 136 (.leaf 136 ⟨.ptr, 1, 8, .pointer none⟩) (.leaf 137 ⟨.struct [(0, 1), (1, 1)], 2, 24, .agg #[.string ⟨#[]⟩, .int .i64 0]⟩))) (.node 138 (.leaf 138 ⟨.struct [(0, 1), (1, 1)], 2, 24, .agg #[.string ⟨#[]⟩, .int .i64 0]⟩) (.node 139 (.leaf 139 ⟨.other, 1, 8, .nilFunc⟩) (.leaf 140 ⟨.other, 1, 8, .nilFunc⟩))))))) (.node 189 (.node 151 (.node 145 (.node 142 (.node 141 (.leaf 141 ⟨.other, 1, 8, .nilFunc⟩) (.leaf 142 ⟨.other, 1, 8, .nilFunc⟩)) (.node 143 (.leaf 143 ⟨.other, 1, 8, .nilFunc⟩) (.node 144 (.leaf 144 ⟨.other, 1, 8, .nilFunc⟩) (.leaf 145 ⟨.other, 1, 8, .nilFunc⟩)))) (.node 148 (.node 147 (.leaf 147 ⟨.other, 1, 8, .nilFunc⟩) (.leaf 148 ⟨.other, 1, 8, .nilFunc⟩)) (.node 149 (.leaf 149 ⟨.struct [(0, 1), (1, 1)], 2, 32, .agg #[.slice none 0 0, .int .u32 0]⟩) (.node 150 (.leaf 150 ⟨.struct [(0, 1), (1, 1)], 2, 32, .agg #[.slice none 0 0, .int .u32 0]⟩) (.leaf 151 ⟨.other, 1, 8, .nilFunc⟩))))) (.node 168 (.node 155 (.node 153 (.leaf 153 ⟨.other, 1, 8, .map none⟩) (.leaf 155 ⟨.other, 1, 8, .nilFunc⟩)) (.node 156 (.leaf 156 ⟨.other, 1, 8, .nilFunc⟩) (.node 159 (.leaf 159 ⟨.other, 1, 8, .nilFunc⟩) (.leaf 168 ⟨.other, 1, 8, .nilFunc⟩)))) (.node 172 (.node 169 (.leaf 169 ⟨.struct [(0, 2), (2, 1)], 3, 24, .agg #[.int .i64 0, .bool false, .int .i64 0]⟩) (.node 170 (.leaf 170 ⟨.array 6 169, 18, 144, .agg #[.int .i64 0, .bool false, .int .i64 0, .int .i64 0, .bool false, .int .i64 0, .int .i64 0, .bool false, .int .i64 0, .int .i64 0, .bool false, .int .i64 0, .int .i64 0, .bool false, .int .i64 0, .int .i64 0, .bool false, .int .i64 0]⟩) (.leaf 172 ⟨.struct [(0, 1)], 1, 8, .agg #[.int .i64 0]⟩))) (.node 176 (.leaf 176 ⟨.other, 1, 8, .nilFunc⟩) (.node 183 (.leaf 183 ⟨.slice 54, 1, 24, .slice none 0 0⟩) (.leaf 189 ⟨.other, 1, 8, .nilFunc⟩)))))) (.node 213 (.node 198 (.node 194 (.node 193 (.leaf 193 ⟨.other, 1, 8, .nilFunc⟩) (.leaf 194 ⟨.other, 1, 8, .nilFunc⟩)) (.node 196 (.leaf 196 ⟨.struct [(0, 1), (1, 1)], 2, 16, .agg #[.nilFunc, .nilFunc]⟩) (.node 197 (.leaf 197 ⟨.slice 5, 1, 24, .slice none 0 0⟩) (.leaf 198 ⟨.other, 1, 8, .nilFunc⟩)))) (.node 202 (.node 199 (.leaf 199 ⟨.other, 1, 8, .nilFunc⟩) (.node 200 (.leaf 200 ⟨.other, 1, 8, .nilFunc⟩) (.leaf 202 ⟨.ptr, 1, 8, .pointer none⟩))) (.node 204 (.leaf 204 ⟨.struct [(0, 1), (1, 1)], 2, 32, .agg #[.pointer none, .slice none 0 0]⟩) (.node 207 (.leaf 207 ⟨.other, 1, 16, .nilIface⟩) (.leaf 213 ⟨.other, 1, 8, .nilFunc⟩))))) (.node 234 (.node 224 (.node 215 (.leaf 215 ⟨.struct [(0, 1)], 1, 8, .agg #[.int .i64 0]⟩) (.leaf 224 ⟨.other, 1, 8, .nilFunc⟩)) (.node 230 (.leaf 230 ⟨.struct [(0, 1)], 1, 8, .agg #[.int .i64 0]⟩) (.node 232 (.leaf 232 ⟨.slice 23, 1, 24, .slice none 0 0⟩) (.leaf 234 ⟨.other, 1, 8, .nilFunc⟩)))) (.node 241 (.node 235 (.leaf 235 ⟨.other, 1, 8, .nilFunc⟩) (.node 237 (.leaf 237 ⟨.other, 1, 8, .nilFunc⟩) (.leaf 241 ⟨.other, 1, 8, .nilFunc⟩))) (.node 250 (.leaf 250 ⟨.other, 1, 8, .nilFunc⟩) (.node 270 (.leaf 270 ⟨.array 3 21, 3, 12, .agg #[.int .i32 0, .int .i32 0, .int .i32 0]⟩) (.leaf 271 ⟨.struct [(0, 1), (1, 1), (2, 3)], 5, 20, .agg #[.int .u32 0, .int .u32 0, .int .i32 0, .int .i32 0, .int .i32 0]⟩)))))))))
theorem tysOk : tys.All Tryz.prog := ⟨⟨⟨⟨⟨⟨⟨te1, te2⟩, ⟨te3, ⟨te4, te5⟩⟩⟩, ⟨⟨te6, te7⟩, ⟨te8, ⟨te9, te10⟩⟩⟩⟩, ⟨⟨⟨te11, te12⟩, ⟨te13, ⟨te14, te15⟩⟩⟩, ⟨⟨te16, ⟨te17, te18⟩⟩, ⟨te19, ⟨te20, te21⟩⟩⟩⟩⟩, ⟨⟨⟨⟨te22, te23⟩, ⟨te24, ⟨te25, te26⟩⟩⟩, ⟨⟨te27, te28⟩, ⟨te30, ⟨te31, te32⟩⟩⟩⟩, ⟨⟨⟨te33, te34⟩, ⟨te35, ⟨te37, te38⟩⟩⟩, ⟨⟨te39, ⟨te40, te42⟩⟩, ⟨te43, ⟨te44, te45⟩⟩⟩⟩⟩⟩, ⟨⟨⟨⟨⟨te46, te47⟩, ⟨te48, ⟨te49, te50⟩⟩⟩, ⟨⟨te51, te52⟩, ⟨te53, ⟨te54, te55⟩⟩⟩⟩, ⟨⟨⟨te57, te58⟩, ⟨te59, ⟨te60, te61⟩⟩⟩, ⟨⟨te62, ⟨te64, te66⟩⟩, ⟨te67, ⟨te68, te69⟩⟩⟩⟩⟩, ⟨⟨⟨⟨te70, te71⟩, ⟨te72, ⟨te73, te74⟩⟩⟩, ⟨⟨te75, ⟨te76, te77⟩⟩, ⟨te78, ⟨te79, te80⟩⟩⟩⟩, ⟨⟨⟨te81, te82⟩, ⟨te84, ⟨te85, te86⟩⟩⟩, ⟨⟨te87, ⟨te89, te90⟩⟩, ⟨te91, ⟨te92, te93⟩⟩⟩⟩⟩⟩⟩, ⟨⟨⟨⟨⟨⟨te94, te95⟩, ⟨te97, ⟨te98, te99⟩⟩⟩, ⟨⟨te100, te101⟩, ⟨te102, ⟨te103, te104⟩⟩⟩⟩, ⟨⟨⟨te105, te107⟩, ⟨te108, ⟨te109, te111⟩⟩⟩, ⟨⟨te112, ⟨te113, te114⟩⟩, ⟨te115, ⟨te116, te117⟩⟩⟩⟩⟩, ⟨⟨⟨⟨te118, te119⟩, ⟨te120, ⟨te122, te123⟩⟩⟩, ⟨⟨te124, te125⟩, ⟨te126, ⟨te128, te129⟩⟩⟩⟩, ⟨⟨⟨te130, te131⟩, ⟨te132, ⟨te133, te134⟩⟩⟩, ⟨⟨te135, ⟨te136, te137⟩⟩, ⟨te138, ⟨te139, te140⟩⟩⟩⟩⟩⟩, ⟨⟨⟨⟨⟨te141, te142⟩, ⟨te143, ⟨te144, te145⟩⟩⟩, ⟨⟨te147, te148⟩, ⟨te149, ⟨te150, te151⟩⟩⟩⟩, ⟨⟨⟨te153, te155⟩, ⟨te156, ⟨te159, te168⟩⟩⟩, ⟨⟨te169, ⟨te170, te172⟩⟩, ⟨te176, ⟨te183, te189⟩⟩⟩⟩⟩, ⟨⟨⟨⟨te193, te194⟩, ⟨te196, ⟨te197, te198⟩⟩⟩, ⟨⟨te199, ⟨te200, te202⟩⟩, ⟨te204, ⟨te207, te213⟩⟩⟩⟩, ⟨⟨⟨te215, te224⟩, ⟨te230, ⟨te232, te234⟩⟩⟩, ⟨⟨te235, ⟨te237, te241⟩⟩, ⟨te250, ⟨te270, te271⟩⟩⟩⟩⟩⟩⟩⟩
noncomputable def C : Ctx := ⟨Tryz.prog, [], tys.get, fun _ _ h => Tr.get_ok tysOk h⟩
theorem mixC : C.P.follows .mixedOrders = true := by kernel_rfl
abbrev Zem : FuncId := 16
theorem ZbV : C.P.funcs[16]? = some Tryz.f16 := Tryz.func16
theorem ZdJ : Enters C.P 16 := Enters.mk ZbV (by kernel_rfl) (by kernel_rfl)
theorem ZdK : Tryz.f16.ntmps = 150 := Tryz.ntmps16
theorem ZdL : Tryz.f16.results = #[ResultVar.tmp 6] := Tryz.results16
abbrev Zh6 : FuncId := 19
theorem Zdg : C.P.funcs[19]? = some Tryz.f19 := Tryz.func19
theorem Zg5 : Enters C.P 19 := Enters.mk Zdg (by kernel_rfl) (by kernel_rfl)
theorem Zg6 : Tryz.f19.ntmps = 73 := Tryz.ntmps19
theorem Zg7 : Tryz.f19.results = #[ResultVar.tmp 0] := Tryz.results19
abbrev Zdw : FuncId := 20
theorem ZeV : C.P.funcs[20]? = some Tryz.f20 := Tryz.func20
theorem ZiS : Enters C.P 20 := Enters.mk ZeV (by kernel_rfl) (by kernel_rfl)
theorem ZiT : Tryz.f20.ntmps = 39 := Tryz.ntmps20
theorem ZiU : Tryz.f20.results = #[ResultVar.cell 6 25, ResultVar.cell 7 25, ResultVar.cell 8 28] := Tryz.results20
abbrev ZhT : FuncId := 22
theorem Zgh : C.P.funcs[22]? = some Tryz.f22 := Tryz.func22
theorem Zkl : Enters C.P 22 := Enters.mk Zgh (by kernel_rfl) (by kernel_rfl)
theorem Zkm : Tryz.f22.ntmps = 17 := Tryz.ntmps22
theorem Zkn : Tryz.f22.results = #[ResultVar.tmp 4] := Tryz.results22
abbrev Zgi : FuncId := 23
theorem ZeW : C.P.funcs[23]? = some Tryz.f23 := Tryz.func23
theorem ZiV : Enters C.P 23 := Enters.mk ZeW (by kernel_rfl) (by kernel_rfl)
theorem ZiW : Tryz.f23.ntmps = 25 := Tryz.ntmps23
theorem ZiX : Tryz.f23.results = #[ResultVar.cell 4 25, ResultVar.cell 5 25, ResultVar.cell 6 25, ResultVar.cell 7 28] := Tryz.results23
abbrev Zko : FuncId := 29
theorem ZeX : C.P.funcs[29]? = some Tryz.f29 := Tryz.func29
theorem ZiY : Enters C.P 29 := Enters.mk ZeX (by kernel_rfl) (by kernel_rfl)
theorem ZiZ : Tryz.f29.ntmps = 13 := Tryz.ntmps29
theorem Zi0 : Tryz.f29.results = #[ResultVar.cell 4 25, ResultVar.tmp 5] := Tryz.results29
abbrev Zkp : FuncId := 30
theorem ZeY : C.P.funcs[30]? = some Tryz.f30 := Tryz.func30
theorem Zi1 : Enters C.P 30 := Enters.mk ZeY (by kernel_rfl) (by kernel_rfl)
theorem Zi2 : Tryz.f30.ntmps = 13 := Tryz.ntmps30
theorem Zi3 : Tryz.f30.results = #[ResultVar.cell 4 25, ResultVar.tmp 5] := Tryz.results30
abbrev Zi4 : FuncId := 36
theorem ZdM : C.P.funcs[36]? = some Tryz.f36 := Tryz.func36
theorem Zh7 : Enters C.P 36 := Enters.mk ZdM (by kernel_rfl) (by kernel_rfl)
theorem Zh8 : Tryz.f36.ntmps = 28 := Tryz.ntmps36
theorem Zh9 : Tryz.f36.results = #[ResultVar.tmp 4] := Tryz.results36
abbrev Zgj : FuncId := 37
theorem Zci : C.P.funcs[37]? = some Tryz.f37 := Tryz.func37
theorem Zfk : Enters C.P 37 := Enters.mk Zci (by kernel_rfl) (by kernel_rfl)
theorem Zfl : Tryz.f37.ntmps = 14 := Tryz.ntmps37
theorem Zfm : Tryz.f37.results = #[ResultVar.cell 2 25] := Tryz.results37
abbrev ZdN : FuncId := 38
theorem Zdh : C.P.funcs[38]? = some Tryz.f38 := Tryz.func38
theorem Zg8 : Enters C.P 38 := Enters.mk Zdh (by kernel_rfl) (by kernel_rfl)
theorem Zg9 : Tryz.f38.ntmps = 38 := Tryz.ntmps38
theorem Zha : Tryz.f38.results = #[ResultVar.tmp 4] := Tryz.results38
abbrev Zkq : FuncId := 39
theorem ZeZ : C.P.funcs[39]? = some Tryz.f39 := Tryz.func39
theorem Zi5 : Enters C.P 39 := Enters.mk ZeZ (by kernel_rfl) (by kernel_rfl)
theorem Zi6 : Tryz.f39.ntmps = 14 := Tryz.ntmps39
theorem Zi7 : Tryz.f39.results = #[ResultVar.cell 4 25] := Tryz.results39
abbrev Zkr : FuncId := 42
theorem Ze0 : C.P.funcs[42]? = some Tryz.f42 := Tryz.func42
theorem Zi8 : Enters C.P 42 := Enters.mk Ze0 (by kernel_rfl) (by kernel_rfl)
theorem Zi9 : Tryz.f42.ntmps = 14 := Tryz.ntmps42
theorem Zja : Tryz.f42.results = #[ResultVar.cell 4 25] := Tryz.results42
abbrev ZdO : FuncId := 44
theorem Zdi : C.P.funcs[44]? = some Tryz.f44 := Tryz.func44
theorem Zhb : Enters C.P 44 := Enters.mk Zdi (by kernel_rfl) (by kernel_rfl)
theorem Zhc : Tryz.f44.ntmps = 39 := Tryz.ntmps44
theorem Zhd : Tryz.f44.results = #[ResultVar.tmp 2, ResultVar.tmp 3] := Tryz.results44
abbrev Zia : FuncId := 49
theorem Zdj : C.P.funcs[49]? = some Tryz.f49 := Tryz.func49
theorem Zhe : Enters C.P 49 := Enters.mk Zdj (by kernel_rfl) (by kernel_rfl)
theorem Zhf : Tryz.f49.ntmps = 17 := Tryz.ntmps49
theorem Zhg : Tryz.f49.results = #[ResultVar.tmp 2] := Tryz.results49
abbrev Zib : FuncId := 51
theorem Zdk : C.P.funcs[51]? = some Tryz.f51 := Tryz.func51
theorem Zhh : Enters C.P 51 := Enters.mk Zdk (by kernel_rfl) (by kernel_rfl)
theorem Zhi : Tryz.f51.ntmps = 17 := Tryz.ntmps51
theorem Zhj : Tryz.f51.results = #[ResultVar.cell 2 25] := Tryz.results51
abbrev ZdP : FuncId := 53
theorem Zdl : C.P.funcs[53]? = some Tryz.f53 := Tryz.func53
theorem Zhk : Enters C.P 53 := Enters.mk Zdl (by kernel_rfl) (by kernel_rfl)
theorem Zhl : Tryz.f53.ntmps = 12 := Tryz.ntmps53
theorem Zhm : Tryz.f53.results = #[ResultVar.cell 4 25, ResultVar.tmp 5] := Tryz.results53
abbrev Ze1 : FuncId := 54
theorem ZdQ : C.P.funcs[54]? = some Tryz.f54 := Tryz.func54
theorem Zic : Enters C.P 54 := Enters.mk ZdQ (by kernel_rfl) (by kernel_rfl)
theorem Zid : Tryz.f54.ntmps = 32 := Tryz.ntmps54
theorem Zie : Tryz.f54.results = #[ResultVar.tmp 6, ResultVar.tmp 7] := Tryz.results54
abbrev Ze2 : FuncId := 63
theorem ZdR : C.P.funcs[63]? = some Tryz.f63 := Tryz.func63
theorem Zif : Enters C.P 63 := Enters.mk ZdR (by kernel_rfl) (by kernel_rfl)
theorem Zig : Tryz.f63.ntmps = 15 := Tryz.ntmps63
theorem Zih : Tryz.f63.results = #[ResultVar.cell 6 25, ResultVar.tmp 7] := Tryz.results63
abbrev Zgk : FuncId := 64
theorem Ze3 : C.P.funcs[64]? = some Tryz.f64 := Tryz.func64
theorem Zjb : Enters C.P 64 := Enters.mk Ze3 (by kernel_rfl) (by kernel_rfl)
theorem Zjc : Tryz.f64.ntmps = 10 := Tryz.ntmps64
theorem Zjd : Tryz.f64.results = #[ResultVar.cell 2 25, ResultVar.tmp 3] := Tryz.results64
abbrev Zks : FuncId := 69
theorem Ze4 : C.P.funcs[69]? = some Tryz.f69 := Tryz.func69
theorem Zje : Enters C.P 69 := Enters.mk Ze4 (by kernel_rfl) (by kernel_rfl)
theorem Zjf : Tryz.f69.ntmps = 34 := Tryz.ntmps69
theorem Zjg : Tryz.f69.results = #[ResultVar.cell 4 25, ResultVar.cell 5 25, ResultVar.cell 6 25] := Tryz.results69
abbrev Zkt : FuncId := 70
theorem Ze5 : C.P.funcs[70]? = some Tryz.f70 := Tryz.func70
theorem Zjh : Enters C.P 70 := Enters.mk Ze5 (by kernel_rfl) (by kernel_rfl)
theorem Zji : Tryz.f70.ntmps = 32 := Tryz.ntmps70
theorem Zjj : Tryz.f70.results = #[ResultVar.tmp 4] := Tryz.results70
abbrev ZaT : FuncId := 78
theorem ZbH : C.P.funcs[78]? = some Tryz.f78 := Tryz.func78
theorem ZcN : Enters C.P 78 := Enters.mk ZbH (by kernel_rfl) (by kernel_rfl)
theorem ZcO : Tryz.f78.ntmps = 15 := Tryz.ntmps78
theorem ZcP : Tryz.f78.results = #[] := Tryz.results78
abbrev Zjk : FuncId := 79
theorem ZdS : C.P.funcs[79]? = some Tryz.f79 := Tryz.func79
theorem Zii : Enters C.P 79 := Enters.mk ZdS (by kernel_rfl) (by kernel_rfl)
theorem Zij : Tryz.f79.ntmps = 6 := Tryz.ntmps79
theorem Zik : Tryz.f79.results = #[] := Tryz.results79
abbrev Zil : FuncId := 80
theorem Zdm : C.P.funcs[80]? = some Tryz.f80 := Tryz.func80
theorem Zhn : Enters C.P 80 := Enters.mk Zdm (by kernel_rfl) (by kernel_rfl)
theorem Zho : Tryz.f80.ntmps = 7 := Tryz.ntmps80
theorem Zhp : Tryz.f80.results = #[ResultVar.tmp 0] := Tryz.results80
abbrev Ze6 : FuncId := 81
theorem ZdT : C.P.funcs[81]? = some Tryz.f81 := Tryz.func81
theorem Zim : Enters C.P 81 := Enters.mk ZdT (by kernel_rfl) (by kernel_rfl)
theorem Zin : Tryz.f81.ntmps = 9 := Tryz.ntmps81
theorem Zio : Tryz.f81.results = #[] := Tryz.results81
abbrev Zhq : FuncId := 82
theorem ZcQ : C.P.funcs[82]? = some Tryz.f82 := Tryz.func82
theorem Zgl : Enters C.P 82 := Enters.mk ZcQ (by kernel_rfl) (by kernel_rfl)
theorem Zgm : Tryz.f82.ntmps = 69 := Tryz.ntmps82
theorem Zgn : Tryz.f82.results = #[ResultVar.cell 6 25, ResultVar.cell 7 25] := Tryz.results82
abbrev Zgo : FuncId := 83
theorem Ze7 : C.P.funcs[83]? = some Tryz.f83 := Tryz.func83
theorem Zjl : Enters C.P 83 := Enters.mk Ze7 (by kernel_rfl) (by kernel_rfl)
theorem Zjm : Tryz.f83.ntmps = 9 := Tryz.ntmps83
theorem Zjn : Tryz.f83.results = #[ResultVar.cell 2 25] := Tryz.results83
abbrev Zk5 : FuncId := 85
theorem Zgp : C.P.funcs[85]? = some Tryz.f85 := Tryz.func85
theorem Zku : Enters C.P 85 := Enters.mk Zgp (by kernel_rfl) (by kernel_rfl)
theorem Zkv : Tryz.f85.ntmps = 26 := Tryz.ntmps85
theorem Zkw : Tryz.f85.results = #[ResultVar.tmp 4] := Tryz.results85
abbrev Zkx : FuncId := 86
theorem Ze8 : C.P.funcs[86]? = some Tryz.f86 := Tryz.func86
theorem Zjo : Enters C.P 86 := Enters.mk Ze8 (by kernel_rfl) (by kernel_rfl)
theorem Zjp : Tryz.f86.ntmps = 83 := Tryz.ntmps86
theorem Zjq : Tryz.f86.results = #[ResultVar.cell 4 25, ResultVar.cell 5 25, ResultVar.cell 6 25] := Tryz.results86
abbrev ZkR : FuncId := 87
theorem Zjr : C.P.funcs[87]? = some Tryz.f87 := Tryz.func87
theorem ZlQ : Enters C.P 87 := Enters.mk Zjr (by kernel_rfl) (by kernel_rfl)
theorem ZlR : Tryz.f87.ntmps = 14 := Tryz.ntmps87
theorem ZlS : Tryz.f87.results = #[ResultVar.cell 4 25] := Tryz.results87
abbrev Zgq : FuncId := 93
theorem Zcj : C.P.funcs[93]? = some Tryz.f93 := Tryz.func93
theorem Zfn : Enters C.P 93 := Enters.mk Zcj (by kernel_rfl) (by kernel_rfl)
theorem Zfo : Tryz.f93.ntmps = 10 := Tryz.ntmps93
theorem Zfp : Tryz.f93.results = #[ResultVar.cell 4 25, ResultVar.cell 5 28] := Tryz.results93
abbrev Zky : FuncId := 95
theorem Ze9 : C.P.funcs[95]? = some Tryz.f95 := Tryz.func95
theorem Zjs : Enters C.P 95 := Enters.mk Ze9 (by kernel_rfl) (by kernel_rfl)
theorem Zjt : Tryz.f95.ntmps = 34 := Tryz.ntmps95
theorem Zju : Tryz.f95.results = #[ResultVar.tmp 4] := Tryz.results95
abbrev Zgr : FuncId := 97
theorem Zck : C.P.funcs[97]? = some Tryz.f97 := Tryz.func97
theorem Zfq : Enters C.P 97 := Enters.mk Zck (by kernel_rfl) (by kernel_rfl)
theorem Zfr : Tryz.f97.ntmps = 9 := Tryz.ntmps97
theorem Zfs : Tryz.f97.results = #[ResultVar.cell 2 25] := Tryz.results97
abbrev ZdU : FuncId := 98
theorem Zdn : C.P.funcs[98]? = some Tryz.f98 := Tryz.func98
theorem Zhr : Enters C.P 98 := Enters.mk Zdn (by kernel_rfl) (by kernel_rfl)
theorem Zhs : Tryz.f98.ntmps = 7 := Tryz.ntmps98
theorem Zht : Tryz.f98.results = #[ResultVar.cell 2 25] := Tryz.results98
abbrev Zgs : FuncId := 99
theorem Zfa : C.P.funcs[99]? = some Tryz.f99 := Tryz.func99
theorem Zjv : Enters C.P 99 := Enters.mk Zfa (by kernel_rfl) (by kernel_rfl)
theorem Zjw : Tryz.f99.ntmps = 51 := Tryz.ntmps99
theorem Zjx : Tryz.f99.results = #[ResultVar.cell 4 25] := Tryz.results99
abbrev ZdV : FuncId := 100
theorem Zdo : C.P.funcs[100]? = some Tryz.f100 := Tryz.func100
theorem Zhu : Enters C.P 100 := Enters.mk Zdo (by kernel_rfl) (by kernel_rfl)
theorem Zhv : Tryz.f100.ntmps = 8 := Tryz.ntmps100
theorem Zhw : Tryz.f100.results = #[ResultVar.cell 2 25] := Tryz.results100
abbrev Zgt : FuncId := 102
theorem Zcl : C.P.funcs[102]? = some Tryz.f102 := Tryz.func102
theorem Zft : Enters C.P 102 := Enters.mk Zcl (by kernel_rfl) (by kernel_rfl)
theorem Zfu : Tryz.f102.ntmps = 19 := Tryz.ntmps102
theorem Zfv : Tryz.f102.results = #[ResultVar.cell 4 25] := Tryz.results102
abbrev Zdp : FuncId := 106
theorem ZcR : C.P.funcs[106]? = some Tryz.f106 := Tryz.func106
theorem Zgu : Enters C.P 106 := Enters.mk ZcR (by kernel_rfl) (by kernel_rfl)
theorem Zgv : Tryz.f106.ntmps = 13 := Tryz.ntmps106
theorem Zgw : Tryz.f106.results = #[ResultVar.cell 4 25] := Tryz.results106
abbrev Zhx : FuncId := 107
theorem ZcS : C.P.funcs[107]? = some Tryz.f107 := Tryz.func107
theorem Zgx : Enters C.P 107 := Enters.mk ZcS (by kernel_rfl) (by kernel_rfl)
theorem Zgy : Tryz.f107.ntmps = 5 := Tryz.ntmps107
theorem Zgz : Tryz.f107.results = #[ResultVar.tmp 2] := Tryz.results107
abbrev Zjy : FuncId := 108
theorem ZdW : C.P.funcs[108]? = some Tryz.f108 := Tryz.func108
theorem Zip : Enters C.P 108 := Enters.mk ZdW (by kernel_rfl) (by kernel_rfl)
theorem Ziq : Tryz.f108.ntmps = 11 := Tryz.ntmps108
theorem Zir : Tryz.f108.results = #[ResultVar.tmp 2] := Tryz.results108
abbrev Zjz : FuncId := 109
theorem ZdX : C.P.funcs[109]? = some Tryz.f109 := Tryz.func109
theorem Zis : Enters C.P 109 := Enters.mk ZdX (by kernel_rfl) (by kernel_rfl)
theorem Zit : Tryz.f109.ntmps = 18 := Tryz.ntmps109
theorem Ziu : Tryz.f109.results = #[ResultVar.tmp 2, ResultVar.tmp 3] := Tryz.results109
abbrev ZgA : FuncId := 111
theorem Zfb : C.P.funcs[111]? = some Tryz.f111 := Tryz.func111
theorem ZjA : Enters C.P 111 := Enters.mk Zfb (by kernel_rfl) (by kernel_rfl)
theorem ZjB : Tryz.f111.ntmps = 20 := Tryz.ntmps111
theorem ZjC : Tryz.f111.results = #[ResultVar.tmp 2] := Tryz.results111
abbrev ZjD : FuncId := 113
theorem ZhU : C.P.funcs[113]? = some Tryz.f113 := Tryz.func113
theorem Zk6 : Enters C.P 113 := Enters.mk ZhU (by kernel_rfl) (by kernel_rfl)
theorem Zk7 : Tryz.f113.ntmps = 36 := Tryz.ntmps113
theorem Zk8 : Tryz.f113.results = #[ResultVar.tmp 4] := Tryz.results113
abbrev ZmC : FuncId := 114
theorem ZjE : C.P.funcs[114]? = some Tryz.f114 := Tryz.func114
theorem ZlT : Enters C.P 114 := Enters.mk ZjE (by kernel_rfl) (by kernel_rfl)
theorem ZlU : Tryz.f114.ntmps = 10 := Tryz.ntmps114
theorem ZlV : Tryz.f114.results = #[ResultVar.tmp 2] := Tryz.results114
abbrev ZaF : FuncId := 116
theorem ZdY : C.P.funcs[116]? = some Tryz.f116 := Tryz.func116
theorem Ziv : Enters C.P 116 := Enters.mk ZdY (by kernel_rfl) (by kernel_rfl)
theorem Ziw : Tryz.f116.ntmps = 10 := Tryz.ntmps116
theorem Zix : Tryz.f116.results = #[ResultVar.tmp 4] := Tryz.results116
abbrev ZlW : FuncId := 117
theorem ZhV : C.P.funcs[117]? = some Tryz.f117 := Tryz.func117
theorem Zk9 : Enters C.P 117 := Enters.mk ZhV (by kernel_rfl) (by kernel_rfl)
theorem Zla : Tryz.f117.ntmps = 22 := Tryz.ntmps117
theorem Zlb : Tryz.f117.results = #[ResultVar.tmp 4, ResultVar.cell 5 28] := Tryz.results117
abbrev Ziy : FuncId := 118
theorem Zdq : C.P.funcs[118]? = some Tryz.f118 := Tryz.func118
theorem Zhy : Enters C.P 118 := Enters.mk Zdq (by kernel_rfl) (by kernel_rfl)
theorem Zhz : Tryz.f118.ntmps = 14 := Tryz.ntmps118
theorem ZhA : Tryz.f118.results = #[ResultVar.tmp 4] := Tryz.results118
abbrev ZcT : FuncId := 119
theorem Zcm : C.P.funcs[119]? = some Tryz.f119 := Tryz.func119
theorem Zfw : Enters C.P 119 := Enters.mk Zcm (by kernel_rfl) (by kernel_rfl)
theorem Zfx : Tryz.f119.ntmps = 53 := Tryz.ntmps119
theorem Zfy : Tryz.f119.results = #[ResultVar.cell 2 25] := Tryz.results119
abbrev ZlX : FuncId := 120
theorem ZhW : C.P.funcs[120]? = some Tryz.f120 := Tryz.func120
theorem Zlc : Enters C.P 120 := Enters.mk ZhW (by kernel_rfl) (by kernel_rfl)
theorem Zld : Tryz.f120.ntmps = 16 := Tryz.ntmps120
theorem Zle : Tryz.f120.results = #[ResultVar.tmp 4, ResultVar.cell 5 28] := Tryz.results120
abbrev ZjF : FuncId := 121
theorem ZhX : C.P.funcs[121]? = some Tryz.f121 := Tryz.func121
theorem Zlf : Enters C.P 121 := Enters.mk ZhX (by kernel_rfl) (by kernel_rfl)
theorem Zlg : Tryz.f121.ntmps = 12 := Tryz.ntmps121
theorem Zlh : Tryz.f121.results = #[ResultVar.tmp 4, ResultVar.tmp 5] := Tryz.results121
abbrev ZjG : FuncId := 122
theorem ZhY : C.P.funcs[122]? = some Tryz.f122 := Tryz.func122
theorem Zli : Enters C.P 122 := Enters.mk ZhY (by kernel_rfl) (by kernel_rfl)
theorem Zlj : Tryz.f122.ntmps = 12 := Tryz.ntmps122
theorem Zlk : Tryz.f122.results = #[ResultVar.tmp 4, ResultVar.tmp 5] := Tryz.results122
abbrev ZjH : FuncId := 123
theorem ZdZ : C.P.funcs[123]? = some Tryz.f123 := Tryz.func123
theorem Ziz : Enters C.P 123 := Enters.mk ZdZ (by kernel_rfl) (by kernel_rfl)
theorem ZiA : Tryz.f123.ntmps = 23 := Tryz.ntmps123
theorem ZiB : Tryz.f123.results = #[ResultVar.tmp 4] := Tryz.results123
abbrev Zen : FuncId := 124
theorem Zd0 : C.P.funcs[124]? = some Tryz.f124 := Tryz.func124
theorem Zd1 : Enters C.P 124 := Enters.mk Zd0 (by kernel_rfl) (by kernel_rfl)
abbrev Zb4 : FuncId := 142
theorem ZbI : C.P.funcs[142]? = some Tryz.f142 := Tryz.func142
theorem ZcU : Enters C.P 142 := Enters.mk ZbI (by kernel_rfl) (by kernel_rfl)
theorem ZcV : Tryz.f142.ntmps = 63 := Tryz.ntmps142
theorem ZcW : Tryz.f142.results = #[ResultVar.cell 3 25] := Tryz.results142
abbrev Zbm : FuncId := 143
theorem ZbW : C.P.funcs[143]? = some Tryz.f143 := Tryz.func143
theorem Zd2 : Enters C.P 143 := Enters.mk ZbW (by kernel_rfl) (by kernel_rfl)
theorem Zd3 : Tryz.f143.ntmps = 10 := Tryz.ntmps143
theorem Zd4 : Tryz.f143.results = #[ResultVar.tmp 6] := Tryz.results143
abbrev ZbA : FuncId := 144
theorem Zb5 : C.P.funcs[144]? = some Tryz.f144 := Tryz.func144
theorem Zeo : Enters C.P 144 := Enters.mk Zb5 (by kernel_rfl) (by kernel_rfl)
theorem Zep : Tryz.f144.ntmps = 10 := Tryz.ntmps144
theorem Zeq : Tryz.f144.results = #[ResultVar.tmp 6] := Tryz.results144
abbrev Zbn : FuncId := 145
theorem ZbX : C.P.funcs[145]? = some Tryz.f145 := Tryz.func145
theorem Zd5 : Enters C.P 145 := Enters.mk ZbX (by kernel_rfl) (by kernel_rfl)
theorem Zd6 : Tryz.f145.ntmps = 10 := Tryz.ntmps145
theorem Zd7 : Tryz.f145.results = #[ResultVar.tmp 6] := Tryz.results145
abbrev Zd8 : FuncId := 146
theorem ZbJ : C.P.funcs[146]? = some Tryz.f146 := Tryz.func146
theorem Zdx : Enters C.P 146 := Enters.mk ZbJ (by kernel_rfl) (by kernel_rfl)
theorem Zdy : Tryz.f146.ntmps = 34 := Tryz.ntmps146
theorem Zdz : Tryz.f146.results = #[ResultVar.cell 2 150] := Tryz.results146
abbrev Zfz : FuncId := 147
theorem Zb6 : C.P.funcs[147]? = some Tryz.f147 := Tryz.func147
theorem Zer : Enters C.P 147 := Enters.mk Zb6 (by kernel_rfl) (by kernel_rfl)
theorem Zes : Tryz.f147.ntmps = 17 := Tryz.ntmps147
theorem Zet : Tryz.f147.results = #[ResultVar.tmp 4] := Tryz.results147
abbrev Zbr : FuncId := 148
theorem Zbj : C.P.funcs[148]? = some Tryz.f148 := Tryz.func148
theorem ZcC : Enters C.P 148 := Enters.mk Zbj (by kernel_rfl) (by kernel_rfl)
theorem ZcD : Tryz.f148.ntmps = 44 := Tryz.ntmps148
theorem ZcE : Tryz.f148.results = #[ResultVar.cell 2 25] := Tryz.results148
abbrev Zd9 : FuncId := 149
theorem Zdr : C.P.funcs[149]? = some Tryz.f149 := Tryz.func149
theorem ZhB : Enters C.P 149 := Enters.mk Zdr (by kernel_rfl) (by kernel_rfl)
theorem ZhC : Tryz.f149.ntmps = 7 := Tryz.ntmps149
theorem ZhD : Tryz.f149.results = #[ResultVar.cell 1 25] := Tryz.results149
abbrev ZaO : FuncId := 163
theorem Zaq : C.P.funcs[163]? = some Tryz.f163 := Tryz.func163
theorem ZaI : Enters C.P 163 := Enters.mk Zaq (by kernel_rfl) (by kernel_rfl)
theorem ZaJ : Tryz.f163.ntmps = 9 := Tryz.ntmps163
theorem ZaK : Tryz.f163.results = #[ResultVar.tmp 4] := Tryz.results163
abbrev Zds : FuncId := 164
theorem ZcX : C.P.funcs[164]? = some Tryz.f164 := Tryz.func164
theorem ZgB : Enters C.P 164 := Enters.mk ZcX (by kernel_rfl) (by kernel_rfl)
theorem ZgC : Tryz.f164.ntmps = 6 := Tryz.ntmps164
theorem ZgD : Tryz.f164.results = #[ResultVar.tmp 2] := Tryz.results164
abbrev ZbK : FuncId := 165
theorem Zcn : C.P.funcs[165]? = some Tryz.f165 := Tryz.func165
theorem ZfA : Enters C.P 165 := Enters.mk Zcn (by kernel_rfl) (by kernel_rfl)
theorem ZfB : Tryz.f165.ntmps = 9 := Tryz.ntmps165
theorem ZfC : Tryz.f165.results = #[ResultVar.tmp 8] := Tryz.results165
abbrev ZbL : FuncId := 166
theorem Zco : C.P.funcs[166]? = some Tryz.f166 := Tryz.func166
theorem ZfD : Enters C.P 166 := Enters.mk Zco (by kernel_rfl) (by kernel_rfl)
theorem ZfE : Tryz.f166.ntmps = 14 := Tryz.ntmps166
theorem ZfF : Tryz.f166.results = #[ResultVar.tmp 8] := Tryz.results166
abbrev ZbM : FuncId := 167
theorem Zcp : C.P.funcs[167]? = some Tryz.f167 := Tryz.func167
theorem ZfG : Enters C.P 167 := Enters.mk Zcp (by kernel_rfl) (by kernel_rfl)
theorem ZfH : Tryz.f167.ntmps = 11 := Tryz.ntmps167
theorem ZfI : Tryz.f167.results = #[ResultVar.tmp 8] := Tryz.results167
abbrev ZbN : FuncId := 168
theorem Zcq : C.P.funcs[168]? = some Tryz.f168 := Tryz.func168
theorem ZfJ : Enters C.P 168 := Enters.mk Zcq (by kernel_rfl) (by kernel_rfl)
theorem ZfK : Tryz.f168.ntmps = 41 := Tryz.ntmps168
theorem ZfL : Tryz.f168.results = #[ResultVar.tmp 8] := Tryz.results168
abbrev Zea : FuncId := 169
theorem ZhZ : C.P.funcs[169]? = some Tryz.f169 := Tryz.func169
theorem Zll : Enters C.P 169 := Enters.mk ZhZ (by kernel_rfl) (by kernel_rfl)
theorem Zlm : Tryz.f169.ntmps = 14 := Tryz.ntmps169
theorem Zln : Tryz.f169.results = #[ResultVar.tmp 4, ResultVar.tmp 5, ResultVar.tmp 6] := Tryz.results169
abbrev ZbB : FuncId := 170
theorem ZaA : C.P.funcs[170]? = some Tryz.f170 := Tryz.func170
theorem Zbs : Enters C.P 170 := Enters.mk ZaA (by kernel_rfl) (by kernel_rfl)
theorem Zbt : Tryz.f170.ntmps = 8 := Tryz.ntmps170
theorem Zbu : Tryz.f170.results = #[ResultVar.tmp 2] := Tryz.results170
abbrev ZhE : FuncId := 173
theorem ZcY : C.P.funcs[173]? = some Tryz.f173 := Tryz.func173
theorem ZgE : Enters C.P 173 := Enters.mk ZcY (by kernel_rfl) (by kernel_rfl)
theorem ZgF : Tryz.f173.ntmps = 60 := Tryz.ntmps173
theorem ZgG : Tryz.f173.results = #[ResultVar.tmp 4, ResultVar.cell 5 25, ResultVar.cell 6 25, ResultVar.tmp 7, ResultVar.tmp 8] := Tryz.results173
abbrev Zh0 : FuncId := 174
theorem ZgH : C.P.funcs[174]? = some Tryz.f174 := Tryz.func174
theorem Zkz : Enters C.P 174 := Enters.mk ZgH (by kernel_rfl) (by kernel_rfl)
theorem ZkA : Tryz.f174.ntmps = 23 := Tryz.ntmps174
theorem ZkB : Tryz.f174.results = #[ResultVar.tmp 2] := Tryz.results174
abbrev ZlY : FuncId := 176
theorem Zh1 : C.P.funcs[176]? = some Tryz.f176 := Tryz.func176
theorem Zlo : Enters C.P 176 := Enters.mk Zh1 (by kernel_rfl) (by kernel_rfl)
theorem Zlp : Tryz.f176.ntmps = 12 := Tryz.ntmps176
theorem Zlq : Tryz.f176.results = #[ResultVar.tmp 4, ResultVar.tmp 5] := Tryz.results176
abbrev ZmD : FuncId := 179
theorem ZjI : C.P.funcs[179]? = some Tryz.f179 := Tryz.func179
theorem ZlZ : Enters C.P 179 := Enters.mk ZjI (by kernel_rfl) (by kernel_rfl)
theorem Zl0 : Tryz.f179.ntmps = 10 := Tryz.ntmps179
theorem Zl1 : Tryz.f179.results = #[ResultVar.tmp 2] := Tryz.results179
abbrev ZhF : FuncId := 180
theorem ZcZ : C.P.funcs[180]? = some Tryz.f180 := Tryz.func180
theorem ZgI : Enters C.P 180 := Enters.mk ZcZ (by kernel_rfl) (by kernel_rfl)
theorem ZgJ : Tryz.f180.ntmps = 14 := Tryz.ntmps180
theorem ZgK : Tryz.f180.results = #[ResultVar.tmp 4] := Tryz.results180
abbrev ZkS : FuncId := 181
theorem ZjJ : C.P.funcs[181]? = some Tryz.f181 := Tryz.func181
theorem Zl2 : Enters C.P 181 := Enters.mk ZjJ (by kernel_rfl) (by kernel_rfl)
theorem Zl3 : Tryz.f181.ntmps = 14 := Tryz.ntmps181
theorem Zl4 : Tryz.f181.results = #[ResultVar.tmp 4] := Tryz.results181
abbrev ZaB : FuncId := 182
theorem Zbd : C.P.funcs[182]? = some Tryz.f182 := Tryz.func182
theorem ZbC : Enters C.P 182 := Enters.mk Zbd (by kernel_rfl) (by kernel_rfl)
theorem ZbD : Tryz.f182.ntmps = 20 := Tryz.ntmps182
theorem ZbE : Tryz.f182.results = #[] := Tryz.results182
abbrev ZkC : FuncId := 183
theorem Zfc : C.P.funcs[183]? = some Tryz.f183 := Tryz.func183
theorem ZjK : Enters C.P 183 := Enters.mk Zfc (by kernel_rfl) (by kernel_rfl)
theorem ZjL : Tryz.f183.ntmps = 6 := Tryz.ntmps183
theorem ZjM : Tryz.f183.results = #[] := Tryz.results183
abbrev Zlr : FuncId := 184
theorem ZgL : C.P.funcs[184]? = some Tryz.f184 := Tryz.func184
theorem ZkD : Enters C.P 184 := Enters.mk ZgL (by kernel_rfl) (by kernel_rfl)
theorem ZkE : Tryz.f184.ntmps = 9 := Tryz.ntmps184
theorem ZkF : Tryz.f184.results = #[] := Tryz.results184
abbrev ZkG : FuncId := 185
theorem Zfd : C.P.funcs[185]? = some Tryz.f185 := Tryz.func185
theorem ZjN : Enters C.P 185 := Enters.mk Zfd (by kernel_rfl) (by kernel_rfl)
theorem ZjO : Tryz.f185.ntmps = 9 := Tryz.ntmps185
theorem ZjP : Tryz.f185.results = #[ResultVar.tmp 2] := Tryz.results185
abbrev ZbO : FuncId := 186
theorem Zcr : C.P.funcs[186]? = some Tryz.f186 := Tryz.func186
theorem ZfM : Enters C.P 186 := Enters.mk Zcr (by kernel_rfl) (by kernel_rfl)
theorem ZfN : Tryz.f186.ntmps = 53 := Tryz.ntmps186
theorem ZfO : Tryz.f186.results = #[ResultVar.tmp 4] := Tryz.results186
abbrev Zl5 : FuncId := 187
theorem Zh2 : C.P.funcs[187]? = some Tryz.f187 := Tryz.func187
theorem Zls : Enters C.P 187 := Enters.mk Zh2 (by kernel_rfl) (by kernel_rfl)
theorem Zlt : Tryz.f187.ntmps = 13 := Tryz.ntmps187
theorem Zlu : Tryz.f187.results = #[ResultVar.tmp 4, ResultVar.cell 5 28] := Tryz.results187
abbrev ZgM : FuncId := 188
theorem Zcs : C.P.funcs[188]? = some Tryz.f188 := Tryz.func188
theorem ZfP : Enters C.P 188 := Enters.mk Zcs (by kernel_rfl) (by kernel_rfl)
theorem ZfQ : Tryz.f188.ntmps = 49 := Tryz.ntmps188
theorem ZfR : Tryz.f188.results = #[ResultVar.tmp 4] := Tryz.results188
abbrev ZfS : FuncId := 189
theorem Zb7 : C.P.funcs[189]? = some Tryz.f189 := Tryz.func189
theorem Zeu : Enters C.P 189 := Enters.mk Zb7 (by kernel_rfl) (by kernel_rfl)
theorem Zev : Tryz.f189.ntmps = 18 := Tryz.ntmps189
theorem Zew : Tryz.f189.results = #[ResultVar.tmp 6, ResultVar.cell 7 28] := Tryz.results189
abbrev ZgN : FuncId := 190
theorem Zfe : C.P.funcs[190]? = some Tryz.f190 := Tryz.func190
theorem ZjQ : Enters C.P 190 := Enters.mk Zfe (by kernel_rfl) (by kernel_rfl)
theorem ZjR : Tryz.f190.ntmps = 13 := Tryz.ntmps190
theorem ZjS : Tryz.f190.results = #[ResultVar.tmp 4] := Tryz.results190
abbrev Zc0 : FuncId := 191
theorem Zct : C.P.funcs[191]? = some Tryz.f191 := Tryz.func191
theorem ZfT : Enters C.P 191 := Enters.mk Zct (by kernel_rfl) (by kernel_rfl)
theorem ZfU : Tryz.f191.ntmps = 37 := Tryz.ntmps191
theorem ZfV : Tryz.f191.results = #[ResultVar.cell 4 3] := Tryz.results191
abbrev Zc1 : FuncId := 192
theorem Zcu : C.P.funcs[192]? = some Tryz.f192 := Tryz.func192
theorem ZfW : Enters C.P 192 := Enters.mk Zcu (by kernel_rfl) (by kernel_rfl)
theorem ZfX : Tryz.f192.ntmps = 36 := Tryz.ntmps192
theorem ZfY : Tryz.f192.results = #[ResultVar.tmp 4] := Tryz.results192
abbrev Zc2 : FuncId := 193
theorem Zcv : C.P.funcs[193]? = some Tryz.f193 := Tryz.func193
theorem ZfZ : Enters C.P 193 := Enters.mk Zcv (by kernel_rfl) (by kernel_rfl)
theorem Zf0 : Tryz.f193.ntmps = 39 := Tryz.ntmps193
theorem Zf1 : Tryz.f193.results = #[ResultVar.tmp 4] := Tryz.results193
abbrev ZhG : FuncId := 194
theorem Zc3 : C.P.funcs[194]? = some Tryz.f194 := Tryz.func194
theorem ZgO : Enters C.P 194 := Enters.mk Zc3 (by kernel_rfl) (by kernel_rfl)
theorem ZgP : Tryz.f194.ntmps = 6 := Tryz.ntmps194
theorem ZgQ : Tryz.f194.results = #[ResultVar.tmp 4] := Tryz.results194
abbrev ZbU : FuncId := 195
theorem ZaG : C.P.funcs[195]? = some Tryz.f195 := Tryz.func195
theorem ZbP : Enters C.P 195 := Enters.mk ZaG (by kernel_rfl) (by kernel_rfl)
theorem ZbQ : Tryz.f195.ntmps = 28 := Tryz.ntmps195
theorem ZbR : Tryz.f195.results = #[] := Tryz.results195
abbrev ZiC : FuncId := 206
theorem Zdt : C.P.funcs[206]? = some Tryz.f206 := Tryz.func206
theorem ZhH : Enters C.P 206 := Enters.mk Zdt (by kernel_rfl) (by kernel_rfl)
theorem ZhI : Tryz.f206.ntmps = 22 := Tryz.ntmps206
theorem ZhJ : Tryz.f206.results = #[ResultVar.tmp 2, ResultVar.tmp 3] := Tryz.results206
abbrev Zf2 : FuncId := 208
theorem Zb8 : C.P.funcs[208]? = some Tryz.f208 := Tryz.func208
theorem Zex : Enters C.P 208 := Enters.mk Zb8 (by kernel_rfl) (by kernel_rfl)
theorem Zey : Tryz.f208.ntmps = 18 := Tryz.ntmps208
theorem Zez : Tryz.f208.results = #[ResultVar.tmp 2] := Tryz.results208
abbrev ZgR : FuncId := 211
theorem Zcw : C.P.funcs[211]? = some Tryz.f211 := Tryz.func211
theorem Zf3 : Enters C.P 211 := Enters.mk Zcw (by kernel_rfl) (by kernel_rfl)
theorem Zf4 : Tryz.f211.ntmps = 21 := Tryz.ntmps211
theorem Zf5 : Tryz.f211.results = #[ResultVar.tmp 2] := Tryz.results211
abbrev Za9 : FuncId := 212
theorem Zau : C.P.funcs[212]? = some Tryz.f212 := Tryz.func212
theorem ZaW : Enters C.P 212 := Enters.mk Zau (by kernel_rfl) (by kernel_rfl)
theorem ZaX : Tryz.f212.ntmps = 19 := Tryz.ntmps212
theorem ZaY : Tryz.f212.results = #[ResultVar.tmp 4] := Tryz.results212
abbrev ZiD : FuncId := 213
theorem Zdu : C.P.funcs[213]? = some Tryz.f213 := Tryz.func213
theorem ZhK : Enters C.P 213 := Enters.mk Zdu (by kernel_rfl) (by kernel_rfl)
theorem ZhL : Tryz.f213.ntmps = 31 := Tryz.ntmps213
theorem ZhM : Tryz.f213.results = #[ResultVar.tmp 6, ResultVar.tmp 7, ResultVar.cell 8 28] := Tryz.results213
abbrev ZgS : FuncId := 214
theorem Zff : C.P.funcs[214]? = some Tryz.f214 := Tryz.func214
theorem ZjT : Enters C.P 214 := Enters.mk Zff (by kernel_rfl) (by kernel_rfl)
theorem ZjU : Tryz.f214.ntmps = 11 := Tryz.ntmps214
theorem ZjV : Tryz.f214.results = #[ResultVar.tmp 4, ResultVar.tmp 5] := Tryz.results214
abbrev Zeb : FuncId := 215
theorem ZbS : C.P.funcs[215]? = some Tryz.f215 := Tryz.func215
theorem ZdA : Enters C.P 215 := Enters.mk ZbS (by kernel_rfl) (by kernel_rfl)
theorem ZdB : Tryz.f215.ntmps = 93 := Tryz.ntmps215
theorem ZdC : Tryz.f215.results = #[ResultVar.tmp 6, ResultVar.tmp 7] := Tryz.results215
abbrev Zc4 : FuncId := 218
theorem Zcx : C.P.funcs[218]? = some Tryz.f218 := Tryz.func218
theorem Zf6 : Enters C.P 218 := Enters.mk Zcx (by kernel_rfl) (by kernel_rfl)
theorem Zf7 : Tryz.f218.ntmps = 8 := Tryz.ntmps218
theorem Zf8 : Tryz.f218.results = #[ResultVar.tmp 4] := Tryz.results218
abbrev Zcy : FuncId := 219
theorem Zb9 : C.P.funcs[219]? = some Tryz.f219 := Tryz.func219
theorem ZeA : Enters C.P 219 := Enters.mk Zb9 (by kernel_rfl) (by kernel_rfl)
theorem ZeB : Tryz.f219.ntmps = 21 := Tryz.ntmps219
theorem ZeC : Tryz.f219.results = #[ResultVar.tmp 2] := Tryz.results219
abbrev ZaP : FuncId := 220
theorem Zar : C.P.funcs[220]? = some Tryz.f220 := Tryz.func220
theorem ZaL : Enters C.P 220 := Enters.mk Zar (by kernel_rfl) (by kernel_rfl)
theorem ZaM : Tryz.f220.ntmps = 9 := Tryz.ntmps220
theorem ZaN : Tryz.f220.results = #[ResultVar.tmp 4] := Tryz.results220
abbrev Zec : FuncId := 221
theorem Zdv : C.P.funcs[221]? = some Tryz.f221 := Tryz.func221
theorem ZhN : Enters C.P 221 := Enters.mk Zdv (by kernel_rfl) (by kernel_rfl)
theorem ZhO : Tryz.f221.ntmps = 6 := Tryz.ntmps221
theorem ZhP : Tryz.f221.results = #[ResultVar.tmp 2] := Tryz.results221
abbrev Zbo : FuncId := 222
theorem Zaz : C.P.funcs[222]? = some Tryz.f222 := Tryz.func222
theorem Zbg : Enters C.P 222 := Enters.mk Zaz (by kernel_rfl) (by kernel_rfl)
theorem Zbh : Tryz.f222.ntmps = 8 := Tryz.ntmps222
theorem Zbi : Tryz.f222.results = #[ResultVar.tmp 2] := Tryz.results222
abbrev Zba : FuncId := 223
theorem Zav : C.P.funcs[223]? = some Tryz.f223 := Tryz.func223
theorem ZaZ : Enters C.P 223 := Enters.mk Zav (by kernel_rfl) (by kernel_rfl)
theorem Za0 : Tryz.f223.ntmps = 4 := Tryz.ntmps223
theorem Za1 : Tryz.f223.results = #[ResultVar.tmp 2] := Tryz.results223
abbrev Zcz : FuncId := 224
theorem Zca : C.P.funcs[224]? = some Tryz.f224 := Tryz.func224
theorem ZeD : Enters C.P 224 := Enters.mk Zca (by kernel_rfl) (by kernel_rfl)
theorem ZeE : Tryz.f224.ntmps = 62 := Tryz.ntmps224
theorem ZeF : Tryz.f224.results = #[] := Tryz.results224
abbrev ZjW : FuncId := 233
theorem Zed : C.P.funcs[233]? = some Tryz.f233 := Tryz.func233
theorem ZiE : Enters C.P 233 := Enters.mk Zed (by kernel_rfl) (by kernel_rfl)
theorem ZiF : Tryz.f233.ntmps = 19 := Tryz.ntmps233
theorem ZiG : Tryz.f233.results = #[ResultVar.tmp 2] := Tryz.results233
abbrev ZcA : FuncId := 235
theorem Zcb : C.P.funcs[235]? = some Tryz.f235 := Tryz.func235
theorem ZeG : Enters C.P 235 := Enters.mk Zcb (by kernel_rfl) (by kernel_rfl)
theorem ZeH : Tryz.f235.ntmps = 80 := Tryz.ntmps235
theorem ZeI : Tryz.f235.results = #[ResultVar.tmp 4, ResultVar.tmp 5] := Tryz.results235
abbrev Zf9 : FuncId := 236
theorem Zcc : C.P.funcs[236]? = some Tryz.f236 := Tryz.func236
theorem ZeJ : Enters C.P 236 := Enters.mk Zcc (by kernel_rfl) (by kernel_rfl)
theorem ZeK : Tryz.f236.ntmps = 12 := Tryz.ntmps236
theorem ZeL : Tryz.f236.results = #[ResultVar.tmp 4] := Tryz.results236
abbrev ZgT : FuncId := 237
theorem ZcB : C.P.funcs[237]? = some Tryz.f237 := Tryz.func237
theorem Zga : Enters C.P 237 := Enters.mk ZcB (by kernel_rfl) (by kernel_rfl)
theorem Zgb : Tryz.f237.ntmps = 13 := Tryz.ntmps237
theorem Zgc : Tryz.f237.results = #[ResultVar.tmp 4] := Tryz.results237
abbrev ZgU : FuncId := 238
theorem Zfg : C.P.funcs[238]? = some Tryz.f238 := Tryz.func238
theorem ZjX : Enters C.P 238 := Enters.mk Zfg (by kernel_rfl) (by kernel_rfl)
theorem ZjY : Tryz.f238.ntmps = 61 := Tryz.ntmps238
theorem ZjZ : Tryz.f238.results = #[ResultVar.tmp 8, ResultVar.tmp 9] := Tryz.results238
abbrev Zc5 : FuncId := 239
theorem Zbk : C.P.funcs[239]? = some Tryz.f239 := Tryz.func239
theorem ZcF : Enters C.P 239 := Enters.mk Zbk (by kernel_rfl) (by kernel_rfl)
theorem ZcG : Tryz.f239.ntmps = 77 := Tryz.ntmps239
theorem ZcH : Tryz.f239.results = #[ResultVar.tmp 6] := Tryz.results239
abbrev Zbb : FuncId := 240
theorem Zaw : C.P.funcs[240]? = some Tryz.f240 := Tryz.func240
theorem Za2 : Enters C.P 240 := Enters.mk Zaw (by kernel_rfl) (by kernel_rfl)
theorem Za3 : Tryz.f240.ntmps = 19 := Tryz.ntmps240
theorem Za4 : Tryz.f240.results = #[ResultVar.tmp 4] := Tryz.results240
abbrev Zat : FuncId := 241
theorem Zas : C.P.funcs[241]? = some Tryz.f241 := Tryz.func241
theorem ZaQ : Enters C.P 241 := Enters.mk Zas (by kernel_rfl) (by kernel_rfl)
theorem ZaR : Tryz.f241.ntmps = 19 := Tryz.ntmps241
theorem ZaS : Tryz.f241.results = #[] := Tryz.results241
abbrev ZeM : FuncId := 249
theorem ZbY : C.P.funcs[249]? = some Tryz.f249 := Tryz.func249
theorem Zee : Enters C.P 249 := Enters.mk ZbY (by kernel_rfl) (by kernel_rfl)
theorem Zef : Tryz.f249.ntmps = 43 := Tryz.ntmps249
theorem Zeg : Tryz.f249.results = #[ResultVar.tmp 4, ResultVar.tmp 5] := Tryz.results249
abbrev Zc6 : FuncId := 250
theorem Zbl : C.P.funcs[250]? = some Tryz.f250 := Tryz.func250
theorem ZcI : Enters C.P 250 := Enters.mk Zbl (by kernel_rfl) (by kernel_rfl)
theorem ZcJ : Tryz.f250.ntmps = 6 := Tryz.ntmps250
theorem ZcK : Tryz.f250.results = #[ResultVar.tmp 2] := Tryz.results250
abbrev ZhQ : FuncId := 251
theorem Zc7 : C.P.funcs[251]? = some Tryz.f251 := Tryz.func251
theorem ZgV : Enters C.P 251 := Enters.mk Zc7 (by kernel_rfl) (by kernel_rfl)
theorem ZgW : Tryz.f251.ntmps = 109 := Tryz.ntmps251
theorem ZgX : Tryz.f251.results = #[ResultVar.tmp 4] := Tryz.results251
abbrev Zj0 : FuncId := 252
theorem Zeh : C.P.funcs[252]? = some Tryz.f252 := Tryz.func252
theorem ZiH : Enters C.P 252 := Enters.mk Zeh (by kernel_rfl) (by kernel_rfl)
theorem ZiI : Tryz.f252.ntmps = 79 := Tryz.ntmps252
theorem ZiJ : Tryz.f252.results = #[ResultVar.tmp 8, ResultVar.tmp 9] := Tryz.results252
abbrev Zei : FuncId := 253
theorem ZbT : C.P.funcs[253]? = some Tryz.f253 := Tryz.func253
theorem ZdD : Enters C.P 253 := Enters.mk ZbT (by kernel_rfl) (by kernel_rfl)
theorem ZdE : Tryz.f253.ntmps = 67 := Tryz.ntmps253
theorem ZdF : Tryz.f253.results = #[ResultVar.tmp 4] := Tryz.results253
abbrev ZkH : FuncId := 257
theorem Zfh : C.P.funcs[257]? = some Tryz.f257 := Tryz.func257
theorem Zj1 : Enters C.P 257 := Enters.mk Zfh (by kernel_rfl) (by kernel_rfl)
theorem Zj2 : Tryz.f257.ntmps = 46 := Tryz.ntmps257
theorem Zj3 : Tryz.f257.results = #[ResultVar.tmp 6] := Tryz.results257
end Go.V
/- MORE RULES: panics, slices' bounds, append, strings and bytes; statements that draw their order. -/
namespace Go.V
open Go.RowKit
section
variable {C : Ctx} {Q : Post} {ops : Array Oper} {rest : List Oper} {k : List Item} {env env' : List D} {H H' : Heap} {df : List ADef}
variable {dst : Option Tmp} {op : Op} {ty : TypeId} {pos : String} {aft : Array Edge} {gd : Option (Nat × Bool)} {d : D} {t : Tmp} {x y z : Operand} {T e : TypeId} {te tee : TE}
theorem Zm2 {T : TypeId} {d : D} (hx : evO C env x = some (.iface T d)) : OpH C ⟨dst, .panic x, ty, pos, aft, gd⟩ env H (fun _ _ => False) (fun d' H' => d' = .iface T d ∧ H' = H) := by
  refine ⟨fun L0 w μ a hs hv => ?_⟩
  have ex := evO_ok hs hv hx
  have ex' := ex
  simp only [VR] at ex
  obtain ⟨u, ex, _⟩ := ex
  have hrun : (execOp a.eval ⟨dst, .panic x, ty, pos, aft, gd⟩).run C.P w = .halt (.panic (.iface T u)) w := by
    simp only [execOp, ex, Instr.panic, Sem.run_bind, run_goPanic, Result.andThen_halt]
  unfold Oper.wp
  rw [hrun]
  exact ⟨.iface T u, .iface T d, H, μ, rfl, rfl, ⟨rfl, rfl⟩, hs, by rw [← ex]; exact ex', Evo.refl _ _ _⟩
theorem Zl6 {T : TypeId} {d : D} (hg : gOk ops.toList env gd = some true) (hx : evO C env x = some (.iface T d)) (hp : Q (.pan (.iface T d)) env H df) : AOps C Q ops (⟨dst, .panic x, ty, pos, aft, gd⟩ :: rest) k env H df :=
  AOps.opH hg (Zm2 hx) (fun _ _ h => h.elim) (fun _ _ ⟨h1, h2⟩ => by subst h1; subst h2; exact hp)
def asSl : D → Option (Nat × List D)
  | .sl n cs => some (n, cs)
  | .nilsl => some (0, [])
  | _ => none
theorem asSl_ok {w : World} {L : Nat → Prop} {μ : List Nat} {H : Heap} {d : D} {n : Nat} {cs : List D} {v : Value} (h : asSl d = some (n, cs)) (hv : VR w L μ H d v) :
    ∃ a cap, v = .slice a n cap ∧ n ≤ cap ∧ cap ≤ maxLen ∧ (cs ≠ [] → ∃ ad, a = some ad ∧ ad.block < w.heap.size ∧ ¬ L ad.block ∧ VRL w L ad 0 cs) := by
  unfold asSl at h
  split at h
  · injection h with h; injection h with h1 h2; subst h1; subst h2; simpa only [VR] using hv
  · injection h with h; injection h with h1 h2; subst h1; subst h2
    simp only [VR] at hv
    exact ⟨none, 0, hv, Nat.le_refl _, Nat.zero_le _, fun h => (h rfl).elim⟩
  · cases h
theorem VRL_take {w : World} {L : Nat → Prop} {ad : Addr} {cs : List D} (h : VRL w L ad 0 cs) (n : Nat) : VRL w L ad 0 (cs.take n) := by
  refine VRL_mk fun j d hd => ?_
  rw [List.getElem?_take] at hd
  split at hd
  · exact VRL_get h hd
  · cases hd
def bndO (C : Ctx) (env : List D) (dflt : Nat) : Option Operand → Option Nat
  | none => some dflt
  | some x => match evO C env x with
    | some (.int _ i) => if 0 ≤ i then some i.toNat else none
    | _ => none
theorem sub_sl {w : World} {L : Nat → Prop} {μ : List Nat} {H : Heap} {a : Option Addr} {n cap lo hi sz : Nat} {cs : List D} (h1 : n ≤ cap) (h2 : cap ≤ maxLen) (h3 : cs ≠ [] → ∃ ad, a = some ad ∧ ad.block < w.heap.size ∧ ¬ L ad.block ∧ VRL w L ad 0 cs) (hl : lo ≤ hi) (hh : hi ≤ n) (hlen : cs.length = n * sz) :
    VR w L μ H (.sl (hi - lo) ((cs.take (hi * sz)).drop (lo * sz))) (sliced a lo hi cap sz) := by
  simp only [VR, sliced]
  refine ⟨_, _, rfl, by omega, by omega, fun hne => ?_⟩
  have hcs : cs ≠ [] := by rintro rfl; simp at hne
  have hlt : lo < hi := by
    rcases Nat.lt_or_ge lo hi with h | h
    · exact h
    · have : hi = lo := by omega
      subst this
      exfalso
      apply hne
      simp [List.drop_eq_nil_iff, List.length_take]
  obtain ⟨ad, rfl, k1, k2, k3⟩ := h3 hcs
  refine ⟨ad.add (lo * sz), by rw [if_neg (by omega)]; rfl, by rw [add_block]; exact k1, by rw [add_block]; exact k2, VRL_drop (VRL_take k3 _) _⟩
theorem Zm3 {descE : TypeDesc} {sizeE bytesE : Nat} {zeroE : Value} {n lo hi : Nat} {cs : List D} {ol oh : Option Operand} (ht : UN C T (.slice e)) (hee : TIC C e descE sizeE bytesE zeroE) (hx : evO C env x = some d) (hd : asSl d = some (n, cs)) (hlo : bndO C env 0 ol = some lo) (hhi : bndO C env n oh = some hi) (hl : lo ≤ hi) (hh : hi ≤ n) (hlen : cs.length = n * sizeE) :
    OpQ C ⟨dst, .slice T x ol oh none, ty, pos, aft, gd⟩ env H (.sl (hi - lo) ((cs.take (hi * sizeE)).drop (lo * sizeE))) :=
  OpQ.of_run fun L w μ a he => by
    have ex := he _ _ hx
    obtain ⟨a', cap, ex, h1, h2, h3⟩ := asSl_ok hd ex
    have hsub := sub_sl (μ := μ) (H := H) h1 h2 h3 hl hh hlen
    refine ⟨_, ?_, hsub⟩
    have hte : C.P.elem T = e := by unfold Program.elem; rw [show C.P.underlying T = some (.slice e) from ht]
    have ht' : C.P.underlying T = some (.slice (C.P.elem T)) := by rw [hte]; exact ht
    have hsz : ∀ w, (sizeOf (C.P.elem T)).run C.P w = .ok sizeE w := fun w => by rw [hte]; exact hee.run_size w
    have key : (Instr.sliceAt T (.slice a' n cap) (ol.map a.eval) (oh.map a.eval) none).run C.P w = .ok (sliced a' lo hi cap sizeE) w := by
      rw [run_sliceAt_slice _ _ _ _ _ _ ht']
      cases ol with
      | none =>
        simp only [bndO] at hlo
        injection hlo with hlo
        subst hlo
        cases oh with
        | none =>
          simp only [bndO] at hhi
          injection hhi with hhi
          subst hhi
          simp only [Option.map_none]
          rw [run_slice_all _ _ _ _ _ ht', hsz]
          rfl
        | some q =>
          simp only [bndO] at hhi
          split at hhi
          · rename_i ik i hq
            split at hhi
            · rename_i h0
              injection hhi with hhi
              have eq := he _ _ hq
              simp only [VR] at eq
              simp only [Option.map_none, Option.map_some, eq]
              rw [run_slice_h _ _ _ _ _ ht' ik i h0 (by omega), hsz]
              simp [hhi]
            · cases hhi
          · cases hhi
      | some p =>
        simp only [bndO] at hlo
        split at hlo
        · rename_i ik i hp
          split at hlo
          · rename_i h0
            injection hlo with hlo
            have ep := he _ _ hp
            simp only [VR] at ep
            cases oh with
            | none =>
              simp only [bndO] at hhi
              injection hhi with hhi
              subst hhi
              simp only [Option.map_none, Option.map_some, ep]
              rw [run_slice_l _ _ _ _ _ ht' ik i h0 (by omega), hsz]
              simp [hlo]
            | some q =>
              simp only [bndO] at hhi
              split at hhi
              · rename_i ik' i' hq
                split at hhi
                · rename_i h0'
                  injection hhi with hhi
                  have eq := he _ _ hq
                  simp only [VR] at eq
                  simp only [Option.map_some, ep, eq]
                  rw [run_slice_lh _ _ _ _ _ ht' ik ik' i i' h0 (by omega) (by omega), hsz]
                  simp [hlo, hhi]
                · cases hhi
              · cases hhi
          · cases hlo
        · cases hlo
    simp only [execOp, ex, Sem.run_bind, Option.map_none, key, Result.andThen_ok, Sem.run_pure]
theorem AOps.frz {ids : List Nat} (hH : Go.V.frz H ids = H') (hz : FzL H env env' ids) (hk : AOps C Q ops rest k env' H' df) : AOps C Q ops rest k env H df := by
  subst hH
  refine ⟨fun i hi => ⟨fun L0 w0 μ0 H0 w μ a hs hv hd he b cs hrd => ?_⟩⟩
  obtain ⟨hs', he'⟩ := hs.weak (HWeak.frz (ids := ids))
  have st := he'.step L0
  exact (hk.out i hi).out L0 w0 μ0 H0 w μ a hs' (FzL.ok hs' hz (fun i hi o ho => frz_dead hi ho) (VRs.step st hv)) (DfR.step st hd) (he.trans he') b cs (hrd.step he'.map)
theorem ARun.frz {ids : List Nat} (hH : Go.V.frz H ids = H') (hz : FzL H env env' ids) (hk : ARun C Q k env' H' df) : ARun C Q k env H df := by
  subst hH
  refine ⟨fun L0 w0 μ0 H0 w μ a hs hv hd he b cs hrd => ?_⟩
  obtain ⟨hs', he'⟩ := hs.weak (HWeak.frz (ids := ids))
  have st := he'.step L0
  exact hk.out L0 w0 μ0 H0 w μ a hs' (FzL.ok hs' hz (fun i hi o ho => frz_dead hi ho) (VRs.step st hv)) (DfR.step st hd) (he.trans he') b cs (hrd.step he'.map)
end
end Go.V
