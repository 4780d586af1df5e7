/- A part of the proof: abstract values, rules for the steps of the program's form, and contracts of its functions, each proved; no condition. -/
import Derived.Test.YtjohcjagbodicabGreatDoorA02
import Derived.Test.YtjohcjagbodicabGreatDoorProg
set_option linter.unusedVariables false
set_option linter.unusedSimpArgs false
/- THE SEAT's TABLE, PRINTED BY seatv.py (a program of this session's): what each type is, by the translation's own facts; the functions, by name. -/
namespace Go.V
open Go.RowKit Go.Proofs
theorem te1 : TEok Tryz.prog 1 ⟨.other, 1, 8, .nilFunc⟩ := ⟨by kernel_rfl, ⟨_, Tryz.underlying1, rfl⟩⟩
theorem te2 : TEok Tryz.prog 2 ⟨.int .i64, 1, 8, .int .i64 0⟩ := ⟨by kernel_rfl, Tryz.underlying2⟩
theorem te3 : TEok Tryz.prog 3 ⟨.int .i64, 1, 8, .int .i64 0⟩ := ⟨by kernel_rfl, Tryz.underlying3⟩
theorem te4 : TEok Tryz.prog 4 ⟨.bool, 1, 1, .bool false⟩ := ⟨by kernel_rfl, Tryz.underlying4⟩
theorem te5 : TEok Tryz.prog 5 ⟨.int .u8, 1, 1, .int .u8 0⟩ := ⟨by kernel_rfl, Tryz.underlying5⟩
theorem te6 : TEok Tryz.prog 6 ⟨.int .u8, 1, 1, .int .u8 0⟩ := ⟨by kernel_rfl, Tryz.underlying6⟩
theorem te7 : TEok Tryz.prog 7 ⟨.struct [(0, 1), (1, 1), (2, 1), (3, 1)], 4, 24, .agg #[.int .i64 0, .int .i64 0, .bool false, .int .u8 0]⟩ := ⟨by kernel_rfl, ⟨_, Tryz.underlying7, by kernel_rfl⟩⟩
theorem te8 : TEok Tryz.prog 8 ⟨.struct [(0, 1), (1, 1), (2, 1), (3, 1)], 4, 24, .agg #[.int .i64 0, .int .i64 0, .bool false, .int .u8 0]⟩ := ⟨by kernel_rfl, ⟨_, Tryz.underlying8, by kernel_rfl⟩⟩
theorem te9 : TEok Tryz.prog 9 ⟨.str, 1, 16, .string ⟨#[]⟩⟩ := ⟨by kernel_rfl, Tryz.underlying9⟩
theorem te10 : TEok Tryz.prog 10 ⟨.str, 1, 16, .string ⟨#[]⟩⟩ := ⟨by kernel_rfl, Tryz.underlying10⟩
theorem te11 : TEok Tryz.prog 11 ⟨.str, 1, 16, .string ⟨#[]⟩⟩ := ⟨by kernel_rfl, Tryz.underlying11⟩
theorem te12 : TEok Tryz.prog 12 ⟨.int .u64, 1, 8, .int .u64 0⟩ := ⟨by kernel_rfl, Tryz.underlying12⟩
theorem te13 : TEok Tryz.prog 13 ⟨.struct [(0, 1), (1, 1)], 2, 24, .agg #[.string ⟨#[]⟩, .int .u64 0]⟩ := ⟨by kernel_rfl, ⟨_, Tryz.underlying13, by kernel_rfl⟩⟩
theorem te14 : TEok Tryz.prog 14 ⟨.struct [(0, 1), (1, 1)], 2, 24, .agg #[.string ⟨#[]⟩, .int .u64 0]⟩ := ⟨by kernel_rfl, ⟨_, Tryz.underlying14, by kernel_rfl⟩⟩
theorem te15 : TEok Tryz.prog 15 ⟨.ptr, 1, 8, .pointer none⟩ := ⟨by kernel_rfl, ⟨_, Tryz.underlying15⟩⟩
theorem te16 : TEok Tryz.prog 16 ⟨.ptr, 1, 8, .pointer none⟩ := ⟨by kernel_rfl, ⟨_, Tryz.underlying16⟩⟩
theorem te17 : TEok Tryz.prog 17 ⟨.ptr, 1, 8, .pointer none⟩ := ⟨by kernel_rfl, ⟨_, Tryz.underlying17⟩⟩
theorem te18 : TEok Tryz.prog 18 ⟨.struct [(0, 1)], 1, 8, .agg #[.pointer none]⟩ := ⟨by kernel_rfl, ⟨_, Tryz.underlying18, by kernel_rfl⟩⟩
theorem te19 : TEok Tryz.prog 19 ⟨.struct [(0, 1)], 1, 8, .agg #[.pointer none]⟩ := ⟨by kernel_rfl, ⟨_, Tryz.underlying19, by kernel_rfl⟩⟩
theorem te20 : TEok Tryz.prog 20 ⟨.other, 1, 16, .nilIface⟩ := ⟨by kernel_rfl, ⟨_, Tryz.underlying20, rfl⟩⟩
theorem te21 : TEok Tryz.prog 21 ⟨.int .i32, 1, 4, .int .i32 0⟩ := ⟨by kernel_rfl, Tryz.underlying21⟩
theorem te22 : TEok Tryz.prog 22 ⟨.slice 76, 1, 24, .slice none 0 0⟩ := ⟨by kernel_rfl, Tryz.underlying22⟩
theorem te23 : TEok Tryz.prog 23 ⟨.slice 76, 1, 24, .slice none 0 0⟩ := ⟨by kernel_rfl, Tryz.underlying23⟩
theorem te24 : TEok Tryz.prog 24 ⟨.struct [(0, 1), (1, 1), (2, 1), (3, 1)], 4, 48, .agg #[.slice none 0 0, .int .i64 0, .bool false, .int .i64 0]⟩ := ⟨by kernel_rfl, ⟨_, Tryz.underlying24, by kernel_rfl⟩⟩
theorem te25 : TEok Tryz.prog 25 ⟨.struct [(0, 1), (1, 1), (2, 1), (3, 1)], 4, 48, .agg #[.slice none 0 0, .int .i64 0, .bool false, .int .i64 0]⟩ := ⟨by kernel_rfl, ⟨_, Tryz.underlying25, by kernel_rfl⟩⟩
theorem te26 : TEok Tryz.prog 26 ⟨.struct [(0, 1), (1, 1)], 2, 32, .agg #[.bool false, .slice none 0 0]⟩ := ⟨by kernel_rfl, ⟨_, Tryz.underlying26, by kernel_rfl⟩⟩
theorem te27 : TEok Tryz.prog 27 ⟨.struct [(0, 1), (1, 1)], 2, 32, .agg #[.bool false, .slice none 0 0]⟩ := ⟨by kernel_rfl, ⟨_, Tryz.underlying27, by kernel_rfl⟩⟩
theorem te28 : TEok Tryz.prog 28 ⟨.other, 1, 8, .nilFunc⟩ := ⟨by kernel_rfl, ⟨_, Tryz.underlying28, rfl⟩⟩
theorem te29 : TEok Tryz.prog 29 ⟨.other, 1, 8, .nilFunc⟩ := ⟨by kernel_rfl, ⟨_, Tryz.underlying29, rfl⟩⟩
theorem te30 : TEok Tryz.prog 30 ⟨.slice 27, 1, 24, .slice none 0 0⟩ := ⟨by kernel_rfl, Tryz.underlying30⟩
theorem te31 : TEok Tryz.prog 31 ⟨.int .i64, 1, 8, .int .i64 0⟩ := ⟨by kernel_rfl, Tryz.underlying31⟩
theorem te33 : TEok Tryz.prog 33 ⟨.other, 1, 8, .nilFunc⟩ := ⟨by kernel_rfl, ⟨_, Tryz.underlying33, rfl⟩⟩
theorem te35 : TEok Tryz.prog 35 ⟨.other, 1, 8, .nilFunc⟩ := ⟨by kernel_rfl, ⟨_, Tryz.underlying35, rfl⟩⟩
theorem te36 : TEok Tryz.prog 36 ⟨.other, 1, 8, .nilFunc⟩ := ⟨by kernel_rfl, ⟨_, Tryz.underlying36, rfl⟩⟩
theorem te37 : TEok Tryz.prog 37 ⟨.struct [(0, 1), (1, 1)], 2, 16, .agg #[.int .i64 0, .bool false]⟩ := ⟨by kernel_rfl, ⟨_, Tryz.underlying37, by kernel_rfl⟩⟩
theorem te38 : TEok Tryz.prog 38 ⟨.struct [(0, 1), (1, 1)], 2, 16, .agg #[.int .i64 0, .bool false]⟩ := ⟨by kernel_rfl, ⟨_, Tryz.underlying38, by kernel_rfl⟩⟩
theorem te40 : TEok Tryz.prog 40 ⟨.other, 1, 8, .nilFunc⟩ := ⟨by kernel_rfl, ⟨_, Tryz.underlying40, rfl⟩⟩
theorem te41 : TEok Tryz.prog 41 ⟨.slice 3, 1, 24, .slice none 0 0⟩ := ⟨by kernel_rfl, Tryz.underlying41⟩
theorem te43 : TEok Tryz.prog 43 ⟨.other, 1, 8, .nilFunc⟩ := ⟨by kernel_rfl, ⟨_, Tryz.underlying43, rfl⟩⟩
theorem te44 : TEok Tryz.prog 44 ⟨.other, 1, 8, .nilFunc⟩ := ⟨by kernel_rfl, ⟨_, Tryz.underlying44, rfl⟩⟩
theorem te45 : TEok Tryz.prog 45 ⟨.other, 1, 8, .nilFunc⟩ := ⟨by kernel_rfl, ⟨_, Tryz.underlying45, rfl⟩⟩
theorem te46 : TEok Tryz.prog 46 ⟨.other, 1, 8, .nilFunc⟩ := ⟨by kernel_rfl, ⟨_, Tryz.underlying46, rfl⟩⟩
theorem te47 : TEok Tryz.prog 47 ⟨.other, 1, 8, .nilFunc⟩ := ⟨by kernel_rfl, ⟨_, Tryz.underlying47, rfl⟩⟩
theorem te48 : TEok Tryz.prog 48 ⟨.other, 1, 8, .nilFunc⟩ := ⟨by kernel_rfl, ⟨_, Tryz.underlying48, rfl⟩⟩
theorem te50 : TEok Tryz.prog 50 ⟨.other, 1, 8, .nilFunc⟩ := ⟨by kernel_rfl, ⟨_, Tryz.underlying50, rfl⟩⟩
theorem te52 : TEok Tryz.prog 52 ⟨.other, 1, 8, .nilFunc⟩ := ⟨by kernel_rfl, ⟨_, Tryz.underlying52, rfl⟩⟩
theorem te53 : TEok Tryz.prog 53 ⟨.other, 1, 8, .nilFunc⟩ := ⟨by kernel_rfl, ⟨_, Tryz.underlying53, rfl⟩⟩
theorem te54 : TEok Tryz.prog 54 ⟨.other, 1, 8, .nilFunc⟩ := ⟨by kernel_rfl, ⟨_, Tryz.underlying54, rfl⟩⟩
theorem te55 : TEok Tryz.prog 55 ⟨.other, 1, 8, .nilFunc⟩ := ⟨by kernel_rfl, ⟨_, Tryz.underlying55, rfl⟩⟩
theorem te56 : TEok Tryz.prog 56 ⟨.other, 1, 8, .nilFunc⟩ := ⟨by kernel_rfl, ⟨_, Tryz.underlying56, rfl⟩⟩
theorem te57 : TEok Tryz.prog 57 ⟨.ptr, 1, 8, .pointer none⟩ := ⟨by kernel_rfl, ⟨_, Tryz.underlying57⟩⟩
theorem te58 : TEok Tryz.prog 58 ⟨.ptr, 1, 8, .pointer none⟩ := ⟨by kernel_rfl, ⟨_, Tryz.underlying58⟩⟩
theorem te59 : TEok Tryz.prog 59 ⟨.other, 1, 8, .nilFunc⟩ := ⟨by kernel_rfl, ⟨_, Tryz.underlying59, rfl⟩⟩
theorem te60 : TEok Tryz.prog 60 ⟨.ptr, 1, 8, .pointer none⟩ := ⟨by kernel_rfl, ⟨_, Tryz.underlying60⟩⟩
theorem te61 : TEok Tryz.prog 61 ⟨.struct [(0, 1), (1, 1)], 2, 24, .agg #[.string ⟨#[]⟩, .int .i64 0]⟩ := ⟨by kernel_rfl, ⟨_, Tryz.underlying61, by kernel_rfl⟩⟩
theorem te62 : TEok Tryz.prog 62 ⟨.struct [(0, 1), (1, 1)], 2, 24, .agg #[.string ⟨#[]⟩, .int .i64 0]⟩ := ⟨by kernel_rfl, ⟨_, Tryz.underlying62, by kernel_rfl⟩⟩
theorem te63 : TEok Tryz.prog 63 ⟨.other, 1, 8, .nilFunc⟩ := ⟨by kernel_rfl, ⟨_, Tryz.underlying63, rfl⟩⟩
theorem te64 : TEok Tryz.prog 64 ⟨.other, 1, 8, .nilFunc⟩ := ⟨by kernel_rfl, ⟨_, Tryz.underlying64, rfl⟩⟩
theorem te65 : TEok Tryz.prog 65 ⟨.other, 1, 8, .nilFunc⟩ := ⟨by kernel_rfl, ⟨_, Tryz.underlying65, rfl⟩⟩
theorem te66 : TEok Tryz.prog 66 ⟨.other, 1, 8, .nilFunc⟩ := ⟨by kernel_rfl, ⟨_, Tryz.underlying66, rfl⟩⟩
theorem te67 : TEok Tryz.prog 67 ⟨.other, 1, 8, .nilFunc⟩ := ⟨by kernel_rfl, ⟨_, Tryz.underlying67, rfl⟩⟩
theorem te69 : TEok Tryz.prog 69 ⟨.other, 1, 8, .nilFunc⟩ := ⟨by kernel_rfl, ⟨_, Tryz.underlying69, rfl⟩⟩
theorem te70 : TEok Tryz.prog 70 ⟨.struct [(0, 2), (2, 1)], 3, 24, .agg #[.int .i64 0, .bool false, .int .i64 0]⟩ := ⟨by kernel_rfl, ⟨_, Tryz.underlying70, by kernel_rfl⟩⟩
theorem te71 : TEok Tryz.prog 71 ⟨.array 6 70, 18, 144, .agg #[.int .i64 0, .bool false, .int .i64 0, .int .i64 0, .bool false, .int .i64 0, .int .i64 0, .bool false, .int .i64 0, .int .i64 0, .bool false, .int .i64 0, .int .i64 0, .bool false, .int .i64 0, .int .i64 0, .bool false, .int .i64 0]⟩ := ⟨by kernel_rfl, Tryz.underlying71⟩
theorem te72 : TEok Tryz.prog 72 ⟨.other, 1, 8, .nilFunc⟩ := ⟨by kernel_rfl, ⟨_, Tryz.underlying72, rfl⟩⟩
theorem te73 : TEok Tryz.prog 73 ⟨.other, 1, 8, .nilFunc⟩ := ⟨by kernel_rfl, ⟨_, Tryz.underlying73, rfl⟩⟩
theorem te75 : TEok Tryz.prog 75 ⟨.other, 1, 8, .nilFunc⟩ := ⟨by kernel_rfl, ⟨_, Tryz.underlying75, rfl⟩⟩
theorem te76 : TEok Tryz.prog 76 ⟨.int .u32, 1, 4, .int .u32 0⟩ := ⟨by kernel_rfl, Tryz.underlying76⟩
theorem te78 : TEok Tryz.prog 78 ⟨.other, 1, 8, .nilFunc⟩ := ⟨by kernel_rfl, ⟨_, Tryz.underlying78, rfl⟩⟩
theorem te79 : TEok Tryz.prog 79 ⟨.other, 1, 8, .nilFunc⟩ := ⟨by kernel_rfl, ⟨_, Tryz.underlying79, rfl⟩⟩
theorem te80 : TEok Tryz.prog 80 ⟨.struct [(0, 1)], 1, 8, .agg #[.nilFunc]⟩ := ⟨by kernel_rfl, ⟨_, Tryz.underlying80, by kernel_rfl⟩⟩
theorem te81 : TEok Tryz.prog 81 ⟨.struct [(0, 1)], 1, 8, .agg #[.nilFunc]⟩ := ⟨by kernel_rfl, ⟨_, Tryz.underlying81, by kernel_rfl⟩⟩
theorem te82 : TEok Tryz.prog 82 ⟨.other, 1, 8, .map none⟩ := ⟨by kernel_rfl, ⟨_, Tryz.underlying82, rfl⟩⟩
theorem te83 : TEok Tryz.prog 83 ⟨.other, 1, 8, .nilFunc⟩ := ⟨by kernel_rfl, ⟨_, Tryz.underlying83, rfl⟩⟩
theorem te84 : TEok Tryz.prog 84 ⟨.other, 1, 8, .nilFunc⟩ := ⟨by kernel_rfl, ⟨_, Tryz.underlying84, rfl⟩⟩
theorem te85 : TEok Tryz.prog 85 ⟨.other, 1, 8, .nilFunc⟩ := ⟨by kernel_rfl, ⟨_, Tryz.underlying85, rfl⟩⟩
theorem te86 : TEok Tryz.prog 86 ⟨.other, 1, 8, .nilFunc⟩ := ⟨by kernel_rfl, ⟨_, Tryz.underlying86, rfl⟩⟩
theorem te87 : TEok Tryz.prog 87 ⟨.other, 1, 8, .nilFunc⟩ := ⟨by kernel_rfl, ⟨_, Tryz.underlying87, rfl⟩⟩
theorem te88 : TEok Tryz.prog 88 ⟨.other, 1, 8, .nilFunc⟩ := ⟨by kernel_rfl, ⟨_, Tryz.underlying88, rfl⟩⟩
theorem te89 : TEok Tryz.prog 89 ⟨.int .u64, 1, 8, .int .u64 0⟩ := ⟨by kernel_rfl, Tryz.underlying89⟩
theorem te90 : TEok Tryz.prog 90 ⟨.other, 1, 8, .nilFunc⟩ := ⟨by kernel_rfl, ⟨_, Tryz.underlying90, rfl⟩⟩
theorem te91 : TEok Tryz.prog 91 ⟨.other, 1, 8, .nilFunc⟩ := ⟨by kernel_rfl, ⟨_, Tryz.underlying91, rfl⟩⟩
theorem te94 : TEok Tryz.prog 94 ⟨.other, 1, 8, .nilFunc⟩ := ⟨by kernel_rfl, ⟨_, Tryz.underlying94, rfl⟩⟩
theorem te95 : TEok Tryz.prog 95 ⟨.other, 1, 8, .nilFunc⟩ := ⟨by kernel_rfl, ⟨_, Tryz.underlying95, rfl⟩⟩
theorem te96 : TEok Tryz.prog 96 ⟨.other, 1, 8, .nilFunc⟩ := ⟨by kernel_rfl, ⟨_, Tryz.underlying96, rfl⟩⟩
theorem te97 : TEok Tryz.prog 97 ⟨.other, 1, 8, .nilFunc⟩ := ⟨by kernel_rfl, ⟨_, Tryz.underlying97, rfl⟩⟩
theorem te98 : TEok Tryz.prog 98 ⟨.slice 5, 1, 24, .slice none 0 0⟩ := ⟨by kernel_rfl, Tryz.underlying98⟩
theorem te99 : TEok Tryz.prog 99 ⟨.other, 1, 8, .nilFunc⟩ := ⟨by kernel_rfl, ⟨_, Tryz.underlying99, rfl⟩⟩
theorem te100 : TEok Tryz.prog 100 ⟨.other, 1, 8, .nilFunc⟩ := ⟨by kernel_rfl, ⟨_, Tryz.underlying100, rfl⟩⟩
theorem te101 : TEok Tryz.prog 101 ⟨.other, 1, 8, .nilFunc⟩ := ⟨by kernel_rfl, ⟨_, Tryz.underlying101, rfl⟩⟩
theorem te102 : TEok Tryz.prog 102 ⟨.other, 1, 8, .nilFunc⟩ := ⟨by kernel_rfl, ⟨_, Tryz.underlying102, rfl⟩⟩
theorem te103 : TEok Tryz.prog 103 ⟨.struct [(0, 1)], 1, 8, .agg #[.int .i64 0]⟩ := ⟨by kernel_rfl, ⟨_, Tryz.underlying103, by kernel_rfl⟩⟩
theorem te104 : TEok Tryz.prog 104 ⟨.struct [(0, 1)], 1, 8, .agg #[.int .i64 0]⟩ := ⟨by kernel_rfl, ⟨_, Tryz.underlying104, by kernel_rfl⟩⟩
theorem te105 : TEok Tryz.prog 105 ⟨.struct [(0, 1)], 1, 8, .agg #[.int .i64 0]⟩ := ⟨by kernel_rfl, ⟨_, Tryz.underlying105, by kernel_rfl⟩⟩
theorem te106 : TEok Tryz.prog 106 ⟨.struct [(0, 1)], 1, 8, .agg #[.int .i64 0]⟩ := ⟨by kernel_rfl, ⟨_, Tryz.underlying106, by kernel_rfl⟩⟩
theorem te107 : TEok Tryz.prog 107 ⟨.other, 1, 8, .nilFunc⟩ := ⟨by kernel_rfl, ⟨_, Tryz.underlying107, rfl⟩⟩
theorem te108 : TEok Tryz.prog 108 ⟨.other, 1, 8, .nilFunc⟩ := ⟨by kernel_rfl, ⟨_, Tryz.underlying108, rfl⟩⟩
theorem te109 : TEok Tryz.prog 109 ⟨.slice 9, 1, 24, .slice none 0 0⟩ := ⟨by kernel_rfl, Tryz.underlying109⟩
theorem te111 : TEok Tryz.prog 111 ⟨.other, 1, 8, .nilFunc⟩ := ⟨by kernel_rfl, ⟨_, Tryz.underlying111, rfl⟩⟩
theorem te112 : TEok Tryz.prog 112 ⟨.other, 1, 8, .nilFunc⟩ := ⟨by kernel_rfl, ⟨_, Tryz.underlying112, rfl⟩⟩
theorem te113 : TEok Tryz.prog 113 ⟨.other, 1, 8, .nilFunc⟩ := ⟨by kernel_rfl, ⟨_, Tryz.underlying113, rfl⟩⟩
theorem te114 : TEok Tryz.prog 114 ⟨.slice 76, 1, 24, .slice none 0 0⟩ := ⟨by kernel_rfl, Tryz.underlying114⟩
theorem te115 : TEok Tryz.prog 115 ⟨.other, 1, 8, .nilFunc⟩ := ⟨by kernel_rfl, ⟨_, Tryz.underlying115, rfl⟩⟩
theorem te116 : TEok Tryz.prog 116 ⟨.other, 1, 8, .nilFunc⟩ := ⟨by kernel_rfl, ⟨_, Tryz.underlying116, rfl⟩⟩
theorem te117 : TEok Tryz.prog 117 ⟨.other, 1, 8, .nilFunc⟩ := ⟨by kernel_rfl, ⟨_, Tryz.underlying117, rfl⟩⟩
theorem te119 : TEok Tryz.prog 119 ⟨.other, 1, 8, .nilFunc⟩ := ⟨by kernel_rfl, ⟨_, Tryz.underlying119, rfl⟩⟩
theorem te120 : TEok Tryz.prog 120 ⟨.other, 1, 8, .nilFunc⟩ := ⟨by kernel_rfl, ⟨_, Tryz.underlying120, rfl⟩⟩
theorem te121 : TEok Tryz.prog 121 ⟨.ptr, 1, 8, .pointer none⟩ := ⟨by kernel_rfl, ⟨_, Tryz.underlying121⟩⟩
theorem te122 : TEok Tryz.prog 122 ⟨.struct [(0, 1), (1, 1)], 2, 32, .agg #[.pointer none, .slice none 0 0]⟩ := ⟨by kernel_rfl, ⟨_, Tryz.underlying122, by kernel_rfl⟩⟩
theorem te123 : TEok Tryz.prog 123 ⟨.struct [(0, 1), (1, 1)], 2, 32, .agg #[.pointer none, .slice none 0 0]⟩ := ⟨by kernel_rfl, ⟨_, Tryz.underlying123, by kernel_rfl⟩⟩
theorem te124 : TEok Tryz.prog 124 ⟨.other, 1, 8, .nilFunc⟩ := ⟨by kernel_rfl, ⟨_, Tryz.underlying124, rfl⟩⟩
theorem te125 : TEok Tryz.prog 125 ⟨.other, 1, 16, .nilIface⟩ := ⟨by kernel_rfl, ⟨_, Tryz.underlying125, rfl⟩⟩
theorem te126 : TEok Tryz.prog 126 ⟨.other, 1, 16, .nilIface⟩ := ⟨by kernel_rfl, ⟨_, Tryz.underlying126, rfl⟩⟩
theorem te128 : TEok Tryz.prog 128 ⟨.other, 1, 8, .nilFunc⟩ := ⟨by kernel_rfl, ⟨_, Tryz.underlying128, rfl⟩⟩
theorem te129 : TEok Tryz.prog 129 ⟨.other, 1, 8, .nilFunc⟩ := ⟨by kernel_rfl, ⟨_, Tryz.underlying129, rfl⟩⟩
theorem te130 : TEok Tryz.prog 130 ⟨.other, 1, 8, .nilFunc⟩ := ⟨by kernel_rfl, ⟨_, Tryz.underlying130, rfl⟩⟩
theorem te131 : TEok Tryz.prog 131 ⟨.other, 1, 8, .nilFunc⟩ := ⟨by kernel_rfl, ⟨_, Tryz.underlying131, rfl⟩⟩
theorem te132 : TEok Tryz.prog 132 ⟨.other, 1, 8, .nilFunc⟩ := ⟨by kernel_rfl, ⟨_, Tryz.underlying132, rfl⟩⟩
theorem te133 : TEok Tryz.prog 133 ⟨.other, 1, 8, .nilFunc⟩ := ⟨by kernel_rfl, ⟨_, Tryz.underlying133, rfl⟩⟩
theorem te134 : TEok Tryz.prog 134 ⟨.other, 1, 8, .nilFunc⟩ := ⟨by kernel_rfl, ⟨_, Tryz.underlying134, rfl⟩⟩
theorem te135 : TEok Tryz.prog 135 ⟨.other, 1, 8, .nilFunc⟩ := ⟨by kernel_rfl, ⟨_, Tryz.underlying135, rfl⟩⟩
theorem te137 : TEok Tryz.prog 137 ⟨.other, 1, 8, .nilFunc⟩ := ⟨by kernel_rfl, ⟨_, Tryz.underlying137, rfl⟩⟩
theorem te138 : TEok Tryz.prog 138 ⟨.other, 1, 8, .nilFunc⟩ := ⟨by kernel_rfl, ⟨_, Tryz.underlying138, rfl⟩⟩
theorem te139 : TEok Tryz.prog 139 ⟨.other, 1, 8, .nilFunc⟩ := ⟨by kernel_rfl, ⟨_, Tryz.underlying139, rfl⟩⟩
theorem te140 : TEok Tryz.prog 140 ⟨.int .u64, 1, 8, .int .u64 0⟩ := ⟨by kernel_rfl, Tryz.underlying140⟩
theorem te141 : TEok Tryz.prog 141 ⟨.other, 1, 8, .nilFunc⟩ := ⟨by kernel_rfl, ⟨_, Tryz.underlying141, rfl⟩⟩
theorem te142 : TEok Tryz.prog 142 ⟨.other, 1, 8, .nilFunc⟩ := ⟨by kernel_rfl, ⟨_, Tryz.underlying142, rfl⟩⟩
theorem te143 : TEok Tryz.prog 143 ⟨.other, 1, 8, .nilFunc⟩ := ⟨by kernel_rfl, ⟨_, Tryz.underlying143, rfl⟩⟩
theorem te144 : TEok Tryz.prog 144 ⟨.other, 1, 8, .nilFunc⟩ := ⟨by kernel_rfl, ⟨_, Tryz.underlying144, rfl⟩⟩
theorem te145 : TEok Tryz.prog 145 ⟨.other, 1, 8, .nilFunc⟩ := ⟨by kernel_rfl, ⟨_, Tryz.underlying145, rfl⟩⟩
theorem te146 : TEok Tryz.prog 146 ⟨.struct [(0, 1), (1, 1)], 2, 16, .agg #[.nilFunc, .nilFunc]⟩ := ⟨by kernel_rfl, ⟨_, Tryz.underlying146, by kernel_rfl⟩⟩
theorem te147 : TEok Tryz.prog 147 ⟨.struct [(0, 1), (1, 1)], 2, 16, .agg #[.nilFunc, .nilFunc]⟩ := ⟨by kernel_rfl, ⟨_, Tryz.underlying147, by kernel_rfl⟩⟩
theorem te148 : TEok Tryz.prog 148 ⟨.other, 1, 8, .nilFunc⟩ := ⟨by kernel_rfl, ⟨_, Tryz.underlying148, rfl⟩⟩
theorem te149 : TEok Tryz.prog 149 ⟨.struct [(0, 1)], 1, 8, .agg #[.int .i64 0]⟩ := ⟨by kernel_rfl, ⟨_, Tryz.underlying149, by kernel_rfl⟩⟩
theorem te150 : TEok Tryz.prog 150 ⟨.struct [(0, 1)], 1, 8, .agg #[.int .i64 0]⟩ := ⟨by kernel_rfl, ⟨_, Tryz.underlying150, by kernel_rfl⟩⟩
theorem te152 : TEok Tryz.prog 152 ⟨.slice 23, 1, 24, .slice none 0 0⟩ := ⟨by kernel_rfl, Tryz.underlying152⟩
theorem te153 : TEok Tryz.prog 153 ⟨.other, 1, 8, .nilFunc⟩ := ⟨by kernel_rfl, ⟨_, Tryz.underlying153, rfl⟩⟩
theorem te154 : TEok Tryz.prog 154 ⟨.other, 1, 8, .nilFunc⟩ := ⟨by kernel_rfl, ⟨_, Tryz.underlying154, rfl⟩⟩
theorem te155 : TEok Tryz.prog 155 ⟨.other, 1, 8, .nilFunc⟩ := ⟨by kernel_rfl, ⟨_, Tryz.underlying155, rfl⟩⟩
theorem te157 : TEok Tryz.prog 157 ⟨.other, 1, 8, .nilFunc⟩ := ⟨by kernel_rfl, ⟨_, Tryz.underlying157, rfl⟩⟩
theorem te158 : TEok Tryz.prog 158 ⟨.other, 1, 8, .nilFunc⟩ := ⟨by kernel_rfl, ⟨_, Tryz.underlying158, rfl⟩⟩
theorem te159 : TEok Tryz.prog 159 ⟨.ptr, 1, 8, .pointer none⟩ := ⟨by kernel_rfl, ⟨_, Tryz.underlying159⟩⟩
theorem te161 : TEok Tryz.prog 161 ⟨.other, 1, 8, .nilFunc⟩ := ⟨by kernel_rfl, ⟨_, Tryz.underlying161, rfl⟩⟩
theorem te162 : TEok Tryz.prog 162 ⟨.other, 1, 8, .nilFunc⟩ := ⟨by kernel_rfl, ⟨_, Tryz.underlying162, rfl⟩⟩
theorem te163 : TEok Tryz.prog 163 ⟨.other, 1, 8, .nilFunc⟩ := ⟨by kernel_rfl, ⟨_, Tryz.underlying163, rfl⟩⟩
theorem te164 : TEok Tryz.prog 164 ⟨.other, 1, 8, .nilFunc⟩ := ⟨by kernel_rfl, ⟨_, Tryz.underlying164, rfl⟩⟩
theorem te165 : TEok Tryz.prog 165 ⟨.other, 1, 8, .nilFunc⟩ := ⟨by kernel_rfl, ⟨_, Tryz.underlying165, rfl⟩⟩
theorem te166 : TEok Tryz.prog 166 ⟨.other, 1, 8, .nilFunc⟩ := ⟨by kernel_rfl, ⟨_, Tryz.underlying166, rfl⟩⟩
theorem te167 : TEok Tryz.prog 167 ⟨.other, 1, 8, .nilFunc⟩ := ⟨by kernel_rfl, ⟨_, Tryz.underlying167, rfl⟩⟩
theorem te168 : TEok Tryz.prog 168 ⟨.other, 1, 8, .nilFunc⟩ := ⟨by kernel_rfl, ⟨_, Tryz.underlying168, rfl⟩⟩
theorem te169 : TEok Tryz.prog 169 ⟨.other, 1, 8, .nilFunc⟩ := ⟨by kernel_rfl, ⟨_, Tryz.underlying169, rfl⟩⟩
theorem te170 : TEok Tryz.prog 170 ⟨.other, 1, 8, .nilFunc⟩ := ⟨by kernel_rfl, ⟨_, Tryz.underlying170, rfl⟩⟩
theorem te171 : TEok Tryz.prog 171 ⟨.other, 1, 8, .nilFunc⟩ := ⟨by kernel_rfl, ⟨_, Tryz.underlying171, rfl⟩⟩
theorem te172 : TEok Tryz.prog 172 ⟨.other, 1, 8, .nilFunc⟩ := ⟨by kernel_rfl, ⟨_, Tryz.underlying172, rfl⟩⟩
theorem te173 : TEok Tryz.prog 173 ⟨.other, 1, 8, .nilFunc⟩ := ⟨by kernel_rfl, ⟨_, Tryz.underlying173, rfl⟩⟩
theorem te175 : TEok Tryz.prog 175 ⟨.other, 1, 8, .nilFunc⟩ := ⟨by kernel_rfl, ⟨_, Tryz.underlying175, rfl⟩⟩
theorem te176 : TEok Tryz.prog 176 ⟨.other, 1, 8, .nilFunc⟩ := ⟨by kernel_rfl, ⟨_, Tryz.underlying176, rfl⟩⟩
theorem te177 : TEok Tryz.prog 177 ⟨.other, 1, 8, .nilFunc⟩ := ⟨by kernel_rfl, ⟨_, Tryz.underlying177, rfl⟩⟩
theorem te179 : TEok Tryz.prog 179 ⟨.other, 1, 8, .nilFunc⟩ := ⟨by kernel_rfl, ⟨_, Tryz.underlying179, rfl⟩⟩
theorem te180 : TEok Tryz.prog 180 ⟨.slice 195, 1, 24, .slice none 0 0⟩ := ⟨by kernel_rfl, Tryz.underlying180⟩
theorem te181 : TEok Tryz.prog 181 ⟨.other, 1, 8, .nilFunc⟩ := ⟨by kernel_rfl, ⟨_, Tryz.underlying181, rfl⟩⟩
theorem te182 : TEok Tryz.prog 182 ⟨.other, 1, 8, .nilFunc⟩ := ⟨by kernel_rfl, ⟨_, Tryz.underlying182, rfl⟩⟩
theorem te183 : TEok Tryz.prog 183 ⟨.other, 1, 8, .nilFunc⟩ := ⟨by kernel_rfl, ⟨_, Tryz.underlying183, rfl⟩⟩
theorem te189 : TEok Tryz.prog 189 ⟨.other, 1, 8, .nilFunc⟩ := ⟨by kernel_rfl, ⟨_, Tryz.underlying189, rfl⟩⟩
theorem te192 : TEok Tryz.prog 192 ⟨.array 3 21, 3, 12, .agg #[.int .i32 0, .int .i32 0, .int .i32 0]⟩ := ⟨by kernel_rfl, Tryz.underlying192⟩
theorem te193 : TEok Tryz.prog 193 ⟨.array 3 21, 3, 12, .agg #[.int .i32 0, .int .i32 0, .int .i32 0]⟩ := ⟨by kernel_rfl, Tryz.underlying193⟩
theorem te195 : TEok Tryz.prog 195 ⟨.struct [(0, 1), (1, 1), (2, 3)], 5, 20, .agg #[.int .u32 0, .int .u32 0, .int .i32 0, .int .i32 0, .int .i32 0]⟩ := ⟨by kernel_rfl, ⟨_, Tryz.underlying195, by kernel_rfl⟩⟩
theorem te198 : TEok Tryz.prog 198 ⟨.array 0 16, 0, 0, .agg #[]⟩ := ⟨by kernel_rfl, Tryz.underlying198⟩
theorem te200 : TEok Tryz.prog 200 ⟨.struct [(0, 0)], 0, 0, .agg #[]⟩ := ⟨by kernel_rfl, ⟨_, Tryz.underlying200, by kernel_rfl⟩⟩
theorem te201 : TEok Tryz.prog 201 ⟨.int .u8, 1, 1, .int .u8 0⟩ := ⟨by kernel_rfl, Tryz.underlying201⟩
theorem te202 : TEok Tryz.prog 202 ⟨.int .u8, 1, 1, .int .u8 0⟩ := ⟨by kernel_rfl, Tryz.underlying202⟩
theorem te203 : TEok Tryz.prog 203 ⟨.other, 1, 8, .nilFunc⟩ := ⟨by kernel_rfl, ⟨_, Tryz.underlying203, rfl⟩⟩
theorem te204 : TEok Tryz.prog 204 ⟨.int .i32, 1, 4, .int .i32 0⟩ := ⟨by kernel_rfl, Tryz.underlying204⟩
theorem te205 : TEok Tryz.prog 205 ⟨.int .i32, 1, 4, .int .i32 0⟩ := ⟨by kernel_rfl, Tryz.underlying205⟩
theorem te207 : TEok Tryz.prog 207 ⟨.struct [(0, 1), (1, 1), (2, 1), (3, 1), (4, 1), (5, 1), (6, 1), (7, 1), (8, 1), (9, 1), (10, 1)], 11, 48, .agg #[.int .u64 0, .int .u64 0, .int .u32 0, .int .u8 0, .int .u8 0, .int .u8 0, .int .u8 0, .nilFunc, .pointer none, .int .i32 0, .int .i32 0]⟩ := ⟨by kernel_rfl, ⟨_, Tryz.underlying207, by kernel_rfl⟩⟩
abbrev t_int : TypeId := 3
abbrev Zh8 : TypeId := 5
abbrev Zd6 : TypeId := 23
abbrev Zdv : TypeId := 25
abbrev Zf7 : TypeId := 27
abbrev Zah : TypeId := 31
abbrev Zj6 : TypeId := 38
abbrev Zha : TypeId := 62
abbrev Zav : TypeId := 76
abbrev ZaE : TypeId := 81
abbrev Zf8 : TypeId := 98
abbrev ZcV : TypeId := 106
abbrev Zci : TypeId := 114
abbrev Zcj : TypeId := 150
noncomputable def tys : Tr := (.node 98 (.node 47 (.node 21 (.node 10 (.node 5 (.node 2 (.node 1 (.leaf 1 ⟨.other, 1, 8, .nilFunc⟩) (.leaf 2 ⟨.int .i64, 1, 8, .int .i64 0⟩)) (.node 3 (.leaf 3 ⟨.int .i64, 1, 8, .int .i64 0⟩) (.node 4 (.leaf 4 ⟨.bool, 1, 1, .bool false⟩) (.leaf 5 ⟨.int .u8, 1, 1, .int .u8 0⟩)))) (.node 7 (.node 6 (.leaf 6 ⟨.int .u8, 1, 1, .int .u8 0⟩) (.leaf 7 ⟨.struct [(0, 1), (1, 1), (2, 1), (3, 1)], 4, 24, .agg #[.int .i64 0, .int .i64 0, .bool false, .int .u8 0]⟩)) (.node 8 (.leaf 8 ⟨.struct [(0, 1), (1, 1), (2, 1), (3, 1)], 4, 24, .agg #[.int .i64 0, .int .i64 0, .bool false, .int .u8 0]⟩) (.node 9 (.leaf 9 ⟨.str, 1, 16, .string ⟨#[]⟩⟩) (.leaf 10 ⟨.str, 1, 16, .string ⟨#[]⟩⟩))))) (.node 15 (.node 12 (.node 11 (.leaf 11 ⟨.str, 1, 16, .string ⟨#[]⟩⟩) (.leaf 12 ⟨.int .u64, 1, 8, .int .u64 0⟩)) (.node 13 (.leaf 13 ⟨.struct [(0, 1), (1, 1)], 2, 24, .agg #[.string ⟨#[]⟩, .int .u64 0]⟩) (.node 14 (.leaf 14 ⟨.struct [(0, 1), (1, 1)], 2, 24, .agg #[.string ⟨#[]⟩, .int .u64 0]⟩) (.leaf 15 ⟨.ptr, 1, 8, .pointer none⟩)))) (.node 18 (.node 16 (.leaf 16 ⟨.ptr, 1, 8, .pointer none⟩) (.node 17 (.leaf 17 ⟨.ptr, 1, 8, .pointer none⟩) (.leaf 18 ⟨.struct [(0, 1)], 1, 8, .agg #[.pointer none]⟩))) (.node 19 (.leaf 19 ⟨.struct [(0, 1)], 1, 8, .agg #[.pointer none]⟩) (.node 20 (.leaf 20 ⟨.other, 1, 16, .nilIface⟩) (.leaf 21 ⟨.int .i32, 1, 4, .int .i32 0⟩)))))) (.node 33 (.node 26 (.node 23 (.node 22 (.leaf 22 ⟨.slice 76, 1, 24, .slice none 0 0⟩) (.leaf 23 ⟨.slice 76, 1, 24, .slice none 0 0⟩)) (.node 24 (.leaf 24 ⟨.struct [(0, 1), (1, 1), (2, 1), (3, 1)], 4, 48, .agg #[.slice none 0 0, .int .i64 0, .bool false, .int .i64 0]⟩) (.node 25 (.leaf 25 ⟨.struct [(0, 1), (1, 1), (2, 1), (3, 1)], 4, 48, .agg #[.slice none 0 0, .int .i64 0, .bool false, .int .i64 0]⟩) (.leaf 26 ⟨.struct [(0, 1), (1, 1)], 2, 32, .agg #[.bool false, .slice none 0 0]⟩)))) (.node 29 (.node 27 (.leaf 27 ⟨.struct [(0, 1), (1, 1)], 2, 32, .agg #[.bool false, .slice none 0 0]⟩) (.node 28 (.leaf 28 ⟨.other, 1, 8, .nilFunc⟩) (.leaf 29 ⟨.other, 1, 8, .nilFunc⟩))) (.node 30 (.leaf 30 ⟨.slice 27, 1, 24, .slice none 0 0⟩) (.node 31 (.leaf 31 ⟨.int .i64, 1, 8, .int .i64 0⟩) (.leaf 33 ⟨.other, 1, 8, .nilFunc⟩))))) (.node 40 (.node 36 (.node 35 (.leaf 35 ⟨.other, 1, 8, .nilFunc⟩) (.leaf 36 ⟨.other, 1, 8, .nilFunc⟩)) (.node 37 (.leaf 37 ⟨.struct [(0, 1), (1, 1)], 2, 16, .agg #[.int .i64 0, .bool false]⟩) (.node 38 (.leaf 38 ⟨.struct [(0, 1), (1, 1)], 2, 16, .agg #[.int .i64 0, .bool false]⟩) (.leaf 40 ⟨.other, 1, 8, .nilFunc⟩)))) (.node 44 (.node 41 (.leaf 41 ⟨.slice 3, 1, 24, .slice none 0 0⟩) (.node 43 (.leaf 43 ⟨.other, 1, 8, .nilFunc⟩) (.leaf 44 ⟨.other, 1, 8, .nilFunc⟩))) (.node 45 (.leaf 45 ⟨.other, 1, 8, .nilFunc⟩) (.node 46 (.leaf 46 ⟨.other, 1, 8, .nilFunc⟩) (.leaf 47 ⟨.other, 1, 8, .nilFunc⟩))))))) (.node 72 (.node 60 (.node 54 (.node 50 (.node 48 (.leaf 48 ⟨.other, 1, 8, .nilFunc⟩) (.leaf 50 ⟨.other, 1, 8, .nilFunc⟩)) (.node 52 (.leaf 52 ⟨.other, 1, 8, .nilFunc⟩) (.node 53 (.leaf 53 ⟨.other, 1, 8, .nilFunc⟩) (.leaf 54 ⟨.other, 1, 8, .nilFunc⟩)))) (.node 57 (.node 55 (.leaf 55 ⟨.other, 1, 8, .nilFunc⟩) (.node 56 (.leaf 56 ⟨.other, 1, 8, .nilFunc⟩) (.leaf 57 ⟨.ptr, 1, 8, .pointer none⟩))) (.node 58 (.leaf 58 ⟨.ptr, 1, 8, .pointer none⟩) (.node 59 (.leaf 59 ⟨.other, 1, 8, .nilFunc⟩) (.leaf 60 ⟨.ptr, 1, 8, .pointer none⟩))))) (.node 65 (.node 62 (.node 61 (.leaf 61 ⟨.struct [(0, 1), (1, 1)], 2, 24, .agg #[.string ⟨#[]⟩, .int .i64 0]⟩) (.leaf 62 ⟨.struct [(0, 1), (1, 1)], 2, 24, .agg #[.string ⟨#[]⟩, .int .i64 0]⟩)) (.node 63 (.leaf 63 ⟨.other, 1, 8, .nilFunc⟩) (.node 64 (.leaf 64 ⟨.other, 1, 8, .nilFunc⟩) (.leaf 65 ⟨.other, 1, 8, .nilFunc⟩)))) (.node 69 (.node 66 (.leaf 66 ⟨.other, 1, 8, .nilFunc⟩) (.node 67 (.leaf 67 ⟨.other, 1, 8, .nilFunc⟩) (.leaf 69 ⟨.other, 1, 8, .nilFunc⟩))) (.node 70 (.leaf 70 ⟨.struct [(0, 2), (2, 1)], 3, 24, .agg #[.int .i64 0, .bool false, .int .i64 0]⟩) (.node 71 (.leaf 71 ⟨.array 6 70, 18, 144, .agg #[.int .i64 0, .bool false, .int .i64 0, .int .i64 0, .bool false, .int .i64 0, .int .i64 0, .bool false, .int .i64 0, .int .i64 0, .bool false, .int .i64 0, .int .i64 0, .bool false, .int .i64 0, .int .i64 0, .bool false, .int .i64 0]⟩) (.leaf 72 ⟨.other, 1, 8, .nilFunc⟩)))))) (.node 85 (.node 79 (.node 75 (.node 73 (.leaf 73 ⟨.other, 1, 8, .nilFunc⟩) (.leaf 75 ⟨.other, 1, 8, .nilFunc⟩)) (.node 76 (.leaf 76 ⟨.int .u32, 1, 4, .int .u32 0⟩) (.node 78 (.leaf 78 ⟨.other, 1, 8, .nilFunc⟩) (.leaf 79 ⟨.other, 1, 8, .nilFunc⟩)))) (.node 82 (.node 80 (.leaf 80 ⟨.struct [(0, 1)], 1, 8, .agg #[.nilFunc]⟩) (.node 81 (.leaf 81 ⟨.struct [(0, 1)], 1, 8, .agg #[.nilFunc]⟩) (.leaf 82 ⟨.other, 1, 8, .map none⟩))) (.node 83 (.leaf 83 ⟨.other, 1, 8, .nilFunc⟩) (.node 84 (.leaf 84 ⟨.other, 1, 8, .nilFunc⟩) (.leaf 85 ⟨.other, 1, 8, .nilFunc⟩))))) (.node 90 (.node 87 (.node 86 (.leaf 86 ⟨.other, 1, 8, .nilFunc⟩) (.leaf 87 ⟨.other, 1, 8, .nilFunc⟩)) (.node 88 (.leaf 88 ⟨.other, 1, 8, .nilFunc⟩) (.node 89 (.leaf 89 ⟨.int .u64, 1, 8, .int .u64 0⟩) (.leaf 90 ⟨.other, 1, 8, .nilFunc⟩)))) (.node 95 (.node 91 (.leaf 91 ⟨.other, 1, 8, .nilFunc⟩) (.node 94 (.leaf 94 ⟨.other, 1, 8, .nilFunc⟩) (.leaf 95 ⟨.other, 1, 8, .nilFunc⟩))) (.node 96 (.leaf 96 ⟨.other, 1, 8, .nilFunc⟩) (.node 97 (.leaf 97 ⟨.other, 1, 8, .nilFunc⟩) (.leaf 98 ⟨.slice 5, 1, 24, .slice none 0 0⟩)))))))) (.node 146 (.node 122 (.node 109 (.node 103 (.node 100 (.node 99 (.leaf 99 ⟨.other, 1, 8, .nilFunc⟩) (.leaf 100 ⟨.other, 1, 8, .nilFunc⟩)) (.node 101 (.leaf 101 ⟨.other, 1, 8, .nilFunc⟩) (.node 102 (.leaf 102 ⟨.other, 1, 8, .nilFunc⟩) (.leaf 103 ⟨.struct [(0, 1)], 1, 8, .agg #[.int .i64 0]⟩)))) (.node 106 (.node 104 (.leaf 104 ⟨.struct [(0, 1)], 1, 8, .agg #[.int .i64 0]⟩) (.node 105 (.leaf 105 ⟨.struct [(0, 1)], 1, 8, .agg #[.int .i64 0]⟩) (.leaf 106 ⟨.struct [(0, 1)], 1, 8, .agg #[.int .i64 0]⟩))) (.node 107 (.leaf 107 ⟨.other, 1, 8, .nilFunc⟩) (.node 108 (.leaf 108 ⟨.other, 1, 8, .nilFunc⟩) (.leaf 109 ⟨.slice 9, 1, 24, .slice none 0 0⟩))))) (.node 115 (.node 112 (.node 111 (.leaf 111 ⟨.other, 1, 8, .nilFunc⟩) (.leaf 112 ⟨.other, 1, 8, .nilFunc⟩)) (.node 113 (.leaf 113 ⟨.other, 1, 8, .nilFunc⟩) (.node 114 (.leaf 114 ⟨.slice 76, 1, 24, .slice none 0 0⟩) (.leaf 115 ⟨.other, 1, 8, .nilFunc⟩)))) (.node 119 (.node 116 (.leaf 116 ⟨.other, 1, 8, .nilFunc⟩) (.node 117 (.leaf 117 ⟨.other, 1, 8, .nilFunc⟩) (.leaf 119 ⟨.other, 1, 8, .nilFunc⟩))) (.node 120 (.leaf 120 ⟨.other, 1, 8, .nilFunc⟩) (.node 121 (.leaf 121 ⟨.ptr, 1, 8, .pointer none⟩) (.leaf 122 ⟨.struct [(0, 1), (1, 1)], 2, 32, .agg #[.pointer none, .slice none 0 0]⟩)))))) (.node 134 (.node 128 (.node 124 (.node 123 (.leaf 123 ⟨.struct [(0, 1), (1, 1)], 2, 32, .agg #[.pointer none, .slice none 0 0]⟩) (.leaf 124 ⟨.other, 1, 8, .nilFunc⟩)) (.node 125 (.leaf 125 ⟨.other, 1, 16, .nilIface⟩) (.node 126 (.leaf 126 ⟨.other, 1, 16, .nilIface⟩) (.leaf 128 ⟨.other, 1, 8, .nilFunc⟩)))) (.node 131 (.node 129 (.leaf 129 ⟨.other, 1, 8, .nilFunc⟩) (.node 130 (.leaf 130 ⟨.other, 1, 8, .nilFunc⟩) (.leaf 131 ⟨.other, 1, 8, .nilFunc⟩))) (.node 132 (.leaf 132 ⟨.other, 1, 8, .nilFunc⟩) (.node 133 (.leaf 133 ⟨.other, 1, 8, .nilFunc⟩) (.leaf 134 ⟨.other, 1, 8, .nilFunc⟩))))) (.node 140 (.node 137 (.node 135 (.leaf 135 ⟨.other, 1, 8, .nilFunc⟩) (.leaf 137 ⟨.other, 1, 8, .nilFunc⟩)) (.node 138 (.leaf 138 ⟨.other, 1, 8, .nilFunc⟩) (.node 139 (.leaf 139 ⟨.other, 1, 8, .nilFunc⟩) (.leaf 140 ⟨.int .u64, 1, 8, .int .u64 0⟩)))) (.node 143 (.node 141 (.leaf 141 ⟨.other, 1, 8, .nilFunc⟩) (.node 142 (.leaf 142 ⟨.other, 1, 8, .nilFunc⟩) (.leaf 143 ⟨.other, 1, 8, .nilFunc⟩))) (.node 144 (.leaf 144 ⟨.other, 1, 8, .nilFunc⟩) (.node 145 (.leaf 145 ⟨.other, 1, 8, .nilFunc⟩) (.leaf 146 ⟨.struct [(0, 1), (1, 1)], 2, 16, .agg #[.nilFunc, .nilFunc]⟩))))))) (.node 171 (.node 159 (.node 152 (.node 148 (.node 147 (.leaf 147 ⟨.struct [(0, 1), (1, 1)], 2, 16, .agg #[.nilFunc, .nilFunc]⟩) (.leaf 148 ⟨.other, 1, 8, .nilFunc⟩)) (.node 149 (.leaf 149 ⟨.struct [(0, 1)], 1, 8, .agg #[.int .i64 0]⟩) (.node 150 (.leaf 150 ⟨.struct [(0, 1)], 1, 8, .agg #[.int .i64 0]⟩) (.leaf 152 ⟨.slice 23, 1, 24, .slice none 0 0⟩)))) (.node 155 (.node 153 (.leaf 153 ⟨.other, 1, 8, .nilFunc⟩) (.node 154 (.leaf 154 ⟨.other, 1, 8, .nilFunc⟩) (.leaf 155 ⟨.other, 1, 8, .nilFunc⟩))) (.node 157 (.leaf 157 ⟨.other, 1, 8, .nilFunc⟩) (.node 158 (.leaf 158 ⟨.other, 1, 8, .nilFunc⟩) (.leaf 159 ⟨.ptr, 1, 8, .pointer none⟩))))) (.node 165 (.node 162 (.node 161 (.leaf 161 ⟨.other, 1, 8, .nilFunc⟩) (.leaf 162 ⟨.other, 1, 8, .nilFunc⟩)) (.node 163 (.leaf 163 ⟨.other, 1, 8, .nilFunc⟩) (.node 164 (.leaf 164 ⟨.other, 1, 8, .nilFunc⟩) (.leaf 165 ⟨.other, 1, 8, .nilFunc⟩)))) (.node 168 (.node 166 (.leaf 166 ⟨.other, 1, 8, .nilFunc⟩) (.node 167 (.leaf 167 ⟨.other, 1, 8, .nilFunc⟩) (.leaf 168 ⟨.other, 1, 8, .nilFunc⟩))) (.node 169 (.leaf 169 ⟨.other, 1, 8, .nilFunc⟩) (.node 170 (.leaf 170 ⟨.other, 1, 8, .nilFunc⟩) (.leaf 171 ⟨.other, 1, 8, .nilFunc⟩)))))) (.node 189 (.node 177 (.node 173 (.node 172 (.leaf 172 ⟨.other, 1, 8, .nilFunc⟩) (.leaf 173 ⟨.other, 1, 8, .nilFunc⟩)) (.node 175 (.leaf 175 ⟨.other, 1, 8, .nilFunc⟩) (.node 176 (.leaf 176 ⟨.other, 1, 8, .nilFunc⟩) (.leaf 177 ⟨.other, 1, 8, .nilFunc⟩)))) (.node 181 (.node 179 (.leaf 179 ⟨.other, 1, 8, .nilFunc⟩) (.node 180 (.leaf 180 ⟨.slice 195, 1, 24, .slice none 0 0⟩) (.leaf 181 ⟨.other, 1, 8, .nilFunc⟩))) (.node 182 (.leaf 182 ⟨.other, 1, 8, .nilFunc⟩) (.node 183 (.leaf 183 ⟨.other, 1, 8, .nilFunc⟩) (.leaf 189 ⟨.other, 1, 8, .nilFunc⟩))))) (.node 200 (.node 193 (.node 192 (.leaf 192 ⟨.array 3 21, 3, 12, .agg #[.int .i32 0, .int .i32 0, .int .i32 0]⟩) (.leaf 193 ⟨.array 3 21, 3, 12, .agg #[.int .i32 0, .int .i32 0, .int .i32 0]⟩)) (.node 195 (.leaf 195 ⟨.struct [(0, 1), (1, 1), (2, 3)], 5, 20, .agg #[.int .u32 0, .int .u32 0, .int .i32 0, .int .i32 0, .int .i32 0]⟩) (.node 198 (.leaf 198 ⟨.array 0 16, 0, 0, .agg #[]⟩) (.leaf 200 ⟨.struct [(0, 0)], 0, 0, .agg #[]⟩)))) (.node 203 (.node 201 (.leaf 201 ⟨.int .u8, 1, 1, .int .u8 0⟩) (.node 202 (.leaf 202 ⟨.int .u8, 1, 1, .int .u8 0⟩) (.leaf 203 ⟨.other, 1, 8, .nilFunc⟩))) (.node 204 (.leaf 204 ⟨.int .i32, 1, 4, .int .i32 0⟩) (.node 205 (.leaf 205 ⟨.int .i32, 1, 4, .int .i32 0⟩) (.leaf 207 ⟨.struct [(0, 1), (1, 1), (2, 1), (3, 1), (4, 1), (5, 1), (6, 1), (7, 1), (8, 1), (9, 1), (10, 1)], 11, 48, .agg #[.int .u64 0, .int .u64 0, .int .u32 0, .int .u8 0, .int .u8 0, .int .u8 0, .int .u8 0, .nilFunc, .pointer none, .int .i32 0, .int .i32 0]⟩)))))))))
theorem tysOk : tys.All Tryz.prog := ⟨⟨⟨⟨⟨⟨⟨te1, te2⟩, ⟨te3, ⟨te4, te5⟩⟩⟩, ⟨⟨te6, te7⟩, ⟨te8, ⟨te9, te10⟩⟩⟩⟩, ⟨⟨⟨te11, te12⟩, ⟨te13, ⟨te14, te15⟩⟩⟩, ⟨⟨te16, ⟨te17, te18⟩⟩, ⟨te19, ⟨te20, te21⟩⟩⟩⟩⟩, ⟨⟨⟨⟨te22, te23⟩, ⟨te24, ⟨te25, te26⟩⟩⟩, ⟨⟨te27, ⟨te28, te29⟩⟩, ⟨te30, ⟨te31, te33⟩⟩⟩⟩, ⟨⟨⟨te35, te36⟩, ⟨te37, ⟨te38, te40⟩⟩⟩, ⟨⟨te41, ⟨te43, te44⟩⟩, ⟨te45, ⟨te46, te47⟩⟩⟩⟩⟩⟩, ⟨⟨⟨⟨⟨te48, te50⟩, ⟨te52, ⟨te53, te54⟩⟩⟩, ⟨⟨te55, ⟨te56, te57⟩⟩, ⟨te58, ⟨te59, te60⟩⟩⟩⟩, ⟨⟨⟨te61, te62⟩, ⟨te63, ⟨te64, te65⟩⟩⟩, ⟨⟨te66, ⟨te67, te69⟩⟩, ⟨te70, ⟨te71, te72⟩⟩⟩⟩⟩, ⟨⟨⟨⟨te73, te75⟩, ⟨te76, ⟨te78, te79⟩⟩⟩, ⟨⟨te80, ⟨te81, te82⟩⟩, ⟨te83, ⟨te84, te85⟩⟩⟩⟩, ⟨⟨⟨te86, te87⟩, ⟨te88, ⟨te89, te90⟩⟩⟩, ⟨⟨te91, ⟨te94, te95⟩⟩, ⟨te96, ⟨te97, te98⟩⟩⟩⟩⟩⟩⟩, ⟨⟨⟨⟨⟨⟨te99, te100⟩, ⟨te101, ⟨te102, te103⟩⟩⟩, ⟨⟨te104, ⟨te105, te106⟩⟩, ⟨te107, ⟨te108, te109⟩⟩⟩⟩, ⟨⟨⟨te111, te112⟩, ⟨te113, ⟨te114, te115⟩⟩⟩, ⟨⟨te116, ⟨te117, te119⟩⟩, ⟨te120, ⟨te121, te122⟩⟩⟩⟩⟩, ⟨⟨⟨⟨te123, te124⟩, ⟨te125, ⟨te126, te128⟩⟩⟩, ⟨⟨te129, ⟨te130, te131⟩⟩, ⟨te132, ⟨te133, te134⟩⟩⟩⟩, ⟨⟨⟨te135, te137⟩, ⟨te138, ⟨te139, te140⟩⟩⟩, ⟨⟨te141, ⟨te142, te143⟩⟩, ⟨te144, ⟨te145, te146⟩⟩⟩⟩⟩⟩, ⟨⟨⟨⟨⟨te147, te148⟩, ⟨te149, ⟨te150, te152⟩⟩⟩, ⟨⟨te153, ⟨te154, te155⟩⟩, ⟨te157, ⟨te158, te159⟩⟩⟩⟩, ⟨⟨⟨te161, te162⟩, ⟨te163, ⟨te164, te165⟩⟩⟩, ⟨⟨te166, ⟨te167, te168⟩⟩, ⟨te169, ⟨te170, te171⟩⟩⟩⟩⟩, ⟨⟨⟨⟨te172, te173⟩, ⟨te175, ⟨te176, te177⟩⟩⟩, ⟨⟨te179, ⟨te180, te181⟩⟩, ⟨te182, ⟨te183, te189⟩⟩⟩⟩, ⟨⟨⟨te192, te193⟩, ⟨te195, ⟨te198, te200⟩⟩⟩, ⟨⟨te201, ⟨te202, te203⟩⟩, ⟨te204, ⟨te205, te207⟩⟩⟩⟩⟩⟩⟩⟩
noncomputable def C : Ctx := ⟨Tryz.prog, [], tys.get, fun _ _ h => Tr.get_ok tysOk h⟩
theorem mixC : C.P.follows .mixedOrders = true := by kernel_rfl
abbrev ZbY : FuncId := 3
theorem ZbL : C.P.funcs[3]? = some Tryz.f3 := Tryz.func3
theorem ZdO : Enters C.P 3 := Enters.mk ZbL (by kernel_rfl) (by kernel_rfl)
theorem ZdP : Tryz.f3.ntmps = 182 := Tryz.ntmps3
theorem ZdQ : Tryz.f3.results = #[ResultVar.tmp 6] := Tryz.results3
abbrev Zh9 : FuncId := 4
theorem Zdw : C.P.funcs[4]? = some Tryz.f4 := Tryz.func4
theorem Zhb : Enters C.P 4 := Enters.mk Zdw (by kernel_rfl) (by kernel_rfl)
theorem Zhc : Tryz.f4.ntmps = 73 := Tryz.ntmps4
theorem Zhd : Tryz.f4.results = #[ResultVar.tmp 0] := Tryz.results4
abbrev ZiY : FuncId := 5
theorem Zd7 : C.P.funcs[5]? = some Tryz.f5 := Tryz.func5
theorem Zia : Enters C.P 5 := Enters.mk Zd7 (by kernel_rfl) (by kernel_rfl)
theorem Zib : Tryz.f5.ntmps = 28 := Tryz.ntmps5
theorem Zic : Tryz.f5.results = #[ResultVar.tmp 4] := Tryz.results5
abbrev Zdx : FuncId := 6
theorem ZcW : C.P.funcs[6]? = some Tryz.f6 := Tryz.func6
theorem Zf9 : Enters C.P 6 := Enters.mk ZcW (by kernel_rfl) (by kernel_rfl)
theorem Zga : Tryz.f6.ntmps = 44 := Tryz.ntmps6
theorem Zgb : Tryz.f6.results = #[ResultVar.tmp 2, ResultVar.tmp 3] := Tryz.results6
abbrev Zb6 : FuncId := 7
theorem ZcX : C.P.funcs[7]? = some Tryz.f7 := Tryz.func7
theorem Zgc : Enters C.P 7 := Enters.mk ZcX (by kernel_rfl) (by kernel_rfl)
theorem Zgd : Tryz.f7.ntmps = 50 := Tryz.ntmps7
theorem Zge : Tryz.f7.results = #[ResultVar.cell 2 25, ResultVar.cell 3 31, ResultVar.cell 4 3] := Tryz.results7
abbrev Ze3 : FuncId := 8
theorem Zd8 : C.P.funcs[8]? = some Tryz.f8 := Tryz.func8
theorem Zid : Enters C.P 8 := Enters.mk Zd8 (by kernel_rfl) (by kernel_rfl)
theorem Zie : Tryz.f8.ntmps = 33 := Tryz.ntmps8
theorem Zif : Tryz.f8.results = #[ResultVar.tmp 4] := Tryz.results8
abbrev Zd9 : FuncId := 9
theorem Zdy : C.P.funcs[9]? = some Tryz.f9 := Tryz.func9
theorem Zhe : Enters C.P 9 := Enters.mk Zdy (by kernel_rfl) (by kernel_rfl)
theorem Zhf : Tryz.f9.ntmps = 66 := Tryz.ntmps9
theorem Zhg : Tryz.f9.results = #[ResultVar.cell 2 38, ResultVar.tmp 3] := Tryz.results9
abbrev ZcY : FuncId := 10
theorem Zea : C.P.funcs[10]? = some Tryz.f10 := Tryz.func10
theorem Zig : Enters C.P 10 := Enters.mk Zea (by kernel_rfl) (by kernel_rfl)
theorem Zih : Tryz.f10.ntmps = 14 := Tryz.ntmps10
theorem Zii : Tryz.f10.results = #[ResultVar.cell 6 27, ResultVar.tmp 7] := Tryz.results10
abbrev Zeb : FuncId := 11
theorem Zdz : C.P.funcs[11]? = some Tryz.f11 := Tryz.func11
theorem Zhh : Enters C.P 11 := Enters.mk Zdz (by kernel_rfl) (by kernel_rfl)
theorem Zhi : Tryz.f11.ntmps = 38 := Tryz.ntmps11
theorem Zhj : Tryz.f11.results = #[ResultVar.tmp 4] := Tryz.results11
abbrev Zij : FuncId := 12
theorem ZdA : C.P.funcs[12]? = some Tryz.f12 := Tryz.func12
theorem Zhk : Enters C.P 12 := Enters.mk ZdA (by kernel_rfl) (by kernel_rfl)
theorem Zhl : Tryz.f12.ntmps = 23 := Tryz.ntmps12
theorem Zhm : Tryz.f12.results = #[ResultVar.tmp 2] := Tryz.results12
abbrev ZcZ : FuncId := 13
theorem Zec : C.P.funcs[13]? = some Tryz.f13 := Tryz.func13
theorem Zik : Enters C.P 13 := Enters.mk Zec (by kernel_rfl) (by kernel_rfl)
theorem Zil : Tryz.f13.ntmps = 32 := Tryz.ntmps13
theorem Zim : Tryz.f13.results = #[ResultVar.tmp 6, ResultVar.tmp 7] := Tryz.results13
abbrev Zgf : FuncId := 14
theorem Zcr : C.P.funcs[14]? = some Tryz.f14 := Tryz.func14
theorem Zfi : Enters C.P 14 := Enters.mk Zcr (by kernel_rfl) (by kernel_rfl)
theorem Zfj : Tryz.f14.ntmps = 14 := Tryz.ntmps14
theorem Zfk : Tryz.f14.results = #[ResultVar.cell 2 27] := Tryz.results14
abbrev Zgg : FuncId := 15
theorem Ze4 : C.P.funcs[15]? = some Tryz.f15 := Tryz.func15
theorem ZiZ : Enters C.P 15 := Enters.mk Ze4 (by kernel_rfl) (by kernel_rfl)
theorem Zi0 : Tryz.f15.ntmps = 39 := Tryz.ntmps15
theorem Zi1 : Tryz.f15.results = #[ResultVar.cell 6 27, ResultVar.cell 7 27, ResultVar.cell 8 31] := Tryz.results15
abbrev Zgh : FuncId := 16
theorem Ze5 : C.P.funcs[16]? = some Tryz.f16 := Tryz.func16
theorem Zi2 : Enters C.P 16 := Enters.mk Ze5 (by kernel_rfl) (by kernel_rfl)
theorem Zi3 : Tryz.f16.ntmps = 25 := Tryz.ntmps16
theorem Zi4 : Tryz.f16.results = #[ResultVar.cell 4 27, ResultVar.cell 5 27, ResultVar.cell 6 27, ResultVar.cell 7 31] := Tryz.results16
abbrev Zez : FuncId := 17
theorem Zgi : C.P.funcs[17]? = some Tryz.f17 := Tryz.func17
theorem Zj7 : Enters C.P 17 := Enters.mk Zgi (by kernel_rfl) (by kernel_rfl)
theorem Zj8 : Tryz.f17.ntmps = 17 := Tryz.ntmps17
theorem Zj9 : Tryz.f17.results = #[ResultVar.tmp 4] := Tryz.results17
abbrev Zin : FuncId := 18
theorem ZdB : C.P.funcs[18]? = some Tryz.f18 := Tryz.func18
theorem Zhn : Enters C.P 18 := Enters.mk ZdB (by kernel_rfl) (by kernel_rfl)
theorem Zho : Tryz.f18.ntmps = 17 := Tryz.ntmps18
theorem Zhp : Tryz.f18.results = #[ResultVar.cell 2 27] := Tryz.results18
abbrev Zio : FuncId := 19
theorem ZdC : C.P.funcs[19]? = some Tryz.f19 := Tryz.func19
theorem Zhq : Enters C.P 19 := Enters.mk ZdC (by kernel_rfl) (by kernel_rfl)
theorem Zhr : Tryz.f19.ntmps = 17 := Tryz.ntmps19
theorem Zhs : Tryz.f19.results = #[ResultVar.tmp 2] := Tryz.results19
abbrev Zfl : FuncId := 20
theorem Zb7 : C.P.funcs[20]? = some Tryz.f20 := Tryz.func20
theorem ZeA : Enters C.P 20 := Enters.mk Zb7 (by kernel_rfl) (by kernel_rfl)
theorem ZeB : Tryz.f20.ntmps = 44 := Tryz.ntmps20
theorem ZeC : Tryz.f20.results = #[ResultVar.tmp 2] := Tryz.results20
abbrev Zi5 : FuncId := 21
theorem Zed : C.P.funcs[21]? = some Tryz.f21 := Tryz.func21
theorem Zip : Enters C.P 21 := Enters.mk Zed (by kernel_rfl) (by kernel_rfl)
theorem Ziq : Tryz.f21.ntmps = 23 := Tryz.ntmps21
theorem Zir : Tryz.f21.results = #[ResultVar.tmp 4] := Tryz.results21
abbrev Zbq : FuncId := 22
theorem ZbC : C.P.funcs[22]? = some Tryz.f22 := Tryz.func22
theorem Zck : Enters C.P 22 := Enters.mk ZbC (by kernel_rfl) (by kernel_rfl)
theorem Zcl : Tryz.f22.ntmps = 29 := Tryz.ntmps22
theorem Zcm : Tryz.f22.results = #[] := Tryz.results22
abbrev Zi6 : FuncId := 23
theorem Zee : C.P.funcs[23]? = some Tryz.f23 := Tryz.func23
theorem Zis : Enters C.P 23 := Enters.mk Zee (by kernel_rfl) (by kernel_rfl)
theorem Zit : Tryz.f23.ntmps = 9 := Tryz.ntmps23
theorem Ziu : Tryz.f23.results = #[] := Tryz.results23
abbrev ZaB : FuncId := 24
theorem ZaP : C.P.funcs[24]? = some Tryz.f24 := Tryz.func24
theorem Zbx : Enters C.P 24 := Enters.mk ZaP (by kernel_rfl) (by kernel_rfl)
theorem Zby : Tryz.f24.ntmps = 36 := Tryz.ntmps24
theorem Zbz : Tryz.f24.results = #[ResultVar.tmp 4] := Tryz.results24
abbrev Zc0 : FuncId := 25
theorem Zbj : C.P.funcs[25]? = some Tryz.f25 := Tryz.func25
theorem ZcJ : Enters C.P 25 := Enters.mk Zbj (by kernel_rfl) (by kernel_rfl)
theorem ZcK : Tryz.f25.ntmps = 87 := Tryz.ntmps25
theorem ZcL : Tryz.f25.results = #[ResultVar.tmp 8] := Tryz.results25
abbrev Zc1 : FuncId := 26
theorem Zbk : C.P.funcs[26]? = some Tryz.f26 := Tryz.func26
theorem ZcM : Enters C.P 26 := Enters.mk Zbk (by kernel_rfl) (by kernel_rfl)
theorem ZcN : Tryz.f26.ntmps = 18 := Tryz.ntmps26
theorem ZcO : Tryz.f26.results = #[ResultVar.tmp 2] := Tryz.results26
abbrev Zef : FuncId := 27
theorem ZbM : C.P.funcs[27]? = some Tryz.f27 := Tryz.func27
theorem ZdR : Enters C.P 27 := Enters.mk ZbM (by kernel_rfl) (by kernel_rfl)
theorem ZdS : Tryz.f27.ntmps = 14 := Tryz.ntmps27
theorem ZdT : Tryz.f27.results = #[] := Tryz.results27
abbrev ZdD : FuncId := 28
theorem Zc2 : C.P.funcs[28]? = some Tryz.f28 := Tryz.func28
theorem Zgj : Enters C.P 28 := Enters.mk Zc2 (by kernel_rfl) (by kernel_rfl)
theorem Zgk : Tryz.f28.ntmps = 65 := Tryz.ntmps28
theorem Zgl : Tryz.f28.results = #[ResultVar.tmp 4] := Tryz.results28
abbrev ZkF : FuncId := 29
theorem Zi7 : C.P.funcs[29]? = some Tryz.f29 := Tryz.func29
theorem Zlx : Enters C.P 29 := Enters.mk Zi7 (by kernel_rfl) (by kernel_rfl)
theorem Zly : Tryz.f29.ntmps = 14 := Tryz.ntmps29
theorem Zlz : Tryz.f29.results = #[ResultVar.cell 4 27] := Tryz.results29
abbrev ZkQ : FuncId := 30
theorem Zgm : C.P.funcs[30]? = some Tryz.f30 := Tryz.func30
theorem Zka : Enters C.P 30 := Enters.mk Zgm (by kernel_rfl) (by kernel_rfl)
theorem Zkb : Tryz.f30.ntmps = 9 := Tryz.ntmps30
theorem Zkc : Tryz.f30.results = #[ResultVar.tmp 2, ResultVar.tmp 3] := Tryz.results30
abbrev Zgn : FuncId := 31
theorem Zcs : C.P.funcs[31]? = some Tryz.f31 := Tryz.func31
theorem Zfm : Enters C.P 31 := Enters.mk Zcs (by kernel_rfl) (by kernel_rfl)
theorem Zfn : Tryz.f31.ntmps = 10 := Tryz.ntmps31
theorem Zfo : Tryz.f31.results = #[ResultVar.cell 4 27, ResultVar.cell 5 31] := Tryz.results31
abbrev ZdE : FuncId := 32
theorem Zc3 : C.P.funcs[32]? = some Tryz.f32 := Tryz.func32
theorem Zgo : Enters C.P 32 := Enters.mk Zc3 (by kernel_rfl) (by kernel_rfl)
theorem Zgp : Tryz.f32.ntmps = 49 := Tryz.ntmps32
theorem Zgq : Tryz.f32.results = #[ResultVar.cell 3 27] := Tryz.results32
abbrev ZdF : FuncId := 33
theorem Zc4 : C.P.funcs[33]? = some Tryz.f33 := Tryz.func33
theorem Zgr : Enters C.P 33 := Enters.mk Zc4 (by kernel_rfl) (by kernel_rfl)
theorem Zgs : Tryz.f33.ntmps = 13 := Tryz.ntmps33
theorem Zgt : Tryz.f33.results = #[ResultVar.cell 4 27] := Tryz.results33
abbrev Zay : FuncId := 34
theorem Zeg : C.P.funcs[34]? = some Tryz.f34 := Tryz.func34
theorem Ziv : Enters C.P 34 := Enters.mk Zeg (by kernel_rfl) (by kernel_rfl)
theorem Ziw : Tryz.f34.ntmps = 10 := Tryz.ntmps34
theorem Zix : Tryz.f34.results = #[ResultVar.tmp 4] := Tryz.results34
abbrev Zi8 : FuncId := 35
theorem ZhS : C.P.funcs[35]? = some Tryz.f35 := Tryz.func35
theorem ZkR : Enters C.P 35 := Enters.mk ZhS (by kernel_rfl) (by kernel_rfl)
theorem ZkS : Tryz.f35.ntmps = 22 := Tryz.ntmps35
theorem ZkT : Tryz.f35.results = #[ResultVar.tmp 4, ResultVar.cell 5 31] := Tryz.results35
abbrev ZdG : FuncId := 36
theorem Zc5 : C.P.funcs[36]? = some Tryz.f36 := Tryz.func36
theorem Zgu : Enters C.P 36 := Enters.mk Zc5 (by kernel_rfl) (by kernel_rfl)
theorem Zgv : Tryz.f36.ntmps = 69 := Tryz.ntmps36
theorem Zgw : Tryz.f36.results = #[ResultVar.cell 6 27, ResultVar.cell 7 27] := Tryz.results36
abbrev Ziy : FuncId := 37
theorem ZdH : C.P.funcs[37]? = some Tryz.f37 := Tryz.func37
theorem Zht : Enters C.P 37 := Enters.mk ZdH (by kernel_rfl) (by kernel_rfl)
theorem Zhu : Tryz.f37.ntmps = 7 := Tryz.ntmps37
theorem Zhv : Tryz.f37.results = #[ResultVar.tmp 0] := Tryz.results37
abbrev Ziz : FuncId := 38
theorem ZdI : C.P.funcs[38]? = some Tryz.f38 := Tryz.func38
theorem Zhw : Enters C.P 38 := Enters.mk ZdI (by kernel_rfl) (by kernel_rfl)
theorem Zhx : Tryz.f38.ntmps = 14 := Tryz.ntmps38
theorem Zhy : Tryz.f38.results = #[ResultVar.tmp 4] := Tryz.results38
abbrev Zgx : FuncId := 39
theorem Ze6 : C.P.funcs[39]? = some Tryz.f39 := Tryz.func39
theorem Zi9 : Enters C.P 39 := Enters.mk Ze6 (by kernel_rfl) (by kernel_rfl)
theorem Zja : Tryz.f39.ntmps = 51 := Tryz.ntmps39
theorem Zjb : Tryz.f39.results = #[ResultVar.cell 4 27] := Tryz.results39
abbrev Zgy : FuncId := 40
theorem Zct : C.P.funcs[40]? = some Tryz.f40 := Tryz.func40
theorem Zfp : Enters C.P 40 := Enters.mk Zct (by kernel_rfl) (by kernel_rfl)
theorem Zfq : Tryz.f40.ntmps = 9 := Tryz.ntmps40
theorem Zfr : Tryz.f40.results = #[ResultVar.cell 2 27] := Tryz.results40
abbrev Zgz : FuncId := 41
theorem Ze7 : C.P.funcs[41]? = some Tryz.f41 := Tryz.func41
theorem Zjc : Enters C.P 41 := Enters.mk Ze7 (by kernel_rfl) (by kernel_rfl)
theorem Zjd : Tryz.f41.ntmps = 9 := Tryz.ntmps41
theorem Zje : Tryz.f41.results = #[ResultVar.cell 2 27] := Tryz.results41
abbrev ZeD : FuncId := 42
theorem Zeh : C.P.funcs[42]? = some Tryz.f42 := Tryz.func42
theorem Zei : Enters C.P 42 := Enters.mk Zeh (by kernel_rfl) (by kernel_rfl)
abbrev Zhz : FuncId := 43
theorem Zc6 : C.P.funcs[43]? = some Tryz.f43 := Tryz.func43
theorem ZgA : Enters C.P 43 := Enters.mk Zc6 (by kernel_rfl) (by kernel_rfl)
theorem ZgB : Tryz.f43.ntmps = 5 := Tryz.ntmps43
theorem ZgC : Tryz.f43.results = #[ResultVar.tmp 2] := Tryz.results43
abbrev ZaV : FuncId := 44
theorem ZbN : C.P.funcs[44]? = some Tryz.f44 := Tryz.func44
theorem Zc7 : Enters C.P 44 := Enters.mk ZbN (by kernel_rfl) (by kernel_rfl)
theorem Zc8 : Tryz.f44.ntmps = 15 := Tryz.ntmps44
theorem Zc9 : Tryz.f44.results = #[] := Tryz.results44
abbrev Zjf : FuncId := 45
theorem Zej : C.P.funcs[45]? = some Tryz.f45 := Tryz.func45
theorem ZiA : Enters C.P 45 := Enters.mk Zej (by kernel_rfl) (by kernel_rfl)
theorem ZiB : Tryz.f45.ntmps = 6 := Tryz.ntmps45
theorem ZiC : Tryz.f45.results = #[] := Tryz.results45
abbrev Zkd : FuncId := 46
theorem Ze8 : C.P.funcs[46]? = some Tryz.f46 := Tryz.func46
theorem Zjg : Enters C.P 46 := Enters.mk Ze8 (by kernel_rfl) (by kernel_rfl)
theorem Zjh : Tryz.f46.ntmps = 83 := Tryz.ntmps46
theorem Zji : Tryz.f46.results = #[ResultVar.cell 4 27, ResultVar.cell 5 27, ResultVar.cell 6 27] := Tryz.results46
abbrev ZkU : FuncId := 47
theorem ZgD : C.P.funcs[47]? = some Tryz.f47 := Tryz.func47
theorem Zke : Enters C.P 47 := Enters.mk ZgD (by kernel_rfl) (by kernel_rfl)
theorem Zkf : Tryz.f47.ntmps = 26 := Tryz.ntmps47
theorem Zkg : Tryz.f47.results = #[ResultVar.tmp 4] := Tryz.results47
abbrev Zjj : FuncId := 48
theorem ZhT : C.P.funcs[48]? = some Tryz.f48 := Tryz.func48
theorem ZkV : Enters C.P 48 := Enters.mk ZhT (by kernel_rfl) (by kernel_rfl)
theorem ZkW : Tryz.f48.ntmps = 36 := Tryz.ntmps48
theorem ZkX : Tryz.f48.results = #[ResultVar.tmp 4] := Tryz.results48
abbrev Zmk : FuncId := 49
theorem Zjk : C.P.funcs[49]? = some Tryz.f49 := Tryz.func49
theorem ZlA : Enters C.P 49 := Enters.mk Zjk (by kernel_rfl) (by kernel_rfl)
theorem ZlB : Tryz.f49.ntmps = 10 := Tryz.ntmps49
theorem ZlC : Tryz.f49.results = #[ResultVar.tmp 2] := Tryz.results49
abbrev ZgE : FuncId := 50
theorem Ze9 : C.P.funcs[50]? = some Tryz.f50 := Tryz.func50
theorem Zjl : Enters C.P 50 := Enters.mk Ze9 (by kernel_rfl) (by kernel_rfl)
theorem Zjm : Tryz.f50.ntmps = 20 := Tryz.ntmps50
theorem Zjn : Tryz.f50.results = #[ResultVar.tmp 2] := Tryz.results50
abbrev ZhA : FuncId := 51
theorem Zda : C.P.funcs[51]? = some Tryz.f51 := Tryz.func51
theorem ZgF : Enters C.P 51 := Enters.mk Zda (by kernel_rfl) (by kernel_rfl)
theorem ZgG : Tryz.f51.ntmps = 6 := Tryz.ntmps51
theorem ZgH : Tryz.f51.results = #[ResultVar.tmp 4] := Tryz.results51
abbrev ZbX : FuncId := 52
theorem ZaF : C.P.funcs[52]? = some Tryz.f52 := Tryz.func52
theorem ZbO : Enters C.P 52 := Enters.mk ZaF (by kernel_rfl) (by kernel_rfl)
theorem ZbP : Tryz.f52.ntmps = 28 := Tryz.ntmps52
theorem ZbQ : Tryz.f52.results = #[] := Tryz.results52
abbrev ZdU : FuncId := 53
theorem ZbA : C.P.funcs[53]? = some Tryz.f53 := Tryz.func53
theorem Zdp : Enters C.P 53 := Enters.mk ZbA (by kernel_rfl) (by kernel_rfl)
theorem Zdq : Tryz.f53.ntmps = 8 := Tryz.ntmps53
theorem Zdr : Tryz.f53.results = #[ResultVar.tmp 4] := Tryz.results53
abbrev ZiD : FuncId := 54
theorem ZdJ : C.P.funcs[54]? = some Tryz.f54 := Tryz.func54
theorem ZhB : Enters C.P 54 := Enters.mk ZdJ (by kernel_rfl) (by kernel_rfl)
theorem ZhC : Tryz.f54.ntmps = 35 := Tryz.ntmps54
theorem ZhD : Tryz.f54.results = #[ResultVar.tmp 2] := Tryz.results54
abbrev ZdV : FuncId := 55
theorem ZbB : C.P.funcs[55]? = some Tryz.f55 := Tryz.func55
theorem Zds : Enters C.P 55 := Enters.mk ZbB (by kernel_rfl) (by kernel_rfl)
theorem Zdt : Tryz.f55.ntmps = 8 := Tryz.ntmps55
theorem Zdu : Tryz.f55.results = #[] := Tryz.results55
abbrev ZiE : FuncId := 56
theorem ZdK : C.P.funcs[56]? = some Tryz.f56 := Tryz.func56
theorem ZhE : Enters C.P 56 := Enters.mk ZdK (by kernel_rfl) (by kernel_rfl)
theorem ZhF : Tryz.f56.ntmps = 22 := Tryz.ntmps56
theorem ZhG : Tryz.f56.results = #[ResultVar.tmp 2, ResultVar.tmp 3] := Tryz.results56
abbrev ZlD : FuncId := 57
theorem ZhU : C.P.funcs[57]? = some Tryz.f57 := Tryz.func57
theorem ZkY : Enters C.P 57 := Enters.mk ZhU (by kernel_rfl) (by kernel_rfl)
theorem ZkZ : Tryz.f57.ntmps = 12 := Tryz.ntmps57
theorem Zk0 : Tryz.f57.results = #[ResultVar.tmp 4, ResultVar.tmp 5] := Tryz.results57
abbrev ZlE : FuncId := 58
theorem ZhV : C.P.funcs[58]? = some Tryz.f58 := Tryz.func58
theorem Zk1 : Enters C.P 58 := Enters.mk ZhV (by kernel_rfl) (by kernel_rfl)
theorem Zk2 : Tryz.f58.ntmps = 12 := Tryz.ntmps58
theorem Zk3 : Tryz.f58.results = #[ResultVar.tmp 4, ResultVar.tmp 5] := Tryz.results58
abbrev ZhW : FuncId := 59
theorem ZgI : C.P.funcs[59]? = some Tryz.f59 := Tryz.func59
theorem Zkh : Enters C.P 59 := Enters.mk ZgI (by kernel_rfl) (by kernel_rfl)
theorem Zki : Tryz.f59.ntmps = 23 := Tryz.ntmps59
theorem Zkj : Tryz.f59.results = #[ResultVar.tmp 2] := Tryz.results59
abbrev Zfs : FuncId := 60
theorem Zb8 : C.P.funcs[60]? = some Tryz.f60 := Tryz.func60
theorem ZeE : Enters C.P 60 := Enters.mk Zb8 (by kernel_rfl) (by kernel_rfl)
theorem ZeF : Tryz.f60.ntmps = 18 := Tryz.ntmps60
theorem ZeG : Tryz.f60.results = #[ResultVar.tmp 2] := Tryz.results60
abbrev Zaz : FuncId := 61
theorem Zbc : C.P.funcs[61]? = some Tryz.f61 := Tryz.func61
theorem ZbD : Enters C.P 61 := Enters.mk Zbc (by kernel_rfl) (by kernel_rfl)
theorem ZbE : Tryz.f61.ntmps = 20 := Tryz.ntmps61
theorem ZbF : Tryz.f61.results = #[] := Tryz.results61
abbrev Zkk : FuncId := 62
theorem Zfa : C.P.funcs[62]? = some Tryz.f62 := Tryz.func62
theorem Zjo : Enters C.P 62 := Enters.mk Zfa (by kernel_rfl) (by kernel_rfl)
theorem Zjp : Tryz.f62.ntmps = 6 := Tryz.ntmps62
theorem Zjq : Tryz.f62.results = #[] := Tryz.results62
abbrev Zk4 : FuncId := 63
theorem ZgJ : C.P.funcs[63]? = some Tryz.f63 := Tryz.func63
theorem Zkl : Enters C.P 63 := Enters.mk ZgJ (by kernel_rfl) (by kernel_rfl)
theorem Zkm : Tryz.f63.ntmps = 9 := Tryz.ntmps63
theorem Zkn : Tryz.f63.results = #[] := Tryz.results63
abbrev Zko : FuncId := 64
theorem Zfb : C.P.funcs[64]? = some Tryz.f64 := Tryz.func64
theorem Zjr : Enters C.P 64 := Enters.mk Zfb (by kernel_rfl) (by kernel_rfl)
theorem Zjs : Tryz.f64.ntmps = 9 := Tryz.ntmps64
theorem Zjt : Tryz.f64.results = #[ResultVar.tmp 2] := Tryz.results64
abbrev ZbR : FuncId := 65
theorem Zcu : C.P.funcs[65]? = some Tryz.f65 := Tryz.func65
theorem Zft : Enters C.P 65 := Enters.mk Zcu (by kernel_rfl) (by kernel_rfl)
theorem Zfu : Tryz.f65.ntmps = 53 := Tryz.ntmps65
theorem Zfv : Tryz.f65.results = #[ResultVar.tmp 4] := Tryz.results65
abbrev Zek : FuncId := 66
theorem ZhX : C.P.funcs[66]? = some Tryz.f66 := Tryz.func66
theorem Zk5 : Enters C.P 66 := Enters.mk ZhX (by kernel_rfl) (by kernel_rfl)
theorem Zk6 : Tryz.f66.ntmps = 14 := Tryz.ntmps66
theorem Zk7 : Tryz.f66.results = #[ResultVar.tmp 4, ResultVar.tmp 5, ResultVar.tmp 6] := Tryz.results66
abbrev ZbS : FuncId := 67
theorem Zcv : C.P.funcs[67]? = some Tryz.f67 := Tryz.func67
theorem Zfw : Enters C.P 67 := Enters.mk Zcv (by kernel_rfl) (by kernel_rfl)
theorem Zfx : Tryz.f67.ntmps = 9 := Tryz.ntmps67
theorem Zfy : Tryz.f67.results = #[ResultVar.tmp 8] := Tryz.results67
abbrev ZbT : FuncId := 68
theorem Zcw : C.P.funcs[68]? = some Tryz.f68 := Tryz.func68
theorem Zfz : Enters C.P 68 := Enters.mk Zcw (by kernel_rfl) (by kernel_rfl)
theorem ZfA : Tryz.f68.ntmps = 14 := Tryz.ntmps68
theorem ZfB : Tryz.f68.results = #[ResultVar.tmp 8] := Tryz.results68
abbrev ZaG : FuncId := 69
theorem Zcx : C.P.funcs[69]? = some Tryz.f69 := Tryz.func69
theorem ZfC : Enters C.P 69 := Enters.mk Zcx (by kernel_rfl) (by kernel_rfl)
theorem ZfD : Tryz.f69.ntmps = 11 := Tryz.ntmps69
theorem ZfE : Tryz.f69.results = #[ResultVar.tmp 8] := Tryz.results69
abbrev ZbU : FuncId := 70
theorem Zcy : C.P.funcs[70]? = some Tryz.f70 := Tryz.func70
theorem ZfF : Enters C.P 70 := Enters.mk Zcy (by kernel_rfl) (by kernel_rfl)
theorem ZfG : Tryz.f70.ntmps = 41 := Tryz.ntmps70
theorem ZfH : Tryz.f70.results = #[ResultVar.tmp 8] := Tryz.results70
abbrev ZlF : FuncId := 71
theorem ZhY : C.P.funcs[71]? = some Tryz.f71 := Tryz.func71
theorem Zk8 : Enters C.P 71 := Enters.mk ZhY (by kernel_rfl) (by kernel_rfl)
theorem Zk9 : Tryz.f71.ntmps = 12 := Tryz.ntmps71
theorem Zla : Tryz.f71.results = #[ResultVar.tmp 4, ResultVar.tmp 5] := Tryz.results71
abbrev ZlG : FuncId := 72
theorem ZhZ : C.P.funcs[72]? = some Tryz.f72 := Tryz.func72
theorem Zlb : Enters C.P 72 := Enters.mk ZhZ (by kernel_rfl) (by kernel_rfl)
theorem Zlc : Tryz.f72.ntmps = 13 := Tryz.ntmps72
theorem Zld : Tryz.f72.results = #[ResultVar.tmp 4, ResultVar.cell 5 31] := Tryz.results72
abbrev Zbw : FuncId := 73
theorem ZaA : C.P.funcs[73]? = some Tryz.f73 := Tryz.func73
theorem Zbr : Enters C.P 73 := Enters.mk ZaA (by kernel_rfl) (by kernel_rfl)
theorem Zbs : Tryz.f73.ntmps = 8 := Tryz.ntmps73
theorem Zbt : Tryz.f73.results = #[ResultVar.tmp 2] := Tryz.results73
abbrev Zml : FuncId := 80
theorem Zju : C.P.funcs[80]? = some Tryz.f80 := Tryz.func80
theorem ZlH : Enters C.P 80 := Enters.mk Zju (by kernel_rfl) (by kernel_rfl)
theorem ZlI : Tryz.f80.ntmps = 10 := Tryz.ntmps80
theorem ZlJ : Tryz.f80.results = #[ResultVar.tmp 2] := Tryz.results80
abbrev ZaQ : FuncId := 81
theorem Zal : C.P.funcs[81]? = some Tryz.f81 := Tryz.func81
theorem ZaJ : Enters C.P 81 := Enters.mk Zal (by kernel_rfl) (by kernel_rfl)
theorem ZaK : Tryz.f81.ntmps = 9 := Tryz.ntmps81
theorem ZaL : Tryz.f81.results = #[ResultVar.tmp 4] := Tryz.results81
abbrev ZdL : FuncId := 82
theorem Zdb : C.P.funcs[82]? = some Tryz.f82 := Tryz.func82
theorem ZgK : Enters C.P 82 := Enters.mk Zdb (by kernel_rfl) (by kernel_rfl)
theorem ZgL : Tryz.f82.ntmps = 6 := Tryz.ntmps82
theorem ZgM : Tryz.f82.results = #[ResultVar.tmp 2] := Tryz.results82
abbrev Zjv : FuncId := 83
theorem Zel : C.P.funcs[83]? = some Tryz.f83 := Tryz.func83
theorem ZiF : Enters C.P 83 := Enters.mk Zel (by kernel_rfl) (by kernel_rfl)
theorem ZiG : Tryz.f83.ntmps = 11 := Tryz.ntmps83
theorem ZiH : Tryz.f83.results = #[ResultVar.tmp 2] := Tryz.results83
abbrev ZhH : FuncId := 84
theorem Zdc : C.P.funcs[84]? = some Tryz.f84 := Tryz.func84
theorem ZgN : Enters C.P 84 := Enters.mk Zdc (by kernel_rfl) (by kernel_rfl)
theorem ZgO : Tryz.f84.ntmps = 60 := Tryz.ntmps84
theorem ZgP : Tryz.f84.results = #[ResultVar.tmp 4, ResultVar.cell 5 27, ResultVar.cell 6 27, ResultVar.tmp 7, ResultVar.tmp 8] := Tryz.results84
abbrev Zkp : FuncId := 85
theorem Zfc : C.P.funcs[85]? = some Tryz.f85 := Tryz.func85
theorem Zjw : Enters C.P 85 := Enters.mk Zfc (by kernel_rfl) (by kernel_rfl)
theorem Zjx : Tryz.f85.ntmps = 34 := Tryz.ntmps85
theorem Zjy : Tryz.f85.results = #[ResultVar.tmp 4] := Tryz.results85
abbrev ZkG : FuncId := 86
theorem Zjz : C.P.funcs[86]? = some Tryz.f86 := Tryz.func86
theorem ZlK : Enters C.P 86 := Enters.mk Zjz (by kernel_rfl) (by kernel_rfl)
theorem ZlL : Tryz.f86.ntmps = 14 := Tryz.ntmps86
theorem ZlM : Tryz.f86.results = #[ResultVar.tmp 4] := Tryz.results86
abbrev Zcz : FuncId := 87
theorem Zb9 : C.P.funcs[87]? = some Tryz.f87 := Tryz.func87
theorem ZeH : Enters C.P 87 := Enters.mk Zb9 (by kernel_rfl) (by kernel_rfl)
theorem ZeI : Tryz.f87.ntmps = 62 := Tryz.ntmps87
theorem ZeJ : Tryz.f87.results = #[] := Tryz.results87
abbrev Zcn : FuncId := 88
theorem Zca : C.P.funcs[88]? = some Tryz.f88 := Tryz.func88
theorem Zcb : Enters C.P 88 := Enters.mk Zca (by kernel_rfl) (by kernel_rfl)
abbrev ZfI : FuncId := 89
theorem Zcc : C.P.funcs[89]? = some Tryz.f89 := Tryz.func89
theorem ZeK : Enters C.P 89 := Enters.mk Zcc (by kernel_rfl) (by kernel_rfl)
theorem ZeL : Tryz.f89.ntmps = 18 := Tryz.ntmps89
theorem ZeM : Tryz.f89.results = #[ResultVar.tmp 6, ResultVar.cell 7 31] := Tryz.results89
abbrev Zdd : FuncId := 90
theorem ZcA : C.P.funcs[90]? = some Tryz.f90 := Tryz.func90
theorem ZfJ : Enters C.P 90 := Enters.mk ZcA (by kernel_rfl) (by kernel_rfl)
theorem ZfK : Tryz.f90.ntmps = 39 := Tryz.ntmps90
theorem ZfL : Tryz.f90.results = #[ResultVar.tmp 4] := Tryz.results90
abbrev Zde : FuncId := 91
theorem ZcB : C.P.funcs[91]? = some Tryz.f91 := Tryz.func91
theorem ZfM : Enters C.P 91 := Enters.mk ZcB (by kernel_rfl) (by kernel_rfl)
theorem ZfN : Tryz.f91.ntmps = 8 := Tryz.ntmps91
theorem ZfO : Tryz.f91.results = #[ResultVar.tmp 4] := Tryz.results91
abbrev ZjA : FuncId := 92
theorem Zem : C.P.funcs[92]? = some Tryz.f92 := Tryz.func92
theorem ZiI : Enters C.P 92 := Enters.mk Zem (by kernel_rfl) (by kernel_rfl)
theorem ZiJ : Tryz.f92.ntmps = 19 := Tryz.ntmps92
theorem ZiK : Tryz.f92.results = #[ResultVar.tmp 2] := Tryz.results92
abbrev ZaR : FuncId := 93
theorem Zam : C.P.funcs[93]? = some Tryz.f93 := Tryz.func93
theorem ZaM : Enters C.P 93 := Enters.mk Zam (by kernel_rfl) (by kernel_rfl)
theorem ZaN : Tryz.f93.ntmps = 9 := Tryz.ntmps93
theorem ZaO : Tryz.f93.results = #[ResultVar.tmp 4] := Tryz.results93
abbrev Zen : FuncId := 94
theorem ZdM : C.P.funcs[94]? = some Tryz.f94 := Tryz.func94
theorem ZhI : Enters C.P 94 := Enters.mk ZdM (by kernel_rfl) (by kernel_rfl)
theorem ZhJ : Tryz.f94.ntmps = 6 := Tryz.ntmps94
theorem ZhK : Tryz.f94.results = #[ResultVar.tmp 2] := Tryz.results94
abbrev Zbn : FuncId := 95
theorem Zax : C.P.funcs[95]? = some Tryz.f95 := Tryz.func95
theorem Zbg : Enters C.P 95 := Enters.mk Zax (by kernel_rfl) (by kernel_rfl)
theorem Zbh : Tryz.f95.ntmps = 8 := Tryz.ntmps95
theorem Zbi : Tryz.f95.results = #[ResultVar.tmp 2] := Tryz.results95
abbrev ZcC : FuncId := 96
theorem Zcd : C.P.funcs[96]? = some Tryz.f96 := Tryz.func96
theorem ZeN : Enters C.P 96 := Enters.mk Zcd (by kernel_rfl) (by kernel_rfl)
theorem ZeO : Tryz.f96.ntmps = 21 := Tryz.ntmps96
theorem ZeP : Tryz.f96.results = #[ResultVar.tmp 2] := Tryz.results96
abbrev ZiL : FuncId := 97
theorem ZdN : C.P.funcs[97]? = some Tryz.f97 := Tryz.func97
theorem ZhL : Enters C.P 97 := Enters.mk ZdN (by kernel_rfl) (by kernel_rfl)
theorem ZhM : Tryz.f97.ntmps = 31 := Tryz.ntmps97
theorem ZhN : Tryz.f97.results = #[ResultVar.tmp 6, ResultVar.tmp 7, ResultVar.cell 8 31] := Tryz.results97
abbrev ZgQ : FuncId := 98
theorem Zfd : C.P.funcs[98]? = some Tryz.f98 := Tryz.func98
theorem ZjB : Enters C.P 98 := Enters.mk Zfd (by kernel_rfl) (by kernel_rfl)
theorem ZjC : Tryz.f98.ntmps = 11 := Tryz.ntmps98
theorem ZjD : Tryz.f98.results = #[ResultVar.tmp 4, ResultVar.tmp 5] := Tryz.results98
abbrev Zeo : FuncId := 99
theorem ZbV : C.P.funcs[99]? = some Tryz.f99 := Tryz.func99
theorem ZdW : Enters C.P 99 := Enters.mk ZbV (by kernel_rfl) (by kernel_rfl)
theorem ZdX : Tryz.f99.ntmps = 93 := Tryz.ntmps99
theorem ZdY : Tryz.f99.results = #[ResultVar.tmp 6, ResultVar.tmp 7] := Tryz.results99
abbrev ZgR : FuncId := 100
theorem Zfe : C.P.funcs[100]? = some Tryz.f100 := Tryz.func100
theorem ZjE : Enters C.P 100 := Enters.mk Zfe (by kernel_rfl) (by kernel_rfl)
theorem ZjF : Tryz.f100.ntmps = 13 := Tryz.ntmps100
theorem ZjG : Tryz.f100.results = #[ResultVar.tmp 4] := Tryz.results100
abbrev Zdf : FuncId := 101
theorem ZcD : C.P.funcs[101]? = some Tryz.f101 := Tryz.func101
theorem ZfP : Enters C.P 101 := Enters.mk ZcD (by kernel_rfl) (by kernel_rfl)
theorem ZfQ : Tryz.f101.ntmps = 37 := Tryz.ntmps101
theorem ZfR : Tryz.f101.results = #[ResultVar.cell 4 3] := Tryz.results101
abbrev Zdg : FuncId := 102
theorem ZcE : C.P.funcs[102]? = some Tryz.f102 := Tryz.func102
theorem ZfS : Enters C.P 102 := Enters.mk ZcE (by kernel_rfl) (by kernel_rfl)
theorem ZfT : Tryz.f102.ntmps = 36 := Tryz.ntmps102
theorem ZfU : Tryz.f102.results = #[ResultVar.tmp 4] := Tryz.results102
abbrev Za9 : FuncId := 110
theorem Zar : C.P.funcs[110]? = some Tryz.f110 := Tryz.func110
theorem ZaY : Enters C.P 110 := Enters.mk Zar (by kernel_rfl) (by kernel_rfl)
theorem ZaZ : Tryz.f110.ntmps = 19 := Tryz.ntmps110
theorem Za0 : Tryz.f110.results = #[ResultVar.tmp 4] := Tryz.results110
abbrev ZgS : FuncId := 111
theorem ZcF : C.P.funcs[111]? = some Tryz.f111 := Tryz.func111
theorem ZfV : Enters C.P 111 := Enters.mk ZcF (by kernel_rfl) (by kernel_rfl)
theorem ZfW : Tryz.f111.ntmps = 19 := Tryz.ntmps111
theorem ZfX : Tryz.f111.results = #[ResultVar.cell 4 27] := Tryz.results111
abbrev ZhO : FuncId := 113
theorem Zdh : C.P.funcs[113]? = some Tryz.f113 := Tryz.func113
theorem ZgT : Enters C.P 113 := Enters.mk Zdh (by kernel_rfl) (by kernel_rfl)
theorem ZgU : Tryz.f113.ntmps = 14 := Tryz.ntmps113
theorem ZgV : Tryz.f113.results = #[ResultVar.tmp 4] := Tryz.results113
abbrev Zdi : FuncId := 114
theorem Zbl : C.P.funcs[114]? = some Tryz.f114 := Tryz.func114
theorem ZcP : Enters C.P 114 := Enters.mk Zbl (by kernel_rfl) (by kernel_rfl)
theorem ZcQ : Tryz.f114.ntmps = 77 := Tryz.ntmps114
theorem ZcR : Tryz.f114.results = #[ResultVar.tmp 6] := Tryz.results114
abbrev Zba : FuncId := 115
theorem Zas : C.P.funcs[115]? = some Tryz.f115 := Tryz.func115
theorem Za1 : Enters C.P 115 := Enters.mk Zas (by kernel_rfl) (by kernel_rfl)
theorem Za2 : Tryz.f115.ntmps = 19 := Tryz.ntmps115
theorem Za3 : Tryz.f115.results = #[ResultVar.tmp 4] := Tryz.results115
abbrev ZcG : FuncId := 116
theorem Zce : C.P.funcs[116]? = some Tryz.f116 := Tryz.func116
theorem ZeQ : Enters C.P 116 := Enters.mk Zce (by kernel_rfl) (by kernel_rfl)
theorem ZeR : Tryz.f116.ntmps = 80 := Tryz.ntmps116
theorem ZeS : Tryz.f116.results = #[ResultVar.tmp 4, ResultVar.tmp 5] := Tryz.results116
abbrev ZfY : FuncId := 117
theorem Zcf : C.P.funcs[117]? = some Tryz.f117 := Tryz.func117
theorem ZeT : Enters C.P 117 := Enters.mk Zcf (by kernel_rfl) (by kernel_rfl)
theorem ZeU : Tryz.f117.ntmps = 12 := Tryz.ntmps117
theorem ZeV : Tryz.f117.results = #[ResultVar.tmp 4] := Tryz.results117
abbrev ZgW : FuncId := 118
theorem ZcH : C.P.funcs[118]? = some Tryz.f118 := Tryz.func118
theorem ZfZ : Enters C.P 118 := Enters.mk ZcH (by kernel_rfl) (by kernel_rfl)
theorem Zf0 : Tryz.f118.ntmps = 13 := Tryz.ntmps118
theorem Zf1 : Tryz.f118.results = #[ResultVar.tmp 4] := Tryz.results118
abbrev ZgX : FuncId := 119
theorem Zff : C.P.funcs[119]? = some Tryz.f119 := Tryz.func119
theorem ZjH : Enters C.P 119 := Enters.mk Zff (by kernel_rfl) (by kernel_rfl)
theorem ZjI : Tryz.f119.ntmps = 61 := Tryz.ntmps119
theorem ZjJ : Tryz.f119.results = #[ResultVar.tmp 8, ResultVar.tmp 9] := Tryz.results119
abbrev ZgY : FuncId := 120
theorem ZcI : C.P.funcs[120]? = some Tryz.f120 := Tryz.func120
theorem Zf2 : Enters C.P 120 := Enters.mk ZcI (by kernel_rfl) (by kernel_rfl)
theorem Zf3 : Tryz.f120.ntmps = 49 := Tryz.ntmps120
theorem Zf4 : Tryz.f120.results = #[ResultVar.tmp 4] := Tryz.results120
abbrev Zbb : FuncId := 121
theorem Zat : C.P.funcs[121]? = some Tryz.f121 := Tryz.func121
theorem Za4 : Enters C.P 121 := Enters.mk Zat (by kernel_rfl) (by kernel_rfl)
theorem Za5 : Tryz.f121.ntmps = 4 := Tryz.ntmps121
theorem Za6 : Tryz.f121.results = #[ResultVar.tmp 2] := Tryz.results121
abbrev Zep : FuncId := 127
theorem ZbW : C.P.funcs[127]? = some Tryz.f127 := Tryz.func127
theorem ZdZ : Enters C.P 127 := Enters.mk ZbW (by kernel_rfl) (by kernel_rfl)
theorem Zd0 : Tryz.f127.ntmps = 67 := Tryz.ntmps127
theorem Zd1 : Tryz.f127.results = #[ResultVar.tmp 4] := Tryz.results127
abbrev ZeW : FuncId := 128
theorem ZbZ : C.P.funcs[128]? = some Tryz.f128 := Tryz.func128
theorem Zeq : Enters C.P 128 := Enters.mk ZbZ (by kernel_rfl) (by kernel_rfl)
theorem Zer : Tryz.f128.ntmps = 43 := Tryz.ntmps128
theorem Zes : Tryz.f128.results = #[ResultVar.tmp 4, ResultVar.tmp 5] := Tryz.results128
abbrev Zdj : FuncId := 129
theorem Zbm : C.P.funcs[129]? = some Tryz.f129 := Tryz.func129
theorem ZcS : Enters C.P 129 := Enters.mk Zbm (by kernel_rfl) (by kernel_rfl)
theorem ZcT : Tryz.f129.ntmps = 6 := Tryz.ntmps129
theorem ZcU : Tryz.f129.results = #[ResultVar.tmp 2] := Tryz.results129
abbrev ZhP : FuncId := 130
theorem Zdk : C.P.funcs[130]? = some Tryz.f130 := Tryz.func130
theorem ZgZ : Enters C.P 130 := Enters.mk Zdk (by kernel_rfl) (by kernel_rfl)
theorem Zg0 : Tryz.f130.ntmps = 109 := Tryz.ntmps130
theorem Zg1 : Tryz.f130.results = #[ResultVar.tmp 4] := Tryz.results130
abbrev ZjK : FuncId := 131
theorem Zet : C.P.funcs[131]? = some Tryz.f131 := Tryz.func131
theorem ZiM : Enters C.P 131 := Enters.mk Zet (by kernel_rfl) (by kernel_rfl)
theorem ZiN : Tryz.f131.ntmps = 79 := Tryz.ntmps131
theorem ZiO : Tryz.f131.results = #[ResultVar.tmp 8, ResultVar.tmp 9] := Tryz.results131
abbrev Zaq : FuncId := 132
theorem Zao : C.P.funcs[132]? = some Tryz.f132 := Tryz.func132
theorem ZaS : Enters C.P 132 := Enters.mk Zao (by kernel_rfl) (by kernel_rfl)
theorem ZaT : Tryz.f132.ntmps = 19 := Tryz.ntmps132
theorem ZaU : Tryz.f132.results = #[] := Tryz.results132
abbrev Zkq : FuncId := 136
theorem Zfg : C.P.funcs[136]? = some Tryz.f136 := Tryz.func136
theorem ZjL : Enters C.P 136 := Enters.mk Zfg (by kernel_rfl) (by kernel_rfl)
theorem ZjM : Tryz.f136.ntmps = 46 := Tryz.ntmps136
theorem ZjN : Tryz.f136.results = #[ResultVar.tmp 6] := Tryz.results136
end Go.V
/- MORE RULES: panics, slices' bounds, append, strings and bytes; statements that draw their order. -/
namespace Go.V
open Go.RowKit
section
variable {C : Ctx} {Q : Post} {ops : Array Oper} {rest : List Oper} {k : List Item} {env env' : List D} {H H' : Heap} {df : List ADef}
variable {dst : Option Tmp} {op : Op} {ty : TypeId} {pos : String} {aft : Array Edge} {gd : Option (Nat × Bool)} {d : D} {t : Tmp} {x y z : Operand} {T e : TypeId} {te tee : TE}
theorem ZmE {T : TypeId} {d : D} (hx : evO C env x = some (.iface T d)) : OpH C ⟨dst, .panic x, ty, pos, aft, gd⟩ env H (fun _ _ => False) (fun d' H' => d' = .iface T d ∧ H' = H) := by
  refine ⟨fun L0 w μ a hs hv => ?_⟩
  have ex := evO_ok hs hv hx
  have ex' := ex
  simp only [VR] at ex
  obtain ⟨u, ex, _⟩ := ex
  have hrun : (execOp a.eval ⟨dst, .panic x, ty, pos, aft, gd⟩).run C.P w = .halt (.panic (.iface T u)) w := by
    simp only [execOp, ex, Instr.panic, Sem.run_bind, run_goPanic, Result.andThen_halt]
  unfold Oper.wp
  rw [hrun]
  exact ⟨.iface T u, .iface T d, H, μ, rfl, rfl, ⟨rfl, rfl⟩, hs, by rw [← ex]; exact ex', Evo.refl _ _ _⟩
theorem Zkr {T : TypeId} {d : D} (hg : gOk ops.toList env gd = some true) (hx : evO C env x = some (.iface T d)) (hp : Q (.pan (.iface T d)) env H df) : AOps C Q ops (⟨dst, .panic x, ty, pos, aft, gd⟩ :: rest) k env H df :=
  AOps.opH hg (ZmE hx) (fun _ _ h => h.elim) (fun _ _ ⟨h1, h2⟩ => by subst h1; subst h2; exact hp)
def asSl : D → Option (Nat × List D)
  | .sl n cs => some (n, cs)
  | .nilsl => some (0, [])
  | _ => none
theorem asSl_ok {w : World} {L : Nat → Prop} {μ : List Nat} {H : Heap} {d : D} {n : Nat} {cs : List D} {v : Value} (h : asSl d = some (n, cs)) (hv : VR w L μ H d v) :
    ∃ a cap, v = .slice a n cap ∧ n ≤ cap ∧ cap ≤ maxLen ∧ (cs ≠ [] → ∃ ad, a = some ad ∧ ad.block < w.heap.size ∧ ¬ L ad.block ∧ VRL w L ad 0 cs) := by
  unfold asSl at h
  split at h
  · injection h with h; injection h with h1 h2; subst h1; subst h2; simpa only [VR] using hv
  · injection h with h; injection h with h1 h2; subst h1; subst h2
    simp only [VR] at hv
    exact ⟨none, 0, hv, Nat.le_refl _, Nat.zero_le _, fun h => (h rfl).elim⟩
  cases h
theorem VRL_take {w : World} {L : Nat → Prop} {ad : Addr} {cs : List D} (h : VRL w L ad 0 cs) (n : Nat) : VRL w L ad 0 (cs.take n) := by
  refine VRL_mk fun j d hd => ?_
  rw [List.getElem?_take] at hd
  split at hd
  · exact VRL_get h hd
  cases hd
def bndO (C : Ctx) (env : List D) (dflt : Nat) : Option Operand → Option Nat
  | none => some dflt
  | some x => match evO C env x with
    | some (.int _ i) => if 0 ≤ i then some i.toNat else none
    | _ => none
theorem sub_sl {w : World} {L : Nat → Prop} {μ : List Nat} {H : Heap} {a : Option Addr} {n cap lo hi sz : Nat} {cs : List D} (h1 : n ≤ cap) (h2 : cap ≤ maxLen) (h3 : cs ≠ [] → ∃ ad, a = some ad ∧ ad.block < w.heap.size ∧ ¬ L ad.block ∧ VRL w L ad 0 cs) (hl : lo ≤ hi) (hh : hi ≤ n) (hlen : cs.length = n * sz) :
    VR w L μ H (.sl (hi - lo) ((cs.take (hi * sz)).drop (lo * sz))) (sliced a lo hi cap sz) := by
  simp only [VR, sliced]
  refine ⟨_, _, rfl, by omega, by omega, fun hne => ?_⟩
  have hcs : cs ≠ [] := by rintro rfl; simp at hne
  have hlt : lo < hi := by
    rcases Nat.lt_or_ge lo hi with h | h
    · exact h
    have : hi = lo := by omega
    subst this
    exfalso
    apply hne
    simp [List.drop_eq_nil_iff, List.length_take]
  obtain ⟨ad, rfl, k1, k2, k3⟩ := h3 hcs
  refine ⟨ad.add (lo * sz), by rw [if_neg (by omega)]; rfl, by rw [add_block]; exact k1, by rw [add_block]; exact k2, VRL_drop (VRL_take k3 _) _⟩
theorem ZmF {descE : TypeDesc} {sizeE bytesE : Nat} {zeroE : Value} {n lo hi : Nat} {cs : List D} {ol oh : Option Operand} (ht : UN C T (.slice e)) (hee : TIC C e descE sizeE bytesE zeroE) (hx : evO C env x = some d) (hd : asSl d = some (n, cs)) (hlo : bndO C env 0 ol = some lo) (hhi : bndO C env n oh = some hi) (hl : lo ≤ hi) (hh : hi ≤ n) (hlen : cs.length = n * sizeE) :
    OpQ C ⟨dst, .slice T x ol oh none, ty, pos, aft, gd⟩ env H (.sl (hi - lo) ((cs.take (hi * sizeE)).drop (lo * sizeE))) :=
  OpQ.of_run fun L w μ a he => by
    have ex := he _ _ hx
    obtain ⟨a', cap, ex, h1, h2, h3⟩ := asSl_ok hd ex
    have hsub := sub_sl (μ := μ) (H := H) h1 h2 h3 hl hh hlen
    refine ⟨_, ?_, hsub⟩
    have hte : C.P.elem T = e := by unfold Program.elem; rw [show C.P.underlying T = some (.slice e) from ht]
    have ht' : C.P.underlying T = some (.slice (C.P.elem T)) := by rw [hte]; exact ht
    have hsz : ∀ w, (sizeOf (C.P.elem T)).run C.P w = .ok sizeE w := fun w => by rw [hte]; exact hee.run_size w
    have key : (Instr.sliceAt T (.slice a' n cap) (ol.map a.eval) (oh.map a.eval) none).run C.P w = .ok (sliced a' lo hi cap sizeE) w := by
      rw [run_sliceAt_slice _ _ _ _ _ _ ht']
      cases ol with
      | none =>
        simp only [bndO] at hlo
        injection hlo with hlo
        subst hlo
        cases oh with
        | none =>
          simp only [bndO] at hhi
          injection hhi with hhi
          subst hhi
          simp only [Option.map_none]
          rw [run_slice_all _ _ _ _ _ ht', hsz]
          rfl
        | some q =>
          simp only [bndO] at hhi
          split at hhi
          · rename_i ik i hq
            split at hhi
            · rename_i h0
              injection hhi with hhi
              have eq := he _ _ hq
              simp only [VR] at eq
              simp only [Option.map_none, Option.map_some, eq]
              rw [run_slice_h _ _ _ _ _ ht' ik i h0 (by omega), hsz]
              simp [hhi]
            cases hhi
          cases hhi
      | some p =>
        simp only [bndO] at hlo
        split at hlo
        · rename_i ik i hp
          split at hlo
          · rename_i h0
            injection hlo with hlo
            have ep := he _ _ hp
            simp only [VR] at ep
            cases oh with
            | none =>
              simp only [bndO] at hhi
              injection hhi with hhi
              subst hhi
              simp only [Option.map_none, Option.map_some, ep]
              rw [run_slice_l _ _ _ _ _ ht' ik i h0 (by omega), hsz]
              simp [hlo]
            | some q =>
              simp only [bndO] at hhi
              split at hhi
              · rename_i ik' i' hq
                split at hhi
                · rename_i h0'
                  injection hhi with hhi
                  have eq := he _ _ hq
                  simp only [VR] at eq
                  simp only [Option.map_some, ep, eq]
                  rw [run_slice_lh _ _ _ _ _ ht' ik ik' i i' h0 (by omega) (by omega), hsz]
                  simp [hlo, hhi]
                cases hhi
              cases hhi
          cases hlo
        cases hlo
    simp only [execOp, ex, Sem.run_bind, Option.map_none, key, Result.andThen_ok, Sem.run_pure]
theorem AOps.frz {ids : List Nat} (hH : Go.V.frz H ids = H') (hz : FzL H env env' ids) (hk : AOps C Q ops rest k env' H' df) : AOps C Q ops rest k env H df := by
  subst hH
  refine ⟨fun i hi => ⟨fun L0 w0 μ0 H0 w μ a hs hv hd he b cs hrd => ?_⟩⟩
  obtain ⟨hs', he'⟩ := hs.weak (HWeak.frz (ids := ids))
  have st := he'.step L0
  exact (hk.out i hi).out L0 w0 μ0 H0 w μ a hs' (FzL.ok hs' hz (fun i hi o ho => frz_dead hi ho) (VRs.step st hv)) (DfR.step st hd) (he.trans he') b cs (hrd.step he'.map)
theorem ARun.frz {ids : List Nat} (hH : Go.V.frz H ids = H') (hz : FzL H env env' ids) (hk : ARun C Q k env' H' df) : ARun C Q k env H df := by
  subst hH
  refine ⟨fun L0 w0 μ0 H0 w μ a hs hv hd he b cs hrd => ?_⟩
  obtain ⟨hs', he'⟩ := hs.weak (HWeak.frz (ids := ids))
  have st := he'.step L0
  exact hk.out L0 w0 μ0 H0 w μ a hs' (FzL.ok hs' hz (fun i hi o ho => frz_dead hi ho) (VRs.step st hv)) (DfR.step st hd) (he.trans he') b cs (hrd.step he'.map)
end
end Go.V
