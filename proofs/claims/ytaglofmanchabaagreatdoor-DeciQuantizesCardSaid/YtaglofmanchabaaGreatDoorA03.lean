/- Rules for steps and contracts of functions, each proved; no condition. -/
import Derived.Test.YtaglofmanchabaaGreatDoorA02
import Derived.Test.YtaglofmanchabaaGreatDoorProg
set_option linter.unusedVariables false
set_option linter.unusedSimpArgs false
set_option linter.unnecessarySimpa false
namespace Go.V
open Go.RowKit Go.Proofs
theorem te3 : TEok Tryz.prog 3 ⟨.int .i64, 1, 8, .int .i64 0⟩ := ⟨by kernel_rfl, Tryz.underlying3⟩
theorem te4 : TEok Tryz.prog 4 ⟨.bool, 1, 1, .bool false⟩ := ⟨by kernel_rfl, Tryz.underlying4⟩
theorem te5 : TEok Tryz.prog 5 ⟨.int .u8, 1, 1, .int .u8 0⟩ := ⟨by kernel_rfl, Tryz.underlying5⟩
theorem te9 : TEok Tryz.prog 9 ⟨.str, 1, 16, .string ⟨#[]⟩⟩ := ⟨by kernel_rfl, Tryz.underlying9⟩
theorem te20 : TEok Tryz.prog 20 ⟨.other, 1, 16, .nilIface⟩ := ⟨by kernel_rfl, ⟨_, Tryz.underlying20, rfl⟩⟩
theorem te23 : TEok Tryz.prog 23 ⟨.slice 56, 1, 24, .slice none 0 0⟩ := ⟨by kernel_rfl, Tryz.underlying23⟩
theorem te25 : TEok Tryz.prog 25 ⟨.struct [(0, 1), (1, 1), (2, 1), (3, 1), (4, 1)], 5, 56, .agg #[.int .i64 0, .int .i64 0, .bool false, .slice none 0 0, .int .i64 0]⟩ := ⟨by kernel_rfl, ⟨_, Tryz.underlying25, by kernel_rfl⟩⟩
theorem te29 : TEok Tryz.prog 29 ⟨.struct [(0, 5), (5, 1)], 6, 64, .agg #[.int .i64 0, .int .i64 0, .bool false, .slice none 0 0, .int .i64 0, .int .i64 0]⟩ := ⟨by kernel_rfl, ⟨_, Tryz.underlying29, by kernel_rfl⟩⟩
theorem te30 : TEok Tryz.prog 30 ⟨.int .i64, 1, 8, .int .i64 0⟩ := ⟨by kernel_rfl, Tryz.underlying30⟩
theorem te35 : TEok Tryz.prog 35 ⟨.struct [(0, 6), (6, 1)], 7, 72, .agg #[.int .i64 0, .int .i64 0, .bool false, .slice none 0 0, .int .i64 0, .int .i64 0, .int .i64 0]⟩ := ⟨by kernel_rfl, ⟨_, Tryz.underlying35, by kernel_rfl⟩⟩
theorem te47 : TEok Tryz.prog 47 ⟨.slice 25, 1, 24, .slice none 0 0⟩ := ⟨by kernel_rfl, Tryz.underlying47⟩
theorem te55 : TEok Tryz.prog 55 ⟨.other, 1, 8, .nilFunc⟩ := ⟨by kernel_rfl, ⟨_, Tryz.underlying55, rfl⟩⟩
theorem te56 : TEok Tryz.prog 56 ⟨.int .u32, 1, 4, .int .u32 0⟩ := ⟨by kernel_rfl, Tryz.underlying56⟩
theorem te60 : TEok Tryz.prog 60 ⟨.struct [(0, 1), (1, 1)], 2, 32, .agg #[.bool false, .slice none 0 0]⟩ := ⟨by kernel_rfl, ⟨_, Tryz.underlying60, by kernel_rfl⟩⟩
theorem te62 : TEok Tryz.prog 62 ⟨.struct [(0, 2), (2, 1)], 3, 56, .agg #[.bool false, .slice none 0 0, .slice none 0 0]⟩ := ⟨by kernel_rfl, ⟨_, Tryz.underlying62, by kernel_rfl⟩⟩
theorem te82 : TEok Tryz.prog 82 ⟨.other, 1, 8, .nilFunc⟩ := ⟨by kernel_rfl, ⟨_, Tryz.underlying82, rfl⟩⟩
theorem te84 : TEok Tryz.prog 84 ⟨.struct [(0, 1)], 1, 8, .agg #[.nilFunc]⟩ := ⟨by kernel_rfl, ⟨_, Tryz.underlying84, by kernel_rfl⟩⟩
theorem te87 : TEok Tryz.prog 87 ⟨.struct [(0, 1), (1, 1), (2, 1), (3, 1), (4, 1)], 5, 40, .agg #[.int .i64 0, .int .i64 0, .int .i64 0, .int .i64 0, .int .i64 0]⟩ := ⟨by kernel_rfl, ⟨_, Tryz.underlying87, by kernel_rfl⟩⟩
theorem te97 : TEok Tryz.prog 97 ⟨.struct [(0, 1), (1, 1), (2, 1), (3, 1)], 4, 48, .agg #[.bool false, .slice none 0 0, .int .i64 0, .bool false]⟩ := ⟨by kernel_rfl, ⟨_, Tryz.underlying97, by kernel_rfl⟩⟩
theorem te100 : TEok Tryz.prog 100 ⟨.struct [(0, 1), (1, 1), (2, 1), (3, 1)], 4, 4, .agg #[.bool false, .bool false, .bool false, .bool false]⟩ := ⟨by kernel_rfl, ⟨_, Tryz.underlying100, by kernel_rfl⟩⟩
theorem te101 : TEok Tryz.prog 101 ⟨.other, 1, 8, .map none⟩ := ⟨by kernel_rfl, ⟨_, Tryz.underlying101, rfl⟩⟩
theorem te105 : TEok Tryz.prog 105 ⟨.struct [(0, 6)], 6, 64, .agg #[.int .i64 0, .int .i64 0, .bool false, .slice none 0 0, .int .i64 0, .int .i64 0]⟩ := ⟨by kernel_rfl, ⟨_, Tryz.underlying105, by kernel_rfl⟩⟩
theorem te108 : TEok Tryz.prog 108 ⟨.struct [(0, 2), (2, 1), (3, 1), (4, 1), (5, 1)], 6, 80, .agg #[.bool false, .slice none 0 0, .slice none 0 0, .int .i64 0, .bool false, .int .i64 0]⟩ := ⟨by kernel_rfl, ⟨_, Tryz.underlying108, by kernel_rfl⟩⟩
theorem te114 : TEok Tryz.prog 114 ⟨.struct [(0, 1), (1, 1), (2, 1)], 3, 24, .agg #[.int .i64 0, .int .i64 0, .int .i64 0]⟩ := ⟨by kernel_rfl, ⟨_, Tryz.underlying114, by kernel_rfl⟩⟩
theorem te117 : TEok Tryz.prog 117 ⟨.struct [(0, 1), (1, 1)], 2, 48, .agg #[.slice none 0 0, .slice none 0 0]⟩ := ⟨by kernel_rfl, ⟨_, Tryz.underlying117, by kernel_rfl⟩⟩
theorem te139 : TEok Tryz.prog 139 ⟨.ptr, 1, 8, .pointer none⟩ := ⟨by kernel_rfl, ⟨_, Tryz.underlying139⟩⟩
theorem te152 : TEok Tryz.prog 152 ⟨.ptr, 1, 8, .pointer none⟩ := ⟨by kernel_rfl, ⟨_, Tryz.underlying152⟩⟩
theorem te158 : TEok Tryz.prog 158 ⟨.other, 1, 8, .nilFunc⟩ := ⟨by kernel_rfl, ⟨_, Tryz.underlying158, rfl⟩⟩
theorem te163 : TEok Tryz.prog 163 ⟨.slice 56, 1, 24, .slice none 0 0⟩ := ⟨by kernel_rfl, Tryz.underlying163⟩
theorem te170 : TEok Tryz.prog 170 ⟨.other, 1, 8, .nilFunc⟩ := ⟨by kernel_rfl, ⟨_, Tryz.underlying170, rfl⟩⟩
theorem te173 : TEok Tryz.prog 173 ⟨.struct [(0, 1), (1, 1), (2, 1), (3, 1), (4, 1)], 5, 40, .agg #[.int .i64 0, .int .i64 0, .int .i64 0, .int .i64 0, .int .i64 0]⟩ := ⟨by kernel_rfl, ⟨_, Tryz.underlying173, by kernel_rfl⟩⟩
theorem te180 : TEok Tryz.prog 180 ⟨.other, 1, 8, .nilFunc⟩ := ⟨by kernel_rfl, ⟨_, Tryz.underlying180, rfl⟩⟩
theorem te181 : TEok Tryz.prog 181 ⟨.other, 1, 8, .nilFunc⟩ := ⟨by kernel_rfl, ⟨_, Tryz.underlying181, rfl⟩⟩
theorem te182 : TEok Tryz.prog 182 ⟨.other, 1, 8, .nilFunc⟩ := ⟨by kernel_rfl, ⟨_, Tryz.underlying182, rfl⟩⟩
theorem te184 : TEok Tryz.prog 184 ⟨.struct [(0, 1), (1, 1)], 2, 16, .agg #[.nilFunc, .nilFunc]⟩ := ⟨by kernel_rfl, ⟨_, Tryz.underlying184, by kernel_rfl⟩⟩
theorem te185 : TEok Tryz.prog 185 ⟨.struct [(0, 1)], 1, 8, .agg #[.int .i64 0]⟩ := ⟨by kernel_rfl, ⟨_, Tryz.underlying185, by kernel_rfl⟩⟩
theorem te186 : TEok Tryz.prog 186 ⟨.struct [(0, 1)], 1, 8, .agg #[.int .i64 0]⟩ := ⟨by kernel_rfl, ⟨_, Tryz.underlying186, by kernel_rfl⟩⟩
theorem te188 : TEok Tryz.prog 188 ⟨.struct [], 0, 0, .agg #[]⟩ := ⟨by kernel_rfl, ⟨_, Tryz.underlying188, by kernel_rfl⟩⟩
theorem te197 : TEok Tryz.prog 197 ⟨.int .u64, 1, 8, .int .u64 0⟩ := ⟨by kernel_rfl, Tryz.underlying197⟩
theorem te198 : TEok Tryz.prog 198 ⟨.int .u64, 1, 8, .int .u64 0⟩ := ⟨by kernel_rfl, Tryz.underlying198⟩
theorem te204 : TEok Tryz.prog 204 ⟨.other, 1, 8, .nilFunc⟩ := ⟨by kernel_rfl, ⟨_, Tryz.underlying204, rfl⟩⟩
theorem te209 : TEok Tryz.prog 209 ⟨.other, 1, 8, .nilFunc⟩ := ⟨by kernel_rfl, ⟨_, Tryz.underlying209, rfl⟩⟩
theorem te211 : TEok Tryz.prog 211 ⟨.struct [(0, 1)], 1, 8, .agg #[.nilFunc]⟩ := ⟨by kernel_rfl, ⟨_, Tryz.underlying211, by kernel_rfl⟩⟩
theorem te212 : TEok Tryz.prog 212 ⟨.other, 1, 8, .map none⟩ := ⟨by kernel_rfl, ⟨_, Tryz.underlying212, rfl⟩⟩
theorem te220 : TEok Tryz.prog 220 ⟨.other, 1, 8, .nilFunc⟩ := ⟨by kernel_rfl, ⟨_, Tryz.underlying220, rfl⟩⟩
theorem te223 : TEok Tryz.prog 223 ⟨.ptr, 1, 8, .pointer none⟩ := ⟨by kernel_rfl, ⟨_, Tryz.underlying223⟩⟩
theorem te225 : TEok Tryz.prog 225 ⟨.other, 1, 8, .nilFunc⟩ := ⟨by kernel_rfl, ⟨_, Tryz.underlying225, rfl⟩⟩
theorem te227 : TEok Tryz.prog 227 ⟨.other, 1, 8, .map none⟩ := ⟨by kernel_rfl, ⟨_, Tryz.underlying227, rfl⟩⟩
theorem te232 : TEok Tryz.prog 232 ⟨.other, 1, 8, .nilFunc⟩ := ⟨by kernel_rfl, ⟨_, Tryz.underlying232, rfl⟩⟩
theorem te237 : TEok Tryz.prog 237 ⟨.struct [(0, 1)], 1, 8, .agg #[.int .i64 0]⟩ := ⟨by kernel_rfl, ⟨_, Tryz.underlying237, by kernel_rfl⟩⟩
theorem te239 : TEok Tryz.prog 239 ⟨.slice 62, 1, 24, .slice none 0 0⟩ := ⟨by kernel_rfl, Tryz.underlying239⟩
theorem te246 : TEok Tryz.prog 246 ⟨.ptr, 1, 8, .pointer none⟩ := ⟨by kernel_rfl, ⟨_, Tryz.underlying246⟩⟩
theorem te248 : TEok Tryz.prog 248 ⟨.other, 1, 16, .nilIface⟩ := ⟨by kernel_rfl, ⟨_, Tryz.underlying248, rfl⟩⟩
theorem te250 : TEok Tryz.prog 250 ⟨.struct [(0, 1), (1, 1), (2, 1), (3, 1)], 4, 40, .agg #[.nilIface, .int .i64 0, .int .i64 0, .int .i64 0]⟩ := ⟨by kernel_rfl, ⟨_, Tryz.underlying250, by kernel_rfl⟩⟩
theorem te252 : TEok Tryz.prog 252 ⟨.other, 1, 8, .nilFunc⟩ := ⟨by kernel_rfl, ⟨_, Tryz.underlying252, rfl⟩⟩
theorem te256 : TEok Tryz.prog 256 ⟨.struct [(0, 4), (4, 1), (5, 1), (6, 1)], 7, 96, .agg #[.nilIface, .int .i64 0, .int .i64 0, .int .i64 0, .bool false, .slice none 0 0, .slice none 0 0]⟩ := ⟨by kernel_rfl, ⟨_, Tryz.underlying256, by kernel_rfl⟩⟩
theorem te259 : TEok Tryz.prog 259 ⟨.struct [(0, 1)], 1, 8, .agg #[.int .i64 0]⟩ := ⟨by kernel_rfl, ⟨_, Tryz.underlying259, by kernel_rfl⟩⟩
theorem te261 : TEok Tryz.prog 261 ⟨.slice 23, 1, 24, .slice none 0 0⟩ := ⟨by kernel_rfl, Tryz.underlying261⟩
theorem te275 : TEok Tryz.prog 275 ⟨.slice 5, 1, 24, .slice none 0 0⟩ := ⟨by kernel_rfl, Tryz.underlying275⟩
theorem te276 : TEok Tryz.prog 276 ⟨.array 3 173, 15, 120, .agg #[.int .i64 0, .int .i64 0, .int .i64 0, .int .i64 0, .int .i64 0, .int .i64 0, .int .i64 0, .int .i64 0, .int .i64 0, .int .i64 0, .int .i64 0, .int .i64 0, .int .i64 0, .int .i64 0, .int .i64 0]⟩ := ⟨by kernel_rfl, Tryz.underlying276⟩
theorem te283 : TEok Tryz.prog 283 ⟨.other, 1, 8, .nilFunc⟩ := ⟨by kernel_rfl, ⟨_, Tryz.underlying283, rfl⟩⟩
theorem te284 : TEok Tryz.prog 284 ⟨.slice 60, 1, 24, .slice none 0 0⟩ := ⟨by kernel_rfl, Tryz.underlying284⟩
theorem te288 : TEok Tryz.prog 288 ⟨.struct [(0, 1)], 1, 8, .agg #[.int .i64 0]⟩ := ⟨by kernel_rfl, ⟨_, Tryz.underlying288, by kernel_rfl⟩⟩
theorem te295 : TEok Tryz.prog 295 ⟨.struct [(0, 1)], 1, 8, .agg #[.int .i64 0]⟩ := ⟨by kernel_rfl, ⟨_, Tryz.underlying295, by kernel_rfl⟩⟩
theorem te297 : TEok Tryz.prog 297 ⟨.slice 250, 1, 24, .slice none 0 0⟩ := ⟨by kernel_rfl, Tryz.underlying297⟩
theorem te300 : TEok Tryz.prog 300 ⟨.other, 1, 8, .map none⟩ := ⟨by kernel_rfl, ⟨_, Tryz.underlying300, rfl⟩⟩
theorem te303 : TEok Tryz.prog 303 ⟨.struct [(0, 1), (1, 1), (2, 1)], 3, 40, .agg #[.slice none 0 0, .bool false, .int .i64 0]⟩ := ⟨by kernel_rfl, ⟨_, Tryz.underlying303, by kernel_rfl⟩⟩
theorem te330 : TEok Tryz.prog 330 ⟨.struct [], 0, 0, .agg #[]⟩ := ⟨by kernel_rfl, ⟨_, Tryz.underlying330, by kernel_rfl⟩⟩
theorem te331 : TEok Tryz.prog 331 ⟨.struct [], 0, 0, .agg #[]⟩ := ⟨by kernel_rfl, ⟨_, Tryz.underlying331, by kernel_rfl⟩⟩
abbrev Zg3 : TypeId := 3
abbrev ZeZ : TypeId := 5
abbrev Zhx : TypeId := 23
abbrev Zdl : TypeId := 25
abbrev Zbd : TypeId := 29
abbrev ZL : TypeId := 30
abbrev Zs : TypeId := 56
abbrev Zey : TypeId := 60
abbrev Zgq : TypeId := 87
abbrev Za1 : TypeId := 97
abbrev Z8 : TypeId := 100
abbrev ZdX : TypeId := 105
abbrev ZE : TypeId := 108
abbrev Zx : TypeId := 117
abbrev Zeh : TypeId := 163
abbrev ZiL : TypeId := 186
abbrev ZiM : TypeId := 188
abbrev ZbH : TypeId := 211
abbrev Za2 : TypeId := 225
abbrev Za3 : TypeId := 252
abbrev Zeq : TypeId := 259
abbrev Zfp : TypeId := 288
abbrev Zcp : TypeId := 303
abbrev ZiN : TypeId := 330
abbrev Zba : TypeId := 331
noncomputable def tys : Tr := (.node 182 (.node 84 (.node 29 (.node 9 (.node 4 (.node 3 (.leaf 3 ⟨.int .i64, 1, 8, .int .i64 0⟩) (.leaf 4 ⟨.bool, 1, 1, .bool false⟩)) (.node 5 (.leaf 5 ⟨.int .u8, 1, 1, .int .u8 0⟩) (.leaf 9 ⟨.str, 1, 16, .string ⟨#[]⟩⟩))) (.node 23 (.node 20 (.leaf 20 ⟨.other, 1, 16, .nilIface⟩) (.leaf 23 ⟨.slice 56, 1, 24, .slice none 0 0⟩)) (.node 25 (.leaf 25 ⟨.struct [(0, 1), (1, 1), (2, 1), (3, 1), (4, 1)], 5, 56, .agg #[.int .i64 0, .int .i64 0, .bool false, .slice none 0 0, .int .i64 0]⟩) (.leaf 29 ⟨.struct [(0, 5), (5, 1)], 6, 64, .agg #[.int .i64 0, .int .i64 0, .bool false, .slice none 0 0, .int .i64 0, .int .i64 0]⟩)))) (.node 55 (.node 35 (.node 30 (.leaf 30 ⟨.int .i64, 1, 8, .int .i64 0⟩) (.leaf 35 ⟨.struct [(0, 6), (6, 1)], 7, 72, .agg #[.int .i64 0, .int .i64 0, .bool false, .slice none 0 0, .int .i64 0, .int .i64 0, .int .i64 0]⟩)) (.node 47 (.leaf 47 ⟨.slice 25, 1, 24, .slice none 0 0⟩) (.leaf 55 ⟨.other, 1, 8, .nilFunc⟩))) (.node 60 (.node 56 (.leaf 56 ⟨.int .u32, 1, 4, .int .u32 0⟩) (.leaf 60 ⟨.struct [(0, 1), (1, 1)], 2, 32, .agg #[.bool false, .slice none 0 0]⟩)) (.node 62 (.leaf 62 ⟨.struct [(0, 2), (2, 1)], 3, 56, .agg #[.bool false, .slice none 0 0, .slice none 0 0]⟩) (.node 82 (.leaf 82 ⟨.other, 1, 8, .nilFunc⟩) (.leaf 84 ⟨.struct [(0, 1)], 1, 8, .agg #[.nilFunc]⟩)))))) (.node 117 (.node 101 (.node 97 (.node 87 (.leaf 87 ⟨.struct [(0, 1), (1, 1), (2, 1), (3, 1), (4, 1)], 5, 40, .agg #[.int .i64 0, .int .i64 0, .int .i64 0, .int .i64 0, .int .i64 0]⟩) (.leaf 97 ⟨.struct [(0, 1), (1, 1), (2, 1), (3, 1)], 4, 48, .agg #[.bool false, .slice none 0 0, .int .i64 0, .bool false]⟩)) (.node 100 (.leaf 100 ⟨.struct [(0, 1), (1, 1), (2, 1), (3, 1)], 4, 4, .agg #[.bool false, .bool false, .bool false, .bool false]⟩) (.leaf 101 ⟨.other, 1, 8, .map none⟩))) (.node 108 (.node 105 (.leaf 105 ⟨.struct [(0, 6)], 6, 64, .agg #[.int .i64 0, .int .i64 0, .bool false, .slice none 0 0, .int .i64 0, .int .i64 0]⟩) (.leaf 108 ⟨.struct [(0, 2), (2, 1), (3, 1), (4, 1), (5, 1)], 6, 80, .agg #[.bool false, .slice none 0 0, .slice none 0 0, .int .i64 0, .bool false, .int .i64 0]⟩)) (.node 114 (.leaf 114 ⟨.struct [(0, 1), (1, 1), (2, 1)], 3, 24, .agg #[.int .i64 0, .int .i64 0, .int .i64 0]⟩) (.leaf 117 ⟨.struct [(0, 1), (1, 1)], 2, 48, .agg #[.slice none 0 0, .slice none 0 0]⟩)))) (.node 163 (.node 152 (.node 139 (.leaf 139 ⟨.ptr, 1, 8, .pointer none⟩) (.leaf 152 ⟨.ptr, 1, 8, .pointer none⟩)) (.node 158 (.leaf 158 ⟨.other, 1, 8, .nilFunc⟩) (.leaf 163 ⟨.slice 56, 1, 24, .slice none 0 0⟩))) (.node 173 (.node 170 (.leaf 170 ⟨.other, 1, 8, .nilFunc⟩) (.leaf 173 ⟨.struct [(0, 1), (1, 1), (2, 1), (3, 1), (4, 1)], 5, 40, .agg #[.int .i64 0, .int .i64 0, .int .i64 0, .int .i64 0, .int .i64 0]⟩)) (.node 180 (.leaf 180 ⟨.other, 1, 8, .nilFunc⟩) (.node 181 (.leaf 181 ⟨.other, 1, 8, .nilFunc⟩) (.leaf 182 ⟨.other, 1, 8, .nilFunc⟩))))))) (.node 239 (.node 209 (.node 188 (.node 185 (.node 184 (.leaf 184 ⟨.struct [(0, 1), (1, 1)], 2, 16, .agg #[.nilFunc, .nilFunc]⟩) (.leaf 185 ⟨.struct [(0, 1)], 1, 8, .agg #[.int .i64 0]⟩)) (.node 186 (.leaf 186 ⟨.struct [(0, 1)], 1, 8, .agg #[.int .i64 0]⟩) (.leaf 188 ⟨.struct [], 0, 0, .agg #[]⟩))) (.node 198 (.node 197 (.leaf 197 ⟨.int .u64, 1, 8, .int .u64 0⟩) (.leaf 198 ⟨.int .u64, 1, 8, .int .u64 0⟩)) (.node 204 (.leaf 204 ⟨.other, 1, 8, .nilFunc⟩) (.leaf 209 ⟨.other, 1, 8, .nilFunc⟩)))) (.node 223 (.node 212 (.node 211 (.leaf 211 ⟨.struct [(0, 1)], 1, 8, .agg #[.nilFunc]⟩) (.leaf 212 ⟨.other, 1, 8, .map none⟩)) (.node 220 (.leaf 220 ⟨.other, 1, 8, .nilFunc⟩) (.leaf 223 ⟨.ptr, 1, 8, .pointer none⟩))) (.node 227 (.node 225 (.leaf 225 ⟨.other, 1, 8, .nilFunc⟩) (.leaf 227 ⟨.other, 1, 8, .map none⟩)) (.node 232 (.leaf 232 ⟨.other, 1, 8, .nilFunc⟩) (.node 237 (.leaf 237 ⟨.struct [(0, 1)], 1, 8, .agg #[.int .i64 0]⟩) (.leaf 239 ⟨.slice 62, 1, 24, .slice none 0 0⟩)))))) (.node 276 (.node 252 (.node 248 (.node 246 (.leaf 246 ⟨.ptr, 1, 8, .pointer none⟩) (.leaf 248 ⟨.other, 1, 16, .nilIface⟩)) (.node 250 (.leaf 250 ⟨.struct [(0, 1), (1, 1), (2, 1), (3, 1)], 4, 40, .agg #[.nilIface, .int .i64 0, .int .i64 0, .int .i64 0]⟩) (.leaf 252 ⟨.other, 1, 8, .nilFunc⟩))) (.node 259 (.node 256 (.leaf 256 ⟨.struct [(0, 4), (4, 1), (5, 1), (6, 1)], 7, 96, .agg #[.nilIface, .int .i64 0, .int .i64 0, .int .i64 0, .bool false, .slice none 0 0, .slice none 0 0]⟩) (.leaf 259 ⟨.struct [(0, 1)], 1, 8, .agg #[.int .i64 0]⟩)) (.node 261 (.leaf 261 ⟨.slice 23, 1, 24, .slice none 0 0⟩) (.node 275 (.leaf 275 ⟨.slice 5, 1, 24, .slice none 0 0⟩) (.leaf 276 ⟨.array 3 173, 15, 120, .agg #[.int .i64 0, .int .i64 0, .int .i64 0, .int .i64 0, .int .i64 0, .int .i64 0, .int .i64 0, .int .i64 0, .int .i64 0, .int .i64 0, .int .i64 0, .int .i64 0, .int .i64 0, .int .i64 0, .int .i64 0]⟩))))) (.node 295 (.node 284 (.node 283 (.leaf 283 ⟨.other, 1, 8, .nilFunc⟩) (.leaf 284 ⟨.slice 60, 1, 24, .slice none 0 0⟩)) (.node 288 (.leaf 288 ⟨.struct [(0, 1)], 1, 8, .agg #[.int .i64 0]⟩) (.leaf 295 ⟨.struct [(0, 1)], 1, 8, .agg #[.int .i64 0]⟩))) (.node 300 (.node 297 (.leaf 297 ⟨.slice 250, 1, 24, .slice none 0 0⟩) (.leaf 300 ⟨.other, 1, 8, .map none⟩)) (.node 303 (.leaf 303 ⟨.struct [(0, 1), (1, 1), (2, 1)], 3, 40, .agg #[.slice none 0 0, .bool false, .int .i64 0]⟩) (.node 330 (.leaf 330 ⟨.struct [], 0, 0, .agg #[]⟩) (.leaf 331 ⟨.struct [], 0, 0, .agg #[]⟩))))))))
theorem tysOk : tys.All Tryz.prog := ⟨⟨⟨⟨⟨⟨te3, te4⟩, ⟨te5, te9⟩⟩, ⟨⟨te20, te23⟩, ⟨te25, te29⟩⟩⟩, ⟨⟨⟨te30, te35⟩, ⟨te47, te55⟩⟩, ⟨⟨te56, te60⟩, ⟨te62, ⟨te82, te84⟩⟩⟩⟩⟩, ⟨⟨⟨⟨te87, te97⟩, ⟨te100, te101⟩⟩, ⟨⟨te105, te108⟩, ⟨te114, te117⟩⟩⟩, ⟨⟨⟨te139, te152⟩, ⟨te158, te163⟩⟩, ⟨⟨te170, te173⟩, ⟨te180, ⟨te181, te182⟩⟩⟩⟩⟩⟩, ⟨⟨⟨⟨⟨te184, te185⟩, ⟨te186, te188⟩⟩, ⟨⟨te197, te198⟩, ⟨te204, te209⟩⟩⟩, ⟨⟨⟨te211, te212⟩, ⟨te220, te223⟩⟩, ⟨⟨te225, te227⟩, ⟨te232, ⟨te237, te239⟩⟩⟩⟩⟩, ⟨⟨⟨⟨te246, te248⟩, ⟨te250, te252⟩⟩, ⟨⟨te256, te259⟩, ⟨te261, ⟨te275, te276⟩⟩⟩⟩, ⟨⟨⟨te283, te284⟩, ⟨te288, te295⟩⟩, ⟨⟨te297, te300⟩, ⟨te303, ⟨te330, te331⟩⟩⟩⟩⟩⟩⟩
noncomputable def C : Ctx := ⟨Tryz.prog, [], tys.get, fun _ _ h => Tr.get_ok tysOk h⟩
theorem mixC : C.P.follows .mixedOrders = true := by kernel_rfl
theorem ZbX : C.P.funcs[116]? = some Tryz.f116 := Tryz.func116
theorem ZcW : Enters C.P 116 := Enters.mk ZbX (by kernel_rfl) (by kernel_rfl)
theorem ZcX : Tryz.f116.ntmps = 20 := Tryz.ntmps116
theorem ZcY : Tryz.f116.results = #[] := Tryz.results116
theorem ZcN : C.P.funcs[129]? = some Tryz.f129 := Tryz.func129
theorem Zez : Enters C.P 129 := Enters.mk ZcN (by kernel_rfl) (by kernel_rfl)
theorem ZeA : Tryz.f129.ntmps = 26 := Tryz.ntmps129
theorem ZeB : Tryz.f129.results = #[] := Tryz.results129
theorem Zcq : C.P.funcs[140]? = some Tryz.f140 := Tryz.func140
theorem Zdf : Enters C.P 140 := Enters.mk Zcq (by kernel_rfl) (by kernel_rfl)
theorem Zdg : Tryz.f140.ntmps = 20 := Tryz.ntmps140
theorem Zdh : Tryz.f140.results = #[] := Tryz.results140
theorem ZaK : C.P.funcs[158]? = some Tryz.f158 := Tryz.func158
theorem Zbo : Enters C.P 158 := Enters.mk ZaK (by kernel_rfl) (by kernel_rfl)
theorem Zbp : Tryz.f158.ntmps = 25 := Tryz.ntmps158
theorem Zbq : Tryz.f158.results = #[] := Tryz.results158
theorem Zh1 : C.P.funcs[165]? = some Tryz.f165 := Tryz.func165
theorem Zk7 : Enters C.P 165 := Enters.mk Zh1 (by kernel_rfl) (by kernel_rfl)
theorem Zk8 : Tryz.f165.ntmps = 23 := Tryz.ntmps165
theorem Zk9 : Tryz.f165.results = #[ResultVar.tmp 2] := Tryz.results165
theorem ZiO : C.P.funcs[167]? = some Tryz.f167 := Tryz.func167
theorem ZlG : Enters C.P 167 := Enters.mk ZiO (by kernel_rfl) (by kernel_rfl)
theorem ZlH : Tryz.f167.ntmps = 51 := Tryz.ntmps167
theorem ZlI : Tryz.f167.results = #[ResultVar.tmp 4] := Tryz.results167
theorem ZeC : C.P.funcs[173]? = some Tryz.f173 := Tryz.func173
theorem Zhy : Enters C.P 173 := Enters.mk ZeC (by kernel_rfl) (by kernel_rfl)
theorem Zhz : Tryz.f173.ntmps = 10 := Tryz.ntmps173
theorem ZhA : Tryz.f173.results = #[ResultVar.cell 4 60, ResultVar.cell 5 30] := Tryz.results173
theorem ZdG : C.P.funcs[185]? = some Tryz.f185 := Tryz.func185
theorem Zgl : Enters C.P 185 := Enters.mk ZdG (by kernel_rfl) (by kernel_rfl)
theorem Zgm : Tryz.f185.ntmps = 17 := Tryz.ntmps185
theorem Zgn : Tryz.f185.results = #[] := Tryz.results185
theorem ZcO : C.P.funcs[196]? = some Tryz.f196 := Tryz.func196
theorem ZeD : Enters C.P 196 := Enters.mk ZcO (by kernel_rfl) (by kernel_rfl)
theorem ZeE : Tryz.f196.ntmps = 26 := Tryz.ntmps196
theorem ZeF : Tryz.f196.results = #[] := Tryz.results196
theorem ZbY : C.P.funcs[210]? = some Tryz.f210 := Tryz.func210
theorem ZdY : Enters C.P 210 := Enters.mk ZbY (by kernel_rfl) (by kernel_rfl)
theorem ZdZ : Tryz.f210.ntmps = 26 := Tryz.ntmps210
theorem Zd0 : Tryz.f210.results = #[] := Tryz.results210
theorem ZaL : C.P.funcs[217]? = some Tryz.f217 := Tryz.func217
theorem ZbZ : Enters C.P 217 := Enters.mk ZaL (by kernel_rfl) (by kernel_rfl)
theorem Zb0 : Tryz.f217.ntmps = 9 := Tryz.ntmps217
theorem Zb1 : Tryz.f217.results = #[ResultVar.tmp 4] := Tryz.results217
theorem ZaW : C.P.funcs[220]? = some Tryz.f220 := Tryz.func220
theorem Zcr : Enters C.P 220 := Enters.mk ZaW (by kernel_rfl) (by kernel_rfl)
theorem Zcs : Tryz.f220.ntmps = 4 := Tryz.ntmps220
theorem Zct : Tryz.f220.results = #[ResultVar.tmp 2] := Tryz.results220
theorem ZdD : C.P.funcs[240]? = some Tryz.f240 := Tryz.func240
theorem Zfq : Enters C.P 240 := Enters.mk ZdD (by kernel_rfl) (by kernel_rfl)
theorem Zfr : Tryz.f240.ntmps = 15 := Tryz.ntmps240
theorem Zfs : Tryz.f240.results = #[] := Tryz.results240
theorem ZaX : C.P.funcs[282]? = some Tryz.f282 := Tryz.func282
theorem Zcu : Enters C.P 282 := Enters.mk ZaX (by kernel_rfl) (by kernel_rfl)
theorem Zcv : Tryz.f282.ntmps = 19 := Tryz.ntmps282
theorem Zcw : Tryz.f282.results = #[ResultVar.tmp 4] := Tryz.results282
theorem ZaP : C.P.funcs[283]? = some Tryz.f283 := Tryz.func283
theorem Zcd : Enters C.P 283 := Enters.mk ZaP (by kernel_rfl) (by kernel_rfl)
theorem Zce : Tryz.f283.ntmps = 19 := Tryz.ntmps283
theorem Zcf : Tryz.f283.results = #[] := Tryz.results283
theorem Zft : C.P.funcs[295]? = some Tryz.f295 := Tryz.func295
theorem Zin : Enters C.P 295 := Enters.mk Zft (by kernel_rfl) (by kernel_rfl)
theorem Zio : Tryz.f295.ntmps = 109 := Tryz.ntmps295
theorem Zip : Tryz.f295.results = #[ResultVar.tmp 4] := Tryz.results295
theorem ZgQ : C.P.funcs[315]? = some Tryz.f315 := Tryz.func315
theorem ZkA : Enters C.P 315 := Enters.mk ZgQ (by kernel_rfl) (by kernel_rfl)
theorem ZkB : Tryz.f315.ntmps = 46 := Tryz.ntmps315
theorem ZkC : Tryz.f315.results = #[ResultVar.tmp 6] := Tryz.results315
open Go.RowKit
section
variable {C : Ctx} {Q : Post} {ops : Array Oper} {rest : List Oper} {k : List Item} {env env' : List D} {H H' : Heap} {df : List ADef}
variable {dst : Option Tmp} {op : Op} {ty : TypeId} {pos : String} {aft : Array Edge} {gd : Option (Nat × Bool)} {d : D} {t : Tmp} {x y z : Operand} {T e : TypeId} {te tee : TE}
theorem Znc {T : TypeId} {d : D} (hx : evO C env x = some (.iface T d)) : OpH C ⟨dst, .panic x, ty, pos, aft, gd⟩ env H (fun _ _ => False) (fun d' H' => d' = .iface T d ∧ H' = H) := by
  refine ⟨fun L0 w μ a hs hv => ?_⟩;have ex := Zap hs hv hx;have ex' := ex;simp only [VR] at ex;obtain ⟨u, ex, _⟩ := ex
  have hrun : (execOp a.eval ⟨dst, .panic x, ty, pos, aft, gd⟩).run C.P w = .halt (.panic (.iface T u)) w := by
    simp only [execOp, ex, Instr.panic, Sem.run_bind, run_goPanic, Result.andThen_halt]
  unfold Oper.wp;rw [hrun];exact ⟨.iface T u, .iface T d, H, μ, rfl, rfl, ⟨rfl, rfl⟩, hs, by rw [← ex]; exact ex', Evo.refl _ _ _⟩
theorem Zix {T : TypeId} {d : D} (hg : gOk ops.toList env gd = some true) (hx : evO C env x = some (.iface T d)) (hp : Q (.pan (.iface T d)) env H df) : AOps C Q ops (⟨dst, .panic x, ty, pos, aft, gd⟩ :: rest) k env H df :=
  ZnO hg (Znc hx) (fun _ _ h => h.elim) (fun _ _ ⟨h1, h2⟩ => by subst h1; subst h2; exact hp)
def asSl : D → Option (Nat × List D)
  | .sl n cs => some (n, cs)
  | .nilsl => some (0, [])
  | _ => none
theorem asSl_ok {w : World} {L : Nat → Prop} {μ : List Nat} {H : Heap} {d : D} {n : Nat} {cs : List D} {v : Value} (h : asSl d = some (n, cs)) (hv : VR w L μ H d v) :
    ∃ a cap, v = .slice a n cap ∧ n ≤ cap ∧ cap ≤ maxLen ∧ (cs ≠ [] → ∃ ad, a = some ad ∧ ad.block < w.heap.size ∧ ¬ L ad.block ∧ VRL w L ad 0 cs) := by
  unfold asSl at h
  split at h
  · injection h with h; injection h with h1 h2; subst h1; subst h2; simpa only [VR] using hv
  · injection h with h; injection h with h1 h2; subst h1; subst h2
    simp only [VR] at hv;exact ⟨none, 0, hv, Nat.le_refl _, Nat.zero_le _, fun h => (h rfl).elim⟩
  cases h
theorem VRL_take {w : World} {L : Nat → Prop} {ad : Addr} {cs : List D} (h : VRL w L ad 0 cs) (n : Nat) : VRL w L ad 0 (cs.take n) := by
  refine Zfa fun j d hd => ?_
  rw [List.getElem?_take] at hd
  split at hd
  · exact Zf9 h hd
  cases hd
def bndO (C : Ctx) (env : List D) (dflt : Nat) : Option Operand → Option Nat
  | none => some dflt
  | some x => match evO C env x with
    | some (.int _ i) => if 0 ≤ i then some i.toNat else none
    | _ => none
theorem sub_sl {w : World} {L : Nat → Prop} {μ : List Nat} {H : Heap} {a : Option Addr} {n cap lo hi sz : Nat} {cs : List D} (h1 : n ≤ cap) (h2 : cap ≤ maxLen) (h3 : cs ≠ [] → ∃ ad, a = some ad ∧ ad.block < w.heap.size ∧ ¬ L ad.block ∧ VRL w L ad 0 cs) (hl : lo ≤ hi) (hh : hi ≤ n) (hlen : cs.length = n * sz) :
    VR w L μ H (.sl (hi - lo) ((cs.take (hi * sz)).drop (lo * sz))) (sliced a lo hi cap sz) := by
  simp only [VR, sliced];refine ⟨_, _, rfl, by omega, by omega, fun hne => ?_⟩
  have hcs : cs ≠ [] := by rintro rfl; simp at hne
  have hlt : lo < hi := by
    rcases Nat.lt_or_ge lo hi with h | h
    · exact h
    have : hi = lo := by omega
    subst this
    exfalso
    apply hne;simp [List.drop_eq_nil_iff, List.length_take]
  obtain ⟨ad, rfl, k1, k2, k3⟩ := h3 hcs;refine ⟨ad.add (lo * sz), by rw [if_neg (by omega)]; rfl, by rw [ZcT]; exact k1, by rw [ZcT]; exact k2, Zg0 (VRL_take k3 _) _⟩
theorem Znd {descE : TypeDesc} {sizeE bytesE : Nat} {zeroE : Value} {n lo hi : Nat} {cs : List D} {ol oh : Option Operand} (ht : UN C T (.slice e)) (hee : TIC C e descE sizeE bytesE zeroE) (hx : evO C env x = some d) (hd : asSl d = some (n, cs)) (hlo : bndO C env 0 ol = some lo) (hhi : bndO C env n oh = some hi) (hl : lo ≤ hi) (hh : hi ≤ n) (hlen : cs.length = n * sizeE) :
    OpQ C ⟨dst, .slice T x ol oh none, ty, pos, aft, gd⟩ env H (.sl (hi - lo) ((cs.take (hi * sizeE)).drop (lo * sizeE))) :=
  OpQ.of_run fun L w μ a he => by
    have ex := he _ _ hx;obtain ⟨a', cap, ex, h1, h2, h3⟩ := asSl_ok hd ex;have hsub := sub_sl (μ := μ) (H := H) h1 h2 h3 hl hh hlen;refine ⟨_, ?_, hsub⟩
    have hte : C.P.elem T = e := by unfold Program.elem; rw [show C.P.underlying T = some (.slice e) from ht]
    have ht' : C.P.underlying T = some (.slice (C.P.elem T)) := by rw [hte]; exact ht
    have hsz : ∀ w, (sizeOf (C.P.elem T)).run C.P w = .ok sizeE w := fun w => by rw [hte]; exact hee.run_size w
    have key : (Instr.sliceAt T (.slice a' n cap) (ol.map a.eval) (oh.map a.eval) none).run C.P w = .ok (sliced a' lo hi cap sizeE) w := by
      rw [run_sliceAt_slice _ _ _ _ _ _ ht']
      cases ol with
      | none =>
        simp only [bndO] at hlo
        injection hlo with hlo
        subst hlo
        cases oh with
        | none =>
          simp only [bndO] at hhi
          injection hhi with hhi
          subst hhi;simp only [Option.map_none];rw [run_slice_all _ _ _ _ _ ht', hsz];rfl
        | some q =>
          simp only [bndO] at hhi
          split at hhi
          · rename_i ik i hq
            split at hhi
            · rename_i h0
              injection hhi with hhi
              have eq := he _ _ hq;simp only [VR] at eq;simp only [Option.map_none, Option.map_some, eq];rw [run_slice_h _ _ _ _ _ ht' ik i h0 (by omega), hsz];simp [hhi]
            cases hhi
          cases hhi
      | some p =>
        simp only [bndO] at hlo
        split at hlo
        · rename_i ik i hp
          split at hlo
          · rename_i h0
            injection hlo with hlo
            have ep := he _ _ hp;simp only [VR] at ep
            cases oh with
            | none =>
              simp only [bndO] at hhi
              injection hhi with hhi
              subst hhi;simp only [Option.map_none, Option.map_some, ep];rw [run_slice_l _ _ _ _ _ ht' ik i h0 (by omega), hsz];simp [hlo]
            | some q =>
              simp only [bndO] at hhi
              split at hhi
              · rename_i ik' i' hq
                split at hhi
                · rename_i h0'
                  injection hhi with hhi
                  have eq := he _ _ hq;simp only [VR] at eq;simp only [Option.map_some, ep, eq];rw [run_slice_lh _ _ _ _ _ ht' ik ik' i i' h0 (by omega) (by omega), hsz];simp [hlo, hhi]
                cases hhi
              cases hhi
          cases hlo
        cases hlo
    simp only [execOp, ex, Sem.run_bind, Option.map_none, key, Result.andThen_ok, Sem.run_pure]
end
def Zar (ls : List Tmp) : Nat → List D → List D
  | _, [] => []
  | t, d :: ds => (bif ls.contains t then d else .any) :: Zar ls (t + 1) ds
theorem Zfd (ls : List Tmp) : ∀ (t : Nat) (env : List D), (Zar ls t env).length = env.length
  | _, [] => rfl
  | t, d :: ds => by simp [Zar, Zfd ls (t + 1) ds]
theorem ZhP (ls : List Tmp) : ∀ (t : Nat) (env : List D) (j : Nat), (Zar ls t env)[j]? = (env[j]?).map fun d => bif ls.contains (t + j) then d else .any
  | _, [], j => by simp [Zar]
  | t, d :: ds, 0 => by simp [Zar]
  | t, d :: ds, j + 1 => by
    simp only [Zar, List.getElem?_cons_succ, ZhP ls (t + 1) ds j];rw [show t + 1 + j = t + (j + 1) by omega]
theorem envLe_of {env env' : List D} (hl : env.length = env'.length) (h : ∀ (j : Nat) (d e : D), env[j]? = some d → env'[j]? = some e → e = d ∨ e = .any) : ZcU env env' := by
  induction env generalizing env' with
  | nil => cases env' with
    | nil => trivial
    | cons _ _ => simp at hl
  | cons d ds ih => cases env' with
    | nil => simp at hl
    | cons e es => exact ⟨h 0 d e rfl rfl, ih (by simpa using hl) fun j d' e' h1 h2 => h (j + 1) d' e' (by simpa using h1) (by simpa using h2)⟩
theorem ZhQ : ∀ {env env' : List D} {j : Nat} {e : D}, ZcU env env' → env'[j]? = some e → ∃ d, env[j]? = some d ∧ (e = d ∨ e = .any)
  | [], [], j, e, _, h => by simp at h
  | [], _ :: _, _, _, h, _ => h.elim
  | _ :: _, [], _, _, h, _ => h.elim
  | d :: ds, e :: es, 0, e', h, h' => by simp at h'; subst h'; exact ⟨d, rfl, h.1⟩
  | d :: ds, e :: es, j + 1, e', h, h' => by simpa using ZhQ h.2 (by simpa using h')
theorem gOk_le {ops : List Oper} {env env' : List D} {g : Option (Nat × Bool)} {r : Bool} (hle : ZcU env env') (h : gOk ops env' g = some r) : gOk ops env g = some r := by
  unfold gOk at h ⊢
  cases g with
  | none => exact h
  | some p =>
    obtain ⟨j, want⟩ := p;simp only at h ⊢
    cases ho : ops[j]? with
    | none => rw [ho] at h; simp at h
    | some o =>
      rw [ho] at h;simp only at h ⊢
      cases hd : o.dst with
      | none => rw [hd] at h; simp at h
      | some t =>
        rw [hd] at h;simp only at h ⊢
        cases he : env'[t]? with
        | none => rw [he] at h; simp at h
        | some e =>
          obtain ⟨d, h1, h2⟩ := ZhQ hle he;rw [he] at h;rw [h1]
          rcases h2 with rfl | rfl
          · exact h
          simp at h
theorem OpH.le {C : Ctx} {o : Oper} {env env' : List D} {H : Heap} {K KP : D → Heap → Prop} (hle : ZcU env env') (h : OpH C o env' H K KP) : OpH C o env H K KP :=
  ⟨fun L0 w μ a hs hv => h.out L0 w μ a hs (VRs.le hle hv)⟩
theorem wp_mono2 {P : Program} {o : Oper} {a : Act} {w : World} {K K' : Act → World → Prop} {Q Q' : Exit → Act → World → Prop} (hK : ∀ a w, K a w → K' a w) (hQ : ∀ e a w, Q e a w → Q' e a w) (h : o.wp P a w K Q) : o.wp P a w K' Q' := by
  have hL : LetsOut Q → LetsOut Q' := fun ⟨a0, w0, h0⟩ => ⟨a0, w0, hQ _ _ _ h0⟩
  unfold Oper.wp at *;generalize (execOp a.eval o).run P w = r at *
  cases r with
  | ok n w' =>
    cases n <;> simp only [Oper.upon] at h ⊢ <;>
      first
        | exact hK _ _ h
        | exact hQ _ _ _ h
        | exact Calls.mono h (fun e w'' he => by cases e <;> first | exact hK _ _ he | exact hQ _ _ _ he | exact hL he)
        | exact Rows.mono h (fun _ _ he => hK _ _ he)
  | halt x w' => cases x <;> simp only [Oper.upon] at h ⊢ <;> exact hQ _ _ _ h
theorem OpH.mono {C : Ctx} {o : Oper} {env : List D} {H : Heap} {K KP K' KP' : D → Heap → Prop} (hk : ∀ d H, K d H → K' d H) (hp : ∀ d H, KP d H → KP' d H) (h : OpH C o env H K KP) : OpH C o env H K' KP' :=
  ⟨fun L0 w μ a hs hv => wp_mono2 (fun _ _ ⟨v, d, H', μ', x, r⟩ => ⟨v, d, H', μ', hk _ _ x, r⟩) (fun _ _ _ ⟨v, d, H', μ', x, y, z, r⟩ => ⟨v, d, H', μ', x, y, hp _ _ z, r⟩) (h.out L0 w μ a hs hv)⟩
def OpG (C : Ctx) (o : Oper) (env : List D) (H : Heap) (d : D) (g : Prop) (KP : D → Prop) : Prop := OpH C o env H (fun d' H' => g ∧ d' = d ∧ H' = H) (fun d' H' => KP d' ∧ H' = H)
theorem OpQ.g {C : Ctx} {o : Oper} {env : List D} {H : Heap} {d : D} {KP : D → Prop} (h : OpQ C o env H d) : OpG C o env H d True KP := OpH.mono (fun _ _ ⟨a, b⟩ => ⟨trivial, a, b⟩) (fun _ _ h => h.elim) h
class Put (env : List D) (t : Option Tmp) (d : D) (env' : outParam (List D)) : Prop where
  eq : Zu env t d = env'
instance Put.none {env : List D} {d : D} : Put env none d env := ⟨rfl⟩
instance Put.zero {a d : D} {l : List D} : Put (a :: l) (some 0) d (d :: l) := ⟨rfl⟩
instance Put.succ {a d : D} {l l' : List D} {n : Nat} [h : Put l (some n) d l'] : Put (a :: l) (some (n + 1)) d (a :: l') := ⟨by have := h.eq; simp only [Zu] at this ⊢; simp [this]⟩
instance (priority := high) Put.eight {a b c e f g i j d : D} {l l' : List D} {n : Nat} [h : Put l (some n) d l'] : Put (a :: b :: c :: e :: f :: g :: i :: j :: l) (some (n + 8)) d (a :: b :: c :: e :: f :: g :: i :: j :: l') :=
  ⟨by have := h.eq; simp only [Zu] at this ⊢; simp [this]⟩
inductive DCh (C : Ctx) (ops : Array Oper) (H : Heap) (KP : D → Prop) : List Oper → List D → List D → Prop → Prop
  | nil {env : List D} : DCh C ops H KP [] env env True
  | op {o : Oper} {rest : List Oper} {env env' envF : List D} {d : D} {G : Prop} : gOk ops.toList (Zar (o.looksAt ops) 0 env) o.guard = some true → OpQ C o (Zar (o.looksAt ops) 0 env) H d → [Put env o.dst d env'] → DCh C ops H KP rest env' envF G → DCh C ops H KP (o :: rest) env envF G
  | opP {o : Oper} {rest : List Oper} {env env' envF : List D} {d : D} {g G : Prop} : gOk ops.toList (Zar (o.looksAt ops) 0 env) o.guard = some true → OpG C o (Zar (o.looksAt ops) 0 env) H d g KP → [Put env o.dst d env'] → DCh C ops H KP rest env' envF G → DCh C ops H KP (o :: rest) env envF (g ∧ G)
  | skip {o : Oper} {rest : List Oper} {env env' envF : List D} {G : Prop} : gOk ops.toList (Zar (o.looksAt ops) 0 env) o.guard = some false → [Put env o.dst (.tup []) env'] → DCh C ops H KP rest env' envF G → DCh C ops H KP (o :: rest) env envF G
def DAt (C : Ctx) (ops : Array Oper) (H : Heap) (KP : D → Prop) (o : Oper) (env : List D) (d : D) (g : Prop) : Prop :=
  (gOk ops.toList (Zar (o.looksAt ops) 0 env) o.guard = some true ∧ OpG C o (Zar (o.looksAt ops) 0 env) H d g KP) ∨ (gOk ops.toList (Zar (o.looksAt ops) 0 env) o.guard = some false ∧ d = .tup [] ∧ g)
theorem DCh.split {C : Ctx} {ops : Array Oper} {H : Heap} {KP : D → Prop} {l : List Oper} {env envF : List D} {G : Prop} (h : DCh C ops H KP l env envF G) :
    ∃ (e : Nat → List D) (dv : Nat → D) (g : Nat → Prop), e 0 = env ∧ e l.length = envF ∧ ((∀ i < l.length, g i) → G) ∧ ∀ (i : Nat) (o : Oper), l[i]? = some o → e (i + 1) = Zu (e i) o.dst (dv i) ∧ DAt C ops H KP o (e i) (dv i) (g i) := by
  induction h with
  | nil => exact ⟨fun _ => _, fun _ => .any, fun _ => True, rfl, rfl, fun _ => trivial, fun i o h => by simp at h⟩
  | @op o rest env env' envF d G h1 h2 hp _ ih =>
    obtain ⟨e, dv, g, k1, k2, k3, k4⟩ := ih;refine ⟨fun i => match i with | 0 => env | i + 1 => e i, fun i => match i with | 0 => d | i + 1 => dv i, fun i => match i with | 0 => True | i + 1 => g i, rfl, k2, fun hg => k3 fun i hi => hg (i + 1) (by simpa using hi), fun i o' ho => ?_⟩
    cases i with
    | zero => simp at ho; subst ho; exact ⟨k1.trans hp.eq.symm, .inl ⟨h1, h2.g⟩⟩
    | succ i => exact k4 i o' (by simpa using ho)
  | @opP o rest env env' envF d g0 G h1 h2 hp _ ih =>
    obtain ⟨e, dv, g, k1, k2, k3, k4⟩ := ih;refine ⟨fun i => match i with | 0 => env | i + 1 => e i, fun i => match i with | 0 => d | i + 1 => dv i, fun i => match i with | 0 => g0 | i + 1 => g i, rfl, k2, fun hg => ⟨hg 0 (by simp), k3 fun i hi => hg (i + 1) (by simpa using hi)⟩, fun i o' ho => ?_⟩
    cases i with
    | zero => simp at ho; subst ho; exact ⟨k1.trans hp.eq.symm, .inl ⟨h1, h2⟩⟩
    | succ i => exact k4 i o' (by simpa using ho)
  | @skip o rest env env' envF G h1 hp _ ih =>
    obtain ⟨e, dv, g, k1, k2, k3, k4⟩ := ih;refine ⟨fun i => match i with | 0 => env | i + 1 => e i, fun i => match i with | 0 => .tup [] | i + 1 => dv i, fun i => match i with | 0 => True | i + 1 => g i, rfl, k2, fun hg => k3 fun i hi => hg (i + 1) (by simpa using hi), fun i o' ho => ?_⟩
    cases i with
    | zero => simp at ho; subst ho; exact ⟨k1.trans hp.eq.symm, .inr ⟨h1, rfl, trivial⟩⟩
    | succ i => exact k4 i o' (by simpa using ho)
def hasE (ops : List Oper) (i j : Nat) : Bool := match ops[i]? with
  | some o => o.after.any fun e => e.on == j && Region.binds .any e
  | none => false
def ZgK (ops : List Oper) : Nat → Nat → Nat → Bool
  | 0, i, j => hasE ops i j
  | n + 1, i, j => hasE ops i j || (List.range i).any (fun k => hasE ops i k && ZgK ops n k j)
def Zid (n : Nat) (f : Nat → Bool) : Bool := (List.range n).all f
theorem Zd9 {n : Nat} {f : Nat → Bool} (h : Zid n f = true) {i : Nat} (hi : i < n) : f i = true := List.all_eq_true.1 h i (by simpa using hi)
def ZaN (ops : List Oper) (i : Nat) : Option Tmp := (ops[i]?).bind (·.dst)
def Zea (ops : List Oper) (m : Nat) : Bool :=
  Zid ops.length (fun i => match ops[i]? with
    | some o => o.after.all fun e => !Region.binds .any e || Nat.blt e.on i
    | none => false) &&
  Zid m (fun i => Zid m fun j => Nat.beq i j || match ops[i]?, ZaN ops j with
    | some o, some t => !(o.looksAt ops.toArray).contains t || bif Nat.blt j i then hasE ops i j else hasE ops j i
    | _, _ => true) &&
  Zid m (fun i => Zid m fun j => Nat.beq i j || match ZaN ops i, ZaN ops j with
    | some s, some t => !Nat.beq s t
    | _, _ => true) &&
  Zid ops.length (fun i => Nat.blt i m || Zid i fun j => ZgK ops 5 i j)
section
variable (m : Nat) (dst : Nat → Option Tmp) (dv : Nat → D) (env : List D)
def slotD (S : Nat → Bool) (t : Nat) (d0 : D) : D := match (List.range m).find? fun i => S i && dst i == some t with
  | some i => dv i
  | none => d0
def envS (S : Nat → Bool) : List D := env.mapIdx fun t d => slotD m dst dv S t d
end
section
variable {m : Nat} {dst : Nat → Option Tmp} {dv : Nat → D} {env : List D}
def Dist (m : Nat) (dst : Nat → Option Tmp) : Prop := ∀ i j t, i < m → j < m → dst i = some t → dst j = some t → i = j
theorem Zdb (hd : Dist m dst) {S : Nat → Bool} {i t : Nat} {d0 : D} (hi : i < m) (hs : S i = true) (ht : dst i = some t) : slotD m dst dv S t d0 = dv i := by
  unfold slotD
  cases hf : (List.range m).find? fun i => S i && dst i == some t with
  | none =>
    have := List.find?_eq_none.1 hf i (by simpa using hi);simp [hs, ht] at this
  | some j =>
    have h1 := List.find?_some hf;have h2 := List.mem_of_find?_eq_some hf;simp at h1 h2;have := hd i j t hi h2 ht h1.2;subst this;rfl
theorem Zbc {S : Nat → Bool} {t : Nat} {d0 : D} (h : ∀ i, i < m → S i = true → dst i ≠ some t) : slotD m dst dv S t d0 = d0 := by
  unfold slotD
  cases hf : (List.range m).find? fun i => S i && dst i == some t with
  | none => rfl
  | some j =>
    have h1 := List.find?_some hf;have h2 := List.mem_of_find?_eq_some hf;simp at h1 h2;exact (h j h2 h1.1 h1.2).elim
theorem Zds (S : Nat → Bool) (t : Nat) : (envS m dst dv env S)[t]? = (env[t]?).map fun d => slotD m dst dv S t d := by simp [envS]
theorem ZgL : envS m dst dv env (fun _ => false) = env := by
  apply List.ext_getElem?;intro t;rw [Zds]
  cases h : env[t]? with
  | none => rfl
  | some d => simp only [Option.map_some]; rw [Zbc (fun i _ h => by cases h)]
theorem envPut_get (l : List D) (o : Option Tmp) (d : D) (t : Nat) : (Zu l o d)[t]? = if o = some t then (l[t]?).map fun _ => d else l[t]? := by
  cases o with
  | none => simp [Zu]
  | some u =>
    simp only [Zu, List.getElem?_set, Option.some.injEq]
    by_cases h : u = t
    · subst h
      simp only [if_true]
      by_cases hu : u < l.length
      · simp [hu]
      simp [hu, List.getElem?_eq_none (Nat.le_of_not_lt hu)]
    simp [h]
theorem Zjc (hd : Dist m dst) {S S' : Nat → Bool} {i : Nat} (hi : i < m) (h1 : S' i = true) (h2 : ∀ j, j ≠ i → S' j = S j) : envS m dst dv env S' = Zu (envS m dst dv env S) (dst i) (dv i) := by
  apply List.ext_getElem?;intro t;rw [envPut_get, Zds, Zds]
  cases he : env[t]? with
  | none => simp
  | some d =>
    simp only [Option.map_some]
    split
    · rename_i ht
      rw [Zdb hd hi h1 ht]
    rename_i ht
    congr 1
    by_cases hx : ∃ j, j < m ∧ S' j = true ∧ dst j = some t
    · obtain ⟨j, k1, k2, k3⟩ := hx
      have hne : j ≠ i := fun e => by subst e; exact ht k3
      rw [Zdb hd k1 k2 k3, Zdb hd k1 (by rw [← h2 j hne]; exact k2) k3]
    have hn : ∀ j, j < m → S' j = true → dst j ≠ some t := fun j a b c => hx ⟨j, a, b, c⟩
    rw [Zbc hn, Zbc];intro j a b c
    have hne : j ≠ i := fun e => by subst e; exact ht c
    exact hn j a (by rw [h2 j hne]; exact b) c
theorem Zjd (hd : Dist m dst) {e : Nat → List D} (h0 : e 0 = env) (hs : ∀ i, i < m → e (i + 1) = Zu (e i) (dst i) (dv i)) : ∀ i, i ≤ m → e i = envS m dst dv env (fun j => decide (j < i))
  | 0, _ => by simp only [Nat.not_lt_zero, decide_false]; rw [ZgL]; exact h0
  | i + 1, h => by
    rw [hs i (by omega), Zjd hd h0 hs i (by omega)];refine (Zjc hd (by omega) (by simp) fun j hj => ?_).symm
    by_cases h1 : j < i
    · simp [h1]; omega
    have : ¬ j < i + 1 := by omega
    simp [h1, this]
end
theorem Zje : ∀ (n p : Nat), (List.range n).filter (fun i => i == p) = if p < n then [p] else []
  | 0, p => by simp
  | n + 1, p => by
    rw [List.range_succ, List.filter_append, Zje n p]
    by_cases h : p < n
    · have : ¬ n = p := by omega
      simp [h, this]; omega
    by_cases h2 : n = p
    · subst h2; simp
    have : ¬ p < n + 1 := by omega
    simp [h, h2, this]
structure OkD (l : List Oper) (m : Nat) : Prop where
  back : ∀ (i : Nat) (o : Oper), l[i]? = some o → ∀ e ∈ o.after, Region.binds .any e = true → e.on < i
  dep : ∀ (i j : Nat) (o : Oper) (t : Tmp), i < m → j < m → i ≠ j → l[i]? = some o → ZaN l j = some t → (o.looksAt l.toArray).contains t = true → (j < i → hasE l i j = true) ∧ (i < j → hasE l j i = true)
  dist : Dist m (ZaN l)
  suf : ∀ i, m ≤ i → i < l.length → ∀ j, j < i → ZgK l 5 i j = true
theorem OkD.of {l : List Oper} {m : Nat} (h : Zea l m = true) : OkD l m := by
  simp only [Zea, Bool.and_eq_true] at h;obtain ⟨⟨⟨h1, h2⟩, h3⟩, h4⟩ := h;refine ⟨fun i o ho e he hb => ?_, fun i j o t hi hj hij ho ht hl => ?_, fun i j t hi hj h5 h6 => ?_, fun i hm hi j hj => ?_⟩
  · have hi : i < l.length := (List.getElem?_eq_some_iff.1 ho).1
    have := Zd9 h1 hi;rw [ho] at this;have := Array.all_eq_true'.1 this e he;simp [hb] at this;exact this
  · have := Zd9 (Zd9 h2 hi) hj
    rw [ho, ht] at this;simp only [Bool.or_eq_true, hl, Bool.not_true] at this
    rcases this with h | h
    · exact (hij (Nat.eq_of_beq_eq_true h)).elim
    rcases h with h | h
    · cases h
    constructor
    · intro hlt
      have : Nat.blt j i = true := by simp [Nat.blt_eq]; exact hlt
      rw [this] at h;exact h
    intro hlt
    have : Nat.blt j i = false := by
      cases hb : Nat.blt j i with
      | false => rfl
      | true => simp [Nat.blt_eq] at hb; omega
    rw [this] at h;exact h
  · by_cases hij : i = j
    · exact hij
    have := Zd9 (Zd9 h3 hi) hj;rw [h5, h6] at this;simp at this;exact this
  have := Zd9 h4 hi;simp only [Bool.or_eq_true] at this
  rcases this with h | h
  · simp [Nat.blt_eq] at h; omega
  exact Zd9 h hj
def lst (listed : Array Bool) (j : Nat) : Bool := listed.getD j false
theorem Zb6 {l : List Oper} {listed : Array Bool} {i j : Nat} {o : Oper} (ho : l[i]? = some o) (h : hasE l i j = true) (ha : (o.after.all fun e => !Region.binds .any e || listed.getD e.on false) = true) : lst listed j = true := by
  unfold hasE at h;rw [ho] at h;obtain ⟨e, he, h2⟩ := Array.any_eq_true'.1 h;simp only [Bool.and_eq_true, beq_iff_eq] at h2;have := Array.all_eq_true'.1 ha e he;simp only [h2.2, Bool.not_true, Bool.false_or] at this;unfold lst;rw [← h2.1];exact this
theorem reach_cl {l : List Oper} {listed : Array Bool} (hcl : ∀ k, lst listed k = true → ∀ j, hasE l k j = true → lst listed j = true) : ∀ (n k j : Nat), lst listed k = true → ZgK l n k j = true → lst listed j = true
  | 0, k, j, hk, h => hcl k hk j h
  | n + 1, k, j, hk, h => by
    simp only [ZgK, Bool.or_eq_true, List.any_eq_true, Bool.and_eq_true] at h
    rcases h with h | ⟨k', _, h1, h2⟩
    · exact hcl k hk j h
    exact reach_cl hcl n k' j (hcl k hk k' h1) h2
theorem Zfe {l : List Oper} {listed : Array Bool} {i j : Nat} {o : Oper} (hcl : ∀ k, lst listed k = true → ∀ j, hasE l k j = true → lst listed j = true) (ho : l[i]? = some o) (n : Nat) (h : ZgK l n i j = true) (ha : (o.after.all fun e => !Region.binds .any e || listed.getD e.on false) = true) : lst listed j = true := by
  cases n with
  | zero => exact Zb6 ho h ha
  | succ n =>
    simp only [ZgK, Bool.or_eq_true, List.any_eq_true, Bool.and_eq_true] at h
    rcases h with h | ⟨k', _, h1, h2⟩
    · exact Zb6 ho h ha
    exact reach_cl hcl n k' j (Zb6 ho h1 ha) h2
theorem go_suf {l : List Oper} {m : Nat} (ok : OkD l m) : ∀ (fuel p t : Nat) (listed : Array Bool), listed.size = l.length → (∀ j, j < l.length → listed[j]? = some (decide (j < p))) → m ≤ p → l.length - p ≤ fuel → Region.linearise.go .any l.toArray fuel t listed [] = List.range' p (l.length - p)
  | 0, p, t, listed, _, _, _, hf => by
    have : l.length - p = 0 := by omega
    rw [this];simp [Region.linearise.go]
  | fuel + 1, p, t, listed, hsz, hl, hm, hf => by
    have hready : (List.range l.toArray.size).filter (fun i => !listed.getD i true && ((l.toArray[i]?).map (·.after.all fun e => !Region.binds .any e || listed.getD e.on false)).getD false) = if p < l.length then [p] else [] := by
      rw [← Zje, List.size_toArray];apply List.filter_congr;intro i hi
      have hi : i < l.length := by simpa using hi
      have hli : listed.getD i true = decide (i < p) := by simp [Array.getD_eq_getD_getElem?, hl i hi]
      obtain ⟨o, ho⟩ : ∃ o, l[i]? = some o := ⟨l[i], by simp [hi]⟩;rw [hli]
      rcases Nat.lt_trichotomy i p with h | h | h
      · have : ¬ i = p := by omega
        simp [h, this]
      · subst h
        have : (o.after.all fun e => !Region.binds .any e || listed.getD e.on false) = true := by
          apply Array.all_eq_true'.2;intro e he
          cases hb : Region.binds .any e with
          | false => rfl
          | true =>
            have h1 := ok.back i o ho e he hb;simp [Array.getD_eq_getD_getElem?, hl e.on (by omega), h1]
        have ho' : l.toArray[i]? = some o := by simpa using ho
        simp only [Nat.lt_irrefl, decide_false, Bool.not_false, Bool.true_and, ho', Option.map_some, Option.getD_some, this, beq_self_eq_true]
      have h1 : ¬ i < p := by omega
      have h2 : ¬ i = p := by omega
      have : (o.after.all fun e => !Region.binds .any e || listed.getD e.on false) = false := by
        cases hb : (o.after.all fun e => !Region.binds .any e || listed.getD e.on false) with
        | false => rfl
        | true =>
          have hcl : ∀ k, lst listed k = true → ∀ j, hasE l k j = true → lst listed j = true := by
            intro k hk j hj
            have hkl : k < l.length := by
              apply Classical.byContradiction;intro hn
              have : listed[k]? = none := by rw [Array.getElem?_eq_none_iff]; omega
              simp [lst, Array.getD_eq_getD_getElem?, this] at hk
            obtain ⟨o', ho'⟩ : ∃ o, l[k]? = some o := ⟨l[k], by simp [hkl]⟩;have hj' := hj;unfold hasE at hj';rw [ho'] at hj';obtain ⟨e, he, h2⟩ := Array.any_eq_true'.1 hj';simp only [Bool.and_eq_true, beq_iff_eq] at h2;have hb := ok.back k o' ho' e he h2.2
            have hkp : k < p := by
              have := hl k hkl;simp [lst, Array.getD_eq_getD_getElem?, this] at hk;exact hk
            have hjl := hl j (by omega)
            have : j < p := by omega
            simp [lst, Array.getD_eq_getD_getElem?, hjl, this]
          have := Zfe hcl ho 5 (ok.suf i (by omega) hi p h) hb;simp [lst, Array.getD_eq_getD_getElem?, hl p (by omega)] at this
      have ho' : l.toArray[i]? = some o := by simpa using ho
      simp only [h1, decide_false, Bool.not_false, Bool.true_and, ho', Option.map_some, Option.getD_some, this];simp [h2]
    simp only [Region.linearise.go];simp only [hready]
    by_cases hp : p < l.length
    · simp only [hp, if_true, List.length_singleton, Nat.mod_one, Nat.div_one, List.getElem?_cons_zero]
      rw [linearise_go_acc, List.reverse_singleton, List.singleton_append];rw [go_suf ok fuel (p + 1) t (listed.setIfInBounds p true) (by simp [hsz]) (fun j hj => ?_) (by omega) (by omega)]
      · rw [show l.length - p = (l.length - (p + 1)) + 1 by omega, List.range'_succ]
      rw [Array.getElem?_setIfInBounds]
      by_cases e : p = j
      · subst e; simp [hsz, hj]
      simp only [e, if_false, hl j hj]
      have : (j < p) ↔ (j < p + 1) := by omega
      simp [this]
    have : l.length - p = 0 := by omega
    simp [hp, this]
theorem AIdx.op {C : Ctx} {Q : Post} {ops : Array Oper} {i : Nat} {rest : List Nat} {k : List Item} {env : List D} {H : Heap} {df : List ADef} {o : Oper} {K KP : D → Heap → Prop} (ho : ops[i]? = some o) (hg : gOk ops.toList env o.guard = some true) (h : OpH C o env H K KP)
    (hk : ∀ d H', K d H' → ARun C Q (.inRegion ops rest :: k) (Zu env o.dst d) H' df) (hp : ∀ d H', KP d H' → Q (.pan d) env H' df) : ARun C Q (.inRegion ops (i :: rest) :: k) env H df := by
  refine ⟨fun L0 w0 μ0 H0 w μ a hs hv hd he b cs hrd => ?_⟩;have hw := Zet (C := C) hv hg;have h1 := h.out L0 w μ a hs hv
  rcases Zdj (rest := rest) ho hw h1 (by rintro ⟨a0, w1, v, d, H', μ', h2, _⟩; cases h2) b (.inr fun dd w' ⟨v, d, H', μ', _, h2, _⟩ => Zdq h2) k cs with
    ⟨a', w', ⟨v, d, H', μ', hK, rfl, hs', hd', he'⟩, hst⟩ | ⟨chain, w', todo, ⟨v, d, H', μ', hch, _, hK, hs', hd', he'⟩, hst⟩
  · have hst' := he'.step L0
    obtain ⟨e, a', w'', h3, h4⟩ := (hk d H' hK).out L0 w0 μ0 H0 w' μ' (a.put o.dst v) hs' (ZbL (VRs.step hst' hv) hd') (by rw [ZaB]; exact DfR.step hst' hd) (he.trans he') b cs (hrd.step he'.map);exact ⟨e, a', w'', h3, .of_steps hst h4⟩
  have hst' := he'.step L0
  injection hch with hch
  subst hch;exact ⟨.panic (pan1 v), a, w', ⟨.pan d, env, H', μ', df, hp d H' hK, hs', VRs.step hst' hv, DfR.step hst' hd, ⟨v, rfl, hd'⟩, he.trans he'⟩, todo, hst⟩
theorem AIdx.skip {C : Ctx} {Q : Post} {ops : Array Oper} {i : Nat} {rest : List Nat} {k : List Item} {env : List D} {H : Heap} {df : List ADef} {o : Oper} (ho : ops[i]? = some o) (hg : gOk ops.toList env o.guard = some false)
    (hk : ARun C Q (.inRegion ops rest :: k) (Zu env o.dst (.tup [])) H df) : ARun C Q (.inRegion ops (i :: rest) :: k) env H df := by
  refine ⟨fun L0 w0 μ0 H0 w μ a hs hv hd he b cs hrd => ?_⟩;have hw := Zet (C := C) hv hg;have hst := stepR_op_skip (P := C.P) (b := b) (a := a) (k := k) (cs := cs) (w := w) (ops := ops) (i := i) (rest := rest) (by simp [ho, hw]);simp only [ho, Option.bind_some] at hst;obtain ⟨e, a', w'', h3, h4⟩ := hk.out L0 w0 μ0 H0 w μ (a.put o.dst undef) hs (ZbL hv (by simp only [VR]; exact ⟨[], rfl, by simp [VRs]⟩)) (by rw [ZaB]; exact hd) he b cs hrd;exact ⟨e, a', w'', h3, .of_steps (.one hst) h4⟩
theorem least {n : Nat} {p : Nat → Bool} (h : ∃ j, j < n ∧ p j = false) : ∃ j, j < n ∧ p j = false ∧ ∀ i, i < j → p i = true := by
  induction n with
  | zero => obtain ⟨j, h1, _⟩ := h; omega
  | succ n ih =>
    by_cases hx : ∃ j, j < n ∧ p j = false
    · obtain ⟨j, h1, h2⟩ := ih hx
      exact ⟨j, by omega, h2⟩
    obtain ⟨j, h1, h2⟩ := h
    have hjn : j = n := by
      rcases Nat.lt_or_ge j n with h | h
      · exact (hx ⟨j, h, h2⟩).elim
      omega
    subst hjn;refine ⟨j, h1, h2, fun i hi => ?_⟩
    cases hp : p i with
    | true => rfl
    | false => exact (hx ⟨i, hi, hp⟩).elim
section
variable {C : Ctx} {Q : Post} {l suf : List Oper} {m : Nat} {k : List Item} {env envF : List D} {H : Heap} {df : List ADef} {KP : D → Prop} {G : Prop}
theorem draw_run (ok : OkD l m) (hm : m + suf.length = l.length) (hsuf : l.drop m = suf) {e : Nat → List D} {dv : Nat → D} {g : Nat → Prop} (he0 : e 0 = env) (heF : e m = envF) (hG : (∀ i < m, g i) → G)
    (hat : ∀ (i : Nat) (o : Oper), i < m → l[i]? = some o → e (i + 1) = Zu (e i) o.dst (dv i) ∧ DAt C l.toArray H KP o (e i) (dv i) (g i)) (hp : ∀ S d, KP d → Q (.pan d) (envS m (ZaN l) dv env S) H df) (hk : G → AOps C Q l.toArray suf k envF H df) :
    ∀ (fuel t : Nat) (listed : Array Bool), listed.size = l.length → listed.toList.count false = fuel → (∀ j, lst listed j = true → j < m ∧ g j ∧ ∀ i, hasE l j i = true → lst listed i = true) →
      ARun C Q (.inRegion l.toArray (Region.linearise.go .any l.toArray fuel t listed []) :: k) (envS m (ZaN l) dv env (lst listed)) H df := by
  have hlex := Zjd (m := m) (dst := ZaN l) (dv := dv) (env := env) ok.dist he0 (fun i hi => by
    obtain ⟨o, ho⟩ : ∃ o, l[i]? = some o := ⟨l[i]'(by omega), by simp⟩;have := (hat i o hi ho).1;simp only [ZaN, ho, Option.bind_some]
    exact this)
  have full : ∀ (fuel t : Nat) (listed : Array Bool), listed.size = l.length → listed.toList.count false = fuel → (∀ j, lst listed j = true → j < m ∧ g j ∧ ∀ i, hasE l j i = true → lst listed i = true) → (∀ j, j < m → lst listed j = true) →
      ARun C Q (.inRegion l.toArray (Region.linearise.go .any l.toArray fuel t listed []) :: k) (envS m (ZaN l) dv env (lst listed)) H df := by
    intro fuel t listed hsz hcnt hin hall
    have hlst : lst listed = fun j => decide (j < m) := by
      funext j
      cases h : lst listed j with
      | true => simp [(hin j h).1]
      | false =>
        cases h2 : decide (j < m) with
        | false => rfl
        | true => rw [hall j (by simpa using h2)] at h; cases h
    have hget : ∀ j, j < l.length → listed[j]? = some (decide (j < m)) := by
      intro j hj;have := congrFun hlst j;simp only [lst, Array.getD_eq_getD_getElem?] at this
      have hx : listed[j]? = some (listed[j]'(by omega)) := by simp [hsz, hj]
      rw [hx] at this ⊢
      simpa using this
    have hlist : listed.toList = List.replicate m true ++ List.replicate suf.length false := by
      apply List.ext_getElem?;intro j;rw [List.getElem?_append, List.getElem?_replicate, List.getElem?_replicate, Array.getElem?_toList];simp only [List.length_replicate]
      by_cases h : j < m
      · rw [hget j (by omega)]; simp [h]
      by_cases h2 : j < l.length
      · rw [hget j h2]; simp [h]; omega
      rw [Array.getElem?_eq_none (by omega)]; simp [h]; omega
    have hfuel : l.length - m ≤ fuel := by
      rw [hlist] at hcnt;simp [List.count_append, List.count_replicate] at hcnt;omega
    rw [go_suf ok fuel m t listed hsz hget (Nat.le_refl _) hfuel, hlst, ← hlex m (Nat.le_refl _), heF]
    have hgG := hG fun i hi => (hin i (hall i hi)).2.1
    have := (hk hgG).out m (by simpa using hsuf);rw [show l.length - m = suf.length by omega];exact this
  intro fuel
  induction fuel with
  | zero =>
    intro t listed hsz hcnt hin
    refine full 0 t listed hsz hcnt hin fun j hj => ?_
    have : false ∉ listed.toList := List.count_eq_zero.1 hcnt;unfold lst
    have hx : listed[j]? = some (listed[j]'(by omega)) := by simp
    rw [Array.getD_eq_getD_getElem?, hx]
    cases hb : listed[j]'(by omega) with
    | true => rfl
    | false => exact (this (by rw [← hb]; simp)).elim
  | succ fuel ih =>
    intro t listed hsz hcnt hin
    by_cases hall : ∀ j, j < m → lst listed j = true
    · exact full (fuel + 1) t listed hsz hcnt hin hall
    obtain ⟨p, hp1, hp2, hp3⟩ : ∃ j, j < m ∧ lst listed j = false ∧ ∀ i, i < j → lst listed i = true := by
      apply least;apply Classical.byContradiction;intro hn;apply hall;intro j hj
      cases h : lst listed j with
      | true => rfl
      | false => exact (hn ⟨j, hj, h⟩).elim
    have getOf : ∀ (d : Bool) (j : Nat), j < l.length → listed.getD j d = lst listed j := by
      intro d j hj
      have hx : listed[j]? = some (listed[j]'(by omega)) := by simp [hsz, hj]
      simp [lst, Array.getD_eq_getD_getElem?, hx]
    let rs := (List.range l.toArray.size).filter fun i => !listed.getD i true && ((l.toArray[i]?).map (·.after.all fun e => !Region.binds .any e || listed.getD e.on false)).getD false
    have hpr : p ∈ rs := by
      obtain ⟨o, ho⟩ : ∃ o, l[p]? = some o := ⟨l[p]'(by omega), by simp⟩
      have ho' : l.toArray[p]? = some o := by simpa using ho
      refine List.mem_filter.2 ⟨by simp; omega, ?_⟩;simp only [getOf true p (by omega), hp2, Bool.not_false, Bool.true_and, ho', Option.map_some, Option.getD_some];apply Array.all_eq_true'.2;intro e' he'
      cases hb : Region.binds .any e' with
      | false => rfl
      | true => simpa [lst] using hp3 e'.on (ok.back p o ho e' he' hb)
    have hlt : t % rs.length < rs.length := Nat.mod_lt _ (List.length_pos_of_mem hpr)
    have hgo : Region.linearise.go .any l.toArray (fuel + 1) t listed [] = rs[t % rs.length] :: Region.linearise.go .any l.toArray fuel (t / rs.length) (listed.setIfInBounds rs[t % rs.length] true) [] := by
      simp only [Region.linearise.go]
      have hx : rs[t % rs.length]? = some rs[t % rs.length] := by simp [hlt]
      change (match rs[t % rs.length]? with
        | some i => Region.linearise.go .any l.toArray fuel (t / rs.length) (listed.setIfInBounds i true) [i]
        | none => [].reverse) = _
      rw [hx];simp only;rw [linearise_go_acc, List.reverse_singleton, List.singleton_append]
    rw [hgo];generalize hi : rs[t % rs.length] = i
    have himem : i ∈ rs := by rw [← hi]; exact List.getElem_mem hlt
    obtain ⟨hir, hready⟩ := List.mem_filter.1 himem
    have hin' : i < l.length := by simpa using hir
    obtain ⟨o, ho⟩ : ∃ o, l[i]? = some o := ⟨l[i], by simp [hin']⟩
    have ho' : l.toArray[i]? = some o := by simpa using ho
    simp only [getOf true i hin', ho', Option.map_some, Option.getD_some, Bool.and_eq_true, Bool.not_eq_true'] at hready;obtain ⟨hnl, hdep⟩ := hready
    have him : i < m := by
      rcases Nat.lt_or_ge i m with h | h
      · exact h
      exfalso
      have := Zfe (fun k hk j hj => (hin k hk).2.2 j hj) ho 5 (ok.suf i h hin' p (by omega)) hdep;rw [hp2] at this;cases this
    have hnew : ∀ j, lst (listed.setIfInBounds i true) j = if j = i then true else lst listed j := by
      intro j;unfold lst;rw [Array.getD_eq_getD_getElem?, Array.getD_eq_getD_getElem?, Array.getElem?_setIfInBounds]
      by_cases e : i = j
      · subst e; simp [hsz, hin']
      have : ¬ j = i := fun h => e h.symm
      simp [e, this]
    have henv : envS m (ZaN l) dv env (lst (listed.setIfInBounds i true)) = Zu (envS m (ZaN l) dv env (lst listed)) o.dst (dv i) := by
      have := Zjc (dv := dv) (env := env) ok.dist (S := lst listed) (S' := lst (listed.setIfInBounds i true)) him (by rw [hnew]; simp) (fun j hj => by rw [hnew]; simp [hj])
      simpa only [ZaN, ho, Option.bind_some] using this
    have hcnt' : (listed.setIfInBounds i true).toList.count false = fuel := by
      have hx : listed.toList[i]? = some false := by
        have := getOf true i hin';rw [hnl, Array.getD_eq_getD_getElem?] at this
        have hy : listed[i]? = some (listed[i]'(by omega)) := by simp
        rw [hy] at this;simp only [Option.getD_some] at this;rw [Array.getElem?_toList, hy, this]
      rw [Array.toList_setIfInBounds, List.count_set (by simp; omega)]
      have : listed.toList[i]'(by simp; omega) = false := by
        have := List.getElem?_eq_some_iff.1 hx;exact this.2
      rw [this];simp [hcnt]
    have hnext : (g i) → ARun C Q (.inRegion l.toArray (Region.linearise.go .any l.toArray fuel (t / rs.length) (listed.setIfInBounds i true) []) :: k) (Zu (envS m (ZaN l) dv env (lst listed)) o.dst (dv i)) H df := by
      intro hgi;rw [← henv]
      refine ih _ _ (by simp [hsz]) hcnt' fun j hj => ?_
      rw [hnew] at hj
      by_cases e : j = i
      · subst e
        refine ⟨him, hgi, fun i' hi' => ?_⟩;rw [hnew]
        by_cases e2 : i' = j
        · simp [e2]
        simp only [e2, if_false]; exact Zb6 ho hi' hdep
      simp only [e, if_false] at hj;obtain ⟨a1, a2, a3⟩ := hin j hj;refine ⟨a1, a2, fun i' hi' => ?_⟩;rw [hnew]
      by_cases e2 : i' = i
      · simp [e2]
      simp only [e2, if_false]; exact a3 i' hi'
    have hmask : ZcU (envS m (ZaN l) dv env (lst listed)) (Zar (o.looksAt l.toArray) 0 (e i)) := by
      rw [hlex i (by omega)]
      refine envLe_of (by simp [envS, Zfd]) fun u d d' h1 h2 => ?_
      rw [ZhP, Zds] at h2;rw [Zds] at h1
      cases hu : env[u]? with
      | none => rw [hu] at h1; simp at h1
      | some d0 =>
        rw [hu] at h1 h2;simp only [Option.map_some, Option.some.injEq, Nat.zero_add] at h1 h2
        cases hc : (o.looksAt l.toArray).contains u with
        | false => rw [hc] at h2; right; rw [← h2]; rfl
        | true =>
          rw [hc] at h2
          left
          rw [← h2, ← h1];simp only [cond_true]
          by_cases hx : ∃ j, j < m ∧ ZaN l j = some u
          · obtain ⟨j, hj1, hj2⟩ := hx
            have hiff : lst listed j = decide (j < i) := by
              by_cases e : j = i
              · subst e; rw [hnl]; simp
              obtain ⟨d1, d2⟩ := ok.dep i j o u him hj1 (fun h => e h.symm) ho hj2 hc
              rcases Nat.lt_or_gt_of_ne e with h | h
              · rw [Zb6 ho (d1 h) hdep]; simp [h]
              have : ¬ j < i := by omega
              simp only [this, decide_false]
              cases hl : lst listed j with
              | false => rfl
              | true =>
                have := (hin j hl).2.2 i (d2 h);rw [hnl] at this;cases this
            cases hb : decide (j < i) with
            | true =>
              exact (Zdb (S := fun j => decide (j < i)) ok.dist hj1 hb hj2).trans (Zdb (S := lst listed) ok.dist hj1 (by rw [hiff]; exact hb) hj2).symm
            | false =>
              rw [Zbc, Zbc]
              · intro j' a1 a2 a3
                have := ok.dist j j' u hj1 a1 hj2 a3;subst this;rw [hiff, hb] at a2;cases a2
              intro j' a1 a2 a3;have := ok.dist j j' u hj1 a1 hj2 a3;subst this;rw [hb] at a2;cases a2
          rw [Zbc, Zbc]
          · exact fun j a1 _ a3 => hx ⟨j, a1, a3⟩
          exact fun j a1 _ a3 => hx ⟨j, a1, a3⟩
    rcases (hat i o him ho).2 with ⟨hg1, hop⟩ | ⟨hg1, hd, hgi⟩
    · exact AIdx.op ho' (gOk_le hmask hg1) (OpH.le hmask hop) (fun d H' ⟨x, y, z⟩ => by subst y; subst z; exact hnext x) (fun d H' ⟨x, y⟩ => by subst y; exact hp _ _ x)
    exact AIdx.skip ho' (gOk_le hmask hg1) (by rw [← hd]; exact hnext hgi)
theorem ZnW {id : Nat} {n : Nat} {pre : List Oper} (hmix : C.P.follows .mixedOrders = true) (hpre : l.take n = pre) (hsuf : l.drop n = suf) (hB : Zea l pre.length = true)
    (hch : DCh C l.toArray H KP pre env envF G) (hp : ∀ env' d, (∀ t, (∀ j, ZaN l j ≠ some t) → env'[t]? = env[t]?) → KP d → Q (.pan d) env' H df) (hk : G → AOps C Q l.toArray suf k envF H df) : ARun C Q (.code (.region id l.toArray true) :: k) env H df := by
  subst hpre;subst hsuf
  have hlen : (l.take n).length + (l.drop n).length = l.length := by rw [← List.length_append, List.take_append_drop]
  have hdr : l.drop (l.take n).length = l.drop n := by
    rw [List.length_take]
    rcases Nat.le_total n l.length with h | h
    · rw [Nat.min_eq_left h]
    rw [Nat.min_eq_right h, List.drop_of_length_le (Nat.le_refl _), List.drop_of_length_le h]
  obtain ⟨e, dv, g, h1, h2, h3, h4⟩ := hch.split
  have main := draw_run (OkD.of hB) hlen hdr h1 h2 h3 (fun i o hi ho => h4 i o (by
    rw [List.getElem?_take, if_pos (by rw [List.length_take] at hi; omega)]; exact ho)) (fun S d hd => hp _ d (fun t ht => by
    rw [Zds]
    cases env[t]? with
    | none => rfl
    | some x => simp only [Option.map_some]; rw [Zbc (fun j _ _ h3 => ht j h3)]) hd) hk
  refine ⟨fun L0 w0 μ0 H0 w μ a hs hv hd he b cs hrd => ?_⟩;have hst := stepR_region_draw (P := C.P) (b := b) (a := a) (k := k) (cs := cs) (w := w) (ops := l.toArray) (id := id);simp only [Region.schedule, hmix, Bool.true_or, if_true] at hst
  have hlst : lst (Array.replicate l.toArray.size false) = fun _ => false := by
    funext j
    unfold lst;rw [Array.getD_eq_getD_getElem?, Array.getElem?_replicate]
    split <;> rfl
  have hrun := main l.toArray.size (w.tape w.drawn (.order b.fn id)) (Array.replicate l.toArray.size false) (by simp) (by simp) (by
    intro j hj;rw [hlst] at hj
    cases hj)
  rw [hlst, ZgL] at hrun
  have hstep : Step w { w with drawn := w.drawn + 1 } (forb L0 μ H) (forb L0 μ H) μ μ H H :=
    ⟨Nat.le_refl _, fun _ _ _ => rfl, fun _ _ h => h, fun _ _ h => h, fun i x hx => ⟨x, hx, fun o e => ⟨o, e, rfl, rfl, rfl, fun b cur _ h => ⟨cur, h, rfl⟩⟩⟩⟩
  have hevo : Evo w { w with drawn := w.drawn + 1 } μ μ H H :=
    ⟨rfl, rfl, rfl, Nat.le_refl _, fun _ _ _ => rfl, fun _ _ h => h, fun _ _ h => h, fun i x hx => ⟨x, hx, fun o e => ⟨o, e, rfl, rfl, rfl, fun b cur _ h => ⟨cur, h, rfl⟩⟩⟩⟩
  have hs' : SR C L0 { w with drawn := w.drawn + 1 } μ H := hs.next hevo hs.len (fun i o b h1 h2 => (hs.obj i o b h1 h2).same rfl) hs.inj hs.own;obtain ⟨e', a', w', h5, h6⟩ := hrun.out L0 w0 μ0 H0 _ μ a hs' (VRs.step hstep hv) (DfR.step hstep hd) (he.trans hevo) b cs (hrd.step hevo.map);exact ⟨e', a', w', h5, .of_steps (.one hst) h6⟩
theorem ARun.drawn {id : Nat} {n : Nat} {pre : List Oper} (hmix : C.P.follows .mixedOrders = true) (hpre : l.take n = pre) (hsuf : l.drop n = suf) (hB : Zea l pre.length = true)
    (hch : DCh C l.toArray H KP pre env envF G) (hp : ∀ env' d, KP d → Q (.pan d) env' H df) (hk : G → AOps C Q l.toArray suf k envF H df) : ARun C Q (.code (.region id l.toArray true) :: k) env H df :=
  ZnW hmix hpre hsuf hB hch (fun env' d _ h => hp env' d h) hk
end
section
variable {C : Ctx} {env : List D} {H : Heap}
variable {dst : Option Tmp} {op : Op} {ty : TypeId} {pos : String} {aft : Array Edge} {gd : Option (Nat × Bool)} {d : D} {t : Tmp} {x y z : Operand} {T e : TypeId} {te tee : TE}
theorem ZaH (h : evO C env x = some d) : OpQ C ⟨dst, .move x, ty, pos, aft, gd⟩ env H d :=
  (o_move h)
theorem Za4 (h : evO C env x = some d) : OpQ C ⟨dst, .assign x, ty, pos, aft, gd⟩ env H d :=
  (ZmD h)
theorem Zaw {b : Bool} {d1 d2 : D} (h : evO C env x = some (.bool b)) (h1 : evO C env y = some d1) (h2 : evO C env z = some d2) (hd : (bif b then d1 else d2) = d) : OpQ C ⟨dst, .pick x y z, ty, pos, aft, gd⟩ env H d :=
  by have := o_pick (H := H) (dst := dst) (ty := ty) (pos := pos) (aft := aft) (gd := gd) h h1 h2; rw [← hd]; cases b <;> exact this
theorem Zaa {bop : BinOp} {ik : IntKind} {m n : Int} {xt yt : TypeId} (hx : evO C env x = some (.int ik m)) (hy : evO C env y = some (.int ik n)) (h : ZfH bop ik m n = some d) : OpQ C ⟨dst, .binOp bop xt x y yt, ty, pos, aft, gd⟩ env H d :=
  (o_int hx hy h)
theorem Zf {ik : IntKind} {m n r : Int} {xt yt : TypeId} (hx : evO C env x = some (.int ik m)) (hy : evO C env y = some (.int ik n)) (h : ik.wrap (m + n) = r) : OpQ C ⟨dst, .binOp .add xt x y yt, ty, pos, aft, gd⟩ env H (.int ik r) :=
  (o_add hx hy h)
theorem Zk {ik : IntKind} {m n r : Int} {xt yt : TypeId} (hx : evO C env x = some (.int ik m)) (hy : evO C env y = some (.int ik n)) (h : ik.wrap (m - n) = r) : OpQ C ⟨dst, .binOp .sub xt x y yt, ty, pos, aft, gd⟩ env H (.int ik r) :=
  (o_sub hx hy h)
theorem ZaC {ik : IntKind} {m n r : Int} {xt yt : TypeId} (hx : evO C env x = some (.int ik m)) (hy : evO C env y = some (.int ik n)) (h : ik.wrap (m * n) = r) : OpQ C ⟨dst, .binOp .mul xt x y yt, ty, pos, aft, gd⟩ env H (.int ik r) :=
  (o_mul hx hy h)
theorem ZaQ {ik : IntKind} {m n r : Int} {xt yt : TypeId} (hx : evO C env x = some (.int ik m)) (hy : evO C env y = some (.int ik n)) (h0 : n ≠ 0) (hr : ik.wrap (m.tdiv n) = r) : OpQ C ⟨dst, .binOp .quo xt x y yt, ty, pos, aft, gd⟩ env H (.int ik r) :=
  (o_quo hx hy h0 hr)
theorem Zdt {ik : IntKind} {m n r : Int} {xt yt : TypeId} (hx : evO C env x = some (.int ik m)) (hy : evO C env y = some (.int ik n)) (h0 : n ≠ 0) (hr : m.tmod n = r) : OpQ C ⟨dst, .binOp .rem xt x y yt, ty, pos, aft, gd⟩ env H (.int ik r) :=
  (o_rem hx hy h0 hr)
theorem ZfN {ik ik' : IntKind} {m n r : Int} {xt yt : TypeId} (hx : evO C env x = some (.int ik m)) (hy : evO C env y = some (.int ik' n)) (h0 : 0 ≤ n) (hr : ik.wrap (m * 2 ^ min n.toNat ik.bits) = r) : OpQ C ⟨dst, .binOp .shl xt x y yt, ty, pos, aft, gd⟩ env H (.int ik r) :=
  (o_shl hx hy h0 hr)
theorem Za5 {ik ik' : IntKind} {m n r : Int} {xt yt : TypeId} (hx : evO C env x = some (.int ik m)) (hy : evO C env y = some (.int ik' n)) (h0 : 0 ≤ n) (hr : m.fdiv (2 ^ min n.toNat ik.bits) = r) : OpQ C ⟨dst, .binOp .shr xt x y yt, ty, pos, aft, gd⟩ env H (.int ik r) :=
  (o_shr hx hy h0 hr)
theorem Zg4 {ik : IntKind} {m r : Int} {xt : TypeId} (hx : evO C env x = some (.int ik m)) (hr : ik.wrap (0 - m) = r) : OpQ C ⟨dst, .unOp .neg xt x, ty, pos, aft, gd⟩ env H (.int ik r) :=
  (o_neg hx hr)
theorem Zie {b : Bool} {xt : TypeId} (hx : evO C env x = some (.bool b)) : OpQ C ⟨dst, .unOp .not xt x, ty, pos, aft, gd⟩ env H (.bool (!b)) :=
  (o_not hx)
theorem Zo {ik ik' : IntKind} {m r : Int} {s t : TypeId} {sz by_ : Nat} {zv : Value} (hx : evO C env x = some (.int ik m)) (hs : C.ty s = some te) (ht : C.ty t = some ⟨.int ik', sz, by_, zv⟩) (hr : ik'.wrap m = r) : OpQ C ⟨dst, .convert s t x, ty, pos, aft, gd⟩ env H (.int ik' r) :=
  (Zme (ty_un hs) (ty_int ht) hx hr)
theorem Zdm {s t : Bool} {xt yt : TypeId} {sz by_ : Nat} {zv : Value} (hx : evO C env x = some (.bool s)) (hy : evO C env y = some (.bool t)) (ht : C.ty xt = some ⟨.bool, sz, by_, zv⟩) : OpQ C ⟨dst, .binOp .eql xt x y yt, ty, pos, aft, gd⟩ env H (.bool (s == t)) :=
  (ZmE (ty_bool ht) hx hy)
theorem Zbu {s t : Bool} {xt yt : TypeId} {sz by_ : Nat} {zv : Value} (hx : evO C env x = some (.bool s)) (hy : evO C env y = some (.bool t)) (ht : C.ty xt = some ⟨.bool, sz, by_, zv⟩) : OpQ C ⟨dst, .binOp .neq xt x y yt, ty, pos, aft, gd⟩ env H (.bool (!(s == t))) :=
  (ZmF (ty_bool ht) hx hy)
theorem ZD {cs : List D} {i : Nat} (hx : evO C env x = some (.tup cs)) (hi : cs[i]? = some d) : OpQ C ⟨dst, .extract x i, ty, pos, aft, gd⟩ env H d :=
  (Zmf hx hi)
theorem ZeG {f : FuncId} {caps : List Operand} {ds : List D} (h : evOs C env caps = some ds) : OpQ C ⟨dst, .makeFunc (.func f) #[] caps.toArray, ty, pos, aft, gd⟩ env H (.clos f ds) :=
  (ZlB h)
theorem ZH (hx : evO C env x = some d) (ht : C.ty T = some te) (hc : conK te.k = true) : OpQ C ⟨dst, .makeInterface T x, ty, pos, aft, gd⟩ env H (.iface T d) :=
  (Zk4 (ty_con ht hc) hx)
theorem q_nil (hx : evO C env x = some d) (hd : d.there = true) : OpQ C ⟨dst, .nilCheck x, ty, pos, aft, gd⟩ env H d :=
  (ZlC hx hd)
theorem ZP {cs : List D} (hx : evO C env x = some (.sptr cs)) (ht : C.ty T = some te) (ha : aggK te.k = false) (hd : cs[0]? = some d) : OpQ C ⟨dst, .load T x, ty, pos, aft, gd⟩ env H d :=
  (o_load (ZU ht).1 ((ZU ht).2.trans ha) hx hd)
theorem ZC {i off : Nat} {o : AObj} (hx : evO C env x = some (.ptr i off)) (ht : C.ty T = some te) (ha : aggK te.k = false) (ho : H[i]? = some (some o)) (hd : o.cells[off]? = some d) : OpQ C ⟨dst, .load T x, ty, pos, aft, gd⟩ env H d :=
  (Zm7 (ZU ht).1 ((ZU ht).2.trans ha) hx ho hd)
theorem Ze {cs ds : List D} (hx : evO C env x = some (.sptr cs)) (ht : C.ty T = some te) (ha : aggK te.k = true) (hd : cs.take te.size = ds) (hl : ds.length = te.size) : OpQ C ⟨dst, .load T x, ty, pos, aft, gd⟩ env H (.agg ds) :=
  (Zmg (ZU ht).1 ((ZU ht).2.trans ha) hx hd hl)
theorem Zp {i off : Nat} {o : AObj} {ds : List D} (hx : evO C env x = some (.ptr i off)) (ht : C.ty T = some te) (ha : aggK te.k = true) (ho : H[i]? = some (some o)) (hd : (o.cells.drop off).take te.size = ds) (hl : ds.length = te.size) : OpQ C ⟨dst, .load T x, ty, pos, aft, gd⟩ env H (.agg ds) :=
  (ZlD (ZU ht).1 ((ZU ht).2.trans ha) hx ho hd hl)
theorem ZZ {i off f o sz S b : Nat} {zv : Value} {pl : List (Nat × Nat)} (hx : evO C env x = some (.ptr i off)) (hs : C.ty T = some ⟨.struct pl, S, b, zv⟩) (hf : pl[f]? = some (o, sz)) (h0 : sz ≠ 0) : OpQ C ⟨dst, .fieldAddr T x f, ty, pos, aft, gd⟩ env H (.ptr i (off + o)) :=
  (o_fldP (ZhO hs) hf h0 hx)
theorem Zb7 {f o sz S b : Nat} {cs : List D} {zv : Value} {pl : List (Nat × Nat)} (hx : evO C env x = some (.sptr cs)) (hs : C.ty T = some ⟨.struct pl, S, b, zv⟩) (hf : pl[f]? = some (o, sz)) (h0 : sz ≠ 0) : OpQ C ⟨dst, .fieldAddr T x f, ty, pos, aft, gd⟩ env H (.sptr (cs.drop o)) :=
  (o_fldS (ZhO hs) hf h0 hx)
theorem Zm {n S b : Nat} {cs ds : List D} {ik : IntKind} {i : Int} {zv : Value} (hx : evO C env x = some (.sl n cs)) (hy : evO C env y = some (.int ik i)) (ht : C.ty T = some ⟨.slice e, S, b, zv⟩) (hee : C.ty e = some tee) (h0 : 0 ≤ i) (h1 : i < n) (hne : cs ≠ []) (hd : cs.drop (i.toNat * tee.size) = ds) : OpQ C ⟨dst, .indexAddr T x y, ty, pos, aft, gd⟩ env H (.sptr ds) :=
  by subst hd; exact (Zmh (Zax ht) (ZU hee).1 hx hy h0 h1 hne)
theorem ZS {id n S b : Nat} {o : AObj} {ik : IntKind} {i : Int} {zv : Value} {j : Nat} (hx : evO C env x = some (.row id n)) (hy : evO C env y = some (.int ik i)) (ht : C.ty T = some ⟨.slice e, S, b, zv⟩) (hee : C.ty e = some tee) (ho : H[id]? = some (some o)) (h0 : 0 ≤ i) (h1 : i < n) (hj : i.toNat * tee.size = j) : OpQ C ⟨dst, .indexAddr T x y, ty, pos, aft, gd⟩ env H (.ptr id j) :=
  by subst hj; exact (ZlE (Zax ht) (ZU hee).1 hx ho hy h0 h1)
theorem Zmi {n S b : Nat} {cs ds : List D} {ik : IntKind} {i : Int} {zv : Value} (hx : evO C env x = some (.sptr cs)) (hy : evO C env y = some (.int ik i)) (ht : C.ty T = some ⟨.array n e, S, b, zv⟩) (hee : C.ty e = some tee) (h0 : 0 ≤ i) (h1 : i < n) (hd : cs.drop (i.toNat * tee.size) = ds) : OpQ C ⟨dst, .indexAddr T x y, ty, pos, aft, gd⟩ env H (.sptr ds) :=
  by subst hd; exact (Zk5 (ty_array ht) (ZU hee).1 hx hy h0 h1)
theorem ZeH {s : ByteArray} {ik : IntKind} {i r : Int} {S b : Nat} {zv : Value} (hx : evO C env x = some (.str s)) (hy : evO C env y = some (.int ik i)) (ht : C.ty T = some ⟨.str, S, b, zv⟩) (h0 : 0 ≤ i) (h1 : i.toNat < s.size) (hr : ((s[i.toNat]'h1).toNat : Int) = r) : OpQ C ⟨dst, .index T x y, ty, pos, aft, gd⟩ env H (.int .u8 r) :=
  by subst hr; exact (ZlF (ty_str ht) hx hy h0 h1)
theorem ZdJ {n S b : Nat} {cs : List D} {zv : Value} (hx : evO C env x = some (.sl n cs)) (ht : C.ty T = some ⟨.slice e, S, b, zv⟩) : OpQ C ⟨dst, .call ⟨.builtin .len, #[x], #[T]⟩, ty, pos, aft, gd⟩ env H (.int .i64 n) :=
  (Zm9 (Zax ht) hx)
theorem Zbv {id n S b : Nat} {o : AObj} {zv : Value} (hx : evO C env x = some (.row id n)) (ho : H[id]? = some (some o)) (ht : C.ty T = some ⟨.slice e, S, b, zv⟩) : OpQ C ⟨dst, .call ⟨.builtin .len, #[x], #[T]⟩, ty, pos, aft, gd⟩ env H (.int .i64 n) :=
  (ZmG (Zax ht) hx ho)
theorem ZiP {s : ByteArray} {S b : Nat} {zv : Value} (hx : evO C env x = some (.str s)) (ht : C.ty T = some ⟨.str, S, b, zv⟩) : OpQ C ⟨dst, .call ⟨.builtin .len, #[x], #[T]⟩, ty, pos, aft, gd⟩ env H (.int .i64 s.size) :=
  (ZmH (ty_str ht) hx)
theorem Zif {ik : IntKind} {m n : Int} {t t' : TypeId} (hx : evO C env x = some (.int ik m)) (hy : evO C env y = some (.int ik n)) : OpQ C ⟨dst, .call ⟨.builtin .max, #[x, y], #[t, t']⟩, ty, pos, aft, gd⟩ env H (.int ik (max m n)) :=
  (o_max hx hy)
theorem Zgt {ik : IntKind} {m n : Int} {t t' : TypeId} (hx : evO C env x = some (.int ik m)) (hy : evO C env y = some (.int ik n)) : OpQ C ⟨dst, .call ⟨.builtin .min, #[x, y], #[t, t']⟩, ty, pos, aft, gd⟩ env H (.int ik (min m n)) :=
  (o_min hx hy)
theorem Zal {pl : List (Nat × Nat)} {S b : Nat} {zv : Value} {zs cs : List D} {parts : List (Nat × Operand)} {ps : List (Nat × D)} (hs : C.ty T = some ⟨.struct pl, S, b, zv⟩) (hz : Zas zv = some (.agg zs)) (hps : (parts.mapM fun p => (evO C env p.2).map fun d => (p.1, d)) = some ps) (hok : Zel H ps = true) (hf : ZfK (pl[·]?) zs ps = some cs) : OpQ C ⟨dst, .build T parts.toArray, ty, pos, aft, gd⟩ env H (.agg cs) :=
  (Znb (ZU hs).1 (ZhO hs) hz hps hok hf)
theorem Ze0 {n lo hi m S b : Nat} {cs ds : List D} {ol oh : Option Operand} {zv : Value} (hx : evO C env x = some d) (hd : asSl d = some (n, cs)) (ht : C.ty T = some ⟨.slice e, S, b, zv⟩) (hee : C.ty e = some tee) (hlo : bndO C env 0 ol = some lo) (hhi : bndO C env n oh = some hi) (hl : lo ≤ hi) (hh : hi ≤ n) (hlen : cs.length = n * tee.size) (hm : hi - lo = m) (hds : (cs.take (hi * tee.size)).drop (lo * tee.size) = ds) : OpQ C ⟨dst, .slice T x ol oh none, ty, pos, aft, gd⟩ env H (.sl m ds) :=
  by subst hm; subst hds; exact (Znd (Zax ht) (ZU hee).1 hx hd hlo hhi hl hh hlen)
end
end Go.V
