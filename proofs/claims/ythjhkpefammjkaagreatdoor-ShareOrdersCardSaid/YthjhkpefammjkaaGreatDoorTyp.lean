/-
  Contracts and plain lemmas. By an AI agent.
-/
import Derived.Test.YthjhkpefammjkaaGreatDoorEngW
import Derived.Test.YthjhkpefammjkaaGreatDoorSpec
set_option linter.unusedSimpArgs false
set_option linter.unusedVariables false
set_option linter.unusedSectionVars false
namespace Go.Proofs.YthjhkpefammjkaaGreatDoor
open Go Go.Eng
set_option maxRecDepth 100000
instance : Agg Tryz.prog 38 2 := mkAgg Tryz.underlying38 rfl (ti := Tryz.t38) (by kernel_rfl) rfl
instance : Agg Tryz.prog 44 3 := mkAgg Tryz.underlying44 rfl (ti := Tryz.t44) (by kernel_rfl) rfl
instance : Agg Tryz.prog 54 2 := mkAgg Tryz.underlying54 rfl (ti := Tryz.t54) (by kernel_rfl) rfl
instance : Agg Tryz.prog 107 1 := mkAgg Tryz.underlying107 rfl (ti := Tryz.t107) (by kernel_rfl) rfl
instance : Agg Tryz.prog 113 2 := mkAgg Tryz.underlying113 rfl (ti := Tryz.t113) (by kernel_rfl) rfl
instance : Agg Tryz.prog 135 2 := mkAgg Tryz.underlying135 rfl (ti := Tryz.t135) (by kernel_rfl) rfl
instance : Agg Tryz.prog 166 256 := mkAgg Tryz.underlying166 rfl (ti := Tryz.t166) (by kernel_rfl) rfl
instance : Agg Tryz.prog 193 24 := mkAgg Tryz.underlying193 rfl (ti := Tryz.t193) (by kernel_rfl) rfl
instance : Agg Tryz.prog 207 65 := mkAgg Tryz.underlying207 rfl (ti := Tryz.t207) (by kernel_rfl) rfl
instance : Agg Tryz.prog 212 3 := mkAgg Tryz.underlying212 rfl (ti := Tryz.t212) (by kernel_rfl) rfl
instance : Agg Tryz.prog 216 2 := mkAgg Tryz.underlying216 rfl (ti := Tryz.t216) (by kernel_rfl) rfl
instance : Agg Tryz.prog 223 1 := mkAgg Tryz.underlying223 rfl (ti := Tryz.t223) (by kernel_rfl) rfl
instance : One Tryz.prog 3 := mkOne Tryz.underlying3 rfl (ti := Tryz.t3) (by kernel_rfl) rfl
instance : One Tryz.prog 4 := mkOne Tryz.underlying4 rfl (ti := Tryz.t4) (by kernel_rfl) rfl
instance : One Tryz.prog 5 := mkOne Tryz.underlying5 rfl (ti := Tryz.t5) (by kernel_rfl) rfl
instance : One Tryz.prog 9 := mkOne Tryz.underlying9 rfl (ti := Tryz.t9) (by kernel_rfl) rfl
instance : One Tryz.prog 22 := mkOne Tryz.underlying22 rfl (ti := Tryz.t22) (by kernel_rfl) rfl
instance : One Tryz.prog 26 := mkOne Tryz.underlying26 rfl (ti := Tryz.t26) (by kernel_rfl) rfl
instance : One Tryz.prog 73 := mkOne Tryz.underlying73 rfl (ti := Tryz.t73) (by kernel_rfl) rfl
instance : One Tryz.prog 111 := mkOne Tryz.underlying111 rfl (ti := Tryz.t111) (by kernel_rfl) rfl
instance : One Tryz.prog 126 := mkOne Tryz.underlying126 rfl (ti := Tryz.t126) (by kernel_rfl) rfl
instance : One Tryz.prog 132 := mkOne Tryz.underlying132 rfl (ti := Tryz.t132) (by kernel_rfl) rfl
instance : One Tryz.prog 133 := mkOne Tryz.underlying133 rfl (ti := Tryz.t133) (by kernel_rfl) rfl
instance : One Tryz.prog 139 := mkOne Tryz.underlying139 rfl (ti := Tryz.t139) (by kernel_rfl) rfl
instance : One Tryz.prog 143 := mkOne Tryz.underlying143 rfl (ti := Tryz.t143) (by kernel_rfl) rfl
instance : One Tryz.prog 173 := mkOne Tryz.underlying173 rfl (ti := Tryz.t173) (by kernel_rfl) rfl
instance : Zer Tryz.prog 3 [(.int .i64 0)] := mkZer (ti := Tryz.t3) (by kernel_rfl) rfl rfl
instance : Zer Tryz.prog 38 [(str []), (str [])] := mkZer (ti := Tryz.t38) (by kernel_rfl) rfl rfl
instance : Zer Tryz.prog 111 [(.slice none 0 0)] := mkZer (ti := Tryz.t111) (by kernel_rfl) rfl rfl
instance : Zer Tryz.prog 113 [(.bool false), (.slice none 0 0)] := mkZer (ti := Tryz.t113) (by kernel_rfl) rfl rfl
instance : Zer Tryz.prog 135 [(.pointer none), (.slice none 0 0)] := mkZer (ti := Tryz.t135) (by kernel_rfl) rfl rfl
instance : Zer Tryz.prog 143 [.nilFunc] := mkZer (ti := Tryz.t143) (by kernel_rfl) rfl rfl
instance : Zer Tryz.prog 173 [(.int .u64 0)] := mkZer (ti := Tryz.t173) (by kernel_rfl) rfl rfl
instance : Zer Tryz.prog 193 [(.int .u8 0), (.int .u8 0), (.int .u8 0), (.int .u8 0), (.int .u8 0), (.int .u8 0), (.int .u8 0), (.int .u8 0), (.int .u8 0), (.int .u8 0), (.int .u8 0), (.int .u8 0), (.int .u8 0), (.int .u8 0), (.int .u8 0), (.int .u8 0), (.int .u8 0), (.int .u8 0), (.int .u8 0), (.int .u8 0), (.int .u8 0), (.int .u8 0), (.int .u8 0), (.int .u8 0)] := mkZer (ti := Tryz.t193) (by kernel_rfl) rfl rfl
instance : Zer Tryz.prog 216 [(.int .u8 0), (.int .u8 0)] := mkZer (ti := Tryz.t216) (by kernel_rfl) rfl rfl
instance : Fld Tryz.prog 38 0 0 := ⟨fun w g o => by simp -dsimp [go_sem]⟩
instance : Fld Tryz.prog 38 1 1 := ⟨fun w g o => by simp -dsimp [go_sem]⟩
instance : Fld Tryz.prog 107 0 0 := ⟨fun w g o => by simp -dsimp [go_sem]⟩
instance : Fld Tryz.prog 113 0 0 := ⟨fun w g o => by simp -dsimp [go_sem]⟩
instance : Fld Tryz.prog 113 1 1 := ⟨fun w g o => by simp -dsimp [go_sem]⟩
instance : Fld Tryz.prog 135 0 0 := ⟨fun w g o => by simp -dsimp [go_sem]⟩
instance : Fld Tryz.prog 135 1 1 := ⟨fun w g o => by simp -dsimp [go_sem]⟩
instance : Fld Tryz.prog 216 0 0 := ⟨fun w g o => by simp -dsimp [go_sem]⟩
instance : Fld Tryz.prog 216 1 1 := ⟨fun w g o => by simp -dsimp [go_sem]⟩
instance : Ars Tryz.prog 44 3 1 := mkArs Tryz.underlying44 (ti := Tryz.t3) (by kernel_rfl) (by decide) rfl
instance : Arr Tryz.prog 44 3 1 := mkArr Tryz.underlying44 (ti := Tryz.t3) (by kernel_rfl) rfl
instance : Ars Tryz.prog 54 2 1 := mkArs Tryz.underlying54 (ti := Tryz.t3) (by kernel_rfl) (by decide) rfl
instance : Arr Tryz.prog 54 2 1 := mkArr Tryz.underlying54 (ti := Tryz.t3) (by kernel_rfl) rfl
instance : Ars Tryz.prog 99 11 1 := mkArs Tryz.underlying99 (ti := Tryz.t3) (by kernel_rfl) (by decide) rfl
instance : Arr Tryz.prog 99 11 1 := mkArr Tryz.underlying99 (ti := Tryz.t3) (by kernel_rfl) rfl
instance : Ars Tryz.prog 166 256 1 := mkArs Tryz.underlying166 (ti := Tryz.t4) (by kernel_rfl) (by decide) rfl
instance : Arr Tryz.prog 166 256 1 := mkArr Tryz.underlying166 (ti := Tryz.t4) (by kernel_rfl) rfl
instance : Ars Tryz.prog 193 24 1 := mkArs Tryz.underlying193 (ti := Tryz.t5) (by kernel_rfl) (by decide) rfl
instance : Arr Tryz.prog 193 24 1 := mkArr Tryz.underlying193 (ti := Tryz.t5) (by kernel_rfl) rfl
instance : Ars Tryz.prog 206 20 1 := mkArs Tryz.underlying206 (ti := Tryz.t126) (by kernel_rfl) (by decide) rfl
instance : Arr Tryz.prog 206 20 1 := mkArr Tryz.underlying206 (ti := Tryz.t126) (by kernel_rfl) rfl
instance : Ars Tryz.prog 207 65 1 := mkArs Tryz.underlying207 (ti := Tryz.t5) (by kernel_rfl) (by decide) rfl
instance : Arr Tryz.prog 207 65 1 := mkArr Tryz.underlying207 (ti := Tryz.t5) (by kernel_rfl) rfl
instance : Ars Tryz.prog 214 256 1 := mkArs Tryz.underlying214 (ti := Tryz.t5) (by kernel_rfl) (by decide) rfl
instance : Arr Tryz.prog 214 256 1 := mkArr Tryz.underlying214 (ti := Tryz.t5) (by kernel_rfl) rfl
instance : Ars Tryz.prog 217 16 2 := mkArs Tryz.underlying217 (ti := Tryz.t216) (by kernel_rfl) (by decide) rfl
instance : Arr Tryz.prog 217 16 2 := mkArr Tryz.underlying217 (ti := Tryz.t216) (by kernel_rfl) rfl
instance : Ars Tryz.prog 224 32 1 := mkArs Tryz.underlying224 (ti := Tryz.t5) (by kernel_rfl) (by decide) rfl
instance : Arr Tryz.prog 224 32 1 := mkArr Tryz.underlying224 (ti := Tryz.t5) (by kernel_rfl) rfl
instance : Ars Tryz.prog 225 64 1 := mkArs Tryz.underlying225 (ti := Tryz.t5) (by kernel_rfl) (by decide) rfl
instance : Arr Tryz.prog 225 64 1 := mkArr Tryz.underlying225 (ti := Tryz.t5) (by kernel_rfl) rfl
instance : Slt Tryz.prog 22 3 1 := mkSlt Tryz.underlying22 (ti := Tryz.t3) (by kernel_rfl) rfl
instance : Slm Tryz.prog 22 3 [(.int .i64 0)] := mkSlm Tryz.underlying22 (ti := Tryz.t3) (by kernel_rfl) rfl rfl rfl (by decide)
instance : Slt Tryz.prog 25 22 1 := mkSlt Tryz.underlying25 (ti := Tryz.t22) (by kernel_rfl) rfl
instance : Slm Tryz.prog 25 22 [(.slice none 0 0)] := mkSlm Tryz.underlying25 (ti := Tryz.t22) (by kernel_rfl) rfl rfl rfl (by decide)
instance : Slt Tryz.prog 26 38 2 := mkSlt Tryz.underlying26 (ti := Tryz.t38) (by kernel_rfl) rfl
instance : Slm Tryz.prog 26 38 [(str []), (str [])] := mkSlm Tryz.underlying26 (ti := Tryz.t38) (by kernel_rfl) rfl rfl rfl (by decide)
instance : Slt Tryz.prog 41 26 1 := mkSlt Tryz.underlying41 (ti := Tryz.t26) (by kernel_rfl) rfl
instance : Slm Tryz.prog 41 26 [(.slice none 0 0)] := mkSlm Tryz.underlying41 (ti := Tryz.t26) (by kernel_rfl) rfl rfl rfl (by decide)
instance : Slt Tryz.prog 111 3 1 := mkSlt Tryz.underlying111 (ti := Tryz.t3) (by kernel_rfl) rfl
instance : Slm Tryz.prog 111 3 [(.int .i64 0)] := mkSlm Tryz.underlying111 (ti := Tryz.t3) (by kernel_rfl) rfl rfl rfl (by decide)
instance : Slt Tryz.prog 133 5 1 := mkSlt Tryz.underlying133 (ti := Tryz.t5) (by kernel_rfl) rfl
instance : Slm Tryz.prog 133 5 [(.int .u8 0)] := mkSlm Tryz.underlying133 (ti := Tryz.t5) (by kernel_rfl) rfl rfl rfl (by decide)
instance : Bld Tryz.prog 38 [(0, 1), (1, 1)] [(str []), (str [])] := mkBldS Tryz.underlying38 (ti := Tryz.t38) (by kernel_rfl) rfl rfl (by kernel_rfl) (by kernel_rfl)
instance : Bld Tryz.prog 107 [(0, 1)] [(.bool false)] := mkBldS Tryz.underlying107 (ti := Tryz.t107) (by kernel_rfl) rfl rfl (by kernel_rfl) (by kernel_rfl)
instance : Bld Tryz.prog 113 [(0, 1), (1, 1)] [(.bool false), (.slice none 0 0)] := mkBldS Tryz.underlying113 (ti := Tryz.t113) (by kernel_rfl) rfl rfl (by kernel_rfl) (by kernel_rfl)
instance : Bld Tryz.prog 212 [(0, 1), (1, 1), (2, 1)] [(str []), (str []), .nilIface] := mkBldS Tryz.underlying212 (ti := Tryz.t212) (by kernel_rfl) rfl rfl (by kernel_rfl) (by kernel_rfl)
instance : Bld Tryz.prog 223 [(0, 1)] [(str [])] := mkBldS Tryz.underlying223 (ti := Tryz.t223) (by kernel_rfl) rfl rfl (by kernel_rfl) (by kernel_rfl)
instance : StrT Tryz.prog 9 := ⟨Tryz.underlying9⟩
end Go.Proofs.YthjhkpefammjkaaGreatDoor
