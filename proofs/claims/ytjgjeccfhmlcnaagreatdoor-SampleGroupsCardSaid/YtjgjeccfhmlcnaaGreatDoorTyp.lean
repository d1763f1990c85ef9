/-
  Contracts and plain lemmas. By an AI agent.
-/
import Derived.Test.YtjgjeccfhmlcnaaGreatDoorEngW
import Derived.Test.YtjgjeccfhmlcnaaGreatDoorSpec
set_option linter.unusedSimpArgs false
set_option linter.unusedVariables false
set_option linter.unusedSectionVars false
namespace Go.Proofs.YtjgjeccfhmlcnaaGreatDoor
open Go Go.Eng
set_option maxRecDepth 100000
instance : Agg Tryz.prog 46 10 := mkAgg Tryz.underlying46 rfl (ti := Tryz.t46) (by kernel_rfl) rfl
instance : Agg Tryz.prog 50 2 := mkAgg Tryz.underlying50 rfl (ti := Tryz.t50) (by kernel_rfl) rfl
instance : Agg Tryz.prog 54 12 := mkAgg Tryz.underlying54 rfl (ti := Tryz.t54) (by kernel_rfl) rfl
instance : Agg Tryz.prog 68 2 := mkAgg Tryz.underlying68 rfl (ti := Tryz.t68) (by kernel_rfl) rfl
instance : Agg Tryz.prog 72 4 := mkAgg Tryz.underlying72 rfl (ti := Tryz.t72) (by kernel_rfl) rfl
instance : Agg Tryz.prog 113 1 := mkAgg Tryz.underlying113 rfl (ti := Tryz.t113) (by kernel_rfl) rfl
instance : Agg Tryz.prog 119 2 := mkAgg Tryz.underlying119 rfl (ti := Tryz.t119) (by kernel_rfl) rfl
instance : Agg Tryz.prog 145 2 := mkAgg Tryz.underlying145 rfl (ti := Tryz.t145) (by kernel_rfl) rfl
instance : Agg Tryz.prog 165 8 := mkAgg Tryz.underlying165 rfl (ti := Tryz.t165) (by kernel_rfl) rfl
instance : Agg Tryz.prog 183 3 := mkAgg Tryz.underlying183 rfl (ti := Tryz.t183) (by kernel_rfl) rfl
instance : Agg Tryz.prog 188 64 := mkAgg Tryz.underlying188 rfl (ti := Tryz.t188) (by kernel_rfl) rfl
instance : Agg Tryz.prog 192 32 := mkAgg Tryz.underlying192 rfl (ti := Tryz.t192) (by kernel_rfl) rfl
instance : Agg Tryz.prog 195 256 := mkAgg Tryz.underlying195 rfl (ti := Tryz.t195) (by kernel_rfl) rfl
instance : Agg Tryz.prog 200 24 := mkAgg Tryz.underlying200 rfl (ti := Tryz.t200) (by kernel_rfl) rfl
instance : Agg Tryz.prog 222 1 := mkAgg Tryz.underlying222 rfl (ti := Tryz.t222) (by kernel_rfl) rfl
instance : Agg Tryz.prog 230 65 := mkAgg Tryz.underlying230 rfl (ti := Tryz.t230) (by kernel_rfl) rfl
instance : Agg Tryz.prog 237 2 := mkAgg Tryz.underlying237 rfl (ti := Tryz.t237) (by kernel_rfl) rfl
instance : One Tryz.prog 3 := mkOne Tryz.underlying3 rfl (ti := Tryz.t3) (by kernel_rfl) rfl
instance : One Tryz.prog 4 := mkOne Tryz.underlying4 rfl (ti := Tryz.t4) (by kernel_rfl) rfl
instance : One Tryz.prog 5 := mkOne Tryz.underlying5 rfl (ti := Tryz.t5) (by kernel_rfl) rfl
instance : One Tryz.prog 9 := mkOne Tryz.underlying9 rfl (ti := Tryz.t9) (by kernel_rfl) rfl
instance : One Tryz.prog 24 := mkOne Tryz.underlying24 rfl (ti := Tryz.t24) (by kernel_rfl) rfl
instance : One Tryz.prog 28 := mkOne Tryz.underlying28 rfl (ti := Tryz.t28) (by kernel_rfl) rfl
instance : One Tryz.prog 34 := mkOne Tryz.underlying34 rfl (ti := Tryz.t34) (by kernel_rfl) rfl
instance : One Tryz.prog 38 := mkOne Tryz.underlying38 rfl (ti := Tryz.t38) (by kernel_rfl) rfl
instance : One Tryz.prog 71 := mkOne Tryz.underlying71 rfl (ti := Tryz.t71) (by kernel_rfl) rfl
instance : One Tryz.prog 73 := mkOne Tryz.underlying73 rfl (ti := Tryz.t73) (by kernel_rfl) rfl
instance : One Tryz.prog 78 := mkOne Tryz.underlying78 rfl (ti := Tryz.t78) (by kernel_rfl) rfl
instance : One Tryz.prog 102 := mkOne Tryz.underlying102 rfl (ti := Tryz.t102) (by kernel_rfl) rfl
instance : One Tryz.prog 117 := mkOne Tryz.underlying117 rfl (ti := Tryz.t117) (by kernel_rfl) rfl
instance : One Tryz.prog 138 := mkOne Tryz.underlying138 rfl (ti := Tryz.t138) (by kernel_rfl) rfl
instance : One Tryz.prog 139 := mkOne Tryz.underlying139 rfl (ti := Tryz.t139) (by kernel_rfl) rfl
instance : One Tryz.prog 143 := mkOne Tryz.underlying143 rfl (ti := Tryz.t143) (by kernel_rfl) rfl
instance : One Tryz.prog 151 := mkOne Tryz.underlying151 rfl (ti := Tryz.t151) (by kernel_rfl) rfl
instance : One Tryz.prog 163 := mkOne Tryz.underlying163 rfl (ti := Tryz.t163) (by kernel_rfl) rfl
instance : Zer Tryz.prog 3 [(.int .i64 0)] := mkZer (ti := Tryz.t3) (by kernel_rfl) rfl rfl
instance : Zer Tryz.prog 24 [(.slice none 0 0)] := mkZer (ti := Tryz.t24) (by kernel_rfl) rfl rfl
instance : Zer Tryz.prog 28 [(.int .i64 0)] := mkZer (ti := Tryz.t28) (by kernel_rfl) rfl rfl
instance : Zer Tryz.prog 46 [(.int .i64 0), (.int .i64 0), (.int .i64 0), (.int .i64 0), (.int .i64 0), (.int .i64 0), (.int .i64 0), (.int .i64 0), (.int .i64 0), (.int .i64 0)] := mkZer (ti := Tryz.t46) (by kernel_rfl) rfl rfl
instance : Zer Tryz.prog 50 [(str []), (str [])] := mkZer (ti := Tryz.t50) (by kernel_rfl) rfl rfl
instance : Zer Tryz.prog 54 [(.int .i64 0), (.int .i64 0), (.int .i64 0), (.int .i64 0), (.int .i64 0), (.int .i64 0), (.int .i64 0), (.int .i64 0), (.int .i64 0), (.int .i64 0), (str []), (str [])] := mkZer (ti := Tryz.t54) (by kernel_rfl) rfl rfl
instance : Zer Tryz.prog 71 [(.slice none 0 0)] := mkZer (ti := Tryz.t71) (by kernel_rfl) rfl rfl
instance : Zer Tryz.prog 73 [(.map none)] := mkZer (ti := Tryz.t73) (by kernel_rfl) rfl rfl
instance : Zer Tryz.prog 117 [(.slice none 0 0)] := mkZer (ti := Tryz.t117) (by kernel_rfl) rfl rfl
instance : Zer Tryz.prog 119 [(.bool false), (.slice none 0 0)] := mkZer (ti := Tryz.t119) (by kernel_rfl) rfl rfl
instance : Zer Tryz.prog 139 [(.slice none 0 0)] := mkZer (ti := Tryz.t139) (by kernel_rfl) rfl rfl
instance : Zer Tryz.prog 145 [(.pointer none), (.slice none 0 0)] := mkZer (ti := Tryz.t145) (by kernel_rfl) rfl rfl
instance : Zer Tryz.prog 151 [.nilFunc] := mkZer (ti := Tryz.t151) (by kernel_rfl) rfl rfl
instance : Zer Tryz.prog 165 [(.int .u32 0), (.int .u32 0), (.int .u32 0), (.int .u32 0), (.int .u32 0), (.int .u32 0), (.int .u32 0), (.int .u32 0)] := mkZer (ti := Tryz.t165) (by kernel_rfl) rfl rfl
instance : Zer Tryz.prog 188 [(.int .u32 0), (.int .u32 0), (.int .u32 0), (.int .u32 0), (.int .u32 0), (.int .u32 0), (.int .u32 0), (.int .u32 0), (.int .u32 0), (.int .u32 0), (.int .u32 0), (.int .u32 0), (.int .u32 0), (.int .u32 0), (.int .u32 0), (.int .u32 0), (.int .u32 0), (.int .u32 0), (.int .u32 0), (.int .u32 0), (.int .u32 0), (.int .u32 0), (.int .u32 0), (.int .u32 0), (.int .u32 0), (.int .u32 0), (.int .u32 0), (.int .u32 0), (.int .u32 0), (.int .u32 0), (.int .u32 0), (.int .u32 0), (.int .u32 0), (.int .u32 0), (.int .u32 0), (.int .u32 0), (.int .u32 0), (.int .u32 0), (.int .u32 0), (.int .u32 0), (.int .u32 0), (.int .u32 0), (.int .u32 0), (.int .u32 0), (.int .u32 0), (.int .u32 0), (.int .u32 0), (.int .u32 0), (.int .u32 0), (.int .u32 0), (.int .u32 0), (.int .u32 0), (.int .u32 0), (.int .u32 0), (.int .u32 0), (.int .u32 0), (.int .u32 0), (.int .u32 0), (.int .u32 0), (.int .u32 0), (.int .u32 0), (.int .u32 0), (.int .u32 0), (.int .u32 0)] := mkZer (ti := Tryz.t188) (by kernel_rfl) rfl rfl
instance : Zer Tryz.prog 192 [(.int .u8 0), (.int .u8 0), (.int .u8 0), (.int .u8 0), (.int .u8 0), (.int .u8 0), (.int .u8 0), (.int .u8 0), (.int .u8 0), (.int .u8 0), (.int .u8 0), (.int .u8 0), (.int .u8 0), (.int .u8 0), (.int .u8 0), (.int .u8 0), (.int .u8 0), (.int .u8 0), (.int .u8 0), (.int .u8 0), (.int .u8 0), (.int .u8 0), (.int .u8 0), (.int .u8 0), (.int .u8 0), (.int .u8 0), (.int .u8 0), (.int .u8 0), (.int .u8 0), (.int .u8 0), (.int .u8 0), (.int .u8 0)] := mkZer (ti := Tryz.t192) (by kernel_rfl) rfl rfl
instance : Zer Tryz.prog 200 [(.int .u8 0), (.int .u8 0), (.int .u8 0), (.int .u8 0), (.int .u8 0), (.int .u8 0), (.int .u8 0), (.int .u8 0), (.int .u8 0), (.int .u8 0), (.int .u8 0), (.int .u8 0), (.int .u8 0), (.int .u8 0), (.int .u8 0), (.int .u8 0), (.int .u8 0), (.int .u8 0), (.int .u8 0), (.int .u8 0), (.int .u8 0), (.int .u8 0), (.int .u8 0), (.int .u8 0)] := mkZer (ti := Tryz.t200) (by kernel_rfl) rfl rfl
instance : Zer Tryz.prog 237 [(.int .u8 0), (.int .u8 0)] := mkZer (ti := Tryz.t237) (by kernel_rfl) rfl rfl
instance : Fld Tryz.prog 46 0 0 := ⟨fun w g o => by simp -dsimp [go_sem]⟩
instance : Fld Tryz.prog 46 1 1 := ⟨fun w g o => by simp -dsimp [go_sem]⟩
instance : Fld Tryz.prog 46 2 2 := ⟨fun w g o => by simp -dsimp [go_sem]⟩
instance : Fld Tryz.prog 46 3 3 := ⟨fun w g o => by simp -dsimp [go_sem]⟩
instance : Fld Tryz.prog 46 4 4 := ⟨fun w g o => by simp -dsimp [go_sem]⟩
instance : Fld Tryz.prog 46 5 5 := ⟨fun w g o => by simp -dsimp [go_sem]⟩
instance : Fld Tryz.prog 46 6 6 := ⟨fun w g o => by simp -dsimp [go_sem]⟩
instance : Fld Tryz.prog 46 7 7 := ⟨fun w g o => by simp -dsimp [go_sem]⟩
instance : Fld Tryz.prog 46 8 8 := ⟨fun w g o => by simp -dsimp [go_sem]⟩
instance : Fld Tryz.prog 46 9 9 := ⟨fun w g o => by simp -dsimp [go_sem]⟩
instance : Fld Tryz.prog 50 0 0 := ⟨fun w g o => by simp -dsimp [go_sem]⟩
instance : Fld Tryz.prog 50 1 1 := ⟨fun w g o => by simp -dsimp [go_sem]⟩
instance : Fld Tryz.prog 54 0 0 := ⟨fun w g o => by simp -dsimp [go_sem]⟩
instance : Fld Tryz.prog 54 1 10 := ⟨fun w g o => by simp -dsimp [go_sem]⟩
instance : Fld Tryz.prog 113 0 0 := ⟨fun w g o => by simp -dsimp [go_sem]⟩
instance : Fld Tryz.prog 119 0 0 := ⟨fun w g o => by simp -dsimp [go_sem]⟩
instance : Fld Tryz.prog 119 1 1 := ⟨fun w g o => by simp -dsimp [go_sem]⟩
instance : Fld Tryz.prog 145 0 0 := ⟨fun w g o => by simp -dsimp [go_sem]⟩
instance : Fld Tryz.prog 145 1 1 := ⟨fun w g o => by simp -dsimp [go_sem]⟩
instance : Fld Tryz.prog 237 0 0 := ⟨fun w g o => by simp -dsimp [go_sem]⟩
instance : Fld Tryz.prog 237 1 1 := ⟨fun w g o => by simp -dsimp [go_sem]⟩
instance : Ars Tryz.prog 68 2 1 := mkArs Tryz.underlying68 (ti := Tryz.t3) (by kernel_rfl) (by decide) rfl
instance : Arr Tryz.prog 68 2 1 := mkArr Tryz.underlying68 (ti := Tryz.t3) (by kernel_rfl) rfl
instance : Ars Tryz.prog 72 4 1 := mkArs Tryz.underlying72 (ti := Tryz.t3) (by kernel_rfl) (by decide) rfl
instance : Arr Tryz.prog 72 4 1 := mkArr Tryz.underlying72 (ti := Tryz.t3) (by kernel_rfl) rfl
instance : Ars Tryz.prog 165 8 1 := mkArs Tryz.underlying165 (ti := Tryz.t163) (by kernel_rfl) (by decide) rfl
instance : Arr Tryz.prog 165 8 1 := mkArr Tryz.underlying165 (ti := Tryz.t163) (by kernel_rfl) rfl
instance : Ars Tryz.prog 188 64 1 := mkArs Tryz.underlying188 (ti := Tryz.t163) (by kernel_rfl) (by decide) rfl
instance : Arr Tryz.prog 188 64 1 := mkArr Tryz.underlying188 (ti := Tryz.t163) (by kernel_rfl) rfl
instance : Ars Tryz.prog 192 32 1 := mkArs Tryz.underlying192 (ti := Tryz.t5) (by kernel_rfl) (by decide) rfl
instance : Arr Tryz.prog 192 32 1 := mkArr Tryz.underlying192 (ti := Tryz.t5) (by kernel_rfl) rfl
instance : Ars Tryz.prog 195 256 1 := mkArs Tryz.underlying195 (ti := Tryz.t4) (by kernel_rfl) (by decide) rfl
instance : Arr Tryz.prog 195 256 1 := mkArr Tryz.underlying195 (ti := Tryz.t4) (by kernel_rfl) rfl
instance : Ars Tryz.prog 200 24 1 := mkArs Tryz.underlying200 (ti := Tryz.t5) (by kernel_rfl) (by decide) rfl
instance : Arr Tryz.prog 200 24 1 := mkArr Tryz.underlying200 (ti := Tryz.t5) (by kernel_rfl) rfl
instance : Ars Tryz.prog 229 20 1 := mkArs Tryz.underlying229 (ti := Tryz.t138) (by kernel_rfl) (by decide) rfl
instance : Arr Tryz.prog 229 20 1 := mkArr Tryz.underlying229 (ti := Tryz.t138) (by kernel_rfl) rfl
instance : Ars Tryz.prog 230 65 1 := mkArs Tryz.underlying230 (ti := Tryz.t5) (by kernel_rfl) (by decide) rfl
instance : Arr Tryz.prog 230 65 1 := mkArr Tryz.underlying230 (ti := Tryz.t5) (by kernel_rfl) rfl
instance : Ars Tryz.prog 235 256 1 := mkArs Tryz.underlying235 (ti := Tryz.t5) (by kernel_rfl) (by decide) rfl
instance : Arr Tryz.prog 235 256 1 := mkArr Tryz.underlying235 (ti := Tryz.t5) (by kernel_rfl) rfl
instance : Ars Tryz.prog 238 16 2 := mkArs Tryz.underlying238 (ti := Tryz.t237) (by kernel_rfl) (by decide) rfl
instance : Arr Tryz.prog 238 16 2 := mkArr Tryz.underlying238 (ti := Tryz.t237) (by kernel_rfl) rfl
instance : Ars Tryz.prog 241 64 1 := mkArs Tryz.underlying241 (ti := Tryz.t5) (by kernel_rfl) (by decide) rfl
instance : Arr Tryz.prog 241 64 1 := mkArr Tryz.underlying241 (ti := Tryz.t5) (by kernel_rfl) rfl
instance : Slt Tryz.prog 22 68 2 := mkSlt Tryz.underlying22 (ti := Tryz.t68) (by kernel_rfl) rfl
instance : Slm Tryz.prog 22 68 [(.int .i64 0), (.int .i64 0)] := mkSlm Tryz.underlying22 (ti := Tryz.t68) (by kernel_rfl) rfl rfl rfl (by decide)
instance : Slt Tryz.prog 24 3 1 := mkSlt Tryz.underlying24 (ti := Tryz.t3) (by kernel_rfl) rfl
instance : Slm Tryz.prog 24 3 [(.int .i64 0)] := mkSlm Tryz.underlying24 (ti := Tryz.t3) (by kernel_rfl) rfl rfl rfl (by decide)
instance : Slt Tryz.prog 33 72 4 := mkSlt Tryz.underlying33 (ti := Tryz.t72) (by kernel_rfl) rfl
instance : Slm Tryz.prog 33 72 [(.int .i64 0), (.int .i64 0), (.int .i64 0), (.int .i64 0)] := mkSlm Tryz.underlying33 (ti := Tryz.t72) (by kernel_rfl) rfl rfl rfl (by decide)
instance : Slt Tryz.prog 34 46 10 := mkSlt Tryz.underlying34 (ti := Tryz.t46) (by kernel_rfl) rfl
instance : Slm Tryz.prog 34 46 [(.int .i64 0), (.int .i64 0), (.int .i64 0), (.int .i64 0), (.int .i64 0), (.int .i64 0), (.int .i64 0), (.int .i64 0), (.int .i64 0), (.int .i64 0)] := mkSlm Tryz.underlying34 (ti := Tryz.t46) (by kernel_rfl) rfl rfl rfl (by decide)
instance : Slt Tryz.prog 38 54 12 := mkSlt Tryz.underlying38 (ti := Tryz.t54) (by kernel_rfl) rfl
instance : Slm Tryz.prog 38 54 [(.int .i64 0), (.int .i64 0), (.int .i64 0), (.int .i64 0), (.int .i64 0), (.int .i64 0), (.int .i64 0), (.int .i64 0), (.int .i64 0), (.int .i64 0), (str []), (str [])] := mkSlm Tryz.underlying38 (ti := Tryz.t54) (by kernel_rfl) rfl rfl rfl (by decide)
instance : Slt Tryz.prog 71 4 1 := mkSlt Tryz.underlying71 (ti := Tryz.t4) (by kernel_rfl) rfl
instance : Slm Tryz.prog 71 4 [(.bool false)] := mkSlm Tryz.underlying71 (ti := Tryz.t4) (by kernel_rfl) rfl rfl rfl (by decide)
instance : Slt Tryz.prog 117 3 1 := mkSlt Tryz.underlying117 (ti := Tryz.t3) (by kernel_rfl) rfl
instance : Slm Tryz.prog 117 3 [(.int .i64 0)] := mkSlm Tryz.underlying117 (ti := Tryz.t3) (by kernel_rfl) rfl rfl rfl (by decide)
instance : Slt Tryz.prog 139 5 1 := mkSlt Tryz.underlying139 (ti := Tryz.t5) (by kernel_rfl) rfl
instance : Slm Tryz.prog 139 5 [(.int .u8 0)] := mkSlm Tryz.underlying139 (ti := Tryz.t5) (by kernel_rfl) rfl rfl rfl (by decide)
instance : Slt Tryz.prog 141 50 2 := mkSlt Tryz.underlying141 (ti := Tryz.t50) (by kernel_rfl) rfl
instance : Slm Tryz.prog 141 50 [(str []), (str [])] := mkSlm Tryz.underlying141 (ti := Tryz.t50) (by kernel_rfl) rfl rfl rfl (by decide)
instance : Slt Tryz.prog 191 163 1 := mkSlt Tryz.underlying191 (ti := Tryz.t163) (by kernel_rfl) rfl
instance : Slm Tryz.prog 191 163 [(.int .u32 0)] := mkSlm Tryz.underlying191 (ti := Tryz.t163) (by kernel_rfl) rfl rfl rfl (by decide)
instance : Bld Tryz.prog 46 [(0, 1), (1, 1), (2, 1), (3, 1), (4, 1), (5, 1), (6, 1), (7, 1), (8, 1), (9, 1)] [(.int .i64 0), (.int .i64 0), (.int .i64 0), (.int .i64 0), (.int .i64 0), (.int .i64 0), (.int .i64 0), (.int .i64 0), (.int .i64 0), (.int .i64 0)] := mkBldS Tryz.underlying46 (ti := Tryz.t46) (by kernel_rfl) rfl rfl (by kernel_rfl) (by kernel_rfl)
instance : Bld Tryz.prog 50 [(0, 1), (1, 1)] [(str []), (str [])] := mkBldS Tryz.underlying50 (ti := Tryz.t50) (by kernel_rfl) rfl rfl (by kernel_rfl) (by kernel_rfl)
instance : Bld Tryz.prog 54 [(0, 10), (10, 2)] [(.int .i64 0), (.int .i64 0), (.int .i64 0), (.int .i64 0), (.int .i64 0), (.int .i64 0), (.int .i64 0), (.int .i64 0), (.int .i64 0), (.int .i64 0), (str []), (str [])] := mkBldS Tryz.underlying54 (ti := Tryz.t54) (by kernel_rfl) rfl rfl (by kernel_rfl) (by kernel_rfl)
instance : Bld Tryz.prog 113 [(0, 1)] [(.bool false)] := mkBldS Tryz.underlying113 (ti := Tryz.t113) (by kernel_rfl) rfl rfl (by kernel_rfl) (by kernel_rfl)
instance : Bld Tryz.prog 119 [(0, 1), (1, 1)] [(.bool false), (.slice none 0 0)] := mkBldS Tryz.underlying119 (ti := Tryz.t119) (by kernel_rfl) rfl rfl (by kernel_rfl) (by kernel_rfl)
instance : Bld Tryz.prog 165 [(0, 1), (1, 1), (2, 1), (3, 1), (4, 1), (5, 1), (6, 1), (7, 1)] [(.int .u32 0), (.int .u32 0), (.int .u32 0), (.int .u32 0), (.int .u32 0), (.int .u32 0), (.int .u32 0), (.int .u32 0)] := mkBldA Tryz.underlying165 (ti := Tryz.t165) (by kernel_rfl) rfl rfl (te := Tryz.t163) (by kernel_rfl) (by decide) rfl rfl
instance : Bld Tryz.prog 183 [(0, 1), (1, 1), (2, 1)] [(str []), (str []), .nilIface] := mkBldS Tryz.underlying183 (ti := Tryz.t183) (by kernel_rfl) rfl rfl (by kernel_rfl) (by kernel_rfl)
instance : Bld Tryz.prog 222 [(0, 1)] [(str [])] := mkBldS Tryz.underlying222 (ti := Tryz.t222) (by kernel_rfl) rfl rfl (by kernel_rfl) (by kernel_rfl)
instance : StrT Tryz.prog 9 := ⟨Tryz.underlying9⟩
end Go.Proofs.YtjgjeccfhmlcnaaGreatDoor
