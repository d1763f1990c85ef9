/-
  Contracts and plain lemmas. By an AI agent.
-/
import Derived.Test.YthdhnhghjecfkaaGreatEngW
import Derived.Test.YthdhnhghjecfkaaGreatSpec
set_option linter.unusedSimpArgs false
set_option linter.unusedVariables false
set_option linter.unusedSectionVars false
namespace Go.Proofs.YthdhnhghjecfkaaGreat
open Go Go.Eng
set_option maxRecDepth 100000
instance : Agg Tryz.prog 27 5 := mkAgg Tryz.underlying27 rfl (ti := Tryz.t27) (by kernel_rfl) rfl
instance : Agg Tryz.prog 30 9 := mkAgg Tryz.underlying30 rfl (ti := Tryz.t30) (by kernel_rfl) rfl
instance : Agg Tryz.prog 38 14 := mkAgg Tryz.underlying38 rfl (ti := Tryz.t38) (by kernel_rfl) rfl
instance : Agg Tryz.prog 42 10 := mkAgg Tryz.underlying42 rfl (ti := Tryz.t42) (by kernel_rfl) rfl
instance : Agg Tryz.prog 44 15 := mkAgg Tryz.underlying44 rfl (ti := Tryz.t44) (by kernel_rfl) rfl
instance : Agg Tryz.prog 46 4 := mkAgg Tryz.underlying46 rfl (ti := Tryz.t46) (by kernel_rfl) rfl
instance : Agg Tryz.prog 48 5 := mkAgg Tryz.underlying48 rfl (ti := Tryz.t48) (by kernel_rfl) rfl
instance : Agg Tryz.prog 62 11 := mkAgg Tryz.underlying62 rfl (ti := Tryz.t62) (by kernel_rfl) rfl
instance : Agg Tryz.prog 76 9 := mkAgg Tryz.underlying76 rfl (ti := Tryz.t76) (by kernel_rfl) rfl
instance : Agg Tryz.prog 78 10 := mkAgg Tryz.underlying78 rfl (ti := Tryz.t78) (by kernel_rfl) rfl
instance : Agg Tryz.prog 122 2 := mkAgg Tryz.underlying122 rfl (ti := Tryz.t122) (by kernel_rfl) rfl
instance : One Tryz.prog 3 := mkOne Tryz.underlying3 rfl (ti := Tryz.t3) (by kernel_rfl) rfl
instance : One Tryz.prog 4 := mkOne Tryz.underlying4 rfl (ti := Tryz.t4) (by kernel_rfl) rfl
instance : One Tryz.prog 24 := mkOne Tryz.underlying24 rfl (ti := Tryz.t24) (by kernel_rfl) rfl
instance : One Tryz.prog 25 := mkOne Tryz.underlying25 rfl (ti := Tryz.t25) (by kernel_rfl) rfl
instance : One Tryz.prog 28 := mkOne Tryz.underlying28 rfl (ti := Tryz.t28) (by kernel_rfl) rfl
instance : One Tryz.prog 35 := mkOne Tryz.underlying35 rfl (ti := Tryz.t35) (by kernel_rfl) rfl
instance : One Tryz.prog 60 := mkOne Tryz.underlying60 rfl (ti := Tryz.t60) (by kernel_rfl) rfl
instance : One Tryz.prog 68 := mkOne Tryz.underlying68 rfl (ti := Tryz.t68) (by kernel_rfl) rfl
instance : One Tryz.prog 70 := mkOne Tryz.underlying70 rfl (ti := Tryz.t70) (by kernel_rfl) rfl
instance : One Tryz.prog 84 := mkOne Tryz.underlying84 rfl (ti := Tryz.t84) (by kernel_rfl) rfl
instance : One Tryz.prog 160 := mkOne Tryz.underlying160 rfl (ti := Tryz.t160) (by kernel_rfl) rfl
instance : Zer Tryz.prog 3 [(.int .i64 0)] := mkZer (ti := Tryz.t3) (by kernel_rfl) rfl rfl
instance : Zer Tryz.prog 4 [(.bool false)] := mkZer (ti := Tryz.t4) (by kernel_rfl) rfl rfl
instance : Zer Tryz.prog 27 [(.int .i64 0), (.int .i64 0), (.int .i64 0), (.int .i64 0), (.int .i64 0)] := mkZer (ti := Tryz.t27) (by kernel_rfl) rfl rfl
instance : Zer Tryz.prog 30 [(.slice none 0 0), (.slice none 0 0), (.int .i64 0), (.int .i64 0), (.int .i64 0), (.int .i64 0), (.int .i64 0), (.int .i64 0), (.slice none 0 0)] := mkZer (ti := Tryz.t30) (by kernel_rfl) rfl rfl
instance : Zer Tryz.prog 38 [(.slice none 0 0), (.slice none 0 0), (.int .i64 0), (.int .i64 0), (.int .i64 0), (.int .i64 0), (.int .i64 0), (.int .i64 0), (.slice none 0 0), (.slice none 0 0), (.slice none 0 0), (.slice none 0 0), (.slice none 0 0), (.slice none 0 0)] := mkZer (ti := Tryz.t38) (by kernel_rfl) rfl rfl
instance : Zer Tryz.prog 42 [(.int .i64 0), (.int .i64 0), (.int .i64 0), (.int .i64 0), (.int .i64 0), (.int .i64 0), (.int .i64 0), (.int .i64 0), (.int .i64 0), (.int .i64 0)] := mkZer (ti := Tryz.t42) (by kernel_rfl) rfl rfl
instance : Zer Tryz.prog 44 [(.int .i64 0), (.int .i64 0), (.int .i64 0), (.int .i64 0), (.int .i64 0), (.int .i64 0), (.int .i64 0), (.int .i64 0), (.int .i64 0), (.int .i64 0), (.int .i64 0), (.int .i64 0), (.int .i64 0), (.int .i64 0), (.int .i64 0)] := mkZer (ti := Tryz.t44) (by kernel_rfl) rfl rfl
instance : Zer Tryz.prog 48 [(.int .i64 0), (.int .i64 0), (.slice none 0 0), (.int .i64 0), (.slice none 0 0)] := mkZer (ti := Tryz.t48) (by kernel_rfl) rfl rfl
instance : Zer Tryz.prog 62 [(.int .i64 0), (.int .i64 0), (.int .i64 0), (.int .i64 0), (.int .i64 0), (.int .i64 0), (.int .i64 0), (.int .i64 0), (.int .i64 0), (.int .i64 0), (.int .i64 0)] := mkZer (ti := Tryz.t62) (by kernel_rfl) rfl rfl
instance : Zer Tryz.prog 68 [.nilFunc] := mkZer (ti := Tryz.t68) (by kernel_rfl) rfl rfl
instance : Zer Tryz.prog 70 [(.pointer none)] := mkZer (ti := Tryz.t70) (by kernel_rfl) rfl rfl
instance : Zer Tryz.prog 122 [(.int .i64 0), (.int .i64 0)] := mkZer (ti := Tryz.t122) (by kernel_rfl) rfl rfl
instance : Zer Tryz.prog 160 [(.int .u64 0)] := mkZer (ti := Tryz.t160) (by kernel_rfl) rfl rfl
instance : Fld Tryz.prog 27 0 0 := ⟨fun w g o => by simp -dsimp [go_sem]⟩
instance : Fld Tryz.prog 27 1 1 := ⟨fun w g o => by simp -dsimp [go_sem]⟩
instance : Fld Tryz.prog 27 2 2 := ⟨fun w g o => by simp -dsimp [go_sem]⟩
instance : Fld Tryz.prog 27 3 3 := ⟨fun w g o => by simp -dsimp [go_sem]⟩
instance : Fld Tryz.prog 27 4 4 := ⟨fun w g o => by simp -dsimp [go_sem]⟩
instance : Fld Tryz.prog 30 0 0 := ⟨fun w g o => by simp -dsimp [go_sem]⟩
instance : Fld Tryz.prog 30 1 1 := ⟨fun w g o => by simp -dsimp [go_sem]⟩
instance : Fld Tryz.prog 30 2 2 := ⟨fun w g o => by simp -dsimp [go_sem]⟩
instance : Fld Tryz.prog 30 3 3 := ⟨fun w g o => by simp -dsimp [go_sem]⟩
instance : Fld Tryz.prog 30 4 8 := ⟨fun w g o => by simp -dsimp [go_sem]⟩
instance : Fld Tryz.prog 38 0 0 := ⟨fun w g o => by simp -dsimp [go_sem]⟩
instance : Fld Tryz.prog 38 1 9 := ⟨fun w g o => by simp -dsimp [go_sem]⟩
instance : Fld Tryz.prog 42 0 0 := ⟨fun w g o => by simp -dsimp [go_sem]⟩
instance : Fld Tryz.prog 42 1 1 := ⟨fun w g o => by simp -dsimp [go_sem]⟩
instance : Fld Tryz.prog 42 2 2 := ⟨fun w g o => by simp -dsimp [go_sem]⟩
instance : Fld Tryz.prog 42 3 3 := ⟨fun w g o => by simp -dsimp [go_sem]⟩
instance : Fld Tryz.prog 42 4 4 := ⟨fun w g o => by simp -dsimp [go_sem]⟩
instance : Fld Tryz.prog 42 5 5 := ⟨fun w g o => by simp -dsimp [go_sem]⟩
instance : Fld Tryz.prog 42 6 6 := ⟨fun w g o => by simp -dsimp [go_sem]⟩
instance : Fld Tryz.prog 42 7 7 := ⟨fun w g o => by simp -dsimp [go_sem]⟩
instance : Fld Tryz.prog 42 8 8 := ⟨fun w g o => by simp -dsimp [go_sem]⟩
instance : Fld Tryz.prog 42 9 9 := ⟨fun w g o => by simp -dsimp [go_sem]⟩
instance : Fld Tryz.prog 44 0 0 := ⟨fun w g o => by simp -dsimp [go_sem]⟩
instance : Fld Tryz.prog 44 1 1 := ⟨fun w g o => by simp -dsimp [go_sem]⟩
instance : Fld Tryz.prog 44 2 11 := ⟨fun w g o => by simp -dsimp [go_sem]⟩
instance : Fld Tryz.prog 44 3 12 := ⟨fun w g o => by simp -dsimp [go_sem]⟩
instance : Fld Tryz.prog 44 4 13 := ⟨fun w g o => by simp -dsimp [go_sem]⟩
instance : Fld Tryz.prog 44 5 14 := ⟨fun w g o => by simp -dsimp [go_sem]⟩
instance : Fld Tryz.prog 48 0 0 := ⟨fun w g o => by simp -dsimp [go_sem]⟩
instance : Fld Tryz.prog 48 1 1 := ⟨fun w g o => by simp -dsimp [go_sem]⟩
instance : Fld Tryz.prog 48 2 2 := ⟨fun w g o => by simp -dsimp [go_sem]⟩
instance : Fld Tryz.prog 48 3 3 := ⟨fun w g o => by simp -dsimp [go_sem]⟩
instance : Fld Tryz.prog 48 4 4 := ⟨fun w g o => by simp -dsimp [go_sem]⟩
instance : Fld Tryz.prog 62 0 0 := ⟨fun w g o => by simp -dsimp [go_sem]⟩
instance : Fld Tryz.prog 62 1 10 := ⟨fun w g o => by simp -dsimp [go_sem]⟩
instance : Fld Tryz.prog 76 0 0 := ⟨fun w g o => by simp -dsimp [go_sem]⟩
instance : Fld Tryz.prog 78 0 0 := ⟨fun w g o => by simp -dsimp [go_sem]⟩
instance : Fld Tryz.prog 78 1 9 := ⟨fun w g o => by simp -dsimp [go_sem]⟩
instance : Ars Tryz.prog 36 5 1 := mkArs Tryz.underlying36 (ti := Tryz.t35) (by kernel_rfl) (by decide) rfl
instance : Arr Tryz.prog 36 5 1 := mkArr Tryz.underlying36 (ti := Tryz.t35) (by kernel_rfl) rfl
instance : Ars Tryz.prog 46 4 1 := mkArs Tryz.underlying46 (ti := Tryz.t3) (by kernel_rfl) (by decide) rfl
instance : Arr Tryz.prog 46 4 1 := mkArr Tryz.underlying46 (ti := Tryz.t3) (by kernel_rfl) rfl
instance : Slt Tryz.prog 22 46 4 := mkSlt Tryz.underlying22 (ti := Tryz.t46) (by kernel_rfl) rfl
instance : Slm Tryz.prog 22 46 [(.int .i64 0), (.int .i64 0), (.int .i64 0), (.int .i64 0)] := mkSlm Tryz.underlying22 (ti := Tryz.t46) (by kernel_rfl) rfl rfl rfl (by decide)
instance : Slt Tryz.prog 24 60 1 := mkSlt Tryz.underlying24 (ti := Tryz.t60) (by kernel_rfl) rfl
instance : Slm Tryz.prog 24 60 [(.slice none 0 0)] := mkSlm Tryz.underlying24 (ti := Tryz.t60) (by kernel_rfl) rfl rfl rfl (by decide)
instance : Slt Tryz.prog 25 3 1 := mkSlt Tryz.underlying25 (ti := Tryz.t3) (by kernel_rfl) rfl
instance : Slm Tryz.prog 25 3 [(.int .i64 0)] := mkSlm Tryz.underlying25 (ti := Tryz.t3) (by kernel_rfl) rfl rfl rfl (by decide)
instance : Slt Tryz.prog 28 48 5 := mkSlt Tryz.underlying28 (ti := Tryz.t48) (by kernel_rfl) rfl
instance : Slm Tryz.prog 28 48 [(.int .i64 0), (.int .i64 0), (.slice none 0 0), (.int .i64 0), (.slice none 0 0)] := mkSlm Tryz.underlying28 (ti := Tryz.t48) (by kernel_rfl) rfl rfl rfl (by decide)
instance : Slt Tryz.prog 35 42 10 := mkSlt Tryz.underlying35 (ti := Tryz.t42) (by kernel_rfl) rfl
instance : Slm Tryz.prog 35 42 [(.int .i64 0), (.int .i64 0), (.int .i64 0), (.int .i64 0), (.int .i64 0), (.int .i64 0), (.int .i64 0), (.int .i64 0), (.int .i64 0), (.int .i64 0)] := mkSlm Tryz.underlying35 (ti := Tryz.t42) (by kernel_rfl) rfl rfl rfl (by decide)
instance : Slt Tryz.prog 59 44 15 := mkSlt Tryz.underlying59 (ti := Tryz.t44) (by kernel_rfl) rfl
instance : Slm Tryz.prog 59 44 [(.int .i64 0), (.int .i64 0), (.int .i64 0), (.int .i64 0), (.int .i64 0), (.int .i64 0), (.int .i64 0), (.int .i64 0), (.int .i64 0), (.int .i64 0), (.int .i64 0), (.int .i64 0), (.int .i64 0), (.int .i64 0), (.int .i64 0)] := mkSlm Tryz.underlying59 (ti := Tryz.t44) (by kernel_rfl) rfl rfl rfl (by decide)
instance : Slt Tryz.prog 60 62 11 := mkSlt Tryz.underlying60 (ti := Tryz.t62) (by kernel_rfl) rfl
instance : Slm Tryz.prog 60 62 [(.int .i64 0), (.int .i64 0), (.int .i64 0), (.int .i64 0), (.int .i64 0), (.int .i64 0), (.int .i64 0), (.int .i64 0), (.int .i64 0), (.int .i64 0), (.int .i64 0)] := mkSlm Tryz.underlying60 (ti := Tryz.t62) (by kernel_rfl) rfl rfl rfl (by decide)
instance : Slt Tryz.prog 120 4 1 := mkSlt Tryz.underlying120 (ti := Tryz.t4) (by kernel_rfl) rfl
instance : Slm Tryz.prog 120 4 [(.bool false)] := mkSlm Tryz.underlying120 (ti := Tryz.t4) (by kernel_rfl) rfl rfl rfl (by decide)
instance : Bld Tryz.prog 27 [(0, 1), (1, 1), (2, 1), (3, 1), (4, 1)] [(.int .i64 0), (.int .i64 0), (.int .i64 0), (.int .i64 0), (.int .i64 0)] := mkBldS Tryz.underlying27 (ti := Tryz.t27) (by kernel_rfl) rfl rfl (by kernel_rfl) (by kernel_rfl)
instance : Bld Tryz.prog 30 [(0, 1), (1, 1), (2, 1), (3, 5), (8, 1)] [(.slice none 0 0), (.slice none 0 0), (.int .i64 0), (.int .i64 0), (.int .i64 0), (.int .i64 0), (.int .i64 0), (.int .i64 0), (.slice none 0 0)] := mkBldS Tryz.underlying30 (ti := Tryz.t30) (by kernel_rfl) rfl rfl (by kernel_rfl) (by kernel_rfl)
instance : Bld Tryz.prog 38 [(0, 9), (9, 5)] [(.slice none 0 0), (.slice none 0 0), (.int .i64 0), (.int .i64 0), (.int .i64 0), (.int .i64 0), (.int .i64 0), (.int .i64 0), (.slice none 0 0), (.slice none 0 0), (.slice none 0 0), (.slice none 0 0), (.slice none 0 0), (.slice none 0 0)] := mkBldS Tryz.underlying38 (ti := Tryz.t38) (by kernel_rfl) rfl rfl (by kernel_rfl) (by kernel_rfl)
instance : Bld Tryz.prog 42 [(0, 1), (1, 1), (2, 1), (3, 1), (4, 1), (5, 1), (6, 1), (7, 1), (8, 1), (9, 1)] [(.int .i64 0), (.int .i64 0), (.int .i64 0), (.int .i64 0), (.int .i64 0), (.int .i64 0), (.int .i64 0), (.int .i64 0), (.int .i64 0), (.int .i64 0)] := mkBldS Tryz.underlying42 (ti := Tryz.t42) (by kernel_rfl) rfl rfl (by kernel_rfl) (by kernel_rfl)
instance : Bld Tryz.prog 44 [(0, 1), (1, 10), (11, 1), (12, 1), (13, 1), (14, 1)] [(.int .i64 0), (.int .i64 0), (.int .i64 0), (.int .i64 0), (.int .i64 0), (.int .i64 0), (.int .i64 0), (.int .i64 0), (.int .i64 0), (.int .i64 0), (.int .i64 0), (.int .i64 0), (.int .i64 0), (.int .i64 0), (.int .i64 0)] := mkBldS Tryz.underlying44 (ti := Tryz.t44) (by kernel_rfl) rfl rfl (by kernel_rfl) (by kernel_rfl)
instance : Bld Tryz.prog 46 [(0, 1), (1, 1), (2, 1), (3, 1)] [(.int .i64 0), (.int .i64 0), (.int .i64 0), (.int .i64 0)] := mkBldA Tryz.underlying46 (ti := Tryz.t46) (by kernel_rfl) rfl rfl (te := Tryz.t3) (by kernel_rfl) (by decide) rfl rfl
instance : Bld Tryz.prog 48 [(0, 1), (1, 1), (2, 1), (3, 1), (4, 1)] [(.int .i64 0), (.int .i64 0), (.slice none 0 0), (.int .i64 0), (.slice none 0 0)] := mkBldS Tryz.underlying48 (ti := Tryz.t48) (by kernel_rfl) rfl rfl (by kernel_rfl) (by kernel_rfl)
instance : Bld Tryz.prog 62 [(0, 10), (10, 1)] [(.int .i64 0), (.int .i64 0), (.int .i64 0), (.int .i64 0), (.int .i64 0), (.int .i64 0), (.int .i64 0), (.int .i64 0), (.int .i64 0), (.int .i64 0), (.int .i64 0)] := mkBldS Tryz.underlying62 (ti := Tryz.t62) (by kernel_rfl) rfl rfl (by kernel_rfl) (by kernel_rfl)
instance : Bld Tryz.prog 76 [(0, 9)] [(.slice none 0 0), (.slice none 0 0), (.int .i64 0), (.int .i64 0), (.int .i64 0), (.int .i64 0), (.int .i64 0), (.int .i64 0), (.slice none 0 0)] := mkBldS Tryz.underlying76 (ti := Tryz.t76) (by kernel_rfl) rfl rfl (by kernel_rfl) (by kernel_rfl)
instance : Bld Tryz.prog 78 [(0, 9), (9, 1)] [(.slice none 0 0), (.slice none 0 0), (.int .i64 0), (.int .i64 0), (.int .i64 0), (.int .i64 0), (.int .i64 0), (.int .i64 0), (.slice none 0 0), (.slice none 0 0)] := mkBldS Tryz.underlying78 (ti := Tryz.t78) (by kernel_rfl) rfl rfl (by kernel_rfl) (by kernel_rfl)
instance : Bld Tryz.prog 122 [(0, 1), (1, 1)] [(.int .i64 0), (.int .i64 0)] := mkBldA Tryz.underlying122 (ti := Tryz.t122) (by kernel_rfl) rfl rfl (te := Tryz.t3) (by kernel_rfl) (by decide) rfl rfl
end Go.Proofs.YthdhnhghjecfkaaGreat
