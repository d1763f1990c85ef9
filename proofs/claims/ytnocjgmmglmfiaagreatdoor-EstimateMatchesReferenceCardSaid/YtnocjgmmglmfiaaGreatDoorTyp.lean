/-
  Contracts and plain lemmas. By an AI agent.
-/
import Derived.Test.YtnocjgmmglmfiaaGreatDoorEngW
import Derived.Test.YtnocjgmmglmfiaaGreatDoorSpec
set_option linter.unusedSimpArgs false
set_option linter.unusedVariables false
set_option linter.unusedSectionVars false
namespace Go.Proofs.YtnocjgmmglmfiaaGreatDoor
open Go Go.Eng
set_option maxRecDepth 100000
set_option linter.unusedSimpArgs false
instance : Agg Tryz.prog 30 2 := mkAgg Tryz.underlying30 rfl (ti := Tryz.t30) (by kernel_rfl) rfl
instance : Agg Tryz.prog 46 2 := mkAgg Tryz.underlying46 rfl (ti := Tryz.t46) (by kernel_rfl) rfl
instance : Agg Tryz.prog 53 3 := mkAgg Tryz.underlying53 rfl (ti := Tryz.t53) (by kernel_rfl) rfl
instance : Agg Tryz.prog 61 1 := mkAgg Tryz.underlying61 rfl (ti := Tryz.t61) (by kernel_rfl) rfl
instance : Agg Tryz.prog 68 4 := mkAgg Tryz.underlying68 rfl (ti := Tryz.t68) (by kernel_rfl) rfl
instance : Agg Tryz.prog 83 1 := mkAgg Tryz.underlying83 rfl (ti := Tryz.t83) (by kernel_rfl) rfl
instance : Agg Tryz.prog 96 2 := mkAgg Tryz.underlying96 rfl (ti := Tryz.t96) (by kernel_rfl) rfl
instance : Agg Tryz.prog 131 2 := mkAgg Tryz.underlying131 rfl (ti := Tryz.t131) (by kernel_rfl) rfl
instance : Agg Tryz.prog 151 256 := mkAgg Tryz.underlying151 rfl (ti := Tryz.t151) (by kernel_rfl) rfl
instance : Agg Tryz.prog 176 24 := mkAgg Tryz.underlying176 rfl (ti := Tryz.t176) (by kernel_rfl) rfl
instance : Agg Tryz.prog 186 3 := mkAgg Tryz.underlying186 rfl (ti := Tryz.t186) (by kernel_rfl) rfl
instance : Agg Tryz.prog 190 65 := mkAgg Tryz.underlying190 rfl (ti := Tryz.t190) (by kernel_rfl) rfl
instance : Agg Tryz.prog 194 2 := mkAgg Tryz.underlying194 rfl (ti := Tryz.t194) (by kernel_rfl) rfl
instance : Agg Tryz.prog 201 1 := mkAgg Tryz.underlying201 rfl (ti := Tryz.t201) (by kernel_rfl) rfl
instance : One Tryz.prog 3 := mkOne Tryz.underlying3 rfl (ti := Tryz.t3) (by kernel_rfl) rfl
instance : One Tryz.prog 4 := mkOne Tryz.underlying4 rfl (ti := Tryz.t4) (by kernel_rfl) rfl
instance : One Tryz.prog 5 := mkOne Tryz.underlying5 rfl (ti := Tryz.t5) (by kernel_rfl) rfl
instance : One Tryz.prog 9 := mkOne Tryz.underlying9 rfl (ti := Tryz.t9) (by kernel_rfl) rfl
instance : One Tryz.prog 23 := mkOne Tryz.underlying23 rfl (ti := Tryz.t23) (by kernel_rfl) rfl
instance : One Tryz.prog 55 := mkOne Tryz.underlying55 rfl (ti := Tryz.t55) (by kernel_rfl) rfl
instance : One Tryz.prog 69 := mkOne Tryz.underlying69 rfl (ti := Tryz.t69) (by kernel_rfl) rfl
instance : One Tryz.prog 94 := mkOne Tryz.underlying94 rfl (ti := Tryz.t94) (by kernel_rfl) rfl
instance : One Tryz.prog 123 := mkOne Tryz.underlying123 rfl (ti := Tryz.t123) (by kernel_rfl) rfl
instance : One Tryz.prog 128 := mkOne Tryz.underlying128 rfl (ti := Tryz.t128) (by kernel_rfl) rfl
instance : One Tryz.prog 129 := mkOne Tryz.underlying129 rfl (ti := Tryz.t129) (by kernel_rfl) rfl
instance : One Tryz.prog 134 := mkOne Tryz.underlying134 rfl (ti := Tryz.t134) (by kernel_rfl) rfl
instance : One Tryz.prog 161 := mkOne Tryz.underlying161 rfl (ti := Tryz.t161) (by kernel_rfl) rfl
instance : Zer Tryz.prog 3 [(.int .i64 0)] := mkZer (ti := Tryz.t3) (by kernel_rfl) rfl rfl
instance : Zer Tryz.prog 30 [(str []), (str [])] := mkZer (ti := Tryz.t30) (by kernel_rfl) rfl rfl
instance : Zer Tryz.prog 61 [(.bool false)] := mkZer (ti := Tryz.t61) (by kernel_rfl) rfl rfl
instance : Zer Tryz.prog 68 [(str []), (str []), (str []), (str [])] := mkZer (ti := Tryz.t68) (by kernel_rfl) rfl rfl
instance : Zer Tryz.prog 94 [(.slice none 0 0)] := mkZer (ti := Tryz.t94) (by kernel_rfl) rfl rfl
instance : Zer Tryz.prog 96 [(.bool false), (.slice none 0 0)] := mkZer (ti := Tryz.t96) (by kernel_rfl) rfl rfl
instance : Zer Tryz.prog 123 [.nilFunc] := mkZer (ti := Tryz.t123) (by kernel_rfl) rfl rfl
instance : Zer Tryz.prog 131 [(.pointer none), (.slice none 0 0)] := mkZer (ti := Tryz.t131) (by kernel_rfl) rfl rfl
instance : Zer Tryz.prog 151 [(.bool false), (.bool false), (.bool false), (.bool false), (.bool false), (.bool false), (.bool false), (.bool false), (.bool false), (.bool false), (.bool false), (.bool false), (.bool false), (.bool false), (.bool false), (.bool false), (.bool false), (.bool false), (.bool false), (.bool false), (.bool false), (.bool false), (.bool false), (.bool false), (.bool false), (.bool false), (.bool false), (.bool false), (.bool false), (.bool false), (.bool false), (.bool false), (.bool false), (.bool false), (.bool false), (.bool false), (.bool false), (.bool false), (.bool false), (.bool false), (.bool false), (.bool false), (.bool false), (.bool false), (.bool false), (.bool false), (.bool false), (.bool false), (.bool false), (.bool false), (.bool false), (.bool false), (.bool false), (.bool false), (.bool false), (.bool false), (.bool false), (.bool false), (.bool false), (.bool false), (.bool false), (.bool false), (.bool false), (.bool false), (.bool false), (.bool false), (.bool false), (.bool false), (.bool false), (.bool false), (.bool false), (.bool false), (.bool false), (.bool false), (.bool false), (.bool false), (.bool false), (.bool false), (.bool false), (.bool false), (.bool false), (.bool false), (.bool false), (.bool false), (.bool false), (.bool false), (.bool false), (.bool false), (.bool false), (.bool false), (.bool false), (.bool false), (.bool false), (.bool false), (.bool false), (.bool false), (.bool false), (.bool false), (.bool false), (.bool false), (.bool false), (.bool false), (.bool false), (.bool false), (.bool false), (.bool false), (.bool false), (.bool false), (.bool false), (.bool false), (.bool false), (.bool false), (.bool false), (.bool false), (.bool false), (.bool false), (.bool false), (.bool false), (.bool false), (.bool false), (.bool false), (.bool false), (.bool false), (.bool false), (.bool false), (.bool false), (.bool false), (.bool false), (.bool false), (.bool false), (.bool false), (.bool false), (.bool false), (.bool false), (.bool false), (.bool false), (.bool false), (.bool false), (.bool false), (.bool false), (.bool false), (.bool false), (.bool false), (.bool false), (.bool false), (.bool false), (.bool false), (.bool false), (.bool false), (.bool false), (.bool false), (.bool false), (.bool false), (.bool false), (.bool false), (.bool false), (.bool false), (.bool false), (.bool false), (.bool false), (.bool false), (.bool false), (.bool false), (.bool false), (.bool false), (.bool false), (.bool false), (.bool false), (.bool false), (.bool false), (.bool false), (.bool false), (.bool false), (.bool false), (.bool false), (.bool false), (.bool false), (.bool false), (.bool false), (.bool false), (.bool false), (.bool false), (.bool false), (.bool false), (.bool false), (.bool false), (.bool false), (.bool false), (.bool false), (.bool false), (.bool false), (.bool false), (.bool false), (.bool false), (.bool false), (.bool false), (.bool false), (.bool false), (.bool false), (.bool false), (.bool false), (.bool false), (.bool false), (.bool false), (.bool false), (.bool false), (.bool false), (.bool false), (.bool false), (.bool false), (.bool false), (.bool false), (.bool false), (.bool false), (.bool false), (.bool false), (.bool false), (.bool false), (.bool false), (.bool false), (.bool false), (.bool false), (.bool false), (.bool false), (.bool false), (.bool false), (.bool false), (.bool false), (.bool false), (.bool false), (.bool false), (.bool false), (.bool false), (.bool false), (.bool false), (.bool false), (.bool false), (.bool false), (.bool false), (.bool false), (.bool false), (.bool false), (.bool false), (.bool false), (.bool false), (.bool false), (.bool false), (.bool false), (.bool false), (.bool false), (.bool false), (.bool false), (.bool false), (.bool false), (.bool false), (.bool false)] := mkZer (ti := Tryz.t151) (by kernel_rfl) rfl rfl
instance : Zer Tryz.prog 176 [(.int .u8 0), (.int .u8 0), (.int .u8 0), (.int .u8 0), (.int .u8 0), (.int .u8 0), (.int .u8 0), (.int .u8 0), (.int .u8 0), (.int .u8 0), (.int .u8 0), (.int .u8 0), (.int .u8 0), (.int .u8 0), (.int .u8 0), (.int .u8 0), (.int .u8 0), (.int .u8 0), (.int .u8 0), (.int .u8 0), (.int .u8 0), (.int .u8 0), (.int .u8 0), (.int .u8 0)] := mkZer (ti := Tryz.t176) (by kernel_rfl) rfl rfl
instance : Zer Tryz.prog 190 [(.int .u8 0), (.int .u8 0), (.int .u8 0), (.int .u8 0), (.int .u8 0), (.int .u8 0), (.int .u8 0), (.int .u8 0), (.int .u8 0), (.int .u8 0), (.int .u8 0), (.int .u8 0), (.int .u8 0), (.int .u8 0), (.int .u8 0), (.int .u8 0), (.int .u8 0), (.int .u8 0), (.int .u8 0), (.int .u8 0), (.int .u8 0), (.int .u8 0), (.int .u8 0), (.int .u8 0), (.int .u8 0), (.int .u8 0), (.int .u8 0), (.int .u8 0), (.int .u8 0), (.int .u8 0), (.int .u8 0), (.int .u8 0), (.int .u8 0), (.int .u8 0), (.int .u8 0), (.int .u8 0), (.int .u8 0), (.int .u8 0), (.int .u8 0), (.int .u8 0), (.int .u8 0), (.int .u8 0), (.int .u8 0), (.int .u8 0), (.int .u8 0), (.int .u8 0), (.int .u8 0), (.int .u8 0), (.int .u8 0), (.int .u8 0), (.int .u8 0), (.int .u8 0), (.int .u8 0), (.int .u8 0), (.int .u8 0), (.int .u8 0), (.int .u8 0), (.int .u8 0), (.int .u8 0), (.int .u8 0), (.int .u8 0), (.int .u8 0), (.int .u8 0), (.int .u8 0), (.int .u8 0)] := mkZer (ti := Tryz.t190) (by kernel_rfl) rfl rfl
instance : Zer Tryz.prog 194 [(.int .u8 0), (.int .u8 0)] := mkZer (ti := Tryz.t194) (by kernel_rfl) rfl rfl
instance : Fld Tryz.prog 30 0 0 := ⟨fun w g o => by simp -dsimp [go_sem]⟩
instance : Fld Tryz.prog 30 1 1 := ⟨fun w g o => by simp -dsimp [go_sem]⟩
instance : Fld Tryz.prog 59 0 0 := ⟨fun w g o => by simp -dsimp [go_sem]⟩
instance : Fld Tryz.prog 61 0 0 := ⟨fun w g o => by simp -dsimp [go_sem]⟩
instance : Fld Tryz.prog 68 0 0 := ⟨fun w g o => by simp -dsimp [go_sem]⟩
instance : Fld Tryz.prog 68 1 2 := ⟨fun w g o => by simp -dsimp [go_sem]⟩
instance : Fld Tryz.prog 83 0 0 := ⟨fun w g o => by simp -dsimp [go_sem]⟩
instance : Fld Tryz.prog 96 0 0 := ⟨fun w g o => by simp -dsimp [go_sem]⟩
instance : Fld Tryz.prog 96 1 1 := ⟨fun w g o => by simp -dsimp [go_sem]⟩
instance : Fld Tryz.prog 131 0 0 := ⟨fun w g o => by simp -dsimp [go_sem]⟩
instance : Fld Tryz.prog 131 1 1 := ⟨fun w g o => by simp -dsimp [go_sem]⟩
instance : Fld Tryz.prog 194 0 0 := ⟨fun w g o => by simp -dsimp [go_sem]⟩
instance : Fld Tryz.prog 194 1 1 := ⟨fun w g o => by simp -dsimp [go_sem]⟩
instance : Arr Tryz.prog 46 2 1 := mkArr Tryz.underlying46 (ti := Tryz.t3) (by kernel_rfl) rfl
instance : Arr Tryz.prog 53 3 1 := mkArr Tryz.underlying53 (ti := Tryz.t3) (by kernel_rfl) rfl
instance : Arr Tryz.prog 151 256 1 := mkArr Tryz.underlying151 (ti := Tryz.t4) (by kernel_rfl) rfl
instance : Arr Tryz.prog 176 24 1 := mkArr Tryz.underlying176 (ti := Tryz.t5) (by kernel_rfl) rfl
instance : Arr Tryz.prog 189 20 1 := mkArr Tryz.underlying189 (ti := Tryz.t161) (by kernel_rfl) rfl
instance : Arr Tryz.prog 190 65 1 := mkArr Tryz.underlying190 (ti := Tryz.t5) (by kernel_rfl) rfl
instance : Arr Tryz.prog 192 256 1 := mkArr Tryz.underlying192 (ti := Tryz.t5) (by kernel_rfl) rfl
instance : Arr Tryz.prog 195 16 2 := mkArr Tryz.underlying195 (ti := Tryz.t194) (by kernel_rfl) rfl
instance : Arr Tryz.prog 203 32 1 := mkArr Tryz.underlying203 (ti := Tryz.t5) (by kernel_rfl) rfl
instance : Arr Tryz.prog 204 64 1 := mkArr Tryz.underlying204 (ti := Tryz.t5) (by kernel_rfl) rfl
instance : Slt Tryz.prog 22 53 3 := mkSlt Tryz.underlying22 (ti := Tryz.t53) (by kernel_rfl) rfl
instance : Slm Tryz.prog 22 53 [(.int .i64 0), (.int .i64 0), (.int .i64 0)] := mkSlm Tryz.underlying22 (ti := Tryz.t53) (by kernel_rfl) rfl rfl rfl (by decide)
instance : Slt Tryz.prog 23 30 2 := mkSlt Tryz.underlying23 (ti := Tryz.t30) (by kernel_rfl) rfl
instance : Slm Tryz.prog 23 30 [(str []), (str [])] := mkSlm Tryz.underlying23 (ti := Tryz.t30) (by kernel_rfl) rfl rfl rfl (by decide)
instance : Slt Tryz.prog 28 23 1 := mkSlt Tryz.underlying28 (ti := Tryz.t23) (by kernel_rfl) rfl
instance : Slm Tryz.prog 28 23 [(.slice none 0 0)] := mkSlm Tryz.underlying28 (ti := Tryz.t23) (by kernel_rfl) rfl rfl rfl (by decide)
instance : Slt Tryz.prog 43 46 2 := mkSlt Tryz.underlying43 (ti := Tryz.t46) (by kernel_rfl) rfl
instance : Slm Tryz.prog 43 46 [(.int .i64 0), (.int .i64 0)] := mkSlm Tryz.underlying43 (ti := Tryz.t46) (by kernel_rfl) rfl rfl rfl (by decide)
instance : Slt Tryz.prog 44 3 1 := mkSlt Tryz.underlying44 (ti := Tryz.t3) (by kernel_rfl) rfl
instance : Slm Tryz.prog 44 3 [(.int .i64 0)] := mkSlm Tryz.underlying44 (ti := Tryz.t3) (by kernel_rfl) rfl rfl rfl (by decide)
instance : Slt Tryz.prog 55 68 4 := mkSlt Tryz.underlying55 (ti := Tryz.t68) (by kernel_rfl) rfl
instance : Slm Tryz.prog 55 68 [(str []), (str []), (str []), (str [])] := mkSlm Tryz.underlying55 (ti := Tryz.t68) (by kernel_rfl) rfl rfl rfl (by decide)
instance : Slt Tryz.prog 94 3 1 := mkSlt Tryz.underlying94 (ti := Tryz.t3) (by kernel_rfl) rfl
instance : Slm Tryz.prog 94 3 [(.int .i64 0)] := mkSlm Tryz.underlying94 (ti := Tryz.t3) (by kernel_rfl) rfl rfl rfl (by decide)
instance : Slt Tryz.prog 129 5 1 := mkSlt Tryz.underlying129 (ti := Tryz.t5) (by kernel_rfl) rfl
instance : Slm Tryz.prog 129 5 [(.int .u8 0)] := mkSlm Tryz.underlying129 (ti := Tryz.t5) (by kernel_rfl) rfl rfl rfl (by decide)
instance : Bld Tryz.prog 30 [(0, 1), (1, 1)] [(str []), (str [])] := mkBldS Tryz.underlying30 (ti := Tryz.t30) (by kernel_rfl) rfl rfl (by kernel_rfl) (by kernel_rfl)
instance : Bld Tryz.prog 68 [(0, 2), (2, 2)] [(str []), (str []), (str []), (str [])] := mkBldS Tryz.underlying68 (ti := Tryz.t68) (by kernel_rfl) rfl rfl (by kernel_rfl) (by kernel_rfl)
instance : Bld Tryz.prog 83 [(0, 1)] [(.bool false)] := mkBldS Tryz.underlying83 (ti := Tryz.t83) (by kernel_rfl) rfl rfl (by kernel_rfl) (by kernel_rfl)
instance : Bld Tryz.prog 96 [(0, 1), (1, 1)] [(.bool false), (.slice none 0 0)] := mkBldS Tryz.underlying96 (ti := Tryz.t96) (by kernel_rfl) rfl rfl (by kernel_rfl) (by kernel_rfl)
instance : Bld Tryz.prog 186 [(0, 1), (1, 1), (2, 1)] [(str []), (str []), .nilIface] := mkBldS Tryz.underlying186 (ti := Tryz.t186) (by kernel_rfl) rfl rfl (by kernel_rfl) (by kernel_rfl)
instance : Bld Tryz.prog 201 [(0, 1)] [(str [])] := mkBldS Tryz.underlying201 (ti := Tryz.t201) (by kernel_rfl) rfl rfl (by kernel_rfl) (by kernel_rfl)
instance : StrT Tryz.prog 9 := ⟨Tryz.underlying9⟩
end Go.Proofs.YtnocjgmmglmfiaaGreatDoor
