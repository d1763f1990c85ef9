/-
  Contracts and plain lemmas. By an AI agent.
-/
import Derived.Test.YtnkmbjedcjcccaaGreatDoorEngW
import Derived.Test.YtnkmbjedcjcccaaGreatDoorSpec
set_option linter.unusedSimpArgs false
set_option linter.unusedVariables false
set_option linter.unusedSectionVars false
namespace Go.Proofs.YtnkmbjedcjcccaaGreatDoor
open Go Go.Eng
set_option maxRecDepth 100000
instance : Agg Tryz.prog 25 2 := mkAgg Tryz.underlying25 rfl (ti := Tryz.t25) (by kernel_rfl) rfl
instance : Agg Tryz.prog 28 3 := mkAgg Tryz.underlying28 rfl (ti := Tryz.t28) (by kernel_rfl) rfl
instance : Agg Tryz.prog 30 15 := mkAgg Tryz.underlying30 rfl (ti := Tryz.t30) (by kernel_rfl) rfl
instance : Agg Tryz.prog 35 6 := mkAgg Tryz.underlying35 rfl (ti := Tryz.t35) (by kernel_rfl) rfl
instance : Agg Tryz.prog 39 6 := mkAgg Tryz.underlying39 rfl (ti := Tryz.t39) (by kernel_rfl) rfl
instance : Agg Tryz.prog 41 8 := mkAgg Tryz.underlying41 rfl (ti := Tryz.t41) (by kernel_rfl) rfl
instance : Agg Tryz.prog 65 10 := mkAgg Tryz.underlying65 rfl (ti := Tryz.t65) (by kernel_rfl) rfl
instance : Agg Tryz.prog 68 9 := mkAgg Tryz.underlying68 rfl (ti := Tryz.t68) (by kernel_rfl) rfl
instance : Agg Tryz.prog 77 2 := mkAgg Tryz.underlying77 rfl (ti := Tryz.t77) (by kernel_rfl) rfl
instance : Agg Tryz.prog 93 3 := mkAgg Tryz.underlying93 rfl (ti := Tryz.t93) (by kernel_rfl) rfl
instance : Agg Tryz.prog 113 1 := mkAgg Tryz.underlying113 rfl (ti := Tryz.t113) (by kernel_rfl) rfl
instance : Agg Tryz.prog 121 3 := mkAgg Tryz.underlying121 rfl (ti := Tryz.t121) (by kernel_rfl) rfl
instance : Agg Tryz.prog 141 2 := mkAgg Tryz.underlying141 rfl (ti := Tryz.t141) (by kernel_rfl) rfl
instance : Agg Tryz.prog 173 2 := mkAgg Tryz.underlying173 rfl (ti := Tryz.t173) (by kernel_rfl) rfl
instance : Agg Tryz.prog 204 3 := mkAgg Tryz.underlying204 rfl (ti := Tryz.t204) (by kernel_rfl) rfl
instance : Agg Tryz.prog 206 24 := mkAgg Tryz.underlying206 rfl (ti := Tryz.t206) (by kernel_rfl) rfl
instance : Agg Tryz.prog 218 256 := mkAgg Tryz.underlying218 rfl (ti := Tryz.t218) (by kernel_rfl) rfl
instance : Agg Tryz.prog 228 1 := mkAgg Tryz.underlying228 rfl (ti := Tryz.t228) (by kernel_rfl) rfl
instance : Agg Tryz.prog 231 65 := mkAgg Tryz.underlying231 rfl (ti := Tryz.t231) (by kernel_rfl) rfl
instance : Agg Tryz.prog 244 2 := mkAgg Tryz.underlying244 rfl (ti := Tryz.t244) (by kernel_rfl) rfl
instance : One Tryz.prog 3 := mkOne Tryz.underlying3 rfl (ti := Tryz.t3) (by kernel_rfl) rfl
instance : One Tryz.prog 4 := mkOne Tryz.underlying4 rfl (ti := Tryz.t4) (by kernel_rfl) rfl
instance : One Tryz.prog 5 := mkOne Tryz.underlying5 rfl (ti := Tryz.t5) (by kernel_rfl) rfl
instance : One Tryz.prog 9 := mkOne Tryz.underlying9 rfl (ti := Tryz.t9) (by kernel_rfl) rfl
instance : One Tryz.prog 26 := mkOne Tryz.underlying26 rfl (ti := Tryz.t26) (by kernel_rfl) rfl
instance : One Tryz.prog 31 := mkOne Tryz.underlying31 rfl (ti := Tryz.t31) (by kernel_rfl) rfl
instance : One Tryz.prog 33 := mkOne Tryz.underlying33 rfl (ti := Tryz.t33) (by kernel_rfl) rfl
instance : One Tryz.prog 91 := mkOne Tryz.underlying91 rfl (ti := Tryz.t91) (by kernel_rfl) rfl
instance : One Tryz.prog 101 := mkOne Tryz.underlying101 rfl (ti := Tryz.t101) (by kernel_rfl) rfl
instance : One Tryz.prog 123 := mkOne Tryz.underlying123 rfl (ti := Tryz.t123) (by kernel_rfl) rfl
instance : One Tryz.prog 139 := mkOne Tryz.underlying139 rfl (ti := Tryz.t139) (by kernel_rfl) rfl
instance : One Tryz.prog 170 := mkOne Tryz.underlying170 rfl (ti := Tryz.t170) (by kernel_rfl) rfl
instance : One Tryz.prog 171 := mkOne Tryz.underlying171 rfl (ti := Tryz.t171) (by kernel_rfl) rfl
instance : One Tryz.prog 178 := mkOne Tryz.underlying178 rfl (ti := Tryz.t178) (by kernel_rfl) rfl
instance : One Tryz.prog 200 := mkOne Tryz.underlying200 rfl (ti := Tryz.t200) (by kernel_rfl) rfl
instance : Zer Tryz.prog 3 [(.int .i64 0)] := mkZer (ti := Tryz.t3) (by kernel_rfl) rfl rfl
instance : Zer Tryz.prog 4 [(.bool false)] := mkZer (ti := Tryz.t4) (by kernel_rfl) rfl rfl
instance : Zer Tryz.prog 25 [(str []), (str [])] := mkZer (ti := Tryz.t25) (by kernel_rfl) rfl rfl
instance : Zer Tryz.prog 28 [(str []), (str []), (.slice none 0 0)] := mkZer (ti := Tryz.t28) (by kernel_rfl) rfl rfl
instance : Zer Tryz.prog 30 [(.int .i64 0), (.int .i64 0), (.int .i64 0), (str []), (str []), (str []), (str []), (str []), (str []), (.int .i64 0), (.int .i64 0), (.int .i64 0), (str []), (str []), (.bool false)] := mkZer (ti := Tryz.t30) (by kernel_rfl) rfl rfl
instance : Zer Tryz.prog 33 [(.slice none 0 0)] := mkZer (ti := Tryz.t33) (by kernel_rfl) rfl rfl
instance : Zer Tryz.prog 35 [(str []), (str []), (.slice none 0 0), (.slice none 0 0), (.int .i64 0), (.slice none 0 0)] := mkZer (ti := Tryz.t35) (by kernel_rfl) rfl rfl
instance : Zer Tryz.prog 39 [(.int .i64 0), (.int .i64 0), (.int .i64 0), (.int .i64 0), (.int .i64 0), (.int .i64 0)] := mkZer (ti := Tryz.t39) (by kernel_rfl) rfl rfl
instance : Zer Tryz.prog 65 [(.int .i64 0), (.int .i64 0), (.int .i64 0), (.int .i64 0), (.int .i64 0), (.int .i64 0), (.int .i64 0), (.int .i64 0), (.int .i64 0), (.int .i64 0)] := mkZer (ti := Tryz.t65) (by kernel_rfl) rfl rfl
instance : Zer Tryz.prog 139 [(.slice none 0 0)] := mkZer (ti := Tryz.t139) (by kernel_rfl) rfl rfl
instance : Zer Tryz.prog 141 [(.bool false), (.slice none 0 0)] := mkZer (ti := Tryz.t141) (by kernel_rfl) rfl rfl
instance : Zer Tryz.prog 173 [(.pointer none), (.slice none 0 0)] := mkZer (ti := Tryz.t173) (by kernel_rfl) rfl rfl
instance : Zer Tryz.prog 178 [.nilFunc] := mkZer (ti := Tryz.t178) (by kernel_rfl) rfl rfl
instance : Zer Tryz.prog 206 [(.int .u8 0), (.int .u8 0), (.int .u8 0), (.int .u8 0), (.int .u8 0), (.int .u8 0), (.int .u8 0), (.int .u8 0), (.int .u8 0), (.int .u8 0), (.int .u8 0), (.int .u8 0), (.int .u8 0), (.int .u8 0), (.int .u8 0), (.int .u8 0), (.int .u8 0), (.int .u8 0), (.int .u8 0), (.int .u8 0), (.int .u8 0), (.int .u8 0), (.int .u8 0), (.int .u8 0)] := mkZer (ti := Tryz.t206) (by kernel_rfl) rfl rfl
instance : Zer Tryz.prog 244 [(.int .u8 0), (.int .u8 0)] := mkZer (ti := Tryz.t244) (by kernel_rfl) rfl rfl
instance : Fld Tryz.prog 25 0 0 := ⟨fun w g o => by simp -dsimp [go_sem]⟩
instance : Fld Tryz.prog 25 1 1 := ⟨fun w g o => by simp -dsimp [go_sem]⟩
instance : Fld Tryz.prog 28 0 0 := ⟨fun w g o => by simp -dsimp [go_sem]⟩
instance : Fld Tryz.prog 28 1 2 := ⟨fun w g o => by simp -dsimp [go_sem]⟩
instance : Fld Tryz.prog 30 0 0 := ⟨fun w g o => by simp -dsimp [go_sem]⟩
instance : Fld Tryz.prog 30 1 1 := ⟨fun w g o => by simp -dsimp [go_sem]⟩
instance : Fld Tryz.prog 30 2 2 := ⟨fun w g o => by simp -dsimp [go_sem]⟩
instance : Fld Tryz.prog 30 3 3 := ⟨fun w g o => by simp -dsimp [go_sem]⟩
instance : Fld Tryz.prog 30 4 5 := ⟨fun w g o => by simp -dsimp [go_sem]⟩
instance : Fld Tryz.prog 30 5 7 := ⟨fun w g o => by simp -dsimp [go_sem]⟩
instance : Fld Tryz.prog 30 6 9 := ⟨fun w g o => by simp -dsimp [go_sem]⟩
instance : Fld Tryz.prog 30 7 10 := ⟨fun w g o => by simp -dsimp [go_sem]⟩
instance : Fld Tryz.prog 30 8 11 := ⟨fun w g o => by simp -dsimp [go_sem]⟩
instance : Fld Tryz.prog 30 9 12 := ⟨fun w g o => by simp -dsimp [go_sem]⟩
instance : Fld Tryz.prog 30 10 14 := ⟨fun w g o => by simp -dsimp [go_sem]⟩
instance : Fld Tryz.prog 35 0 0 := ⟨fun w g o => by simp -dsimp [go_sem]⟩
instance : Fld Tryz.prog 35 1 3 := ⟨fun w g o => by simp -dsimp [go_sem]⟩
instance : Fld Tryz.prog 35 2 4 := ⟨fun w g o => by simp -dsimp [go_sem]⟩
instance : Fld Tryz.prog 35 3 5 := ⟨fun w g o => by simp -dsimp [go_sem]⟩
instance : Fld Tryz.prog 41 0 0 := ⟨fun w g o => by simp -dsimp [go_sem]⟩
instance : Fld Tryz.prog 41 1 1 := ⟨fun w g o => by simp -dsimp [go_sem]⟩
instance : Fld Tryz.prog 41 2 7 := ⟨fun w g o => by simp -dsimp [go_sem]⟩
instance : Fld Tryz.prog 65 0 0 := ⟨fun w g o => by simp -dsimp [go_sem]⟩
instance : Fld Tryz.prog 65 1 1 := ⟨fun w g o => by simp -dsimp [go_sem]⟩
instance : Fld Tryz.prog 65 2 2 := ⟨fun w g o => by simp -dsimp [go_sem]⟩
instance : Fld Tryz.prog 65 3 3 := ⟨fun w g o => by simp -dsimp [go_sem]⟩
instance : Fld Tryz.prog 65 4 4 := ⟨fun w g o => by simp -dsimp [go_sem]⟩
instance : Fld Tryz.prog 65 5 5 := ⟨fun w g o => by simp -dsimp [go_sem]⟩
instance : Fld Tryz.prog 65 6 6 := ⟨fun w g o => by simp -dsimp [go_sem]⟩
instance : Fld Tryz.prog 65 7 7 := ⟨fun w g o => by simp -dsimp [go_sem]⟩
instance : Fld Tryz.prog 65 8 8 := ⟨fun w g o => by simp -dsimp [go_sem]⟩
instance : Fld Tryz.prog 65 9 9 := ⟨fun w g o => by simp -dsimp [go_sem]⟩
instance : Fld Tryz.prog 68 0 0 := ⟨fun w g o => by simp -dsimp [go_sem]⟩
instance : Fld Tryz.prog 68 1 1 := ⟨fun w g o => by simp -dsimp [go_sem]⟩
instance : Fld Tryz.prog 68 2 7 := ⟨fun w g o => by simp -dsimp [go_sem]⟩
instance : Fld Tryz.prog 68 3 8 := ⟨fun w g o => by simp -dsimp [go_sem]⟩
instance : Fld Tryz.prog 93 0 0 := ⟨fun w g o => by simp -dsimp [go_sem]⟩
instance : Fld Tryz.prog 113 0 0 := ⟨fun w g o => by simp -dsimp [go_sem]⟩
instance : Fld Tryz.prog 141 0 0 := ⟨fun w g o => by simp -dsimp [go_sem]⟩
instance : Fld Tryz.prog 141 1 1 := ⟨fun w g o => by simp -dsimp [go_sem]⟩
instance : Fld Tryz.prog 173 0 0 := ⟨fun w g o => by simp -dsimp [go_sem]⟩
instance : Fld Tryz.prog 173 1 1 := ⟨fun w g o => by simp -dsimp [go_sem]⟩
instance : Fld Tryz.prog 244 0 0 := ⟨fun w g o => by simp -dsimp [go_sem]⟩
instance : Fld Tryz.prog 244 1 1 := ⟨fun w g o => by simp -dsimp [go_sem]⟩
instance : Ars Tryz.prog 39 6 1 := mkArs Tryz.underlying39 (ti := Tryz.t3) (by kernel_rfl) (by decide) rfl
instance : Arr Tryz.prog 39 6 1 := mkArr Tryz.underlying39 (ti := Tryz.t3) (by kernel_rfl) rfl
instance : Ars Tryz.prog 77 2 1 := mkArs Tryz.underlying77 (ti := Tryz.t3) (by kernel_rfl) (by decide) rfl
instance : Arr Tryz.prog 77 2 1 := mkArr Tryz.underlying77 (ti := Tryz.t3) (by kernel_rfl) rfl
instance : Ars Tryz.prog 121 3 1 := mkArs Tryz.underlying121 (ti := Tryz.t3) (by kernel_rfl) (by decide) rfl
instance : Arr Tryz.prog 121 3 1 := mkArr Tryz.underlying121 (ti := Tryz.t3) (by kernel_rfl) rfl
instance : Ars Tryz.prog 206 24 1 := mkArs Tryz.underlying206 (ti := Tryz.t5) (by kernel_rfl) (by decide) rfl
instance : Arr Tryz.prog 206 24 1 := mkArr Tryz.underlying206 (ti := Tryz.t5) (by kernel_rfl) rfl
instance : Ars Tryz.prog 218 256 1 := mkArs Tryz.underlying218 (ti := Tryz.t4) (by kernel_rfl) (by decide) rfl
instance : Arr Tryz.prog 218 256 1 := mkArr Tryz.underlying218 (ti := Tryz.t4) (by kernel_rfl) rfl
instance : Ars Tryz.prog 230 20 1 := mkArs Tryz.underlying230 (ti := Tryz.t200) (by kernel_rfl) (by decide) rfl
instance : Arr Tryz.prog 230 20 1 := mkArr Tryz.underlying230 (ti := Tryz.t200) (by kernel_rfl) rfl
instance : Ars Tryz.prog 231 65 1 := mkArs Tryz.underlying231 (ti := Tryz.t5) (by kernel_rfl) (by decide) rfl
instance : Arr Tryz.prog 231 65 1 := mkArr Tryz.underlying231 (ti := Tryz.t5) (by kernel_rfl) rfl
instance : Ars Tryz.prog 240 32 1 := mkArs Tryz.underlying240 (ti := Tryz.t5) (by kernel_rfl) (by decide) rfl
instance : Arr Tryz.prog 240 32 1 := mkArr Tryz.underlying240 (ti := Tryz.t5) (by kernel_rfl) rfl
instance : Ars Tryz.prog 241 64 1 := mkArs Tryz.underlying241 (ti := Tryz.t5) (by kernel_rfl) (by decide) rfl
instance : Arr Tryz.prog 241 64 1 := mkArr Tryz.underlying241 (ti := Tryz.t5) (by kernel_rfl) rfl
instance : Ars Tryz.prog 242 256 1 := mkArs Tryz.underlying242 (ti := Tryz.t5) (by kernel_rfl) (by decide) rfl
instance : Arr Tryz.prog 242 256 1 := mkArr Tryz.underlying242 (ti := Tryz.t5) (by kernel_rfl) rfl
instance : Ars Tryz.prog 245 16 2 := mkArs Tryz.underlying245 (ti := Tryz.t244) (by kernel_rfl) (by decide) rfl
instance : Arr Tryz.prog 245 16 2 := mkArr Tryz.underlying245 (ti := Tryz.t244) (by kernel_rfl) rfl
instance : Slt Tryz.prog 22 121 3 := mkSlt Tryz.underlying22 (ti := Tryz.t121) (by kernel_rfl) rfl
instance : Slm Tryz.prog 22 121 [(.int .i64 0), (.int .i64 0), (.int .i64 0)] := mkSlm Tryz.underlying22 (ti := Tryz.t121) (by kernel_rfl) rfl rfl rfl (by decide)
instance : Slt Tryz.prog 23 41 8 := mkSlt Tryz.underlying23 (ti := Tryz.t41) (by kernel_rfl) rfl
instance : Slm Tryz.prog 23 41 [(.int .i64 0), (.int .i64 0), (.int .i64 0), (.int .i64 0), (.int .i64 0), (.int .i64 0), (.int .i64 0), (.int .i64 0)] := mkSlm Tryz.underlying23 (ti := Tryz.t41) (by kernel_rfl) rfl rfl rfl (by decide)
instance : Slt Tryz.prog 26 30 15 := mkSlt Tryz.underlying26 (ti := Tryz.t30) (by kernel_rfl) rfl
instance : Slm Tryz.prog 26 30 [(.int .i64 0), (.int .i64 0), (.int .i64 0), (str []), (str []), (str []), (str []), (str []), (str []), (.int .i64 0), (.int .i64 0), (.int .i64 0), (str []), (str []), (.bool false)] := mkSlm Tryz.underlying26 (ti := Tryz.t30) (by kernel_rfl) rfl rfl rfl (by decide)
instance : Slt Tryz.prog 31 65 10 := mkSlt Tryz.underlying31 (ti := Tryz.t65) (by kernel_rfl) rfl
instance : Slm Tryz.prog 31 65 [(.int .i64 0), (.int .i64 0), (.int .i64 0), (.int .i64 0), (.int .i64 0), (.int .i64 0), (.int .i64 0), (.int .i64 0), (.int .i64 0), (.int .i64 0)] := mkSlm Tryz.underlying31 (ti := Tryz.t65) (by kernel_rfl) rfl rfl rfl (by decide)
instance : Slt Tryz.prog 33 3 1 := mkSlt Tryz.underlying33 (ti := Tryz.t3) (by kernel_rfl) rfl
instance : Slm Tryz.prog 33 3 [(.int .i64 0)] := mkSlm Tryz.underlying33 (ti := Tryz.t3) (by kernel_rfl) rfl rfl rfl (by decide)
instance : Slt Tryz.prog 43 28 3 := mkSlt Tryz.underlying43 (ti := Tryz.t28) (by kernel_rfl) rfl
instance : Slm Tryz.prog 43 28 [(str []), (str []), (.slice none 0 0)] := mkSlm Tryz.underlying43 (ti := Tryz.t28) (by kernel_rfl) rfl rfl rfl (by decide)
instance : Slt Tryz.prog 53 31 1 := mkSlt Tryz.underlying53 (ti := Tryz.t31) (by kernel_rfl) rfl
instance : Slm Tryz.prog 53 31 [(.slice none 0 0)] := mkSlm Tryz.underlying53 (ti := Tryz.t31) (by kernel_rfl) rfl rfl rfl (by decide)
instance : Slt Tryz.prog 61 68 9 := mkSlt Tryz.underlying61 (ti := Tryz.t68) (by kernel_rfl) rfl
instance : Slm Tryz.prog 61 68 [(.int .i64 0), (.int .i64 0), (.int .i64 0), (.int .i64 0), (.int .i64 0), (.int .i64 0), (.int .i64 0), (.int .i64 0), (.bool false)] := mkSlm Tryz.underlying61 (ti := Tryz.t68) (by kernel_rfl) rfl rfl rfl (by decide)
instance : Slt Tryz.prog 72 39 6 := mkSlt Tryz.underlying72 (ti := Tryz.t39) (by kernel_rfl) rfl
instance : Slm Tryz.prog 72 39 [(.int .i64 0), (.int .i64 0), (.int .i64 0), (.int .i64 0), (.int .i64 0), (.int .i64 0)] := mkSlm Tryz.underlying72 (ti := Tryz.t39) (by kernel_rfl) rfl rfl rfl (by decide)
instance : Slt Tryz.prog 73 77 2 := mkSlt Tryz.underlying73 (ti := Tryz.t77) (by kernel_rfl) rfl
instance : Slm Tryz.prog 73 77 [(.int .i64 0), (.int .i64 0)] := mkSlm Tryz.underlying73 (ti := Tryz.t77) (by kernel_rfl) rfl rfl rfl (by decide)
instance : Slt Tryz.prog 139 3 1 := mkSlt Tryz.underlying139 (ti := Tryz.t3) (by kernel_rfl) rfl
instance : Slm Tryz.prog 139 3 [(.int .i64 0)] := mkSlm Tryz.underlying139 (ti := Tryz.t3) (by kernel_rfl) rfl rfl rfl (by decide)
instance : Slt Tryz.prog 147 25 2 := mkSlt Tryz.underlying147 (ti := Tryz.t25) (by kernel_rfl) rfl
instance : Slm Tryz.prog 147 25 [(str []), (str [])] := mkSlm Tryz.underlying147 (ti := Tryz.t25) (by kernel_rfl) rfl rfl rfl (by decide)
instance : Slt Tryz.prog 171 5 1 := mkSlt Tryz.underlying171 (ti := Tryz.t5) (by kernel_rfl) rfl
instance : Slm Tryz.prog 171 5 [(.int .u8 0)] := mkSlm Tryz.underlying171 (ti := Tryz.t5) (by kernel_rfl) rfl rfl rfl (by decide)
instance : Bld Tryz.prog 25 [(0, 1), (1, 1)] [(str []), (str [])] := mkBldS Tryz.underlying25 (ti := Tryz.t25) (by kernel_rfl) rfl rfl (by kernel_rfl) (by kernel_rfl)
instance : Bld Tryz.prog 28 [(0, 2), (2, 1)] [(str []), (str []), (.slice none 0 0)] := mkBldS Tryz.underlying28 (ti := Tryz.t28) (by kernel_rfl) rfl rfl (by kernel_rfl) (by kernel_rfl)
instance : Bld Tryz.prog 30 [(0, 1), (1, 1), (2, 1), (3, 2), (5, 2), (7, 2), (9, 1), (10, 1), (11, 1), (12, 2), (14, 1)] [(.int .i64 0), (.int .i64 0), (.int .i64 0), (str []), (str []), (str []), (str []), (str []), (str []), (.int .i64 0), (.int .i64 0), (.int .i64 0), (str []), (str []), (.bool false)] := mkBldS Tryz.underlying30 (ti := Tryz.t30) (by kernel_rfl) rfl rfl (by kernel_rfl) (by kernel_rfl)
instance : Bld Tryz.prog 35 [(0, 3), (3, 1), (4, 1), (5, 1)] [(str []), (str []), (.slice none 0 0), (.slice none 0 0), (.int .i64 0), (.slice none 0 0)] := mkBldS Tryz.underlying35 (ti := Tryz.t35) (by kernel_rfl) rfl rfl (by kernel_rfl) (by kernel_rfl)
instance : Bld Tryz.prog 39 [(0, 1), (1, 1), (2, 1), (3, 1), (4, 1), (5, 1)] [(.int .i64 0), (.int .i64 0), (.int .i64 0), (.int .i64 0), (.int .i64 0), (.int .i64 0)] := mkBldA Tryz.underlying39 (ti := Tryz.t39) (by kernel_rfl) rfl rfl (te := Tryz.t3) (by kernel_rfl) (by decide) rfl rfl
instance : Bld Tryz.prog 65 [(0, 1), (1, 1), (2, 1), (3, 1), (4, 1), (5, 1), (6, 1), (7, 1), (8, 1), (9, 1)] [(.int .i64 0), (.int .i64 0), (.int .i64 0), (.int .i64 0), (.int .i64 0), (.int .i64 0), (.int .i64 0), (.int .i64 0), (.int .i64 0), (.int .i64 0)] := mkBldS Tryz.underlying65 (ti := Tryz.t65) (by kernel_rfl) rfl rfl (by kernel_rfl) (by kernel_rfl)
instance : Bld Tryz.prog 93 [(0, 3)] [(str []), (str []), (.slice none 0 0)] := mkBldS Tryz.underlying93 (ti := Tryz.t93) (by kernel_rfl) rfl rfl (by kernel_rfl) (by kernel_rfl)
instance : Bld Tryz.prog 113 [(0, 1)] [(.bool false)] := mkBldS Tryz.underlying113 (ti := Tryz.t113) (by kernel_rfl) rfl rfl (by kernel_rfl) (by kernel_rfl)
instance : Bld Tryz.prog 141 [(0, 1), (1, 1)] [(.bool false), (.slice none 0 0)] := mkBldS Tryz.underlying141 (ti := Tryz.t141) (by kernel_rfl) rfl rfl (by kernel_rfl) (by kernel_rfl)
instance : Bld Tryz.prog 204 [(0, 1), (1, 1), (2, 1)] [(str []), (str []), .nilIface] := mkBldS Tryz.underlying204 (ti := Tryz.t204) (by kernel_rfl) rfl rfl (by kernel_rfl) (by kernel_rfl)
instance : Bld Tryz.prog 228 [(0, 1)] [(str [])] := mkBldS Tryz.underlying228 (ti := Tryz.t228) (by kernel_rfl) rfl rfl (by kernel_rfl) (by kernel_rfl)
instance : Fdv Tryz.prog 28 1 false 2 1 := mkFdv (f := 1) (ag := false) Tryz.underlying28 rfl Tryz.underlying26 rfl (ti := Tryz.t26) (by kernel_rfl) rfl
instance : StrT Tryz.prog 9 := ⟨Tryz.underlying9⟩
end Go.Proofs.YtnkmbjedcjcccaaGreatDoor
