/-
  Contracts and plain lemmas. By an AI agent.
-/
import Derived.Test.YtjmdnjnjepinoaaGreatDoorEngW
import Derived.Test.YtjmdnjnjepinoaaGreatDoorSpec
set_option linter.unusedSimpArgs false
set_option linter.unusedVariables false
set_option linter.unusedSectionVars false
namespace Go.Proofs.YtjmdnjnjepinoaaGreatDoor
open Go Go.Eng
set_option maxRecDepth 100000
instance : Agg Tryz.prog 23 2 := mkAgg Tryz.underlying23 rfl (ti := Tryz.t23) (by kernel_rfl) rfl
instance : Agg Tryz.prog 25 5 := mkAgg Tryz.underlying25 rfl (ti := Tryz.t25) (by kernel_rfl) rfl
instance : Agg Tryz.prog 26 4 := mkAgg Tryz.underlying26 rfl (ti := Tryz.t26) (by kernel_rfl) rfl
instance : Agg Tryz.prog 31 3 := mkAgg Tryz.underlying31 rfl (ti := Tryz.t31) (by kernel_rfl) rfl
instance : Agg Tryz.prog 67 3 := mkAgg Tryz.underlying67 rfl (ti := Tryz.t67) (by kernel_rfl) rfl
instance : Agg Tryz.prog 69 5 := mkAgg Tryz.underlying69 rfl (ti := Tryz.t69) (by kernel_rfl) rfl
instance : Agg Tryz.prog 74 4 := mkAgg Tryz.underlying74 rfl (ti := Tryz.t74) (by kernel_rfl) rfl
instance : Agg Tryz.prog 85 2 := mkAgg Tryz.underlying85 rfl (ti := Tryz.t85) (by kernel_rfl) rfl
instance : Agg Tryz.prog 88 1 := mkAgg Tryz.underlying88 rfl (ti := Tryz.t88) (by kernel_rfl) rfl
instance : Agg Tryz.prog 111 2 := mkAgg Tryz.underlying111 rfl (ti := Tryz.t111) (by kernel_rfl) rfl
instance : Agg Tryz.prog 140 2 := mkAgg Tryz.underlying140 rfl (ti := Tryz.t140) (by kernel_rfl) rfl
instance : Agg Tryz.prog 163 256 := mkAgg Tryz.underlying163 rfl (ti := Tryz.t163) (by kernel_rfl) rfl
instance : Agg Tryz.prog 177 24 := mkAgg Tryz.underlying177 rfl (ti := Tryz.t177) (by kernel_rfl) rfl
instance : Agg Tryz.prog 195 65 := mkAgg Tryz.underlying195 rfl (ti := Tryz.t195) (by kernel_rfl) rfl
instance : Agg Tryz.prog 201 3 := mkAgg Tryz.underlying201 rfl (ti := Tryz.t201) (by kernel_rfl) rfl
instance : Agg Tryz.prog 206 2 := mkAgg Tryz.underlying206 rfl (ti := Tryz.t206) (by kernel_rfl) rfl
instance : Agg Tryz.prog 213 1 := mkAgg Tryz.underlying213 rfl (ti := Tryz.t213) (by kernel_rfl) rfl
instance : One Tryz.prog 3 := mkOne Tryz.underlying3 rfl (ti := Tryz.t3) (by kernel_rfl) rfl
instance : One Tryz.prog 4 := mkOne Tryz.underlying4 rfl (ti := Tryz.t4) (by kernel_rfl) rfl
instance : One Tryz.prog 5 := mkOne Tryz.underlying5 rfl (ti := Tryz.t5) (by kernel_rfl) rfl
instance : One Tryz.prog 9 := mkOne Tryz.underlying9 rfl (ti := Tryz.t9) (by kernel_rfl) rfl
instance : One Tryz.prog 28 := mkOne Tryz.underlying28 rfl (ti := Tryz.t28) (by kernel_rfl) rfl
instance : One Tryz.prog 35 := mkOne Tryz.underlying35 rfl (ti := Tryz.t35) (by kernel_rfl) rfl
instance : One Tryz.prog 109 := mkOne Tryz.underlying109 rfl (ti := Tryz.t109) (by kernel_rfl) rfl
instance : One Tryz.prog 137 := mkOne Tryz.underlying137 rfl (ti := Tryz.t137) (by kernel_rfl) rfl
instance : One Tryz.prog 138 := mkOne Tryz.underlying138 rfl (ti := Tryz.t138) (by kernel_rfl) rfl
instance : One Tryz.prog 146 := mkOne Tryz.underlying146 rfl (ti := Tryz.t146) (by kernel_rfl) rfl
instance : One Tryz.prog 150 := mkOne Tryz.underlying150 rfl (ti := Tryz.t150) (by kernel_rfl) rfl
instance : One Tryz.prog 172 := mkOne Tryz.underlying172 rfl (ti := Tryz.t172) (by kernel_rfl) rfl
instance : Zer Tryz.prog 3 [(.int .i64 0)] := mkZer (ti := Tryz.t3) (by kernel_rfl) rfl rfl
instance : Zer Tryz.prog 23 [(str []), (str [])] := mkZer (ti := Tryz.t23) (by kernel_rfl) rfl rfl
instance : Zer Tryz.prog 25 [(.int .i64 0), (.int .i64 0), (str []), (str []), (.int .i64 0)] := mkZer (ti := Tryz.t25) (by kernel_rfl) rfl rfl
instance : Zer Tryz.prog 26 [(.int .i64 0), (.int .i64 0), (.int .i64 0), (.int .i64 0)] := mkZer (ti := Tryz.t26) (by kernel_rfl) rfl rfl
instance : Zer Tryz.prog 28 [(.slice none 0 0)] := mkZer (ti := Tryz.t28) (by kernel_rfl) rfl rfl
instance : Zer Tryz.prog 31 [(.int .i64 0), (.int .i64 0), (.slice none 0 0)] := mkZer (ti := Tryz.t31) (by kernel_rfl) rfl rfl
instance : Zer Tryz.prog 67 [(.int .i64 0), (.int .i64 0), (.int .i64 0)] := mkZer (ti := Tryz.t67) (by kernel_rfl) rfl rfl
instance : Zer Tryz.prog 109 [(.slice none 0 0)] := mkZer (ti := Tryz.t109) (by kernel_rfl) rfl rfl
instance : Zer Tryz.prog 111 [(.bool false), (.slice none 0 0)] := mkZer (ti := Tryz.t111) (by kernel_rfl) rfl rfl
instance : Zer Tryz.prog 140 [(.pointer none), (.slice none 0 0)] := mkZer (ti := Tryz.t140) (by kernel_rfl) rfl rfl
instance : Zer Tryz.prog 150 [.nilFunc] := mkZer (ti := Tryz.t150) (by kernel_rfl) rfl rfl
instance : Zer Tryz.prog 177 [(.int .u8 0), (.int .u8 0), (.int .u8 0), (.int .u8 0), (.int .u8 0), (.int .u8 0), (.int .u8 0), (.int .u8 0), (.int .u8 0), (.int .u8 0), (.int .u8 0), (.int .u8 0), (.int .u8 0), (.int .u8 0), (.int .u8 0), (.int .u8 0), (.int .u8 0), (.int .u8 0), (.int .u8 0), (.int .u8 0), (.int .u8 0), (.int .u8 0), (.int .u8 0), (.int .u8 0)] := mkZer (ti := Tryz.t177) (by kernel_rfl) rfl rfl
instance : Zer Tryz.prog 206 [(.int .u8 0), (.int .u8 0)] := mkZer (ti := Tryz.t206) (by kernel_rfl) rfl rfl
instance : Fld Tryz.prog 23 0 0 := ⟨fun w g o => by simp -dsimp [go_sem]⟩
instance : Fld Tryz.prog 23 1 1 := ⟨fun w g o => by simp -dsimp [go_sem]⟩
instance : Fld Tryz.prog 25 0 0 := ⟨fun w g o => by simp -dsimp [go_sem]⟩
instance : Fld Tryz.prog 25 1 1 := ⟨fun w g o => by simp -dsimp [go_sem]⟩
instance : Fld Tryz.prog 25 2 2 := ⟨fun w g o => by simp -dsimp [go_sem]⟩
instance : Fld Tryz.prog 25 3 4 := ⟨fun w g o => by simp -dsimp [go_sem]⟩
instance : Fld Tryz.prog 31 0 0 := ⟨fun w g o => by simp -dsimp [go_sem]⟩
instance : Fld Tryz.prog 31 1 1 := ⟨fun w g o => by simp -dsimp [go_sem]⟩
instance : Fld Tryz.prog 31 2 2 := ⟨fun w g o => by simp -dsimp [go_sem]⟩
instance : Fld Tryz.prog 67 0 0 := ⟨fun w g o => by simp -dsimp [go_sem]⟩
instance : Fld Tryz.prog 67 1 1 := ⟨fun w g o => by simp -dsimp [go_sem]⟩
instance : Fld Tryz.prog 67 2 2 := ⟨fun w g o => by simp -dsimp [go_sem]⟩
instance : Fld Tryz.prog 74 0 0 := ⟨fun w g o => by simp -dsimp [go_sem]⟩
instance : Fld Tryz.prog 74 1 2 := ⟨fun w g o => by simp -dsimp [go_sem]⟩
instance : Fld Tryz.prog 74 2 3 := ⟨fun w g o => by simp -dsimp [go_sem]⟩
instance : Fld Tryz.prog 88 0 0 := ⟨fun w g o => by simp -dsimp [go_sem]⟩
instance : Fld Tryz.prog 111 0 0 := ⟨fun w g o => by simp -dsimp [go_sem]⟩
instance : Fld Tryz.prog 111 1 1 := ⟨fun w g o => by simp -dsimp [go_sem]⟩
instance : Fld Tryz.prog 140 0 0 := ⟨fun w g o => by simp -dsimp [go_sem]⟩
instance : Fld Tryz.prog 140 1 1 := ⟨fun w g o => by simp -dsimp [go_sem]⟩
instance : Fld Tryz.prog 206 0 0 := ⟨fun w g o => by simp -dsimp [go_sem]⟩
instance : Fld Tryz.prog 206 1 1 := ⟨fun w g o => by simp -dsimp [go_sem]⟩
instance : Ars Tryz.prog 26 4 1 := mkArs Tryz.underlying26 (ti := Tryz.t3) (by kernel_rfl) (by decide) rfl
instance : Arr Tryz.prog 26 4 1 := mkArr Tryz.underlying26 (ti := Tryz.t3) (by kernel_rfl) rfl
instance : Ars Tryz.prog 69 5 1 := mkArs Tryz.underlying69 (ti := Tryz.t3) (by kernel_rfl) (by decide) rfl
instance : Arr Tryz.prog 69 5 1 := mkArr Tryz.underlying69 (ti := Tryz.t3) (by kernel_rfl) rfl
instance : Ars Tryz.prog 85 2 1 := mkArs Tryz.underlying85 (ti := Tryz.t3) (by kernel_rfl) (by decide) rfl
instance : Arr Tryz.prog 85 2 1 := mkArr Tryz.underlying85 (ti := Tryz.t3) (by kernel_rfl) rfl
instance : Ars Tryz.prog 163 256 1 := mkArs Tryz.underlying163 (ti := Tryz.t4) (by kernel_rfl) (by decide) rfl
instance : Arr Tryz.prog 163 256 1 := mkArr Tryz.underlying163 (ti := Tryz.t4) (by kernel_rfl) rfl
instance : Ars Tryz.prog 177 24 1 := mkArs Tryz.underlying177 (ti := Tryz.t5) (by kernel_rfl) (by decide) rfl
instance : Arr Tryz.prog 177 24 1 := mkArr Tryz.underlying177 (ti := Tryz.t5) (by kernel_rfl) rfl
instance : Ars Tryz.prog 194 20 1 := mkArs Tryz.underlying194 (ti := Tryz.t172) (by kernel_rfl) (by decide) rfl
instance : Arr Tryz.prog 194 20 1 := mkArr Tryz.underlying194 (ti := Tryz.t172) (by kernel_rfl) rfl
instance : Ars Tryz.prog 195 65 1 := mkArs Tryz.underlying195 (ti := Tryz.t5) (by kernel_rfl) (by decide) rfl
instance : Arr Tryz.prog 195 65 1 := mkArr Tryz.underlying195 (ti := Tryz.t5) (by kernel_rfl) rfl
instance : Ars Tryz.prog 204 256 1 := mkArs Tryz.underlying204 (ti := Tryz.t5) (by kernel_rfl) (by decide) rfl
instance : Arr Tryz.prog 204 256 1 := mkArr Tryz.underlying204 (ti := Tryz.t5) (by kernel_rfl) rfl
instance : Ars Tryz.prog 207 16 2 := mkArs Tryz.underlying207 (ti := Tryz.t206) (by kernel_rfl) (by decide) rfl
instance : Arr Tryz.prog 207 16 2 := mkArr Tryz.underlying207 (ti := Tryz.t206) (by kernel_rfl) rfl
instance : Ars Tryz.prog 214 32 1 := mkArs Tryz.underlying214 (ti := Tryz.t5) (by kernel_rfl) (by decide) rfl
instance : Arr Tryz.prog 214 32 1 := mkArr Tryz.underlying214 (ti := Tryz.t5) (by kernel_rfl) rfl
instance : Ars Tryz.prog 215 64 1 := mkArs Tryz.underlying215 (ti := Tryz.t5) (by kernel_rfl) (by decide) rfl
instance : Arr Tryz.prog 215 64 1 := mkArr Tryz.underlying215 (ti := Tryz.t5) (by kernel_rfl) rfl
instance : Slt Tryz.prog 27 3 1 := mkSlt Tryz.underlying27 (ti := Tryz.t3) (by kernel_rfl) rfl
instance : Slm Tryz.prog 27 3 [(.int .i64 0)] := mkSlm Tryz.underlying27 (ti := Tryz.t3) (by kernel_rfl) rfl rfl rfl (by decide)
instance : Slt Tryz.prog 28 23 2 := mkSlt Tryz.underlying28 (ti := Tryz.t23) (by kernel_rfl) rfl
instance : Slm Tryz.prog 28 23 [(str []), (str [])] := mkSlm Tryz.underlying28 (ti := Tryz.t23) (by kernel_rfl) rfl rfl rfl (by decide)
instance : Slt Tryz.prog 29 69 5 := mkSlt Tryz.underlying29 (ti := Tryz.t69) (by kernel_rfl) rfl
instance : Slm Tryz.prog 29 69 [(.int .i64 0), (.int .i64 0), (.int .i64 0), (.int .i64 0), (.int .i64 0)] := mkSlm Tryz.underlying29 (ti := Tryz.t69) (by kernel_rfl) rfl rfl rfl (by decide)
instance : Slt Tryz.prog 32 67 3 := mkSlt Tryz.underlying32 (ti := Tryz.t67) (by kernel_rfl) rfl
instance : Slm Tryz.prog 32 67 [(.int .i64 0), (.int .i64 0), (.int .i64 0)] := mkSlm Tryz.underlying32 (ti := Tryz.t67) (by kernel_rfl) rfl rfl rfl (by decide)
instance : Slt Tryz.prog 35 31 3 := mkSlt Tryz.underlying35 (ti := Tryz.t31) (by kernel_rfl) rfl
instance : Slm Tryz.prog 35 31 [(.int .i64 0), (.int .i64 0), (.slice none 0 0)] := mkSlm Tryz.underlying35 (ti := Tryz.t31) (by kernel_rfl) rfl rfl rfl (by decide)
instance : Slt Tryz.prog 38 25 5 := mkSlt Tryz.underlying38 (ti := Tryz.t25) (by kernel_rfl) rfl
instance : Slm Tryz.prog 38 25 [(.int .i64 0), (.int .i64 0), (str []), (str []), (.int .i64 0)] := mkSlm Tryz.underlying38 (ti := Tryz.t25) (by kernel_rfl) rfl rfl rfl (by decide)
instance : Slt Tryz.prog 44 35 1 := mkSlt Tryz.underlying44 (ti := Tryz.t35) (by kernel_rfl) rfl
instance : Slm Tryz.prog 44 35 [(.slice none 0 0)] := mkSlm Tryz.underlying44 (ti := Tryz.t35) (by kernel_rfl) rfl rfl rfl (by decide)
instance : Slt Tryz.prog 52 85 2 := mkSlt Tryz.underlying52 (ti := Tryz.t85) (by kernel_rfl) rfl
instance : Slm Tryz.prog 52 85 [(.int .i64 0), (.int .i64 0)] := mkSlm Tryz.underlying52 (ti := Tryz.t85) (by kernel_rfl) rfl rfl rfl (by decide)
instance : Slt Tryz.prog 84 4 1 := mkSlt Tryz.underlying84 (ti := Tryz.t4) (by kernel_rfl) rfl
instance : Slm Tryz.prog 84 4 [(.bool false)] := mkSlm Tryz.underlying84 (ti := Tryz.t4) (by kernel_rfl) rfl rfl rfl (by decide)
instance : Slt Tryz.prog 109 3 1 := mkSlt Tryz.underlying109 (ti := Tryz.t3) (by kernel_rfl) rfl
instance : Slm Tryz.prog 109 3 [(.int .i64 0)] := mkSlm Tryz.underlying109 (ti := Tryz.t3) (by kernel_rfl) rfl rfl rfl (by decide)
instance : Slt Tryz.prog 138 5 1 := mkSlt Tryz.underlying138 (ti := Tryz.t5) (by kernel_rfl) rfl
instance : Slm Tryz.prog 138 5 [(.int .u8 0)] := mkSlm Tryz.underlying138 (ti := Tryz.t5) (by kernel_rfl) rfl rfl rfl (by decide)
instance : Bld Tryz.prog 23 [(0, 1), (1, 1)] [(str []), (str [])] := mkBldS Tryz.underlying23 (ti := Tryz.t23) (by kernel_rfl) rfl rfl (by kernel_rfl) (by kernel_rfl)
instance : Bld Tryz.prog 25 [(0, 1), (1, 1), (2, 2), (4, 1)] [(.int .i64 0), (.int .i64 0), (str []), (str []), (.int .i64 0)] := mkBldS Tryz.underlying25 (ti := Tryz.t25) (by kernel_rfl) rfl rfl (by kernel_rfl) (by kernel_rfl)
instance : Bld Tryz.prog 31 [(0, 1), (1, 1), (2, 1)] [(.int .i64 0), (.int .i64 0), (.slice none 0 0)] := mkBldS Tryz.underlying31 (ti := Tryz.t31) (by kernel_rfl) rfl rfl (by kernel_rfl) (by kernel_rfl)
instance : Bld Tryz.prog 67 [(0, 1), (1, 1), (2, 1)] [(.int .i64 0), (.int .i64 0), (.int .i64 0)] := mkBldS Tryz.underlying67 (ti := Tryz.t67) (by kernel_rfl) rfl rfl (by kernel_rfl) (by kernel_rfl)
instance : Bld Tryz.prog 74 [(0, 2), (2, 1), (3, 1)] [(str []), (str []), (.int .i64 0), (.int .i64 0)] := mkBldS Tryz.underlying74 (ti := Tryz.t74) (by kernel_rfl) rfl rfl (by kernel_rfl) (by kernel_rfl)
instance : Bld Tryz.prog 88 [(0, 1)] [(.bool false)] := mkBldS Tryz.underlying88 (ti := Tryz.t88) (by kernel_rfl) rfl rfl (by kernel_rfl) (by kernel_rfl)
instance : Bld Tryz.prog 111 [(0, 1), (1, 1)] [(.bool false), (.slice none 0 0)] := mkBldS Tryz.underlying111 (ti := Tryz.t111) (by kernel_rfl) rfl rfl (by kernel_rfl) (by kernel_rfl)
instance : Bld Tryz.prog 201 [(0, 1), (1, 1), (2, 1)] [(str []), (str []), .nilIface] := mkBldS Tryz.underlying201 (ti := Tryz.t201) (by kernel_rfl) rfl rfl (by kernel_rfl) (by kernel_rfl)
instance : Bld Tryz.prog 213 [(0, 1)] [(str [])] := mkBldS Tryz.underlying213 (ti := Tryz.t213) (by kernel_rfl) rfl rfl (by kernel_rfl) (by kernel_rfl)
instance : StrT Tryz.prog 9 := ⟨Tryz.underlying9⟩
end Go.Proofs.YtjmdnjnjepinoaaGreatDoor
