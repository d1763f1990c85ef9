/-
  Contracts and plain lemmas. By an AI agent.
-/
import Derived.Test.YtdbcpkihokagkaaGreatDoorEngW
import Derived.Test.YtdbcpkihokagkaaGreatDoorSpec
set_option linter.unusedSimpArgs false
set_option linter.unusedVariables false
set_option linter.unusedSectionVars false
namespace Go.Proofs.YtdbcpkihokagkaaGreatDoor
open Go Go.Eng
set_option maxRecDepth 100000
instance : Agg Tryz.prog 23 2 := mkAgg Tryz.underlying23 rfl (ti := Tryz.t23) (by kernel_rfl) rfl
instance : Agg Tryz.prog 25 4 := mkAgg Tryz.underlying25 rfl (ti := Tryz.t25) (by kernel_rfl) rfl
instance : Agg Tryz.prog 27 6 := mkAgg Tryz.underlying27 rfl (ti := Tryz.t27) (by kernel_rfl) rfl
instance : Agg Tryz.prog 28 4 := mkAgg Tryz.underlying28 rfl (ti := Tryz.t28) (by kernel_rfl) rfl
instance : Agg Tryz.prog 68 3 := mkAgg Tryz.underlying68 rfl (ti := Tryz.t68) (by kernel_rfl) rfl
instance : Agg Tryz.prog 103 1 := mkAgg Tryz.underlying103 rfl (ti := Tryz.t103) (by kernel_rfl) rfl
instance : Agg Tryz.prog 117 2 := mkAgg Tryz.underlying117 rfl (ti := Tryz.t117) (by kernel_rfl) rfl
instance : Agg Tryz.prog 143 2 := mkAgg Tryz.underlying143 rfl (ti := Tryz.t143) (by kernel_rfl) rfl
instance : Agg Tryz.prog 164 24 := mkAgg Tryz.underlying164 rfl (ti := Tryz.t164) (by kernel_rfl) rfl
instance : Agg Tryz.prog 176 3 := mkAgg Tryz.underlying176 rfl (ti := Tryz.t176) (by kernel_rfl) rfl
instance : Agg Tryz.prog 184 256 := mkAgg Tryz.underlying184 rfl (ti := Tryz.t184) (by kernel_rfl) rfl
instance : Agg Tryz.prog 195 65 := mkAgg Tryz.underlying195 rfl (ti := Tryz.t195) (by kernel_rfl) rfl
instance : Agg Tryz.prog 202 1 := mkAgg Tryz.underlying202 rfl (ti := Tryz.t202) (by kernel_rfl) rfl
instance : Agg Tryz.prog 211 2 := mkAgg Tryz.underlying211 rfl (ti := Tryz.t211) (by kernel_rfl) rfl
instance : One Tryz.prog 3 := mkOne Tryz.underlying3 rfl (ti := Tryz.t3) (by kernel_rfl) rfl
instance : One Tryz.prog 4 := mkOne Tryz.underlying4 rfl (ti := Tryz.t4) (by kernel_rfl) rfl
instance : One Tryz.prog 5 := mkOne Tryz.underlying5 rfl (ti := Tryz.t5) (by kernel_rfl) rfl
instance : One Tryz.prog 9 := mkOne Tryz.underlying9 rfl (ti := Tryz.t9) (by kernel_rfl) rfl
instance : One Tryz.prog 44 := mkOne Tryz.underlying44 rfl (ti := Tryz.t44) (by kernel_rfl) rfl
instance : One Tryz.prog 60 := mkOne Tryz.underlying60 rfl (ti := Tryz.t60) (by kernel_rfl) rfl
instance : One Tryz.prog 66 := mkOne Tryz.underlying66 rfl (ti := Tryz.t66) (by kernel_rfl) rfl
instance : One Tryz.prog 82 := mkOne Tryz.underlying82 rfl (ti := Tryz.t82) (by kernel_rfl) rfl
instance : One Tryz.prog 109 := mkOne Tryz.underlying109 rfl (ti := Tryz.t109) (by kernel_rfl) rfl
instance : One Tryz.prog 115 := mkOne Tryz.underlying115 rfl (ti := Tryz.t115) (by kernel_rfl) rfl
instance : One Tryz.prog 141 := mkOne Tryz.underlying141 rfl (ti := Tryz.t141) (by kernel_rfl) rfl
instance : One Tryz.prog 158 := mkOne Tryz.underlying158 rfl (ti := Tryz.t158) (by kernel_rfl) rfl
instance : Zer Tryz.prog 3 [(.int .i64 0)] := mkZer (ti := Tryz.t3) (by kernel_rfl) rfl rfl
instance : Zer Tryz.prog 23 [(str []), (str [])] := mkZer (ti := Tryz.t23) (by kernel_rfl) rfl rfl
instance : Zer Tryz.prog 25 [(.int .i64 0), (.int .i64 0), (.int .i64 0), (.int .i64 0)] := mkZer (ti := Tryz.t25) (by kernel_rfl) rfl rfl
instance : Zer Tryz.prog 27 [(str []), (str []), (.int .i64 0), (.int .i64 0), (.int .i64 0), (.int .i64 0)] := mkZer (ti := Tryz.t27) (by kernel_rfl) rfl rfl
instance : Zer Tryz.prog 28 [(.int .i64 0), (.int .i64 0), (.int .i64 0), (.int .i64 0)] := mkZer (ti := Tryz.t28) (by kernel_rfl) rfl rfl
instance : Zer Tryz.prog 44 [(.slice none 0 0)] := mkZer (ti := Tryz.t44) (by kernel_rfl) rfl rfl
instance : Zer Tryz.prog 115 [(.slice none 0 0)] := mkZer (ti := Tryz.t115) (by kernel_rfl) rfl rfl
instance : Zer Tryz.prog 117 [(.bool false), (.slice none 0 0)] := mkZer (ti := Tryz.t117) (by kernel_rfl) rfl rfl
instance : Zer Tryz.prog 143 [(.pointer none), (.slice none 0 0)] := mkZer (ti := Tryz.t143) (by kernel_rfl) rfl rfl
instance : Zer Tryz.prog 158 [.nilFunc] := mkZer (ti := Tryz.t158) (by kernel_rfl) rfl rfl
instance : Zer Tryz.prog 164 [(.int .u8 0), (.int .u8 0), (.int .u8 0), (.int .u8 0), (.int .u8 0), (.int .u8 0), (.int .u8 0), (.int .u8 0), (.int .u8 0), (.int .u8 0), (.int .u8 0), (.int .u8 0), (.int .u8 0), (.int .u8 0), (.int .u8 0), (.int .u8 0), (.int .u8 0), (.int .u8 0), (.int .u8 0), (.int .u8 0), (.int .u8 0), (.int .u8 0), (.int .u8 0), (.int .u8 0)] := mkZer (ti := Tryz.t164) (by kernel_rfl) rfl rfl
instance : Zer Tryz.prog 211 [(.int .u8 0), (.int .u8 0)] := mkZer (ti := Tryz.t211) (by kernel_rfl) rfl rfl
instance : Fld Tryz.prog 23 0 0 := ⟨fun w g o => by simp -dsimp [go_sem]⟩
instance : Fld Tryz.prog 23 1 1 := ⟨fun w g o => by simp -dsimp [go_sem]⟩
instance : Fld Tryz.prog 25 0 0 := ⟨fun w g o => by simp -dsimp [go_sem]⟩
instance : Fld Tryz.prog 25 1 1 := ⟨fun w g o => by simp -dsimp [go_sem]⟩
instance : Fld Tryz.prog 25 2 2 := ⟨fun w g o => by simp -dsimp [go_sem]⟩
instance : Fld Tryz.prog 25 3 3 := ⟨fun w g o => by simp -dsimp [go_sem]⟩
instance : Fld Tryz.prog 27 0 0 := ⟨fun w g o => by simp -dsimp [go_sem]⟩
instance : Fld Tryz.prog 27 1 2 := ⟨fun w g o => by simp -dsimp [go_sem]⟩
instance : Fld Tryz.prog 68 0 0 := ⟨fun w g o => by simp -dsimp [go_sem]⟩
instance : Fld Tryz.prog 68 1 1 := ⟨fun w g o => by simp -dsimp [go_sem]⟩
instance : Fld Tryz.prog 68 2 2 := ⟨fun w g o => by simp -dsimp [go_sem]⟩
instance : Fld Tryz.prog 103 0 0 := ⟨fun w g o => by simp -dsimp [go_sem]⟩
instance : Fld Tryz.prog 117 0 0 := ⟨fun w g o => by simp -dsimp [go_sem]⟩
instance : Fld Tryz.prog 117 1 1 := ⟨fun w g o => by simp -dsimp [go_sem]⟩
instance : Fld Tryz.prog 143 0 0 := ⟨fun w g o => by simp -dsimp [go_sem]⟩
instance : Fld Tryz.prog 143 1 1 := ⟨fun w g o => by simp -dsimp [go_sem]⟩
instance : Fld Tryz.prog 211 0 0 := ⟨fun w g o => by simp -dsimp [go_sem]⟩
instance : Fld Tryz.prog 211 1 1 := ⟨fun w g o => by simp -dsimp [go_sem]⟩
instance : Ars Tryz.prog 28 4 1 := mkArs Tryz.underlying28 (ti := Tryz.t3) (by kernel_rfl) (by decide) rfl
instance : Arr Tryz.prog 28 4 1 := mkArr Tryz.underlying28 (ti := Tryz.t3) (by kernel_rfl) rfl
instance : Ars Tryz.prog 74 4 1 := mkArs Tryz.underlying74 (ti := Tryz.t9) (by kernel_rfl) (by decide) rfl
instance : Arr Tryz.prog 74 4 1 := mkArr Tryz.underlying74 (ti := Tryz.t9) (by kernel_rfl) rfl
instance : Ars Tryz.prog 164 24 1 := mkArs Tryz.underlying164 (ti := Tryz.t5) (by kernel_rfl) (by decide) rfl
instance : Arr Tryz.prog 164 24 1 := mkArr Tryz.underlying164 (ti := Tryz.t5) (by kernel_rfl) rfl
instance : Ars Tryz.prog 184 256 1 := mkArs Tryz.underlying184 (ti := Tryz.t4) (by kernel_rfl) (by decide) rfl
instance : Arr Tryz.prog 184 256 1 := mkArr Tryz.underlying184 (ti := Tryz.t4) (by kernel_rfl) rfl
instance : Ars Tryz.prog 193 20 1 := mkArs Tryz.underlying193 (ti := Tryz.t109) (by kernel_rfl) (by decide) rfl
instance : Arr Tryz.prog 193 20 1 := mkArr Tryz.underlying193 (ti := Tryz.t109) (by kernel_rfl) rfl
instance : Ars Tryz.prog 195 65 1 := mkArs Tryz.underlying195 (ti := Tryz.t5) (by kernel_rfl) (by decide) rfl
instance : Arr Tryz.prog 195 65 1 := mkArr Tryz.underlying195 (ti := Tryz.t5) (by kernel_rfl) rfl
instance : Ars Tryz.prog 209 256 1 := mkArs Tryz.underlying209 (ti := Tryz.t5) (by kernel_rfl) (by decide) rfl
instance : Arr Tryz.prog 209 256 1 := mkArr Tryz.underlying209 (ti := Tryz.t5) (by kernel_rfl) rfl
instance : Ars Tryz.prog 212 16 2 := mkArs Tryz.underlying212 (ti := Tryz.t211) (by kernel_rfl) (by decide) rfl
instance : Arr Tryz.prog 212 16 2 := mkArr Tryz.underlying212 (ti := Tryz.t211) (by kernel_rfl) rfl
instance : Ars Tryz.prog 214 32 1 := mkArs Tryz.underlying214 (ti := Tryz.t5) (by kernel_rfl) (by decide) rfl
instance : Arr Tryz.prog 214 32 1 := mkArr Tryz.underlying214 (ti := Tryz.t5) (by kernel_rfl) rfl
instance : Ars Tryz.prog 215 64 1 := mkArs Tryz.underlying215 (ti := Tryz.t5) (by kernel_rfl) (by decide) rfl
instance : Arr Tryz.prog 215 64 1 := mkArr Tryz.underlying215 (ti := Tryz.t5) (by kernel_rfl) rfl
instance : Slt Tryz.prog 32 27 6 := mkSlt Tryz.underlying32 (ti := Tryz.t27) (by kernel_rfl) rfl
instance : Slm Tryz.prog 32 27 [(str []), (str []), (.int .i64 0), (.int .i64 0), (.int .i64 0), (.int .i64 0)] := mkSlm Tryz.underlying32 (ti := Tryz.t27) (by kernel_rfl) rfl rfl rfl (by decide)
instance : Slt Tryz.prog 44 5 1 := mkSlt Tryz.underlying44 (ti := Tryz.t5) (by kernel_rfl) rfl
instance : Slm Tryz.prog 44 5 [(.int .u8 0)] := mkSlm Tryz.underlying44 (ti := Tryz.t5) (by kernel_rfl) rfl rfl rfl (by decide)
instance : Slt Tryz.prog 45 9 1 := mkSlt Tryz.underlying45 (ti := Tryz.t9) (by kernel_rfl) rfl
instance : Slm Tryz.prog 45 9 [(str [])] := mkSlm Tryz.underlying45 (ti := Tryz.t9) (by kernel_rfl) rfl rfl rfl (by decide)
instance : Slt Tryz.prog 47 3 1 := mkSlt Tryz.underlying47 (ti := Tryz.t3) (by kernel_rfl) rfl
instance : Slm Tryz.prog 47 3 [(.int .i64 0)] := mkSlm Tryz.underlying47 (ti := Tryz.t3) (by kernel_rfl) rfl rfl rfl (by decide)
instance : Slt Tryz.prog 115 3 1 := mkSlt Tryz.underlying115 (ti := Tryz.t3) (by kernel_rfl) rfl
instance : Slm Tryz.prog 115 3 [(.int .i64 0)] := mkSlm Tryz.underlying115 (ti := Tryz.t3) (by kernel_rfl) rfl rfl rfl (by decide)
instance : Slt Tryz.prog 134 23 2 := mkSlt Tryz.underlying134 (ti := Tryz.t23) (by kernel_rfl) rfl
instance : Slm Tryz.prog 134 23 [(str []), (str [])] := mkSlm Tryz.underlying134 (ti := Tryz.t23) (by kernel_rfl) rfl rfl rfl (by decide)
instance : Bld Tryz.prog 23 [(0, 1), (1, 1)] [(str []), (str [])] := mkBldS Tryz.underlying23 (ti := Tryz.t23) (by kernel_rfl) rfl rfl (by kernel_rfl) (by kernel_rfl)
instance : Bld Tryz.prog 25 [(0, 1), (1, 1), (2, 1), (3, 1)] [(.int .i64 0), (.int .i64 0), (.int .i64 0), (.int .i64 0)] := mkBldS Tryz.underlying25 (ti := Tryz.t25) (by kernel_rfl) rfl rfl (by kernel_rfl) (by kernel_rfl)
instance : Bld Tryz.prog 27 [(0, 2), (2, 4)] [(str []), (str []), (.int .i64 0), (.int .i64 0), (.int .i64 0), (.int .i64 0)] := mkBldS Tryz.underlying27 (ti := Tryz.t27) (by kernel_rfl) rfl rfl (by kernel_rfl) (by kernel_rfl)
instance : Bld Tryz.prog 28 [(0, 1), (1, 1), (2, 1), (3, 1)] [(.int .i64 0), (.int .i64 0), (.int .i64 0), (.int .i64 0)] := mkBldA Tryz.underlying28 (ti := Tryz.t28) (by kernel_rfl) rfl rfl (te := Tryz.t3) (by kernel_rfl) (by decide) rfl rfl
instance : Bld Tryz.prog 68 [(0, 1), (1, 1), (2, 1)] [.nilFunc, .nilFunc, (.bool false)] := mkBldS Tryz.underlying68 (ti := Tryz.t68) (by kernel_rfl) rfl rfl (by kernel_rfl) (by kernel_rfl)
instance : Bld Tryz.prog 103 [(0, 1)] [(.bool false)] := mkBldS Tryz.underlying103 (ti := Tryz.t103) (by kernel_rfl) rfl rfl (by kernel_rfl) (by kernel_rfl)
instance : Bld Tryz.prog 117 [(0, 1), (1, 1)] [(.bool false), (.slice none 0 0)] := mkBldS Tryz.underlying117 (ti := Tryz.t117) (by kernel_rfl) rfl rfl (by kernel_rfl) (by kernel_rfl)
instance : Bld Tryz.prog 176 [(0, 1), (1, 1), (2, 1)] [(str []), (str []), .nilIface] := mkBldS Tryz.underlying176 (ti := Tryz.t176) (by kernel_rfl) rfl rfl (by kernel_rfl) (by kernel_rfl)
instance : Bld Tryz.prog 202 [(0, 1)] [(str [])] := mkBldS Tryz.underlying202 (ti := Tryz.t202) (by kernel_rfl) rfl rfl (by kernel_rfl) (by kernel_rfl)
instance : StrT Tryz.prog 9 := ⟨Tryz.underlying9⟩
end Go.Proofs.YtdbcpkihokagkaaGreatDoor
