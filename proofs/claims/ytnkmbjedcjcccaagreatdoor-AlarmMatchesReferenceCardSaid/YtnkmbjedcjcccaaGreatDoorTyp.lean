/-
  Contracts and plain lemmas. By an AI agent.
-/
import Derived.Test.YtnkmbjedcjcccaaGreatDoorEngW
import Derived.Test.YtnkmbjedcjcccaaGreatDoorSpec
set_option linter.all false
namespace Go.Proofs.YtnkmbjedcjcccaaGreatDoor
open Tryz
open Go Go.Eng
set_option maxRecDepth 100000
instance:Agg prog 25 2:=kt underlying25 rfl (ti:=Tryz.t25) (by kernel_rfl) rfl
instance:Agg prog 28 3:=kt underlying28 rfl (ti:=Tryz.t28) (by kernel_rfl) rfl
instance:Agg prog 30 15:=kt underlying30 rfl (ti:=Tryz.t30) (by kernel_rfl) rfl
instance:Agg prog 35 6:=kt underlying35 rfl (ti:=Tryz.t35) (by kernel_rfl) rfl
instance:Agg prog 39 6:=kt underlying39 rfl (ti:=Tryz.t39) (by kernel_rfl) rfl
instance:Agg prog 41 8:=kt underlying41 rfl (ti:=Tryz.t41) (by kernel_rfl) rfl
instance:Agg prog 65 10:=kt underlying65 rfl (ti:=Tryz.t65) (by kernel_rfl) rfl
instance:Agg prog 68 9:=kt underlying68 rfl (ti:=Tryz.t68) (by kernel_rfl) rfl
instance:Agg prog 77 2:=kt underlying77 rfl (ti:=Tryz.t77) (by kernel_rfl) rfl
instance:Agg prog 93 3:=kt underlying93 rfl (ti:=Tryz.t93) (by kernel_rfl) rfl
instance:Agg prog 113 1:=kt underlying113 rfl (ti:=Tryz.t113) (by kernel_rfl) rfl
instance:Agg prog 121 3:=kt underlying121 rfl (ti:=Tryz.t121) (by kernel_rfl) rfl
instance:Agg prog 141 2:=kt underlying141 rfl (ti:=Tryz.t141) (by kernel_rfl) rfl
instance:Agg prog 173 2:=kt underlying173 rfl (ti:=Tryz.t173) (by kernel_rfl) rfl
instance:Agg prog 204 3:=kt underlying204 rfl (ti:=Tryz.t204) (by kernel_rfl) rfl
instance:Agg prog 206 24:=kt underlying206 rfl (ti:=Tryz.t206) (by kernel_rfl) rfl
instance:Agg prog 218 256:=kt underlying218 rfl (ti:=Tryz.t218) (by kernel_rfl) rfl
instance:Agg prog 228 1:=kt underlying228 rfl (ti:=Tryz.t228) (by kernel_rfl) rfl
instance:Agg prog 231 65:=kt underlying231 rfl (ti:=Tryz.t231) (by kernel_rfl) rfl
instance:Agg prog 244 2:=kt underlying244 rfl (ti:=Tryz.t244) (by kernel_rfl) rfl
instance:One prog 3:=nx underlying3 rfl (ti:=Tryz.t3) (by kernel_rfl) rfl
instance:One prog 4:=nx underlying4 rfl (ti:=Tryz.t4) (by kernel_rfl) rfl
instance:One prog 5:=nx underlying5 rfl (ti:=Tryz.t5) (by kernel_rfl) rfl
instance:One prog 9:=nx underlying9 rfl (ti:=Tryz.t9) (by kernel_rfl) rfl
instance:One prog 26:=nx underlying26 rfl (ti:=Tryz.t26) (by kernel_rfl) rfl
instance:One prog 31:=nx underlying31 rfl (ti:=Tryz.t31) (by kernel_rfl) rfl
instance:One prog 33:=nx underlying33 rfl (ti:=Tryz.t33) (by kernel_rfl) rfl
instance:One prog 91:=nx underlying91 rfl (ti:=Tryz.t91) (by kernel_rfl) rfl
instance:One prog 101:=nx underlying101 rfl (ti:=Tryz.t101) (by kernel_rfl) rfl
instance:One prog 123:=nx underlying123 rfl (ti:=Tryz.t123) (by kernel_rfl) rfl
instance:One prog 139:=nx underlying139 rfl (ti:=Tryz.t139) (by kernel_rfl) rfl
instance:One prog 170:=nx underlying170 rfl (ti:=Tryz.t170) (by kernel_rfl) rfl
instance:One prog 171:=nx underlying171 rfl (ti:=Tryz.t171) (by kernel_rfl) rfl
instance:One prog 178:=nx underlying178 rfl (ti:=Tryz.t178) (by kernel_rfl) rfl
instance:One prog 200:=nx underlying200 rfl (ti:=Tryz.t200) (by kernel_rfl) rfl
instance:Zer prog 3 [(.int .i64 0)]:=ny (ti:=Tryz.t3) (by kernel_rfl) rfl rfl
instance:Zer prog 4 [(.bool false)]:=ny (ti:=Tryz.t4) (by kernel_rfl) rfl rfl
instance:Zer prog 25 [(bh []),(bh [])]:=ny (ti:=Tryz.t25) (by kernel_rfl) rfl rfl
instance:Zer prog 28 [(bh []),(bh []),(.slice none 0 0)]:=ny (ti:=Tryz.t28) (by kernel_rfl) rfl rfl
instance:Zer prog 30 [(.int .i64 0),(.int .i64 0),(.int .i64 0),(bh []),(bh []),(bh []),(bh []),(bh []),(bh []),(.int .i64 0),(.int .i64 0),(.int .i64 0),(bh []),(bh []),(.bool false)]:=ny (ti:=Tryz.t30) (by kernel_rfl) rfl rfl
instance:Zer prog 33 [(.slice none 0 0)]:=ny (ti:=Tryz.t33) (by kernel_rfl) rfl rfl
instance:Zer prog 35 [(bh []),(bh []),(.slice none 0 0),(.slice none 0 0),(.int .i64 0),(.slice none 0 0)]:=ny (ti:=Tryz.t35) (by kernel_rfl) rfl rfl
instance:Zer prog 39 [(.int .i64 0),(.int .i64 0),(.int .i64 0),(.int .i64 0),(.int .i64 0),(.int .i64 0)]:=ny (ti:=Tryz.t39) (by kernel_rfl) rfl rfl
instance:Zer prog 65 [(.int .i64 0),(.int .i64 0),(.int .i64 0),(.int .i64 0),(.int .i64 0),(.int .i64 0),(.int .i64 0),(.int .i64 0),(.int .i64 0),(.int .i64 0)]:=ny (ti:=Tryz.t65) (by kernel_rfl) rfl rfl
instance:Zer prog 139 [(.slice none 0 0)]:=ny (ti:=Tryz.t139) (by kernel_rfl) rfl rfl
instance:Zer prog 141 [(.bool false),(.slice none 0 0)]:=ny (ti:=Tryz.t141) (by kernel_rfl) rfl rfl
instance:Zer prog 173 [(.pointer none),(.slice none 0 0)]:=ny (ti:=Tryz.t173) (by kernel_rfl) rfl rfl
instance:Zer prog 178 [.nilFunc]:=ny (ti:=Tryz.t178) (by kernel_rfl) rfl rfl
instance:Zer prog 206 [(.int .u8 0),(.int .u8 0),(.int .u8 0),(.int .u8 0),(.int .u8 0),(.int .u8 0),(.int .u8 0),(.int .u8 0),(.int .u8 0),(.int .u8 0),(.int .u8 0),(.int .u8 0),(.int .u8 0),(.int .u8 0),(.int .u8 0),(.int .u8 0),(.int .u8 0),(.int .u8 0),(.int .u8 0),(.int .u8 0),(.int .u8 0),(.int .u8 0),(.int .u8 0),(.int .u8 0)]:=ny (ti:=Tryz.t206) (by kernel_rfl) rfl rfl
instance:Zer prog 244 [(.int .u8 0),(.int .u8 0)]:=ny (ti:=Tryz.t244) (by kernel_rfl) rfl rfl
instance:Fld prog 25 0 0:=⟨fun w g o=>by simp -dsimp[go_sem]⟩
instance:Fld prog 25 1 1:=⟨fun w g o=>by simp -dsimp[go_sem]⟩
instance:Fld prog 28 0 0:=⟨fun w g o=>by simp -dsimp[go_sem]⟩
instance:Fld prog 28 1 2:=⟨fun w g o=>by simp -dsimp[go_sem]⟩
instance:Fld prog 30 0 0:=⟨fun w g o=>by simp -dsimp[go_sem]⟩
instance:Fld prog 30 1 1:=⟨fun w g o=>by simp -dsimp[go_sem]⟩
instance:Fld prog 30 2 2:=⟨fun w g o=>by simp -dsimp[go_sem]⟩
instance:Fld prog 30 3 3:=⟨fun w g o=>by simp -dsimp[go_sem]⟩
instance:Fld prog 30 4 5:=⟨fun w g o=>by simp -dsimp[go_sem]⟩
instance:Fld prog 30 5 7:=⟨fun w g o=>by simp -dsimp[go_sem]⟩
instance:Fld prog 30 6 9:=⟨fun w g o=>by simp -dsimp[go_sem]⟩
instance:Fld prog 30 7 10:=⟨fun w g o=>by simp -dsimp[go_sem]⟩
instance:Fld prog 30 8 11:=⟨fun w g o=>by simp -dsimp[go_sem]⟩
instance:Fld prog 30 9 12:=⟨fun w g o=>by simp -dsimp[go_sem]⟩
instance:Fld prog 30 10 14:=⟨fun w g o=>by simp -dsimp[go_sem]⟩
instance:Fld prog 35 0 0:=⟨fun w g o=>by simp -dsimp[go_sem]⟩
instance:Fld prog 35 1 3:=⟨fun w g o=>by simp -dsimp[go_sem]⟩
instance:Fld prog 35 2 4:=⟨fun w g o=>by simp -dsimp[go_sem]⟩
instance:Fld prog 35 3 5:=⟨fun w g o=>by simp -dsimp[go_sem]⟩
instance:Fld prog 41 0 0:=⟨fun w g o=>by simp -dsimp[go_sem]⟩
instance:Fld prog 41 1 1:=⟨fun w g o=>by simp -dsimp[go_sem]⟩
instance:Fld prog 41 2 7:=⟨fun w g o=>by simp -dsimp[go_sem]⟩
instance:Fld prog 65 0 0:=⟨fun w g o=>by simp -dsimp[go_sem]⟩
instance:Fld prog 65 1 1:=⟨fun w g o=>by simp -dsimp[go_sem]⟩
instance:Fld prog 65 2 2:=⟨fun w g o=>by simp -dsimp[go_sem]⟩
instance:Fld prog 65 3 3:=⟨fun w g o=>by simp -dsimp[go_sem]⟩
instance:Fld prog 65 4 4:=⟨fun w g o=>by simp -dsimp[go_sem]⟩
instance:Fld prog 65 5 5:=⟨fun w g o=>by simp -dsimp[go_sem]⟩
instance:Fld prog 65 6 6:=⟨fun w g o=>by simp -dsimp[go_sem]⟩
instance:Fld prog 65 7 7:=⟨fun w g o=>by simp -dsimp[go_sem]⟩
instance:Fld prog 65 8 8:=⟨fun w g o=>by simp -dsimp[go_sem]⟩
instance:Fld prog 65 9 9:=⟨fun w g o=>by simp -dsimp[go_sem]⟩
instance:Fld prog 68 0 0:=⟨fun w g o=>by simp -dsimp[go_sem]⟩
instance:Fld prog 68 1 1:=⟨fun w g o=>by simp -dsimp[go_sem]⟩
instance:Fld prog 68 2 7:=⟨fun w g o=>by simp -dsimp[go_sem]⟩
instance:Fld prog 68 3 8:=⟨fun w g o=>by simp -dsimp[go_sem]⟩
instance:Fld prog 93 0 0:=⟨fun w g o=>by simp -dsimp[go_sem]⟩
instance:Fld prog 113 0 0:=⟨fun w g o=>by simp -dsimp[go_sem]⟩
instance:Fld prog 141 0 0:=⟨fun w g o=>by simp -dsimp[go_sem]⟩
instance:Fld prog 141 1 1:=⟨fun w g o=>by simp -dsimp[go_sem]⟩
instance:Fld prog 173 0 0:=⟨fun w g o=>by simp -dsimp[go_sem]⟩
instance:Fld prog 173 1 1:=⟨fun w g o=>by simp -dsimp[go_sem]⟩
instance:Fld prog 244 0 0:=⟨fun w g o=>by simp -dsimp[go_sem]⟩
instance:Fld prog 244 1 1:=⟨fun w g o=>by simp -dsimp[go_sem]⟩
instance:Ars prog 39 6 1:=rN underlying39 (ti:=Tryz.t3) (by kernel_rfl) (by decide) rfl
instance:Arr prog 39 6 1:=rL underlying39 (ti:=Tryz.t3) (by kernel_rfl) rfl
instance:Ars prog 77 2 1:=rN underlying77 (ti:=Tryz.t3) (by kernel_rfl) (by decide) rfl
instance:Arr prog 77 2 1:=rL underlying77 (ti:=Tryz.t3) (by kernel_rfl) rfl
instance:Ars prog 121 3 1:=rN underlying121 (ti:=Tryz.t3) (by kernel_rfl) (by decide) rfl
instance:Arr prog 121 3 1:=rL underlying121 (ti:=Tryz.t3) (by kernel_rfl) rfl
instance:Ars prog 206 24 1:=rN underlying206 (ti:=Tryz.t5) (by kernel_rfl) (by decide) rfl
instance:Arr prog 206 24 1:=rL underlying206 (ti:=Tryz.t5) (by kernel_rfl) rfl
instance:Ars prog 218 256 1:=rN underlying218 (ti:=Tryz.t4) (by kernel_rfl) (by decide) rfl
instance:Arr prog 218 256 1:=rL underlying218 (ti:=Tryz.t4) (by kernel_rfl) rfl
instance:Ars prog 230 20 1:=rN underlying230 (ti:=Tryz.t200) (by kernel_rfl) (by decide) rfl
instance:Arr prog 230 20 1:=rL underlying230 (ti:=Tryz.t200) (by kernel_rfl) rfl
instance:Ars prog 231 65 1:=rN underlying231 (ti:=Tryz.t5) (by kernel_rfl) (by decide) rfl
instance:Arr prog 231 65 1:=rL underlying231 (ti:=Tryz.t5) (by kernel_rfl) rfl
instance:Ars prog 240 32 1:=rN underlying240 (ti:=Tryz.t5) (by kernel_rfl) (by decide) rfl
instance:Arr prog 240 32 1:=rL underlying240 (ti:=Tryz.t5) (by kernel_rfl) rfl
instance:Ars prog 241 64 1:=rN underlying241 (ti:=Tryz.t5) (by kernel_rfl) (by decide) rfl
instance:Arr prog 241 64 1:=rL underlying241 (ti:=Tryz.t5) (by kernel_rfl) rfl
instance:Ars prog 242 256 1:=rN underlying242 (ti:=Tryz.t5) (by kernel_rfl) (by decide) rfl
instance:Arr prog 242 256 1:=rL underlying242 (ti:=Tryz.t5) (by kernel_rfl) rfl
instance:Ars prog 245 16 2:=rN underlying245 (ti:=Tryz.t244) (by kernel_rfl) (by decide) rfl
instance:Arr prog 245 16 2:=rL underlying245 (ti:=Tryz.t244) (by kernel_rfl) rfl
instance:Slt prog 22 121 3:=pp underlying22 (ti:=Tryz.t121) (by kernel_rfl) rfl
instance:Slm prog 22 121 [(.int .i64 0),(.int .i64 0),(.int .i64 0)]:=pq underlying22 (ti:=Tryz.t121) (by kernel_rfl) rfl rfl rfl (by decide)
instance:Slt prog 23 41 8:=pp underlying23 (ti:=Tryz.t41) (by kernel_rfl) rfl
instance:Slm prog 23 41 [(.int .i64 0),(.int .i64 0),(.int .i64 0),(.int .i64 0),(.int .i64 0),(.int .i64 0),(.int .i64 0),(.int .i64 0)]:=pq underlying23 (ti:=Tryz.t41) (by kernel_rfl) rfl rfl rfl (by decide)
instance:Slt prog 26 30 15:=pp underlying26 (ti:=Tryz.t30) (by kernel_rfl) rfl
instance:Slm prog 26 30 [(.int .i64 0),(.int .i64 0),(.int .i64 0),(bh []),(bh []),(bh []),(bh []),(bh []),(bh []),(.int .i64 0),(.int .i64 0),(.int .i64 0),(bh []),(bh []),(.bool false)]:=pq underlying26 (ti:=Tryz.t30) (by kernel_rfl) rfl rfl rfl (by decide)
instance:Slt prog 31 65 10:=pp underlying31 (ti:=Tryz.t65) (by kernel_rfl) rfl
instance:Slm prog 31 65 [(.int .i64 0),(.int .i64 0),(.int .i64 0),(.int .i64 0),(.int .i64 0),(.int .i64 0),(.int .i64 0),(.int .i64 0),(.int .i64 0),(.int .i64 0)]:=pq underlying31 (ti:=Tryz.t65) (by kernel_rfl) rfl rfl rfl (by decide)
instance:Slt prog 33 3 1:=pp underlying33 (ti:=Tryz.t3) (by kernel_rfl) rfl
instance:Slm prog 33 3 [(.int .i64 0)]:=pq underlying33 (ti:=Tryz.t3) (by kernel_rfl) rfl rfl rfl (by decide)
instance:Slt prog 43 28 3:=pp underlying43 (ti:=Tryz.t28) (by kernel_rfl) rfl
instance:Slm prog 43 28 [(bh []),(bh []),(.slice none 0 0)]:=pq underlying43 (ti:=Tryz.t28) (by kernel_rfl) rfl rfl rfl (by decide)
instance:Slt prog 53 31 1:=pp underlying53 (ti:=Tryz.t31) (by kernel_rfl) rfl
instance:Slm prog 53 31 [(.slice none 0 0)]:=pq underlying53 (ti:=Tryz.t31) (by kernel_rfl) rfl rfl rfl (by decide)
instance:Slt prog 61 68 9:=pp underlying61 (ti:=Tryz.t68) (by kernel_rfl) rfl
instance:Slm prog 61 68 [(.int .i64 0),(.int .i64 0),(.int .i64 0),(.int .i64 0),(.int .i64 0),(.int .i64 0),(.int .i64 0),(.int .i64 0),(.bool false)]:=pq underlying61 (ti:=Tryz.t68) (by kernel_rfl) rfl rfl rfl (by decide)
instance:Slt prog 72 39 6:=pp underlying72 (ti:=Tryz.t39) (by kernel_rfl) rfl
instance:Slm prog 72 39 [(.int .i64 0),(.int .i64 0),(.int .i64 0),(.int .i64 0),(.int .i64 0),(.int .i64 0)]:=pq underlying72 (ti:=Tryz.t39) (by kernel_rfl) rfl rfl rfl (by decide)
instance:Slt prog 73 77 2:=pp underlying73 (ti:=Tryz.t77) (by kernel_rfl) rfl
instance:Slm prog 73 77 [(.int .i64 0),(.int .i64 0)]:=pq underlying73 (ti:=Tryz.t77) (by kernel_rfl) rfl rfl rfl (by decide)
instance:Slt prog 139 3 1:=pp underlying139 (ti:=Tryz.t3) (by kernel_rfl) rfl
instance:Slm prog 139 3 [(.int .i64 0)]:=pq underlying139 (ti:=Tryz.t3) (by kernel_rfl) rfl rfl rfl (by decide)
instance:Slt prog 147 25 2:=pp underlying147 (ti:=Tryz.t25) (by kernel_rfl) rfl
instance:Slm prog 147 25 [(bh []),(bh [])]:=pq underlying147 (ti:=Tryz.t25) (by kernel_rfl) rfl rfl rfl (by decide)
instance:Slt prog 171 5 1:=pp underlying171 (ti:=Tryz.t5) (by kernel_rfl) rfl
instance:Slm prog 171 5 [(.int .u8 0)]:=pq underlying171 (ti:=Tryz.t5) (by kernel_rfl) rfl rfl rfl (by decide)
instance:Bld prog 25 [(0,1),(1,1)] [(bh []),(bh [])]:=oI underlying25 (ti:=Tryz.t25) (by kernel_rfl) rfl rfl (by kernel_rfl) (by kernel_rfl)
instance:Bld prog 28 [(0,2),(2,1)] [(bh []),(bh []),(.slice none 0 0)]:=oI underlying28 (ti:=Tryz.t28) (by kernel_rfl) rfl rfl (by kernel_rfl) (by kernel_rfl)
instance:Bld prog 30 [(0,1),(1,1),(2,1),(3,2),(5,2),(7,2),(9,1),(10,1),(11,1),(12,2),(14,1)] [(.int .i64 0),(.int .i64 0),(.int .i64 0),(bh []),(bh []),(bh []),(bh []),(bh []),(bh []),(.int .i64 0),(.int .i64 0),(.int .i64 0),(bh []),(bh []),(.bool false)]:=oI underlying30 (ti:=Tryz.t30) (by kernel_rfl) rfl rfl (by kernel_rfl) (by kernel_rfl)
instance:Bld prog 35 [(0,3),(3,1),(4,1),(5,1)] [(bh []),(bh []),(.slice none 0 0),(.slice none 0 0),(.int .i64 0),(.slice none 0 0)]:=oI underlying35 (ti:=Tryz.t35) (by kernel_rfl) rfl rfl (by kernel_rfl) (by kernel_rfl)
instance:Bld prog 39 [(0,1),(1,1),(2,1),(3,1),(4,1),(5,1)] [(.int .i64 0),(.int .i64 0),(.int .i64 0),(.int .i64 0),(.int .i64 0),(.int .i64 0)]:=OD underlying39 (ti:=Tryz.t39) (by kernel_rfl) rfl rfl (te:=Tryz.t3) (by kernel_rfl) (by decide) rfl rfl
instance:Bld prog 65 [(0,1),(1,1),(2,1),(3,1),(4,1),(5,1),(6,1),(7,1),(8,1),(9,1)] [(.int .i64 0),(.int .i64 0),(.int .i64 0),(.int .i64 0),(.int .i64 0),(.int .i64 0),(.int .i64 0),(.int .i64 0),(.int .i64 0),(.int .i64 0)]:=oI underlying65 (ti:=Tryz.t65) (by kernel_rfl) rfl rfl (by kernel_rfl) (by kernel_rfl)
instance:Bld prog 93 [(0,3)] [(bh []),(bh []),(.slice none 0 0)]:=oI underlying93 (ti:=Tryz.t93) (by kernel_rfl) rfl rfl (by kernel_rfl) (by kernel_rfl)
instance:Bld prog 113 [(0,1)] [(.bool false)]:=oI underlying113 (ti:=Tryz.t113) (by kernel_rfl) rfl rfl (by kernel_rfl) (by kernel_rfl)
instance:Bld prog 141 [(0,1),(1,1)] [(.bool false),(.slice none 0 0)]:=oI underlying141 (ti:=Tryz.t141) (by kernel_rfl) rfl rfl (by kernel_rfl) (by kernel_rfl)
instance:Bld prog 204 [(0,1),(1,1),(2,1)] [(bh []),(bh []),.nilIface]:=oI underlying204 (ti:=Tryz.t204) (by kernel_rfl) rfl rfl (by kernel_rfl) (by kernel_rfl)
instance:Bld prog 228 [(0,1)] [(bh [])]:=oI underlying228 (ti:=Tryz.t228) (by kernel_rfl) rfl rfl (by kernel_rfl) (by kernel_rfl)
instance:Fdv prog 28 1 false 2 1:=QK (f:=1) (ag:=false) underlying28 rfl underlying26 rfl (ti:=Tryz.t26) (by kernel_rfl) rfl
instance:StrT prog 9:=⟨underlying9⟩
end Go.Proofs.YtnkmbjedcjcccaaGreatDoor
