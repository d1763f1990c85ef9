/-
  Contracts and plain lemmas. By an AI agent.
-/
import Derived.Test.YtjgjeccfhmlcnaaGreatDoorQRatC
import Derived.Test.YtjgjeccfhmlcnaaGreatDoorEng
import Derived.Test.YtjgjeccfhmlcnaaGreatDoorStrY
set_option linter.unusedSimpArgs false
set_option linter.unusedVariables false
set_option linter.unusedSectionVars false
namespace Go.Proofs.YtjgjeccfhmlcnaaGreatDoor
open Go Go.Eng Go.Proofs Go.Num Go.RowKit
set_option maxRecDepth 100000
theorem gdR {op : BinOp} {c : Bool} {xs ys : Array Value} {w : World} : (eqG op tR c (.agg xs) (.agg ys)).run Tryz.prog w = .ok () w := eqG_agg (by kernel_rfl)
section
variable {w : World} {K : Value → World → Prop} {KP : Value → Prop} {rest : Prop} {g o : Nat} {ty : TypeId} {cs : List Value} {a b a' b' : List UInt8} {wi c : Bool}
theorem dqNeF (h : (a == a' && b == b') = true) (hk : KP (.bool false)) : Dv Tryz.prog wi (bn .neq tR c (.agg #[str a, str b]) (.agg #[str a', str b'])) w KP := by
 simp only [Bool.and_eq_true] at h
 cases wi <;> ((try simp -dsimp [go_sem, gdR, h.1, h.2]); repeat (simp -dsimp (disch := omega) only [gL, gI]; try simp -dsimp [go_sem, gdR, h.1, h.2])) <;> exact hk
end
theorem same2 (a b : List UInt8) : (a == a && b == b) = true := by simp
def ErrV (w : World) : Prop := (∃ tp p, w.var? Tryz.prog "strconv.ErrSyntax" = some #[.iface tp p]) ∧ ∃ tp p, w.var? Tryz.prog "strconv.ErrRange" = some #[.iface tp p]
theorem errS_named : ∃ g, Tryz.prog.globalNamed "strconv.ErrSyntax" = some g := Option.isSome_iff_exists.1 (by kernel_rfl)
theorem errR_named : ∃ g, Tryz.prog.globalNamed "strconv.ErrRange" = some g := Option.isSome_iff_exists.1 (by kernel_rfl)
theorem ErrV.ext {w w' : World} (h : ErrV w) (he : Ext w w') : ErrV w' := by
 obtain ⟨⟨tp, p, h1⟩, tp', p', h2⟩ := h
 obtain ⟨g, hg⟩ := errS_named
 obtain ⟨g', hg'⟩ := errR_named
 exact ⟨⟨tp, p, Joins.var_stays hg h1 he (Nat.le_refl _)⟩, tp', p', Joins.var_stays hg' h2 he (Nat.le_refl _)⟩
theorem c_AtoiAll {s : List UInt8} {w : World} (hs : s.length ≤ 1000000) (he : ErrV w) :
 Calls Tryz.prog 60 #[str s] w (Ret fun r w' => Ext w w' ∧ ((∃ v, Lib.atoiAll s = .ok v ∧ r = .tuple #[.int .i64 v, .nilIface]) ∨ (∃ n b, (∀ v, Lib.atoiAll s ≠ .ok v) ∧ r = .tuple #[.int .i64 n, .iface 157 (.pointer (some ⟨b, 0, none⟩))]))) := by
 obtain ⟨⟨tp, p, h1⟩, tp', p', h2⟩ := he
 have hsz : (ByteArray.mk s.toArray).size = s.length := rfl
 cases hv : Lib.atoiAll s
 ·next v =>
  refine (Tryz.strconv_Atoi_ok ⟨s.toArray⟩ (by omega) v hv w).mono ?_
  rintro _ w' ⟨rfl, rfl | ⟨t, rfl⟩⟩
  ·exact Ret.mk ⟨.refl _, .inl ⟨v, rfl, rfl⟩⟩
  ·exact Ret.mk ⟨Lib.bytesWorld_below _ _ _, .inl ⟨v, rfl, rfl⟩⟩
 ·refine (Any.strconv_Atoi_syntax_var Tryz.laysC172 ⟨s.toArray⟩ (by omega) hv tp p w h1).mono ?_
  rintro _ w' ⟨N, rfl, _, _, hb⟩
  exact Ret.mk ⟨hb, .inr ⟨_, N, by simp, rfl⟩⟩
 ·refine (Tryz.strconv_Atoi_range_var ⟨s.toArray⟩ (by omega) hv tp' p' w h2).mono ?_
  rintro _ w' ⟨N, rfl, _, _, hb⟩
  exact Ret.mk ⟨hb, .inr ⟨_, N, by simp, rfl⟩⟩
end Go.Proofs.YtjgjeccfhmlcnaaGreatDoor
