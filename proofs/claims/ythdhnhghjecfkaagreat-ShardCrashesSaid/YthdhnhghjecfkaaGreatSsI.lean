/-
  Contracts and plain lemmas. By an AI agent.
-/
import Derived.Test.YthdhnhghjecfkaaGreatLSsI
import Derived.Test.YthdhnhghjecfkaaGreatSsA
import Derived.Test.YthdhnhghjecfkaaGreatPlain
set_option linter.unusedSimpArgs false
set_option linter.unusedVariables false
set_option linter.unusedSectionVars false
namespace Go.Proofs.YthdhnhghjecfkaaGreat
open Go Go.Eng Go.Proofs Go.RowKit
open Go.Srd (Ft VF Hd Mv mv0 Rd Ab Cmd got ltF sam srt plh ofS gotL delN cntL insR rdd fP st0 script0 Wt wt' fnd facts)
set_option maxRecDepth 100000
structure WoQ (w : World) (x : Sx) (us : List Value) (a : Ab) (W : Int → List Ft) : Prop where
 sh : ShR w x a
 len : us.length = 5
 ws : ∀ (i : Nat) (v : Value), us[i]? = some v → SlC w 10 v (W i).length ((W i).flatMap fF)
theorem WoQ.ext {w w' : World} {x : Sx} {us : List Value} {a : Ab} {W : Int → List Ft} (h : WoQ w x us a W) (e : Ext w w') : WoQ w' x us a W := ⟨h.sh.ext e, h.len, fun i v hv => (h.ws i v hv).ext e⟩
def RdOk (c : Cmd) : Prop := kC c = 7 ∨ kC c = 8 → 0 ≤ rC c ∧ rC c ≤ 4
section
variable {a a' : Ab} {c : Cmd} {l : List Ft} {W : Int → List Ft} (hs : Srd.step a c = some (a', l))
include hs
end
structure WoC (x : Sx) (a : Ab) (W : Int → List Ft) (us vs : List Value) (u : Value) (W' : Int → List Ft) : Prop where
 len : vs.length = 5
 ws : ∀ w, SlC w 10 u (facts a).length ((facts a).flatMap fF) → WoQ w x us a W → ∀ (i : Nat) (v : Value), vs[i]? = some v → SlC w 10 v (W' i).length ((W' i).flatMap fF)
 ks : ∀ v ∈ vs, v ∈ us ∨ v = u
section
variable {S : List Nat} {w0 : World} {x : Sx} {a a' : Ab} {u0 u1 u2 u3 u4 : Value} {W : Int → List Ft} {c : Cmd} {l : List Ft}
end
abbrev I4 := Int × Int × Int × Int
abbrev fQ (q : I4) : List Value := [.int .i64 q.1, .int .i64 q.2.1, .int .i64 q.2.2.1, .int .i64 q.2.2.2]
abbrev I64s (l : List I4) : Prop := ∀ q ∈ l, I64 q.1 ∧ I64 q.2.1 ∧ I64 q.2.2.1 ∧ I64 q.2.2.2
structure Ws where
 x : Sx
 u0 : Value
 u1 : Value
 u2 : Value
 u3 : Value
 u4 : Value
def nxA (a : Ab) (c : Cmd) : Ab := match Srd.step a c with | some p => p.1 | none => a
def nxW (a : Ab) (c : Cmd) (W : Int → List Ft) : Int → List Ft := match Srd.step a c with | some _ => wt' a c W | none => W
structure WoK (a : Ab) (W : Int → List Ft) : Prop where
 ok : Srd.Ok a
 ids : Srd.Ids a
 wt : Wt a W
 wl : ∀ i : Nat, i < 5 → (W i).length ≤ 400
theorem WoK.step {a : Ab} {W : Int → List Ft} {c : Cmd} (h : WoK a W) (hc : RdOk c) : WoK (nxA a c) (nxW a c W) := by
 unfold nxA nxW
 cases hs : Srd.step a c with
 | none => exact h
 | some p =>
  have hs : Srd.step a c = some (p.1, p.2) := hs
  refine ⟨Srd.step_ok h.ok hs, Srd.ids_step h.ids (fun r hr => ?_) hs, (Srd.eo_step h.ok h.wt hs).1, fun i hi => ?_⟩
  ·cases c with
   | opn q => cases hr; exact hc (.inl rfl)
   | _ => cases hr
  ·show (wt' a c W i).length ≤ 400
   cases c with
   | opn q =>
    show (if (i : Int) = q then facts a else W i).length ≤ 400
    split
    ·unfold Srd.facts; rw [srt_len]; exact h.ok.nA
    ·exact h.wl i hi
   | _ => exact h.wl i hi
theorem slc_at {w : World} {c b o n cap : Nat} {xs : List Value} (h : SlC w c (.slice (some ⟨b, o, none⟩) n cap) n xs) : CellsAt w b o xs := by
 obtain ⟨_, ⟨h, _⟩ | ⟨b', o', cap', h1, _, h3⟩⟩ := h
 ·cases h
 ·cases h1; exact h3
theorem cmdOf_rd {a : Ab} (hi : Srd.Ids a) {x0 x1 x2 x3 : Int} : RdOk (cmdOf a x0 x1 x2 x3) := by
 have p5 := pk_bd (c := x1) (n := 5) (by omega)
 unfold cmdOf
 split
 ·intro h; rcases h with h | h <;> simp [kC] at h
 split
 ·split
  ·intro h; rcases h with h | h <;> simp [kC] at h
  split
  ·intro h; rcases h with h | h <;> simp [kC] at h
  ·intro h; rcases h with h | h <;> simp [kC] at h
 split
 ·split
  ·intro h; rcases h with h | h <;> simp [kC] at h
  ·intro h; rcases h with h | h <;> simp [kC] at h
 split
 ·intro h; rcases h with h | h <;> simp [kC] at h
 split
 ·split
  ·intro h; rcases h with h | h <;> simp [kC] at h
  ·intro h; rcases h with h | h <;> simp [kC] at h
 split
 ·intro _; show 0 ≤ pk x1 5 ∧ pk x1 5 ≤ 4; omega
 split
 ·next r hr => intro _; exact hi r (List.mem_of_getElem? hr)
 ·intro _; show 0 ≤ pk x1 5 ∧ pk x1 5 ≤ 4; omega
theorem Jn2.lfD {A : (Value → Value → World → Prop) → Prop} {B : Value → Value → World → Prop} {ι : Type} (c0 : Value) (Q : Nat → ι → World → Prop) (hA : ∀ K : Value → Value → World → Prop, (∀ g i w, Q g i w → K (pr g 0) c0 w) → A K) (hB : ∀ g i w, Q g i w → B (pr g 0) c0 w) : Jn2 A B :=
 Jn2.mk fun K hK => hA K fun g i w q => hK _ _ w (hB g i w q)
section
variable {w0 : World} {n : Int} {v : Value} {xs : List I4} (hn : I64 n) (hx : SlC w0 4 v xs.length (xs.flatMap fQ)) (hq : I64s xs)
include hn hx hq
end
end Go.Proofs.YthdhnhghjecfkaaGreat
