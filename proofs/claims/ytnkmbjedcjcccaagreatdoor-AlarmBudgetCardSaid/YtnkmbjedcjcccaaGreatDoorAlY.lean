/-
  Contracts and plain lemmas. By an AI agent.
-/
import Derived.Test.YtnkmbjedcjcccaaGreatDoorAlT
set_option linter.unusedSimpArgs false
set_option linter.unusedVariables false
set_option linter.unusedSectionVars false
namespace Go.Proofs.YtnkmbjedcjcccaaGreatDoor
open Go Go.Eng Go.Proofs Go.Num Go.RowKit
open Go.Alm (Ft Wt Sm VW VA dn fct obs obs1 rungs obsN fresh sumW)
set_option maxRecDepth 100000
section
variable {w0 : World} {n : Int} {B : Rat} {s : St} {v lv rv : Value} {fl : List Ft} {d : Dd} (hE : En w0) (hB : VB n B s.ws) (hn : 0 ≤ n ∧ n + fl.length ≤ 1000000) (hv : SlC w0 15 v s.ws.length ((s.ws.map wr).flatMap fW)) (hr : SlC w0 1 rv s.rg.length (s.rg.flatMap fN)) (hF : Fk w0 lv fl) (hfl : VFs fl) (ha : s.at' ≤ fl.length) (hrg : s.rg.length ≤ 1000000) (hd : Ddk d)
include hE hB hn hv hr hF hfl ha hrg hd
theorem c_does (hsv : ∀ k, v.ownBlock = some k → k < w0.heap.size) (hsr : ∀ k, rv.ownBlock = some k → k < w0.heap.size) : Calls Tryz.prog 11 #[vWd B v lv s.at' rv, vD d] w0 (Ret (DeP w0 B (doS B fl d s) v lv rv)) := by
 by_cases hk : pickZ d.kind 4 = 0
 ·exact c_does0 hE hB hn hv hr hF hfl ha hrg hd hk hsv hsr
 ·exact c_does1 hE hB hn hv hr hF hfl ha hrg hd hk
end
def bud (b : Int) : Rat := ((1 + pickZ b 20 : Int) : Rat) / ((20 : Int) : Rat)
theorem bud_Sm (b : Int) : Sm 1 (bud b) := by
 have h := pickZ_bd (c := b) (n := 20) (by decide)
 exact Sm.divq (by omega) (by omega) (by decide)
theorem bud_VB (b : Int) : VB 0 (bud b) [] := ⟨bud_Sm b, by simp, by simp, (bud_Sm b).ge⟩
theorem bud_k (b : Int) : RSk (tx (bud b)) := by
 have h := Sm.rb (bud_Sm b) (.inl rfl)
 exact ⟨itoa_ok h.n, itoa_ok h.d⟩
theorem c_OpenB {w0 : World} {b : Int} (hE : En w0) : Calls Tryz.prog 17 #[vR (tx (bud b))] w0 (Ret fun r w' => Ext w0 w' ∧ r = .tuple #[vA (tx (bud b)) (.slice none 0 0), .int .i64 0]) := by
 have := c_Open (w0 := w0) hE (bud_k b)
 rw [show okA (tx (bud b)) [] = true from okA_t ⟨bud b, [], rfl, rfl, (bud_VB b).va (by decide)⟩] at this
 exact this
set_option maxHeartbeats 8000000 in
theorem c_begin {w0 : World} {b : Int} {v : Value} {l : List I3} (hE : En w0) (hb : I64 b) (hv : SlC w0 3 v l.length (l.flatMap fT)) (hok : I3ok l) (hl : l.length ≤ 9223372036854775807) :
 Calls Tryz.prog 10 #[.int .i64 b, v] w0 (Ret fun o w' => ∃ x y z, o = .tuple #[vWd (bud b) (.slice none 0 0) (.slice x y z) 0 (.slice none 0 0), .bool true] ∧ Hp [] w0 w' [ro tFc 10 (.slice x y z) (fcts l 30).length ((fcts l 30).flatMap fF)]) := by
 have h20 := pickZ_bd (c := b) (n := 20) (by decide)
 have cc1 := fun {W : World} (_ : Ext w0 W) => c_pickL (w := W) (n := 20) hb (by decide)
 have cc2 : ∀ {W : World}, Ext w0 W → Calls Tryz.prog 30 #[.int .i64 (1 + pickZ b 20), .int .i64 20] W (Ret fun r w' => Ext W w' ∧ r = vR (tx (bud b))) := fun {W} e => c_of (w := W) (hE.hT.ext e) (by omega) (by decide) (by decide)
 have cc3 := fun {W : World} (e : Ext w0 W) => c_OpenB (w0 := W) (b := b) (hE.ext e)
 apply e_law28_begin
 unfold s_law28_begin
 have h := Hp.init [] w0
 refine alS h fun g1 w h => ?_
 refine cl1 h n_law28_pick (cc1 h.ext) fun w h => ?_
 refine Bn_ad (by omega) (by omega) (cl1 h n_law28_of (cc2 h.ext) fun w h => ?_)
 refine cl1 h n_alarm_Open (cc3 h.ext) fun w h => ?_
 refine Ex2 (alS h fun g2 w h => ?_)
 refine stA h 0 rfl rfl rfl rfl fun w h => ?_
 replace h := h.dr
 refine dlA h 0 rfl rfl ?_
 refine Dv_eqT (by omega) ?_
 dsimp only [List.set] at h
 refine Cl_i n_ref28_Facts (c_Facts (hv.ext h.ext) hok hl) ?_
 rintro lv W1 h1
 refine Exists.elim (h1.sl (i := 0) rfl).key fun x hx => Exists.elim hx fun y hx => Exists.elim hx fun z hx => ?_
 have hx := hx.1
 subst hx
 have h := h.cat1 h1 ro_sm
 clear h1
 refine klA h 1 rfl rfl ?_
 refine dbS (PC.cons (by rfl) (PC.cons (by rfl) PC.nil)) (by rfl) ?_
 refine stA h 2 rfl rfl rfl rfl fun w h => ?_
 refine rcA h 2 rfl rfl ?_
 dsimp only [List.set] at h
 exact Ret.mk ⟨_, _, _, rfl, h.pick [0] (by decide) rfl⟩
abbrev fX6 (x : I6) : List Value := [.int .i64 (x 0), .int .i64 (x 1), .int .i64 (x 2), .int .i64 (x 3), .int .i64 (x 4), .int .i64 (x 5)]
def I6ok (l : List I6) : Prop := ∀ x ∈ l, ∀ i, I64 (x i)
open Classical in
noncomputable def reg1 (B : Rat) (ws : List Wt) (w : Wt) : List Wt := if Can B ws w then ws ++ [fresh ws w] else ws
theorem ro_sl2 {w0 W : World} {L : List Et} {e : TypeId} {n : Nat} {v : Value} {xs : List Value} (h : Hp [] w0 W (ro e 15 v n xs :: L)) : Hp [] w0 W (sl2 v n xs (.slice none 0 0) 0 [] :: L) := by
 have hnil : SlC W 1 (.slice none 0 0) 0 [] := (((Hp.init [] W).nil 3 1).sl (i := 0) rfl)
 have hnd := List.pairwise_cons.1 h.nd
 have hks := h.ks _ List.mem_cons_self
 have e0 : (sl2 v n xs (.slice none 0 0) 0 []).ks = (ro e 15 v n xs).ks := List.append_nil _
 exact (h.drop 1).nw (sl2_at (qZ 0 h rfl) hnil) (fun k hk => hks k (by rw [← e0]; exact hk)) fun x hx k hk => hnd.1 x hx k (by rw [← e0]; exact hk)
end Go.Proofs.YtnkmbjedcjcccaaGreatDoor
