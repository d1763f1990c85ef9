/-
  Contracts and plain lemmas. By an AI agent.
-/
import Derived.Test.YtnkmbjedcjcccaaGreatDoorAlA
import Derived.Test.YtnkmbjedcjcccaaGreatDoorSpecD
set_option linter.unusedSimpArgs false
set_option linter.unusedVariables false
set_option linter.unusedSectionVars false
namespace Go.Proofs.YtnkmbjedcjcccaaGreatDoor
open Go Go.Eng Go.Proofs Go.Num Go.RowKit
open Go.Alm (Ft Wt Sm VW VA)
set_option maxRecDepth 100000
section
variable {w0 w : World} {r : WR} {g : Nat} (hk : WRk r)
include hk
end
abbrev tAl : TypeId := 28
theorem c_Valid2 {w0 : World} {r : WR} (hE : En w0) (hk : WRk r) : Calls Tryz.prog 43 #[vW r] w0 (Ret fun v w' => Ext w0 w' ∧ v = .bool (!okB1 r)) := by
 have hf := fun {W : World} (e : Ext w0 W) => c_fine (w0 := W) (hE.ext e) hk
 cases hb : okB1 r with
 | false =>
  have cc1 : ∀ {W : World}, Ext w0 W → Calls Tryz.prog 44 #[vW r] W (Ret fun v w' => Ext W w' ∧ v = .bool false) := fun {W} e => by
   have := hf e
   unfold PoW at this
   rw [hb] at this; exact this
  apply e_alarm_Valid_2
  unfold s_alarm_Valid_2
  have h := Hp.init [] w0
  refine bxA h fun g1 w h => ?_
  refine ldA h 0 rfl rfl ?_
  refine cl1 h n_alarm_fine (cc1 h.ext) fun w h => ?_
  refine Un_F ?_
  exact Ret.mk ⟨h.ext, rfl⟩
 | true =>
  have cc1 : ∀ {W : World}, Ext w0 W → Calls Tryz.prog 44 #[vW r] W (Ret fun v w' => Ext W w' ∧ v = .bool true) := fun {W} e => by
   have := hf e
   unfold PoW at this
   rw [hb] at this; exact this
  apply e_alarm_Valid_2
  unfold s_alarm_Valid_2
  have h := Hp.init [] w0
  refine bxA h fun g1 w h => ?_
  refine ldA h 0 rfl rfl ?_
  refine cl1 h n_alarm_fine (cc1 h.ext) fun w h => ?_
  refine Un_T ?_
  exact Ret.mk ⟨h.ext, rfl⟩
section
variable {w0 : World} {v : Value} {l : List WR} (hE : En w0) (hv : SlC w0 15 v l.length (l.flatMap fW)) (hk : ∀ r ∈ l, WRk r) (hl : l.length ≤ 9223372036854775807)
include hE hv hk hl
set_option maxHeartbeats 2000000 in
theorem c_IndexF : Calls Tryz.prog 77 #[v, .func (.func 43) #[] #[]] w0 (Ret fun r w' => Ext w0 w' ∧ ∃ z : Int, r = .int .i64 z ∧ (z < 0 ↔ ∀ x ∈ l, OkW x) ∧ -1 ≤ z ∧ z ≤ 9223372036854775807) := by
 apply e_slices_IndexFunc_api_Watch_api_Watch
 unfold s_slices_IndexFunc_api_Watch_api_Watch
 have h := Hp.init [] w0
 refine leS (hv.hp h) ?_
 refine Lp1.mk (fun i W => ∃ j : Nat, j ≤ l.length ∧ i = .int .i64 j ∧ (∀ x ∈ l.take j, OkW x) ∧ Hp [] w0 W [])
  (fun i _ => match i with | .int _ i' => l.length - i'.toNat | _ => 0) ⟨0, by omega, rfl, by simp, h⟩ ?_
 clear h
 rintro _ W ⟨j, hj, rfl, hall, h⟩
 by_cases hjl : j < l.length
 ·refine Exists.elim (p := fun x => l[j]? = some x) ⟨_, List.getElem?_eq_getElem hjl⟩ fun x hx => ?_
  have sx : Seg (l.flatMap fW) (j * 15) (fW x) := flat_seg (f := fW) (fun _ => rfl) hx
  have hxk := hk x (List.mem_of_getElem? hx)
  by_cases a : OkW x
  ·have cc1 : ∀ {W : World}, Ext w0 W → Calls Tryz.prog 43 #[vW x] W (Ret fun r w' => Ext W w' ∧ r = .bool false) := fun {W} e => by
    have := c_Valid2 (w0 := W) (hE.ext e) hxk
    rw [okB1_t a] at this; exact this
   refine Bn_ltT (by omega) (If_T (iaH h ‹_› (by omega) fun zb zo zk zv zc => ?_))
   refine lhA h ‹_› ‹_› (by rfl) ?_
   refine cw1 h n_alarm_Valid_2 (cc1 h.ext) fun w h => ?_
   refine If_F (Bn_ad (by omega) (by omega) ?_)
   refine ⟨⟨j + 1, by omega, rfl, fun y hy => ?_, h⟩, by show l.length - ((j : Int) + 1).toNat < l.length - (j : Int).toNat; omega⟩
   rw [take_snoc hx] at hy
   rcases List.mem_append.1 hy with hy | hy
   ·exact hall y hy
   ·simp at hy; subst hy; exact a
  ·have cc1 : ∀ {W : World}, Ext w0 W → Calls Tryz.prog 43 #[vW x] W (Ret fun r w' => Ext W w' ∧ r = .bool true) := fun {W} e => by
    have := c_Valid2 (w0 := W) (hE.ext e) hxk
    rw [okB1_f a] at this; exact this
   refine Bn_ltT (by omega) (If_T (iaH h ‹_› (by omega) fun zb zo zk zv zc => ?_))
   refine lhA h ‹_› ‹_› (by rfl) ?_
   refine cw1 h n_alarm_Valid_2 (cc1 h.ext) fun w h => ?_
   refine If_T ?_
   exact Ret.mk ⟨h.ext, j, rfl, ⟨fun h => by omega, fun h => absurd (h x (List.mem_of_getElem? hx)) a⟩, by omega, by omega⟩
 rw [List.take_of_length_le (by omega)] at hall
 refine Bn_ltF (by omega) (If_F ?_)
 exact Ret.mk ⟨h.ext, -1, rfl, ⟨fun _ => hall, fun _ => by decide⟩, by decide, by decide⟩
theorem c_ContF {b : Bool} (hb : b = true ↔ ¬ ∀ x ∈ l, OkW x) : Calls Tryz.prog 42 #[v, .func (.func 43) #[] #[]] w0 (Ret fun r w' => Ext w0 w' ∧ r = .bool b) := by
 apply e_slices_ContainsFunc_api_Watch_api_Watch
 unfold s_slices_ContainsFunc_api_Watch_api_Watch
 have h := Hp.init [] w0
 refine Cl_i n_slices_IndexFunc_api_Watch_api_Watch (c_IndexF hE hv hk hl) ?_
 rintro _ w' ⟨x, z, rfl, hz, z1, z2⟩
 have h := h.x x
 by_cases h0 : z < 0
 ·have e : b = false := by
   cases b
   ·rfl
   ·exact absurd (hz.1 h0) (hb.1 rfl)
  subst e
  refine Bn_geF (by omega) ?_
  exact Ret.mk ⟨h.ext, rfl⟩
 ·have e : b = true := hb.2 fun x => h0 (hz.2 x)
  subst e
  refine Bn_geT (by omega) ?_
  exact Ret.mk ⟨h.ext, rfl⟩
end
theorem sum_SR : ∀ {ws : List Wt}, (∀ w ∈ ws, Sm 1 w.al) → SR (1 + 5 * ws.length) (1 + 4 * ws.length) (Alm.sumW Alm.al ws) := by
 intro ws
 induction ws with
 | nil => intro _; exact ⟨by unfold Sz; decide, by unfold Sz; decide⟩
 | cons w ws ih =>
  intro h
  have h1 := ih fun v hv => h v (List.mem_cons_of_mem _ hv)
  have h2 := Sm.sr1 (h w List.mem_cons_self)
  have := SR.add (k := 5 + 5 * ws.length) h2 h1 (by omega) (by omega)
  exact SR.mono this (by rw [List.length_cons]; omega) (by rw [List.length_cons]; omega)
theorem sum_snoc {ws : List Wt} {j : Nat} {x : Wt} (h : ws[j]? = some x) : Alm.sumW Alm.al (ws.take (j + 1)) = Alm.sumW Alm.al (ws.take j) + x.al := by
 rw [take_snoc h, Alm.sumW_append]
 show _ + (x.al + 0) = _
 grind
section
variable {w0 : World} {p : RS} {v : Value} {ws : List Wt} (hv : SlC w0 15 v ws.length ((ws.map wr).flatMap fW)) (hk : ∀ w ∈ ws, Sm 1 w.al) (hl : ws.length ≤ 12)
include hv hk hl
set_option maxHeartbeats 2000000 in
theorem c_spent (hE : En w0) : Calls Tryz.prog 45 #[.agg #[str p.1, str p.2, v]] w0 (Ret fun r w' => Ext w0 w' ∧ r = vR (tx (Alm.sumW Alm.al ws))) := by
 have z0 := hE.z0
 have ccm := fun {W : World} (_ : Ext w0 W) {x : Rat} => c_must (w := W) (p := tx x)
 apply e_alarm_spent
 unfold s_alarm_spent
 have h := Hp.init [] w0
 refine bxA h fun g1 w h => ?_
 refine alS h fun g2 w h => ?_
 refine lgA h ‹_› (by rfl) ?_
 refine alS h fun g3 w h => ?_
 refine stA h 0 rfl rfl rfl rfl fun w h => ?_
 refine faS (Eng.ld1 h 2 rfl rfl (leS (hv.hp h) ?_))
 dsimp only [List.set] at h
 have e0 : tx (Alm.sumW Alm.al (ws.take 0)) = ([48], [49]) := tx0
 refine Lp1.mk (fun i W => ∃ j : Nat, j ≤ ws.length ∧ i = .int .i64 j ∧ Hp [] w0 W [bx g3 tR (fR (tx (Alm.sumW Alm.al (ws.take j)))), bx g2 tR [str [], str []]])
  (fun i _ => match i with | .int _ i' => ws.length - i'.toNat | _ => 0) ⟨0, by omega, rfl, by rw [e0]; exact h.pick [0, 1] (by decide) rfl⟩ ?_
 clear h
 rintro _ W ⟨j, hj, rfl, h⟩
 by_cases hjl : j < ws.length
 ·refine Exists.elim (p := fun x => ws[j]? = some x) ⟨_, List.getElem?_eq_getElem hjl⟩ fun x hx => ?_
  have hx' : (ws.map wr)[j]? = some (wr x) := by rw [List.getElem?_map, hx]; rfl
  have sx : Seg ((ws.map wr).flatMap fW) (j * 15) (fW (wr x)) := flat_seg (f := fW) (fun _ => rfl) hx'
  have hs := sum_SR (ws := ws.take j) fun w hw => hk w (List.mem_of_mem_take hw)
  rw [take_len (by omega)] at hs
  have hs2 := sum_snoc hx
  have sa := Sm.sr1 (hk x (List.mem_of_getElem? hx))
  have cc1 := fun {W : World} (e : Ext w0 W) => k_add (w := W) (k := 99) hs sa (by omega) (by omega) (by omega) (by omega) (hE.hT.ext e)
  rw [← hs2] at cc1
  refine Bn_ltT (by omega) (If_T (iaH h ‹_› (by omega) fun zb zo zk zv zc => ?_))
  refine lhA h ‹_› ‹_› (by rfl) ?_
  refine alS h fun g4 w h => ?_
  refine stA h 0 rfl rfl rfl rfl fun w h => ?_
  refine ldA h 1 rfl rfl ?_
  refine faS (ldA h 0 rfl rfl ?_)
  refine cl1 h n_rational_Add (cc1 h.ext) fun w h => ?_
  refine Ex2 (cl1 h n_alarm_must (ccm h.ext) fun w h => ?_)
  refine stA h 1 rfl rfl rfl rfl fun w h => ?_
  refine Bn_ad (by omega) (by omega) ?_
  dsimp only [List.set] at h
  exact ⟨⟨j + 1, by omega, rfl, h.pick [1, 2] (by decide) rfl⟩, by show ws.length - ((j : Int) + 1).toNat < ws.length - (j : Int).toNat; omega⟩
 have hjl' : j = ws.length := by omega
 subst hjl'
 rw [List.take_length] at h
 refine Bn_ltF (by omega) (If_F (ldA h 0 rfl rfl ?_))
 refine stA h 1 rfl rfl rfl rfl fun w h => ?_
 refine rcA h 1 rfl rfl ?_
 dsimp only [List.set] at h
 exact Ret.mk ⟨h.ext, rfl⟩
end
theorem n_alarm_Valid_1 : Enters Tryz.prog 40 := enters_of Tryz.func40 (by kernel_rfl) rfl
theorem c_Valid1 {g : Nat} {w : World} : CallsW Tryz.prog 40 #[pr g 0] .returning w (fun e u' w' => e = .returned (.tuple #[]) ∧ u' = .returning ∧ w' = w) := by
 refine callsDIn_of_wpSIn (F := Fence.wide) Tryz.func40 rfl trivial fun c₀ cs hu => ?_
 apply wpSIn_seq
 apply wpSIn_region
 simp [wpOpsSIn, go_sem, recoverD, hu, Tryz.ntmps40, Exit.thenS]
 apply wpSIn_seq
 apply wpSIn_region
 simp [wpOpsSIn, go_sem, Tryz.ntmps40, Exit.thenS]
 refine wpSIn_cond (t := false) (by simp [Act.eval, Array.replicate]) ?_
 simp only [Bool.false_eq_true, if_false]
 refine wpSIn_of_wpIn rfl (wpIn_skip ?_)
 cases c₀
 simp_all [bodyPostS, results, Tryz.results40]
theorem Df_ret {g : Nat} {w : World} {R : Ending → World → Prop} {t : TypeId} {v : Value} [One Tryz.prog t] (h : Blk w g t [v]) (hk : R (.returned v) w) : Df Tryz.prog 40 #[pr g 0] .returning w (fun w => Rc Tryz.prog t (pr g 0) w fun r0 => R (.returned r0) w) R := by
 refine CallsDIn.mono (c_Valid1 (g := g) (w := w)) ?_
 rintro e u' w' ⟨rfl, rfl, rfl⟩
 exact ⟨_, run_ld1 (P := Tryz.prog) (t := t) h rfl, hk⟩
section
variable {w0 : World} {p : RS} {v : Value} {ws : List Wt} (hv : SlC w0 15 v ws.length ((ws.map wr).flatMap fW)) (hk : ∀ w ∈ ws, Sm 1 w.al) (hl : ws.length ≤ 12)
include hv hk hl
end
def OkA (p : RS) (l : List WR) : Prop := ∃ B ws, p = tx B ∧ l = ws.map wr ∧ VA B ws
open Classical in
noncomputable def okA (p : RS) (l : List WR) : Bool := decide (OkA p l)
theorem okA_t {p : RS} {l : List WR} (h : OkA p l) : okA p l = true := by unfold okA; simp [h]
theorem okA_f {p : RS} {l : List WR} (h : ¬ OkA p l) : okA p l = false := by unfold okA; simp [h]
theorem oks_of {l : List WR} : (∀ r ∈ l, OkW r) → ∃ ws : List Wt, l = ws.map wr ∧ ∀ w ∈ ws, VW 1000000 w := by
 induction l with
 | nil => exact fun _ => ⟨[], rfl, by simp⟩
 | cons r l ih =>
  intro h
  obtain ⟨ws, e, h2⟩ := ih fun x hx => h x (List.mem_cons_of_mem _ hx)
  obtain ⟨w, hw, e2⟩ := h r List.mem_cons_self
  refine ⟨w :: ws, by rw [e, e2]; rfl, fun x hx => ?_⟩
  rcases List.mem_cons.1 hx with rfl | hx
  ·exact hw
  ·exact h2 x hx
theorem wr_inj {a b : Wt} (h : wr a = wr b) : a = b := by
 obtain ⟨a1, a2, a3, a4, a5, a6, a7, a8, a9, a10, a11⟩ := a
 obtain ⟨b1, b2, b3, b4, b5, b6, b7, b8, b9, b10, b11⟩ := b
 simp only [wr, WR.mk.injEq] at h
 obtain ⟨h1, h2, h3, h4, h5, h6, h7, h8, h9, h10, h11⟩ := h
 rw [h1, h2, h3, tx_inj h4, tx_inj h5, tx_inj h6, h7, h8, h9, tx_inj h10, h11]
theorem wrs_inj {a b : List Wt} (h : a.map wr = b.map wr) : a = b := List.map_inj_right (fun _ _ h => wr_inj h) |>.1 h
structure Ak (w : World) (p : RS) (v : Value) (l : List WR) : Prop where
 hp : RSk p
 hv : SlC w 15 v l.length (l.flatMap fW)
 hk : ∀ r ∈ l, WRk r
 hl : l.length ≤ 1000000
theorem Ak.ext {w w' : World} {p : RS} {v : Value} {l : List WR} (h : Ak w p v l) (x : Ext w w') : Ak w' p v l := ⟨h.hp, h.hv.ext x, h.hk, h.hl⟩
abbrev vA (p : RS) (v : Value) : Value := .agg #[str p.1, str p.2, v]
set_option maxHeartbeats 4000000 in
theorem c_aValid {w0 : World} {p : RS} {v : Value} {l : List WR} (hE : En w0) (hA : Ak w0 p v l) : Calls Tryz.prog 13 #[vA p v] w0 (Ret fun r w' => Ext w0 w' ∧ r = .bool (okA p l)) := by
 obtain ⟨hp, hv, hk, hl⟩ := hA
 have dfr := fun {g : Nat} {w : World} {b : Bool} {R : Ending → World → Prop} (h : Blk w g 4 [.bool b]) hk => Df_ret (t := 4) (R := R) h hk
 by_cases p1 : ∃ x, p = tx x ∧ Sm 1 x
 rotate_left
 ·have hno : ¬ OkA p l := fun ⟨B, ws, e, _, h⟩ => p1 ⟨B, e, h.b⟩
  have cc1 := fun {W : World} (e : Ext w0 W) => c_smallF (w0 := W) (hE.ext e) (.inl rfl) l1' hp p1
  rw [okA_f hno]
  apply e_alarm_Valid n_alarm_Valid_1
  unfold s_alarm_Valid
  have h := Hp.init [] w0
  refine bxA h fun g1 w h => ?_
  refine alS h fun g2 w h => ?_
  refine faS (ldA h 1 rfl rfl ?_)
  refine cl1 h n_alarm_small (cc1 h.ext) fun w h => ?_
  refine Un_F (Gd_TF (Gd_TF (Gd_TF (Gd_TF (Pick_T (Gd_TF (Gd_TF (Gd_TF (Pick_T (If_T (st1 h 0 rfl rfl rfl rfl fun w h => ?_)))))))))))
  dsimp only [List.set] at h
  exact dfr (h.get (i := 0) rfl) (Ret.mk ⟨h.ext, rfl⟩)
 have cc1 := fun {W : World} (e : Ext w0 W) => smT (w0 := W) p1 (hE.ext e) (.inl rfl) l1'
 by_cases p2 : l.length ≤ 12
 rotate_left
 ·have hno : ¬ OkA p l := fun ⟨B, ws, e, e2, h⟩ => p2 (by rw [e2, List.length_map]; exact h.len)
  rw [okA_f hno]
  apply e_alarm_Valid n_alarm_Valid_1
  unfold s_alarm_Valid
  have h := Hp.init [] w0
  refine bxA h fun g1 w h => ?_
  refine alS h fun g2 w h => ?_
  refine faS (ldA h 1 rfl rfl ?_)
  refine cl1 h n_alarm_small (cc1 h.ext) fun w h => ?_
  refine Un_T (Gd_F (faS (Gd_F (Eng.ld1 h 1 rfl rfl (Gd_F (leS (hv.hp h) ?_))))))
  refine Gd_F (Bn_gtT (by omega) (Pick_F (Gd_TF (Gd_TF (Gd_TF (Pick_T (If_T (st1 h 0 rfl rfl rfl rfl fun w h => ?_))))))))
  dsimp only [List.set] at h
  exact dfr (h.get (i := 0) rfl) (Ret.mk ⟨h.ext, rfl⟩)
 by_cases p3 : ∀ r ∈ l, OkW r
 rotate_left
 ·have hno : ¬ OkA p l := fun ⟨B, ws, e, e2, h⟩ => p3 fun r hr => by
   rw [e2] at hr
   obtain ⟨w, hw, rfl⟩ := List.mem_map.1 hr
   exact ⟨w, h.ok w hw, rfl⟩
  have cc2 := fun {W : World} (e : Ext w0 W) => c_ContF (w0 := W) (b := true) (hE.ext e) (hv.ext e) hk (by omega) ⟨fun _ => p3, fun _ => rfl⟩
  rw [okA_f hno]
  apply e_alarm_Valid n_alarm_Valid_1
  unfold s_alarm_Valid
  have h := Hp.init [] w0
  refine bxA h fun g1 w h => ?_
  refine alS h fun g2 w h => ?_
  refine faS (ldA h 1 rfl rfl ?_)
  refine cl1 h n_alarm_small (cc1 h.ext) fun w h => ?_
  refine Un_T (Gd_F (faS (Gd_F (Eng.ld1 h 1 rfl rfl (Gd_F (leS (hv.hp h) ?_))))))
  refine Gd_F (Bn_gtF (by omega) (Pick_F (Gd_F (faS (Gd_F (Eng.ld1 h 1 rfl rfl (Gd_F (cl1 h n_slices_ContainsFunc_api_Watch_api_Watch (cc2 h.ext) fun w h => ?_))))))))
  refine Pick_F (If_T (st1 h 0 rfl rfl rfl rfl fun w h => ?_))
  dsimp only [List.set] at h
  exact dfr (h.get (i := 0) rfl) (Ret.mk ⟨h.ext, rfl⟩)
 have cc2 := fun {W : World} (e : Ext w0 W) => c_ContF (w0 := W) (b := false) (hE.ext e) (hv.ext e) hk (by omega) ⟨fun h => (by cases h), fun h => absurd p3 h⟩
 obtain ⟨ws, rfl, hok⟩ := oks_of p3
 obtain ⟨B, rfl, hB⟩ := p1
 rw [List.length_map] at p2 hv
 have hal : ∀ w ∈ ws, Sm 1 w.al := fun w hw => (hok w hw).al
 have cc3 := fun {W : World} (e : Ext w0 W) => c_spent (w0 := W) (p := tx B) (hv.ext e) hal p2 (hE.ext e)
 have hs := sum_SR hal
 have hsr : RB (Alm.sumW Alm.al ws) := hs.rb (by omega) (by omega)
 have cc4 := fun {W : World} (e : Ext w0 W) => k_cmp (w := W) hsr (Sm.rb hB (.inl rfl)) (hE.hT.ext e)
 have hv : SlC w0 15 v (ws.map wr).length ((ws.map wr).flatMap fW) := by rw [List.length_map]; exact hv
 by_cases q : cmpQ (Alm.sumW Alm.al ws) B ≤ 0
 ·have hy : OkA (tx B) (ws.map wr) := ⟨B, ws, rfl, rfl, hB, p2, hok, (cmp_le _ _).1 q⟩
  rw [okA_t hy]
  have hl2 : (ws.map wr).length ≤ 12 := by rw [List.length_map]; exact p2
  apply e_alarm_Valid n_alarm_Valid_1
  unfold s_alarm_Valid
  have h := Hp.init [] w0
  refine bxA h fun g1 w h => ?_
  refine alS h fun g2 w h => ?_
  refine faS (ldA h 1 rfl rfl ?_)
  refine cl1 h n_alarm_small (cc1 h.ext) fun w h => ?_
  refine Un_T (Gd_F (faS (Gd_F (Eng.ld1 h 1 rfl rfl (Gd_F (leS (hv.hp h) ?_))))))
  refine Gd_F (Bn_gtF (by omega) (Pick_F (Gd_F (faS (Gd_F (Eng.ld1 h 1 rfl rfl (Gd_F (cl1 h n_slices_ContainsFunc_api_Watch_api_Watch (cc2 h.ext) fun w h => ?_))))))))
  refine Pick_F (If_F ?_)
  replace h := h.dr
  refine dlA h 1 rfl rfl ?_
  refine dfS (dlA h 1 rfl rfl ?_)
  refine cl1 h n_alarm_spent (cc3 h.ext) fun w h => ?_
  refine klA h 1 rfl rfl ?_
  refine cl1 h n_rational_Compare (cc4 h.ext) fun w h => ?_
  refine Dv_leT (by omega) (st1 h 0 rfl rfl rfl rfl fun w h => ?_)
  dsimp only [List.set] at h
  exact dfr (h.get (i := 0) rfl) (Ret.mk ⟨h.ext, rfl⟩)
 ·have hno : ¬ OkA (tx B) (ws.map wr) := fun ⟨B', ws', e, e2, h⟩ => q ((cmp_le _ _).2 (by
   obtain rfl := tx_inj e
   obtain rfl := wrs_inj e2
   exact h.sp))
  rw [okA_f hno]
  have hl2 : (ws.map wr).length ≤ 12 := by rw [List.length_map]; exact p2
  apply e_alarm_Valid n_alarm_Valid_1
  unfold s_alarm_Valid
  have h := Hp.init [] w0
  refine bxA h fun g1 w h => ?_
  refine alS h fun g2 w h => ?_
  refine faS (ldA h 1 rfl rfl ?_)
  refine cl1 h n_alarm_small (cc1 h.ext) fun w h => ?_
  refine Un_T (Gd_F (faS (Gd_F (Eng.ld1 h 1 rfl rfl (Gd_F (leS (hv.hp h) ?_))))))
  refine Gd_F (Bn_gtF (by omega) (Pick_F (Gd_F (faS (Gd_F (Eng.ld1 h 1 rfl rfl (Gd_F (cl1 h n_slices_ContainsFunc_api_Watch_api_Watch (cc2 h.ext) fun w h => ?_))))))))
  refine Pick_F (If_F ?_)
  replace h := h.dr
  refine dlA h 1 rfl rfl ?_
  refine dfS (dlA h 1 rfl rfl ?_)
  refine cl1 h n_alarm_spent (cc3 h.ext) fun w h => ?_
  refine klA h 1 rfl rfl ?_
  refine cl1 h n_rational_Compare (cc4 h.ext) fun w h => ?_
  refine Dv_leF (by omega) (st1 h 0 rfl rfl rfl rfl fun w h => ?_)
  dsimp only [List.set] at h
  exact dfr (h.get (i := 0) rfl) (Ret.mk ⟨h.ext, rfl⟩)
end Go.Proofs.YtnkmbjedcjcccaaGreatDoor
