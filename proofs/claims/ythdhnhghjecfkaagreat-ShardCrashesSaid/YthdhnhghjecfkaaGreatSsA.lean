/-
  Contracts and plain lemmas. By an AI agent.
-/
import Derived.Test.YthdhnhghjecfkaaGreatSrP
import Derived.Test.YthdhnhghjecfkaaGreatPlain
set_option linter.unusedSimpArgs false
set_option linter.unusedVariables false
set_option linter.unusedSectionVars false
namespace Go.Proofs.YthdhnhghjecfkaaGreat
open Go Go.Eng Go.Proofs Go.RowKit
open Go.Srd (Ft VF Hd Mv mv0 Rd Ab Cmd got ltF sam srt plh ofS gotL delN cntL insR rdd)
set_option maxRecDepth 100000
theorem c_beginF {w0 : World} {g : Nat} {S : List Nat} {x : Sx} {a : Ab} {s t : Int} (hc : Cin g S w0 x a) (hno : ¬ (a.mv.ph = 0 ∧ (0 ≤ s ∧ s ≤ 7) ∧ (0 ≤ t ∧ t < a.k) ∧ Srd.roAt a.ro s ≠ t)) :
 Calls Tryz.prog 25 #[pr g 0, vX 2 f0 s t 0 0] w0 (Fai cR S w0) := by
 have hO := hc.ok
 have hk := hO.k
 have hrl := hO.ro.len
 obtain ⟨R, hR⟩ : ∃ R, R = Fai cR S w0 := ⟨_, rfl⟩
 rw [← hR]
 have h := hc.h
 unfold chL at h
 by_cases h0 : a.mv.ph = 0
 rotate_left
 ·apply e_shard_change_begin
  unfold s_shard_change_begin
  refine bxA h fun g1 w h => ?_
  refine NcP_ok ?_
  replace h := h.dr
  refine dfS (dfS (dfS (dfS (dl1 h 1 rfl rfl (Dv_eqF (by omega) (GdP_FT (GdP_FT (Gd_FT (PickP_F (GdP_FT (GdP_FT (GdP_FT (GdP_FT (GdP_FT (GdP_FT (GdP_FT (GdP_FT (GdP_FT (GdP_FT (Gd_FT (PickP_F (GdP_FT (GdP_FT (GdP_FT (GdP_FT (GdP_FT (GdP_FT (GdP_FT (GdP_FT (GdP_FT (GdP_FT (GdP_FT (GdP_FT (GdP_FT (PickP_F ?_)))))))))))))))))))))))))))))))))))
  exact clp h n_shard_must c_mustF hR
 by_cases hs : 0 ≤ s ∧ s ≤ 7
 rotate_left
 ·apply e_shard_change_begin
  unfold s_shard_change_begin
  refine bxA h fun g1 w h => ?_
  refine NcP_ok ?_
  replace h := h.dr
  refine dfS (dfS (dfS (dfS (dl1 h 1 rfl rfl (Dv_eqT (by omega) (GdP_T (dfS (GdP_T (dl1 h 0 rfl rfl (Gd_T (cl1 h n_shard_in (c_inF hs) fun w h => ?_)))))))))))
  refine PickP_T (GdP_FT (GdP_FT (GdP_FT (GdP_FT (GdP_FT (GdP_FT (GdP_FT (GdP_FT (GdP_FT (GdP_FT (Gd_FT (PickP_F (GdP_FT (GdP_FT (GdP_FT (GdP_FT (GdP_FT (GdP_FT (GdP_FT (GdP_FT (GdP_FT (GdP_FT (GdP_FT (GdP_FT (GdP_FT (PickP_F ?_))))))))))))))))))))))))))
  exact clp h n_shard_must c_mustF hR
 by_cases ht : 0 ≤ t ∧ t ≤ (a.k : Int) - 1
 rotate_left
 ·apply e_shard_change_begin
  unfold s_shard_change_begin
  refine bxA h fun g1 w h => ?_
  refine NcP_ok ?_
  replace h := h.dr
  refine dfS (dfS (dfS (dfS (dl1 h 1 rfl rfl (Dv_eqT (by omega) (GdP_T (dfS (GdP_T (dl1 h 0 rfl rfl (Gd_T (cl1 h n_shard_in (c_inT hs) fun w h => ?_)))))))))))
  refine PickP_T (GdP_T (dfS (GdP_T (dl1 h 0 rfl rfl (GdP_T (GdP_T (NcP_ok ?_)))))))
  refine GdP_T (dfS (GdP_T (dfS (GdP_T (dfS (GdP_T (dl1 h 1 rfl rfl (GdP_T (dlS (qZ 2 h rfl) ?_)))))))))
  refine GdP_T (Dv_su (by omega) (by omega) (Gd_T (cl1 h n_shard_in (c_inF ht) fun w h => ?_)))
  refine PickP_T (GdP_FT (GdP_FT (GdP_FT (GdP_FT (GdP_FT (GdP_FT (GdP_FT (GdP_FT (GdP_FT (GdP_FT (GdP_FT (GdP_FT (GdP_FT (PickP_F ?_))))))))))))))
  exact clp h n_shard_must c_mustF hR
 have hne : Srd.roAt a.ro s = t := by
  apply Classical.byContradiction
  intro hq
  exact hno ⟨h0, hs, by omega, hq⟩
 have sr : Seg (a.ro.flatMap fI) (s.toNat * 1) (fI (Srd.roAt a.ro s)) := ro_seg hO hs hrl
 apply e_shard_change_begin
 unfold s_shard_change_begin
 refine bxA h fun g1 w h => ?_
 refine NcP_ok ?_
 replace h := h.dr
 refine dfS (dfS (dfS (dfS (dl1 h 1 rfl rfl (Dv_eqT (by omega) (GdP_T (dfS (GdP_T (dl1 h 0 rfl rfl (Gd_T (cl1 h n_shard_in (c_inT hs) fun w h => ?_)))))))))))
 refine PickP_T (GdP_T (dfS (GdP_T (dl1 h 0 rfl rfl (GdP_T (GdP_T (NcP_ok ?_)))))))
 refine GdP_T (dfS (GdP_T (dfS (GdP_T (dfS (GdP_T (dl1 h 1 rfl rfl (GdP_T (dlS (qZ 2 h rfl) ?_)))))))))
 refine GdP_T (Dv_su (by omega) (by omega) (Gd_T (cl1 h n_shard_in (c_inT ht) fun w h => ?_)))
 refine PickP_T (GdP_T (GdP_T (NcP_ok ?_)))
 refine GdP_T (dfS (GdP_T (dfS (GdP_T (dfS (GdP_T (dl1 h 1 rfl rfl (GdP_T (dfS (GdP_T (dl1 h 0 rfl rfl (GdP_T (diRz h 3 rfl (by omega) (by omega) fun zg zk zv => ?_)))))))))))))
 refine GdP_T (dr0 h 3 rfl ‹_› sr (by rfl) ?_)
 refine GdP_T (dfS (GdP_T (dl1 h 0 rfl rfl (GdP_T (Dv_neF (by omega) (PickP_T ?_))))))
 exact clp h n_shard_must c_mustF hR
abbrev v0X : Value := vX 0 f0 0 0 0 0
section
variable {w0 : World}
theorem c_used1 {f : Ft} {s t m r : Int} : Calls Tryz.prog 32 #[vX 1 f 0 0 0 0] w0 (Ret fun q w' => Ext w0 w' ∧ q = v0X) := by
 apply e_shard_used
 unfold s_shard_used
 have h := Hp.init [] w0
 refine bxA h fun g1 w h => ?_
 refine alS h fun g2 w h => ?_
 refine Jn0.mk fun K hK => ?_
 refine faS (ld1 h 1 rfl rfl (Bn_eqT (by omega) (If_T (bdS PC.nil (by rfl) ?_))))
 refine faS (stA h 1 rfl rfl rfl rfl fun w h => ?_)
 dsimp only [List.set] at h
 refine hK _ ?_
 refine faS (st1 h 1 rfl rfl rfl rfl fun w h => ?_)
 refine ldA h 1 rfl rfl ?_
 refine stA h 0 rfl rfl rfl rfl fun w h => ?_
 refine rcA h 0 rfl rfl ?_
 dsimp only [List.set] at h
 exact Ret.mk ⟨h.ext, rfl⟩
theorem c_used2 {f : Ft} {s t m r : Int} : Calls Tryz.prog 32 #[vX 2 f0 s t 0 0] w0 (Ret fun q w' => Ext w0 w' ∧ q = v0X) := by
 apply e_shard_used
 unfold s_shard_used
 have h := Hp.init [] w0
 refine bxA h fun g1 w h => ?_
 refine alS h fun g2 w h => ?_
 refine Jn0.mk fun K hK => ?_
 refine faS (ld1 h 1 rfl rfl (Bn_eqF (by omega) (If_F (Bn_eqT (by omega) (If_T (faS (st1 h 1 rfl rfl rfl rfl fun w h => ?_)))))))
 refine faS (st1 h 1 rfl rfl rfl rfl fun w h => ?_)
 dsimp only [List.set] at h
 refine hK _ ?_
 refine faS (st1 h 1 rfl rfl rfl rfl fun w h => ?_)
 refine ldA h 1 rfl rfl ?_
 refine stA h 0 rfl rfl rfl rfl fun w h => ?_
 refine rcA h 0 rfl rfl ?_
 dsimp only [List.set] at h
 exact Ret.mk ⟨h.ext, rfl⟩
theorem c_used3 {f : Ft} {s t m r : Int} : Calls Tryz.prog 32 #[vX 3 f0 0 0 m 0] w0 (Ret fun q w' => Ext w0 w' ∧ q = v0X) := by
 apply e_shard_used
 unfold s_shard_used
 have h := Hp.init [] w0
 refine bxA h fun g1 w h => ?_
 refine alS h fun g2 w h => ?_
 refine Jn0.mk fun K hK => ?_
 refine faS (ld1 h 1 rfl rfl (Bn_eqF (by omega) (If_F (Bn_eqF (by omega) (If_F (Jn1.mk fun K2 hK2 => ?_))))))
 refine Bn_eqT (by omega) (If_T (hK2 _ _ ?_))
 refine If_T (faS (st1 h 1 rfl rfl rfl rfl fun w h => ?_))
 dsimp only [List.set] at h
 refine hK _ ?_
 refine faS (st1 h 1 rfl rfl rfl rfl fun w h => ?_)
 refine ldA h 1 rfl rfl ?_
 refine stA h 0 rfl rfl rfl rfl fun w h => ?_
 refine rcA h 0 rfl rfl ?_
 dsimp only [List.set] at h
 exact Ret.mk ⟨h.ext, rfl⟩
theorem c_used4 {f : Ft} {s t m r : Int} : Calls Tryz.prog 32 #[vX 4 f0 0 0 0 0] w0 (Ret fun q w' => Ext w0 w' ∧ q = v0X) := by
 apply e_shard_used
 unfold s_shard_used
 have h := Hp.init [] w0
 refine bxA h fun g1 w h => ?_
 refine alS h fun g2 w h => ?_
 refine Jn0.mk fun K hK => ?_
 refine faS (ld1 h 1 rfl rfl (Bn_eqF (by omega) (If_F (Bn_eqF (by omega) (If_F (Jn1.mk fun K2 hK2 => ?_))))))
 refine Bn_eqF (by omega) (If_F (Bn_eqF (by omega) (hK2 _ _ ?_)))
 refine If_F (Jn1.mk fun K3 hK3 => ?_)
 refine Bn_eqF (by omega) (If_F (Bn_eqF (by omega) (hK3 _ _ ?_)))
 refine If_F (hK _ ?_)
 refine faS (st1 h 1 rfl rfl rfl rfl fun w h => ?_)
 refine ldA h 1 rfl rfl ?_
 refine stA h 0 rfl rfl rfl rfl fun w h => ?_
 refine rcA h 0 rfl rfl ?_
 dsimp only [List.set] at h
 exact Ret.mk ⟨h.ext, rfl⟩
theorem c_used5 {f : Ft} {s t m r : Int} : Calls Tryz.prog 32 #[vX 5 f0 0 0 m 0] w0 (Ret fun q w' => Ext w0 w' ∧ q = v0X) := by
 apply e_shard_used
 unfold s_shard_used
 have h := Hp.init [] w0
 refine bxA h fun g1 w h => ?_
 refine alS h fun g2 w h => ?_
 refine Jn0.mk fun K hK => ?_
 refine faS (ld1 h 1 rfl rfl (Bn_eqF (by omega) (If_F (Bn_eqF (by omega) (If_F (Jn1.mk fun K2 hK2 => ?_))))))
 refine Bn_eqF (by omega) (If_F (Bn_eqT (by omega) (hK2 _ _ ?_)))
 refine If_T (faS (st1 h 1 rfl rfl rfl rfl fun w h => ?_))
 dsimp only [List.set] at h
 refine hK _ ?_
 refine faS (st1 h 1 rfl rfl rfl rfl fun w h => ?_)
 refine ldA h 1 rfl rfl ?_
 refine stA h 0 rfl rfl rfl rfl fun w h => ?_
 refine rcA h 0 rfl rfl ?_
 dsimp only [List.set] at h
 exact Ret.mk ⟨h.ext, rfl⟩
theorem c_used6 {f : Ft} {s t m r : Int} : Calls Tryz.prog 32 #[vX 6 f0 0 0 0 0] w0 (Ret fun q w' => Ext w0 w' ∧ q = v0X) := by
 apply e_shard_used
 unfold s_shard_used
 have h := Hp.init [] w0
 refine bxA h fun g1 w h => ?_
 refine alS h fun g2 w h => ?_
 refine Jn0.mk fun K hK => ?_
 refine faS (ld1 h 1 rfl rfl (Bn_eqF (by omega) (If_F (Bn_eqF (by omega) (If_F (Jn1.mk fun K2 hK2 => ?_))))))
 refine Bn_eqF (by omega) (If_F (Bn_eqF (by omega) (hK2 _ _ ?_)))
 refine If_F (Jn1.mk fun K3 hK3 => ?_)
 refine Bn_eqF (by omega) (If_F (Bn_eqF (by omega) (hK3 _ _ ?_)))
 refine If_F (hK _ ?_)
 refine faS (st1 h 1 rfl rfl rfl rfl fun w h => ?_)
 refine ldA h 1 rfl rfl ?_
 refine stA h 0 rfl rfl rfl rfl fun w h => ?_
 refine rcA h 0 rfl rfl ?_
 dsimp only [List.set] at h
 exact Ret.mk ⟨h.ext, rfl⟩
theorem c_used7 {f : Ft} {s t m r : Int} : Calls Tryz.prog 32 #[vX 7 f0 0 0 0 r] w0 (Ret fun q w' => Ext w0 w' ∧ q = v0X) := by
 apply e_shard_used
 unfold s_shard_used
 have h := Hp.init [] w0
 refine bxA h fun g1 w h => ?_
 refine alS h fun g2 w h => ?_
 refine Jn0.mk fun K hK => ?_
 refine faS (ld1 h 1 rfl rfl (Bn_eqF (by omega) (If_F (Bn_eqF (by omega) (If_F (Jn1.mk fun K2 hK2 => ?_))))))
 refine Bn_eqF (by omega) (If_F (Bn_eqF (by omega) (hK2 _ _ ?_)))
 refine If_F (Jn1.mk fun K3 hK3 => ?_)
 refine Bn_eqT (by omega) (If_T (hK3 _ _ ?_))
 refine If_T (faS (st1 h 1 rfl rfl rfl rfl fun w h => ?_))
 dsimp only [List.set] at h
 refine hK _ ?_
 refine faS (st1 h 1 rfl rfl rfl rfl fun w h => ?_)
 refine ldA h 1 rfl rfl ?_
 refine stA h 0 rfl rfl rfl rfl fun w h => ?_
 refine rcA h 0 rfl rfl ?_
 dsimp only [List.set] at h
 exact Ret.mk ⟨h.ext, rfl⟩
theorem c_used8 {f : Ft} {s t m r : Int} : Calls Tryz.prog 32 #[vX 8 f0 0 0 0 r] w0 (Ret fun q w' => Ext w0 w' ∧ q = v0X) := by
 apply e_shard_used
 unfold s_shard_used
 have h := Hp.init [] w0
 refine bxA h fun g1 w h => ?_
 refine alS h fun g2 w h => ?_
 refine Jn0.mk fun K hK => ?_
 refine faS (ld1 h 1 rfl rfl (Bn_eqF (by omega) (If_F (Bn_eqF (by omega) (If_F (Jn1.mk fun K2 hK2 => ?_))))))
 refine Bn_eqF (by omega) (If_F (Bn_eqF (by omega) (hK2 _ _ ?_)))
 refine If_F (Jn1.mk fun K3 hK3 => ?_)
 refine Bn_eqF (by omega) (If_F (Bn_eqT (by omega) (hK3 _ _ ?_)))
 refine If_T (faS (st1 h 1 rfl rfl rfl rfl fun w h => ?_))
 dsimp only [List.set] at h
 refine hK _ ?_
 refine faS (st1 h 1 rfl rfl rfl rfl fun w h => ?_)
 refine ldA h 1 rfl rfl ?_
 refine stA h 0 rfl rfl rfl rfl fun w h => ?_
 refine rcA h 0 rfl rfl ?_
 dsimp only [List.set] at h
 exact Ret.mk ⟨h.ext, rfl⟩
end
theorem eqX0 : EqN Tryz.prog tX 15 1 := mkEqC (P := Tryz.prog) (t := tX) (n := 15) (N := 1) Tryz.underlying44 (by kernel_rfl) (.int (by decide) Tryz.underlying3 inferInstance rfl (.sub (by decide) eqFt0 inferInstance rfl (by repeat first | exact .nil rfl | refine .int (by decide) Tryz.underlying3 inferInstance rfl ?_)))
instance : EqC Tryz.prog tX 15 := .of1 eqX0
theorem bnX0 {c : Bool} {w : World} {K : Value → World → Prop} (hk : K (.bool false) w) : Bn Tryz.prog .neq tX c v0X v0X w K :=
 bnNeC (xs := [0, 0, 0, 0, 0, 0, 0, 0, 0, 0, 0, 0, 0, 0, 0]) (ys := [0, 0, 0, 0, 0, 0, 0, 0, 0, 0, 0, 0, 0, 0, 0]) (by kernel_rfl) rfl rfl (by rw [decide_eq_true rfl]; exact hk)
abbrev tFn : TypeId := 68
abbrev tPc2 : TypeId := 70
theorem eqNF {c : Bool} {f : FuncId} {w : World} {K : Value → World → Prop} (hk : K (.bool false) w) : Bn Tryz.prog .eql tFn c (.func (.func f) #[] #[]) .nilFunc w K := by ((try simp -dsimp [go_sem, Tryz.underlying68]); repeat (simp -dsimp (disch := omega) only [gL, gI]; try simp -dsimp [go_sem, Tryz.underlying68])); exact hk
abbrev tMp : TypeId := 71
instance : MapF Tryz.prog tMp Int kvI 3 tFn := mapFI Tryz.underlying71 Tryz.underlying3
theorem chL_sm {g : Nat} {x : Sx} {a : Ab} {fv : Value} : ∀ e ∈ chL g x a fv, e.Simple := fun e he => by
 have hros : ∀ {t : TypeId} {c : Nat} {l : List Rw} {e : Et}, e ∈ ros t c l → e.Simple := fun {t c l e} he => by
  obtain ⟨r, _, rfl⟩ := List.mem_map.1 he
  exact ro_sm
 unfold chL at he
 simp only [List.mem_cons, List.mem_append] at he
 rcases he with rfl | rfl | rfl | rfl | he | he | he
 ·exact bx_sm
 ·exact ro_sm
 ·exact ro_sm
 ·exact ro_sm
 ·exact hros he
 ·exact hros he
 ·exact hros he
theorem c_tryE {ι : Type} {w0 : World} {fn : FuncId} {caps : Array Value} {S : List Nat} {L : ι → List Et} (hn : Enters Tryz.prog fn) (hL : ∀ i, ∀ e ∈ L i, e.Simple) (hS : ∀ k ∈ S, k < w0.heap.size) (hc : ∀ {W}, Ext w0 W → Calls Tryz.prog fn (#[] ++ #[] ++ caps) W (Ret fun r w' => ∃ i, Hp S W w' (L i))) :
 Calls Tryz.prog 34 #[.func (.func fn) #[] caps] w0 (Ret fun r w' => r = .bool true ∧ ∃ i, Hp S w0 w' (L i)) := by
 refine e_shard_try n_shard_caught ?_
 unfold s_shard_try
 have h0 := Hp.init [] w0
 refine alS h0 fun g1 w h0 => ?_
 have h := Hp.wide (S := S) h0 (fun e he => by rw [List.mem_singleton.1 he]; exact bx_sm) hS
 refine Cw_i hn (hc h0.ext) ?_
 rintro v w1 ⟨i, h'⟩
 have h2 : Hp S w0 w1 (L i ++ [bx g1 tBo [.bool false]]) := by
  refine Hp.call (Lc := [anyE S]) h ?_ (hL i)
  have e : ([anyE S] : List Et).flatMap Et.ks = S := by simp
  rw [e]; exact h'
 have h := h2.perm (List.perm_append_comm (l₁ := L i) (l₂ := [bx g1 tBo [.bool false]]))
 refine st1 h 0 rfl rfl rfl rfl fun w h => ?_
 exact DfR (h.get (i := 0) rfl) (Ret.mk ⟨rfl, i, h.drop 1⟩)
theorem c_Do1 {w0 : World} {g g1 g2 g3 : Nat} {fn : FuncId} {k s t m r : Int} {f : Ft} {Q : Value → World → Prop} (hn : Enters Tryz.prog fn) (h1 : Blk w0 g1 tFn [.func (.func fn) #[] #[]]) (h2 : Blk w0 g2 tPc2 [pr g 0]) (h3 : Blk w0 g3 tX (fX k f s t m r))
 (hc : Calls Tryz.prog fn #[pr g 0, vX k f s t m r] w0 (Ret Q)) : Calls Tryz.prog 35 #[pr g1 0, pr g2 0, pr g3 0] w0 (Ret fun _ w' => ∃ v, Q v w') := by
 apply e_shard_Do_1
 unfold s_shard_Do_1
 have h := Hp.init [] w0
 refine lg1 h ‹_› (by rfl) ?_
 refine lg1 h ‹_› (by rfl) ?_
 refine lgA h ‹_› (by rfl) ?_
 refine Cw_i hn hc ?_
 rintro v w1 hq
 exact Ret.mk ⟨v, hq⟩
theorem c_Do1F {w0 : World} {g g1 g2 g3 : Nat} {fn : FuncId} {k s t m r : Int} {f : Ft} {S : List Nat} (hn : Enters Tryz.prog fn) (h1 : Blk w0 g1 tFn [.func (.func fn) #[] #[]]) (h2 : Blk w0 g2 tPc2 [pr g 0]) (h3 : Blk w0 g3 tX (fX k f s t m r))
 (hc : Calls Tryz.prog fn #[pr g 0, vX k f s t m r] w0 (Fai cR S w0)) : Calls Tryz.prog 35 #[pr g1 0, pr g2 0, pr g3 0] w0 (Fai cR S w0) := by
 obtain ⟨R, hR⟩ : ∃ R, R = Fai cR S w0 := ⟨_, rfl⟩
 rw [← hR]
 apply e_shard_Do_1
 unfold s_shard_Do_1
 have h := Hp.init [] w0
 refine lg1 h ‹_› (by rfl) ?_
 refine lg1 h ‹_› (by rfl) ?_
 refine lgA h ‹_› (by rfl) ?_
 refine Cw_p hn hc fun w1 m => ?_
 subst hR
 exact ⟨rfl, m⟩
abbrev tabF : List (Int × Value) := [(1, .func (.func 24) #[] #[]), (2, .func (.func 25) #[] #[]), (3, .func (.func 26) #[] #[]), (4, .func (.func 27) #[] #[]), (5, .func (.func 28) #[] #[]), (6, .func (.func 29) #[] #[]), (7, .func (.func 30) #[] #[]), (8, .func (.func 31) #[] #[])]
section
variable {w0 : World} {x : Sx} {a a' : Ab} {l : List Ft} {k s t m r : Int} {f : Ft} {fn : FuncId} {j : Nat} (hR : ShR w0 x a) (hO : Srd.Ok a) (hn : Enters Tryz.prog fn) (hj : tabF[j]? = some (k, .func (.func fn) #[] #[]))
 (hu : ∀ {W}, Calls Tryz.prog 32 #[vX k f s t m r] W (Ret fun q w' => Ext W w' ∧ q = v0X))
include hR hO hn hj hu
set_option maxHeartbeats 8000000 in
theorem c_DoT (hc : ∀ {W g S x}, Cin g S W x a → Calls Tryz.prog fn #[pr g 0, vX k f s t m r] W (Ret fun _ w' => Done g S W w' a' l)) :
 Calls Tryz.prog 13 #[vSh x a, vX k f s t m r] w0 (Ret fun q w' => ∃ x' fv, q = .tuple #[vSh x' a', fv, .int .i64 0] ∧ Hp [] w0 w' [shE x' a' fv l]) := by
 have hone := hR.one
 obtain ⟨R, hRR⟩ : ∃ R : Ending → World → Prop, R = Ret fun q w' => ∃ x' fv, q = .tuple #[vSh x' a', fv, .int .i64 0] ∧ Hp [] w0 w' [shE x' a' fv l] := ⟨_, rfl⟩
 rw [← hRR]
 apply e_shard_Do
 unfold s_shard_Do
 have h := Hp.init [] w0
 refine bxA h fun g1 w h => ?_
 refine bxA h fun g2 w h => ?_
 refine alS h fun g3 w h => ?_
 refine mfS h fun gm w h => ?_
 refine mfN (kv := kvI) (a := 1) h 0 rfl (by decide) fun w h => ?_
 refine mfN (kv := kvI) (a := 2) h 0 rfl (by decide) fun w h => ?_
 refine mfN (kv := kvI) (a := 3) h 0 rfl (by decide) fun w h => ?_
 refine mfN (kv := kvI) (a := 4) h 0 rfl (by decide) fun w h => ?_
 refine mfN (kv := kvI) (a := 5) h 0 rfl (by decide) fun w h => ?_
 refine mfN (kv := kvI) (a := 6) h 0 rfl (by decide) fun w h => ?_
 refine mfN (kv := kvI) (a := 7) h 0 rfl (by decide) fun w h => ?_
 refine mfN (kv := kvI) (a := 8) h 0 rfl (by decide) fun w h => ?_
 dsimp only [List.set] at h
 refine faS (ld1 h 2 rfl rfl (lfG (kv := kvI) (a := k) (h.get (i := 0) rfl) (by decide) (j := j) hj ?_))
 have h := (Hp.perm h (List.perm_append_comm (l₁ := [_]) (l₂ := [_, _, _]))).pick [0, 1, 2] (by decide) rfl
 refine alS h fun g4 w h => ?_
 refine st1 h 0 rfl rfl rfl rfl fun w h => ?_
 refine ld1 h 0 rfl rfl ?_
 dsimp only [List.set] at h
 refine eqNF ?_
 refine Gd_F (ldA h 2 rfl rfl ?_)
 refine Gd_F (cl1 h n_shard_used hu fun w h => ?_)
 refine Gd_F (bdS PC.nil (by rfl) ?_)
 refine Gd_F (bnX0 ?_)
 refine Pick_F (Gd_F (ldA h 3 rfl rfl ?_))
 refine Gd_F (cl1 h n_shard_Valid (c_Valid (hR.ext h.ext) hO) fun w h => ?_)
 refine Gd_F (Un_T (Pick_F (If_F (ldA h 3 rfl rfl ?_))))
 refine Cl_i n_shard_of (c_of (hR.ext h.ext) hO) ?_
 rintro _ w1 ⟨g, x1, rfl, hrs, hls, h'⟩
 have h := Hp.call (Lc := []) h h' chL_sm
 refine alS h fun g5 w h => ?_
 refine st1 h 0 rfl rfl rfl rfl fun w h => ?_
 dsimp only [List.set] at h
 have h := Hp.perm h (List.perm_middle (l₁ := chL g x1 a (.slice none 0 0))).symm
 have hcin : ∀ {W : World}, Ext w W → Cin g ((chL g x1 a (.slice none 0 0)).flatMap Et.ks) W x1 a := fun {W} e => ⟨Hp.base (h.x e) chL_sm, hO, hrs, hls⟩
 refine Cl_i n_shard_try (c_tryE (ι := Sx × Value) (S := (chL g x1 a (.slice none 0 0)).flatMap Et.ks) (L := fun i => [bx g tCh (cS i.1 a' ++ [i.2]), shE i.1 a' i.2 l]) n_shard_Do_1 (fun i e he => ?_) (fun k hk => ?_) (fun {W} e => ?_)) ?_
 ·rcases List.mem_cons.1 he with rfl | he
  ·exact bx_sm
  ·rw [List.mem_singleton.1 he]; exact shE_sm
 ·obtain ⟨e, he, hke⟩ := List.mem_flatMap.1 hk
  exact (h.ks e (List.mem_append_left _ he) k hke).1
 ·have hW := h.x e
  refine (c_Do1 (g := g) (g1 := g4) (g2 := g5) (g3 := g2) hn (hW.ok (bx g4 tFn _) (by simp)).get (hW.ok (bx g5 tPc2 _) (by simp)).get (hW.ok (bx g2 tX (fX k f s t m r)) (by simp)).get (hc (hcin e))).mono fun e' w' ⟨q, he', v, hd⟩ => ⟨q, he', ?_⟩
  obtain ⟨x2, fv, hd⟩ := hd
  exact ⟨(x2, fv), hd⟩
 rintro _ w2 ⟨rfl, ⟨x2, fv⟩, h2⟩
 have h := Hp.call (Lc := chL g x1 a (.slice none 0 0)) h h2 fun e he => by
  rcases List.mem_cons.1 he with rfl | he
  ·exact bx_sm
  ·rw [List.mem_singleton.1 he]; exact shE_sm
 have hsh : ShR w2 x2 a' ∧ SlC w2 10 fv l.length (l.flatMap fF) := (h.get (i := 1) rfl)
 have hone2 := hsh.1.one
 have h : Hp [] w0 w2 (bx g tCh [x2.sv, x2.rv, .int .i64 a'.A.length, .int .i64 a'.mv.ph, .int .i64 a'.mv.sl, .int .i64 a'.mv.fr, .int .i64 a'.mv.to, .int .i64 a'.mv.cp, x2.dv, fv] :: shE x2 a' fv l :: bx g5 tPc2 [pr g 0] :: bx g4 tFn [.func (.func fn) #[] #[]] :: bx g3 tSh [.slice none 0 0, .slice none 0 0, .int .i64 0, .int .i64 0, .int .i64 0, .int .i64 0, .int .i64 0, .int .i64 0, .slice none 0 0] :: [bx g2 tX (fX k f s t m r), bx g1 tSh (cS x a)]) := h
 have hal : ((cS x2 a').all fun x => x.oneCell') = true := by
  simp only [List.all_cons, List.all_nil, hone2.1, hone2.2.1, hone2.2.2.1]; rfl
 refine Un_T (If_F ?_)
 replace h := h.dr
 refine dl1 h 2 rfl rfl (NcP_ok ?_)
 refine dfS (dfS (dlA h 0 rfl rfl ?_))
 refine dl1 h 2 rfl rfl (NcP_ok ?_)
 refine dfS (dl1 h 0 rfl rfl (stA h 4 rfl rfl hal rfl fun w h => ?_))
 dsimp only [List.set] at h
 refine kl1 h 2 rfl rfl (kl1 h 0 rfl rfl (rcA h 4 rfl rfl ?_))
 rw [hRR]
 exact Ret.mk ⟨x2, fv, rfl, h.pick [1] (by decide) rfl⟩
set_option maxHeartbeats 8000000 in
theorem c_DoF (hc : ∀ {W g S x}, Cin g S W x a → Calls Tryz.prog fn #[pr g 0, vX k f s t m r] W (Fai cR S W)) :
 Calls Tryz.prog 13 #[vSh x a, vX k f s t m r] w0 (Ret fun q w' => Ext w0 w' ∧ q = .tuple #[vSh0, .slice none 0 0, .int .i64 370]) := by
 have hone := hR.one
 obtain ⟨R, hRR⟩ : ∃ R : Ending → World → Prop, R = Ret fun q w' => Ext w0 w' ∧ q = .tuple #[vSh0, .slice none 0 0, .int .i64 370] := ⟨_, rfl⟩
 rw [← hRR]
 apply e_shard_Do
 unfold s_shard_Do
 have h := Hp.init [] w0
 refine bxA h fun g1 w h => ?_
 refine bxA h fun g2 w h => ?_
 refine alS h fun g3 w h => ?_
 refine mfS h fun gm w h => ?_
 refine mfN (kv := kvI) (a := 1) h 0 rfl (by decide) fun w h => ?_
 refine mfN (kv := kvI) (a := 2) h 0 rfl (by decide) fun w h => ?_
 refine mfN (kv := kvI) (a := 3) h 0 rfl (by decide) fun w h => ?_
 refine mfN (kv := kvI) (a := 4) h 0 rfl (by decide) fun w h => ?_
 refine mfN (kv := kvI) (a := 5) h 0 rfl (by decide) fun w h => ?_
 refine mfN (kv := kvI) (a := 6) h 0 rfl (by decide) fun w h => ?_
 refine mfN (kv := kvI) (a := 7) h 0 rfl (by decide) fun w h => ?_
 refine mfN (kv := kvI) (a := 8) h 0 rfl (by decide) fun w h => ?_
 dsimp only [List.set] at h
 refine faS (ld1 h 2 rfl rfl (lfG (kv := kvI) (a := k) (h.get (i := 0) rfl) (by decide) (j := j) hj ?_))
 have h := (Hp.perm h (List.perm_append_comm (l₁ := [_]) (l₂ := [_, _, _]))).pick [0, 1, 2] (by decide) rfl
 refine alS h fun g4 w h => ?_
 refine st1 h 0 rfl rfl rfl rfl fun w h => ?_
 refine ld1 h 0 rfl rfl ?_
 dsimp only [List.set] at h
 refine eqNF ?_
 refine Gd_F (ldA h 2 rfl rfl ?_)
 refine Gd_F (cl1 h n_shard_used hu fun w h => ?_)
 refine Gd_F (bdS PC.nil (by rfl) ?_)
 refine Gd_F (bnX0 ?_)
 refine Pick_F (Gd_F (ldA h 3 rfl rfl ?_))
 refine Gd_F (cl1 h n_shard_Valid (c_Valid (hR.ext h.ext) hO) fun w h => ?_)
 refine Gd_F (Un_T (Pick_F (If_F (ldA h 3 rfl rfl ?_))))
 refine Cl_i n_shard_of (c_of (hR.ext h.ext) hO) ?_
 rintro _ w1 ⟨g, x1, rfl, hrs, hls, h'⟩
 have h := Hp.call (Lc := []) h h' chL_sm
 refine alS h fun g5 w h => ?_
 refine st1 h 0 rfl rfl rfl rfl fun w h => ?_
 dsimp only [List.set] at h
 have h := Hp.perm h (List.perm_middle (l₁ := chL g x1 a (.slice none 0 0))).symm
 have hcin : ∀ {W : World}, Ext w W → Cin g ((chL g x1 a (.slice none 0 0)).flatMap Et.ks) W x1 a := fun {W} e => ⟨Hp.base (h.x e) chL_sm, hO, hrs, hls⟩
 refine Cl_i n_shard_try (c_tryF (S := (chL g x1 a (.slice none 0 0)).flatMap Et.ks) n_shard_Do_1 (fun k hk => ?_) (fun {W} e => ?_)) ?_
 ·obtain ⟨e, he, hke⟩ := List.mem_flatMap.1 hk
  exact (h.ks e (List.mem_append_left _ he) k hke).1
 ·have hW := h.x e
  exact c_Do1F (g := g) (g1 := g4) (g2 := g5) (g3 := g2) hn (hW.ok (bx g4 tFn _) (by simp)).get (hW.ok (bx g5 tPc2 _) (by simp)).get (hW.ok (bx g2 tX (fX k f s t m r)) (by simp)).get (hc (hcin e))
 rintro _ w2 ⟨rfl, h2⟩
 have h := Hp.call (Lc := chL g x1 a (.slice none 0 0)) h h2 fun e he => by
  rw [List.mem_singleton.1 he]
  exact fun _ _ _ _ _ _ _ => trivial
 have h : Hp [] w0 w2 (anyE ((chL g x1 a (.slice none 0 0)).flatMap Et.ks) :: bx g5 tPc2 [pr g 0] :: bx g4 tFn [.func (.func fn) #[] #[]] :: bx g3 tSh [.slice none 0 0, .slice none 0 0, .int .i64 0, .int .i64 0, .int .i64 0, .int .i64 0, .int .i64 0, .int .i64 0, .slice none 0 0] :: [bx g2 tX (fX k f s t m r), bx g1 tSh (cS x a)]) := h
 refine Un_F (If_T (bdS PC.nil (by rfl) ?_))
 refine stA h 3 rfl rfl rfl rfl fun w h => ?_
 refine rcA h 3 rfl rfl ?_
 dsimp only [List.set] at h
 rw [hRR]
 exact Ret.mk ⟨h.ext, rfl⟩
end
abbrev vCmd : Cmd → Value
 | .put f => vX 1 f 0 0 0 0
 | .beg s t => vX 2 f0 s t 0 0
 | .cop m => vX 3 f0 0 0 m 0
 | .sw => vX 4 f0 0 0 0 0
 | .dro m => vX 5 f0 0 0 m 0
 | .cra => vX 6 f0 0 0 0 0
 | .opn r => vX 7 f0 0 0 0 r
 | .rea r => vX 8 f0 0 0 0 r
def CmdOk : Cmd → Prop
 | .put f => VF f
 | .cop m => 1 ≤ m ∧ m ≤ 1000000
 | .dro m => 1 ≤ m ∧ m ≤ 1000000
 | _ => True
def DoAns (w0 : World) : Option (Ab × List Ft) → Value → World → Prop
 | some (a', l), q, w' => ∃ x' fv, q = .tuple #[vSh x' a', fv, .int .i64 0] ∧ Hp [] w0 w' [shE x' a' fv l]
 | none, q, w' => Ext w0 w' ∧ q = .tuple #[vSh0, .slice none 0 0, .int .i64 370]
theorem c_Do {w0 : World} {x : Sx} {a : Ab} {c : Cmd} (hR : ShR w0 x a) (hO : Srd.Ok a) (hc : CmdOk c) : Calls Tryz.prog 13 #[vSh x a, vCmd c] w0 (Ret (DoAns w0 (Srd.step a c))) := by
 cases c with
 | put f =>
  have hv : VF f := hc
  by_cases h : a.A.length < 400 ∧ ∀ g ∈ a.A, ¬ sam g f
  ·rw [show Srd.step a (.put f) = some ({ a with A := a.A ++ [f] }, []) from if_pos ⟨hv, h⟩]
   exact c_DoT hR hO n_shard_change_put (j := 0) rfl (fun {W} => c_used1 (s := 0) (t := 0) (m := 0) (r := 0)) fun {W g S x} hc => c_putT hc hv h.1 h.2
  ·rw [show Srd.step a (.put f) = none from if_neg fun hq => h hq.2]
   exact c_DoF hR hO n_shard_change_put (j := 0) rfl (fun {W} => c_used1 (s := 0) (t := 0) (m := 0) (r := 0)) fun {W g S x} hc => c_putF hc hv h
 | beg s t =>
  by_cases h : a.mv.ph = 0 ∧ (0 ≤ s ∧ s ≤ 7) ∧ (0 ≤ t ∧ t < a.k) ∧ Srd.roAt a.ro s ≠ t
  ·rw [show Srd.step a (.beg s t) = some ({ a with mv := ⟨1, s, Srd.roAt a.ro s, t, -1⟩ }, []) from if_pos h]
   exact c_DoT hR hO n_shard_change_begin (j := 1) rfl (fun {W} => c_used2 (f := f0) (m := 0) (r := 0)) fun {W g S x} hc => c_beginT hc h.1 h.2.1 h.2.2.1 h.2.2.2
  ·rw [show Srd.step a (.beg s t) = none from if_neg h]
   exact c_DoF hR hO n_shard_change_begin (j := 1) rfl (fun {W} => c_used2 (f := f0) (m := 0) (r := 0)) fun {W g S x} hc => c_beginF hc h
 | cop m =>
  have hm : 1 ≤ m ∧ m ≤ 1000000 := hc
  obtain ⟨n, rfl⟩ := Int.eq_ofNat_of_zero_le (show 0 ≤ m by omega)
  by_cases h : a.mv.ph = 1
  ·rw [show Srd.step a (.cop (n : Int)) = some ({ a with mv := { a.mv with cp := ((Srd.nums a a.mv.sl (a.mv.cp + 1) a.A.length).take n).getLastD a.mv.cp } }, []) from if_pos ⟨h, hm.1⟩]
   exact c_DoT hR hO n_shard_change_copy (j := 2) rfl (fun {W} => c_used3 (f := f0) (s := 0) (t := 0) (r := 0)) fun {W g S x} hc => c_copyT hc h (by omega) (by omega)
  ·rw [show Srd.step a (.cop (n : Int)) = none from if_neg fun hq => h hq.1]
   exact c_DoF hR hO n_shard_change_copy (j := 2) rfl (fun {W} => c_used3 (f := f0) (s := 0) (t := 0) (r := 0)) fun {W g S x} hc => c_copyF hc (by omega) (by omega) h
 | sw =>
  by_cases h : a.mv.ph = 1 ∧ Srd.nums a a.mv.sl (a.mv.cp + 1) a.A.length = []
  ·rw [show Srd.step a .sw = some (Srd.endd { a with ro := a.ro.set a.mv.sl.toNat a.mv.to, mv := { a.mv with ph := 2, cp := 0 }, lo := 0, hi := a.A.length }, []) from if_pos h]
   exact c_DoT hR hO n_shard_change_over (j := 3) rfl (fun {W} => c_used4 (f := f0) (s := 0) (t := 0) (m := 0) (r := 0)) fun {W g S x} hc => c_overT hc h.1 h.2
  ·rw [show Srd.step a .sw = none from if_neg h]
   exact c_DoF hR hO n_shard_change_over (j := 3) rfl (fun {W} => c_used4 (f := f0) (s := 0) (t := 0) (m := 0) (r := 0)) fun {W g S x} hc => c_overF hc h
 | dro m =>
  have hm : 1 ≤ m ∧ m ≤ 1000000 := hc
  obtain ⟨n, rfl⟩ := Int.eq_ofNat_of_zero_le (show 0 ≤ m by omega)
  by_cases h : a.mv.ph = 2 ∧ ∀ r ∈ a.rd, ¬ (Srd.roAt r.ro a.mv.sl = a.mv.fr ∧ r.nx ≤ a.mv.fr)
  ·rw [show Srd.step a (.dro (n : Int)) = some (Srd.endd { a with lo := (((Srd.nums a a.mv.sl a.lo a.hi).drop n).head?).getD a.hi }, []) from if_pos ⟨h.1, hm.1, h.2⟩]
   exact c_DoT hR hO n_shard_change_drop (j := 4) rfl (fun {W} => c_used5 (f := f0) (s := 0) (t := 0) (r := 0)) fun {W g S x} hc => c_dropT hc h.1 (by omega) (by omega) h.2
  ·rw [show Srd.step a (.dro (n : Int)) = none from if_neg fun hq => h ⟨hq.1, hq.2.2⟩]
   exact c_DoF hR hO n_shard_change_drop (j := 4) rfl (fun {W} => c_used5 (f := f0) (s := 0) (t := 0) (r := 0)) fun {W g S x} hc => c_dropF hc (by omega) (by omega) h
 | cra =>
  by_cases h : a.mv.ph = 0
  ·rw [show Srd.step a .cra = none from if_pos h]
   exact c_DoF hR hO n_shard_change_crash (j := 5) rfl (fun {W} => c_used6 (f := f0) (s := 0) (t := 0) (m := 0) (r := 0)) fun {W g S x} hc => c_crashF hc h
  ·by_cases h1 : a.mv.ph = 1
   ·rw [show Srd.step a .cra = some ({ a with mv := mv0 }, []) from (if_neg h).trans (if_pos h1)]
    exact c_DoT hR hO n_shard_change_crash (j := 5) rfl (fun {W} => c_used6 (f := f0) (s := 0) (t := 0) (m := 0) (r := 0)) fun {W g S x} hc => c_crash1 hc h1
   ·have h2 : a.mv.ph = 2 := by have := hO.mv.ph; omega
    rw [show Srd.step a .cra = some (a, []) from (if_neg h).trans (if_neg h1)]
    exact c_DoT hR hO n_shard_change_crash (j := 5) rfl (fun {W} => c_used6 (f := f0) (s := 0) (t := 0) (m := 0) (r := 0)) fun {W g S x} hc => c_crash2 hc h2
 | opn r =>
  by_cases h : (∀ x ∈ a.rd, x.id ≠ r) ∧ (0 ≤ r ∧ r ≤ 99) ∧ a.rd.length < 4
  ·rw [show Srd.step a (.opn r) = some ({ a with rd := insR ⟨r, a.A.length, a.ro, 0⟩ a.rd }, []) from if_pos h]
   exact c_DoT hR hO n_shard_change_open (j := 6) rfl (fun {W} => c_used7 (f := f0) (s := 0) (t := 0) (m := 0)) fun {W g S x} hc => c_openT hc h.1 h.2.1 h.2.2
  ·rw [show Srd.step a (.opn r) = none from if_neg h]
   exact c_DoF hR hO n_shard_change_open (j := 6) rfl (fun {W} => c_used7 (f := f0) (s := 0) (t := 0) (m := 0)) fun {W g S x} hc => c_openF hc h
 | rea r =>
  cases hf : a.rd.find? (fun y => decide (y.id = r)) with
  | none =>
   rw [show Srd.step a (.rea r) = none by simp only [Srd.step, hf]]
   exact c_DoF hR hO n_shard_change_read (j := 7) rfl (fun {W} => c_used8 (f := f0) (s := 0) (t := 0) (m := 0)) fun {W g S x} hc => c_readF hc hf
  | some y =>
   obtain ⟨j, hj, hid, hfj⟩ := Srd.find_at hf
   have hq : ∀ {W g S x}, Cin g S W x a → ∃ q : RV, x.rs[j]? = some q ∧ q.1 = y ∧ ∀ z ∈ x.rs.take j, z.1.id ≠ r := fun {W g S x} hc => by
    have hrs := hc.rs
    rw [← hrs, List.getElem?_map] at hj
    obtain ⟨q, hq1, hq2⟩ := Option.map_eq_some_iff.1 hj
    refine ⟨q, hq1, hq2, fun z hz => hfj z.1 ?_⟩
    rw [← hrs, ← List.map_take]
    exact List.mem_map.2 ⟨z, hz, rfl⟩
   by_cases hk : y.nx + 1 = a.k
   ·rw [show Srd.step a (.rea r) = some ({ a with rd := a.rd.filter fun y => y.id ≠ r }, srt (((Srd.all a).filter fun h => decide (h.2 < y.up)).map (·.1))) by simp only [Srd.step, hf]; rw [if_pos hk]]
    refine c_DoT hR hO n_shard_change_read (j := 7) rfl (fun {W} => c_used8 (f := f0) (s := 0) (t := 0) (m := 0)) fun {W g S x} hc => ?_
    obtain ⟨q, hq1, rfl, hq3⟩ := hq hc
    have := c_readT hc hq1 hid hq3
    simp only [if_pos hk] at this
    exact this
   ·rw [show Srd.step a (.rea r) = some ({ a with rd := a.rd.map fun y => if y.id = r then { y with nx := y.nx + 1 } else y }, []) by simp only [Srd.step, hf]; rw [if_neg hk]]
    refine c_DoT hR hO n_shard_change_read (j := 7) rfl (fun {W} => c_used8 (f := f0) (s := 0) (t := 0) (m := 0)) fun {W g S x} hc => ?_
    obtain ⟨q, hq1, rfl, hq3⟩ := hq hc
    have := c_readT hc hq1 hid hq3
    simp only [if_neg hk] at this
    exact this
theorem Dv_rm {P : Program} {w : World} {KP : Value → Prop} {t : TypeId} {c wi : Bool} {x y : Int} (h0 : 0 ≤ x) (hy : 0 < y) (hk : KP (.int .i64 (x % y))) : Dv P wi (bn .rem t c (.int .i64 x) (.int .i64 y)) w KP := by
 have e := Int.tmod_eq_emod_of_nonneg (b := y) h0
 cases wi <;> ((try simp -dsimp [go_sem, e]); repeat (simp -dsimp (disch := omega) only [gL, gI]; try simp -dsimp [go_sem, e])) <;> exact hk
theorem c_Facts {w0 : World} {x : Sx} {a : Ab} (hR : ShR w0 x a) (hO : Srd.Ok a) : Calls Tryz.prog 16 #[vSh x a] w0 (Ret fun r w' => ∃ u, r = .tuple #[u, .int .i64 0] ∧ Hp [] w0 w' [ro tFt 10 u (Srd.facts a).length ((Srd.facts a).flatMap fF)]) := by
 have hone := hR.one
 have hnA := hO.nA
 have cc1 := fun {W : World} (e : Ext w0 W) => c_Valid (hR.ext e) hO
 have hal := Srd.all_len a
 apply e_shard_Facts
 unfold s_shard_Facts
 have h := Hp.init [] w0
 refine bxA h fun g1 w h => ?_
 refine ldA h 0 rfl rfl ?_
 refine cl1 h n_shard_Valid (cc1 h.ext) fun w h => ?_
 refine Un_T (If_F (ldA h 0 rfl rfl ?_))
 refine bdS (PC.cons (by rfl) PC.nil) (by rfl) ?_
 refine bxA h fun g2 w h => ?_
 refine Cl_i n_shard_state_all (c_all (h.get (i := 0) rfl) (hR.ext h.ext) hO) ?_
 rintro v w1 ⟨_, rfl, hh⟩
 replace h := h.cat1 hh ro_sm
 have hA : ((Srd.all a).map (·.1)) = a.A := by unfold Srd.all; rw [Srd.num_map]
 refine leS (qZ 0 h rfl) ?_
 have h0 := h.nil tFt 10
 refine Lp2.mk (fun u i W => ∃ j : Nat, j ≤ a.A.length ∧ i = .int .i64 j ∧ Hp [] w0 W (ro tFt 10 u (a.A.take j).length ((a.A.take j).flatMap fF) :: [ro tHd 11 v a.A.length ((Srd.all a).flatMap fH)]))
  (fun _ i _ => match i with | .int _ i' => a.A.length - i'.toNat | _ => 0) ⟨0, by omega, rfl, h0.pick [0, 1] (by decide) rfl⟩ ?_
 clear h h0
 rintro u _ W ⟨j, hj, rfl, h⟩
 by_cases hjl : j < a.A.length
 ·refine Exists.elim (p := fun y => (Srd.all a)[j]? = some y) ⟨_, List.getElem?_eq_getElem (by omega)⟩ fun y hy => ?_
  have sy : Seg ((Srd.all a).flatMap fH) (j * 11) (fH y) := flat_seg (f := fH) (fun _ => rfl) hy
  have hyA : a.A[j]? = some y.1 := by rw [← hA, List.getElem?_map, hy]; rfl
  have hsn : a.A.take (j + 1) = a.A.take j ++ [y.1] := by rw [List.take_add_one, hyA]; rfl
  have hll : (a.A.take j).length ≤ 400 := by rw [List.length_take]; omega
  refine Bn_ltT (by omega) (If_T (iaR h 1 rfl (by omega) fun zg zk zv => ?_))
  refine lrA h 1 rfl ‹_› sy (by rfl) ?_
  refine alS h fun g3 w h => ?_
  refine stA h 0 rfl rfl rfl rfl fun w h => ?_
  refine faS (ldA h 0 rfl rfl ?_)
  refine bs1A h (by rfl) (by decide) (by rfl) (by decide) fun v1 w h => ?_
  refine apR (by rfl) (by decide) h 2 rfl (qZ 0 h rfl) (by first | rfl | assumption) (by omega) fun v2 w h => ?_
  refine Bn_ad (by omega) (by omega) ?_
  dsimp only [List.set] at h
  refine ⟨⟨j + 1, by omega, rfl, ?_⟩, by show a.A.length - ((j : Int) + 1).toNat < a.A.length - (j : Int).toNat; omega⟩
  rw [hsn, List.length_append, List.flatMap_append]
  exact h.pick [2, 3] (by decide) rfl
 have : j = a.A.length := by omega
 subst this
 rw [List.take_length] at h
 refine Bn_ltF (by omega) (If_F (cl_sort h (by omega) hO.nd fun w h => ?_))
 have hfl : a.A.length = (Srd.facts a).length := (srt_len a.A).symm
 refine Ret.mk ⟨u, rfl, ?_⟩
 have := h.pick [0] (by decide) rfl
 rw [hfl] at this
 exact this
theorem c_NewF {w0 : World} : Calls Tryz.prog 8 #[.int .i64 5] w0 (Ret fun r w' => Ext w0 w' ∧ r = .tuple #[vSh0, .int .i64 370]) := by
 have cc1 := fun {W : World} (_ : Ext w0 W) => c_inF (w := W) (n := 5) (lo := 2) (hi := 4) (by omega)
 apply e_shard_New
 unfold s_shard_New
 have h := Hp.init [] w0
 refine alS h fun g1 w h => ?_
 refine cl1 h n_shard_in (cc1 h.ext) fun w h => ?_
 refine Un_F (If_T (bdS PC.nil (by rfl) ?_))
 refine stA h 0 rfl rfl rfl rfl fun w h => ?_
 refine rcA h 0 rfl rfl ?_
 dsimp only [List.set] at h
 exact Ret.mk ⟨h.ext, rfl⟩
theorem c_New {w0 : World} {k : Nat} (hk : 2 ≤ k ∧ k ≤ 4) : Calls Tryz.prog 8 #[.int .i64 k] w0 (Ret fun r w' => ∃ x, r = .tuple #[vSh x (Srd.new k), .int .i64 0] ∧ Hp [] w0 w' [shE x (Srd.new k) (.slice none 0 0) []]) := by
 have cc1 := fun {W : World} (_ : Ext w0 W) => c_inT (w := W) (n := k) (lo := 2) (hi := 4) (by omega)
 apply e_shard_New
 unfold s_shard_New
 have h := Hp.init [] w0
 refine alS h fun g1 w h => ?_
 refine cl1 h n_shard_in (cc1 h.ext) fun w h => ?_
 refine Un_T (If_F (msS fV (.slice none 0 0) rfl (by decide) h (n := k) (by omega) (by show k * 1 ≤ _; omega) fun sv w hsv h => ?_))
 refine bdS (PC.cons (by first | assumption | exact qY 0 h rfl) PC.nil) (by rfl) ?_
 refine alS h fun g2 w h => ?_
 refine stA h 0 rfl rfl (by exact oneC (a := []) (b := [_, _, _, _, _, _, _, _]) (qZ 1 h rfl) rfl rfl) rfl fun w h => ?_
 dsimp only [List.set] at h
 have h0 := h.nil tIn 1
 refine Lp1.mk (fun i W => ∃ (j : Nat) (rv : Value), j ≤ 8 ∧ i = .int .i64 j ∧ Hp [] w0 W (ro tIn 1 rv j (((List.range j).map fun s : Nat => ((s % k : Nat) : Int)).flatMap fI) :: bx g2 tSh [sv, rv, .int .i64 0, .int .i64 0, .int .i64 0, .int .i64 0, .int .i64 0, .int .i64 0, .slice none 0 0] :: ro tHs 1 sv k ((List.replicate k (.slice none 0 0)).flatMap fV) :: [bx g1 tSh [.slice none 0 0, .slice none 0 0, .int .i64 0, .int .i64 0, .int .i64 0, .int .i64 0, .int .i64 0, .int .i64 0, .slice none 0 0]]))
  (fun i _ => match i with | .int _ i' => 8 - i'.toNat | _ => 0) ⟨0, .slice none 0 0, by omega, rfl, h0⟩ ?_
 clear h h0
 rintro _ W ⟨j, rv, hj, rfl, h⟩
 by_cases hjl : j < 8
 ·refine Bn_ltT (by omega) (If_T ?_)
  replace h := h.dr
  refine dfS (dl1 h 1 rfl rfl (Dv_rm (by omega) (by omega) ?_))
  rw [show (j : Int) % (k : Int) = ((j % k : Nat) : Int) from (Int.natCast_emod _ _).symm]
  have hsn : (List.range (j + 1)).map (fun s : Nat => ((s % k : Nat) : Int)) = (List.range j).map (fun s : Nat => ((s % k : Nat) : Int)) ++ [((j % k : Nat) : Int)] := by rw [List.range_succ, List.map_append]; rfl
  refine bs1A h (by rfl) (by decide) (by rfl) (by decide) fun v1 w h => ?_
  refine kl1 h 2 rfl rfl (apR (by rfl) (by decide) h 1 rfl (qZ 0 h rfl) (by first | rfl | assumption) (by omega) fun v2 w h => ?_)
  refine dfS (st1w h 2 rfl (qZ 1 h rfl) rfl fun w h => ?_)
  refine Bn_ad (by omega) (by omega) ?_
  dsimp only [List.set] at h
  refine ⟨⟨j + 1, v2, by omega, rfl, ?_⟩, by show 8 - ((j : Int) + 1).toNat < 8 - (j : Int).toNat; omega⟩
  rw [hsn, List.flatMap_append]
  exact h.pick [1, 2, 3, 4] (by decide) rfl
 have : j = 8 := by omega
 subst this
 refine Bn_ltF (by omega) (If_F (ldA h 1 rfl rfl ?_))
 have hcs := slc_c1 (qZ 2 h rfl)
 have hcr := slc_c1 (qZ 0 h rfl)
 refine stA h 3 rfl rfl (by simp only [List.all_cons, List.all_nil, hcs.2, hcr.2]; rfl) rfl fun w h => ?_
 dsimp only [List.set] at h
 refine rcA h 3 rfl rfl ?_
 have hnil : ∀ {W : World} {c : Nat}, SlC W c (.slice none 0 0) 0 [] := fun {W c} => ⟨by simp, .inl ⟨rfl, rfl⟩⟩
 have hst : ∀ i : Int, Srd.store (Srd.new k) i = [] := fun i => rfl
 have hl8 : (Srd.new k).ro.length = 8 := by simp [Srd.new]
 have h5 := h.pick [0, 2] (by decide) rfl
 refine Ret.mk ⟨⟨sv, rv, .slice none 0 0, List.replicate k (.slice none 0 0), []⟩, rfl, Hp.all (Lc := [_, _]) (Lr := []) h5 shE_sm (fun w hq => ?_) fun q hq => ?_⟩
 ·refine ⟨⟨ownsRow_sl (hq _ (List.mem_cons_of_mem _ List.mem_cons_self)), fun i v hv => ?_, ?_, hnil, rfl, fun r hr => by cases hr⟩, hnil⟩
  ·have hv2 : v = .slice none 0 0 := by
    have := List.mem_of_getElem? hv
    exact (List.mem_replicate.1 this).2
   rw [hv2, hst]
   exact hnil
  ·rw [hl8]
   exact ownsRow_sl (hq _ List.mem_cons_self)
 ·simp only [kS, List.mem_append, List.flatMap_nil, List.mem_flatMap, List.mem_replicate] at hq
  rcases hq with (hq | hq | hq | ⟨v, hv, hq⟩ | hq) | hq
  ·exact ⟨_, List.mem_cons_of_mem _ List.mem_cons_self, hq⟩
  ·exact ⟨_, List.mem_cons_self, hq⟩
  ·simp [kB, Value.ownBlock] at hq
  ·rw [hv.2] at hq
   simp [kB, Value.ownBlock] at hq
  ·cases hq
  ·simp [kB, Value.ownBlock] at hq
theorem c_Same1 {w0 : World} {u v : Value} {l : List Hd} (hu : SlC w0 11 u l.length (l.flatMap fH)) (hv : SlC w0 11 v l.length (l.flatMap fH)) (hl : l.length ≤ 1000000) : Calls Tryz.prog 37 #[u, v] w0 (Ret fun r w' => Ext w0 w' ∧ r = .bool true) := by
 have cc1 := fun {W : World} (e : Ext w0 W) => c_EqHd (hu.ext e) (hv.ext e) hl
 apply e_shard_Same_1
 unfold s_shard_Same_1
 have h := Hp.init [] w0
 refine cl1 h n_slices_Equal_api_Held_api_Held (cc1 h.ext) fun w h => ?_
 exact Ret.mk ⟨h.ext, rfl⟩
theorem c_Same2 {w0 : World} {q : Rd} {u v u2 v2 : Value} {l : List Ft} (hu : SlC w0 1 u q.ro.length (q.ro.flatMap fI)) (hv : SlC w0 1 v q.ro.length (q.ro.flatMap fI)) (h8 : q.ro.length = 8) (hu2 : SlC w0 10 u2 l.length (l.flatMap fF)) (hv2 : SlC w0 10 v2 l.length (l.flatMap fF)) (hl : l.length ≤ 1000000) :
 Calls Tryz.prog 40 #[.agg #[.int .i64 q.id, .int .i64 q.up, u, .int .i64 q.nx, u2], .agg #[.int .i64 q.id, .int .i64 q.up, v, .int .i64 q.nx, v2]] w0 (Ret fun r w' => Ext w0 w' ∧ r = .bool true) := by
 have cc1 := fun {W : World} (e : Ext w0 W) => c_EqIn (hu.ext e) (hv.ext e) (by omega)
 have cc2 := fun {W : World} (e : Ext w0 W) => c_EqFt (hu2.ext e) (hv2.ext e) hl
 apply e_shard_Same_2
 unfold s_shard_Same_2
 have h := Hp.init [] w0
 refine bxA h fun g1 w h => ?_
 refine bxA h fun g2 w h => ?_
 refine faS (ld1 h 1 rfl rfl (faS (ld1 h 0 rfl rfl (Bn_eqT (by omega) (Gd_T (faS (Gd_T (ld1 h 1 rfl rfl (Gd_T (faS (Gd_T (ld1 h 0 rfl rfl (Gd_T (Bn_eqT (by omega) (Pick_T (Gd_T (faS (Gd_T (ld1 h 1 rfl rfl (Gd_T (faS (Gd_T (ld1 h 0 rfl rfl (Gd_T (Bn_eqT (by omega) (Pick_T (Gd_T (faS (Gd_T (ld1 h 1 rfl rfl (Gd_T (faS (Gd_T (ld1 h 0 rfl rfl (Gd_T (cl1 h n_slices_Equal_int_int (cc1 h.ext) fun w h => ?_))))))))))))))))))))))))))))))))))))
 refine Pick_T (Gd_T (faS (Gd_T (ld1 h 1 rfl rfl (Gd_T (faS (Gd_T (ld1 h 0 rfl rfl (Gd_T (cl1 h n_slices_Equal_api_Fact_api_Fact (cc2 h.ext) fun w h => ?_))))))))))
 refine Pick_T ?_
 exact Ret.mk ⟨h.ext, rfl⟩
section
variable {w0 : World} {x y : Sx} {a : Ab} (hx : ShR w0 x a) (hy : ShR w0 y a) (hO : Srd.Ok a)
include hx hy hO
theorem c_EqS : Calls Tryz.prog 36 #[x.sv, y.sv, .func (.func 37) #[] #[]] w0 (Ret fun r w' => Ext w0 w' ∧ r = .bool true) := by
 have hk := hO.k
 have s1 := hx.st
 have s2 := hy.st
 apply e_slices_EqualFunc_api_Held_api_Held_api_Held_api_Held
 unfold s_slices_EqualFunc_api_Held_api_Held_api_Held_api_Held
 have h := Hp.init [] w0
 refine leS (s1.hp h) ?_
 refine leS (s2.hp h) ?_
 refine Bn_neF (by omega) (If_F (leS (s1.hp h) ?_))
 refine Lp1.mk (fun i W => ∃ j : Nat, j ≤ a.k ∧ i = .int .i64 j ∧ Hp [] w0 W []) (fun i _ => match i with | .int _ i' => a.k - i'.toNat | _ => 0) ⟨0, by omega, rfl, h⟩ ?_
 clear h
 rintro _ W ⟨j, hj, rfl, h⟩
 by_cases hjl : j < a.k
 ·refine Exists.elim (hx.at hjl) fun u hu => ?_
  refine Exists.elim (hy.at hjl) fun v hv => ?_
  have su : Seg (x.ls.flatMap fV) (j * 1) (fV u) := flat_seg (f := fV) (fun _ => rfl) hu.1
  have sv : Seg (y.ls.flatMap fV) (j * 1) (fV v) := flat_seg (f := fV) (fun _ => rfl) hv.1
  have hsl : (Srd.store a j).length ≤ 400 := Nat.le_trans (Srd.store_len a j) hO.nA
  refine Bn_ltT (by omega) (If_T (iaH h ‹_› (by omega) fun zb zo zk zv zc => ?_))
  refine lh0 h ‹_› ‹_› (by rfl) ?_
  refine iaH h ‹_› (by omega) fun zb zo zk zv zc => ?_
  refine lh0 h ‹_› ‹_› (by rfl) ?_
  refine cw1 h n_shard_Same_1 (c_Same1 (hu.2.ext h.ext) (hv.2.ext h.ext) (by omega)) fun w h => ?_
  refine Un_T (If_F (Bn_ad (by omega) (by omega) ?_))
  exact ⟨⟨j + 1, by omega, rfl, h⟩, by show a.k - ((j : Int) + 1).toNat < a.k - (j : Int).toNat; omega⟩
 have : j = a.k := by omega
 subst this
 refine Bn_ltF (by omega) (If_F ?_)
 exact Ret.mk ⟨h.ext, rfl⟩
theorem c_EqR : Calls Tryz.prog 39 #[x.dv, y.dv, .func (.func 40) #[] #[]] w0 (Ret fun r w' => Ext w0 w' ∧ r = .bool true) := by
 have hnr := hO.nr
 have s1 := hx.rd
 have s2 := hy.rd
 have o1 := hx.one
 have o2 := hy.one
 have l1 : x.rs.length = a.rd.length := by rw [← hx.rs, List.length_map]
 have l2 : y.rs.length = a.rd.length := by rw [← hy.rs, List.length_map]
 apply e_slices_EqualFunc_api_Reader_api_Reader_api_Reader_api_Reader
 unfold s_slices_EqualFunc_api_Reader_api_Reader_api_Reader_api_Reader
 have h := Hp.init [] w0
 refine leS (s1.hp h) ?_
 refine leS (s2.hp h) ?_
 refine Bn_neF (by omega) (If_F (leS (s1.hp h) ?_))
 refine Lp1.mk (fun i W => ∃ j : Nat, j ≤ a.rd.length ∧ i = .int .i64 j ∧ Hp [] w0 W []) (fun i _ => match i with | .int _ i' => a.rd.length - i'.toNat | _ => 0) ⟨0, by omega, rfl, h⟩ ?_
 clear h
 rintro _ W ⟨j, hj, rfl, h⟩
 by_cases hjl : j < a.rd.length
 ·refine Exists.elim (p := fun q : Rd => a.rd[j]? = some q) ⟨_, List.getElem?_eq_getElem hjl⟩ fun q hq => ?_
  have hqx : ∃ u u2, x.rs[j]? = some (q, u, u2) := by
   have := hq
   rw [← hx.rs, List.getElem?_map] at this
   obtain ⟨p, hp1, hp2⟩ := Option.map_eq_some_iff.1 this
   exact ⟨p.2.1, p.2.2, by rw [hp1, ← hp2]⟩
  have hqy : ∃ u u2, y.rs[j]? = some (q, u, u2) := by
   have := hq
   rw [← hy.rs, List.getElem?_map] at this
   obtain ⟨p, hp1, hp2⟩ := Option.map_eq_some_iff.1 this
   exact ⟨p.2.1, p.2.2, by rw [hp1, ← hp2]⟩
  refine Exists.elim hqx fun u hu => ?_
  refine Exists.elim hu fun u2 hu => ?_
  refine Exists.elim hqy fun v hv => ?_
  refine Exists.elim hv fun v2 hv => ?_
  have su : Seg (x.rs.flatMap fR) (j * 5) [.int .i64 q.id, .int .i64 q.up, u, .int .i64 q.nx, u2] := flat_seg (f := fR) (fun _ => rfl) hu
  have sv : Seg (y.rs.flatMap fR) (j * 5) [.int .i64 q.id, .int .i64 q.up, v, .int .i64 q.nx, v2] := flat_seg (f := fR) (fun _ => rfl) hv
  have ru := hx.rr _ (List.mem_of_getElem? hu)
  have rv := hy.rr _ (List.mem_of_getElem? hv)
  have c1 : u.cells = #[u] ∧ u.oneCell' = true := slc_c1 ru.1
  have c2 : u2.cells = #[u2] ∧ u2.oneCell' = true := slc_c1 ru.2
  have c3 : v.cells = #[v] ∧ v.oneCell' = true := slc_c1 rv.1
  have c4 : v2.cells = #[v2] ∧ v2.oneCell' = true := slc_c1 rv.2
  have hgl := Srd.got_len a q
  have hnA := hO.nA
  have h8 := (hO.rd q (List.mem_of_getElem? hq)).ro.len
  refine Bn_ltT (by omega) (If_T (iaH h ‹_› (by omega) fun zb zo zk zv zc => ?_))
  refine lhA h ‹_› ‹_› (by rfl) ?_
  refine alS h fun g1 w h => ?_
  refine stA h 0 rfl rfl (by simp only [List.all_cons, List.all_nil, c1.2, c2.2]; rfl) rfl fun w h => ?_
  dsimp only [List.set] at h
  refine iaH h ‹_› (by omega) fun zb zo zk zv zc => ?_
  refine lhA h ‹_› ‹_› (by rfl) ?_
  refine alS h fun g2 w h => ?_
  refine stA h 0 rfl rfl (by simp only [List.all_cons, List.all_nil, c3.2, c4.2]; rfl) rfl fun w h => ?_
  dsimp only [List.set] at h
  refine ldA h 1 rfl rfl ?_
  refine ldA h 0 rfl rfl ?_
  refine cw1 h n_shard_Same_2 (c_Same2 (l := got a q) (ru.1.ext h.ext) (rv.1.ext h.ext) h8 (ru.2.ext h.ext) (rv.2.ext h.ext) (by omega)) fun w h => ?_
  refine Un_T (If_F (Bn_ad (by omega) (by omega) ?_))
  exact ⟨⟨j + 1, by omega, rfl, h.drop 2⟩, by show a.rd.length - ((j : Int) + 1).toNat < a.rd.length - (j : Int).toNat; omega⟩
 have : j = a.rd.length := by omega
 subst this
 refine Bn_ltF (by omega) (If_F ?_)
 exact Ret.mk ⟨h.ext, rfl⟩
theorem c_Same : Calls Tryz.prog 14 #[vSh x a, vSh y a] w0 (Ret fun r w' => Ext w0 w' ∧ r = .bool true) := by
 have o1 := hx.one
 have o2 := hy.one
 have h8 := hO.ro.len
 have cc1 := fun {W : World} (e : Ext w0 W) => c_EqS (hx.ext e) (hy.ext e) hO
 have cc2 := fun {W : World} (e : Ext w0 W) => c_EqR (hx.ext e) (hy.ext e) hO
 have cc3 := fun {W : World} (e : Ext w0 W) => c_EqIn (hx.ro.ext e) (hy.ro.ext e) (by omega)
 apply e_shard_Same
 unfold s_shard_Same
 have h := Hp.init [] w0
 refine bxA h fun g1 w h => ?_
 refine bxA h fun g2 w h => ?_
 refine faS (ld1 h 1 rfl rfl (faS (ld1 h 0 rfl rfl (cl1 h n_slices_EqualFunc_api_Held_api_Held_api_Held_api_Held (cc1 h.ext) fun w h => ?_))))
 refine faS (ld1 h 1 rfl rfl (faS (ld1 h 0 rfl rfl (cl1 h n_slices_EqualFunc_api_Reader_api_Reader_api_Reader_api_Reader (cc2 h.ext) fun w h => ?_))))
 refine Gd_T (Pick_T (Gd_T (faS (Gd_T (ld1 h 1 rfl rfl (Gd_T (faS (Gd_T (ld1 h 0 rfl rfl (Gd_T (cl1 h n_slices_Equal_int_int (cc3 h.ext) fun w h => ?_)))))))))))
 refine Pick_T (Gd_T (faS (Gd_T (ld1 h 1 rfl rfl (Gd_T (faS (Gd_T (ld1 h 0 rfl rfl (Gd_T (Bn_eqT (by omega) (Pick_T (Gd_T (faS (Gd_T (ldA h 1 rfl rfl ?_)))))))))))))))
 refine Gd_T (faS (Gd_T (ldA h 0 rfl rfl ?_)))
 refine Gd_T (eqMv ?_)
 rw [decide_eq_true rfl]
 refine Pick_T ?_
 exact Ret.mk ⟨h.ext, rfl⟩
end
def pk (c n : Int) : Int := if c < 0 then (-(c + 1)) % n else c % n
theorem pk_bd {c n : Int} (hn : 0 < n) : 0 ≤ pk c n ∧ pk c n < n := by
 unfold pk
 split
 ·exact ⟨Int.emod_nonneg _ (by omega), Int.emod_lt_of_pos _ hn⟩
 ·exact ⟨Int.emod_nonneg _ (by omega), Int.emod_lt_of_pos _ hn⟩
abbrev I64 (c : Int) : Prop := -9223372036854775808 ≤ c ∧ c ≤ 9223372036854775807
theorem c_rpick {w0 : World} {c n : Int} (hc : I64 c) (hn : 0 < n) : Calls Tryz.prog 21 #[.int .i64 c, .int .i64 n] w0 (Ret fun r w' => Ext w0 w' ∧ r = .int .i64 (pk c n)) := by
 apply e_ref37_pick
 unfold s_ref37_pick
 unfold pk
 have h := Hp.init [] w0
 by_cases h0 : c < 0
 ·rw [if_pos h0]
  refine Bn_ltT (by omega) (If_T (Bn_ad (by omega) (by omega) (Un_ng (by omega) (by omega) (Bn_rm (by omega) hn ?_))))
  exact Ret.mk ⟨h.ext, rfl⟩
 ·rw [if_neg h0]
  refine Bn_ltF (by omega) (If_F (Bn_rm (by omega) hn ?_))
  exact Ret.mk ⟨h.ext, rfl⟩
theorem c_lpick {w0 : World} {c n : Int} (hc : I64 c) (hn : 0 < n) : Calls Tryz.prog 9 #[.int .i64 c, .int .i64 n] w0 (Ret fun r w' => Ext w0 w' ∧ r = .int .i64 (pk c n)) := by
 apply e_law37_pick
 unfold s_law37_pick
 unfold pk
 have h := Hp.init [] w0
 by_cases h0 : c < 0
 ·rw [if_pos h0]
  refine Bn_ltT (by omega) (If_T (Bn_ad (by omega) (by omega) (Un_ng (by omega) (by omega) (Bn_rm (by omega) hn ?_))))
  exact Ret.mk ⟨h.ext, rfl⟩
 ·rw [if_neg h0]
  refine Bn_ltF (by omega) (If_F (Bn_rm (by omega) hn ?_))
  exact Ret.mk ⟨h.ext, rfl⟩
def cmdOf (a : Ab) (x0 x1 x2 x3 : Int) : Cmd :=
 if pk x0 12 ≤ 2 then .put ⟨pk x1 30, pk x2 3, 0, 0, 0, -1, pk x1 30 / 10, pk x3 50, 50, 0⟩
 else if pk x0 12 ≤ 4 then
  if a.mv.ph = 0 then .beg (pk x1 8) ((Srd.roAt a.ro (pk x1 8) + 1 + pk x2 (a.k - 1)) % a.k)
  else if a.mv.ph = 1 then .cop (1 + pk x1 3) else .dro (1 + pk x1 3)
 else if pk x0 12 = 5 then if a.mv.ph = 1 then .sw else .dro (1 + pk x1 4)
 else if pk x0 12 = 6 then .cop (1 + pk x1 4)
 else if pk x0 12 = 7 then if pk x1 4 = 0 then .cra else .sw
 else if pk x0 12 = 8 then .opn (pk x1 5)
 else match a.rd[(pk x1 a.rd.length).toNat]? with
  | some r => .rea r.id
  | none => .opn (pk x1 5)
theorem cmdOf_ok {a : Ab} {x0 x1 x2 x3 : Int} : CmdOk (cmdOf a x0 x1 x2 x3) := by
 have p3 := pk_bd (c := x1) (n := 3) (by omega)
 have p4 := pk_bd (c := x1) (n := 4) (by omega)
 have p30 := pk_bd (c := x1) (n := 30) (by omega)
 have q3 := pk_bd (c := x2) (n := 3) (by omega)
 have q50 := pk_bd (c := x3) (n := 50) (by omega)
 unfold cmdOf
 split
 ·show VF _
  exact ⟨⟨p30.1, by show pk x1 30 ≤ 999; omega⟩, ⟨q3.1, by show pk x2 3 ≤ 9; omega⟩, ⟨by show (0 : Int) ≤ 0; omega, by show (0 : Int) ≤ 7; omega⟩, ⟨by show (0 : Int) ≤ 0; omega, by show (0 : Int) ≤ 9; omega⟩, ⟨by show (0 : Int) ≤ 0; omega, by show (0 : Int) ≤ 11; omega⟩, ⟨by show (-1 : Int) ≤ -1; omega, by show (-1 : Int) ≤ 19; omega⟩, rfl, ⟨q50.1, by show pk x3 50 ≤ 50; omega⟩, by show (50 : Int) ≤ 4398046511104; omega, ⟨by show (0 : Int) ≤ 0; omega, by show (0 : Int) ≤ 24000; omega⟩⟩
 split
 ·split
  ·trivial
  split
  ·show 1 ≤ _ ∧ _ ≤ 1000000; omega
  ·show 1 ≤ _ ∧ _ ≤ 1000000; omega
 split
 ·split
  ·trivial
  ·show 1 ≤ _ ∧ _ ≤ 1000000; omega
 split
 ·show 1 ≤ _ ∧ _ ≤ 1000000; omega
 split
 ·split <;> trivial
 split
 ·trivial
 split <;> trivial
section
variable {w0 : World} {x : Sx} {a : Ab} {x0 x1 x2 x3 : Int} (hR : ShR w0 x a) (hO : Srd.Ok a) (h0 : I64 x0) (h1 : I64 x1) (h2 : I64 x2) (h3 : I64 x3)
include hR hO h0 h1 h2 h3
set_option maxHeartbeats 8000000 in
theorem c_Command : Calls Tryz.prog 11 #[vSh x a, .agg #[.int .i64 x0, .int .i64 x1, .int .i64 x2, .int .i64 x3]] w0 (Ret fun r w' => Ext w0 w' ∧ r = vCmd (cmdOf a x0 x1 x2 x3)) := by
 have hone := hR.one
 have hk := hO.k
 have hnr := hO.nr
 have hph := hO.mv.ph
 have hrl := hO.ro.len
 have hsv := hR.st
 have hrv := hR.ro
 have hrd := hR.rd
 have hrsl : x.rs.length = a.rd.length := by rw [← hR.rs, List.length_map]
 have p12 := pk_bd (c := x0) (n := 12) (by omega)
 have p8 := pk_bd (c := x1) (n := 8) (by omega)
 have p30 := pk_bd (c := x1) (n := 30) (by omega)
 have p3 := pk_bd (c := x1) (n := 3) (by omega)
 have p4 := pk_bd (c := x1) (n := 4) (by omega)
 have pk1 := pk_bd (c := x2) (n := (a.k : Int) - 1) (by omega)
 have hat := Srd.roAt_bd hO.ro (s := pk x1 8) (by omega)
 have cc1 := fun {W : World} (_ : Ext w0 W) => c_rpick (w0 := W) (c := x0) (n := 12) h0 (by omega)
 have cc2 := fun {W : World} (_ : Ext w0 W) => c_rpick (w0 := W) (c := x1) (n := 30) h1 (by omega)
 have cc3 := fun {W : World} (_ : Ext w0 W) => c_rpick (w0 := W) (c := x2) (n := 3) h2 (by omega)
 have cc4 := fun {W : World} (_ : Ext w0 W) => c_rpick (w0 := W) (c := x3) (n := 50) h3 (by omega)
 have cc5 := fun {W : World} (_ : Ext w0 W) => c_rpick (w0 := W) (c := x1) (n := 8) h1 (by omega)
 have cc6 := fun {W : World} (_ : Ext w0 W) => c_rpick (w0 := W) (c := x2) (n := (a.k : Int) - 1) h2 (by omega)
 have cc7 := fun {W : World} (_ : Ext w0 W) => c_rpick (w0 := W) (c := x1) (n := 3) h1 (by omega)
 have cc8 := fun {W : World} (_ : Ext w0 W) => c_rpick (w0 := W) (c := x1) (n := 4) h1 (by omega)
 have cc9 := fun {W : World} (_ : Ext w0 W) => c_rpick (w0 := W) (c := x1) (n := 5) h1 (by omega)
 have sr : Seg (a.ro.flatMap fI) ((pk x1 8).toNat * 1) (fI (Srd.roAt a.ro (pk x1 8))) := ro_seg hO (by omega) hrl
 apply e_ref37_Command
 unfold s_ref37_Command
 unfold cmdOf
 obtain ⟨p, hp⟩ : ∃ p, p = pk x0 12 := ⟨_, rfl⟩
 rw [← hp] at p12 cc1 ⊢
 have h := Hp.init [] w0
 refine bxA h fun g1 w h => ?_
 refine bxA h fun g2 w h => ?_
 refine alS h fun g3 w h => ?_
 refine iaZ (by decide) (by decide) ?_
 refine ld1 h 1 rfl rfl (cl1 h n_ref37_pick (cc1 h.ext) fun w h => ?_)
 by_cases hA : p ≤ 2
 ·rw [if_pos hA]
  refine Jn1.lf (.bool true) h (fun K hK => ?_) (fun w h => ?_)
  ·rcases (show p = 0 ∨ p = 1 ∨ p = 2 by omega) with hq | hq | hq
   ·refine Bn_eqT (by omega) (If_T ?_)
    exact hK _ h
   ·refine Bn_eqF (by omega) (If_F (Bn_eqT (by omega) (If_T ?_)))
    exact hK _ h
   ·refine Bn_eqF (by omega) (If_F (Bn_eqF (by omega) (If_F (Bn_eqT (by omega) ?_))))
    exact hK _ h
  refine If_T ?_
  refine Jn1.lfQ (fun v W => ∃ g, v = pr g 0 ∧ Hp [] w0 W [bx g tFt [.int .i64 (pk x1 30), .int .i64 (pk x2 3), .int .i64 0, .int .i64 0, .int .i64 0, .int .i64 (-1), .int .i64 0, .int .i64 (pk x3 50), .int .i64 50, .int .i64 0], bx g3 tX (fX 0 f0 0 0 0 0), bx g2 46 [.int .i64 x0, .int .i64 x1, .int .i64 x2, .int .i64 x3], bx g1 tSh (cS x a)]) (fun K hK => ?_) (fun v w ⟨g, hv, h⟩ => ?_)
  ·replace h := h.dr
   refine diZ (by decide) (by decide) ?_
   refine dl1 h 1 rfl rfl (diZ (by decide) (by decide) ?_)
   refine dl1 h 1 rfl rfl (diZ (by decide) (by decide) ?_)
   refine dl1 h 1 rfl rfl ?_
   refine ⟨?_, ?_⟩
   refine cl1 h n_ref37_pick (cc2 h.ext) fun w h => ?_
   refine kl1 h 1 rfl rfl (kl1 h 1 rfl rfl ?_)
   refine ⟨?_, ?_⟩
   refine cl1 h n_ref37_pick (cc3 h.ext) fun w h => ?_
   refine kl1 h 1 rfl rfl ?_
   refine ⟨?_, ?_⟩
   refine cl1 h n_ref37_pick (cc4 h.ext) fun w h => ?_
   refine dbS (PC.cons (by rfl) (PC.cons (by rfl) (PC.cons (by rfl) (PC.cons (by rfl) (PC.cons (by rfl) PC.nil))))) (by rfl) ?_
   refine alS h fun g4 w h => ?_
   refine kl1 h 2 rfl rfl (kl1 h 2 rfl rfl (kl1 h 2 rfl rfl (stA h 0 rfl rfl rfl rfl fun w h => ?_)))
   dsimp only [List.set] at h
   ·exact hK _ _ ⟨_, rfl, h⟩
   ·refine alS h fun g4 w h => ?_
    refine kl1 h 2 rfl rfl (kl1 h 2 rfl rfl (kl1 h 2 rfl rfl (cl1 h n_ref37_pick (cc4 h.ext) fun w h => ?_)))
    refine dbS (PC.cons (by rfl) (PC.cons (by rfl) (PC.cons (by rfl) (PC.cons (by rfl) (PC.cons (by rfl) PC.nil))))) (by rfl) ?_
    refine stA h 0 rfl rfl rfl rfl fun w h => ?_
    dsimp only [List.set] at h
    exact hK _ _ ⟨_, rfl, h⟩
   ·refine alS h fun g4 w h => ?_
    refine kl1 h 2 rfl rfl (kl1 h 2 rfl rfl (kl1 h 2 rfl rfl (cl1 h n_ref37_pick (cc3 h.ext) fun w h => ?_)))
    refine kl1 h 2 rfl rfl (cl1 h n_ref37_pick (cc4 h.ext) fun w h => ?_)
    refine dbS (PC.cons (by rfl) (PC.cons (by rfl) (PC.cons (by rfl) (PC.cons (by rfl) (PC.cons (by rfl) PC.nil))))) (by rfl) ?_
    refine stA h 0 rfl rfl rfl rfl fun w h => ?_
    dsimp only [List.set] at h
    exact hK _ _ ⟨_, rfl, h⟩
   ·refine alS h fun g4 w h => ?_
    refine kl1 h 2 rfl rfl (kl1 h 2 rfl rfl (kl1 h 2 rfl rfl (cl1 h n_ref37_pick (cc2 h.ext) fun w h => ?_)))
    refine kl1 h 2 rfl rfl (kl1 h 2 rfl rfl (cl1 h n_ref37_pick (cc3 h.ext) fun w h => ?_))
    refine kl1 h 2 rfl rfl (cl1 h n_ref37_pick (cc4 h.ext) fun w h => ?_)
    refine dbS (PC.cons (by rfl) (PC.cons (by rfl) (PC.cons (by rfl) (PC.cons (by rfl) (PC.cons (by rfl) PC.nil))))) (by rfl) ?_
    refine stA h 0 rfl rfl rfl rfl fun w h => ?_
    dsimp only [List.set] at h
    exact hK _ _ ⟨_, rfl, h⟩
  subst hv
  refine faS (ld1 h 0 rfl rfl (Bn_qu (by omega) (by omega) (by omega) (faS (st1 h 0 rfl rfl rfl rfl fun w h => ?_))))
  refine ldA h 0 rfl rfl ?_
  refine bdS (PC.cons (by rfl) (PC.cons (by rfl) PC.nil)) (by rfl) ?_
  refine stA h 1 rfl rfl rfl rfl fun w h => ?_
  refine rcA h 1 rfl rfl ?_
  dsimp only [List.set] at h
  exact Ret.mk ⟨h.ext, rfl⟩
 rw [if_neg hA]
 refine Jn1.lf (.bool false) h (fun K hK => ?_) (fun w h => ?_)
 ·refine Bn_eqF (by omega) (If_F (Bn_eqF (by omega) (If_F (Bn_eqF (by omega) ?_))))
  exact hK _ h
 refine If_F ?_
 by_cases hB : p ≤ 4
 ·rw [if_pos hB]
  refine Jn1.lf (.bool true) h (fun K hK => ?_) (fun w h => ?_)
  ·rcases (show p = 3 ∨ p = 4 by omega) with hq | hq
   ·refine Bn_eqT (by omega) (If_T ?_)
    exact hK _ h
   ·refine Bn_eqF (by omega) (If_F (Bn_eqT (by omega) ?_))
    exact hK _ h
  by_cases hm : a.mv.ph = 0
  ·rw [if_pos hm]
   refine If_T (faS (faS (ld1 h 2 rfl rfl (Bn_eqT (by omega) (If_T (iaZ (by decide) (by decide) ?_))))))
   refine ld1 h 1 rfl rfl (cl1 h n_ref37_pick (cc5 h.ext) fun w h => ?_)
   replace h := h.dr
   refine dfS (dl1 h 2 rfl rfl (diHz h ‹_› (by omega) (by omega) fun zb zo zk zv zc => ?_))
   refine dh0 h ‹_› ‹_› (by rfl) ?_
   refine Dv_ad (by omega) (by omega) (diZ (by decide) (by decide) ?_)
   refine dl1 h 1 rfl rfl (dfS (dl1 h 2 rfl rfl (dlS (hsv.hp h) ?_)))
   refine Dv_su (by omega) (by omega) (dfS (dl1 h 2 rfl rfl (dlS (hsv.hp h) ?_)))
   refine cl1 h n_ref37_pick (cc6 h.ext) fun w h => ?_
   refine kl1 h 2 rfl rfl (kh0 h ‹_› ‹_› (by rfl) ?_)
   refine kl1 h 2 rfl rfl (Dv_ad (by omega) (by omega) (Dv_rm (by omega) (by omega) (dbS (PC.cons (by rfl) (PC.cons (by rfl) (PC.cons (by rfl) PC.nil))) (by rfl) ?_)))
   refine stA h 0 rfl rfl rfl rfl fun w h => ?_
   refine rcA h 0 rfl rfl ?_
   dsimp only [List.set] at h
   exact Ret.mk ⟨h.ext, rfl⟩
  ·rw [if_neg hm]
   by_cases hm1 : a.mv.ph = 1
   ·rw [if_pos hm1]
    refine If_T (faS (faS (ld1 h 2 rfl rfl (Bn_eqF (by omega) (If_F (faS (faS (ld1 h 2 rfl rfl (Bn_eqT (by omega) (If_T (iaZ (by decide) (by decide) ?_)))))))))))
    refine ld1 h 1 rfl rfl (cl1 h n_ref37_pick (cc7 h.ext) fun w h => ?_)
    refine Bn_ad (by omega) (by omega) (bdS (PC.cons (by rfl) (PC.cons (by rfl) PC.nil)) (by rfl) ?_)
    refine stA h 0 rfl rfl rfl rfl fun w h => ?_
    refine rcA h 0 rfl rfl ?_
    dsimp only [List.set] at h
    exact Ret.mk ⟨h.ext, rfl⟩
   ·rw [if_neg hm1]
    refine If_T (faS (faS (ld1 h 2 rfl rfl (Bn_eqF (by omega) (If_F (faS (faS (ld1 h 2 rfl rfl (Bn_eqF (by omega) (If_F (iaZ (by decide) (by decide) ?_)))))))))))
    refine ld1 h 1 rfl rfl (cl1 h n_ref37_pick (cc7 h.ext) fun w h => ?_)
    refine Bn_ad (by omega) (by omega) (bdS (PC.cons (by rfl) (PC.cons (by rfl) PC.nil)) (by rfl) ?_)
    refine stA h 0 rfl rfl rfl rfl fun w h => ?_
    refine rcA h 0 rfl rfl ?_
    dsimp only [List.set] at h
    exact Ret.mk ⟨h.ext, rfl⟩
 rw [if_neg hB]
 refine Jn1.lf (.bool false) h (fun K hK => ?_) (fun w h => ?_)
 ·refine Bn_eqF (by omega) (If_F (Bn_eqF (by omega) ?_))
  exact hK _ h
 by_cases hC : p = 5
 ·rw [if_pos hC]
  by_cases hm1 : a.mv.ph = 1
  ·rw [if_pos hm1]
   refine If_F (Bn_eqT (by omega) (If_T (faS (faS (ld1 h 2 rfl rfl (Bn_eqT (by omega) (If_T (bdS (PC.cons (by rfl) PC.nil) (by rfl) ?_))))))))
   refine stA h 0 rfl rfl rfl rfl fun w h => ?_
   refine rcA h 0 rfl rfl ?_
   dsimp only [List.set] at h
   exact Ret.mk ⟨h.ext, rfl⟩
  ·rw [if_neg hm1]
   refine If_F (Bn_eqT (by omega) (If_T (faS (faS (ld1 h 2 rfl rfl (Bn_eqF (by omega) (If_F (iaZ (by decide) (by decide) ?_))))))))
   refine ld1 h 1 rfl rfl (cl1 h n_ref37_pick (cc8 h.ext) fun w h => ?_)
   refine Bn_ad (by omega) (by omega) (bdS (PC.cons (by rfl) (PC.cons (by rfl) PC.nil)) (by rfl) ?_)
   refine stA h 0 rfl rfl rfl rfl fun w h => ?_
   refine rcA h 0 rfl rfl ?_
   dsimp only [List.set] at h
   exact Ret.mk ⟨h.ext, rfl⟩
 rw [if_neg hC]
 by_cases hD : p = 6
 ·rw [if_pos hD]
  refine If_F (Bn_eqF (by omega) (If_F (Bn_eqT (by omega) (If_T (iaZ (by decide) (by decide) ?_)))))
  refine ld1 h 1 rfl rfl (cl1 h n_ref37_pick (cc8 h.ext) fun w h => ?_)
  refine Bn_ad (by omega) (by omega) (bdS (PC.cons (by rfl) (PC.cons (by rfl) PC.nil)) (by rfl) ?_)
  refine stA h 0 rfl rfl rfl rfl fun w h => ?_
  refine rcA h 0 rfl rfl ?_
  dsimp only [List.set] at h
  exact Ret.mk ⟨h.ext, rfl⟩
 rw [if_neg hD]
 by_cases hE : p = 7
 ·rw [if_pos hE]
  by_cases hm1 : pk x1 4 = 0
  ·rw [if_pos hm1]
   refine If_F (Bn_eqF (by omega) (If_F (Bn_eqF (by omega) (If_F (Bn_eqT (by omega) (If_T (iaZ (by decide) (by decide) ?_)))))))
   refine ld1 h 1 rfl rfl (cl1 h n_ref37_pick (cc8 h.ext) fun w h => ?_)
   refine Bn_eqT (by omega) (If_T (bdS (PC.cons (by rfl) PC.nil) (by rfl) ?_))
   refine stA h 0 rfl rfl rfl rfl fun w h => ?_
   refine rcA h 0 rfl rfl ?_
   dsimp only [List.set] at h
   exact Ret.mk ⟨h.ext, rfl⟩
  ·rw [if_neg hm1]
   refine If_F (Bn_eqF (by omega) (If_F (Bn_eqF (by omega) (If_F (Bn_eqT (by omega) (If_T (iaZ (by decide) (by decide) ?_)))))))
   refine ld1 h 1 rfl rfl (cl1 h n_ref37_pick (cc8 h.ext) fun w h => ?_)
   refine Bn_eqF (by omega) (If_F (bdS (PC.cons (by rfl) PC.nil) (by rfl) ?_))
   refine stA h 0 rfl rfl rfl rfl fun w h => ?_
   refine rcA h 0 rfl rfl ?_
   dsimp only [List.set] at h
   exact Ret.mk ⟨h.ext, rfl⟩
 rw [if_neg hE]
 by_cases hF : p = 8
 ·rw [if_pos hF]
  refine If_F (Bn_eqF (by omega) (If_F (Bn_eqF (by omega) (If_F (Bn_eqF (by omega) (If_F (Bn_eqT (by omega) (If_T (iaZ (by decide) (by decide) ?_)))))))))
  refine ld1 h 1 rfl rfl (cl1 h n_ref37_pick (cc9 h.ext) fun w h => ?_)
  refine bdS (PC.cons (by rfl) (PC.cons (by rfl) PC.nil)) (by rfl) ?_
  refine stA h 0 rfl rfl rfl rfl fun w h => ?_
  refine rcA h 0 rfl rfl ?_
  dsimp only [List.set] at h
  exact Ret.mk ⟨h.ext, rfl⟩
 rw [if_neg hF]
 by_cases hG : 0 < a.rd.length
 ·have pr1 := pk_bd (c := x1) (n := (a.rd.length : Int)) (by omega)
  have hjl : (pk x1 (a.rd.length : Int)).toNat < x.rs.length := by omega
  refine Exists.elim (p := fun q => x.rs[(pk x1 (a.rd.length : Int)).toNat]? = some q) ⟨_, List.getElem?_eq_getElem hjl⟩ fun q hq => ?_
  have hqa : a.rd[(pk x1 (a.rd.length : Int)).toNat]? = some q.1 := by rw [← hR.rs, List.getElem?_map, hR.rs, hq]; rfl
  have sq : Seg (x.rs.flatMap fR) ((pk x1 (a.rd.length : Int)).toNat * 5) (fR q) := flat_seg (f := fR) (fun _ => rfl) hq
  have ccr := fun {W : World} (_ : Ext w0 W) => c_rpick (w0 := W) (c := x1) (n := (a.rd.length : Int)) h1 (by omega)
  rw [hqa]
  rw [hrsl] at hrd
  refine If_F (Bn_eqF (by omega) (If_F (Bn_eqF (by omega) (If_F (Bn_eqF (by omega) (If_F (Bn_eqF (by omega) (If_F (faS (ld1 h 2 rfl rfl (leS (hrd.hp h) ?_)))))))))))
  refine Bn_gtT (by omega) (If_T ?_)
  replace h := h.dr
  refine dfS (dl1 h 2 rfl rfl (diZ (by decide) (by decide) ?_))
  refine dl1 h 1 rfl rfl (dfS (dl1 h 2 rfl rfl (dlS (hrd.hp h) ?_)))
  refine cl1 h n_ref37_pick (ccr h.ext) fun w h => ?_
  refine kl1 h 2 rfl rfl (diHz h ‹_› (by omega) (by omega) fun zb zo zk zv zc => ?_)
  refine dfS (dh1 h ‹_› ‹_› (by rfl) ?_)
  refine dbS (PC.cons (by rfl) (PC.cons (by rfl) PC.nil)) (by rfl) ?_
  refine stA h 0 rfl rfl rfl rfl fun w h => ?_
  refine rcA h 0 rfl rfl ?_
  dsimp only [List.set] at h
  exact Ret.mk ⟨h.ext, rfl⟩
 ·have hnn : a.rd[(pk x1 (a.rd.length : Int)).toNat]? = none := List.getElem?_eq_none (by omega)
  rw [hnn]
  rw [hrsl] at hrd
  refine If_F (Bn_eqF (by omega) (If_F (Bn_eqF (by omega) (If_F (Bn_eqF (by omega) (If_F (Bn_eqF (by omega) (If_F (faS (ld1 h 2 rfl rfl (leS (hrd.hp h) ?_)))))))))))
  refine Bn_gtF (by omega) (If_F (iaZ (by decide) (by decide) ?_))
  refine ld1 h 1 rfl rfl (cl1 h n_ref37_pick (cc9 h.ext) fun w h => ?_)
  refine bdS (PC.cons (by rfl) (PC.cons (by rfl) PC.nil)) (by rfl) ?_
  refine stA h 0 rfl rfl rfl rfl fun w h => ?_
  refine rcA h 0 rfl rfl ?_
  dsimp only [List.set] at h
  exact Ret.mk ⟨h.ext, rfl⟩
end
end Go.Proofs.YthdhnhghjecfkaaGreat
namespace Go.Proofs.YthdhnhghjecfkaaGreat
open Go Go.Eng Go.Proofs Go.RowKit
open Go.Srd (Ft VF Hd Mv mv0 Rd Ab Cmd got ltF sam srt plh ofS gotL delN cntL insR rdd fP st0 script0)
set_option maxRecDepth 100000
theorem c_lput {w0 : World} {p : Int} (hp : 0 ≤ p ∧ p ≤ 1000) : Calls Tryz.prog 15 #[.int .i64 p] w0 (Ret fun r w' => Ext w0 w' ∧ r = vCmd (.put (fP p))) := by
 apply e_law37_put
 unfold s_law37_put
 have h := Hp.init [] w0
 refine alS h fun g1 w h => ?_
 refine Bn_qu (by omega) (by omega) (by omega) (bdS (PC.cons (by rfl) (PC.cons (by rfl) (PC.cons (by rfl) PC.nil))) (by rfl) ?_)
 refine bdS (PC.cons (by rfl) (PC.cons (by rfl) PC.nil)) (by rfl) ?_
 refine stA h 0 rfl rfl rfl rfl fun w h => ?_
 refine rcA h 0 rfl rfl ?_
 dsimp only [List.set] at h
 exact Ret.mk ⟨h.ext, rfl⟩
theorem c_SameFacts {w0 : World} {u v : Value} {l : List Ft} (hu : SlC w0 10 u l.length (l.flatMap fF)) (hv : SlC w0 10 v l.length (l.flatMap fF)) (hl : l.length ≤ 1000000) : Calls Tryz.prog 18 #[u, v] w0 (Ret fun r w' => Ext w0 w' ∧ r = .bool true) := by
 apply e_ref37_SameFacts
 unfold s_ref37_SameFacts
 have h := Hp.init [] w0
 refine leS (hu.hp h) ?_
 refine leS (hv.hp h) ?_
 refine Bn_neF (by omega) (If_F (Lp1.mk (fun i W => ∃ j : Nat, j ≤ l.length ∧ i = .int .i64 j ∧ Hp [] w0 W []) (fun i _ => match i with | .int _ i' => l.length - i'.toNat | _ => 0) ⟨0, by omega, rfl, h⟩ ?_))
 clear h
 rintro _ W ⟨j, hj, rfl, h⟩
 by_cases hjl : j < l.length
 ·refine Exists.elim (p := fun y => l[j]? = some y) ⟨_, List.getElem?_eq_getElem hjl⟩ fun y hy => ?_
  have sy : Seg (l.flatMap fF) (j * 10) (fF y) := flat_seg (f := fF) (fun _ => rfl) hy
  refine leS (hu.hp h) ?_
  refine Bn_ltT (by omega) (If_T ?_)
  replace h := h.dr
  refine diH h ‹_› (by omega) fun zb zo zk zv zc => ?_
  refine dhA h ‹_› ‹_› (by rfl) ?_
  refine diH h ‹_› (by omega) fun zb zo zk zv zc => ?_
  refine dhA h ‹_› ‹_› (by rfl) ?_
  refine dneFtS ?_
  refine If_F (Bn_ad (by omega) (by omega) ?_)
  exact ⟨⟨j + 1, by omega, rfl, h⟩, by show l.length - ((j : Int) + 1).toNat < l.length - (j : Int).toNat; omega⟩
 have : j = l.length := by omega
 subst this
 refine leS (hu.hp h) ?_
 refine Bn_ltF (by omega) (If_F ?_)
 exact Ret.mk ⟨h.ext, rfl⟩
theorem Jn3.lfD {A : (Value → Value → Value → World → Prop) → Prop} {B : Value → Value → Value → World → Prop} (c0 : Value) (Q : Nat → Sx → Value → World → Prop) (hA : ∀ K : Value → Value → Value → World → Prop, (∀ g x f w, Q g x f w → K (pr g 0) f c0 w) → A K) (hB : ∀ g x f w, Q g x f w → B (pr g 0) f c0 w) : Jn3 A B :=
 Jn3.mk fun K hK => hA K fun g x f w q => hK _ _ _ w (hB g x f w q)
theorem Jn3.lfE {A : (Value → Value → Value → World → Prop) → Prop} {B : Value → Value → Value → World → Prop} (b0 c0 : Value) (Q : Nat → World → Prop) (hA : ∀ K : Value → Value → Value → World → Prop, (∀ g w, Q g w → K (pr g 0) b0 c0 w) → A K) (hB : ∀ g w, Q g w → B (pr g 0) b0 c0 w) : Jn3 A B :=
 Jn3.mk fun K hK => hA K fun g w q => hK _ _ _ w (hB g w q)
theorem ShR.all9 {w : World} {x : Sx} {a : Ab} (h : ShR w x a) : ((cS x a).all fun x => x.oneCell') = true := by
 have hone := h.one
 simp only [List.all_cons, List.all_nil, hone.1, hone.2.1, hone.2.2.1]; rfl
abbrev cCmd : Cmd → List Value
 | .put f => fX 1 f 0 0 0 0
 | .beg s t => fX 2 f0 s t 0 0
 | .cop m => fX 3 f0 0 0 m 0
 | .sw => fX 4 f0 0 0 0 0
 | .dro m => fX 5 f0 0 0 m 0
 | .cra => fX 6 f0 0 0 0 0
 | .opn r => fX 7 f0 0 0 0 r
 | .rea r => fX 8 f0 0 0 0 r
def kC : Cmd → Int
 | .put _ => 1 | .beg _ _ => 2 | .cop _ => 3 | .sw => 4 | .dro _ => 5 | .cra => 6 | .opn _ => 7 | .rea _ => 8
def fC : Cmd → Ft
 | .put f => f | _ => f0
def sC : Cmd → Int
 | .beg s _ => s | _ => 0
def tC : Cmd → Int
 | .beg _ t => t | _ => 0
def mC : Cmd → Int
 | .cop m => m | .dro m => m | _ => 0
def rC : Cmd → Int
 | .opn r => r | .rea r => r | _ => 0
theorem cCmd_x (c : Cmd) : cCmd c = fX (kC c) (fC c) (sC c) (tC c) (mC c) (rC c) := by cases c <;> rfl
theorem vCmd_x (c : Cmd) : vCmd c = vX (kC c) (fC c) (sC c) (tC c) (mC c) (rC c) := by cases c <;> rfl
theorem c_DoX {w0 : World} {x : Sx} {a : Ab} {c : Cmd} (hR : ShR w0 x a) (hO : Srd.Ok a) (hc : CmdOk c) : Calls Tryz.prog 13 #[vSh x a, vX (kC c) (fC c) (sC c) (tC c) (mC c) (rC c)] w0 (Ret (DoAns w0 (Srd.step a c))) := by
 rw [← vCmd_x]; exact c_Do hR hO hc
theorem cCmd_l (c : Cmd) : (cCmd c).length = 15 := by cases c <;> rfl
theorem script_ok {c : Cmd} (h : c ∈ script0) : CmdOk c := by
 have hv : ∀ p : Int, 0 ≤ p → p ≤ 999 → VF (fP p) := fun p h0 h1 => ⟨⟨h0, h1⟩, ⟨by show (0 : Int) ≤ 0; omega, by show (0 : Int) ≤ 9; omega⟩, ⟨by show (0 : Int) ≤ 0; omega, by show (0 : Int) ≤ 7; omega⟩, ⟨by show (0 : Int) ≤ 0; omega, by show (0 : Int) ≤ 9; omega⟩, ⟨by show (0 : Int) ≤ 0; omega, by show (0 : Int) ≤ 11; omega⟩, ⟨by show (-1 : Int) ≤ -1; omega, by show (-1 : Int) ≤ 19; omega⟩, rfl, ⟨by show (0 : Int) ≤ 0; omega, by show (0 : Int) ≤ 0; omega⟩, by show (0 : Int) ≤ 4398046511104; omega, ⟨by show (0 : Int) ≤ 0; omega, by show (0 : Int) ≤ 24000; omega⟩⟩
 simp only [script0, List.mem_cons, List.not_mem_nil, or_false] at h
 rcases h with rfl | rfl | rfl | rfl | rfl | rfl | rfl | rfl | rfl | rfl | rfl | rfl | rfl | rfl
 ·exact hv 0 (by omega) (by omega)
 ·exact hv 2 (by omega) (by omega)
 ·exact hv 8 (by omega) (by omega)
 all_goals first | trivial | (show 1 ≤ _ ∧ _ ≤ 1000000; omega)
set_option maxHeartbeats 8000000 in
theorem c_sane {w0 : World} : Calls Tryz.prog 7 #[] w0 (Ret fun r w' => Ext w0 w' ∧ r = .bool true) := by
 have cc1 := fun {W : World} (_ : Ext w0 W) => c_lput (w0 := W) (p := 0) (by omega)
 have cc2 := fun {W : World} (_ : Ext w0 W) => c_lput (w0 := W) (p := 2) (by omega)
 have cc3 := fun {W : World} (_ : Ext w0 W) => c_lput (w0 := W) (p := 8) (by omega)
 apply e_law37_sane
 unfold s_law37_sane
 have h := Hp.init [] w0
 refine Cl_i n_shard_New (c_New (k := 2) (by omega)) ?_
 rintro _ w1 ⟨x0, rfl, h'⟩
 replace h := h.cat1 h' shE_sm
 have hR : ShR w1 x0 (Srd.new 2) := (h.get (i := 0) rfl : _ ∧ _).1
 have hal := hR.all9
 refine Ex2 (alS h fun g1 w h => ?_)
 refine stA h 0 rfl rfl hal rfl fun w h => ?_
 dsimp only [List.set] at h
 refine Bn_neF (by omega) (If_F (cl1 h n_law37_put (cc1 h.ext) fun w h => ?_))
 refine cl1 h n_law37_put (cc2 h.ext) fun w h => ?_
 refine cl1 h n_law37_put (cc3 h.ext) fun w h => ?_
 refine bdS (PC.cons (by rfl) (PC.cons (by rfl) PC.nil)) (by rfl) ?_
 refine bdS (PC.cons (by rfl) (PC.cons (by rfl) PC.nil)) (by rfl) ?_
 refine bdS (PC.cons (by rfl) PC.nil) (by rfl) ?_
 refine bdS (PC.cons (by rfl) (PC.cons (by rfl) PC.nil)) (by rfl) ?_
 refine bdS (PC.cons (by rfl) (PC.cons (by rfl) PC.nil)) (by rfl) ?_
 refine bdS (PC.cons (by rfl) PC.nil) (by rfl) ?_
 refine bdS (PC.cons (by rfl) (PC.cons (by rfl) PC.nil)) (by rfl) ?_
 refine bdS (PC.cons (by rfl) (PC.cons (by rfl) PC.nil)) (by rfl) ?_
 refine bdS (PC.cons (by rfl) (PC.cons (by rfl) PC.nil)) (by rfl) ?_
 refine bdS (PC.cons (by rfl) (PC.cons (by rfl) PC.nil)) (by rfl) ?_
 refine bdS (PC.cons (by rfl) (PC.cons (by rfl) PC.nil)) (by rfl) ?_
 refine bsN (vs := [_, _, _, _, _, _, _, _, _, _, _, _, _, _]) h (.cons (by rfl) (by rfl) (.cons (by rfl) (by rfl) (.cons (by rfl) (by rfl) (.cons (by rfl) (by rfl) (.cons (by rfl) (by rfl) (.cons (by rfl) (by rfl) (.cons (by rfl) (by rfl) (.cons (by rfl) (by rfl) (.cons (by rfl) (by rfl) (.cons (by rfl) (by rfl) (.cons (by rfl) (by rfl) (.cons (by rfl) (by rfl) (.cons (by rfl) (by rfl) (.cons (by rfl) (by rfl) .nil)))))))))))))) (by rfl) (by rfl) (by decide) (by decide) (by decide) fun v1 w h => ?_
 have h0 : Hp [] w0 w (bx g1 tSh (cS x0 (st0 0)) :: ro tX 15 v1 14 (script0.flatMap cCmd) :: shE x0 (st0 0) (.slice none 0 0) [] :: []) := Hp.perm h (List.Perm.swap _ _ _)
 refine Lp2.mk (fun fv i W => ∃ (j : Nat) (x : Sx) (fv1 : Value) (l1 : List Ft) (rest : List Et), j ≤ 14 ∧ i = .int .i64 j ∧ (j ≤ 12 → fv = .slice none 0 0) ∧ (12 < j → ∃ e ∈ shE x (st0 j) fv1 l1 :: rest, ∀ w, e.Q w → SlC w 10 fv 3 (([fP 0, fP 2, fP 8]).flatMap fF)) ∧
  Hp [] w0 W (bx g1 tSh (cS x (st0 j)) :: ro tX 15 v1 14 (script0.flatMap cCmd) :: shE x (st0 j) fv1 l1 :: rest))
  (fun _ i _ => match i with | .int _ i' => 14 - i'.toNat | _ => 0) ⟨0, x0, .slice none 0 0, [], [], by omega, rfl, fun _ => rfl, fun h => absurd h (by omega), h0⟩ ?_
 clear h h0 h' hR hal
 rintro fv _ W ⟨j, x, fv1, l1, rest, hj, rfl, hf1, hf2, h⟩
 have hO := Srd.st0_ok j
 by_cases hjl : j < 14
 ·refine Exists.elim (Srd.st0_at hjl) fun c hc => ?_
  have sc : Seg (script0.flatMap cCmd) (j * 15) (fX (kC c) (fC c) (sC c) (tC c) (mC c) (rC c)) := by rw [← cCmd_x]; exact flat_seg (f := cCmd) cCmd_l hc.1
  have hco : CmdOk c := script_ok (List.mem_of_getElem? hc.1)
  refine leS (qZ 1 h rfl) ?_
  refine Bn_ltT (by omega) (If_T ?_)
  rcases hc.2 with ⟨l, hs, hn, hl⟩ | ⟨hs, he, hn⟩
  ·refine Jn3.lfD (.int .i64 0) (fun g6 x' t7 w => Hp [] w0 w (bx g6 tSh (cS x' (st0 (j + 1))) :: shE x' (st0 (j + 1)) t7 l :: bx g1 tSh (cS x (st0 j)) :: ro tX 15 v1 14 (script0.flatMap cCmd) :: shE x (st0 j) fv1 l1 :: rest)) (fun K hK => ?_) (fun g6 x' t7 w h => ?_)
   ·replace h := h.dr
    refine dlA h 0 rfl rfl ?_
    refine diR h 1 rfl (by omega) fun zg zk zv => ?_
    refine drA h 1 rfl ‹_› sc (by rfl) ?_
    refine ⟨?_, ?_⟩
    ·have hR := (h.get (i := 2) rfl : _ ∧ _).1
     refine Cl_i n_shard_Do (c_DoX hR hO hco) ?_
     rintro q w1 hq
     rw [hs] at hq
     obtain ⟨x', fv', rfl, h'⟩ := hq
     replace h := h.cat1 h' shE_sm
     have hal := (h.get (i := 0) rfl : _ ∧ _).1.all9
     refine ExP3x (alS h fun g2 w h => ?_)
     refine klA h 2 rfl rfl ?_
     refine krA h 3 rfl ‹_› sc (by rfl) ?_
     refine stA h 0 rfl rfl hal rfl fun w h => ?_
     dsimp only [List.set] at h
     exact hK _ x' _ _ h
    ·refine alS h fun g2 w h => ?_
     refine klA h 1 rfl rfl ?_
     refine krA h 2 rfl ‹_› sc (by rfl) ?_
     have hR := (h.get (i := 3) rfl : _ ∧ _).1
     refine Cl_i n_shard_Do (c_DoX hR hO hco) ?_
     rintro q w1 hq
     rw [hs] at hq
     obtain ⟨x', fv', rfl, h'⟩ := hq
     replace h := h.cat1 h' shE_sm
     have hal := (h.get (i := 0) rfl : _ ∧ _).1.all9
     refine ExP3x (stA h 1 rfl rfl hal rfl fun w h => ?_)
     dsimp only [List.set] at h
     exact hK _ x' _ _ (Hp.perm h (List.Perm.swap _ _ _))
   ·have hR' := (h.get (i := 1) rfl : _ ∧ _)
    have hal := hR'.1.all9
    have hsl := hR'.2
    have n5 := hn.1
    have n9 := hn.2
    refine Bn_eqT (by omega) (Bn_eqF (by omega) (Gd_F (Gd_F (Bn_eqF (by omega) (Pick_F (Bn_eqBF Tryz.underlying4 rfl ?_))))))
    refine If_F (Jn0.mk fun K3 hK3 => ?_)
    refine Bn_eqT (by omega) (If_T (ldA h 0 rfl rfl ?_))
    refine stA h 2 rfl rfl hal rfl fun w h => ?_
    dsimp only [List.set] at h
    refine hK3 _ ?_
    have hp := Hp.perm (h.drop 1) (List.perm_middle (l₁ := [_, _])).symm
    by_cases h12 : j = 12
    ·refine Bn_eqT (by omega) (If_T (Bn_ad (by omega) (by omega) ?_))
     refine ⟨⟨j + 1, x', t7, l, shE x (st0 j) fv1 l1 :: rest, by omega, rfl, fun h => absurd h (by omega), fun _ => ⟨_, List.mem_cons_self, fun w hq => ?_⟩, hp⟩, by show 14 - ((j : Int) + 1).toNat < 14 - (j : Int).toNat; omega⟩
     have := hq.2
     rw [hl, if_pos h12] at this
     exact this
    ·have hsl0 := (h.get (i := 1) rfl : _ ∧ _).2
     rw [hl, if_neg h12] at hsl0
     refine Bn_eqF (by omega) (If_F (leS hsl0 ?_))
     refine Bn_gtF (by show (((([] : List Ft).length : Nat) : Int)) ≤ 0; decide) ?_
     refine If_F (Bn_ad (by omega) (by omega) ?_)
     refine ⟨⟨j + 1, x', t7, l, shE x (st0 j) fv1 l1 :: rest, by omega, rfl, fun h => hf1 (by omega), fun h => ?_, hp⟩, by show 14 - ((j : Int) + 1).toNat < 14 - (j : Int).toNat; omega⟩
     obtain ⟨e, he, hq⟩ := hf2 (by omega)
     exact ⟨e, List.mem_cons_of_mem _ he, hq⟩
  ·refine Jn3.lfE (.slice none 0 0) (.int .i64 370) (fun g6 w => Hp [] w0 w (bx g6 tSh [.slice none 0 0, .slice none 0 0, .int .i64 0, .int .i64 0, .int .i64 0, .int .i64 0, .int .i64 0, .int .i64 0, .slice none 0 0] :: bx g1 tSh (cS x (st0 j)) :: ro tX 15 v1 14 (script0.flatMap cCmd) :: shE x (st0 j) fv1 l1 :: rest)) (fun K hK => ?_) (fun g6 w h => ?_)
   ·replace h := h.dr
    refine dlA h 0 rfl rfl ?_
    refine diR h 1 rfl (by omega) fun zg zk zv => ?_
    refine drA h 1 rfl ‹_› sc (by rfl) ?_
    refine ⟨?_, ?_⟩
    ·have hR := (h.get (i := 2) rfl : _ ∧ _).1
     refine Cl_i n_shard_Do (c_DoX hR hO hco) ?_
     rintro q w1 hq
     rw [hs] at hq
     obtain ⟨e, rfl⟩ := hq
     replace h := h.x e
     refine ExP3x (alS h fun g2 w h => ?_)
     refine klA h 1 rfl rfl ?_
     refine krA h 2 rfl ‹_› sc (by rfl) ?_
     refine stA h 0 rfl rfl rfl rfl fun w h => ?_
     dsimp only [List.set] at h
     exact hK _ _ h
    ·refine alS h fun g2 w h => ?_
     refine klA h 1 rfl rfl ?_
     refine krA h 2 rfl ‹_› sc (by rfl) ?_
     have hR := (h.get (i := 3) rfl : _ ∧ _).1
     refine Cl_i n_shard_Do (c_DoX hR hO hco) ?_
     rintro q w1 hq
     rw [hs] at hq
     obtain ⟨e, rfl⟩ := hq
     replace h := h.x e
     refine ExP3x (stA h 0 rfl rfl rfl rfl fun w h => ?_)
     dsimp only [List.set] at h
     exact hK _ _ h
   ·have hn0 : fv = .slice none 0 0 := hf1 (by omega)
    rcases hn with hn | hn
    ·skip
     refine Bn_eqF (by omega) (Bn_eqT (by omega) (Gd_TF (Gd_TF (Pick_T (Bn_eqBF Tryz.underlying4 rfl ?_)))))
     refine If_F (Jn0.mk fun K3 hK3 => ?_)
     refine Bn_eqF (by omega) (If_F (hK3 _ ?_))
     refine Bn_eqF (by omega) (If_F (leS (n := 0) (c := 10) (xs := []) ⟨rfl, .inl ⟨rfl, rfl⟩⟩ ?_))
     refine Bn_gtF (by omega) (If_F (Bn_ad (by omega) (by omega) ?_))
     refine ⟨⟨j + 1, x, fv1, l1, rest, by omega, rfl, fun h => hf1 (by omega), fun h => absurd h (by omega), ?_⟩, by show 14 - ((j : Int) + 1).toNat < 14 - (j : Int).toNat; omega⟩
     rw [he]
     exact h.drop 1
    ·skip
     refine Bn_eqF (by omega) (Bn_eqF (by omega) (Gd_F (Gd_F (Bn_eqT (by omega) (Pick_F (Bn_eqBF Tryz.underlying4 rfl ?_))))))
     refine If_F (Jn0.mk fun K3 hK3 => ?_)
     refine Bn_eqF (by omega) (If_F (hK3 _ ?_))
     refine Bn_eqF (by omega) (If_F (leS (n := 0) (c := 10) (xs := []) ⟨rfl, .inl ⟨rfl, rfl⟩⟩ ?_))
     refine Bn_gtF (by omega) (If_F (Bn_ad (by omega) (by omega) ?_))
     refine ⟨⟨j + 1, x, fv1, l1, rest, by omega, rfl, fun h => hf1 (by omega), fun h => absurd h (by omega), ?_⟩, by show 14 - ((j : Int) + 1).toNat < 14 - (j : Int).toNat; omega⟩
     rw [he]
     exact h.drop 1
 have : j = 14 := by omega
 subst this
 have hF := Srd.st0_end
 have hR : ShR W x (st0 14) := (h.get (i := 2) rfl : _ ∧ _).1
 refine leS (qZ 1 h rfl) ?_
 refine Bn_ltF (by omega) (If_F (ldA h 0 rfl rfl ?_))
 refine Cl_i n_shard_Facts (c_Facts hR hO) ?_
 rintro _ w1 ⟨u, rfl, h'⟩
 replace h := h.cat1 h' ro_sm
 refine Ex2 (cl1 h n_shard_New c_NewF fun w h => ?_)
 refine Ex2 (alS h fun g2 w h => ?_)
 refine stA h 0 rfl rfl rfl rfl fun w h => ?_
 dsimp only [List.set] at h
 refine Exists.elim (hf2 (by omega)) fun e he => ?_
 have hfv : SlC w 10 fv 3 (([fP 0, fP 2, fP 8]).flatMap fF) := he.2 w (h.ok e (by
  rcases List.mem_cons.1 he.1 with h1 | h1
  ·simp [h1]
  ·simp [h1])).get
 have hu := h.sl (i := 1) rfl
 rw [hF.1.2] at hu
 have hR : ShR w x (st0 14) := (h.get (i := 4) rfl : _ ∧ _).1
 have hb := (h.get (i := 2) rfl : Blk _ _ _ _)
 have hx := h.ext
 clear h h' he
 have h := Hp.init [] w
 have cc4 := fun {W : World} (e : Ext w W) => c_SameFacts (l := [fP 0, fP 2, fP 8]) (hfv.ext e) (hu.ext e) (by decide)
 have hrl := hO.ro.len
 have hsv := hR.st
 rw [hF.1.1] at hsv
 have hrv := hR.ro
 rw [hrl] at hrv
 have s0 : Seg (([fP 0, fP 2, fP 8]).flatMap fF) ((0 : Int).toNat * 10) (fF (fP 0)) := flat_seg (f := fF) (j := 0) (fun _ => rfl) rfl
 have s2 : Seg (([fP 0, fP 2, fP 8]).flatMap fF) ((1 : Int).toNat * 10) (fF (fP 2)) := flat_seg (f := fF) (j := 1) (fun _ => rfl) rfl
 have s8 : Seg (([fP 0, fP 2, fP 8]).flatMap fF) ((2 : Int).toNat * 10) (fF (fP 8)) := flat_seg (f := fF) (j := 2) (fun _ => rfl) rfl
 have sr0 : Seg ((st0 14).ro.flatMap fI) ((0 : Int).toNat * 1) (fI 1) := flat_seg (f := fI) (j := 0) (fun _ => rfl) hF.2.1
 refine Exists.elim (hR.at (i := 0) (by rw [hF.1.1]; omega)) fun v0 hv0 => ?_
 have sv0 : Seg (x.ls.flatMap fV) ((0 : Int).toNat * 1) (fV v0) := flat_seg (f := fV) (j := 0) (fun _ => rfl) hv0.1
 have hv0 := hv0.2
 have hst1 : (Srd.store (st0 14) ((0 : Nat) : Int)).length = 1 := hF.2.2.1
 rw [hst1] at hv0
 have hph := hF.2.2.2
 have cc5 := fun {W : World} (e : Ext w W) => c_Valid (hR.ext e) hO
 have cc6 := fun {W : World} (_ : Ext w W) => c_ValidF (w0 := W)
 have cc7 := fun {W : World} (e : Ext w W) => c_Same (hR.ext e) (hR.ext e) hO
 have cc8 := fun {W : World} (_ : Ext w W) => c_Slot (w := W) (n := 19) (by omega)
 have cc9 := fun {W : World} (_ : Ext w W) => c_SlotN (w := W) (n := -1) (by omega)
 have t0 : (fP 0).tr = 0 := rfl
 have t2 : (fP 2).tr = 2 := rfl
 have t8 : (fP 8).tr = 8 := rfl
 refine leS (hfv.hp h) ?_
 refine Bn_neF (by omega) (Gd_F (Gd_F (Bn_neF (by omega) (Pick_F (Gd_F (Gd_F (Bn_neF (by omega) (Pick_F (Gd_F (Gd_F (Gd_F (cl1 h n_ref37_SameFacts (cc4 h.ext) fun w h => ?_))))))))))))
 refine Gd_F (Un_T (Pick_F (Gd_F (faS (Gd_F (lg1 h ‹_› (by rfl) ?_))))))
 refine Gd_F (leS (hsv.hp h) ?_)
 refine Gd_F (Bn_neF (by omega) (Pick_F (Gd_F (faS (Gd_F (lg1 h ‹_› (by rfl) ?_))))))
 refine Gd_F (leS (hrv.hp h) ?_)
 refine Gd_F (Bn_neF (by omega) (Pick_F (If_F (iaHz h ‹_› (by omega) (by omega) fun zb zo zk zv zc => ?_))))
 refine faS (lh1 h ‹_› ‹_› (by rfl) ?_)
 refine Bn_eqT (by omega) (Gd_T (Gd_T (iaHz h ‹_› (by omega) (by omega) fun zb zo zk zv zc => ?_)))
 refine Gd_T (faS (Gd_T (lh1 h ‹_› ‹_› (by rfl) ?_)))
 refine Gd_T (Bn_eqT (by omega) (Pick_T (Gd_T (Gd_T (iaHz h ‹_› (by omega) (by omega) fun zb zo zk zv zc => ?_)))))
 refine Gd_T (faS (Gd_T (lh1 h ‹_› ‹_› (by rfl) ?_)))
 refine Gd_T (Bn_eqT (by omega) (Pick_T (Gd_T (faS (Gd_T (lg1 h ‹_› (by rfl) ?_))))))
 refine Gd_T (iaHz h ‹_› (by omega) (by omega) fun zb zo zk zv zc => ?_)
 refine Gd_T (lh0 h ‹_› ‹_› (by rfl) ?_)
 refine Gd_T (Bn_eqT (by omega) (Pick_T (Gd_T (faS (Gd_T (lg1 h ‹_› (by rfl) ?_))))))
 refine Gd_T (iaHz h ‹_› (by omega) (by omega) fun zb zo zk zv zc => ?_)
 refine Gd_T (lh0 h ‹_› ‹_› (by rfl) ?_)
 refine Gd_T (leS (hv0.hp h) ?_)
 refine Gd_T (Bn_eqT (by omega) (Pick_T (Gd_T (faS (Gd_T (faS (Gd_T (lg1 h ‹_› (by rfl) ?_))))))))
 refine Gd_T (Bn_eqT (by omega) (Pick_T (Gd_T (lgA h ‹_› (by rfl) ?_))))
 refine Gd_T (cl1 h n_shard_Valid (cc5 h.ext) fun w h => ?_)
 refine Pick_T (Gd_T (bdS PC.nil (by rfl) ?_))
 refine Gd_T (cl1 h n_shard_Valid (cc6 h.ext) fun w h => ?_)
 refine Gd_T (Un_F (Pick_T (Gd_T (lgA h ‹_› (by rfl) ?_))))
 refine Gd_T (lgA h ‹_› (by rfl) ?_)
 refine Gd_T (cl1 h n_shard_Same (cc7 h.ext) fun w h => ?_)
 refine Pick_T (Gd_T (cl1 h n_shard_Slot (cc8 h.ext) fun w h => ?_))
 refine Gd_T (Bn_eqT (by omega) (Pick_T (Gd_T (cl1 h n_shard_Slot (cc9 h.ext) fun w h => ?_))))
 refine Gd_T (Bn_eqT (by omega) (Pick_T ?_))
 exact Ret.mk ⟨hx.tr h.ext, rfl⟩
end Go.Proofs.YthdhnhghjecfkaaGreat
