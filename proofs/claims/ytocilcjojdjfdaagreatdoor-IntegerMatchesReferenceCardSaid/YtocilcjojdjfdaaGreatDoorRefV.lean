/-
  Contracts of functions of the program, and plain lemmas on numbers and strings. By an AI agent.
-/
import Derived.Test.YtocilcjojdjfdaaGreatDoorRefU
import Derived.Test.YtocilcjojdjfdaaGreatDoorLawI
set_option linter.unusedSimpArgs false
set_option linter.unusedVariables false
namespace Go.Proofs.YtocilcjojdjfdaaGreatDoor
open Go Go.Eng Go.Proofs Go.Num Go.RowKit
set_option maxRecDepth 100000
set_option linter.unusedVariables false
theorem Bs_own0 {P : Program} {t e : TypeId} {z : Value} {nb : Nat} {w : World} {K : Value → World → Prop} {base : Nat} (hs : Sli P t e z nb) (hb : base ≤ w.heap.size)
    (hk : ∀ v W, Owns W base e v [] → w.grownBy W none → K v W) : Bs P t 0 [] w K := by
  obtain ⟨i, hi, hz, h1, h2⟩ := hs.info
  rw [Bs_x]
  have hr : (Instr.buildSlice t 0 ([] : List (Nat × Value)).toArray).run P w = .ok (.slice (some ⟨w.heap.size, 0, none⟩) 0 0) (w.alloc (.cells #[] e)) := by
    simp [Instr.buildSlice, run_underlying hs.und, sizeOf, typeInfo, hi, newRow, Instr.fill]
    congr 2
    apply Array.ext
    · simp
    · intro i h1 h2; simp at h2
  rw [hr]
  refine hk _ _ ?_ (World.grownBy_alloc w _ none)
  exact World.ownsRow_lit w #[] 0 hb (by decide) rfl
theorem c_rtrimmed {w : World} {v : Value} {xs : List Int} (h : NumL w v xs) (hl : xs.length ≤ 100000) :
    Calls Tryz.prog 56 #[v] w (Ret fun r w' => Ext w w' ∧ NumL w' r (trimL xs)) := by
  apply e_ref03_trimmed
  unfold s_ref03_trimmed
  refine Bs_own0 sliI (Nat.le_refl w.heap.size) ?_
  intro v3 W3 o3 g3
  have e3 := World.grownBy.ext g3
  refine ap_own sliI (by decide) o3 (SlAt.ext h e3) (fun y hy => by obtain ⟨y, _, rfl⟩ := List.mem_map.1 hy; rfl) (by simp; omega) e3.size ?_
  intro v4 W4 o4 g4
  have e4 : Ext w W4 := e3.trans (World.grownBy.below g4 e3.size fun k hk => (o3.lt k hk).1)
  have o5 : NumL W4 v4 xs := by simpa using o4.slAt
  refine Cl_i n_ref03_trim (c_rtrim o5 (by omega)) ?_
  rintro r W5 ⟨hr, rfl, _⟩
  exact Ret.mk ⟨e4, hr⟩
theorem num10_shift (k : Nat) (xs : List Int) : num10 (List.replicate k 0 ++ xs) = 10 ^ k * num10 xs := by
  rw [num10_append, num10_zeros]; simp
theorem c_rRoot {x s : Int} {w : World} (hx : x.natAbs < MaxI) (hx0 : 0 ≤ x) (hs0 : 0 ≤ s) (hs1 : s * s ≤ x) (hs2 : x < (s + 1) * (s + 1)) : Calls Tryz.prog 30 #[str (Lib.itoa x)] w (Ret fun r w' => Ext w w' ∧ r = .tuple #[str (Lib.itoa s), .int .i64 0]) := by
  have vx := vOK hx
  have hM := MaxI_Mx
  have hp := MaxI_pos
  have hL := hL44
  have hp10 : ∀ i : Nat, (0 : Int) < 10 ^ i := fun i => Int.pow_pos (by decide)
  obtain ⟨b, hat, hb45⟩ : ∃ b : UInt8, (Lib.itoa x)[0]? = some b ∧ b.toNat ≠ 45 := by
    have hi : Lib.itoa x = Lib.decDigits x.natAbs := by unfold Lib.itoa; rw [if_neg (by omega), show x.toNat = x.natAbs from by omega]
    rw [hi]
    obtain ⟨b, l, hbl⟩ := List.exists_cons_of_ne_nil (dec_ne x.natAbs)
    refine ⟨b, by rw [hbl]; rfl, fun hc => ?_⟩
    have := dec_head45 x.natAbs
    rw [hbl] at this
    exact this (by rw [byte_ext (show b.toNat = (45 : UInt8).toNat from hc)]; rfl)
  have hil := itoa_ok hx
  apply e_ref03_Root
  unfold s_ref03_Root
  refine Cl1 n_ref03_Valid (vx w) fun w1 h1 => ?_
  (repeat (first | (with_reducible refine Gd_T ?_) | (with_reducible refine Gd_F ?_) | (with_reducible refine Gd_TF ?_) | (with_reducible refine Gd_FT ?_) | (with_reducible refine Gd_U ?_) | (with_reducible refine Pick_T ?_) | (with_reducible refine Pick_F ?_) | (with_reducible refine If_T ?_) | (with_reducible refine If_F ?_) | (with_reducible refine Un_T ?_) | (with_reducible refine Un_F ?_) | (with_reducible refine Bn_eqST ?_) | (with_reducible refine Bn_neST ?_) | ((with_reducible refine Bn_eqSF ?_ ?_); focus assumption) | ((with_reducible refine Bn_eqS1 ?_ ?_); focus assumption) | ((with_reducible refine Bn_neSF ?_ ?_); focus assumption) | ((with_reducible refine Bn_eqBT ?_ ?_ ?_); (focus assumption); (focus decide)) | ((with_reducible refine Bn_eqBF ?_ ?_ ?_); (focus assumption); (focus decide)) | ((with_reducible refine Bn_neBT ?_ ?_ ?_); (focus assumption); (focus decide)) | ((with_reducible refine Bn_neBF ?_ ?_ ?_); (focus assumption); (focus decide)) | ((with_reducible refine Bn_eqT ?_ ?_); focus omega) | ((with_reducible refine Bn_eqF ?_ ?_); focus omega) | ((with_reducible refine Bn_neT ?_ ?_); focus omega) | ((with_reducible refine Bn_neF ?_ ?_); focus omega) | ((with_reducible refine Bn_ltT ?_ ?_); focus omega) | ((with_reducible refine Bn_ltF ?_ ?_); focus omega) | ((with_reducible refine Bn_gtT ?_ ?_); focus omega) | ((with_reducible refine Bn_gtF ?_ ?_); focus omega) | ((with_reducible refine Bn_leT ?_ ?_); focus omega) | ((with_reducible refine Bn_leF ?_ ?_); focus omega) | ((with_reducible refine Bn_geT ?_ ?_); focus omega) | ((with_reducible refine Bn_geF ?_ ?_); focus omega) | ((with_reducible refine Bn_ad ?_ ?_ ?_); (focus omega); (focus omega)) | ((with_reducible refine Bn_su ?_ ?_ ?_); (focus omega); (focus omega)) | ((with_reducible refine Bt_lenL ?_ ?_); (focus assumption)) | ((with_reducible refine Bt_lenS ?_ ?_); (focus assumption)) | ((with_reducible refine Bn_rm ?_ ?_ ?_); (focus omega); (focus omega)) | ((with_reducible refine Bn_qu ?_ ?_ ?_ ?_); (focus omega); (focus omega); (focus omega))))
  refine Ix_s (j := 0) rfl hat hil ?_
  (repeat (first | (with_reducible refine Gd_T ?_) | (with_reducible refine Gd_F ?_) | (with_reducible refine Gd_TF ?_) | (with_reducible refine Gd_FT ?_) | (with_reducible refine Gd_U ?_) | (with_reducible refine Pick_T ?_) | (with_reducible refine Pick_F ?_) | (with_reducible refine If_T ?_) | (with_reducible refine If_F ?_) | (with_reducible refine Un_T ?_) | (with_reducible refine Un_F ?_) | (with_reducible refine Bn_eqST ?_) | (with_reducible refine Bn_neST ?_) | ((with_reducible refine Bn_eqSF ?_ ?_); focus assumption) | ((with_reducible refine Bn_eqS1 ?_ ?_); focus assumption) | ((with_reducible refine Bn_neSF ?_ ?_); focus assumption) | ((with_reducible refine Bn_eqBT ?_ ?_ ?_); (focus assumption); (focus decide)) | ((with_reducible refine Bn_eqBF ?_ ?_ ?_); (focus assumption); (focus decide)) | ((with_reducible refine Bn_neBT ?_ ?_ ?_); (focus assumption); (focus decide)) | ((with_reducible refine Bn_neBF ?_ ?_ ?_); (focus assumption); (focus decide)) | ((with_reducible refine Bn_eqT ?_ ?_); focus omega) | ((with_reducible refine Bn_eqF ?_ ?_); focus omega) | ((with_reducible refine Bn_neT ?_ ?_); focus omega) | ((with_reducible refine Bn_neF ?_ ?_); focus omega) | ((with_reducible refine Bn_ltT ?_ ?_); focus omega) | ((with_reducible refine Bn_ltF ?_ ?_); focus omega) | ((with_reducible refine Bn_gtT ?_ ?_); focus omega) | ((with_reducible refine Bn_gtF ?_ ?_); focus omega) | ((with_reducible refine Bn_leT ?_ ?_); focus omega) | ((with_reducible refine Bn_leF ?_ ?_); focus omega) | ((with_reducible refine Bn_geT ?_ ?_); focus omega) | ((with_reducible refine Bn_geF ?_ ?_); focus omega) | ((with_reducible refine Bn_ad ?_ ?_ ?_); (focus omega); (focus omega)) | ((with_reducible refine Bn_su ?_ ?_ ?_); (focus omega); (focus omega)) | ((with_reducible refine Bt_lenL ?_ ?_); (focus assumption)) | ((with_reducible refine Bt_lenS ?_ ?_); (focus assumption)) | ((with_reducible refine Bn_rm ?_ ?_ ?_); (focus omega); (focus omega)) | ((with_reducible refine Bn_qu ?_ ?_ ?_ ?_); (focus omega); (focus omega); (focus omega))))
  refine Cl_i n_ref03_digits (c_digits hx) ?_
  rintro _ w3 ⟨h3, u, rfl, hu⟩
  have h3 := h1.tr h3
  refine Ex2 ?_
  obtain ⟨ls, l1, l2, l3, l4⟩ := hu.bd (k := 200) (bdI hx)
  have hxe : (x.natAbs : Int) = x := by omega
  rw [hxe] at l3
  have hxlt := num10_lt l2.1
  rw [l3] at hxlt
  obtain ⟨a1, cap1, rfl⟩ := l1.slice
  obtain ⟨kk, hkk⟩ : ∃ kk, kk = (ls.length + 1) / 2 := ⟨_, rfl⟩
  (repeat (first | (with_reducible refine Gd_T ?_) | (with_reducible refine Gd_F ?_) | (with_reducible refine Gd_TF ?_) | (with_reducible refine Gd_FT ?_) | (with_reducible refine Gd_U ?_) | (with_reducible refine Pick_T ?_) | (with_reducible refine Pick_F ?_) | (with_reducible refine If_T ?_) | (with_reducible refine If_F ?_) | (with_reducible refine Un_T ?_) | (with_reducible refine Un_F ?_) | (with_reducible refine Bn_eqST ?_) | (with_reducible refine Bn_neST ?_) | ((with_reducible refine Bn_eqSF ?_ ?_); focus assumption) | ((with_reducible refine Bn_eqS1 ?_ ?_); focus assumption) | ((with_reducible refine Bn_neSF ?_ ?_); focus assumption) | ((with_reducible refine Bn_eqBT ?_ ?_ ?_); (focus assumption); (focus decide)) | ((with_reducible refine Bn_eqBF ?_ ?_ ?_); (focus assumption); (focus decide)) | ((with_reducible refine Bn_neBT ?_ ?_ ?_); (focus assumption); (focus decide)) | ((with_reducible refine Bn_neBF ?_ ?_ ?_); (focus assumption); (focus decide)) | ((with_reducible refine Bn_eqT ?_ ?_); focus omega) | ((with_reducible refine Bn_eqF ?_ ?_); focus omega) | ((with_reducible refine Bn_neT ?_ ?_); focus omega) | ((with_reducible refine Bn_neF ?_ ?_); focus omega) | ((with_reducible refine Bn_ltT ?_ ?_); focus omega) | ((with_reducible refine Bn_ltF ?_ ?_); focus omega) | ((with_reducible refine Bn_gtT ?_ ?_); focus omega) | ((with_reducible refine Bn_gtF ?_ ?_); focus omega) | ((with_reducible refine Bn_leT ?_ ?_); focus omega) | ((with_reducible refine Bn_leF ?_ ?_); focus omega) | ((with_reducible refine Bn_geT ?_ ?_); focus omega) | ((with_reducible refine Bn_geF ?_ ?_); focus omega) | ((with_reducible refine Bn_ad ?_ ?_ ?_); (focus omega); (focus omega)) | ((with_reducible refine Bn_su ?_ ?_ ?_); (focus omega); (focus omega)) | ((with_reducible refine Bt_lenL ?_ ?_); (focus assumption)) | ((with_reducible refine Bt_lenS ?_ ?_); (focus assumption)) | ((with_reducible refine Bn_rm ?_ ?_ ?_); (focus omega); (focus omega)) | ((with_reducible refine Bn_qu ?_ ?_ ?_ ?_); (focus omega); (focus omega); (focus omega))))
  refine Ms_full sliI (by decide) (n := kk) (by rw [hkk]; push_cast; omega) (by omega) (Nat.le_refl w3.heap.size) ?_
  intro w4 hq g4
  have e4 := World.grownBy.ext g4
  have hb0 : Blk w4 w3.heap.size 3 ((List.replicate kk (0 : Int)).map iv) := by simpa using hq.blk (by simp)
  obtain ⟨g, hg⟩ : ∃ g, g = w3.heap.size := ⟨_, rfl⟩
  rw [← hg] at hb0 ⊢
  (repeat (first | (with_reducible refine Gd_T ?_) | (with_reducible refine Gd_F ?_) | (with_reducible refine Gd_TF ?_) | (with_reducible refine Gd_FT ?_) | (with_reducible refine Gd_U ?_) | (with_reducible refine Pick_T ?_) | (with_reducible refine Pick_F ?_) | (with_reducible refine If_T ?_) | (with_reducible refine If_F ?_) | (with_reducible refine Un_T ?_) | (with_reducible refine Un_F ?_) | (with_reducible refine Bn_eqST ?_) | (with_reducible refine Bn_neST ?_) | ((with_reducible refine Bn_eqSF ?_ ?_); focus assumption) | ((with_reducible refine Bn_eqS1 ?_ ?_); focus assumption) | ((with_reducible refine Bn_neSF ?_ ?_); focus assumption) | ((with_reducible refine Bn_eqBT ?_ ?_ ?_); (focus assumption); (focus decide)) | ((with_reducible refine Bn_eqBF ?_ ?_ ?_); (focus assumption); (focus decide)) | ((with_reducible refine Bn_neBT ?_ ?_ ?_); (focus assumption); (focus decide)) | ((with_reducible refine Bn_neBF ?_ ?_ ?_); (focus assumption); (focus decide)) | ((with_reducible refine Bn_eqT ?_ ?_); focus omega) | ((with_reducible refine Bn_eqF ?_ ?_); focus omega) | ((with_reducible refine Bn_neT ?_ ?_); focus omega) | ((with_reducible refine Bn_neF ?_ ?_); focus omega) | ((with_reducible refine Bn_ltT ?_ ?_); focus omega) | ((with_reducible refine Bn_ltF ?_ ?_); focus omega) | ((with_reducible refine Bn_gtT ?_ ?_); focus omega) | ((with_reducible refine Bn_gtF ?_ ?_); focus omega) | ((with_reducible refine Bn_leT ?_ ?_); focus omega) | ((with_reducible refine Bn_leF ?_ ?_); focus omega) | ((with_reducible refine Bn_geT ?_ ?_); focus omega) | ((with_reducible refine Bn_geF ?_ ?_); focus omega) | ((with_reducible refine Bn_ad ?_ ?_ ?_); (focus omega); (focus omega)) | ((with_reducible refine Bn_su ?_ ?_ ?_); (focus omega); (focus omega)) | ((with_reducible refine Bt_lenL ?_ ?_); (focus assumption)) | ((with_reducible refine Bt_lenS ?_ ?_); (focus assumption)) | ((with_reducible refine Bn_rm ?_ ?_ ?_); (focus omega); (focus omega)) | ((with_reducible refine Bn_qu ?_ ?_ ?_ ?_); (focus omega); (focus omega); (focus omega))))
  have hxkk : x < 10 ^ kk * 10 ^ kk := by
    rw [← Int.pow_add]
    have := pow10_mono (a := ls.length) (b := kk + kk) (by omega)
    omega
  obtain ⟨I, hI⟩ : ∃ I : Value → World → Prop, I = (fun i W => ∃ (j : Nat) (qd : List Int), j ≤ kk ∧ i = .int .i64 ((kk : Int) - 1 - j) ∧ qd.length = j ∧ Dg10 qd ∧ Blk W g 3 ((List.replicate (kk - j) (0 : Int) ++ qd).map iv) ∧ Ext w3 W ∧
      (10 ^ (kk - j) * num10 qd) * (10 ^ (kk - j) * num10 qd) ≤ x ∧ x < (10 ^ (kk - j) * num10 qd + 10 ^ (kk - j)) * (10 ^ (kk - j) * num10 qd + 10 ^ (kk - j))) := ⟨_, rfl⟩
  obtain ⟨μ, hμ⟩ : ∃ μ : Value → World → Nat, μ = (fun i _ => match i with | .int _ i' => (i' + 1).toNat | _ => 0) := ⟨_, rfl⟩
  refine Lp1.mk I μ (by rw [hI]; exact ⟨0, [], by omega, by congr 1; omega, rfl, by simp [Dg10], by simpa using hb0, e4, by simp [num10]; exact hx0, by simpa [num10] using hxkk⟩) ?_
  intro i W hh
  rw [hI] at hh
  obtain ⟨j, qd, hj, rfl, hql, hqd, hb, hW, hlo, hhi⟩ := hh
  by_cases hgo : j < kk
  · obtain ⟨k, hk⟩ : ∃ k, k = kk - 1 - j := ⟨_, rfl⟩
    have hkj : kk - j = k + 1 := by omega
    rw [hkj] at hb hlo hhi
    obtain ⟨p, hpk⟩ : ∃ p : Int, p = 10 ^ k := ⟨_, rfl⟩
    have hpp : 0 < p := by rw [hpk]; exact hp10 k
    have hpow : (10 : Int) ^ (k + 1) = 10 * p := by rw [Int.pow_succ, hpk, Int.mul_comm]
    obtain ⟨R, hR⟩ : ∃ R : Int, R = 10 ^ (k + 1) * num10 qd := ⟨_, rfl⟩
    have hR0 : 0 ≤ R := by rw [hR]; exact Int.mul_nonneg (Int.le_of_lt (hp10 _)) (num10_nonneg hqd)
    rw [← hR, hpow] at hhi
    rw [← hR] at hlo
    have hval : ∀ d : Int, num10 (List.replicate k 0 ++ d :: qd) = R + d * p := by
      intro d
      rw [num10_shift, hR, hpow, ← hpk]
      simp only [num10]; grind
    have hDg : ∀ d : Int, 0 ≤ d → d < 10 → Dg10 (List.replicate k 0 ++ d :: qd) := by
      intro d h0 h1 x hx
      rcases List.mem_append.1 hx with h | h
      · simp at h; omega
      · rcases List.mem_cons.1 h with rfl | h
        · exact ⟨h0, h1⟩
        · exact hqd x h
    have hlen : ∀ d : Int, (List.replicate k 0 ++ d :: qd).length = kk := by intro d; simp; omega
    have hget : ∀ d : Int, (List.replicate k (0 : Int) ++ d :: qd)[k]'(by rw [hlen]; omega) = d := by
      intro d; rw [List.getElem_append_right (by simp)]; simp
    have hset : ∀ d e : Int, (List.replicate k (0 : Int) ++ d :: qd).set k e = List.replicate k 0 ++ e :: qd := by
      intro d e; rw [List.set_append_right _ _ (by simp)]; simp
    have hb1 : Blk W g 3 ((List.replicate k (0 : Int) ++ 0 :: qd).map iv) := by
      rw [List.replicate_succ'] at hb; simpa using hb
    have hbb := blk_set hb1 k 9
    rw [hset] at hbb
    have hgle : w3.heap.size ≤ g := by omega
    (repeat (first | (with_reducible refine Gd_T ?_) | (with_reducible refine Gd_F ?_) | (with_reducible refine Gd_TF ?_) | (with_reducible refine Gd_FT ?_) | (with_reducible refine Gd_U ?_) | (with_reducible refine Pick_T ?_) | (with_reducible refine Pick_F ?_) | (with_reducible refine If_T ?_) | (with_reducible refine If_F ?_) | (with_reducible refine Un_T ?_) | (with_reducible refine Un_F ?_) | (with_reducible refine Bn_eqST ?_) | (with_reducible refine Bn_neST ?_) | ((with_reducible refine Bn_eqSF ?_ ?_); focus assumption) | ((with_reducible refine Bn_eqS1 ?_ ?_); focus assumption) | ((with_reducible refine Bn_neSF ?_ ?_); focus assumption) | ((with_reducible refine Bn_eqBT ?_ ?_ ?_); (focus assumption); (focus decide)) | ((with_reducible refine Bn_eqBF ?_ ?_ ?_); (focus assumption); (focus decide)) | ((with_reducible refine Bn_neBT ?_ ?_ ?_); (focus assumption); (focus decide)) | ((with_reducible refine Bn_neBF ?_ ?_ ?_); (focus assumption); (focus decide)) | ((with_reducible refine Bn_eqT ?_ ?_); focus omega) | ((with_reducible refine Bn_eqF ?_ ?_); focus omega) | ((with_reducible refine Bn_neT ?_ ?_); focus omega) | ((with_reducible refine Bn_neF ?_ ?_); focus omega) | ((with_reducible refine Bn_ltT ?_ ?_); focus omega) | ((with_reducible refine Bn_ltF ?_ ?_); focus omega) | ((with_reducible refine Bn_gtT ?_ ?_); focus omega) | ((with_reducible refine Bn_gtF ?_ ?_); focus omega) | ((with_reducible refine Bn_leT ?_ ?_); focus omega) | ((with_reducible refine Bn_leF ?_ ?_); focus omega) | ((with_reducible refine Bn_geT ?_ ?_); focus omega) | ((with_reducible refine Bn_geF ?_ ?_); focus omega) | ((with_reducible refine Bn_ad ?_ ?_ ?_); (focus omega); (focus omega)) | ((with_reducible refine Bn_su ?_ ?_ ?_); (focus omega); (focus omega)) | ((with_reducible refine Bt_lenL ?_ ?_); (focus assumption)) | ((with_reducible refine Bt_lenS ?_ ?_); (focus assumption)) | ((with_reducible refine Bn_rm ?_ ?_ ?_); (focus omega); (focus omega)) | ((with_reducible refine Bn_qu ?_ ?_ ?_ ?_); (focus omega); (focus omega); (focus omega))))
    refine st44 hb1 (by rw [hlen]) (j := k) (by omega) (by rw [hlen]; omega) ?_
    obtain ⟨J, hJ⟩ : ∃ J : World → Prop, J = (fun V => ∃ d : Int, 0 ≤ d ∧ d ≤ 9 ∧ x < (R + (d + 1) * p) * (R + (d + 1) * p) ∧ Ext w3 V ∧ Blk V g 3 ((List.replicate k (0 : Int) ++ d :: qd).map iv)) := ⟨_, rfl⟩
    obtain ⟨ν, hν⟩ : ∃ ν : World → Nat, ν = (fun V => match V.cell? ⟨g, k, none⟩ with | some (.int _ d) => d.toNat | _ => 0) := ⟨_, rfl⟩
    have hνd : ∀ (V : World) (d : Int), Blk V g 3 ((List.replicate k (0 : Int) ++ d :: qd).map iv) → ν V = d.toNat := by
      intro V d h
      have hc := h.cell (i := k) (v := iv d) (by rw [List.getElem?_map, List.getElem?_eq_getElem (by rw [hlen]; omega), hget]; rfl)
      rw [hν]; simp only [hc]
    refine Lp0.mk J ν (by rw [hJ]; exact ⟨9, by decide, by decide, by rw [show (9 + 1 : Int) * p = 10 * p from by omega]; exact hhi, Ext.stB hW hgle _, hbb⟩) ?_
    intro V hh
    rw [hJ] at hh
    obtain ⟨d, d0, d9, hup, hV, hbV⟩ := hh
    have done : ∀ V', Ext V V' → (R + d * p) * (R + d * p) ≤ x → I (.int .i64 ((kk : Int) - 1 - j - 1)) V' ∧ μ (.int .i64 ((kk : Int) - 1 - j - 1)) V' < μ (.int .i64 ((kk : Int) - 1 - j)) W := by
      intro V' hVV hle
      rw [hI, hμ]
      have e2 : (10 : Int) ^ k * num10 (d :: qd) = R + d * p := by rw [← num10_shift, hval]
      refine ⟨⟨j + 1, d :: qd, by omega, by congr 1; omega, by simp [hql], ?_, ?_, hV.tr hVV, ?_, ?_⟩, by simp only []; omega⟩
      · intro x hx
        rcases List.mem_cons.1 hx with rfl | h
        · omega
        · exact hqd x h
      · rw [show kk - (j + 1) = k from by omega]; exact hbV.ext hVV
      · rw [show kk - (j + 1) = k from by omega, e2]; exact hle
      · rw [show kk - (j + 1) = k from by omega, e2, ← hpk]
        have e3 : R + d * p + p = R + (d + 1) * p := by grind
        rw [e3]; exact hup
    refine ldB hbV (by rw [hlen]) (j := k) (by omega) (by rw [hlen]; omega) ?_
    rw [hget]
    by_cases hd0 : d = 0
    · (repeat (first | (with_reducible refine Gd_T ?_) | (with_reducible refine Gd_F ?_) | (with_reducible refine Gd_TF ?_) | (with_reducible refine Gd_FT ?_) | (with_reducible refine Gd_U ?_) | (with_reducible refine Pick_T ?_) | (with_reducible refine Pick_F ?_) | (with_reducible refine If_T ?_) | (with_reducible refine If_F ?_) | (with_reducible refine Un_T ?_) | (with_reducible refine Un_F ?_) | (with_reducible refine Bn_eqST ?_) | (with_reducible refine Bn_neST ?_) | ((with_reducible refine Bn_eqSF ?_ ?_); focus assumption) | ((with_reducible refine Bn_eqS1 ?_ ?_); focus assumption) | ((with_reducible refine Bn_neSF ?_ ?_); focus assumption) | ((with_reducible refine Bn_eqBT ?_ ?_ ?_); (focus assumption); (focus decide)) | ((with_reducible refine Bn_eqBF ?_ ?_ ?_); (focus assumption); (focus decide)) | ((with_reducible refine Bn_neBT ?_ ?_ ?_); (focus assumption); (focus decide)) | ((with_reducible refine Bn_neBF ?_ ?_ ?_); (focus assumption); (focus decide)) | ((with_reducible refine Bn_eqT ?_ ?_); focus omega) | ((with_reducible refine Bn_eqF ?_ ?_); focus omega) | ((with_reducible refine Bn_neT ?_ ?_); focus omega) | ((with_reducible refine Bn_neF ?_ ?_); focus omega) | ((with_reducible refine Bn_ltT ?_ ?_); focus omega) | ((with_reducible refine Bn_ltF ?_ ?_); focus omega) | ((with_reducible refine Bn_gtT ?_ ?_); focus omega) | ((with_reducible refine Bn_gtF ?_ ?_); focus omega) | ((with_reducible refine Bn_leT ?_ ?_); focus omega) | ((with_reducible refine Bn_leF ?_ ?_); focus omega) | ((with_reducible refine Bn_geT ?_ ?_); focus omega) | ((with_reducible refine Bn_geF ?_ ?_); focus omega) | ((with_reducible refine Bn_ad ?_ ?_ ?_); (focus omega); (focus omega)) | ((with_reducible refine Bn_su ?_ ?_ ?_); (focus omega); (focus omega)) | ((with_reducible refine Bt_lenL ?_ ?_); (focus assumption)) | ((with_reducible refine Bt_lenS ?_ ?_); (focus assumption)) | ((with_reducible refine Bn_rm ?_ ?_ ?_); (focus omega); (focus omega)) | ((with_reducible refine Bn_qu ?_ ?_ ?_ ?_); (focus omega); (focus omega); (focus omega))))
      exact done V (.refl _) (by rw [hd0]; simpa using hlo)
    · have hsl := hbV.slAt (n := kk) (by rw [List.length_map, hlen])
      have hDd := hDg d d0 (by omega)
      have hNd := Nrm10.trimL hDd
      have htl := trimL_len (List.replicate k 0 ++ d :: qd)
      rw [hlen] at htl
      (repeat (first | (with_reducible refine Gd_T ?_) | (with_reducible refine Gd_F ?_) | (with_reducible refine Gd_TF ?_) | (with_reducible refine Gd_FT ?_) | (with_reducible refine Gd_U ?_) | (with_reducible refine Pick_T ?_) | (with_reducible refine Pick_F ?_) | (with_reducible refine If_T ?_) | (with_reducible refine If_F ?_) | (with_reducible refine Un_T ?_) | (with_reducible refine Un_F ?_) | (with_reducible refine Bn_eqST ?_) | (with_reducible refine Bn_neST ?_) | ((with_reducible refine Bn_eqSF ?_ ?_); focus assumption) | ((with_reducible refine Bn_eqS1 ?_ ?_); focus assumption) | ((with_reducible refine Bn_neSF ?_ ?_); focus assumption) | ((with_reducible refine Bn_eqBT ?_ ?_ ?_); (focus assumption); (focus decide)) | ((with_reducible refine Bn_eqBF ?_ ?_ ?_); (focus assumption); (focus decide)) | ((with_reducible refine Bn_neBT ?_ ?_ ?_); (focus assumption); (focus decide)) | ((with_reducible refine Bn_neBF ?_ ?_ ?_); (focus assumption); (focus decide)) | ((with_reducible refine Bn_eqT ?_ ?_); focus omega) | ((with_reducible refine Bn_eqF ?_ ?_); focus omega) | ((with_reducible refine Bn_neT ?_ ?_); focus omega) | ((with_reducible refine Bn_neF ?_ ?_); focus omega) | ((with_reducible refine Bn_ltT ?_ ?_); focus omega) | ((with_reducible refine Bn_ltF ?_ ?_); focus omega) | ((with_reducible refine Bn_gtT ?_ ?_); focus omega) | ((with_reducible refine Bn_gtF ?_ ?_); focus omega) | ((with_reducible refine Bn_leT ?_ ?_); focus omega) | ((with_reducible refine Bn_leF ?_ ?_); focus omega) | ((with_reducible refine Bn_geT ?_ ?_); focus omega) | ((with_reducible refine Bn_geF ?_ ?_); focus omega) | ((with_reducible refine Bn_ad ?_ ?_ ?_); (focus omega); (focus omega)) | ((with_reducible refine Bn_su ?_ ?_ ?_); (focus omega); (focus omega)) | ((with_reducible refine Bt_lenL ?_ ?_); (focus assumption)) | ((with_reducible refine Bt_lenS ?_ ?_); (focus assumption)) | ((with_reducible refine Bn_rm ?_ ?_ ?_); (focus omega); (focus omega)) | ((with_reducible refine Bn_qu ?_ ?_ ?_ ?_); (focus omega); (focus omega); (focus omega))))
      refine Cl_i n_ref03_trimmed (c_rtrimmed hsl (by rw [hlen]; omega)) ?_
      rintro t1 V1 ⟨y1, s1⟩
      (repeat (first | (with_reducible refine Gd_T ?_) | (with_reducible refine Gd_F ?_) | (with_reducible refine Gd_TF ?_) | (with_reducible refine Gd_FT ?_) | (with_reducible refine Gd_U ?_) | (with_reducible refine Pick_T ?_) | (with_reducible refine Pick_F ?_) | (with_reducible refine If_T ?_) | (with_reducible refine If_F ?_) | (with_reducible refine Un_T ?_) | (with_reducible refine Un_F ?_) | (with_reducible refine Bn_eqST ?_) | (with_reducible refine Bn_neST ?_) | ((with_reducible refine Bn_eqSF ?_ ?_); focus assumption) | ((with_reducible refine Bn_eqS1 ?_ ?_); focus assumption) | ((with_reducible refine Bn_neSF ?_ ?_); focus assumption) | ((with_reducible refine Bn_eqBT ?_ ?_ ?_); (focus assumption); (focus decide)) | ((with_reducible refine Bn_eqBF ?_ ?_ ?_); (focus assumption); (focus decide)) | ((with_reducible refine Bn_neBT ?_ ?_ ?_); (focus assumption); (focus decide)) | ((with_reducible refine Bn_neBF ?_ ?_ ?_); (focus assumption); (focus decide)) | ((with_reducible refine Bn_eqT ?_ ?_); focus omega) | ((with_reducible refine Bn_eqF ?_ ?_); focus omega) | ((with_reducible refine Bn_neT ?_ ?_); focus omega) | ((with_reducible refine Bn_neF ?_ ?_); focus omega) | ((with_reducible refine Bn_ltT ?_ ?_); focus omega) | ((with_reducible refine Bn_ltF ?_ ?_); focus omega) | ((with_reducible refine Bn_gtT ?_ ?_); focus omega) | ((with_reducible refine Bn_gtF ?_ ?_); focus omega) | ((with_reducible refine Bn_leT ?_ ?_); focus omega) | ((with_reducible refine Bn_leF ?_ ?_); focus omega) | ((with_reducible refine Bn_geT ?_ ?_); focus omega) | ((with_reducible refine Bn_geF ?_ ?_); focus omega) | ((with_reducible refine Bn_ad ?_ ?_ ?_); (focus omega); (focus omega)) | ((with_reducible refine Bn_su ?_ ?_ ?_); (focus omega); (focus omega)) | ((with_reducible refine Bt_lenL ?_ ?_); (focus assumption)) | ((with_reducible refine Bt_lenS ?_ ?_); (focus assumption)) | ((with_reducible refine Bn_rm ?_ ?_ ?_); (focus omega); (focus omega)) | ((with_reducible refine Bn_qu ?_ ?_ ?_ ?_); (focus omega); (focus omega); (focus omega))))
      refine Cl_i n_ref03_trimmed (c_rtrimmed (SlAt.ext hsl y1) (by rw [hlen]; omega)) ?_
      rintro t2 V2 ⟨y2, s2⟩
      (repeat (first | (with_reducible refine Gd_T ?_) | (with_reducible refine Gd_F ?_) | (with_reducible refine Gd_TF ?_) | (with_reducible refine Gd_FT ?_) | (with_reducible refine Gd_U ?_) | (with_reducible refine Pick_T ?_) | (with_reducible refine Pick_F ?_) | (with_reducible refine If_T ?_) | (with_reducible refine If_F ?_) | (with_reducible refine Un_T ?_) | (with_reducible refine Un_F ?_) | (with_reducible refine Bn_eqST ?_) | (with_reducible refine Bn_neST ?_) | ((with_reducible refine Bn_eqSF ?_ ?_); focus assumption) | ((with_reducible refine Bn_eqS1 ?_ ?_); focus assumption) | ((with_reducible refine Bn_neSF ?_ ?_); focus assumption) | ((with_reducible refine Bn_eqBT ?_ ?_ ?_); (focus assumption); (focus decide)) | ((with_reducible refine Bn_eqBF ?_ ?_ ?_); (focus assumption); (focus decide)) | ((with_reducible refine Bn_neBT ?_ ?_ ?_); (focus assumption); (focus decide)) | ((with_reducible refine Bn_neBF ?_ ?_ ?_); (focus assumption); (focus decide)) | ((with_reducible refine Bn_eqT ?_ ?_); focus omega) | ((with_reducible refine Bn_eqF ?_ ?_); focus omega) | ((with_reducible refine Bn_neT ?_ ?_); focus omega) | ((with_reducible refine Bn_neF ?_ ?_); focus omega) | ((with_reducible refine Bn_ltT ?_ ?_); focus omega) | ((with_reducible refine Bn_ltF ?_ ?_); focus omega) | ((with_reducible refine Bn_gtT ?_ ?_); focus omega) | ((with_reducible refine Bn_gtF ?_ ?_); focus omega) | ((with_reducible refine Bn_leT ?_ ?_); focus omega) | ((with_reducible refine Bn_leF ?_ ?_); focus omega) | ((with_reducible refine Bn_geT ?_ ?_); focus omega) | ((with_reducible refine Bn_geF ?_ ?_); focus omega) | ((with_reducible refine Bn_ad ?_ ?_ ?_); (focus omega); (focus omega)) | ((with_reducible refine Bn_su ?_ ?_ ?_); (focus omega); (focus omega)) | ((with_reducible refine Bt_lenL ?_ ?_); (focus assumption)) | ((with_reducible refine Bt_lenS ?_ ?_); (focus assumption)) | ((with_reducible refine Bn_rm ?_ ?_ ?_); (focus omega); (focus omega)) | ((with_reducible refine Bn_qu ?_ ?_ ?_ ?_); (focus omega); (focus omega); (focus omega))))
      refine Cl_i n_ref03_times (c_rtimes (SlAt.ext s1 y2) s2 hNd hNd (by omega) (by omega)) ?_
      rintro t3 V3 ⟨y3, s3⟩
      rw [num10_trimL, hval] at s3
      have hdp : 0 ≤ d * p := Int.mul_nonneg d0 (Int.le_of_lt hpp)
      have hvlt : R + d * p < 10 ^ kk := by
        have := num10_lt hDd
        rw [hval, hlen] at this
        exact this
      have hsq : (R + d * p) * (R + d * p) < 10 ^ (kk + kk) := by
        rw [Int.pow_add]
        exact sq_lt (by omega) hvlt
      obtain ⟨zs, z1, z2, z3, z4⟩ := s3.bd hsq
      have hVV := (y1.tr y2).tr y3
      (repeat (first | (with_reducible refine Gd_T ?_) | (with_reducible refine Gd_F ?_) | (with_reducible refine Gd_TF ?_) | (with_reducible refine Gd_FT ?_) | (with_reducible refine Gd_U ?_) | (with_reducible refine Pick_T ?_) | (with_reducible refine Pick_F ?_) | (with_reducible refine If_T ?_) | (with_reducible refine If_F ?_) | (with_reducible refine Un_T ?_) | (with_reducible refine Un_F ?_) | (with_reducible refine Bn_eqST ?_) | (with_reducible refine Bn_neST ?_) | ((with_reducible refine Bn_eqSF ?_ ?_); focus assumption) | ((with_reducible refine Bn_eqS1 ?_ ?_); focus assumption) | ((with_reducible refine Bn_neSF ?_ ?_); focus assumption) | ((with_reducible refine Bn_eqBT ?_ ?_ ?_); (focus assumption); (focus decide)) | ((with_reducible refine Bn_eqBF ?_ ?_ ?_); (focus assumption); (focus decide)) | ((with_reducible refine Bn_neBT ?_ ?_ ?_); (focus assumption); (focus decide)) | ((with_reducible refine Bn_neBF ?_ ?_ ?_); (focus assumption); (focus decide)) | ((with_reducible refine Bn_eqT ?_ ?_); focus omega) | ((with_reducible refine Bn_eqF ?_ ?_); focus omega) | ((with_reducible refine Bn_neT ?_ ?_); focus omega) | ((with_reducible refine Bn_neF ?_ ?_); focus omega) | ((with_reducible refine Bn_ltT ?_ ?_); focus omega) | ((with_reducible refine Bn_ltF ?_ ?_); focus omega) | ((with_reducible refine Bn_gtT ?_ ?_); focus omega) | ((with_reducible refine Bn_gtF ?_ ?_); focus omega) | ((with_reducible refine Bn_leT ?_ ?_); focus omega) | ((with_reducible refine Bn_leF ?_ ?_); focus omega) | ((with_reducible refine Bn_geT ?_ ?_); focus omega) | ((with_reducible refine Bn_geF ?_ ?_); focus omega) | ((with_reducible refine Bn_ad ?_ ?_ ?_); (focus omega); (focus omega)) | ((with_reducible refine Bn_su ?_ ?_ ?_); (focus omega); (focus omega)) | ((with_reducible refine Bt_lenL ?_ ?_); (focus assumption)) | ((with_reducible refine Bt_lenS ?_ ?_); (focus assumption)) | ((with_reducible refine Bn_rm ?_ ?_ ?_); (focus omega); (focus omega)) | ((with_reducible refine Bn_qu ?_ ?_ ?_ ?_); (focus omega); (focus omega); (focus omega))))
      refine Cl1 n_ref03_order (c_order z1 (SlAt.ext l1 (hV.tr hVV)) z2 l2 (by omega) (by omega)) fun V4 y4 => ?_
      rw [z3, l3]
      have hVV4 := hVV.tr y4
      by_cases hgt : x < (R + d * p) * (R + d * p)
      · have hc := cmpI_gt hgt
        have hbV4 := hbV.ext hVV4
        have hbn := blk_set hbV4 k (d - 1)
        rw [hset] at hbn
        rw [hc]
        (repeat (first | (with_reducible refine Gd_T ?_) | (with_reducible refine Gd_F ?_) | (with_reducible refine Gd_TF ?_) | (with_reducible refine Gd_FT ?_) | (with_reducible refine Gd_U ?_) | (with_reducible refine Pick_T ?_) | (with_reducible refine Pick_F ?_) | (with_reducible refine If_T ?_) | (with_reducible refine If_F ?_) | (with_reducible refine Un_T ?_) | (with_reducible refine Un_F ?_) | (with_reducible refine Bn_eqST ?_) | (with_reducible refine Bn_neST ?_) | ((with_reducible refine Bn_eqSF ?_ ?_); focus assumption) | ((with_reducible refine Bn_eqS1 ?_ ?_); focus assumption) | ((with_reducible refine Bn_neSF ?_ ?_); focus assumption) | ((with_reducible refine Bn_eqBT ?_ ?_ ?_); (focus assumption); (focus decide)) | ((with_reducible refine Bn_eqBF ?_ ?_ ?_); (focus assumption); (focus decide)) | ((with_reducible refine Bn_neBT ?_ ?_ ?_); (focus assumption); (focus decide)) | ((with_reducible refine Bn_neBF ?_ ?_ ?_); (focus assumption); (focus decide)) | ((with_reducible refine Bn_eqT ?_ ?_); focus omega) | ((with_reducible refine Bn_eqF ?_ ?_); focus omega) | ((with_reducible refine Bn_neT ?_ ?_); focus omega) | ((with_reducible refine Bn_neF ?_ ?_); focus omega) | ((with_reducible refine Bn_ltT ?_ ?_); focus omega) | ((with_reducible refine Bn_ltF ?_ ?_); focus omega) | ((with_reducible refine Bn_gtT ?_ ?_); focus omega) | ((with_reducible refine Bn_gtF ?_ ?_); focus omega) | ((with_reducible refine Bn_leT ?_ ?_); focus omega) | ((with_reducible refine Bn_leF ?_ ?_); focus omega) | ((with_reducible refine Bn_geT ?_ ?_); focus omega) | ((with_reducible refine Bn_geF ?_ ?_); focus omega) | ((with_reducible refine Bn_ad ?_ ?_ ?_); (focus omega); (focus omega)) | ((with_reducible refine Bn_su ?_ ?_ ?_); (focus omega); (focus omega)) | ((with_reducible refine Bt_lenL ?_ ?_); (focus assumption)) | ((with_reducible refine Bt_lenS ?_ ?_); (focus assumption)) | ((with_reducible refine Bn_rm ?_ ?_ ?_); (focus omega); (focus omega)) | ((with_reducible refine Bn_qu ?_ ?_ ?_ ?_); (focus omega); (focus omega); (focus omega))))
        refine ldB hbV4 (by rw [hlen]) (j := k) (by omega) (by rw [hlen]; omega) ?_
        rw [hget]
        (repeat (first | (with_reducible refine Gd_T ?_) | (with_reducible refine Gd_F ?_) | (with_reducible refine Gd_TF ?_) | (with_reducible refine Gd_FT ?_) | (with_reducible refine Gd_U ?_) | (with_reducible refine Pick_T ?_) | (with_reducible refine Pick_F ?_) | (with_reducible refine If_T ?_) | (with_reducible refine If_F ?_) | (with_reducible refine Un_T ?_) | (with_reducible refine Un_F ?_) | (with_reducible refine Bn_eqST ?_) | (with_reducible refine Bn_neST ?_) | ((with_reducible refine Bn_eqSF ?_ ?_); focus assumption) | ((with_reducible refine Bn_eqS1 ?_ ?_); focus assumption) | ((with_reducible refine Bn_neSF ?_ ?_); focus assumption) | ((with_reducible refine Bn_eqBT ?_ ?_ ?_); (focus assumption); (focus decide)) | ((with_reducible refine Bn_eqBF ?_ ?_ ?_); (focus assumption); (focus decide)) | ((with_reducible refine Bn_neBT ?_ ?_ ?_); (focus assumption); (focus decide)) | ((with_reducible refine Bn_neBF ?_ ?_ ?_); (focus assumption); (focus decide)) | ((with_reducible refine Bn_eqT ?_ ?_); focus omega) | ((with_reducible refine Bn_eqF ?_ ?_); focus omega) | ((with_reducible refine Bn_neT ?_ ?_); focus omega) | ((with_reducible refine Bn_neF ?_ ?_); focus omega) | ((with_reducible refine Bn_ltT ?_ ?_); focus omega) | ((with_reducible refine Bn_ltF ?_ ?_); focus omega) | ((with_reducible refine Bn_gtT ?_ ?_); focus omega) | ((with_reducible refine Bn_gtF ?_ ?_); focus omega) | ((with_reducible refine Bn_leT ?_ ?_); focus omega) | ((with_reducible refine Bn_leF ?_ ?_); focus omega) | ((with_reducible refine Bn_geT ?_ ?_); focus omega) | ((with_reducible refine Bn_geF ?_ ?_); focus omega) | ((with_reducible refine Bn_ad ?_ ?_ ?_); (focus omega); (focus omega)) | ((with_reducible refine Bn_su ?_ ?_ ?_); (focus omega); (focus omega)) | ((with_reducible refine Bt_lenL ?_ ?_); (focus assumption)) | ((with_reducible refine Bt_lenS ?_ ?_); (focus assumption)) | ((with_reducible refine Bn_rm ?_ ?_ ?_); (focus omega); (focus omega)) | ((with_reducible refine Bn_qu ?_ ?_ ?_ ?_); (focus omega); (focus omega); (focus omega))))
        refine st44 hbV4 (by rw [hlen]) (j := k) (by omega) (by rw [hlen]; omega) ?_
        refine ⟨?_, ?_⟩
        · rw [hJ]
          exact ⟨d - 1, by omega, by omega, by rw [show d - 1 + 1 = d from by omega]; exact hgt, Ext.stB (hV.tr hVV4) hgle _, hbn⟩
        · rw [hνd _ _ hbn, hνd _ _ hbV]; omega
      · have hc := cmpI_le (show (R + d * p) * (R + d * p) ≤ x by omega)
        (repeat (first | (with_reducible refine Gd_T ?_) | (with_reducible refine Gd_F ?_) | (with_reducible refine Gd_TF ?_) | (with_reducible refine Gd_FT ?_) | (with_reducible refine Gd_U ?_) | (with_reducible refine Pick_T ?_) | (with_reducible refine Pick_F ?_) | (with_reducible refine If_T ?_) | (with_reducible refine If_F ?_) | (with_reducible refine Un_T ?_) | (with_reducible refine Un_F ?_) | (with_reducible refine Bn_eqST ?_) | (with_reducible refine Bn_neST ?_) | ((with_reducible refine Bn_eqSF ?_ ?_); focus assumption) | ((with_reducible refine Bn_eqS1 ?_ ?_); focus assumption) | ((with_reducible refine Bn_neSF ?_ ?_); focus assumption) | ((with_reducible refine Bn_eqBT ?_ ?_ ?_); (focus assumption); (focus decide)) | ((with_reducible refine Bn_eqBF ?_ ?_ ?_); (focus assumption); (focus decide)) | ((with_reducible refine Bn_neBT ?_ ?_ ?_); (focus assumption); (focus decide)) | ((with_reducible refine Bn_neBF ?_ ?_ ?_); (focus assumption); (focus decide)) | ((with_reducible refine Bn_eqT ?_ ?_); focus omega) | ((with_reducible refine Bn_eqF ?_ ?_); focus omega) | ((with_reducible refine Bn_neT ?_ ?_); focus omega) | ((with_reducible refine Bn_neF ?_ ?_); focus omega) | ((with_reducible refine Bn_ltT ?_ ?_); focus omega) | ((with_reducible refine Bn_ltF ?_ ?_); focus omega) | ((with_reducible refine Bn_gtT ?_ ?_); focus omega) | ((with_reducible refine Bn_gtF ?_ ?_); focus omega) | ((with_reducible refine Bn_leT ?_ ?_); focus omega) | ((with_reducible refine Bn_leF ?_ ?_); focus omega) | ((with_reducible refine Bn_geT ?_ ?_); focus omega) | ((with_reducible refine Bn_geF ?_ ?_); focus omega) | ((with_reducible refine Bn_ad ?_ ?_ ?_); (focus omega); (focus omega)) | ((with_reducible refine Bn_su ?_ ?_ ?_); (focus omega); (focus omega)) | ((with_reducible refine Bt_lenL ?_ ?_); (focus assumption)) | ((with_reducible refine Bt_lenS ?_ ?_); (focus assumption)) | ((with_reducible refine Bn_rm ?_ ?_ ?_); (focus omega); (focus omega)) | ((with_reducible refine Bn_qu ?_ ?_ ?_ ?_); (focus omega); (focus omega); (focus omega))))
        exact done V4 hVV4 (by omega)
  · have hjj : kk - j = 0 := by omega
    rw [hjj] at hb hlo hhi
    simp only [Int.pow_zero, Int.one_mul] at hlo hhi
    have hb' : Blk W g 3 (qd.map iv) := by simpa using hb
    have hq0 := num10_nonneg hqd
    have hsq : num10 qd = s := by
      rcases Int.lt_trichotomy (num10 qd) s with h | h | h
      · have := sq_le (a := num10 qd + 1) (b := s) (by omega) (by omega); omega
      · exact h
      · have := sq_le (a := s + 1) (b := num10 qd) (by omega) (by omega); omega
    have hsx : s ≤ x := by
      by_cases h : s = 0
      · omega
      · have := Int.mul_le_mul_of_nonneg_left (show (1 : Int) ≤ s by omega) hs0
        omega
    (repeat (first | (with_reducible refine Gd_T ?_) | (with_reducible refine Gd_F ?_) | (with_reducible refine Gd_TF ?_) | (with_reducible refine Gd_FT ?_) | (with_reducible refine Gd_U ?_) | (with_reducible refine Pick_T ?_) | (with_reducible refine Pick_F ?_) | (with_reducible refine If_T ?_) | (with_reducible refine If_F ?_) | (with_reducible refine Un_T ?_) | (with_reducible refine Un_F ?_) | (with_reducible refine Bn_eqST ?_) | (with_reducible refine Bn_neST ?_) | ((with_reducible refine Bn_eqSF ?_ ?_); focus assumption) | ((with_reducible refine Bn_eqS1 ?_ ?_); focus assumption) | ((with_reducible refine Bn_neSF ?_ ?_); focus assumption) | ((with_reducible refine Bn_eqBT ?_ ?_ ?_); (focus assumption); (focus decide)) | ((with_reducible refine Bn_eqBF ?_ ?_ ?_); (focus assumption); (focus decide)) | ((with_reducible refine Bn_neBT ?_ ?_ ?_); (focus assumption); (focus decide)) | ((with_reducible refine Bn_neBF ?_ ?_ ?_); (focus assumption); (focus decide)) | ((with_reducible refine Bn_eqT ?_ ?_); focus omega) | ((with_reducible refine Bn_eqF ?_ ?_); focus omega) | ((with_reducible refine Bn_neT ?_ ?_); focus omega) | ((with_reducible refine Bn_neF ?_ ?_); focus omega) | ((with_reducible refine Bn_ltT ?_ ?_); focus omega) | ((with_reducible refine Bn_ltF ?_ ?_); focus omega) | ((with_reducible refine Bn_gtT ?_ ?_); focus omega) | ((with_reducible refine Bn_gtF ?_ ?_); focus omega) | ((with_reducible refine Bn_leT ?_ ?_); focus omega) | ((with_reducible refine Bn_leF ?_ ?_); focus omega) | ((with_reducible refine Bn_geT ?_ ?_); focus omega) | ((with_reducible refine Bn_geF ?_ ?_); focus omega) | ((with_reducible refine Bn_ad ?_ ?_ ?_); (focus omega); (focus omega)) | ((with_reducible refine Bn_su ?_ ?_ ?_); (focus omega); (focus omega)) | ((with_reducible refine Bt_lenL ?_ ?_); (focus assumption)) | ((with_reducible refine Bt_lenS ?_ ?_); (focus assumption)) | ((with_reducible refine Bn_rm ?_ ?_ ?_); (focus omega); (focus omega)) | ((with_reducible refine Bn_qu ?_ ?_ ?_ ?_); (focus omega); (focus omega); (focus omega))))
    refine Cl_i n_ref03_trim (c_rtrim (xs := qd) (hb'.slAt (by rw [List.length_map]; omega)) (by omega)) ?_
    rintro r W5 ⟨hr, rfl, _⟩
    have hrD : DAt W5 r s := ⟨_, hr, Nrm10.trimL hqd, by rw [num10_trimL, hsq]⟩
    refine Cl2 n_ref03_checked (Ret.lit (c_checked hrD (by omega)) (by show resI (if false = true then -s else s) = _; rw [if_neg (by decide), resT (by omega)])) fun w6 h6 => ?_
    exact Ret.mk ⟨(h3.tr hW).tr h6, rfl⟩
end Go.Proofs.YtocilcjojdjfdaaGreatDoor
