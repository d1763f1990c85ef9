/-
  Contracts of functions of the program, and plain lemmas on numbers and strings. By an AI agent.
-/
import Derived.Test.YthpcmmfijelbaaaGreatDoorQHelp
set_option linter.unusedSimpArgs false
set_option linter.unusedVariables false
set_option linter.unusedSectionVars false
namespace Go.Proofs.YthpcmmfijelbaaaGreatDoor
open Go Go.Eng Go.Proofs Go.Num Go.RowKit
set_option maxRecDepth 100000
set_option linter.unusedVariables false
set_option linter.unusedSectionVars false
section
variable {w : World} {K : Value → World → Prop} {KP : Value → Prop} {s : Nat} {a b : List UInt8}
theorem ld2S {i : Int} (h : Blk w s 9 [str a, str b]) (h0 : 0 ≤ i) (h1 : i < 2) (hk : ∀ u, u = a ∨ u = b → K (str u) w) : Ia Tryz.prog 36 (.slice (some ⟨s, 0, none⟩) 2 2) (.int .i64 i) w fun t w => Ld Tryz.prog 9 t w K := by
  rcases (show i = 0 ∨ i = 1 by omega) with rfl | rfl
  · have := hk a (.inl rfl)
    ((try simp -dsimp [go_sem, h.cell (i := 0) rfl]); repeat (simp -dsimp (disch := omega) only [gL, it_t, it_f, dit_t, dit_f]; try simp -dsimp [go_sem, h.cell (i := 0) rfl]))
    exact this
  · have := hk b (.inr rfl)
    ((try simp -dsimp [go_sem, h.cell (i := 1) rfl]); repeat (simp -dsimp (disch := omega) only [gL, it_t, it_f, dit_t, dit_f]; try simp -dsimp [go_sem, h.cell (i := 1) rfl]))
    exact this
theorem ld2R {i : Int} {n d m c : List UInt8} (h : Blk w s tR (cellsR [(n, d), (m, c)])) (h0 : 0 ≤ i) (h1 : i < 2) (hk : ∀ u v, (u = n ∧ v = d) ∨ (u = m ∧ v = c) → K (.agg #[str u, str v]) w) : Ia Tryz.prog tL (.slice (some ⟨s, 0, none⟩) 2 2) (.int .i64 i) w fun t w => Ld Tryz.prog tR t w K := by
  rcases (show i = 0 ∨ i = 1 by omega) with rfl | rfl
  · exact ldRs (j := 0) h rfl rfl rfl (hk n d (.inl ⟨rfl, rfl⟩))
  · exact ldRs (j := 1) h rfl rfl rfl (hk m c (.inr ⟨rfl, rfl⟩))
theorem dvLenR : KP (.int .i64 2) → Dv Tryz.prog true (bV .len #[tL] 3 #[.slice (some ⟨s, 0, none⟩) 2 2]) w KP := by
  intro hk; ((try simp -dsimp [go_sem]); repeat (simp -dsimp (disch := omega) only [gL, it_t, it_f, dit_t, dit_f]; try simp -dsimp [go_sem])); exact hk
theorem dvLenS2 : KP (.int .i64 2) → Dv Tryz.prog true (bV .len #[36] 3 #[.slice (some ⟨s, 0, none⟩) 2 2]) w KP := by
  intro hk; ((try simp -dsimp [go_sem]); repeat (simp -dsimp (disch := omega) only [gL, it_t, it_f, dit_t, dit_f]; try simp -dsimp [go_sem])); exact hk
theorem dvCat (h : a.length + b.length ≤ 9223372036854775807) (hk : KP (str (a ++ b))) : Dv Tryz.prog true (bn .add 9 false (str a) (str b)) w KP := by
  have e : (ByteArray.mk a.toArray) ++ (ByteArray.mk b.toArray) = ⟨(a ++ b).toArray⟩ := by apply ByteArray.ext; simp [ByteArray.data_append]
  have s : ∀ l : List UInt8, (ByteArray.mk l.toArray).size = l.length := fun _ => rfl
  ((try simp -dsimp [go_sem, e, s]); repeat (simp -dsimp (disch := omega) only [gL, it_t, it_f, dit_t, dit_f]; try simp -dsimp [go_sem, e, s])); exact hk
theorem strBd {x : UInt8} (hk : ∀ v W, Ext w W → (∀ KP : Value → Prop, KP (str [x]) → Dv Tryz.prog false (convert 35 9 v) W KP) → K v W) : Bs Tryz.prog 35 1 [(0, .int .u8 x.toNat)] w K := by
  refine Bs_own sliB rfl (Nat.le_refl _) fun v W ho hg _ => ?_
  have hs : SlAt W v ([x].map bv) := ho.slAt
  exact hk v W (World.grownBy.ext hg) fun KP h => ⟨_, cv_str hs, h⟩
end
theorem Bn_neS1 {P : Program} {t : TypeId} {c : Bool} {w : World} {K : Value → World → Prop} {a b : List UInt8} (h : (a == b) = true) (hk : K (.bool false) w) : Bn P .neq t c (str a) (str b) w K := by
  obtain rfl : a = b := by simpa using h
  exact Bn_neST hk
theorem printS_len {n d : List UInt8} (hn : n.length ≤ 1000) (hd : d.length ≤ 1000) : (printS n d).length ≤ 2001 := by
  unfold printS
  split
  · split
    · omega
    · simp; omega
  · simp
theorem parse_okE {u : List UInt8} (h : (parseS u).2.2 = 0) : printS (parseS u).1 (parseS u).2.1 = u := by
  unfold parseS at h ⊢
  split at h
  · next hh => rw [if_pos hh]; exact hh.1
  · cases h
theorem parse_short {u : List UInt8} (h : u.length ≤ 500000) : (parseS u).1.length ≤ 1000000 ∧ (parseS u).2.1.length ≤ 1000000 := by
  unfold parseS
  split
  · have h1 := numS_len u
    have h2 := denS_len u
    exact ⟨by show (numS u).length ≤ _; omega, by show (denS u).length ≤ _; omega⟩
  · exact ⟨by decide, by decide⟩
theorem itoa_200 {q : Rat} (h : RB q) : (Lib.itoa q.num).length ≤ 1000 ∧ (Lib.itoa (q.den : Int)).length ≤ 1000 := by
  have h1 := itoa_length h.n
  have h2 := itoa_length h.d
  exact ⟨by omega, by omega⟩
set_option maxHeartbeats 4000000 in
theorem i_Text {n d raw : List UInt8} {x0 x1 x2 x3 at0 : Int} {c : UInt8} {w : World} (rx0 : R64 x0) (rx1 : R64 x1) (rx2 : R64 x2) (rx3 : R64 x3) (ra : R64 at0) (hT : Tab w) (hM : MaxV w) :
    Calls Tryz.prog 3 #[.agg #[str n, str d], .agg #[.int .i64 x0, .int .i64 x1, .int .i64 x2, .int .i64 x3], .int .i64 at0, .int .u8 c.toNat, str raw] w (Ret fun r w' => Ext w w' ∧ r = .bool true) := by
  have hB : Tryz.prog.underlying 4 = some .bool := Tryz.underlying4
  have hS : Tryz.prog.underlying 9 = some .string := Tryz.underlying9
  apply e_law04_RationalTextMatchesReference
  unfold s_law04_RationalTextMatchesReference
  refine bxR fun g5 w1 x1 hg5 hl5 b5 => ?_
  have k5 : w.heap.size ≤ g5 := hg5
  have xx := x1
  clear hg5 hl5
  have z5 := b5.lt
  refine bxI4 fun g6 w2 x2 hg6 hl6 b6 => ?_
  have k6 : w.heap.size ≤ g6 := by have := xx.size; omega
  have n5x6 : g5 ≠ g6 := by omega
  clear z5
  replace b5 := b5.ext x2
  replace xx := xx.tr x2
  clear hg6 hl6
  refine Cl1 n_law04_sane (c_sane (hT.ext xx) (hM.ext xx)) fun w3 x3 => ?_
  replace b5 := b5.ext x3
  replace b6 := b6.ext x3
  replace xx := xx.tr x3
  refine ldI4 b6 ?_
  refine Cl_i n_ref04_Long (i_Long rx0 rx1 rx2 rx3) ?_
  rintro _ w4 ⟨x4, q, hq, rfl⟩
  replace b5 := b5.ext x4
  replace b6 := b6.ext x4
  replace xx := xx.tr x4
  have z5 := b5.lt
  have z6 := b6.lt
  refine alR fun g12 w5 x5 hg12 hl12 b12 => ?_
  have k12 : w.heap.size ≤ g12 := by have := xx.size; omega
  have n5x12 : g5 ≠ g12 := by omega
  clear z5
  have n6x12 : g6 ≠ g12 := by omega
  clear z6
  replace b5 := b5.ext x5
  replace b6 := b6.ext x5
  replace xx := xx.tr x5
  clear hg12 hl12
  refine stoR b12 fun w6 o6 b12 => ?_
  replace b5 := blkOwn b5 n5x12 o6
  replace b6 := blkOwn b6 n6x12 o6
  replace xx := o6.ext xx k12
  have hqb := hq.rb (by decide) (by decide)
  have lq := itoa_200 hqb
  have oq : okR (Lib.itoa q.num) (Lib.itoa (q.den : Int)) := okR_q.2 hqb
  refine dR2x0 (w := w6.drew) b5 (dR2x0 (w := w6.drew) b12 ?_)
  refine Cl1 n_law04_cut c_cut fun w7 x7 => ?_
  replace x7 : Ext w6 w7 := (Ext.refl w6).dr.tr x7
  replace b5 := b5.ext x7
  replace b6 := b6.ext x7
  replace b12 := b12.ext x7
  replace xx := xx.tr x7
  refine kR2x0 b12 ?_
  have zz := b12.lt
  refine bs2R fun g32 w8 x8 hg32 b32 => ?_
  replace b12 := b12.ext x8
  replace xx := xx.tr x8
  refine dvLenR ?_
  refine Lp1.mk (fun i W => ∃ j : Nat, j ≤ 2 ∧ i = .int .i64 j ∧ Ext w W ∧ Blk W g12 tR [str (Lib.itoa q.num), str (Lib.itoa (q.den : Int))] ∧ Blk W g32 tR (cellsR [(n.take 210, d.take 210), (Lib.itoa q.num, Lib.itoa (q.den : Int))])) (fun i _ => match i with | .int _ i' => 2 - i'.toNat | _ => 0) ⟨0, by omega, rfl, xx, b12, b32⟩ ?_
  clear xx b5 b6 b12 b32 zz hg32
  rintro _ W ⟨j, hj, rfl, xx, b12, b32⟩
  by_cases hj2 : j < 2
  · refine Bn_ltT (by omega) (If_T ?_)
    refine ld2R b32 (by omega) (by omega) fun a b hab => ?_
    have la : a.length ≤ 1000 ∧ b.length ≤ 1000 := by
      rcases hab with ⟨rfl, rfl⟩ | ⟨rfl, rfl⟩
      · exact ⟨Nat.le_trans (List.length_take_le _ _) (by decide), Nat.le_trans (List.length_take_le _ _) (by decide)⟩
      · exact lq
    have la1 : a.length ≤ 1000000 := by omega
    have lb1 : b.length ≤ 1000000 := by omega
    have lp : (printS a b).length ≤ 500000 := by have := printS_len la.1 la.2; omega
    clear hab
    have k32 : True := trivial
    have z12 := b12.lt
    have z32 := b32.lt
    refine alR fun g14 w51 x51 hg14 hl14 b14 => ?_
    have k14 : w.heap.size ≤ g14 := by have := xx.size; omega
    replace b12 := b12.ext x51
    replace b32 := b32.ext x51
    replace xx := xx.tr x51
    refine stoR b14 fun w52 o52 b14 => ?_
    replace b12 := blkOwn b12 (show g12 ≠ g14 by omega) o52
    replace b32 := blkOwn b32 (show g32 ≠ g14 by omega) o52
    replace xx := o52.ext xx k14
    refine ldR b14 ?_
    refine Cl1 n_rational_Print (c_Print la1 lb1 (hT.ext xx)) fun w53 x53 => ?_
    replace b12 := b12.ext x53
    replace b32 := b32.ext x53
    replace b14 := b14.ext x53
    replace xx := xx.tr x53
    refine Cl2 n_rational_Parse (c_Parse lp (hT.ext xx) (hM.ext xx)) fun w54 x54 => ?_
    replace b12 := b12.ext x54
    replace b32 := b32.ext x54
    replace b14 := b14.ext x54
    replace xx := xx.tr x54
    have z12 := b12.lt
    have z32 := b32.lt
    have z14 := b14.lt
    refine alR fun g16 w55 x55 hg16 hl16 b16 => ?_
    have k16 : w.heap.size ≤ g16 := by have := xx.size; omega
    replace b12 := b12.ext x55
    replace b32 := b32.ext x55
    replace b14 := b14.ext x55
    replace xx := xx.tr x55
    refine stoR b16 fun w56 o56 b16 => ?_
    replace b12 := blkOwn b12 (show g12 ≠ g16 by omega) o56
    replace b32 := blkOwn b32 (show g32 ≠ g16 by omega) o56
    replace b14 := blkOwn b14 (show g14 ≠ g16 by omega) o56
    replace xx := o56.ext xx k16
    refine ldR b14 ?_
    refine Cl1 n_ref04_Print (c_fPrint la1 lb1) fun w57 x57 => ?_
    replace b12 := b12.ext x57
    replace b32 := b32.ext x57
    replace b14 := b14.ext x57
    replace b16 := b16.ext x57
    replace xx := xx.tr x57
    refine Bn_neST ?_
    refine Gd_F (ldR b14 (Gd_F ?_))
    refine Cl1 n_rational_Valid (c_qValid la1 lb1 (hT.ext xx)) fun w58 x58 => ?_
    replace b12 := b12.ext x58
    replace b32 := b32.ext x58
    replace b14 := b14.ext x58
    replace b16 := b16.ext x58
    replace xx := xx.tr x58
    have hfin : ∀ W', Ext w W' → Blk W' g12 tR [str (Lib.itoa q.num), str (Lib.itoa (q.den : Int))] → Blk W' g32 tR (cellsR [(n.take 210, d.take 210), (Lib.itoa q.num, Lib.itoa (q.den : Int))]) → (fun (v : Value) (W : World) => ∃ j : Nat, j ≤ 2 ∧ v = .int .i64 j ∧ Ext w W ∧ Blk W g12 tR [str (Lib.itoa q.num), str (Lib.itoa (q.den : Int))] ∧ Blk W g32 tR (cellsR [(n.take 210, d.take 210), (Lib.itoa q.num, Lib.itoa (q.den : Int))])) (.int .i64 ((j : Int) + 1)) W' := fun W' h1 h2 h3 => ⟨j + 1, by omega, rfl, h1, h2, h3⟩
    have hmu : 2 - ((j : Int) + 1).toNat < 2 - (j : Int).toNat := by omega
    have vb := fun (w : World) (hT : Tab w) => c_qValid (w := w) la1 lb1 hT
    by_cases ho : okR a b
    · have p := parse_print ho
      have e2 : (parseS (printS a b)).2.2 = 0 := by rw [p]
      have e1 : (parseS (printS a b)).1 = a := by rw [p]
      have e0 : (parseS (printS a b)).2.1 = b := by rw [p]
      have hne : (printS a b == []) = false := by simpa using printS_ne ho
      have ob := okB_t ho
      refine Gd_F (Gd_F (Bn_eqT e2 (Gd_F (Gd_T (ldR b16 (Gd_T (ldR b14 (Gd_T (qEqT (qSame e1 e0) (Gd_F (Pick_T ?_)))))))))))
      refine Gd_F (Bn_neBF hB (by rw [ob]; rfl) (Pick_F ?_))
      refine Gd_F (Gd_F (Bn_eqSF hne (Gd_F (ldR b14 (Gd_F ?_)))))
      refine Cl1 n_rational_Valid (vb _ (hT.ext xx)) fun w59 x59 => ?_
      replace b12 := b12.ext x59
      replace b32 := b32.ext x59
      replace b14 := b14.ext x59
      replace b16 := b16.ext x59
      replace xx := xx.tr x59
      refine Gd_F (Bn_eqBF hB (by rw [ob]; rfl) (Pick_F (If_F ?_)))
      refine Bn_ad (by omega) (by omega) ?_
      exact ⟨hfin _ xx b12 b32, hmu⟩
    · have e9 : printS a b = [] := printS_bad ho
      have p : parseS (printS a b) = rBad := by rw [e9]; exact parse_nil
      have e2 : (parseS (printS a b)).2.2 = 40 := by rw [p]; rfl
      have hne : (printS a b == []) = true := by rw [e9]; rfl
      have ob := okB_f ho
      refine Gd_F (Gd_F (Bn_eqF (by omega) (Gd_F (Gd_FT (Gd_FT (Gd_FT (Gd_F (Pick_F ?_))))))))
      refine Gd_F (Bn_neBF hB (by rw [ob]; rfl) (Pick_F ?_))
      refine Gd_F (Gd_F (Bn_eqS1 hne (Gd_F (ldR b14 (Gd_F ?_)))))
      refine Cl1 n_rational_Valid (vb _ (hT.ext xx)) fun w59 x59 => ?_
      replace b12 := b12.ext x59
      replace b32 := b32.ext x59
      replace b14 := b14.ext x59
      replace b16 := b16.ext x59
      replace xx := xx.tr x59
      refine Gd_F (Bn_eqBF hB (by rw [ob]; rfl) (Pick_F (If_F ?_)))
      refine Bn_ad (by omega) (by omega) ?_
      exact ⟨hfin _ xx b12 b32, hmu⟩
  refine Bn_ltF (by omega) (If_F ?_)
  have lT := printS_len lq.1 lq.2
  have neT := printS_ne oq
  have hTe : (printS (Lib.itoa q.num) (Lib.itoa (q.den : Int)) == []) = false := by simpa using neT
  have hTl : 0 < (printS (Lib.itoa q.num) (Lib.itoa (q.den : Int))).length := List.length_pos_iff.2 neT
  have cpT := fun w : World => c_fPrint (w := w) (rb_len hqb).1 (rb_len hqb).2
  have cpk := fun w : World => c_pick (w := w) ra.1 ra.2 (n := ((printS (Lib.itoa q.num) (Lib.itoa (q.den : Int))).length : Int)) (by omega)
  have dpk := pickZ_bd (c := at0) (n := ((printS (Lib.itoa q.num) (Lib.itoa (q.den : Int))).length : Int)) (by omega)
  refine ldR b12 ?_
  refine Cl1 n_ref04_Print (cpT _) fun w121 x121 => ?_
  replace b12 := b12.ext x121
  replace xx := xx.tr x121
  refine Bn_eqSF hTe (If_F (Bt_lenS hS ?_))
  refine Cl1 n_law04_pick (cpk _) fun w122 x122 => ?_
  replace b12 := b12.ext x122
  replace xx := xx.tr x122
  refine dvCut (k := 420) ?_
  refine dvTo (j := (pickZ at0 ((printS (Lib.itoa q.num) (Lib.itoa (q.den : Int))).length : Int)).toNat) (by omega) (by omega) ?_
  refine Dv_ad (by omega) (by omega) ?_
  refine dvFrom (j := (pickZ at0 ((printS (Lib.itoa q.num) (Lib.itoa (q.den : Int))).length : Int)).toNat + 1) (by omega) (by omega) ?_
  refine strBd fun v w123 x123 cv => ?_
  replace x123 : Ext w122 w123 := (Ext.refl w122).dr.tr x123
  replace xx := xx.tr x123
  refine cv _ ?_
  refine dvCat (by simp; omega) (dvCat (by simp; omega) ?_)
  refine bs2S fun g94 w124 x124 hg94 b94 => ?_
  replace xx := xx.tr x124
  refine dvLenS2 ?_
  have lU : (raw.take 420).length ≤ 500000 := Nat.le_trans (List.length_take_le _ _) (by decide)
  have lV : ((printS (Lib.itoa q.num) (Lib.itoa (q.den : Int))).take (pickZ at0 ((printS (Lib.itoa q.num) (Lib.itoa (q.den : Int))).length : Int)).toNat ++ [c] ++ (printS (Lib.itoa q.num) (Lib.itoa (q.den : Int))).drop ((pickZ at0 ((printS (Lib.itoa q.num) (Lib.itoa (q.den : Int))).length : Int)).toNat + 1)).length ≤ 500000 := by simp; omega
  refine Lp1.mk (fun i W => ∃ j : Nat, j ≤ 2 ∧ i = .int .i64 j ∧ Ext w W ∧ Blk W g94 9 [str (raw.take 420), str ((printS (Lib.itoa q.num) (Lib.itoa (q.den : Int))).take (pickZ at0 ((printS (Lib.itoa q.num) (Lib.itoa (q.den : Int))).length : Int)).toNat ++ [c] ++ (printS (Lib.itoa q.num) (Lib.itoa (q.den : Int))).drop ((pickZ at0 ((printS (Lib.itoa q.num) (Lib.itoa (q.den : Int))).length : Int)).toNat + 1))]) (fun i _ => match i with | .int _ i' => 2 - i'.toNat | _ => 0) ⟨0, by omega, rfl, xx, b94⟩ ?_
  clear xx b94 b12 hg94
  rintro _ W ⟨j, hj, rfl, xx, b94⟩
  by_cases hj2 : j < 2
  · refine Bn_ltT (by omega) (If_T ?_)
    refine ld2S b94 (by omega) (by omega) fun u hu => ?_
    have lu : u.length ≤ 500000 := by
      rcases hu with rfl | rfl
      · exact lU
      · exact lV
    have ls := parse_short lu
    have hfin : ∀ W', Ext w W' → Blk W' g94 9 [str (raw.take 420), str ((printS (Lib.itoa q.num) (Lib.itoa (q.den : Int))).take (pickZ at0 ((printS (Lib.itoa q.num) (Lib.itoa (q.den : Int))).length : Int)).toNat ++ [c] ++ (printS (Lib.itoa q.num) (Lib.itoa (q.den : Int))).drop ((pickZ at0 ((printS (Lib.itoa q.num) (Lib.itoa (q.den : Int))).length : Int)).toNat + 1))] → (fun (v : Value) (W : World) => ∃ j : Nat, j ≤ 2 ∧ v = .int .i64 j ∧ Ext w W ∧ Blk W g94 9 [str (raw.take 420), str ((printS (Lib.itoa q.num) (Lib.itoa (q.den : Int))).take (pickZ at0 ((printS (Lib.itoa q.num) (Lib.itoa (q.den : Int))).length : Int)).toNat ++ [c] ++ (printS (Lib.itoa q.num) (Lib.itoa (q.den : Int))).drop ((pickZ at0 ((printS (Lib.itoa q.num) (Lib.itoa (q.den : Int))).length : Int)).toNat + 1))]) (.int .i64 ((j : Int) + 1)) W' := fun W' h1 h2 => ⟨j + 1, by omega, rfl, h1, h2⟩
    have hmu : 2 - ((j : Int) + 1).toNat < 2 - (j : Int).toNat := by omega
    have hpe := @parse_okE u
    clear hu lU lV
    refine Cl2 n_rational_Parse (c_Parse lu (hT.ext xx) (hM.ext xx)) fun w151 x151 => ?_
    replace b94 := b94.ext x151
    replace xx := xx.tr x151
    have z94 := b94.lt
    refine alR fun g22 w152 x152 hg22 hl22 b22 => ?_
    have k22 : w.heap.size ≤ g22 := by have := xx.size; omega
    replace b94 := b94.ext x152
    replace xx := xx.tr x152
    refine stoR b22 fun w153 o153 b22 => ?_
    replace b94 := blkOwn b94 (show g94 ≠ g22 by omega) o153
    replace xx := o153.ext xx k22
    refine Cl2 n_ref04_Parse (c_fParse lu) fun w154 x154 => ?_
    replace b94 := b94.ext x154
    replace b22 := b22.ext x154
    replace xx := xx.tr x154
    have z94 := b94.lt
    have z22 := b22.lt
    refine alR fun g24 w155 x155 hg24 hl24 b24 => ?_
    have k24 : w.heap.size ≤ g24 := by have := xx.size; omega
    replace b94 := b94.ext x155
    replace b22 := b22.ext x155
    replace xx := xx.tr x155
    refine stoR b24 fun w156 o156 b24 => ?_
    replace b94 := blkOwn b94 (show g94 ≠ g24 by omega) o156
    replace b22 := blkOwn b22 (show g22 ≠ g24 by omega) o156
    replace xx := o156.ext xx k24
    refine ldR b22 (ldR b24 (qNeF (same2 _ _) ?_))
    refine Gd_F (Gd_F (Gd_F (Bn_neF rfl (Pick_F ?_))))
    by_cases he : (parseS u).2.2 = 0
    · have hp := hpe he
      refine Gd_F (Gd_F (Bn_eqT he (Gd_F (Gd_T (ldR b22 (Gd_T ?_))))))
      refine Cl1 n_rational_Print (c_Print ls.1 ls.2 (hT.ext xx)) fun w157 x157 => ?_
      replace b94 := b94.ext x157
      replace b22 := b22.ext x157
      replace b24 := b24.ext x157
      replace xx := xx.tr x157
      have hps : (printS (parseS u).1 (parseS u).2.1 == u) = true := by rw [hp]; simp
      refine Gd_T (Gd_T (Bn_neS1 hps (Gd_F (Pick_T (Pick_F (If_F ?_))))))
      refine Bn_ad (by omega) (by omega) ?_
      exact ⟨hfin _ xx b94, hmu⟩
    · refine Gd_F (Gd_F (Bn_eqF (by omega) (Gd_F (Gd_FT (Gd_FT (Gd_FT (Gd_FT (Gd_F (Pick_F (Pick_F (If_F ?_)))))))))))
      refine Bn_ad (by omega) (by omega) ?_
      exact ⟨hfin _ xx b94, hmu⟩
  refine Bn_ltF (by omega) (If_F ?_)
  exact Ret.mk ⟨xx, rfl⟩
theorem i_TextC {n d raw : List UInt8} {x0 x1 x2 x3 at0 c : Int} {w : World} (rx0 : R64 x0) (rx1 : R64 x1) (rx2 : R64 x2) (rx3 : R64 x3) (ra : R64 at0) (hc : 0 ≤ c ∧ c ≤ 255) (hT : Tab w) (hM : MaxV w) :
    Calls Tryz.prog 3 #[.agg #[str n, str d], .agg #[.int .i64 x0, .int .i64 x1, .int .i64 x2, .int .i64 x3], .int .i64 at0, .int .u8 c, str raw] w (Ret fun r w' => Ext w w' ∧ r = .bool true) := by
  have e : c = ((UInt8.ofNat c.toNat).toNat : Int) := by
    rw [UInt8.toNat_ofNat']; omega
  rw [e]
  exact i_Text rx0 rx1 rx2 rx3 ra hT hM
end Go.Proofs.YthpcmmfijelbaaaGreatDoor
