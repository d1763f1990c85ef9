/-
  Contracts and plain lemmas. By an AI agent.
-/
import Derived.Test.YtjgjeccfhmlcnaaGreatDoorSmH
import Derived.Test.YtjgjeccfhmlcnaaGreatDoorUn
import Derived.Test.YtjgjeccfhmlcnaaGreatDoorEngW
set_option linter.unusedSimpArgs false
set_option linter.unusedVariables false
set_option linter.unusedSectionVars false
namespace Go.Proofs.YtjgjeccfhmlcnaaGreatDoor
open Go Go.Eng Go.Proofs Go.Num Go.RowKit
set_option maxRecDepth 100000
theorem seg_one {xs : List Value} {j : Nat} {v : Value} (h : xs[j]? = some v) : Seg xs (j * 1) [v] := by
 intro i x hx
 cases i with
 | zero =>
  have : v = x := by simpa using hx
  subst this
  simpa using h
 | succ i => simp at hx
theorem leV {P : Program} {t e T : TypeId} {c n cap : Nat} [hs : Slt P t e c] {a : Option Addr} {w : World} {K : Value → World → Prop} (hk : K (.int .i64 (n : Int)) w) : Bt P .len #[t] T #[.slice a n cap] w K := by
 ((try simp -dsimp [go_sem, hs.un]); repeat (simp -dsimp (disch := omega) only [gL, gI]; try simp -dsimp [go_sem, hs.un]))
 exact hk
section
variable {w0 : World} {s : List UInt8} {id t : Int} (hs : s = [120]) (hid : 0 ≤ id ∧ id ≤ 63) (ht : 0 ≤ t ∧ t ≤ 63)
 (hD : ∀ {W : World} {l : List UInt8}, Ext w0 W → l.length ≤ 55 → Calls Tryz.prog 94 #[str l] W (Ret fun r w' => Ext W w' ∧ ∃ bs : List UInt8, bs.length = 32 ∧ r = str bs))
include hs hid
theorem c_named : Calls Tryz.prog 91 #[str s, .int .i64 id] w0 (Ret fun r w' => Ext w0 w' ∧ r = .bool true) := by
 have hl : s.length = 1 := by rw [hs]; rfl
 have hid1 := hid.1
 have hid2 := hid.2
 apply e_seed_isNamed
 unfold s_seed_isNamed
 have h := Hp.init [] w0
 have q : (s == []) = false := by rw [hs]; rfl
 refine Bn_neSF ‹_› ?_
 refine Gd_T (Gd_T (Bt_lenT ?_))
 refine Gd_T (Bn_leT (by omega) (Pick_T (Gd_T (Gd_T (Bn_geT (by omega) (Pick_T (Gd_T (Gd_T (Bn_leT (by omega) (Pick_T ?_))))))))))
 exact Ret.mk ⟨h.ext, rfl⟩
include ht hD
set_option maxHeartbeats 4000000 in
theorem c_Raw : Calls Tryz.prog 67 #[str s, .int .i64 id, .int .i64 t] w0 (Ret fun r w' => Ext w0 w' ∧ ∃ v : Int, 0 ≤ v ∧ v < 4611686018427387904 ∧ r = .tuple #[.int .i64 v, .int .i64 0]) := by
 have ht1 := ht.1
 have ht2 := ht.2
 have cc1 : ∀ {W : World}, Ext w0 W → Calls Tryz.prog 91 #[str s, .int .i64 id] W (Ret fun r w' => Ext W w' ∧ r = .bool true) := fun _ => c_named hs hid
 have cc2 : ∀ {W : World}, Ext w0 W → Calls Tryz.prog 92 #[str s] W (Ret fun r w' => Ext W w' ∧ r = .tuple #[str (putS s), .int .i64 0]) := fun _ => c_PutString (by rw [hs]; decide)
 have ls : (putS s).length = 2 := by
  rw [hs]
  show (putZ (zig 1) ++ [120]).length = 2
  have a := putZ_len 1 (zig 1) (by decide) (by decide)
  have b := putZ_len1 (zig 1)
  rw [List.length_append]
  show _ + 1 = 2
  omega
 apply e_seed_Raw
 unfold s_seed_Raw
 have h := Hp.init [] w0
 refine cl1 h n_seed_isNamed (cc1 h.ext) fun w h => ?_
 refine Un_T (Gd_F (Gd_F (Bn_ltF (by omega) (Pick_F (Gd_F (Gd_F (Bn_geF (by omega) (Pick_F (If_F (cl1 h n_wire_PutString (cc2 h.ext) fun w h => ?_))))))))))
 refine Ex2 (bsN (vs := [_, _]) h (.cons (by rfl) (by rfl) (.cons (by rfl) (by rfl) .nil)) (by rfl) (by rfl) (by decide) (by decide) (by decide) fun v1 w h => ?_)
 refine leS (qZ 0 h rfl) ?_
 refine Lp2.mkK (fun a i W => ∃ (j : Nat) (l : List UInt8), j ≤ 2 ∧ i = .int .i64 j ∧ a = str l ∧ l.length = 2 + j ∧ Hp [] w0 W [ro 3 1 v1 2 [.int .i64 id, .int .i64 t]])
  (fun _ i _ => match i with | .int _ x => 2 - x.toNat | _ => 0) ⟨0, putS s, by omega, rfl, rfl, by omega, h⟩ ?_
 clear h
 rintro _ _ W ⟨j, l, hj, rfl, rfl, hl, h⟩ K hK
 by_cases hj2 : j < 2
 ·have hz : ∃ z : Int, (0 ≤ z ∧ z ≤ 63) ∧ Seg [Value.int .i64 id, .int .i64 t] (j * 1) [.int .i64 z] := by
   by_cases h0 : j = 0
   ·exact ⟨id, hid, by rw [h0]; exact seg_one (by rfl)⟩
   ·exact ⟨t, ht, by rw [show j = 1 by omega]; exact seg_one (by rfl)⟩
  refine Exists.elim hz fun z ⟨hz, sz⟩ => ?_
  have zz : zig z < 128 := by unfold zig; rw [if_neg (by omega)]; omega
  have cc3 : ∀ {W : World}, Ext w0 W → Calls Tryz.prog 93 #[.int .i64 z] W (Ret fun r w' => Ext W w' ∧ r = .tuple #[str (putI z), .int .i64 0]) := fun _ => c_PutInt zz
  have pl : (putI z).length = 1 := by
   have a := putZ_len 1 (zig z) (by omega) (by decide)
   have b := putZ_len1 (zig z)
   show (putZ (zig z)).length = 1
   omega
  refine Bn_ltT (by omega) (If_T (iaR h 0 rfl (by omega) fun zg zk zv => ?_))
  refine lr0 h 0 rfl ‹_› sz (by rfl) ?_
  refine cl1 h n_wire_PutInt (cc3 h.ext) fun w h => ?_
  refine Ex2 (Bn_cat (by first | omega | (simp only [List.length_append, List.length_cons, List.length_nil]; omega)) ?_)
  refine Bn_ad (by omega) (by omega) ?_
  exact hK _ _ _ ⟨j + 1, _, by omega, rfl, rfl, by rw [List.length_append]; omega, h⟩ (by show 2 - ((j : Int) + 1).toNat < 2 - (j : Int).toNat; omega)
 ·refine Bn_ltF (by omega) (If_F (Cl_i n_digest_Sum (hD h.ext (by omega)) ?_))
  rintro _ w2 ⟨x2, bs, hb, rfl⟩
  have h := h.x x2
  refine Bt_lenT ?_
  refine Bn_ltF (by omega) (If_F (Sc_tH (by omega) (by omega) ?_))
  have h8 : (List.take (Int.toNat 8) bs).length = 8 := by rw [List.length_take]; show min 8 bs.length = 8; omega
  refine cvB h Tryz.underlying9 Tryz.underlying139 Tryz.underlying5 fun g cap zs w hcap h => ?_
  refine leV ?_
  refine Lp2.mkK (fun a i W => ∃ (j : Nat) (x : Int), j ≤ 8 ∧ i = .int .i64 j ∧ a = .int .u64 x ∧ 0 ≤ x ∧ x < 18446744073709551616 ∧ Hp [] w0 W [bw g 5 cap (u8s (List.take (Int.toNat 8) bs) ++ zs)])
   (fun _ i _ => match i with | .int _ x => 8 - x.toNat | _ => 0) ⟨0, 0, by omega, rfl, rfl, by decide, by decide, h.sub (by simp)⟩ ?_
  clear h
  rintro _ _ W ⟨j, x, hj, rfl, rfl, hx0, hx1, h⟩ K hK
  by_cases hj8 : j < 8
  ·have e1 : (u8s (List.take (Int.toNat 8) bs) ++ zs)[j]? = some (.int .u8 (((List.take (Int.toNat 8) bs)[j]'(by omega)).toNat : Int)) := by
    rw [List.getElem?_append_left (by rw [List.length_map]; omega), List.getElem?_map, List.getElem?_eq_getElem (by omega)]; rfl
   have bd : ((List.take (Int.toNat 8) bs)[j]'(by omega)).toNat < 256 := UInt8.toNat_lt _
   refine Exists.elim (p := fun x : Nat => ((List.take (Int.toNat 8) bs)[j]'(by omega)).toNat = x) ⟨_, rfl⟩ fun b hb => ?_
   rw [hb] at e1 bd
   refine Bn_ltT (by omega) (If_T (iaV (by omega) (by omega) ?_))
   refine lc0 ((bw_cells h (i := 0) rfl).seg (seg_one e1)) rfl ?_
   refine Bg_shl (n := 8) (by decide) (by decide) ?_
   refine Cv_a (by omega) (by omega) ?_
   refine Bg_or ?_
   refine Bn_ad (by omega) (by omega) ?_
   have bb := bits_u64 .or (IntKind.u64.wrap (x * 2 ^ 8)) b
   exact hK _ _ _ ⟨j + 1, _, by omega, rfl, rfl, bb.1, bb.2, h⟩ (by show 8 - ((j : Int) + 1).toNat < 8 - (j : Int).toNat; omega)
  ·refine Bn_ltF (by omega) (If_F (Bg_shr (n := 2) (by decide) (by decide) ?_))
   have e : x.fdiv (2 ^ 2) = x / 4 := by rw [Int.fdiv_eq_ediv_of_nonneg _ (by decide)]; rfl
   refine Cv_c (by rw [e]; omega) (by rw [e]; omega) ?_
   exact Ret.mk ⟨h.ext, _, by rw [e]; omega, by rw [e]; omega, rfl⟩
end
theorem c_Reduce {w0 : World} {v k : Int} (hv : 0 ≤ v ∧ v < 4611686018427387904) (hk : 1 ≤ k ∧ k ≤ 1000) : Calls Tryz.prog 43 #[.int .i64 v, .int .i64 k] w0 (Ret fun r w' => Ext w0 w' ∧ ∃ (d : Int) (b : Bool), r = .tuple #[.int .i64 d, .bool b] ∧ (k = 1 → d = 0 ∧ b = true)) := by
 obtain ⟨v0, v1⟩ := hv
 obtain ⟨k0, k1⟩ := hk
 have m0 := Int.emod_nonneg 4611686018427387904 (show k ≠ 0 by omega)
 have m1 := Int.emod_lt_of_pos 4611686018427387904 (show 0 < k by omega)
 have e1 : k = 1 → (4611686018427387904 : Int) % k = 0 := fun h => by rw [h]; rfl
 have e2 : k = 1 → v % k = 0 := fun h => by rw [h]; exact Int.emod_one v
 obtain ⟨q, hq⟩ : ∃ q, (4611686018427387904 : Int) % k = q := ⟨_, rfl⟩
 rw [hq] at m0 m1 e1
 apply e_seed_Reduce
 unfold s_seed_Reduce
 have h := Hp.init [] w0
 by_cases hb : 4611686018427387904 - q ≤ v
 ·subst hq
  refine Bn_ltF (by omega) (Gd_F (Gd_F (Bn_gtF (by omega) (Pick_F (Gd_F (Gd_F (Bn_ltF (by omega) (Pick_F (Gd_F (Gd_F (Gd_F (Bn_rm (by omega) (by omega) (Gd_F (Bn_su (by omega) (by omega) (Gd_F (Bn_geT (by omega) (Pick_F (If_T ?_))))))))))))))))))
  exact Ret.mk ⟨h.ext, _, _, rfl, fun h => by have := e1 h; omega⟩
 ·subst hq
  refine Bn_ltF (by omega) (Gd_F (Gd_F (Bn_gtF (by omega) (Pick_F (Gd_F (Gd_F (Bn_ltF (by omega) (Pick_F (Gd_F (Gd_F (Gd_F (Bn_rm (by omega) (by omega) (Gd_F (Bn_su (by omega) (by omega) (Gd_F (Bn_geF (by omega) (Pick_F (If_F (Bn_rm (by omega) (by omega) ?_)))))))))))))))))))
  exact Ret.mk ⟨h.ext, _, _, rfl, fun h => ⟨e2 h, rfl⟩⟩
def Dig (w0 : World) : Prop := ∀ {W : World} {l : List UInt8}, Ext w0 W → l.length ≤ 55 → Calls Tryz.prog 94 #[str l] W (Ret fun r w' => Ext W w' ∧ ∃ bs : List UInt8, bs.length = 32 ∧ r = str bs)
theorem Dig.ext {w w' : World} (h : Dig w) (x : Ext w w') : Dig w' := fun e hl => h (x.tr e) hl
def Yv (_ : Nat) (vs : List Value) (_ : World) : Prop := ∃ v : Int, (0 ≤ v ∧ v < 4611686018427387904) ∧ vs = [.int .i64 v]
theorem it_tries {w0 wE : World} {s : List UInt8} {id : Int} {gs gi : Nat} {J : Nat → World → Prop} (hs : s = [120]) (hid : 0 ≤ id ∧ id ≤ 63) (hD : Dig wE)
 (hJ : ∀ i W, J i W → Blk W gs 9 [str s] ∧ Blk W gi 3 [.int .i64 id] ∧ Ext wE W) :
 IterG Tryz.prog 66 #[pr gs 0, pr gi 0] 64 Yv Ext w0 J := by
 intro l JJ XX W1 hb1 hJJ hst hsx hy h0
 show Calls Tryz.prog 66 #[.func (.yield l) #[] #[], pr gs 0, pr gi 0] W1 _
 apply e_seed_tries_1
 unfold s_seed_tries_1
 refine Lp1.mkK (fun i W => ∃ k : Nat, k ≤ 64 ∧ i = .int .i64 k ∧ JJ k W) (fun i _ => match i with | .int _ i' => 64 - i'.toNat | _ => 0) ⟨0, by omega, rfl, h0⟩ ?_
 rintro _ W ⟨k, hk, rfl, hjj⟩ K hK
 obtain ⟨b1, b2, xE⟩ := hJ k W (hJJ k W hjj)
 have h := Hp.init [] W
 by_cases hk64 : k < 64
 rotate_left
 ·have : k = 64 := by omega
  subst this
  refine Bn_ltF (by omega) (If_F ?_)
  exact ⟨⟨_, rfl⟩, .inl hjj⟩
 refine Bn_ltT (by omega) (If_T (lg1 h ‹_› (by rfl) ?_))
 refine lg1 h ‹_› (by rfl) ?_
 refine Cl_i n_seed_Raw (c_Raw hs hid ⟨by omega, by omega⟩ (hD.ext (xE.tr h.ext))) ?_
 rintro _ w2 ⟨x2, v, v0, v1, rfl⟩
 have h := h.x x2
 refine Ex2 (Bn_neF (by omega) (Gd_F (Gd_F (Gd_F (Cw_y (vs := [.int .i64 v]) (hy k _ w2 hk64 ⟨v, ⟨v0, v1⟩, rfl⟩ (hst k W _ hjj h.ext)) ?_)))))
 rintro b w' (⟨rfl, hjj'⟩ | ⟨rfl, hxx⟩)
 ·have h := Hp.init [] w'
  refine Gd_F (Un_T (Pick_F (If_F (Bn_ad (by omega) (by omega) ?_))))
  exact hK _ _ ⟨k + 1, by omega, rfl, hjj'⟩ (by show 64 - ((k : Int) + 1).toNat < 64 - (k : Int).toNat; omega)
 ·have h := Hp.init [] w'
  refine Gd_F (Un_F (Pick_F (If_T ?_)))
  exact ⟨⟨_, rfl⟩, .inr hxx⟩
theorem c_tries {w0 W : World} {L : List Et} {s : List UInt8} {id : Int} (h : Hp [] w0 W L) : Calls Tryz.prog 42 #[str s, .int .i64 id] W (Ret fun r w' => ∃ gs gi, r = .func (.func 66) #[] #[pr gs 0, pr gi 0] ∧ Hp [] w0 w' (bx gi 3 [.int .i64 id] :: bx gs 9 [str s] :: L)) := by
 apply e_seed_tries
 unfold s_seed_tries
 refine bxA h fun g1 w h => ?_
 refine bxA h fun g2 w h => ?_
 exact Ret.mk ⟨_, _, rfl, h⟩
abbrev tEr : TypeId := 28
abbrev DL (gs gi g3 g2 g1 : Nat) (s : List UInt8) (id k d e : Int) : List Et := [bx gi 3 [.int .i64 id], bx gs 9 [str s], bx g3 tEr [.int .i64 e], bx g2 3 [.int .i64 d], bx g1 3 [.int .i64 k]]
set_option maxHeartbeats 4000000 in
theorem c_Draw {w0 : World} {s : List UInt8} {id k : Int} (hs : s = [120]) (hid : 0 ≤ id ∧ id ≤ 63) (hk : 1 ≤ k ∧ k ≤ 1000) (hD : Dig w0) :
 Calls Tryz.prog 19 #[str s, .int .i64 id, .int .i64 k] w0 (Ret fun r w' => Ext w0 w' ∧ ∃ d e : Int, r = .tuple #[.int .i64 d, .int .i64 e] ∧ (e = 0 ∨ e = 60) ∧ (k = 1 → d = 0 ∧ e = 0)) := by
 apply e_seed_Draw
 unfold s_seed_Draw
 have h := Hp.init [] w0
 refine bxA h fun g1 w h => ?_
 refine alS h fun g2 w h => ?_
 refine alS h fun g3 w h => ?_
 refine Cl_i n_seed_tries (c_tries h) ?_
 rintro _ w2 ⟨gs, gi, rfl, h⟩
 have hw1 := h.size
 have l0 := h.lt 0 rfl
 have l1 := h.lt 1 rfl
 have l2 := h.lt 2 rfl
 have l3 := h.lt 3 rfl
 have l4 := h.lt 4 rfl
 have ok : IterOk w2 Yv Ext (fun i W => (k = 1 → i = 0) ∧ Hp [] w0 W (DL gs gi g3 g2 g1 s id k 0 0)) (fun e W => e = .ret ∧ ∃ d : Int, (k = 1 → d = 0) ∧ Hp [] w0 W (DL gs gi g3 g2 g1 s id k d 0)) := by
  have hb : ∀ {W W' : World} {d : Int}, Hp [] w0 W (DL gs gi g3 g2 g1 s id k d 0) → Bk w2.heap.size W W' → Hp [] w0 W' (DL gs gi g3 g2 g1 s id k d 0) := fun h b =>
   h.bk2 (fun j hj => .inl (by simp at hj; omega)) hw1 b
  exact ⟨fun i W W' h b => ⟨h.1, hb h.2 b⟩, fun e W W' ⟨e1, d, h1, h2⟩ b => ⟨e1, d, h1, hb h2 b⟩, fun _ _ _ _ h _ => h, fun i W W' h x => ⟨h.1, h.2.x x⟩, fun e W W' ⟨e1, d, h1, h2⟩ x => ⟨e1, d, h1, h2.x x⟩, fun W W' x => ⟨x.size, fun k _ hk _ => x.block k hk⟩⟩
 refine ⟨66, #[pr gs 0, pr gi 0], 64, Yv, Ext, _, _, rfl, n_seed_tries_1, fun i vs W ⟨v, _, e⟩ => by rw [e]; rfl, it_tries (wE := w0) hs hid hD (fun i W hJ => ⟨hJ.2.get (i := 1) rfl, hJ.2.get (i := 0) rfl, hJ.2.ext⟩), ok, ⟨fun _ => rfl, h⟩, ?_, ?_, ?_, by simp⟩
 ·rintro a0 i W hi ⟨v, hv, ev⟩ ⟨hk1, h⟩ hsz
  obtain rfl : a0 = .int .i64 v := by simpa using ev
  replace h := h.fr w2.heap.size (by omega) (fun j hj => .inl (by simp at hj; omega))
  refine Eng.ld1 h 5 rfl rfl (Cl_i n_seed_Reduce (c_Reduce hv hk) ?_)
  rintro _ w3 ⟨x3, d, b, rfl, hd⟩
  have h := h.x x3
  cases b with
  | true =>
   refine Ex2 (If_T (st1 h 4 rfl rfl rfl rfl fun w h => ?_))
   refine st1 h 3 rfl rfl rfl rfl fun w h => ?_
   refine ⟨?_, ?_⟩
   dsimp only [List.set] at h
   ·exact ⟨rfl, d, fun e => (hd e).1, h.drop 1⟩
   ·exact h.get (i := 0) rfl
  | false =>
   refine Ex2 (If_F ?_)
   refine ⟨?_, ?_⟩
   ·exact ⟨fun e => absurd (hd e).2 (by decide), h.drop 1⟩
   ·exact h.get (i := 0) rfl
 ·rintro D W hD' hd ⟨hk1, h⟩
  replace h := h.df hd (by omega) (fun hc => by simp at hc; omega)
  refine st1 h 4 rfl rfl rfl rfl fun w h => ?_
  refine st1 h 3 rfl rfl rfl rfl fun w h => ?_
  refine tkE h 0 rfl fun w h => ?_
  refine rc1 h 4 rfl rfl ?_
  refine rc1 h 3 rfl rfl ?_
  dsimp only [List.set] at h
  exact Ret.mk ⟨h.ext, _, _, rfl, .inr rfl, fun e => by have := hk1 e; omega⟩
 ·rintro D W hD' hd ⟨_, d, h1, h⟩
  replace h := h.df hd (by omega) (fun hc => by simp at hc; omega)
  refine tkE h 0 rfl fun w h => ?_
  refine rc1 h 4 rfl rfl ?_
  refine rc1 h 3 rfl rfl ?_
  dsimp only [List.set] at h
  exact Ret.mk ⟨h.ext, _, _, rfl, .inl rfl, fun e => ⟨h1 e, rfl⟩⟩
theorem c_Keep {w0 : World} {s : List UInt8} {id k : Int} (hs : s = [120]) (hid : 0 ≤ id ∧ id ≤ 63) (hk : 1 ≤ k ∧ k ≤ 1000) (hD : Dig w0) :
 Calls Tryz.prog 20 #[str s, .int .i64 id, .int .i64 k] w0 (Ret fun r w' => Ext w0 w' ∧ ∃ (b : Bool) (e : Int), r = .tuple #[.bool b, .int .i64 e] ∧ (k = 1 → b = true ∧ e = 0)) := by
 have cc1 : ∀ {W : World}, Ext w0 W → Calls Tryz.prog 31 #[.int .i64 k, .int .i64 1, .int .i64 1000] W (Ret fun r w' => Ext W w' ∧ r = .bool true) := fun _ => c_isIn hk
 apply e_sample_Keep
 unfold s_sample_Keep
 have h := Hp.init [] w0
 refine cl1 h n_sample_isIn (cc1 h.ext) fun w h => ?_
 refine Un_T (If_F (Cl_i n_seed_Draw (c_Draw hs hid hk (hD.ext h.ext)) ?_))
 rintro _ w2 ⟨x2, d, e, rfl, rfl | rfl, h1⟩
 ·have h := h.x x2
  by_cases hd : d = 0
  ·refine Ex2 (Bn_neF (by omega) (If_F (Bn_eqT (by omega) ?_)))
   exact Ret.mk ⟨h.ext, _, _, rfl, fun _ => ⟨rfl, rfl⟩⟩
  ·refine Ex2 (Bn_neF (by omega) (If_F (Bn_eqF (by omega) ?_)))
   exact Ret.mk ⟨h.ext, _, _, rfl, fun e => absurd (h1 e).1 hd⟩
 ·have h := h.x x2
  refine Ex2 (Bn_neT (by omega) (If_T ?_))
  exact Ret.mk ⟨h.ext, _, _, rfl, fun e => absurd (h1 e).2 (by decide)⟩
abbrev tFn : TypeId := 78
theorem Jn0.mkT {A : (World → Prop) → Prop} {B : World → Prop} (T : World → Prop) (hA : ∀ K : World → Prop, (∀ w, T w → K w) → A K) (hB : ∀ w, T w → B w) : Jn0 A B := Jn0.mk fun K hK => hA K fun w t => hK w (hB w t)
def Fa1 (w0 : World) (v : Value) (i b : Int) : Prop := ∀ {W : World} {pan : List PanicEntry → World → Prop} {K : Value → World → Prop}, Ext w0 W → (∀ W', Ext W W' → K (.int .i64 b) W') → Cw Tryz.prog v #[.int .i64 i] W pan K
abbrev KL (ge go gb gs : Nat) (s : List UInt8) (fo fb : Value) (e : Int) : List Et := [bx ge tEr [.int .i64 e], bx go tFn [fo], bx gb tFn [fb], bx gs 9 [str s]]
set_option maxHeartbeats 8000000 in
theorem c_kept1 {w0 W0 : World} {E : List Et} {ge go gb gs : Nat} {s : List UInt8} {fo fb : Value} {e : Int} {f : Ft} {i b o : Int} (hE : En w0) (hs : s = [120]) (hid : 0 ≤ f.tr ∧ f.tr ≤ 63) (hb : 1 ≤ b ∧ b ≤ 1000) (ho : 1 ≤ o ∧ o ≤ 1000000) (hD : Dig w0)
 (hfb : Fa1 w0 fb i b) (hfo : Fa1 w0 fo i o) (h : Hp [] w0 W0 (KL ge go gb gs s fo fb e ++ E)) :
 Calls Tryz.prog 58 ((#[] : Array Value) ++ #[.int .i64 i, vF f] ++ #[pr gs 0, pr gb 0, pr go 0, pr ge 0]) W0 (Ret fun r w' => ∃ (q : Bool) (e2 : Int), r = .tuple #[vK (f, o), .bool q] ∧ (b = 1 → q = true) ∧ (b = 1 → o ≤ 1000 → e2 = e) ∧ (1000 < o → e2 = 150) ∧ Hp [] w0 w' (KL ge go gb gs s fo fb e2 ++ E)) := by
 rw [show ((#[] : Array Value) ++ #[.int .i64 i, vF f] ++ #[pr gs 0, pr gb 0, pr go 0, pr ge 0]) = #[.int .i64 i, vF f, pr gs 0, pr gb 0, pr go 0, pr ge 0] from rfl]
 apply e_sample_kept_1
 unfold s_sample_kept_1
 replace h : Hp [] w0 W0 (bx ge tEr [.int .i64 e] :: bx go tFn [fo] :: bx gb tFn [fb] :: bx gs 9 [str s] :: E) := h
 refine bxA h fun g1 w h => ?_
 refine alS h fun g2 w h => ?_
 replace h := h.dr
 refine dl1 h 5 rfl rfl (dfS (dl1 h 1 rfl rfl (dl1 h 4 rfl rfl (hfb h.ext fun w x => ?_))))
 have h := h.x x
 refine kl1 h 5 rfl rfl (kl1 h 1 rfl rfl (Cl_i n_sample_Keep (c_Keep hs hid hb (hD.ext h.ext)) ?_))
 rintro _ w2 ⟨x2, q, e1, rfl, h1⟩
 have h := h.x x2
 refine ExP2 ?_
 refine Jn0.mkT (fun W => ∃ e2 : Int, (b = 1 → o ≤ 1000 → e2 = e) ∧ (1000 < o → e2 = 150) ∧ Hp [] w0 W (bx g2 tKp [.int .i64 0, .int .i64 0, .int .i64 0, .int .i64 0, .int .i64 0, .int .i64 0, .int .i64 0, .int .i64 0, .int .i64 0, .int .i64 0, str [], str []] :: bx g1 tFt (fF f) :: bx ge tEr [.int .i64 e2] :: bx go tFn [fo] :: bx gb tFn [fb] :: bx gs 9 [str s] :: E)) (fun K hK => ?_) ?_
 ·by_cases he1 : e1 = 0
  ·subst he1
   refine Bn_neF (by omega) (Gd_F (Eng.ld1 h 3 rfl rfl (Gd_F (Gd_F (hfo h.ext fun w x => ?_)))))
   have h := h.x x
   by_cases ho1 : 1000 < o
   ·refine Gd_F (Bn_gtT (by omega) (Pick_F (If_T (st1 h 2 rfl rfl rfl rfl fun w h => ?_))))
    dsimp only [List.set] at h
    exact hK _ ⟨150, fun _ h => by omega, fun _ => rfl, h⟩
   ·refine Gd_F (Bn_gtF (by omega) (Pick_F (If_F ?_)))
    exact hK _ ⟨e, fun _ _ => rfl, fun h => absurd h ho1, h⟩
  ·refine Bn_neT (by omega) (Gd_TF (Gd_TF (Gd_TF (Gd_TF (Pick_T (If_T (st1 h 2 rfl rfl rfl rfl fun w h => ?_)))))))
   dsimp only [List.set] at h
   exact hK _ ⟨150, fun h => absurd (h1 h).2 he1, fun _ => rfl, h⟩
 rintro w ⟨e2, c1, c2, h⟩
 replace h := h.dr
 refine dlA h 1 rfl rfl ?_
 refine dl1 h 3 rfl rfl (hfo h.ext fun w x => ?_)
 have h := h.x x
 have cc1 : ∀ {W : World}, Ext w0 W → Calls Tryz.prog 59 #[.int .i64 o] W (Ret fun r w' => Ext W w' ∧ r = vR (tq (inv1 o))) := fun e => c_sone (hE.ext e) ho
 refine klA h 1 rfl rfl ?_
 refine cl1 h n_sample_one (cc1 h.ext) fun w h => ?_
 refine klA h 1 rfl rfl ?_
 refine dbS (PC.cons (by rfl) (PC.cons (by rfl) PC.nil)) (by rfl) ?_
 refine stA h 0 rfl rfl rfl rfl fun w h => ?_
 refine rcA h 0 rfl rfl ?_
 dsimp only [List.set] at h
 exact Ret.mk ⟨_, e2, rfl, fun e => (h1 e).1, c1, c2, h.drop 2⟩
section
variable {w0 W0 : World} {ge go gb gs : Nat} {s : List UInt8} {fo fb v : Value} {l : List KF} (hE : En w0) (hs : s = [120]) (hD : Dig w0)
 (hv : SlC w0 10 v l.length (l.flatMap fKF)) (hl : l.length ≤ 400) (hid : ∀ x ∈ l, 0 ≤ x.1.tr ∧ x.1.tr ≤ 63)
include hE hs hD hv hl hid
set_option maxHeartbeats 8000000 in
theorem c_filtG (h : Hp [] w0 W0 (KL ge go gb gs s fo fb 0)) (ho : ∀ x ∈ l, 1 ≤ x.2 ∧ x.2 ≤ 1000) (hfb : ∀ i : Nat, i < l.length → Fa1 w0 fb i 1) (hfo : ∀ (i : Nat) x, l[i]? = some x → Fa1 w0 fo i x.2) :
 Calls Tryz.prog 57 #[v, .func (.func 58) #[] #[pr gs 0, pr gb 0, pr go 0, pr ge 0]] W0 (Ret fun r w' => Hp [] w0 w' (ro tKp 12 r l.length (l.flatMap fK) :: KL ge go gb gs s fo fb 0)) := by
 apply e_sample_filtered_api_Fact_api_Kept
 unfold s_sample_filtered_api_Fact_api_Kept
 refine leS (hv.hp h) ?_
 have h := h.nil tKp 12
 refine Lp2.mkK (fun a i W => ∃ (j : Nat), j ≤ l.length ∧ i = .int .i64 j ∧ Hp [] w0 W (ro tKp 12 a j ((l.take j).flatMap fK) :: KL ge go gb gs s fo fb 0))
  (fun _ i _ => match i with | .int _ x => l.length - x.toNat | _ => 0) ⟨0, by omega, rfl, h⟩ ?_
 clear h
 rintro a _ W ⟨j, hj, rfl, h⟩ K hK
 by_cases hjl : j < l.length
 rotate_left
 ·rw [List.take_of_length_le (by omega), show j = l.length by omega] at h
  have ej : j = l.length := by omega
  refine Bn_ltF (by omega) (If_F ?_)
  exact Ret.mk h
 ·refine Exists.elim (p := fun x => l[j]? = some x) ⟨_, List.getElem?_eq_getElem hjl⟩ fun x hx => ?_
  have s1 : Seg (l.flatMap fKF) (j * 10) (fKF x) := flat_seg (f := fKF) (fun _ => rfl) hx
  have hx1 := ho x (List.mem_of_getElem? hx)
  refine Bn_ltT (by omega) (If_T (iaH h ‹_› (by omega) fun zb zo zk zv zc => ?_))
  refine lhA h ‹_› ‹_› (by rfl) ?_
  refine alS h fun g1 w h => ?_
  refine stA h 0 rfl rfl rfl rfl fun w h => ?_
  refine ldA h 0 rfl rfl ?_
  dsimp only [List.set] at h
  have hp := h.perm (List.perm_append_comm (l₁ := [bx g1 tFt (fF x.1), ro tKp 12 a j ((l.take j).flatMap fK)]) (l₂ := KL ge go gb gs s fo fb 0))
  clear h
  refine Cw_i n_sample_kept_1 (c_kept1 (e := 0) (b := 1) (o := x.2) hE hs (hid x (List.mem_of_getElem? hx)) (by decide) ⟨by omega, by omega⟩ hD (hfb j hjl) (hfo j x hx) hp) ?_
  rintro _ w2 ⟨q, e2, rfl, q1, c1, c2, hp⟩
  obtain rfl : e2 = 0 := c1 rfl hx1.2
  obtain rfl : q = true := q1 rfl
  have h := hp.perm (List.perm_append_comm (l₁ := KL ge go gb gs s fo fb 0) (l₂ := [bx g1 tFt (fF x.1), ro tKp 12 a j ((l.take j).flatMap fK)]))
  clear hp
  replace h : Hp [] w0 w2 (bx g1 tFt (fF x.1) :: ro tKp 12 a j ((l.take j).flatMap fK) :: KL ge go gb gs s fo fb 0) := h
  refine Ex2 (alS h fun g2 w h => ?_)
  refine stA h 0 rfl rfl rfl rfl fun w h => ?_
  refine If_T (ldA h 0 rfl rfl ?_)
  refine bs1A h (by rfl) (by decide) (by rfl) (by decide) fun v1 w h => ?_
  refine apR (by rfl) (by decide) h 3 rfl (qZ 0 h rfl) (by first | rfl | assumption) (by omega) fun v2 w h => ?_
  refine Bn_ad (by omega) (by omega) ?_
  dsimp only [List.set] at h
  exact hK _ _ _ ⟨j + 1, by omega, rfl, by rw [take_snoc hx, List.flatMap_append]; exact h.drop 3⟩ (by show l.length - ((j : Int) + 1).toNat < l.length - (j : Int).toNat; omega)
set_option maxHeartbeats 8000000 in
theorem c_keptG (ho : ∀ x ∈ l, 1 ≤ x.2 ∧ x.2 ≤ 1000) (hfb : ∀ i : Nat, i < l.length → Fa1 w0 fb i 1) (hfo : ∀ (i : Nat) x, l[i]? = some x → Fa1 w0 fo i x.2) (eb : ∃ F c, fb = .func F #[] c) (eo : ∃ F c, fo = .func F #[] c) :
 Calls Tryz.prog 38 #[str s, v, fb, fo] w0 (Ret fun r w' => ∃ u, r = .tuple #[u, .int .i64 0] ∧ Hp [] w0 w' [ro tKp 12 u l.length (l.flatMap fK)]) := by
 obtain ⟨F1, a1, rfl⟩ := eb
 obtain ⟨F2, a2, rfl⟩ := eo
 apply e_sample_kept
 unfold s_sample_kept
 have h := Hp.init [] w0
 refine bxA h fun g1 w h => ?_
 refine bxA h fun g2 w h => ?_
 refine bxA h fun g3 w h => ?_
 refine alS h fun g4 w h => ?_
 refine Cl_i n_sample_filtered_api_Fact_api_Kept (c_filtG hE hs hD hv hl hid h ho hfb hfo) ?_
 clear h
 intro u w2 h
 refine Eng.ld1 h 1 rfl rfl (Bn_neF (by omega) (If_F (st1 h 1 rfl rfl rfl rfl fun w h => ?_)))
 refine rc1 h 1 rfl rfl ?_
 dsimp only [List.set] at h
 exact Ret.mk ⟨_, rfl, h.pick [0] (by decide) rfl⟩
end
section
variable {w0 W0 : World} {ge go gb gs : Nat} {s : List UInt8} {fo fb v : Value} {x : KF} {b : Int} (hE : En w0) (hs : s = [120]) (hD : Dig w0)
 (hv : SlC w0 10 v 1 (fKF x)) (hid : 0 ≤ x.1.tr ∧ x.1.tr ≤ 63) (hb : 1 ≤ b ∧ b ≤ 1000) (ho : 1000 < x.2 ∧ x.2 ≤ 1000000) (hfb : Fa1 w0 fb 0 b) (hfo : Fa1 w0 fo 0 x.2)
include hE hs hD hv hid hb ho hfb hfo
set_option maxHeartbeats 8000000 in
theorem c_filtB (h : Hp [] w0 W0 (KL ge go gb gs s fo fb 0)) :
 Calls Tryz.prog 57 #[v, .func (.func 58) #[] #[pr gs 0, pr gb 0, pr go 0, pr ge 0]] W0 (Ret fun r w' => Hp [] w0 w' (KL ge go gb gs s fo fb 150)) := by
 apply e_sample_filtered_api_Fact_api_Kept
 unfold s_sample_filtered_api_Fact_api_Kept
 refine leS (hv.hp h) ?_
 refine Lp2.mkK (fun a i W => ∃ (j : Nat), j ≤ 1 ∧ i = .int .i64 j ∧ (j = 0 → a = .slice none 0 0 ∧ Hp [] w0 W (KL ge go gb gs s fo fb 0)) ∧ (j = 1 → Hp [] w0 W (KL ge go gb gs s fo fb 150)))
  (fun _ i _ => match i with | .int _ x => 1 - x.toNat | _ => 0) ⟨0, by omega, rfl, fun _ => ⟨rfl, h⟩, fun h => absurd h (by decide)⟩ ?_
 clear h
 rintro a _ W ⟨j, hj, rfl, ha, hb'⟩ K hK
 by_cases hj1 : j < 1
 rotate_left
 ·have h := hb' (by omega)
  refine Bn_ltF (by omega) (If_F ?_)
  exact Ret.mk h
 ·obtain rfl : j = 0 := by omega
  obtain ⟨rfl, h⟩ := ha rfl
  clear ha hb'
  have s1 : Seg (fKF x) (0 * 10) (fKF x) := fun i z hz => by simpa using hz
  have h := h.nil tKp 12
  refine Bn_ltT (by omega) (If_T (iaH h ‹_› (by omega) fun zb zo zk zv zc => ?_))
  refine lhA h ‹_› ‹_› (by rfl) ?_
  refine alS h fun g1 w h => ?_
  refine stA h 0 rfl rfl rfl rfl fun w h => ?_
  refine ldA h 0 rfl rfl ?_
  dsimp only [List.set] at h
  have hp := h.perm (List.perm_append_comm (l₁ := [bx g1 tFt (fF x.1), ro tKp 12 (.slice none 0 0) 0 []]) (l₂ := KL ge go gb gs s fo fb 0))
  clear h
  refine Cw_i n_sample_kept_1 (c_kept1 (e := 0) (b := b) (o := x.2) hE hs hid hb ⟨by omega, by omega⟩ hD hfb hfo hp) ?_
  rintro _ w2 ⟨q, e2, rfl, q1, c1, c2, hp⟩
  obtain rfl : e2 = 150 := c2 ho.1
  have h := hp.perm (List.perm_append_comm (l₁ := KL ge go gb gs s fo fb 150) (l₂ := [bx g1 tFt (fF x.1), ro tKp 12 (.slice none 0 0) 0 []]))
  clear hp
  replace h : Hp [] w0 w2 (bx g1 tFt (fF x.1) :: ro tKp 12 (.slice none 0 0) 0 [] :: KL ge go gb gs s fo fb 150) := h
  cases q with
  | true =>
   refine Ex2 (alS h fun g2 w h => ?_)
   refine stA h 0 rfl rfl rfl rfl fun w h => ?_
   refine If_T (ldA h 0 rfl rfl ?_)
   refine bs1A h (by rfl) (by decide) (by rfl) (by decide) fun v1 w h => ?_
   refine apR (by rfl) (by decide) h 3 rfl (qZ 0 h rfl) (by first | rfl | assumption) (by omega) fun v2 w h => ?_
   refine Bn_ad (by omega) (by omega) ?_
   dsimp only [List.set] at h
   exact hK _ _ _ ⟨1, by omega, rfl, fun h => absurd h (by decide), fun _ => h.drop 4⟩ (by show 1 - ((0 : Int) + 1).toNat < 1 - (0 : Int).toNat; decide)
  | false =>
   refine Ex2 (alS h fun g2 w h => ?_)
   refine stA h 0 rfl rfl rfl rfl fun w h => ?_
   refine If_F (Bn_ad (by omega) (by omega) ?_)
   dsimp only [List.set] at h
   exact hK _ _ _ ⟨1, by omega, rfl, fun h => absurd h (by decide), fun _ => h.drop 3⟩ (by show 1 - ((0 : Int) + 1).toNat < 1 - (0 : Int).toNat; decide)
set_option maxHeartbeats 8000000 in
theorem c_keptB (eb : ∃ F c, fb = .func F #[] c) (eo : ∃ F c, fo = .func F #[] c) :
 Calls Tryz.prog 38 #[str s, v, fb, fo] w0 (Ret fun r w' => Ext w0 w' ∧ r = .tuple #[.slice none 0 0, .int .i64 150]) := by
 obtain ⟨F1, a1, rfl⟩ := eb
 obtain ⟨F2, a2, rfl⟩ := eo
 apply e_sample_kept
 unfold s_sample_kept
 have h := Hp.init [] w0
 refine bxA h fun g1 w h => ?_
 refine bxA h fun g2 w h => ?_
 refine bxA h fun g3 w h => ?_
 refine alS h fun g4 w h => ?_
 refine Cl_i n_sample_filtered_api_Fact_api_Kept (c_filtB hE hs hD hv hid hb ho hfb hfo h) ?_
 clear h
 intro u w2 h
 refine Eng.ld1 h 0 rfl rfl (Bn_neT (by omega) (If_T ?_))
 replace h := h.dr
 refine dl1 h 0 rfl rfl (st1 h 0 rfl rfl rfl rfl fun w h => ?_)
 refine rc1 h 0 rfl rfl ?_
 dsimp only [List.set] at h
 exact Ret.mk ⟨h.ext, rfl⟩
end
theorem fa_Thin1 {w0 : World} {g : Nat} {i n : Int} (b : Blk w0 g 3 [.int .i64 n]) : Fa1 w0 (.func (.func 47) #[] #[pr g 0]) i n := by
 intro W pan K e hk
 refine Cw_i n_sample_Thin_1 (S := fun r w' => Ext W w' ∧ r = .int .i64 n) ?_ fun v w' ⟨x, e⟩ => by rw [e]; exact hk w' x
 rw [show ((#[] : Array Value) ++ #[.int .i64 i] ++ #[pr g 0]) = #[.int .i64 i, pr g 0] from rfl]
 have b := b.ext e
 apply e_sample_Thin_1
 unfold s_sample_Thin_1
 have h := Hp.init [] W
 refine lg1 h ‹_› (by rfl) ?_
 exact Ret.mk ⟨h.ext, rfl⟩
theorem fa_Thin2 {w0 : World} {g g2 : Nat} {n : Int} {v : Value} {x : KF} (hE : En w0) (b1 : Blk w0 g 38 [v]) (b2 : Blk w0 g2 3 [.int .i64 n]) (hv : SlC w0 12 v 1 (fK x)) (hk : 1 ≤ x.2 ∧ x.2 ≤ 1000) (hn : 1 ≤ n ∧ n ≤ 1000) : Fa1 w0 (.func (.func 48) #[] #[pr g 0, pr g2 0]) ((0 : Nat) : Int) (x.2 * n) := by
 intro W pan K e hkk
 refine Cw_i n_sample_Thin_2 (S := fun r w' => Ext W w' ∧ r = .int .i64 (x.2 * n)) ?_ fun v w' ⟨x, e⟩ => by rw [e]; exact hkk w' x
 rw [show ((#[] : Array Value) ++ #[.int .i64 ((0 : Nat) : Int)] ++ #[pr g 0, pr g2 0]) = #[.int .i64 ((0 : Nat) : Int), pr g 0, pr g2 0] from rfl]
 have hE := hE.ext e
 have b1 := b1.ext e
 have b2 := b2.ext e
 have hv := hv.ext e
 have s1 : Seg (fK x) (0 * 12) (fK x) := fun i z hz => by simpa using hz
 have mb := mul_bd (show 0 ≤ x.2 ∧ x.2 ≤ 1000 by omega) (show 0 ≤ n ∧ n ≤ 1000 by omega)
 have cc1 : ∀ {W' : World}, Ext W W' → Calls Tryz.prog 39 #[vR (tq (inv1 x.2))] W' (Ret fun r w' => Ext W' w' ∧ r = .int .i64 x.2) := fun e => c_divisor (hE.ext e) hk
 apply e_sample_Thin_2
 unfold s_sample_Thin_2
 have h := Hp.init [] W
 replace h := h.dr
 refine dg1 h ‹_› (by rfl) ?_
 refine diH h ‹_› (by omega) fun zb zo zk zv zc => ?_
 refine dfS (dhP h ‹_› ‹_› (by rfl) ?_)
 refine dg1 h ‹_› (by rfl) ?_
 refine cl1 h n_sample_divisor (cc1 h.ext) fun w h => ?_
 refine kg1 h ‹_› (by rfl) ?_
 refine Dv_mu (by omega) (by omega) ?_
 exact Ret.mk ⟨h.ext, rfl⟩
section
variable {w0 : World} {v : Value} {s : List UInt8} {x : KF} {n : Int} (hE : En w0) (hs : s = [120]) (hD : Dig w0) (hv : SlC w0 12 v 1 (fK x)) (hk : 1 ≤ x.2 ∧ x.2 ≤ 1000) (hf : VF x.1) (hi : FI x.1) (hid : x.1.tr ≤ 63)
include hE hs hD hv hk hf hi hid
set_option maxHeartbeats 8000000 in
theorem c_Thin1 : Calls Tryz.prog 24 #[str s, v, .int .i64 1] w0 (Ret fun r w' => ∃ u, r = .tuple #[u, .int .i64 0] ∧ Ext w0 w' ∧ SlC w' 12 u 1 (fK x)) := by
 have cc1 : ∀ {W : World}, Ext w0 W → Calls Tryz.prog 18 #[v] W (Ret fun r w' => Ext W w' ∧ r = .bool true) := fun e => c_acc1 (hE.ext e) (hv.ext e) hk hf hi
 have cc2 : ∀ {W : World}, Ext w0 W → Calls Tryz.prog 31 #[.int .i64 1, .int .i64 1, .int .i64 1000] W (Ret fun r w' => Ext W w' ∧ r = .bool true) := fun e => c_isIn (by decide)
 apply e_sample_Thin
 unfold s_sample_Thin
 have h := Hp.init [] w0
 refine bx1w h (hv.hp h) fun g1 w h => ?_
 refine bxA h fun g2 w h => ?_
 refine Eng.ld1 h 1 rfl rfl (cl1 h n_sample_Accepts (cc1 h.ext) fun w h => ?_)
 refine Un_T (Gd_F (Eng.ld1 h 0 rfl rfl (Gd_F (cl1 h n_sample_isIn (cc2 h.ext) fun w h => ?_))))
 refine Gd_F (Un_T (Pick_F (If_F (Eng.ld1 h 1 rfl rfl (Cl_i n_sample_facts (c_facts (l := [x]) (hv.ext h.ext) (by simp)) ?_)))))
 rintro rf w2 h2
 have b1 := Blk.ext (h.get (i := 1) rfl) h2.ext
 have b2 := Blk.ext (h.get (i := 0) rfl) h2.ext
 have x1 := h.ext.tr h2.ext
 have sl : SlC w2 10 rf 1 (fKF x) := h2.sl (i := 0) rfl
 have hv2 := hv.ext x1
 clear h
 refine Cl_i n_sample_kept (c_keptG (w0 := w2) (l := [(x.1, x.2 * 1)]) (hE.ext x1) hs (hD.ext x1) sl (by simp) (fun y hy => ?_) (fun y hy => ?_) (fun i _ => fa_Thin1 b2) (fun i y hy => ?_) ⟨_, _, rfl⟩ ⟨_, _, rfl⟩) ?_
 ·simp only [List.mem_singleton] at hy
  rw [hy]; exact ⟨hf.1.1, hid⟩
 ·simp only [List.mem_singleton] at hy
  rw [hy]; show 1 ≤ x.2 * 1 ∧ x.2 * 1 ≤ 1000
  omega
 ·obtain ⟨rfl, rfl⟩ := one_get hy
  exact fa_Thin2 (hE.ext x1) b1 b2 hv2 hk (by decide)
 rintro _ w3 ⟨u, rfl, h3⟩
 have su : SlC w3 12 u 1 (fK (x.1, x.2 * 1)) := h3.sl (i := 0) rfl
 rw [Int.mul_one] at su
 have x3 := x1.tr h3.ext
 have h := Hp.init [] w3
 refine Ex2 ?_
 exact Ret.mk ⟨u, rfl, x3.tr h.ext, su.ext h.ext⟩
set_option maxHeartbeats 8000000 in
theorem c_ThinB (hn : 1 ≤ n ∧ n ≤ 1000) (hb : 1000 < x.2 * n) : Calls Tryz.prog 24 #[str s, v, .int .i64 n] w0 (Ret fun r w' => Ext w0 w' ∧ r = .tuple #[.slice none 0 0, .int .i64 150]) := by
 have cc1 : ∀ {W : World}, Ext w0 W → Calls Tryz.prog 18 #[v] W (Ret fun r w' => Ext W w' ∧ r = .bool true) := fun e => c_acc1 (hE.ext e) (hv.ext e) hk hf hi
 have cc2 : ∀ {W : World}, Ext w0 W → Calls Tryz.prog 31 #[.int .i64 n, .int .i64 1, .int .i64 1000] W (Ret fun r w' => Ext W w' ∧ r = .bool true) := fun e => c_isIn hn
 have mb := mul_bd (show 0 ≤ x.2 ∧ x.2 ≤ 1000 by omega) (show 0 ≤ n ∧ n ≤ 1000 by omega)
 apply e_sample_Thin
 unfold s_sample_Thin
 have h := Hp.init [] w0
 refine bx1w h (hv.hp h) fun g1 w h => ?_
 refine bxA h fun g2 w h => ?_
 refine Eng.ld1 h 1 rfl rfl (cl1 h n_sample_Accepts (cc1 h.ext) fun w h => ?_)
 refine Un_T (Gd_F (Eng.ld1 h 0 rfl rfl (Gd_F (cl1 h n_sample_isIn (cc2 h.ext) fun w h => ?_))))
 refine Gd_F (Un_T (Pick_F (If_F (Eng.ld1 h 1 rfl rfl (Cl_i n_sample_facts (c_facts (l := [x]) (hv.ext h.ext) (by simp)) ?_)))))
 rintro rf w2 h2
 have b1 := Blk.ext (h.get (i := 1) rfl) h2.ext
 have b2 := Blk.ext (h.get (i := 0) rfl) h2.ext
 have x1 := h.ext.tr h2.ext
 have sl : SlC w2 10 rf 1 (fKF x) := h2.sl (i := 0) rfl
 have hv2 := hv.ext x1
 clear h
 refine Cl_i n_sample_kept (c_keptB (w0 := w2) (x := (x.1, x.2 * n)) (b := n) (hE.ext x1) hs (hD.ext x1) sl ⟨hf.1.1, hid⟩ hn ⟨hb, by show x.2 * n ≤ 1000000; omega⟩ (fa_Thin1 b2) (fa_Thin2 (hE.ext x1) b1 b2 hv2 hk hn) ⟨_, _, rfl⟩ ⟨_, _, rfl⟩) ?_
 rintro _ w3 ⟨x3, rfl⟩
 have h := Hp.init [] w3
 refine Ex2 ?_
 exact Ret.mk ⟨(x1.tr x3).tr h.ext, rfl⟩
end
abbrev fKk (x : KF) : List Value := [.int .i64 x.2]
theorem fa_Samp {w0 : World} {g i : Nat} {u : Value} {l : List KF} {x : KF} (b : Blk w0 g tIs [u]) (hu : SlC w0 1 u l.length (l.flatMap fKk)) (hl : l.length ≤ 400) (hx : l[i]? = some x) : Fa1 w0 (.func (.func 37) #[] #[pr g 0]) i x.2 := by
 intro W pan K e hk
 refine Cw_i n_sample_Sample_1 (S := fun r w' => Ext W w' ∧ r = .int .i64 x.2) ?_ fun v w' ⟨x, e⟩ => by rw [e]; exact hk w' x
 rw [show ((#[] : Array Value) ++ #[.int .i64 (i : Int)] ++ #[pr g 0]) = #[.int .i64 (i : Int), pr g 0] from rfl]
 have b := b.ext e
 have hu := hu.ext e
 have s1 : Seg (l.flatMap fKk) (i * 1) (fKk x) := flat_seg (f := fKk) (fun _ => rfl) hx
 have hil := (List.getElem?_eq_some_iff.1 hx).1
 apply e_sample_Sample_1
 unfold s_sample_Sample_1
 have h := Hp.init [] W
 refine lg1 h ‹_› (by rfl) ?_
 refine iaH h ‹_› (by omega) fun zb zo zk zv zc => ?_
 refine lh0 h ‹_› ‹_› (by rfl) ?_
 exact Ret.mk ⟨h.ext, rfl⟩
section
variable {w0 : World} {v wv : Value} {s : List UInt8} {l : List KF} {n : Int} (hE : En w0) (hs : s = [120]) (hD : Dig w0) (hv : SlC w0 10 v l.length (l.flatMap fKF)) (hl : l.length ≤ 400)
 (hid : ∀ x ∈ l, 0 ≤ x.1.tr ∧ x.1.tr ≤ 63) (ho : ∀ x ∈ l, x.2 = 1)
 (hdv : ∀ {W : World}, Ext w0 W → Calls Tryz.prog 15 #[v, .int .i64 n, wv] W (Ret fun r w' => ∃ u, r = .tuple #[u, .int .i64 0] ∧ Ext W w' ∧ SlC w' 1 u l.length (l.flatMap fKk)))
include hE hs hD hv hl hid ho hdv
set_option maxHeartbeats 8000000 in
theorem c_Sample : Calls Tryz.prog 16 #[str s, v, .int .i64 n, wv] w0 (Ret fun r w' => ∃ u, r = .tuple #[u, .int .i64 0] ∧ Ext w0 w' ∧ SlC w' 12 u l.length (l.flatMap fK)) := by
 apply e_sample_Sample
 unfold s_sample_Sample
 have h := Hp.init [] w0
 refine Cl_i n_sample_Divisors (hdv h.ext) ?_
 rintro _ w2 ⟨u, rfl, x2, su⟩
 have h := Hp.init [] w2
 refine Ex2 (alS h fun g1 w h => ?_)
 refine st1w h 0 rfl (su.hp h) rfl fun w h => ?_
 refine Bn_neF (by omega) (If_F ?_)
 dsimp only [List.set] at h
 have b1 : Blk w g1 tIs [u] := h.get (i := 0) rfl
 have x3 := x2.tr h.ext
 have su := su.ext h.ext
 have fs : ∀ (i : Nat) (x : KF), l[i]? = some x → Fa1 w (.func (.func 37) #[] #[pr g1 0]) i x.2 := fun i x hx => fa_Samp b1 su hl hx
 refine Cl_i n_sample_kept (c_keptG (hE.ext x3) hs (hD.ext x3) (hv.ext x3) hl hid (fun x hx => by rw [ho x hx]; decide) (fun i hi => ?_) fs ⟨_, _, rfl⟩ ⟨_, _, rfl⟩) ?_
 ·have h1 : (l[i]).2 = 1 := ho _ (List.getElem_mem hi)
  have q : ∀ z : Int, (l[i]).2 = z → Fa1 w (.func (.func 37) #[] #[pr g1 0]) i z := fun z e => by
   subst e
   intro W pan K
   exact fs i _ (List.getElem?_eq_getElem hi)
  intro W pan K
  exact q 1 h1
 rintro _ w3 ⟨r, rfl, h3⟩
 have su := h3.sl (i := 0) rfl
 have h := Hp.init [] w3
 refine Ex2 ?_
 exact Ret.mk ⟨_, rfl, (x3.tr h3.ext).tr h.ext, su.ext h.ext⟩
end
theorem c_rot {w0 : World} {x k : Int} (hk : -64 ≤ k ∧ k ≤ 0) : Calls Tryz.prog 176 #[.int .u32 x, .int .i64 k] w0 (Ret fun r w' => Ext w0 w' ∧ ∃ y : Int, r = .int .u32 y) := by
 apply e_math_bits_RotateLeft32
 unfold s_math_bits_RotateLeft32
 have h := Hp.init [] w0
 refine Cv_i (by rw [Tryz.underlying3]; rfl) Tryz.underlying140 rfl ?_
 refine Bg_and ?_
 have b1 := bits_u64 .and (IntKind.u64.wrap k) 31
 refine Bg_shl (by omega) rfl ?_
 refine Bg_sub ?_
 have b2 := wrap_u64p (32 - bits .and .u64 (IntKind.u64.wrap k) 31)
 refine Bg_shr (by omega) rfl ?_
 refine Bg_or ?_
 exact Ret.mk ⟨h.ext, _, rfl⟩
theorem c_mixed {w0 : World} {x : Int} {v : Value} {l : List Int} (hv : SlC w0 1 v l.length (l.flatMap fZ)) (hl : l.length ≤ 10) (hz : ∀ z ∈ l, 0 ≤ z ∧ z ≤ 64) : Calls Tryz.prog 149 #[.int .u32 x, v] w0 (Ret fun r w' => Ext w0 w' ∧ ∃ y : Int, r = .int .u32 y) := by
 apply e_digest_mixed
 unfold s_digest_mixed
 have h := Hp.init [] w0
 refine leS (hv.hp h) ?_
 refine Lp2.mkK (fun a i W => ∃ (j : Nat) (y : Int), j ≤ l.length ∧ i = .int .i64 j ∧ a = .int .u32 y ∧ Hp [] w0 W [])
  (fun _ i _ => match i with | .int _ x => l.length - x.toNat | _ => 0) ⟨0, 0, by omega, rfl, rfl, h⟩ ?_
 clear h
 rintro _ _ W ⟨j, y, hj, rfl, rfl, h⟩ K hK
 by_cases hjl : j < l.length
 rotate_left
 ·refine Bn_ltF (by omega) (If_F ?_)
  exact Ret.mk ⟨h.ext, y, rfl⟩
 ·refine Exists.elim (p := fun x => l[j]? = some x) ⟨_, List.getElem?_eq_getElem hjl⟩ fun z hzj => ?_
  have s1 : Seg (l.flatMap fZ) (j * 1) (fZ z) := flat_seg (f := fZ) (fun _ => rfl) hzj
  have z1 := hz z (List.mem_of_getElem? hzj)
  refine Bn_ltT (by omega) (If_T (iaH h ‹_› (by omega) fun zb zo zk zv zc => ?_))
  refine lh0 h ‹_› ‹_› (by rfl) ?_
  refine Eng.Un_ng (by omega) (by omega) (Cl_i n_math_bits_RotateLeft32 (c_rot (by omega)) ?_)
  rintro _ w2 ⟨x2, q, rfl⟩
  have h := h.x x2
  refine Bg_xor ?_
  refine Bn_ad (by omega) (by omega) ?_
  exact hK _ _ _ ⟨j + 1, _, by omega, rfl, rfl, h⟩ (by show l.length - ((j : Int) + 1).toNat < l.length - (j : Int).toNat; omega)
end Go.Proofs.YtjgjeccfhmlcnaaGreatDoor
