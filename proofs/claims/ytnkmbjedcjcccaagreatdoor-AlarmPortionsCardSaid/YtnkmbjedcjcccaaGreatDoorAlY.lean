/-
  Contracts and plain lemmas. By an AI agent.
-/
import Derived.Test.YtnkmbjedcjcccaaGreatDoorAlT
set_option linter.unusedSimpArgs false
set_option linter.unusedVariables false
set_option linter.unusedSectionVars false
namespace Go.Proofs.YtnkmbjedcjcccaaGreatDoor
open Go Go.Eng Go.Proofs Go.Num Go.RowKit
open Go.Alm (Ft Wt Sm VW VA dn fct obs obs1 rungs obsN fresh sumW)
set_option maxRecDepth 100000
section
variable {w0 : World} {n : Int} {B : Rat} {s : St} {v lv rv : Value} {fl : List Ft} {d : Dd} (hE : En w0) (hB : VB n B s.ws) (hn : 0 ≤ n ∧ n + fl.length ≤ 1000000) (hv : SlC w0 15 v s.ws.length ((s.ws.map wr).flatMap fW)) (hr : SlC w0 1 rv s.rg.length (s.rg.flatMap fN)) (hF : Fk w0 lv fl) (hfl : VFs fl) (ha : s.at' ≤ fl.length) (hrg : s.rg.length ≤ 1000000) (hd : Ddk d)
include hE hB hn hv hr hF hfl ha hrg hd
end
def bud (b : Int) : Rat := ((1 + pickZ b 20 : Int) : Rat) / ((20 : Int) : Rat)
theorem bud_Sm (b : Int) : Sm 1 (bud b) := by
 have h := pickZ_bd (c := b) (n := 20) (by decide)
 exact Sm.divq (by omega) (by omega) (by decide)
theorem bud_VB (b : Int) : VB 0 (bud b) [] := ⟨bud_Sm b, by simp, by simp, (bud_Sm b).ge⟩
theorem bud_k (b : Int) : RSk (tx (bud b)) := by
 have h := Sm.rb (bud_Sm b) (.inl rfl)
 exact ⟨itoa_ok h.n, itoa_ok h.d⟩
theorem c_OpenB {w0 : World} {b : Int} (hE : En w0) : Calls Tryz.prog 17 #[vR (tx (bud b))] w0 (Ret fun r w' => Ext w0 w' ∧ r = .tuple #[vA (tx (bud b)) (.slice none 0 0), .int .i64 0]) := by
 have := c_Open (w0 := w0) hE (bud_k b)
 rw [show okA (tx (bud b)) [] = true from okA_t ⟨bud b, [], rfl, rfl, (bud_VB b).va (by decide)⟩] at this
 exact this
abbrev fX6 (x : I6) : List Value := [.int .i64 (x 0), .int .i64 (x 1), .int .i64 (x 2), .int .i64 (x 3), .int .i64 (x 4), .int .i64 (x 5)]
def I6ok (l : List I6) : Prop := ∀ x ∈ l, ∀ i, I64 (x i)
open Classical in
noncomputable def reg1 (B : Rat) (ws : List Wt) (w : Wt) : List Wt := if Can B ws w then ws ++ [fresh ws w] else ws
noncomputable def regL (B : Rat) (l : List I6) : List Wt := l.foldl (fun ws x => reg1 B ws (mkW x)) []
theorem regL_snoc {B : Rat} {l : List I6} {i : Nat} {x : I6} (h : l[i]? = some x) : regL B (l.take (i + 1)) = reg1 B (regL B (l.take i)) (mkW x) := by
 unfold regL
 rw [List.take_add_one, h, List.foldl_append]
 rfl
theorem reg1_VB {n : Int} {B : Rat} {ws : List Wt} {w : Wt} (h : VB n B ws) (hw : Reg w) (hn : 0 ≤ n) : VB n B (reg1 B ws w) := by
 unfold reg1
 split
 ·next hc => exact h.reg hw hn hc
 ·exact h
theorem regL_VB (b : Int) (l : List I6) : VB 0 (bud b) (regL (bud b) l) := by
 have : ∀ (l : List I6) (ws : List Wt), VB 0 (bud b) ws → VB 0 (bud b) (l.foldl (fun ws x => reg1 (bud b) ws (mkW x)) ws) := by
  intro l
  induction l with
  | nil => exact fun ws h => h
  | cons x l ih => exact fun ws h => ih _ (reg1_VB h (mkW_reg x) (by decide))
 exact this l [] (bud_VB b)
theorem ro_sl2 {w0 W : World} {L : List Et} {e : TypeId} {n : Nat} {v : Value} {xs : List Value} (h : Hp [] w0 W (ro e 15 v n xs :: L)) : Hp [] w0 W (sl2 v n xs (.slice none 0 0) 0 [] :: L) := by
 have hnil : SlC W 1 (.slice none 0 0) 0 [] := (((Hp.init [] W).nil 3 1).sl (i := 0) rfl)
 have hnd := List.pairwise_cons.1 h.nd
 have hks := h.ks _ List.mem_cons_self
 have e0 : (sl2 v n xs (.slice none 0 0) 0 []).ks = (ro e 15 v n xs).ks := List.append_nil _
 exact (h.drop 1).nw (sl2_at (qZ 0 h rfl) hnil) (fun k hk => hks k (by rw [← e0]; exact hk)) fun x hx k hk => hnd.1 x hx k (by rw [← e0]; exact hk)
set_option maxHeartbeats 16000000 in
theorem c_regd {w0 : World} {b : Int} {v : Value} {l : List I6} (hE : En w0) (hb : I64 b) (hv : SlC w0 6 v l.length (l.flatMap fX6)) (hok : I6ok l) (hl : l.length ≤ 9223372036854775807) :
 Calls Tryz.prog 36 #[.int .i64 b, v] w0 (Ret fun o w' => ∃ x y z, o = .tuple #[vA (tx (bud b)) (.slice x y z), .bool true] ∧ Hp [] w0 w' [sl2 (.slice x y z) (regL (bud b) (l.take 4)).length (((regL (bud b) (l.take 4)).map wr).flatMap fW) (.slice none 0 0) 0 []]) := by
 have h20 := pickZ_bd (c := b) (n := 20) (by decide)
 have cc1 := fun {W : World} (_ : Ext w0 W) => c_pickL (w := W) (n := 20) hb (by decide)
 have cc2 : ∀ {W : World}, Ext w0 W → Calls Tryz.prog 30 #[.int .i64 (1 + pickZ b 20), .int .i64 20] W (Ret fun r w' => Ext W w' ∧ r = vR (tx (bud b))) := fun {W} e => c_of (w := W) (hE.hT.ext e) (by omega) (by decide) (by decide)
 have cc3 := fun {W : World} (e : Ext w0 W) => c_OpenB (w0 := W) (b := b) (hE.ext e)
 apply e_law28_registered
 unfold s_law28_registered
 have h := Hp.init [] w0
 refine alS h fun g1 w h => ?_
 refine cl1 h n_law28_pick (cc1 h.ext) fun w h => ?_
 refine Bn_ad (by omega) (by omega) (cl1 h n_law28_of (cc2 h.ext) fun w h => ?_)
 refine cl1 h n_alarm_Open (cc3 h.ext) fun w h => ?_
 refine Ex2 (alS h fun g2 w h => ?_)
 refine stA h 0 rfl rfl rfl rfl fun w h => ?_
 dsimp only [List.set] at h
 have h := ro_sl2 (h.nil tWc 15)
 refine Lp1.mk (fun i W => ∃ (j : Nat) (x : Option Addr) (y z : Nat), j ≤ l.length ∧ j ≤ 4 ∧ i = .int .i64 j ∧ Hp [] w0 W [sl2 (.slice x y z) (regL (bud b) (l.take j)).length (((regL (bud b) (l.take j)).map wr).flatMap fW) (.slice none 0 0) 0 [], bx g2 tAl [str (tx (bud b)).1, str (tx (bud b)).2, .slice x y z], bx g1 tAl [str [], str [], .slice none 0 0]])
  (fun i _ => match i with | .int _ i' => l.length - i'.toNat | _ => 0) ⟨0, none, 0, 0, by omega, by omega, rfl, h⟩ ?_
 clear h cc1 cc2 cc3
 rintro _ W ⟨j, x, y, z, hj, hj4, rfl, h⟩
 have hend : ¬ (j < l.length ∧ j < 4) → l.take j = l.take 4 := fun hc => by
  by_cases h4 : j = 4
  ·rw [h4]
  ·rw [List.take_of_length_le (by omega), List.take_of_length_le (by omega)]
 by_cases hjl : j < l.length
 rotate_left
 ·rw [hend (by omega)] at h
  refine leS (hv.hp h) ?_
  refine Bn_ltF (by omega) (Gd_FT (Gd_FT (Pick_F (Gd_FT (Gd_FT (Pick_F (If_F (ldA h 1 rfl rfl ?_))))))))
  refine Bn_eqT (by omega) (stA h 2 rfl rfl rfl rfl fun w h => ?_)
  refine rcA h 2 rfl rfl ?_
  dsimp only [List.set] at h
  exact Ret.mk ⟨_, _, _, rfl, h.pick [0] (by decide) rfl⟩
 by_cases hj3 : j < 4
 rotate_left
 ·rw [hend (by omega)] at h
  refine leS (hv.hp h) ?_
  refine Bn_ltT (by omega) (Gd_T (Gd_T (Bn_ltF (by omega) (Pick_T (Gd_FT (Gd_FT (Pick_F (If_F (ldA h 1 rfl rfl ?_)))))))))
  refine Bn_eqT (by omega) (stA h 2 rfl rfl rfl rfl fun w h => ?_)
  refine rcA h 2 rfl rfl ?_
  dsimp only [List.set] at h
  exact Ret.mk ⟨_, _, _, rfl, h.pick [0] (by decide) rfl⟩
 refine Exists.elim (p := fun x => l[j]? = some x) ⟨_, List.getElem?_eq_getElem hjl⟩ fun xx hx => ?_
 have sx : Seg (l.flatMap fX6) (j * 6) (fX6 xx) := flat_seg (f := fX6) (fun _ => rfl) hx
 have hxo := hok xx (List.mem_of_getElem? hx)
 have cc2 : ∀ {W : World}, Ext w0 W → Calls Tryz.prog 21 #[.agg #[.int .i64 (xx 0), .int .i64 (xx 1), .int .i64 (xx 2), .int .i64 (xx 3), .int .i64 (xx 4), .int .i64 (xx 5)]] W (Ret fun r w' => Ext W w' ∧ r = vW (rw0 (mkW xx))) := fun {W} _ => c_Watch (w0 := W) hxo
 have hreg := mkW_reg xx
 have hVB := regL_VB b (l.take j)
 have es := regL_snoc (B := bud b) hx
 by_cases hc : Can (bud b) (regL (bud b) (l.take j)) (mkW xx)
 ·have es2 : regL (bud b) (l.take (j + 1)) = regL (bud b) (l.take j) ++ [fresh (regL (bud b) (l.take j)) (mkW xx)] := by rw [es]; unfold reg1; rw [if_pos hc]
  clear es
  refine leS (hv.hp h) ?_
  refine Bn_ltT (by omega) (Gd_T (Gd_T (Bn_ltT (by omega) (Pick_T (Gd_T (Gd_T (Bn_eqT (by omega) (Pick_T (If_T (Jn2.mk fun K lf => ?_))))))))))
  have lf1 : ∀ {W : World} {g : Nat} {a : Option Addr} {b' c : Nat}, Hp [] w0 W [bx g tAl [str (tx (bud b)).1, str (tx (bud b)).2, .slice a b' c], ro tWc 15 (.slice a b' c) (regL (bud b) (l.take j) ++ [fresh (regL (bud b) (l.take j)) (mkW xx)]).length (((regL (bud b) (l.take j) ++ [fresh (regL (bud b) (l.take j)) (mkW xx)]).map wr).flatMap fW), sl2 (.slice x y z) (regL (bud b) (l.take j)).length (((regL (bud b) (l.take j)).map wr).flatMap fW) (.slice none 0 0) 0 [], bx g2 tAl [str (tx (bud b)).1, str (tx (bud b)).2, .slice x y z], bx g1 tAl [str [], str [], .slice none 0 0]] → K (pr g 0) (.int .i64 0) W := fun {W} {g} {a} {b'} {c} h => lf _ _ W (by
   refine Bn_eqT (by omega) (If_T (ldA h 0 rfl rfl ?_))
   refine stA h 3 rfl rfl rfl rfl fun w h => ?_
   refine Bn_ad (by omega) (by omega) ?_
   dsimp only [List.set] at h
   refine ⟨⟨j + 1, a, b', c, by omega, by omega, rfl, ?_⟩, by show l.length - ((j : Int) + 1).toNat < l.length - (j : Int).toNat; omega⟩
   rw [es2]
   exact ro_sl2 (h.pick [1, 3, 4] (by decide) rfl))
  clear lf
  replace h := h.dr
  refine dlA h 1 rfl rfl ?_
  refine diH h ‹_› (by omega) fun zb zo zk zv zc => ?_
  refine dhA h ‹_› ‹_› (by rfl) ?_
  refine ⟨?_, ?_⟩
  refine cl1 h n_ref28_Watch (cc2 h.ext) fun w h => ?_
  refine klA h 1 rfl rfl ?_
  refine ⟨?_, ?_⟩
  ·refine Cl_i n_alarm_Register (c_RegK hVB (by decide) (h.get (i := 0) rfl).1 hreg (hE.ext h.ext) hc) ?_
   rintro _ W1 ⟨a', b', c', rfl, h1⟩
   have h := h.cat1 h1 ro_sm
   clear h1
   refine ExP2 (alS h fun g3 w h => ?_)
   refine klA h 3 rfl rfl ?_
   refine khA h ‹_› ‹_› (by rfl) ?_
   refine stA h 0 rfl rfl rfl rfl fun w h => ?_
   exact lf1 h
  ·refine alS h fun g3 w h => ?_
   refine klA h 2 rfl rfl ?_
   refine khA h ‹_› ‹_› (by rfl) ?_
   refine Cl_i n_alarm_Register (c_RegK hVB (by decide) (h.get (i := 1) rfl).1 hreg (hE.ext h.ext) hc) ?_
   rintro _ W1 ⟨a', b', c', rfl, h1⟩
   have h := h.cat1 h1 ro_sm
   clear h1
   refine ExP2 (stA h 1 rfl rfl rfl rfl fun w h => ?_)
   exact lf1 (h.pick [1, 0, 2, 3, 4] (by decide) rfl)
  ·refine alS h fun g3 w h => ?_
   refine klA h 2 rfl rfl ?_
   refine khA h ‹_› ‹_› (by rfl) ?_
   refine cl1 h n_ref28_Watch (cc2 h.ext) fun w h => ?_
   refine klA h 2 rfl rfl ?_
   refine Cl_i n_alarm_Register (c_RegK hVB (by decide) (h.get (i := 1) rfl).1 hreg (hE.ext h.ext) hc) ?_
   rintro _ W1 ⟨a', b', c', rfl, h1⟩
   have h := h.cat1 h1 ro_sm
   clear h1
   refine ExP2 (stA h 1 rfl rfl rfl rfl fun w h => ?_)
   exact lf1 (h.pick [1, 0, 2, 3, 4] (by decide) rfl)
 ·have es2 : regL (bud b) (l.take (j + 1)) = regL (bud b) (l.take j) := by rw [es]; unfold reg1; rw [if_neg hc]
  have cc3 : ∀ {W : World}, Hp [] w0 W [sl2 (.slice x y z) (regL (bud b) (l.take j)).length (((regL (bud b) (l.take j)).map wr).flatMap fW) (.slice none 0 0) 0 []] → Calls Tryz.prog 22 #[.agg #[str (tx (bud b)).1, str (tx (bud b)).2, .slice x y z], vW (rw0 (mkW xx))] W (Ret fun r w' => Ext W w' ∧ r = .tuple #[vA ([], []) (.slice none 0 0), .int .i64 280]) := fun {W} h => c_RegF (w0 := W) hVB (by decide) (h.get (i := 0) rfl).1 hreg (hE.ext h.ext) hc
  refine leS (hv.hp h) ?_
  refine Bn_ltT (by omega) (Gd_T (Gd_T (Bn_ltT (by omega) (Pick_T (Gd_T (Gd_T (Bn_eqT (by omega) (Pick_T (If_T ?_)))))))))
  refine Jn2.lfb tAl [str [], str [], .slice none 0 0] (.int .i64 280) h (fun K lf1 => ?_) (fun gx w h => ?_)
  ·replace h := h.dr
   refine dlA h 1 rfl rfl ?_
   refine diH h ‹_› (by omega) fun zb zo zk zv zc => ?_
   refine dhA h ‹_› ‹_› (by rfl) ?_
   refine ⟨?_, ?_⟩
   refine cl1 h n_ref28_Watch (cc2 h.ext) fun w h => ?_
   refine klA h 1 rfl rfl ?_
   refine ⟨?_, ?_⟩
   ·refine Cl_i n_alarm_Register (cc3 (h.pick [0] (by decide) rfl)) ?_
    rintro _ W1 ⟨e1, rfl⟩
    have h := h.x e1
    refine ExP2 (alS h fun g3 w h => ?_)
    refine klA h 2 rfl rfl ?_
    refine khA h ‹_› ‹_› (by rfl) ?_
    refine stA h 0 rfl rfl rfl rfl fun w h => ?_
    exact lf1 _ _ h
   ·refine alS h fun g3 w h => ?_
    refine klA h 2 rfl rfl ?_
    refine khA h ‹_› ‹_› (by rfl) ?_
    refine Cl_i n_alarm_Register (cc3 (h.pick [1] (by decide) rfl)) ?_
    rintro _ W1 ⟨e1, rfl⟩
    have h := h.x e1
    refine ExP2 (stA h 0 rfl rfl rfl rfl fun w h => ?_)
    exact lf1 _ _ h
   ·refine alS h fun g3 w h => ?_
    refine klA h 2 rfl rfl ?_
    refine khA h ‹_› ‹_› (by rfl) ?_
    refine cl1 h n_ref28_Watch (cc2 h.ext) fun w h => ?_
    refine klA h 2 rfl rfl ?_
    refine Cl_i n_alarm_Register (cc3 (h.pick [1] (by decide) rfl)) ?_
    rintro _ W1 ⟨e1, rfl⟩
    have h := h.x e1
    refine ExP2 (stA h 0 rfl rfl rfl rfl fun w h => ?_)
    exact lf1 _ _ h
  refine Bn_eqF (by omega) (If_F (Bn_ad (by omega) (by omega) ?_))
  refine ⟨⟨j + 1, x, y, z, by omega, by omega, rfl, ?_⟩, by show l.length - ((j : Int) + 1).toNat < l.length - (j : Int).toNat; omega⟩
  rw [es2]
  exact h.drop 1
end Go.Proofs.YtnkmbjedcjcccaaGreatDoor
