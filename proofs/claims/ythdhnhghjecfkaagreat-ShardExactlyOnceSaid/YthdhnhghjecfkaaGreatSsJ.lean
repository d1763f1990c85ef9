/-
  Contracts and plain lemmas. By an AI agent.
-/
import Derived.Test.YthdhnhghjecfkaaGreatLSsJ
import Derived.Test.YthdhnhghjecfkaaGreatSsI
import Derived.Test.YthdhnhghjecfkaaGreatPlain
set_option linter.unusedSimpArgs false
set_option linter.unusedVariables false
set_option linter.unusedSectionVars false
namespace Go.Proofs.YthdhnhghjecfkaaGreat
open Go Go.Eng Go.Proofs Go.RowKit
open Go.Srd (Ft VF Hd Mv mv0 Rd Ab Cmd got ltF sam srt plh ofS gotL delN cntL insR rdd fP facts)
set_option maxRecDepth 100000
section
variable {S : List Nat} {w0 w : World} {L : List Et} {x : Sx} {a : Ab} {c : Cmd} {fv : Value} {l : List Ft} {pan : List PanicEntry → World → Prop} {K : Value → World → Prop}
theorem cl_DoT {p : Ab × List Ft} (h : Hp S w0 w (shE x a fv l :: L)) (hO : Srd.Ok a) (hc : CmdOk c) (hs : Srd.step a c = some p)
 (hk : ∀ x' fv' w1, Hp S w0 w1 (shE x' p.1 fv' p.2 :: shE x a fv l :: L) → K (.tuple #[vSh x' p.1, fv', .int .i64 0]) w1) : Cl Tryz.prog 13 #[vSh x a, vCmd c] w pan K := by
 have hd := c_Do (h.get (i := 0) rfl : _ ∧ _).1 hO hc
 rw [hs] at hd
 refine Cl_i n_shard_Do hd ?_
 rintro _ w1 ⟨x', fv', rfl, h'⟩
 exact hk x' fv' w1 (h.cat1 h' shE_sm)
theorem cl_DoTX {p : Ab × List Ft} (h : Hp S w0 w (shE x a fv l :: L)) (hO : Srd.Ok a) (hc : CmdOk c) (hs : Srd.step a c = some p)
 (hk : ∀ x' fv' w1, Hp S w0 w1 (shE x' p.1 fv' p.2 :: shE x a fv l :: L) → K (.tuple #[vSh x' p.1, fv', .int .i64 0]) w1) : Cl Tryz.prog 13 #[vSh x a, vX (kC c) (fC c) (sC c) (tC c) (mC c) (rC c)] w pan K := by
 rw [← vCmd_x]; exact cl_DoT h hO hc hs hk
theorem script_cmd {s e : Int} {n k : Nat} : ∀ c ∈ Srd.script s e n k, CmdOk c := fun c hc => by
 unfold Srd.script at hc
 simp only [List.mem_cons, List.mem_append, List.mem_replicate] at hc
 rcases hc with rfl | ⟨_, rfl⟩ | rfl | ⟨_, rfl⟩ | rfl | ⟨_, rfl⟩
 ·trivial
 ·show 1 ≤ _ ∧ _ ≤ 1000000; omega
 ·trivial
 ·show 1 ≤ _ ∧ _ ≤ 1000000; omega
 ·trivial
 ·trivial
theorem cl_DoN (h : Hp S w0 w (shE x a fv l :: L)) (hO : Srd.Ok a) (hc : CmdOk c) (hs : Srd.step a c = none)
 (hk : ∀ w1, Hp S w0 w1 (shE x a fv l :: L) → K (.tuple #[vSh0, .slice none 0 0, .int .i64 370]) w1) : Cl Tryz.prog 13 #[vSh x a, vCmd c] w pan K := by
 have hd := c_Do (h.get (i := 0) rfl : _ ∧ _).1 hO hc
 rw [hs] at hd
 refine Cl_i n_shard_Do hd ?_
 rintro _ w1 ⟨e, rfl⟩
 exact hk w1 (h.x e)
end
theorem lh2 {P : Program} {t : TypeId} [One P t] {w0 w : World} {L : List Et} {b o k off off2 : Nat} {xs vs : List Value} {u : Value} {K : Value → World → Prop} (h : Hp [] w0 w L) (hc : CellsAt w0 b o xs) (hs : Seg xs k vs) (hl : vs[off + off2]? = some u) (hk : K u w) : Ld P t (pr b (o + k + off + off2)) w K := by
 rw [Nat.add_assoc (o + k)]; exact lh1 h hc hs hl hk
structure Put (k : Nat) (a : Ab) : Prop where
 ok : Srd.Ok a
 k : a.k = k
 mv : a.mv = mv0
 rd : a.rd = []
abbrev zSh : List Value := [.slice none 0 0, .slice none 0 0, .int .i64 0, .int .i64 0, .int .i64 0, .int .i64 0, .int .i64 0, .int .i64 0, .slice none 0 0]
section
variable {w0 : World} {n : Int} {v : Value} {xs : List I4} {z1 z2 : Int} (hn : I64 n) (hx : SlC w0 4 v xs.length (xs.flatMap fQ)) (hq : I64s xs) (hz1 : I64 z1) (hz2 : I64 z2)
include hn hx hq hz1 hz2
set_option maxHeartbeats 16000000 in
theorem law_Moves : Calls Tryz.prog 5 #[.int .i64 n, v, .int .i64 z1, .int .i64 z2] w0 (Ret fun r w' => Ext w0 w' ∧ r = .bool true) := by
 have p3 := pk_bd (c := n) (n := 3) (by omega)
 have cc1 := fun {W : World} (_ : Ext w0 W) => c_sane (w0 := W)
 have cc2 := fun {W : World} (_ : Ext w0 W) => c_lpick (w0 := W) (c := n) (n := 3) hn (by omega)
 obtain ⟨k, hk⟩ : ∃ k : Nat, (k : Int) = 2 + pk n 3 := ⟨(2 + pk n 3).toNat, by omega⟩
 apply e_law37_ShardMoves
 unfold s_law37_ShardMoves
 have h := Hp.init [] w0
 refine cl1 h n_law37_sane (cc1 h.ext) fun w h => ?_
 refine Un_T (If_F (cl1 h n_law37_pick (cc2 h.ext) fun w h => ?_))
 refine Bn_ad (by omega) (by omega) ?_
 have hN := c_New (w0 := w) (k := k) (by omega)
 rw [hk] at hN
 refine Cl_i n_shard_New hN ?_
 rintro _ w1 ⟨x0, rfl, h'⟩
 replace h := h.cat1 h' shE_sm
 have hal := (h.get (i := 0) rfl : _ ∧ _).1.all9
 refine Ex2 (alS h fun g1 w h => ?_)
 refine stA h 0 rfl rfl hal rfl fun w h => ?_
 dsimp only [List.set] at h
 have hsh := (h.get (i := 1) rfl : _ ∧ _).1
 have hsv := hsh.st
 have hrv := hsh.ro
 rw [(Srd.ok_new (k := k) (by omega)).ro.len] at hrv
 have hkk : (Srd.new k).k = k := rfl
 refine Bn_neF (by omega) (Gd_F (faS (Gd_F (ld1 h 0 rfl rfl (Gd_F (leS hrv ?_))))))
 refine Gd_F (Bn_neF (by omega) (Pick_F (Gd_F (faS (Gd_F (ld1 h 0 rfl rfl (Gd_F (leS hsv ?_))))))))
 refine Gd_F (Bn_ltF (by omega) (Pick_F (If_F ?_)))
 have hI : ∃ (j : Nat) (x : Sx) (a : Ab) (fv : Value) (l : List Ft) (rest : List Et), Value.int IntKind.i64 0 = .int .i64 (j : Int) ∧ j ≤ xs.length ∧ j ≤ 30 ∧ Put k a ∧ Hp [] w0 w (bx g1 tSh (cS x a) :: shE x a fv l :: rest) :=
  ⟨0, x0, Srd.new k, .slice none 0 0, [], [], rfl, by omega, by omega, ⟨Srd.ok_new (by omega), rfl, rfl, rfl⟩, h⟩
 clear h h' hsh hsv hrv hal
 refine Lp1.mk (fun i W => ∃ (j : Nat) (x : Sx) (a : Ab) (fv : Value) (l : List Ft) (rest : List Et), i = .int .i64 (j : Int) ∧ j ≤ xs.length ∧ j ≤ 30 ∧ Put k a ∧ Hp [] w0 W (bx g1 tSh (cS x a) :: shE x a fv l :: rest))
  (fun i _ => match i with | .int _ i' => xs.length + 1 - i'.toNat | _ => 0) hI ?_
 clear hI hkk
 rintro _ W ⟨j, x, a, fv, l, rest, rfl, hj, hj30, hP, h⟩
 have hO := hP.ok
 by_cases hjl : j < xs.length ∧ j < 30
 ·have hj1 := hjl.1
  have hj2 := hjl.2
  refine Exists.elim (p := fun q => xs[j]? = some q) ⟨_, List.getElem?_eq_getElem hj1⟩ fun q hqj => ?_
  have sq : Seg (xs.flatMap fQ) (j * 4) (fQ q) := flat_seg (f := fQ) (fun _ => rfl) hqj
  have hqi := hq q (List.mem_of_getElem? hqj)
  have hcm : ∃ f, cmdOf a 0 q.2.1 q.2.2.1 q.2.2.2 = .put f := ⟨_, if_pos (by decide)⟩
  refine Exists.elim hcm fun f hf => ?_
  have hcok : CmdOk (.put f) := by rw [← hf]; exact cmdOf_ok
  have hcc : ∀ {w : World}, ShR w x a → Calls Tryz.prog 11 #[vSh x a, .agg #[.int .i64 0, .int .i64 q.2.1, .int .i64 q.2.2.1, .int .i64 q.2.2.2]] w (Ret fun r w' => Ext w w' ∧ r = vCmd (.put f)) := fun {w} hs => by
   rw [← hf]; exact c_Command hs hO (by omega) hqi.2.1 hqi.2.2.1 hqi.2.2.2
  have hd : (∃ p, Srd.step a (.put f) = some p) ∨ Srd.step a (.put f) = none := by
   cases Srd.step a (.put f) with
   | none => exact .inr rfl
   | some p => exact .inl ⟨p, rfl⟩
  refine leS (hx.hp h) ?_
  refine Bn_ltT (by omega) (Gd_T (Gd_T (Bn_ltT (by omega) (Pick_T (If_T ?_)))))
  refine Or.elim hd (fun hs => Exists.elim hs fun p hs => ?_) (fun hs => ?_)
  ·have hP' : Put k p.1 ∧ p.2 = [] := by
    have h1 := Srd.put_new (k := k) ⟨hP.mv, hP.rd, hP.k⟩ (l := p.2) (a' := p.1) hs
    exact ⟨⟨Srd.step_ok (l := p.2) hO hs, h1.1.2.2, h1.1.1, h1.1.2.1⟩, h1.2⟩
   refine Jn2.lfD (ι := Sx × Value) (.int .i64 0) (fun g i w => Hp [] w0 w (bx g tSh (cS i.1 p.1) :: shE i.1 p.1 i.2 p.2 :: bx g1 tSh (cS x a) :: shE x a fv l :: rest)) (fun K hK => ?_) (fun g i w h => ?_)
   ·replace h := h.dr
    refine dlA h 0 rfl rfl ?_
    refine dlA h 0 rfl rfl ?_
    refine diH h ‹_› (by omega) fun zb zo zk zv zc => ?_
    refine diZ (by decide) (by decide) ?_
    refine dh1 h ‹_› ‹_› (by rfl) ?_
    refine diH h ‹_› (by omega) fun zb zo zk zv zc => ?_
    refine diZ (by decide) (by decide) ?_
    refine dh1 h ‹_› ‹_› (by rfl) ?_
    refine diH h ‹_› (by omega) fun zb zo zk zv zc => ?_
    refine diZ (by decide) (by decide) ?_
    refine dh1 h ‹_› ‹_› (by rfl) ?_
    refine dbS (PC.cons (by rfl) (PC.cons (by rfl) (PC.cons (by rfl) (PC.cons (by rfl) PC.nil)))) (by rfl) ?_
    refine ⟨?_, ?_⟩
    ·refine cl1 h n_ref37_Command (hcc (h.get (i := 1) rfl : _ ∧ _).1) fun w h => ?_
     refine klA h 0 rfl rfl ?_
     refine ⟨?_, ?_⟩
     ·have h := Hp.perm h (List.Perm.swap _ _ _)
      refine cl_DoT h hO hcok hs fun x' fv' w h => ?_
      have h := Hp.perm h (List.Perm.cons _ (List.Perm.swap _ _ _))
      have hal := (h.get (i := 0) rfl : _ ∧ _).1.all9
      refine ExP3x (alS h fun g2 w h => ?_)
      refine klA h 2 rfl rfl ?_
      refine klA h 2 rfl rfl ?_
      refine kh1 h ‹_› ‹_› (by rfl) ?_
      refine kh1 h ‹_› ‹_› (by rfl) ?_
      refine kh1 h ‹_› ‹_› (by rfl) ?_
      refine stA h 0 rfl rfl hal rfl fun w h => ?_
      dsimp only [List.set] at h
      exact hK _ (x', fv') _ h
     ·refine alS h fun g2 w h => ?_
      refine klA h 1 rfl rfl ?_
      refine klA h 1 rfl rfl ?_
      refine kh1 h ‹_› ‹_› (by rfl) ?_
      refine kh1 h ‹_› ‹_› (by rfl) ?_
      refine kh1 h ‹_› ‹_› (by rfl) ?_
      have h := Hp.perm h (List.perm_middle (l₁ := [_, _]))
      refine cl_DoT h hO hcok hs fun x' fv' w h => ?_
      have h := Hp.perm h (List.Perm.cons _ (List.perm_middle (l₁ := [_, _])).symm)
      have hal := (h.get (i := 0) rfl : _ ∧ _).1.all9
      refine ExP3x (stA h 1 rfl rfl hal rfl fun w h => ?_)
      dsimp only [List.set] at h
      exact hK _ (x', fv') _ (Hp.perm h (List.Perm.swap _ _ _))
    ·refine alS h fun g2 w h => ?_
     refine klA h 1 rfl rfl ?_
     refine klA h 1 rfl rfl ?_
     refine kh1 h ‹_› ‹_› (by rfl) ?_
     refine kh1 h ‹_› ‹_› (by rfl) ?_
     refine kh1 h ‹_› ‹_› (by rfl) ?_
     refine cl1 h n_ref37_Command (hcc (h.get (i := 2) rfl : _ ∧ _).1) fun w h => ?_
     refine klA h 1 rfl rfl ?_
     have h := Hp.perm h (List.perm_middle (l₁ := [_, _]))
     refine cl_DoT h hO hcok hs fun x' fv' w h => ?_
     have h := Hp.perm h (List.Perm.cons _ (List.perm_middle (l₁ := [_, _])).symm)
     have hal := (h.get (i := 0) rfl : _ ∧ _).1.all9
     refine ExP3x (stA h 1 rfl rfl hal rfl fun w h => ?_)
     dsimp only [List.set] at h
     exact hK _ (x', fv') _ (Hp.perm h (List.Perm.swap _ _ _))
   have hal := (h.get (i := 1) rfl : _ ∧ _).1.all9
   refine Bn_eqT (by omega) (If_T (ldA h 0 rfl rfl ?_))
   refine stA h 2 rfl rfl hal rfl fun w h => ?_
   dsimp only [List.set] at h
   refine Bn_ad (by omega) (by omega) ?_
   exact ⟨⟨j + 1, i.1, p.1, i.2, p.2, shE x a fv l :: rest, rfl, by omega, by omega, hP'.1, Hp.perm (h.drop 1) (List.Perm.swap _ _ _)⟩, by show xs.length + 1 - ((j : Int) + 1).toNat < xs.length + 1 - (j : Int).toNat; omega⟩
  ·refine Jn2.lfD (ι := Unit) (.int .i64 370) (fun g _ w => Hp [] w0 w (bx g tSh zSh :: bx g1 tSh (cS x a) :: shE x a fv l :: rest)) (fun K hK => ?_) (fun g i w h => ?_)
   ·replace h := h.dr
    refine dlA h 0 rfl rfl ?_
    refine dlA h 0 rfl rfl ?_
    refine diH h ‹_› (by omega) fun zb zo zk zv zc => ?_
    refine diZ (by decide) (by decide) ?_
    refine dh1 h ‹_› ‹_› (by rfl) ?_
    refine diH h ‹_› (by omega) fun zb zo zk zv zc => ?_
    refine diZ (by decide) (by decide) ?_
    refine dh1 h ‹_› ‹_› (by rfl) ?_
    refine diH h ‹_› (by omega) fun zb zo zk zv zc => ?_
    refine diZ (by decide) (by decide) ?_
    refine dh1 h ‹_› ‹_› (by rfl) ?_
    refine dbS (PC.cons (by rfl) (PC.cons (by rfl) (PC.cons (by rfl) (PC.cons (by rfl) PC.nil)))) (by rfl) ?_
    refine ⟨?_, ?_⟩
    ·refine cl1 h n_ref37_Command (hcc (h.get (i := 1) rfl : _ ∧ _).1) fun w h => ?_
     refine klA h 0 rfl rfl ?_
     refine ⟨?_, ?_⟩
     ·have h := Hp.perm h (List.Perm.swap _ _ _)
      refine cl_DoN h hO hcok hs fun w h => ?_
      have h := Hp.perm h (List.Perm.swap _ _ _)
      refine ExP3x (alS h fun g2 w h => ?_)
      refine klA h 1 rfl rfl ?_
      refine klA h 1 rfl rfl ?_
      refine kh1 h ‹_› ‹_› (by rfl) ?_
      refine kh1 h ‹_› ‹_› (by rfl) ?_
      refine kh1 h ‹_› ‹_› (by rfl) ?_
      refine stA h 0 rfl rfl rfl rfl fun w h => ?_
      dsimp only [List.set] at h
      exact hK _ () _ h
     ·refine alS h fun g2 w h => ?_
      refine klA h 1 rfl rfl ?_
      refine klA h 1 rfl rfl ?_
      refine kh1 h ‹_› ‹_› (by rfl) ?_
      refine kh1 h ‹_› ‹_› (by rfl) ?_
      refine kh1 h ‹_› ‹_› (by rfl) ?_
      have h := Hp.perm h (List.perm_middle (l₁ := [_, _]))
      refine cl_DoN h hO hcok hs fun w h => ?_
      have h := Hp.perm h (List.perm_middle (l₁ := [_, _])).symm
      refine ExP3x (stA h 0 rfl rfl rfl rfl fun w h => ?_)
      exact hK _ () _ h
    ·refine alS h fun g2 w h => ?_
     refine klA h 1 rfl rfl ?_
     refine klA h 1 rfl rfl ?_
     refine kh1 h ‹_› ‹_› (by rfl) ?_
     refine kh1 h ‹_› ‹_› (by rfl) ?_
     refine kh1 h ‹_› ‹_› (by rfl) ?_
     refine cl1 h n_ref37_Command (hcc (h.get (i := 2) rfl : _ ∧ _).1) fun w h => ?_
     refine klA h 1 rfl rfl ?_
     have h := Hp.perm h (List.perm_middle (l₁ := [_, _]))
     refine cl_DoN h hO hcok hs fun w h => ?_
     have h := Hp.perm h (List.perm_middle (l₁ := [_, _])).symm
     refine ExP3x (stA h 0 rfl rfl rfl rfl fun w h => ?_)
     exact hK _ () _ h
   refine Bn_eqF (by omega) (If_F (Bn_ad (by omega) (by omega) ?_))
   exact ⟨⟨j + 1, x, a, fv, l, rest, rfl, by omega, by omega, hP, h.drop 1⟩, by show xs.length + 1 - ((j : Int) + 1).toNat < xs.length + 1 - (j : Int).toNat; omega⟩
 revert h; revert W; apply meet
 ·intro W lfT h
  by_cases hj1 : j < xs.length
  ·have hj2 : ¬ j < 30 := fun hc => hjl ⟨hj1, hc⟩
   refine leS (hx.hp h) ?_
   refine Bn_ltT (by omega) (Gd_T (Gd_T (Bn_ltF (by omega) (Pick_T (If_F (ldA h 0 rfl rfl ?_))))))
   exact lfT _ h
  ·refine leS (hx.hp h) ?_
   refine Bn_ltF (by omega) (Gd_FT (Gd_FT (Pick_F (If_F (ldA h 0 rfl rfl ?_)))))
   exact lfT _ h
 clear hj hj30 hjl
 intro W hW
 have hkk := hO.k
 have hrl := hO.ro.len
 have hsh := (hW.get (i := 1) rfl : _ ∧ _).1
 have hb1 := (hW.get (i := 0) rfl : Blk _ _ _ _)
 have hsv := hsh.st
 have hrv := hsh.ro
 have p8 := pk_bd (c := z1) (n := 8) (by omega)
 have pk1 := pk_bd (c := z2) (n := (a.k : Int) - 1) (by omega)
 refine Exists.elim (Int.eq_ofNat_of_zero_le p8.1) fun s hs8 => ?_
 have hfl : (facts a).length ≤ 400 := by unfold Srd.facts; rw [srt_len]; exact hO.nA
 have cc3 := fun {W' : World} (_ : Ext W W') => c_lpick (w0 := W') (c := z1) (n := 8) hz1 (by omega)
 have cc4 := fun {W' : World} (_ : Ext W W') => c_lpick (w0 := W') (c := z2) (n := (a.k : Int) - 1) hz2 (by omega)
 have cc5 := fun {W' : World} {n : Int} (_ : Ext W W') (h : 0 ≤ n ∧ n ≤ 999) => c_Slot (w := W') h
 have hs7 : s ≤ 7 := by omega
 have hri : ∃ r, a.ro[s]? = some r ∧ r = Srd.roAt a.ro s := by
  refine ⟨_, List.getElem?_eq_getElem (by omega), ?_⟩
  unfold Srd.roAt
  rw [List.getD_eq_getElem?_getD, Int.toNat_natCast, List.getElem?_eq_getElem (by omega)]
  rfl
 refine Exists.elim hri fun r hri => ?_
 have sr : Seg (a.ro.flatMap fI) (s * 1) (fI r) := flat_seg (f := fI) (fun _ => rfl) hri.1
 have hrb := Srd.roAt_bd hO.ro (s := (s : Int)) (by omega)
 rw [← hri.2] at hrb
 have hoth := Srd.other hkk hrb pk1
 rw [hs8] at cc3
 have h := Hp.init [] W
 skip
 refine Cl_i n_shard_Facts (c_Facts (hsh.ext h.ext) hO) ?_
 rintro _ w1 ⟨u, rfl, h'⟩
 replace h := h.cat1 h' ro_sm
 refine Ex2 (cl1 h n_law37_pick (cc3 h.ext) fun w h => ?_)
 refine faS (lg1 h ‹_› (by rfl) ?_)
 refine iaH h ‹_› (by omega) fun zb zo zk zv zc => ?_
 refine lh0 h ‹_› ‹_› (by rfl) ?_
 replace h := h.dr
 refine Dv_ad (by omega) (by omega) (dfS (dg1 h ‹_› (by rfl) ?_))
 refine dlS (hsv.hp h) ?_
 refine Dv_su (by omega) (by omega) (dfS (dg1 h ‹_› (by rfl) ?_))
 refine dlS (hsv.hp h) ?_
 refine cl1 h n_law37_pick (cc4 h.ext) fun w h => ?_
 refine kg1 h ‹_› (by rfl) ?_
 refine Dv_ad (by omega) (by omega) (Dv_rm (by omega) (by omega) ?_)
 refine Lp2.mk (fun c i W' => ∃ (j q : Nat), j ≤ (facts a).length ∧ i = .int .i64 j ∧ c = .int .i64 q ∧ q = (((facts a).take j).filter fun f => decide (Srd.slot f = s)).length ∧ Hp [] W W' [ro tFt 10 u (facts a).length ((facts a).flatMap fF)])
  (fun _ i _ => match i with | .int _ i' => (facts a).length - i'.toNat | _ => 0) ⟨0, 0, by omega, rfl, rfl, rfl, h.pick [0] (by decide) rfl⟩ ?_
 clear h h'
 rintro _ _ W' ⟨j', m, hj', rfl, rfl, hm, h⟩
 by_cases hjl' : j' < (facts a).length
 ·refine Exists.elim (p := fun f => (facts a)[j']? = some f) ⟨_, List.getElem?_eq_getElem hjl'⟩ fun f hf => ?_
  have sf : Seg ((facts a).flatMap fF) (j' * 10) (fF f) := flat_seg (f := fF) (fun _ => rfl) hf
  have htr := (hO.vf f (Srd.srt_mem.1 (List.mem_of_getElem? hf))).1
  have hcs := Srd.cnt_snoc (s := (s : Int)) hf
  have hcl : (((facts a).take j').filter fun f => decide (Srd.slot f = s)).length ≤ 400 := Nat.le_trans (List.length_filter_le _ _) (by rw [List.length_take]; omega)
  by_cases hfs : f.tr % 8 = s
  ·rw [if_pos (show Srd.slot f = s from hfs)] at hcs
   refine leS (qZ 0 h rfl) ?_
   refine Bn_ltT (by omega) (If_T (iaR h 0 rfl (by omega) fun zg zk zv => ?_))
   refine faS (lr1 h 0 rfl ‹_› sf (by rfl) ?_)
   refine cl1 h n_shard_Slot (cc5 h.ext ‹_›) fun w h => ?_
   refine Bn_eqT (by omega) (If_T (Bn_ad (by omega) (by omega) (Bn_ad (by omega) (by omega) ?_)))
   exact ⟨⟨j' + 1, m + 1, by omega, rfl, rfl, by rw [hcs, ← hm], h⟩, by show (facts a).length - ((j' : Int) + 1).toNat < (facts a).length - (j' : Int).toNat; omega⟩
  ·rw [if_neg (show ¬ Srd.slot f = s from hfs)] at hcs
   refine leS (qZ 0 h rfl) ?_
   refine Bn_ltT (by omega) (If_T (iaR h 0 rfl (by omega) fun zg zk zv => ?_))
   refine faS (lr1 h 0 rfl ‹_› sf (by rfl) ?_)
   refine cl1 h n_shard_Slot (cc5 h.ext ‹_›) fun w h => ?_
   refine Bn_eqF (by omega) (If_F (Bn_ad (by omega) (by omega) ?_))
   exact ⟨⟨j' + 1, m, by omega, rfl, rfl, by rw [hcs, ← hm, Nat.add_zero], h⟩, by show (facts a).length - ((j' : Int) + 1).toNat < (facts a).length - (j' : Int).toNat; omega⟩
 have hje : j' = (facts a).length := by omega
 subst hje
 have hcnt := Srd.nums_count a s
 rw [List.take_length, ← hcnt] at hm
 have hm4 : m ≤ 400 := by rw [hm, hcnt]; exact Nat.le_trans (List.length_filter_le _ _) hfl
 refine leS (qZ 0 h rfl) ?_
 refine Bn_ltF (by omega) (If_F (bdS (PC.cons (by rfl) (PC.cons (by rfl) (PC.cons (by rfl) PC.nil))) (by rfl) ?_))
 refine bs1A h (by rfl) (by decide) (by rfl) (by decide) fun v1 w h => ?_
 have hsn : ∀ (P : List Cmd) (c : Cmd), (P ++ [c]).length = P.length + 1 ∧ (P ++ [c]).flatMap cCmd = P.flatMap cCmd ++ cCmd c := fun P c => ⟨by rw [List.length_append]; rfl, by rw [List.flatMap_append]; simp⟩
 have hcv : ∀ (P : List Cmd) (c : Cmd) {w : World} {v : Value} {X : Et}, Hp [] W w [ro tX 15 v (P.length + 1) (P.flatMap cCmd ++ cCmd c), X] → Hp [] W w [ro tX 15 v (P ++ [c]).length ((P ++ [c]).flatMap cCmd), X] := fun P c {w v X} h => by rw [(hsn P c).1, (hsn P c).2]; exact h
 refine Lp2.mk (fun t i W' => ∃ (j : Nat) (P : List Cmd), j ≤ m ∧ i = .int .i64 j ∧ P = .beg s ((r + 1 + pk z2 ((a.k : Int) - 1)) % (a.k : Int)) :: List.replicate j (.cop 1) ∧ Hp [] W W' [ro tX 15 t P.length (P.flatMap cCmd), ro tFt 10 u (facts a).length ((facts a).flatMap fF)])
  (fun _ i _ => match i with | .int _ i' => m - i'.toNat | _ => 0) ⟨0, _, by omega, rfl, rfl, h⟩ ?_
 clear h
 rintro t _ W' ⟨j1, P, hj1, rfl, hPe, h⟩
 have hPl : P.length = j1 + 1 := by rw [hPe, List.length_cons, List.length_replicate]
 by_cases hjm : j1 < m
 ·have h1 := hsn P (.cop 1)
  refine Bn_ltT (by omega) (If_T (bdS (PC.cons (by rfl) (PC.cons (by rfl) PC.nil)) (by rfl) ?_))
  refine bs1A h (by rfl) (by decide) (by rfl) (by decide) fun v2 w h => ?_
  refine apR (by rfl) (by decide) h 1 rfl (qZ 0 h rfl) (by first | rfl | assumption) (by omega) fun v3 w h => ?_
  refine Bn_ad (by omega) (by omega) ?_
  dsimp only [List.set] at h
  refine ⟨⟨j1 + 1, P ++ [.cop 1], by omega, rfl, by rw [hPe, List.replicate_succ']; rfl, ?_⟩, by show m - ((j1 : Int) + 1).toNat < m - (j1 : Int).toNat; omega⟩
  rw [h1.1, h1.2]
  exact h.pick [1, 2] (by decide) rfl
 have hjme : j1 = m := by omega
 subst hjme
 refine Bn_ltF (by omega) (If_F (bdS (PC.cons (by rfl) PC.nil) (by rfl) ?_))
 refine bs1A h (by rfl) (by decide) (by rfl) (by decide) fun v2 w h => ?_
 refine apR (by rfl) (by decide) h 1 rfl (qZ 0 h rfl) (by first | rfl | assumption) (by omega) fun v3 w h => ?_
 dsimp only [List.set] at h
 refine Lp2.mk (fun t i W' => ∃ (j : Nat) (Q : List Cmd), j ≤ j1 ∧ i = .int .i64 j ∧ Q = P ++ .sw :: List.replicate j (.dro 1) ∧ Hp [] W W' [ro tX 15 t Q.length (Q.flatMap cCmd), ro tFt 10 u (facts a).length ((facts a).flatMap fF)])
  (fun _ i _ => match i with | .int _ i' => j1 - i'.toNat | _ => 0) ⟨0, P ++ [Cmd.sw], by omega, rfl, rfl, hcv P Cmd.sw (h.pick [1, 2] (by decide) rfl)⟩ ?_
 clear h
 rintro t _ W' ⟨j2, Q, hj2, rfl, hQe, h⟩
 have hQl : Q.length = j1 + 2 + j2 := by rw [hQe, List.length_append, List.length_cons, List.length_replicate]; omega
 by_cases hjm : j2 < j1
 ·have h1 := hsn Q (.dro 1)
  refine Bn_ltT (by omega) (If_T (bdS (PC.cons (by rfl) (PC.cons (by rfl) PC.nil)) (by rfl) ?_))
  refine bs1A h (by rfl) (by decide) (by rfl) (by decide) fun v4 w h => ?_
  refine apR (by rfl) (by decide) h 1 rfl (qZ 0 h rfl) (by first | rfl | assumption) (by omega) fun v5 w h => ?_
  refine Bn_ad (by omega) (by omega) ?_
  dsimp only [List.set] at h
  refine ⟨⟨j2 + 1, Q ++ [.dro 1], by omega, rfl, by rw [hQe, List.replicate_succ', List.append_assoc]; rfl, ?_⟩, by show j1 - ((j2 : Int) + 1).toNat < j1 - (j2 : Int).toNat; omega⟩
  rw [h1.1, h1.2]
  exact h.pick [1, 2] (by decide) rfl
 have hjme : j2 = j1 := by omega
 subst hjme
 refine Bn_ltF (by omega) (If_F (bdS (PC.cons (by rfl) (PC.cons (by rfl) PC.nil)) (by rfl) ?_))
 refine bs1A h (by rfl) (by decide) (by rfl) (by decide) fun v4 w h => ?_
 refine apR (by rfl) (by decide) h 1 rfl (qZ 0 h rfl) (by first | rfl | assumption) (by omega) fun v5 w h => ?_
 dsimp only [List.set] at h
 refine Lp2.mk (fun t i W' => ∃ (j : Nat) (R : List Cmd), j ≤ a.k ∧ i = .int .i64 j ∧ R = Q ++ .opn 1 :: List.replicate j (.rea 1) ∧ Hp [] W W' [ro tX 15 t R.length (R.flatMap cCmd), ro tFt 10 u (facts a).length ((facts a).flatMap fF)])
  (fun _ i _ => match i with | .int _ i' => a.k - i'.toNat | _ => 0) ⟨0, Q ++ [Cmd.opn 1], by omega, rfl, rfl, hcv Q (Cmd.opn 1) (h.pick [1, 2] (by decide) rfl)⟩ ?_
 clear h
 rintro t _ W' ⟨j3, Rc, hj3, rfl, hRe, h⟩
 have hRl : Rc.length = j2 + 2 + j2 + 1 + j3 := by rw [hRe, List.length_append, List.length_cons, List.length_replicate]; omega
 by_cases hjm : j3 < a.k
 ·have h1 := hsn Rc (.rea 1)
  refine faS (lg1 h ‹_› (by rfl) ?_)
  refine leS (hsv.hp h) ?_
  refine Bn_ltT (by omega) (If_T (bdS (PC.cons (by rfl) (PC.cons (by rfl) PC.nil)) (by rfl) ?_))
  refine bs1A h (by rfl) (by decide) (by rfl) (by decide) fun v6 w h => ?_
  refine apR (by rfl) (by decide) h 1 rfl (qZ 0 h rfl) (by first | rfl | assumption) (by omega) fun v7 w h => ?_
  refine Bn_ad (by omega) (by omega) ?_
  dsimp only [List.set] at h
  refine ⟨⟨j3 + 1, Rc ++ [.rea 1], by omega, rfl, by rw [hRe, List.replicate_succ', List.append_assoc]; rfl, ?_⟩, by show a.k - ((j3 : Int) + 1).toNat < a.k - (j3 : Int).toNat; omega⟩
  rw [h1.1, h1.2]
  exact h.pick [1, 2] (by decide) rfl
 have hjme : j3 = a.k := by omega
 subst hjme
 have hscr : Rc = Srd.script s ((r + 1 + pk z2 ((a.k : Int) - 1)) % (a.k : Int)) j2 a.k := by
  rw [hRe, hQe, hPe]
  unfold Srd.script
  simp
 have hrun : Srd.runs a Rc = some ({ a with ro := a.ro.set s ((r + 1 + pk z2 ((a.k : Int) - 1)) % (a.k : Int)), mv := mv0, lo := 0, hi := 0, rd := [] }, facts a) := by
  rw [hscr, hm]
  have := Srd.moves hO hP.mv hP.rd (s := (s : Int)) (e := (r + 1 + pk z2 ((a.k : Int) - 1)) % (a.k : Int)) (by omega) hoth.1 (by rw [← hri.2]; exact hoth.2)
  rw [Int.toNat_natCast] at this
  exact this
 have hcmd : ∀ c ∈ Rc, CmdOk c := by rw [hscr]; exact script_cmd
 refine faS (lg1 h ‹_› (by rfl) ?_)
 refine leS (hsv.hp h) ?_
 refine Bn_ltF (by omega) (If_F ?_)
 have h3 := (hW.cat2 h ro_sm ro_sm).nil tFt 10
 have h4 := Hp.perm (Hp.perm h3 (List.Perm.cons _ (List.perm_append_comm (l₁ := [_, _]) (l₂ := [_, _]) |>.append_right rest))) (.refl _)
 refine Lp2.mk (fun fo i W' => ∃ (j : Nat) (x1 : Sx) (a1 : Ab) (fv1 : Value) (l1 f1 : List Ft) (rest1 : List Et), j ≤ Rc.length ∧ i = .int .i64 j ∧ Srd.runs a (Rc.take j) = some (a1, f1) ∧ Srd.Ok a1 ∧
  Hp [] w0 W' (ro tFt 10 fo f1.length (f1.flatMap fF) :: bx g1 tSh (cS x1 a1) :: shE x1 a1 fv1 l1 :: ro tX 15 t Rc.length (Rc.flatMap cCmd) :: ro tFt 10 u (facts a).length ((facts a).flatMap fF) :: rest1))
  (fun _ i _ => match i with | .int _ i' => Rc.length - i'.toNat | _ => 0) ⟨0, x, a, fv, l, [], rest, by omega, rfl, rfl, hO, h4⟩ ?_
 clear h3 h4 h hW hsh hb1 hsv hrv sr cc3 cc4 cc5 hP
 rintro fo _ W' ⟨j, x1, a1, fv1, l1, f1, rest1, hj, rfl, hrj, hO1, h⟩
 by_cases hjl : j < Rc.length
 ·refine Exists.elim (p := fun c => Rc[j]? = some c) ⟨_, List.getElem?_eq_getElem hjl⟩ fun c hc => ?_
  have hco := hcmd c (List.mem_of_getElem? hc)
  have sc : Seg (Rc.flatMap cCmd) (j * 15) (fX (kC c) (fC c) (sC c) (tC c) (mC c) (rC c)) := by rw [← cCmd_x]; exact flat_seg (f := cCmd) cCmd_l hc
  have hst : ∃ p, Srd.step a1 c = some p ∧ Srd.runs a (Rc.take (j + 1)) = some (p.1, f1 ++ p.2) := by
   obtain ⟨b1, g1, b2, g2, r1, r2, r3⟩ := Srd.runs_at hrun hc
   rw [hrj] at r1
   cases r1
   exact ⟨(b2, g2), r2, r3⟩
  refine Exists.elim hst fun p hp => ?_
  have hs := hp.1
  have hO2 := Srd.step_ok (l := p.2) hO1 hs
  have hpre : (f1 ++ p.2).length ≤ 400 := by
   obtain ⟨f2, hf2⟩ := Srd.runs_pre hrun hp.2
   have := congrArg List.length hf2
   rw [List.length_append] at this
   omega
  rw [List.length_append] at hpre
  refine leS (qZ 3 h rfl) ?_
  refine Bn_ltT (by omega) (If_T ?_)
  refine Jn3.lfD (.int .i64 0) (fun g x' fv' w => Hp [] w0 w (bx g tSh (cS x' p.1) :: shE x' p.1 fv' p.2 :: shE x1 a1 fv1 l1 :: ro tFt 10 fo f1.length (f1.flatMap fF) :: bx g1 tSh (cS x1 a1) :: ro tX 15 t Rc.length (Rc.flatMap cCmd) :: ro tFt 10 u (facts a).length ((facts a).flatMap fF) :: rest1)) (fun K hK => ?_) (fun g x' fv' w h => ?_)
  ·replace h := h.dr
   refine dlA h 1 rfl rfl ?_
   refine diR h 3 rfl (by omega) fun zg zk zv => ?_
   refine drA h 3 rfl ‹_› sc (by rfl) ?_
   refine ⟨?_, ?_⟩
   ·have h := Hp.perm h (List.perm_middle (l₁ := [_, _]))
    refine cl_DoTX h hO1 hco hs fun x' fv' w h => ?_
    have hal := (h.get (i := 0) rfl : _ ∧ _).1.all9
    refine ExP3x (alS h fun g2 w h => ?_)
    refine klA h 4 rfl rfl ?_
    refine krA h 5 rfl ‹_› sc (by rfl) ?_
    refine stA h 0 rfl rfl hal rfl fun w h => ?_
    dsimp only [List.set] at h
    exact hK _ x' fv' _ h
   ·refine alS h fun g2 w h => ?_
    refine klA h 2 rfl rfl ?_
    refine krA h 4 rfl ‹_› sc (by rfl) ?_
    have h := Hp.perm h (List.perm_middle (l₁ := [_, _, _]))
    refine cl_DoTX h hO1 hco hs fun x' fv' w h => ?_
    have hal := (h.get (i := 0) rfl : _ ∧ _).1.all9
    refine ExP3x (stA h 2 rfl rfl hal rfl fun w h => ?_)
    dsimp only [List.set] at h
    exact hK _ x' fv' _ (Hp.perm h (List.perm_middle (l₁ := [_, _])))
  have hal := (h.get (i := 1) rfl : _ ∧ _).1.all9
  refine Bn_neF (by omega) (If_F (ldA h 0 rfl rfl ?_))
  refine stA h 4 rfl rfl hal rfl fun w h => ?_
  dsimp only [List.set] at h
  refine apR (by rfl) (by decide) h 3 rfl (h.get (i := 1) rfl : _ ∧ _).2 (one_fF _) (by omega) fun fo' w h => ?_
  dsimp only [List.set] at h
  refine Bn_ad (by omega) (by omega) ?_
  refine ⟨⟨j + 1, x', p.1, fv', p.2, f1 ++ p.2, shE x1 a1 fv1 l1 :: rest1, by omega, rfl, hp.2, hO2, ?_⟩, by show Rc.length - ((j : Int) + 1).toNat < Rc.length - (j : Int).toNat; omega⟩
  rw [List.length_append, List.flatMap_append]
  exact Hp.perm (Hp.perm (h.drop 1) (List.Perm.cons _ (List.perm_middle (l₁ := [_, _, _, _])).symm)) (List.perm_middle (l₁ := [_, _])).symm
 have hje : j = Rc.length := by omega
 subst hje
 rw [List.take_length, hrun] at hrj
 have ha1 := (congrArg Prod.fst (Option.some.inj hrj)).symm
 have hf1 : f1 = facts a := (congrArg Prod.snd (Option.some.inj hrj)).symm
 have ha1 : a1 = { a with ro := a.ro.set s ((r + 1 + pk z2 ((a.k : Int) - 1)) % (a.k : Int)), mv := mv0, lo := 0, hi := 0, rd := [] } := ha1
 have hin : ∀ (i : Int) (y : Hd), y ∈ Srd.store a1 i → Srd.slot y.1 = s → i = (r + 1 + pk z2 ((a.k : Int) - 1)) % (a.k : Int) := fun i y hy hs => by
  rw [ha1] at hy
  exact Srd.moved_in hrl hs7 hy hs
 have hmv1 : a1.mv = mv0 := by rw [ha1]
 have hrd1 : a1.rd = [] := by rw [ha1]
 have hfa1 : facts a1 = facts a := by rw [ha1]; rfl
 have hkk1 := hO1.k
 refine leS (qZ 3 h rfl) ?_
 refine Bn_ltF (by omega) (If_F ?_)
 have hb1 := (h.get (i := 1) rfl : Blk _ _ _ _)
 have hsh1 := (h.get (i := 2) rfl : _ ∧ _).1
 have hfo := h.sl (i := 0) rfl
 rw [hf1] at hfo
 have hu := h.sl (i := 4) rfl
 have hx0 := h.ext
 have hsv1 := hsh1.st
 have hdv1 := hsh1.rd
 have hrs0 : x1.rs.length = 0 := by
  have := congrArg List.length hsh1.rs
  rw [List.length_map, hrd1] at this
  exact this
 rw [hrs0] at hdv1
 have cc5 := fun {W : World} {n : Int} (_ : Ext W' W) (h : 0 ≤ n ∧ n ≤ 999) => c_Slot (w := W) h
 clear h
 have h := Hp.init [] W'
 refine Lp1.mk (fun i W => ∃ j : Nat, j ≤ a1.k ∧ i = .int .i64 j ∧ Hp [] W' W []) (fun i _ => match i with | .int _ i' => a1.k - i'.toNat | _ => 0) ⟨0, by omega, rfl, h⟩ ?_
 clear h
 rintro _ W3 ⟨i, hi, rfl, h⟩
 by_cases hik : i < a1.k
 ·refine Exists.elim (hsh1.at hik) fun v hv => ?_
  have hvi := hv.2
  have sv : Seg (x1.ls.flatMap fV) (i * 1) (fV v) := flat_seg (f := fV) (fun _ => rfl) hv.1
  have hsl : (Srd.store a1 i).length ≤ 400 := Nat.le_trans (Srd.store_len a1 i) hO1.nA
  refine faS (lg1 h ‹_› (by rfl) ?_)
  refine leS (hsv1.hp h) ?_
  refine Bn_ltT (by omega) (If_T (Lp1.mk (fun k' W => ∃ j : Nat, j ≤ (Srd.store a1 i).length ∧ k' = .int .i64 j ∧ Hp [] W' W []) (fun i' _ => match i' with | .int _ i' => (Srd.store a1 i).length - i'.toNat | _ => 0) ⟨0, by omega, rfl, h⟩ ?_))
  clear h
  rintro _ W4 ⟨q, hq', rfl, h⟩
  by_cases hql : q < (Srd.store a1 i).length
  rotate_left
  ·refine faS (lg1 h ‹_› (by rfl) ?_)
   refine iaH h ‹_› (by omega) fun zb zo zk zv zc => ?_
   refine lh0 h ‹_› ‹_› (by rfl) ?_
   refine leS (hvi.hp h) ?_
   refine Bn_ltF (by omega) (If_F (Bn_ad (by omega) (by omega) ?_))
   exact ⟨⟨i + 1, by omega, rfl, h⟩, by show a1.k - ((i : Int) + 1).toNat < a1.k - (i : Int).toNat; omega⟩
  refine Exists.elim (p := fun y => (Srd.store a1 i)[q]? = some y) ⟨_, List.getElem?_eq_getElem hql⟩ fun y hy => ?_
  have sy : Seg ((Srd.store a1 i).flatMap fH) (q * 11) (fH y) := flat_seg (f := fH) (fun _ => rfl) hy
  have hyo := Srd.store_mem (List.mem_of_getElem? hy)
  have hvf := hO1.vf _ (Srd.all_mem hyo.1).1
  have htr := hvf.1
  by_cases hsl2 : y.1.tr % 8 = s
  ·have hie := hin i y (List.mem_of_getElem? hy) hsl2
   refine faS (lg1 h ‹_› (by rfl) ?_)
   refine iaH h ‹_› (by omega) fun zb zo zk zv zc => ?_
   refine lh0 h ‹_› ‹_› (by rfl) ?_
   refine leS (hvi.hp h) ?_
   refine Bn_ltT (by omega) (If_T (faS (lg1 h ‹_› (by rfl) ?_)))
   refine iaH h ‹_› (by omega) fun zb zo zk zv zc => ?_
   refine lh0 h ‹_› ‹_› (by rfl) ?_
   refine iaH h ‹_› (by omega) fun zb zo zk zv zc => ?_
   refine faS (faS (lh2 h ‹_› ‹_› (by rfl) ?_))
   refine cl1 h n_shard_Slot (cc5 h.ext ‹_›) fun w h => ?_
   refine Bn_eqT (by omega) (Gd_T (Gd_T (Gd_T (Bn_neF (by omega) (Pick_T (If_F (Bn_ad (by omega) (by omega) ?_)))))))
   exact ⟨⟨q + 1, by omega, rfl, h⟩, by show (Srd.store a1 i).length - ((q : Int) + 1).toNat < (Srd.store a1 i).length - (q : Int).toNat; omega⟩
  ·refine faS (lg1 h ‹_› (by rfl) ?_)
   refine iaH h ‹_› (by omega) fun zb zo zk zv zc => ?_
   refine lh0 h ‹_› ‹_› (by rfl) ?_
   refine leS (hvi.hp h) ?_
   refine Bn_ltT (by omega) (If_T (faS (lg1 h ‹_› (by rfl) ?_)))
   refine iaH h ‹_› (by omega) fun zb zo zk zv zc => ?_
   refine lh0 h ‹_› ‹_› (by rfl) ?_
   refine iaH h ‹_› (by omega) fun zb zo zk zv zc => ?_
   refine faS (faS (lh2 h ‹_› ‹_› (by rfl) ?_))
   refine cl1 h n_shard_Slot (cc5 h.ext ‹_›) fun w h => ?_
   refine Bn_eqF (by omega) (Gd_FT (Gd_FT (Gd_FT (Pick_F (If_F (Bn_ad (by omega) (by omega) ?_))))))
   exact ⟨⟨q + 1, by omega, rfl, h⟩, by show (Srd.store a1 i).length - ((q : Int) + 1).toNat < (Srd.store a1 i).length - (q : Int).toNat; omega⟩
 have : i = a1.k := by omega
 subst this
 refine faS (lg1 h ‹_› (by rfl) ?_)
 refine leS (hsv1.hp h) ?_
 refine Bn_ltF (by omega) (If_F (lgA h ‹_› (by rfl) ?_))
 refine Cl_i n_shard_Facts (c_Facts (hsh1.ext h.ext) hO1) ?_
 rintro _ w1 ⟨u2, rfl, h'⟩
 replace h := h.cat1 h' ro_sm
 have hu2 := h.sl (i := 0) rfl
 rw [hfa1] at hu2
 refine Ex2 (Bn_eqT (by omega) (Gd_T (Gd_T (Bn_eqT (by omega) (Pick_T (Gd_T (faS (Gd_T (lgA h ‹_› (by rfl) ?_)))))))))
 refine Gd_T (bdS PC.nil (by rfl) ?_)
 refine Gd_T (eqMv (x := a1.mv) (y := mv0) ?_)
 rw [decide_eq_true hmv1]
 refine Pick_T (Gd_T (faS (Gd_T (lg1 h ‹_› (by rfl) ?_))))
 refine Gd_T (leS (hdv1.hp h) ?_)
 refine Gd_T (Bn_eqT (by omega) (Pick_T (Gd_T (Gd_T (Gd_T (cl1 h n_ref37_SameFacts (c_SameFacts (l := facts a) (hu.ext h.ext) hu2 (by omega)) fun w h => ?_))))))
 refine Pick_T (Gd_T (Gd_T (Gd_T (cl1 h n_ref37_SameFacts (c_SameFacts (l := facts a) (hfo.ext h.ext) (hu.ext h.ext) (by omega)) fun w h => ?_))))
 refine Pick_T ?_
 exact Ret.mk ⟨hx0.tr h.ext, rfl⟩
end
end Go.Proofs.YthdhnhghjecfkaaGreat
