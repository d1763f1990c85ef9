/-
  Contracts and plain lemmas. By an AI agent.
-/
import Derived.Test.YtjmdnjnjepinoaaGreatDoorLCpE
import Derived.Test.YtjmdnjnjepinoaaGreatDoorCpD
set_option linter.unusedSimpArgs false
set_option linter.unusedVariables false
set_option linter.unusedSectionVars false
namespace Go.Proofs.YtjmdnjnjepinoaaGreatDoor
open Go Go.Eng Go.Proofs Go.Num Go.RowKit
set_option maxRecDepth 100000
def oL {α : Type} (o : Option (List α)) : List α := o.getD []
def oZ {α : Type} (o : Option α) : Int := match o with | some _ => 0 | none => 260
theorem oZ_bd {α : Type} (o : Option α) : 0 ≤ oZ o ∧ oZ o ≤ 260 := by unfold oZ; split <;> omega
theorem penU {W : World} {f : FuncId} {args : Array Value} {o : Option (List Int)} (h : Calls Tryz.prog f args W (Ret (PenR W o))) :
 Calls Tryz.prog f args W (Ret fun r w' => ∃ v, r = .tuple #[v, .int .i64 (oZ o)] ∧ Hp [] W w' [ro tI 1 v (oL o).length ((oL o).flatMap fI)]) := by
 refine h.mono ?_
 rcases o with _ | m
 ·rintro _ w' ⟨_, rfl, rfl, x⟩
  exact Ret.mk ⟨_, rfl, ((Hp.init [] W).x x).nil tI 1⟩
 ·rintro _ w' ⟨_, rfl, v, rfl, h⟩
  exact Ret.mk ⟨_, rfl, h⟩
theorem bilU {W : World} {f : FuncId} {args : Array Value} {o : Option (List Du)} (h : Calls Tryz.prog f args W (Ret (BilR W o))) :
 Calls Tryz.prog f args W (Ret fun r w' => ∃ v, r = .tuple #[v, .int .i64 (oZ o)] ∧ Hp [] W w' [ro tD 3 v (oL o).length ((oL o).flatMap fU)]) := by
 refine h.mono ?_
 rcases o with _ | m
 ·rintro _ w' ⟨_, rfl, rfl, x⟩
  exact Ret.mk ⟨_, rfl, ((Hp.init [] W).x x).nil tD 3⟩
 ·rintro _ w' ⟨_, rfl, v, rfl, h⟩
  exact Ret.mk ⟨_, rfl, h⟩
theorem billE_du {q : Int × LE} {D : List Du} (hk : LEk q.2) (h : billE q = some D) : ∀ d ∈ D, DuI d := by
 unfold billE at h
 split at h
 ·split at h
  ·cases h; simp
  ·cases h
 ·rcases hs : splO q.1 q.2.sh with _ | t
  ·rw [hs] at h; cases h
  ·rw [hs] at h
   simp only [Option.bind_some] at h
   split at h
   ·next h4 =>
    cases h
    have hb := splO_bd hs
    have : ∀ {l : List Int} {k : Nat}, (∀ x ∈ l, 0 ≤ x ∧ x ≤ 1000000001) → ∀ d ∈ duesL q.2.rq k l, ((k : Int) ≤ d.2.1 ∧ d.2.1 < (k : Int) + l.length) ∧ (0 ≤ d.2.2 ∧ d.2.2 ≤ 1000000001) := by
     intro l
     induction l with
     | nil => intro k _ d hd; simp [duesL] at hd
     | cons n l ih =>
      intro k hl d hd
      have hn := hl n (by simp)
      have ih := fun hd => ih (k := k + 1) (fun x hx => hl x (by simp [hx])) d hd
      unfold duesL at hd
      split at hd
      ·rcases List.mem_cons.1 hd with rfl | hd
       ·simp only [List.length_cons]; omega
       ·have := ih hd; simp only [List.length_cons]; omega
      ·have := ih hd; simp only [List.length_cons]; omega
    intro d hd
    have h1 := this hb d hd
    have h2 := duesL_rq d hd
    have h3 := hk.rq
    rw [h4] at h1
    exact ⟨by rw [h2]; exact h3, by omega, by omega⟩
   ·cases h
theorem bil_du {c : CT} {l : List LE} (hk : ∀ e ∈ l, LEk e) : (∀ d ∈ oL (bilO c l), DuI d) ∧ (oL (bilO c l)).length ≤ 4 * l.length := by
 rcases h : bilO c l with _ | D
 ·exact ⟨by simp [oL], by simp [oL]⟩
 ·unfold bilO at h
  rcases hp : penO c (l.map (·.lt)) with _ | pen
  ·rw [hp] at h; cases h
  rw [hp] at h
  simp only [Option.bind_some] at h
  split at h
  ·rcases ha : allO billE (pen.zip l) with _ | E
   ·rw [ha] at h; cases h
   ·rw [ha] at h
    cases h
    refine ⟨fun d hd => ?_, ?_⟩
    ·obtain ⟨e, he, hd⟩ := List.mem_flatten.1 hd
     obtain ⟨q, hq, hqe⟩ := allO_mem ha he
     exact billE_du (hk q.2 (List.of_mem_zip hq).2) hqe d hd
    ·have := flat_le ha
     have h2 : (pen.zip l).length ≤ l.length := by rw [List.length_zip]; omega
     show E.flatten.length ≤ _
     omega
  ·cases h
theorem one_fL : ∀ l : List LE, ((l.flatMap fL).all fun x => x.oneCell') = true
 | [] => rfl
 | x :: l => by rw [List.flatMap_cons, List.all_append, one_fL l]; rfl
theorem take_fU (l : List Du) (k : Nat) : (l.flatMap fU).take (k * 3) = (l.take k).flatMap fU := by
 induction l generalizing k with
 | nil => simp
 | cons d l ih =>
  rcases k with _ | k
  ·simp
  ·have e : (k + 1) * 3 = k * 3 + 3 := by omega
   rw [List.flatMap_cons, List.take_succ_cons, List.flatMap_cons, ← ih, e]
   rfl
section
variable {W : World} {c : CT} (he : En W) (hc : CTk c)
include he hc
theorem m_valid {b : Bool} (hb : (valC c).isSome = b) : Calls Tryz.prog 15 #[.agg #[.int .i64 c.tm, .int .i64 c.gr, str c.p.1, str c.p.2, .int .i64 c.cap]] W (Ret fun r w' => Ext W w' ∧ r = .bool b) := by
 have := c_ValidC (w := W) hc he.hT
 rw [hb] at this; exact this
omit he in
theorem m_fvalid {b : Bool} (hb : (valC c).isSome = b) : Calls Tryz.prog 16 #[.agg #[.int .i64 c.tm, .int .i64 c.gr, str c.p.1, str c.p.2, .int .i64 c.cap]] W (Ret fun r w' => Ext W w' ∧ r = .bool b) := by
 have := c_fValidC (w := W) hc
 rw [hb] at this; exact this
theorem m_pen {u : Value} {l : List Int} (hu : SlC W 1 u l.length (l.flatMap fI)) (hI : ∀ y ∈ l, I64 y) (hl : l.length ≤ 110) : Calls Tryz.prog 13 #[.agg #[.int .i64 c.tm, .int .i64 c.gr, str c.p.1, str c.p.2, .int .i64 c.cap], u] W (Ret fun r w' => ∃ v, r = .tuple #[v, .int .i64 (oZ (penO c l))] ∧ Hp [] W w' [ro tI 1 v (oL (penO c l)).length ((oL (penO c l)).flatMap fI)]) := penU (c_Penalties hc hu hI (by omega) he)
omit he in
theorem m_fpen {u : Value} {l : List Int} (hu : SlC W 1 u l.length (l.flatMap fI)) (hI : ∀ y ∈ l, I64 y) (hl : l.length ≤ 110) : Calls Tryz.prog 14 #[.agg #[.int .i64 c.tm, .int .i64 c.gr, str c.p.1, str c.p.2, .int .i64 c.cap], u] W (Ret fun r w' => ∃ v, r = .tuple #[v, .int .i64 (oZ (penO c l))] ∧ Hp [] W w' [ro tI 1 v (oL (penO c l)).length ((oL (penO c l)).flatMap fI)]) := penU (c_fPenalties hc hu hI (by omega))
theorem m_bill {u : Value} {l : List LE} (hu : SlC W 3 u l.length (l.flatMap fL)) (hs : ∀ e ∈ l, SlC W 2 (.slice e.a e.n e.k) e.sh.length (e.sh.flatMap fR)) (hk : ∀ e ∈ l, LEk e) (hl : l.length ≤ 13) : Calls Tryz.prog 18 #[.agg #[.int .i64 c.tm, .int .i64 c.gr, str c.p.1, str c.p.2, .int .i64 c.cap], u] W (Ret fun r w' => ∃ v, r = .tuple #[v, .int .i64 (oZ (bilO c l))] ∧ Hp [] W w' [ro tD 3 v (oL (bilO c l)).length ((oL (bilO c l)).flatMap fU)]) := bilU (c_Bill hc hu hs hk (by omega) he)
omit he in
theorem m_fbill {u : Value} {l : List LE} (hu : SlC W 3 u l.length (l.flatMap fL)) (hs : ∀ e ∈ l, SlC W 2 (.slice e.a e.n e.k) e.sh.length (e.sh.flatMap fR)) (hk : ∀ e ∈ l, LEk e) (hl : l.length ≤ 13) : Calls Tryz.prog 19 #[.agg #[.int .i64 c.tm, .int .i64 c.gr, str c.p.1, str c.p.2, .int .i64 c.cap], u] W (Ret fun r w' => ∃ v, r = .tuple #[v, .int .i64 (oZ (bilO c l))] ∧ Hp [] W w' [ro tD 3 v (oL (bilO c l)).length ((oL (bilO c l)).flatMap fU)]) := bilU (c_fBill hc hu hs hk (by omega))
end
section
variable {W : World} {u : Value} {l : List Du} (hu : SlC W 3 u l.length (l.flatMap fU)) (hI : ∀ d ∈ l, DuI d) (hl : l.length ≤ 1000)
include hu hI hl
theorem m_tot : Calls Tryz.prog 21 #[u] W (Ret fun r w' => ∃ v, r = .tuple #[v, .int .i64 (oZ (totO l))] ∧ Hp [] W w' [ro tI 1 v (oL (totO l)).length ((oL (totO l)).flatMap fI)]) := penU (c_Totals hu hI (by omega))
theorem m_ftot : Calls Tryz.prog 22 #[u] W (Ret fun r w' => ∃ v, r = .tuple #[v, .int .i64 (oZ (totO l))] ∧ Hp [] W w' [ro tI 1 v (oL (totO l)).length ((oL (totO l)).flatMap fI)]) := penU (c_fTotals hu hI (by omega))
end
theorem oL_pen (c : CT) (l : List Int) : (oL (penO c l)).length ≤ 100 := by
 rcases h : penO c l with _ | m
 ·simp [oL]
 ·obtain ⟨x, _, hl, rfl⟩ := penO_some h
  show (penL _ _ _ _).length ≤ 100
  rw [penL_len]; exact hl.1
theorem oL_tot (l : List Du) : (oL (totO l)).length ≤ 4 := by
 unfold totO
 split
 ·show (totL l).length ≤ 4
  rw [totL_len]; exact Nat.le_refl _
 ·simp [oL]
theorem oL_spl (a : Int) (l : List RS) : (oL (splO a l)).length ≤ 12 := by
 rcases h : splO a l with _ | t
 ·simp [oL]
 ·have := splO_len h
  show t.length ≤ 12
  omega
theorem m_same {W : World} {u u' : Value} {l : List Int} (hl : l.length ≤ 1000) (h1 : SlC W 1 u l.length (l.flatMap fI)) (h2 : SlC W 1 u' l.length (l.flatMap fI)) : Calls Tryz.prog 17 #[u, u'] W (Ret fun r w' => Ext W w' ∧ r = .bool true) := c_SameT h1 h2 (by omega)
theorem m_samed {W : World} {u u' : Value} {l : List Du} (hl : l.length ≤ 1000) (h1 : SlC W 3 u l.length (l.flatMap fU)) (h2 : SlC W 3 u' l.length (l.flatMap fU)) : Calls Tryz.prog 20 #[u, u'] W (Ret fun r w' => Ext W w' ∧ r = .bool true) := c_SameD h1 h2 (by omega)
abbrev tLs : TypeId := 35
theorem dvNeB {wi cc : Bool} {b : Bool} {w : World} {KP : Value → Prop} (hk : KP (.bool false)) : Dv Tryz.prog wi (bn .neq 4 cc (.bool b) (.bool b)) w KP := by
 cases b <;> cases wi <;> ((try simp -dsimp [go_sem]); repeat (simp -dsimp (disch := omega) only [gL, gI]; try simp -dsimp [go_sem])) <;> exact hk
section
variable {w0 : World} {raw : CT} {x0 x1 x2 x3 : Int} {v2 v3 v5 v7 : Value} {l : List Int} {sh osh : List RS} {amount orq olt : Int} {y : List I5} {oa : Option Addr} {on ok : Nat} {du : List Du}
 (he : En w0) (r1 : I64 raw.tm) (r2 : I64 raw.gr) (r3 : I64 raw.cap) (h0 : I64 x0) (h1 : I64 x1) (h2 : I64 x2) (h3 : I64 x3)
 (hv2 : SlC w0 1 v2 l.length (l.flatMap fI)) (hlI : ∀ a ∈ l, I64 a) (hll : l.length ≤ 9223372036854775807)
 (hv3 : SlC w0 2 v3 sh.length (sh.flatMap fR)) (hsl : sh.length ≤ 9223372036854775807) (ham : I64 amount)
 (hv5 : SlC w0 5 v5 y.length (y.flatMap f5)) (hyI : I5ok y) (hyl : y.length ≤ 9223372036854775807)
 (o1 : I64 orq) (o2 : I64 olt) (hvo : SlC w0 2 (.slice oa on ok) osh.length (osh.flatMap fR)) (hol : osh.length ≤ 9223372036854775807)
 (hv7 : SlC w0 3 v7 du.length (du.flatMap fU)) (hdI : ∀ d ∈ du, DuI d) (hdl : du.length ≤ 9223372036854775807)
include he r1 r2 r3 h0 h1 h2 h3 hv2 hlI hll hv3 hsl ham hv5 hyI hyl o1 o2 hvo hol hv7 hdI hdl
set_option maxHeartbeats 16000000 in
theorem law_Match : Calls Tryz.prog 3 #[.agg #[.int .i64 raw.tm, .int .i64 raw.gr, str raw.p.1, str raw.p.2, .int .i64 raw.cap], .agg #[.int .i64 x0, .int .i64 x1, .int .i64 x2, .int .i64 x3], v2, v3, .int .i64 amount, v5, .agg #[.int .i64 orq, .int .i64 olt, .slice oa on ok], v7] w0 (Ret fun r w' => Ext w0 w' ∧ r = .bool true) := by
 have cc1 := fun {W : World} (x : Ext w0 W) => c_sane (w0 := W) (he.ext x)
 have hcut : ∀ {W : World} {v : Value} {s : List RS}, SlC W 2 v s.length (s.flatMap fR) → s.length ≤ 9223372036854775807 → Calls Tryz.prog 10 #[v] W (Ret fun r w' => ∃ a n k, r = .slice a n k ∧ Hp [] W w' [ro tR 2 (.slice a n k) (cutL s).length ((cutL s).flatMap fR)]) := fun hv hl => by
  refine (c_cut hv hl).mono ?_
  rintro _ w' ⟨r, rfl, h⟩
  obtain ⟨a, m, k, rfl⟩ := slc_mk (qZ 0 h rfl)
  exact Ret.mk ⟨a, m, k, rfl, h⟩
 have hreq : ∀ {W : World}, Ext w0 W → Calls Tryz.prog 11 #[v5] W (Ret fun r w' => ∃ a n k ks L, r = .slice a n k ∧ L.length ≤ 12 ∧ MadeL L ∧ OwnK ks L ∧ Hp [] W w' [ro tLt 3 (.slice a n k) L.length (L.flatMap fL), shE ks L]) := fun e => by
  refine (c_Requests (hv5.ext e) hyI hyl).mono ?_
  rintro _ w' ⟨r, rfl, ks, L, a1, a2, a3, h⟩
  obtain ⟨a, m, k, rfl⟩ := slc_mk (qZ 0 h rfl)
  exact Ret.mk ⟨a, m, k, ks, L, rfl, a1, a2, a3, h⟩
 have cc2 : ∀ {W : World}, Ext w0 W → Calls Tryz.prog 12 #[.agg #[.int .i64 x0, .int .i64 x1, .int .i64 x2, .int .i64 x3]] W (Ret fun r w' => Ext W w' ∧ r = aC (pickZ x0 4) (pickZ x1 4) (smQ x2 x0) (capZ x3)) := fun {W} _ => c_Made h0 h1 h2 h3
 apply e_law26_ContractMatchesReference
 unfold s_law26_ContractMatchesReference
 have h := Hp.init [] w0
 refine bxA h fun g1 w h => ?_
 refine bxA h fun g2 w h => ?_
 refine bxA h fun g3 w h => ?_
 refine cl1 h n_law26_sane (cc1 h.ext) fun w h => ?_
 refine faS (ldA h 2 rfl rfl ?_)
 refine bs1A h (by rfl) (by decide) (by rfl) (by decide) fun v1 w h => ?_
 refine Cl_i n_law26_cut (hcut (s := [raw.p]) (qZ 0 h rfl) (by simp)) ?_
 rintro _ w' ⟨a1, n1, k1, rfl, hh⟩
 have h := h.cat1 hh ro_sm
 have h : Hp [] w0 w' (ro tR 2 (.slice a1 n1 k1) 1 [str (raw.p.1.take 50), str (raw.p.2.take 50)] :: _) := h
 clear hh
 have sc0 : Seg [str (raw.p.1.take 50), str (raw.p.2.take 50)] ((0 : Int).toNat * 2) [str (raw.p.1.take 50), str (raw.p.2.take 50)] := fun k u hk => by simpa using hk
 refine iaRz h 0 rfl (by omega) (by omega) fun zg zk zv => ?_
 refine lrA h 0 rfl ‹_› ‹_› (by rfl) ?_
 refine faS (stA h 4 rfl rfl rfl rfl fun w h => ?_)
 refine leS (hv2.hp h) ?_
 refine Bt_mi ?_
 refine scHz (hv2.hp h) (by first | omega | decide) (by first | omega | decide) fun v4 p1 => ?_
 dsimp only [List.set] at h
 refine Cl_i n_law26_cut (hcut (s := sh) (hv3.hp h) hsl) ?_
 rintro _ w' ⟨a2, n2, k2, rfl, hh⟩
 have h := h.cat1 hh ro_sm
 clear hh
 refine faS (Eng.ld1 h 3 rfl rfl (Cl_i n_law26_cut (hcut (s := osh) (hvo.hp h) hol) ?_))
 rintro _ w' ⟨a3, n3, k3, rfl, hh⟩
 have h := h.cat1 hh ro_sm
 clear hh
 refine faS (st1 h 4 rfl rfl rfl rfl fun w h => ?_)
 dsimp only [List.set] at h
 refine Cl_i n_ref26_Requests (hreq h.ext) ?_
 rintro _ w' ⟨a4, n4, k4, ks, L, rfl, hL, hM, hO, hh⟩
 have h := h.cat2 hh ro_sm (shE_sm hO)
 clear hh
 replace h := h.dr
 refine dlA h 8 rfl rfl ?_
 refine dlA h 7 rfl rfl ?_
 refine cl1 h n_ref26_Made (cc2 h.ext) fun w h => ?_
 refine klA h 8 rfl rfl ?_
 refine bsN (vs := [_, _]) h (.cons (by rfl) (by rfl) (.cons (by rfl) (by rfl) .nil)) (by rfl) (by rfl) (by decide) (by decide) (by decide) fun v6 w h => ?_
 refine dlS (qZ 0 h rfl) ?_
 refine Exists.elim (p := fun c1 : CT => (⟨raw.tm, raw.gr, cutR raw.p, raw.cap⟩ : CT) = c1) ⟨_, rfl⟩ fun c1 hc1 => ?_
 refine Exists.elim (p := fun c2 : CT => (⟨pickZ x0 4, pickZ x1 4, tx (smQ x2 x0), capZ x3⟩ : CT) = c2) ⟨_, rfl⟩ fun c2 hc2 => ?_
 have h := h.pick [0, 1, 2, 7, 3, 4] (by decide) rfl
 have h : Hp [] w0 w [ro tC 5 v6 2 ([(⟨raw.tm, raw.gr, cutR raw.p, raw.cap⟩ : CT), ⟨pickZ x0 4, pickZ x1 4, tx (smQ x2 x0), capZ x3⟩].flatMap fC), ro tLt 3 (.slice a4 n4 k4) L.length (L.flatMap fL), shE ks L, bx g3 tLt [.int .i64 orq, .int .i64 olt, .slice a3 n3 k3], ro tR 2 (.slice a3 n3 k3) (cutL osh).length ((cutL osh).flatMap fR), ro tR 2 (.slice a2 n2 k2) (cutL sh).length ((cutL sh).flatMap fR)] := h
 rw [hc1, hc2] at h
 have hck1 : CTk c1 := by rw [← hc1]; exact ⟨r1, r2, r3, by show (raw.p.1.take 50).length ≤ 1000000; rw [List.length_take]; omega, by show (raw.p.2.take 50).length ≤ 1000000; rw [List.length_take]; omega⟩
 have hck2 : CTk c2 := by
  have t0 := pickZ_bd (c := x0) (n := 4) (by decide)
  have t1 := pickZ_bd (c := x1) (n := 4) (by decide)
  have t3 := capZ_bd x3
  have hP := smQ_Pri x2 x0
  rw [← hc2]
  exact ⟨by show I64 (pickZ x0 4); omega, by show I64 (pickZ x1 4); omega, by show I64 (capZ x3); omega, itoa_ok hP.s.rb.n, itoa_ok hP.s.rb.d⟩
 have hcks : ∀ c ∈ [c1, c2], CTk c := fun c hc => by
  simp only [List.mem_cons, List.not_mem_nil, or_false] at hc
  rcases hc with rfl | rfl
  ·exact hck1
  ·exact hck2
 have hLk := hM.k hL
 refine Exists.elim (p := fun oe : LE => (⟨orq, olt, a3, n3, k3, cutL osh⟩ : LE) = oe) ⟨_, rfl⟩ fun oe hoe => ?_
 have hok : LEk oe := by rw [← hoe]; exact ⟨o1, o2, cutL_ok _, by have := cutL_len osh; show (cutL osh).length ≤ _; omega⟩
 have hLk2 : ∀ e ∈ L ++ [oe], LEk e := fun e he => by
  rcases List.mem_append.1 he with he | he
  ·exact hLk e he
  ·simp at he; subst he; exact hok
 have hL13 : L.length ≤ 13 := by omega
 have hL2 : (L ++ [oe]).length ≤ 13 := by rw [List.length_append, List.length_singleton]; omega
 have hone := one_fL L
 refine Exists.elim (p := fun m : Nat => (min (l.length : Int) 110).toNat = m) ⟨_, rfl⟩ fun m110 hm110 => ?_
 have hlt : (l.take m110).length = m110 := take_len (by omega)
 have hltI : ∀ a ∈ l.take m110, I64 a := fun a ha => hlI a (List.mem_of_mem_take ha)
 rw [hm110] at p1
 have cc1 := fun {W : World} (_ : Ext w0 W) => c_pickL (w := W) (c := amount) (n := 1000) ham (by decide)
 have b1000 := pickZ_bd (c := amount) (n := 1000) (by decide)
 clear cc2 hcut hreq
 refine Lp1.mk (fun i W => ∃ j : Nat, j ≤ 2 ∧ i = .int .i64 j ∧ Hp [] w0 W [ro tC 5 v6 2 ([c1, c2].flatMap fC), ro tLt 3 (.slice a4 n4 k4) L.length (L.flatMap fL), shE ks L, bx g3 tLt [.int .i64 orq, .int .i64 olt, .slice a3 n3 k3], ro tR 2 (.slice a3 n3 k3) (cutL osh).length ((cutL osh).flatMap fR), ro tR 2 (.slice a2 n2 k2) (cutL sh).length ((cutL sh).flatMap fR)])
  (fun i _ => match i with | .int _ i' => 2 - i'.toNat | _ => 0) ⟨0, by omega, rfl, h⟩ ?_
 clear h
 rintro _ W ⟨j, hj, rfl, h⟩
 by_cases hjl : j < 2
 rotate_left
 ·clear hone
  refine Bn_ltF (by omega) (If_F (cl1 h n_law26_pick (cc1 h.ext) fun w h => ?_))
  refine bsN (vs := [_, _]) h (.cons (by rfl) (by rfl) (.cons (by rfl) (by rfl) .nil)) (by rfl) (by rfl) (by decide) (by decide) (by decide) fun v8 w h => ?_
  refine leS (qZ 0 h rfl) ?_
  have h := h.pick [0, 6] (by decide) rfl
  refine Exists.elim (p := fun ns : List Int => [amount, pickZ amount 1000] = ns) ⟨_, rfl⟩ fun ns hns => ?_
  have h : Hp [] w0 w [ro tI 1 v8 2 ([amount, pickZ amount 1000].flatMap fI), ro tR 2 (.slice a2 n2 k2) (cutL sh).length ((cutL sh).flatMap fR)] := h
  have hnI : ∀ n ∈ [amount, pickZ amount 1000], I64 n := fun n hn => by
   simp only [List.mem_cons, List.not_mem_nil, or_false] at hn
   rcases hn with rfl | rfl
   ·exact ham
   ·omega
  have hnl : ns.length = 2 := by rw [← hns]; rfl
  rw [hns] at h hnI
  clear cc1
  refine Lp1.mk (fun i W => ∃ k : Nat, k ≤ 2 ∧ i = .int .i64 k ∧ Hp [] w0 W [ro tI 1 v8 2 (ns.flatMap fI), ro tR 2 (.slice a2 n2 k2) (cutL sh).length ((cutL sh).flatMap fR)])
   (fun i _ => match i with | .int _ i' => 2 - i'.toNat | _ => 0) ⟨0, by omega, rfl, h⟩ ?_
  clear h
  rintro _ W ⟨k, hk, rfl, h⟩
  by_cases hkl : k < 2
  ·refine Exists.elim (p := fun x => ns[k]? = some x) ⟨_, List.getElem?_eq_getElem (by omega)⟩ fun n hn => ?_
   have sn : Seg (ns.flatMap fI) (k * 1) (fI n) := flat_seg (f := fI) (fun _ => rfl) hn
   have hni := hnI n (List.mem_of_getElem? hn)
   have hz := oZ_bd (splO n (cutL sh))
   have cr1 : ∀ {W : World}, Ext w0 W → ∀ {u : Value}, SlC W 2 u (cutL sh).length ((cutL sh).flatMap fR) → Calls Tryz.prog 24 #[.int .i64 n, u] W (Ret fun r w' => ∃ v, r = .tuple #[v, .int .i64 (oZ (splO n (cutL sh)))] ∧ Hp [] W w' [ro tI 1 v (oL (splO n (cutL sh))).length ((oL (splO n (cutL sh))).flatMap fI)]) := fun {W} e u hu => penU (c_Split hu (cutL_ok sh) (by have := cutL_len sh; omega) hni (he.ext e))
   have cr2 : ∀ {W : World}, Ext w0 W → ∀ {u : Value}, SlC W 2 u (cutL sh).length ((cutL sh).flatMap fR) → Calls Tryz.prog 25 #[.int .i64 n, u] W (Ret fun r w' => ∃ v, r = .tuple #[v, .int .i64 (oZ (splO n (cutL sh)))] ∧ Hp [] W w' [ro tI 1 v (oL (splO n (cutL sh))).length ((oL (splO n (cutL sh))).flatMap fI)]) := fun {W} e u hu => penU (c_fSplit hu (cutL_ok sh) (by have := cutL_len sh; omega) hni)
   have cc3 : ∀ {W : World}, Ext w0 W → ∀ {u u' : Value}, SlC W 1 u (oL (splO n (cutL sh))).length ((oL (splO n (cutL sh))).flatMap fI) → SlC W 1 u' (oL (splO n (cutL sh))).length ((oL (splO n (cutL sh))).flatMap fI) → Calls Tryz.prog 17 #[u, u'] W (Ret fun r w' => Ext W w' ∧ r = .bool true) := fun {W} _ u u' a b => m_same (by have := oL_spl n (cutL sh); omega) a b
   refine Bn_ltT (by omega) (If_T (iaR h 0 rfl (by omega) fun zg zk zv => ?_))
   refine lr0 h 0 rfl ‹_› ‹_› (by rfl) ?_
   refine clR h n_contract_Split (cr1 h.ext (by first | exact (qZ 1 h rfl) | assumption)) fun v9 w h => ?_
   refine Ex2 (clR h n_ref26_Split (cr2 h.ext (by first | exact (qZ 2 h rfl) | assumption)) fun v10 w h => ?_)
   refine Ex2 (Bn_neF (by omega) (Gd_F (Gd_F (Gd_F (cl1 h n_ref26_Same (cc3 h.ext (by first | exact (qZ 1 h rfl) | assumption) (by first | exact (qZ 0 h rfl) | assumption)) fun w h => ?_)))))
   refine Gd_F (Un_T (Pick_F (If_F (Bn_ad (by omega) (by omega) ?_))))
   exact ⟨⟨k + 1, by omega, rfl, h.pick [2, 3] (by decide) rfl⟩, by show 2 - ((k : Int) + 1).toNat < 2 - (k : Int).toNat; omega⟩
  have hz := oZ_bd (totO (du.take (min (du.length : Int) 10).toNat))
  have hdt : (du.take (min (du.length : Int) 10).toNat).length = (min (du.length : Int) 10).toNat := take_len (by omega)
  have hdtI : ∀ d ∈ du.take (min (du.length : Int) 10).toNat, DuI d := fun d hd => hdI d (List.mem_of_mem_take hd)
  have cr1 : ∀ {W : World}, Ext w0 W → ∀ {u : Value}, SlC W 3 u (min (du.length : Int) 10).toNat ((du.flatMap fU).take ((min (du.length : Int) 10).toNat * 3)) → Calls Tryz.prog 21 #[u] W (Ret fun r w' => ∃ v, r = .tuple #[v, .int .i64 (oZ (totO (du.take (min (du.length : Int) 10).toNat)))] ∧ Hp [] W w' [ro tI 1 v (oL (totO (du.take (min (du.length : Int) 10).toNat))).length ((oL (totO (du.take (min (du.length : Int) 10).toNat))).flatMap fI)]) := fun {W} e u hu => by
   rw [take_fU] at hu
   exact m_tot (by rw [hdt]; exact hu) hdtI (by omega)
  have cr2 : ∀ {W : World}, Ext w0 W → ∀ {u : Value}, SlC W 3 u (min (du.length : Int) 10).toNat ((du.flatMap fU).take ((min (du.length : Int) 10).toNat * 3)) → Calls Tryz.prog 22 #[u] W (Ret fun r w' => ∃ v, r = .tuple #[v, .int .i64 (oZ (totO (du.take (min (du.length : Int) 10).toNat)))] ∧ Hp [] W w' [ro tI 1 v (oL (totO (du.take (min (du.length : Int) 10).toNat))).length ((oL (totO (du.take (min (du.length : Int) 10).toNat))).flatMap fI)]) := fun {W} e u hu => by
   rw [take_fU] at hu
   exact m_ftot (by rw [hdt]; exact hu) hdtI (by omega)
  have cc3 : ∀ {W : World}, Ext w0 W → ∀ {u u' : Value}, SlC W 1 u (oL (totO (du.take (min (du.length : Int) 10).toNat))).length ((oL (totO (du.take (min (du.length : Int) 10).toNat))).flatMap fI) → SlC W 1 u' (oL (totO (du.take (min (du.length : Int) 10).toNat))).length ((oL (totO (du.take (min (du.length : Int) 10).toNat))).flatMap fI) → Calls Tryz.prog 17 #[u, u'] W (Ret fun r w' => Ext W w' ∧ r = .bool true) := fun {W} _ u u' a b => m_same (by have := oL_tot (du.take (min (du.length : Int) 10).toNat); omega) a b
  refine Bn_ltF (by omega) (If_F (leS (hv7.hp h) ?_))
  refine Bt_mi ?_
  refine scHz (hv7.hp h) (by first | omega | decide) (by first | omega | decide) fun v9 p2 => ?_
  refine clR h n_contract_Totals (cr1 h.ext (by first | exact (p2.2 _ (hv7.hp h)) | assumption)) fun v10 w h => ?_
  refine Ex2 (clR h n_ref26_Totals (cr2 h.ext (by first | exact (p2.2 _ (hv7.hp h)) | assumption)) fun v11 w h => ?_)
  refine Ex2 (Gd_T (Gd_T (Gd_T (Bn_eqT (by omega) (Pick_T (Gd_T (Gd_T (Gd_T (cl1 h n_ref26_Same (cc3 h.ext (by first | exact (qZ 1 h rfl) | assumption) (by first | exact (qZ 0 h rfl) | assumption)) fun w h => ?_)))))))))
  refine Pick_T ?_
  exact Ret.mk ⟨h.ext, rfl⟩
 clear cc1
 refine Exists.elim (p := fun x => [c1, c2][j]? = some x) ⟨_, List.getElem?_eq_getElem hjl⟩ fun c hc => ?_
 have sc : Seg ([c1, c2].flatMap fC) (j * 5) (fC c) := flat_seg (f := fC) (fun _ => rfl) hc
 have hck := hcks c (List.mem_of_getElem? hc)
 refine Exists.elim (p := fun b => (valC c).isSome = b) ⟨_, rfl⟩ fun b hb => ?_
 have cc1 := fun {W : World} (x : Ext w0 W) => m_valid (he.ext x) hck hb
 have cc2 := fun {W : World} (_ : Ext w0 W) => m_fvalid (W := W) hck hb
 have hzp := oZ_bd (penO c (l.take m110))
 have cr1 : ∀ {W : World}, Ext w0 W → ∀ {u : Value}, SlC W 1 u m110 ((l.flatMap fI).take (m110 * 1)) → Calls Tryz.prog 13 #[.agg #[.int .i64 c.tm, .int .i64 c.gr, str c.p.1, str c.p.2, .int .i64 c.cap], u] W (Ret fun r w' => ∃ v, r = .tuple #[v, .int .i64 (oZ (penO c (l.take m110)))] ∧ Hp [] W w' [ro tI 1 v (oL (penO c (l.take m110))).length ((oL (penO c (l.take m110))).flatMap fI)]) := fun {W} e u hu => by
  rw [take_fI] at hu
  exact m_pen (he.ext e) hck (by rw [hlt]; exact hu) hltI (by omega)
 have cr2 : ∀ {W : World}, Ext w0 W → ∀ {u : Value}, SlC W 1 u m110 ((l.flatMap fI).take (m110 * 1)) → Calls Tryz.prog 14 #[.agg #[.int .i64 c.tm, .int .i64 c.gr, str c.p.1, str c.p.2, .int .i64 c.cap], u] W (Ret fun r w' => ∃ v, r = .tuple #[v, .int .i64 (oZ (penO c (l.take m110)))] ∧ Hp [] W w' [ro tI 1 v (oL (penO c (l.take m110))).length ((oL (penO c (l.take m110))).flatMap fI)]) := fun {W} e u hu => by
  rw [take_fI] at hu
  exact m_fpen hck (by rw [hlt]; exact hu) hltI (by omega)
 have cc3 : ∀ {W : World}, Ext w0 W → ∀ {u u' : Value}, SlC W 1 u (oL (penO c (l.take m110))).length ((oL (penO c (l.take m110))).flatMap fI) → SlC W 1 u' (oL (penO c (l.take m110))).length ((oL (penO c (l.take m110))).flatMap fI) → Calls Tryz.prog 17 #[u, u'] W (Ret fun r w' => Ext W w' ∧ r = .bool true) := fun {W} _ u u' a b => m_same (by have := oL_pen c (l.take m110); omega) a b
 refine Bn_ltT (by omega) (If_T (iaR h 0 rfl (by omega) fun zg zk zv => ?_))
 refine lrA h 0 rfl ‹_› ‹_› (by rfl) ?_
 refine alS h fun g4 w h => ?_
 refine stA h 0 rfl rfl rfl rfl fun w h => ?_
 refine ldA h 0 rfl rfl ?_
 refine clR h n_contract_Penalties (cr1 h.ext (by first | exact (p1.2 _ (hv2.hp h)) | assumption)) fun v8 w h => ?_
 refine Ex2 (ldA h 1 rfl rfl ?_)
 refine clR h n_ref26_Penalties (cr2 h.ext (by first | exact (p1.2 _ (hv2.hp h)) | assumption)) fun v9 w h => ?_
 refine Ex2 ?_
 replace h := h.dr
 refine dlA h 2 rfl rfl ?_
 refine dlA h 2 rfl rfl ?_
 refine cl1 h n_contract_Valid (cc1 h.ext) fun w h => ?_
 refine klA h 2 rfl rfl ?_
 refine cl1 h n_ref26_Valid (cc2 h.ext) fun w h => ?_
 dsimp only [List.set] at h
 refine dvNeB ?_
 refine GdP_F (GdP_F (GdP_F (Dv_neF (by omega) (PickP_F (GdP_F (GdP_F (Gd_F (cl1 h n_ref26_Same (cc3 h.ext (by first | exact (qZ 1 h rfl) | assumption) (by first | exact (qZ 0 h rfl) | assumption)) fun w h => ?_))))))))
 refine GdP_F (Dv_nT (PickP_F (If_F ?_)))
 have h := h.pick [2, 3, 4, 5, 6, 7, 8] (by decide) rfl
 clear cc1 cc2 cc3 cr1 cr2
 refine Jn3.mk fun K hK => ?_
 have lf1 : ∀ u va w, Hp [] w0 w [ro tLs 1 u 2 [.slice a4 n4 k4, va], ro tLt 3 va (0 + L.length + 1) ([] ++ L.flatMap fL ++ [.int .i64 orq, .int .i64 olt, .slice a3 n3 k3]), bx g4 tC (fC c), ro tC 5 v6 2 ([c1, c2].flatMap fC), ro tLt 3 (.slice a4 n4 k4) L.length (L.flatMap fL), shE ks L, bx g3 tLt [.int .i64 orq, .int .i64 olt, .slice a3 n3 k3], ro tR 2 (.slice a3 n3 k3) (cutL osh).length ((cutL osh).flatMap fR), ro tR 2 (.slice a2 n2 k2) (cutL sh).length ((cutL sh).flatMap fR)] → K u (.int .i64 2) (.int .i64 0) w := by
  clear h
  intro u va w h
  obtain ⟨a5, n5, k5, rfl⟩ := slc_mk (qZ 1 h rfl)
  rw [show 0 + L.length + 1 = (L ++ [oe]).length by simp, show [] ++ L.flatMap fL ++ [.int .i64 orq, .int .i64 olt, .slice a3 n3 k3] = (L ++ [oe]).flatMap fL by rw [← hoe]; simp] at h
  refine hK _ _ _ _ ?_
  clear hK
  have s0 : Seg [Value.slice a4 n4 k4, .slice a5 n5 k5] ((0 : Int).toNat * 1) [.slice a4 n4 k4] := seg_one rfl
  have s1 : Seg [Value.slice a4 n4 k4, .slice a5 n5 k5] ((1 : Int).toNat * 1) [.slice a5 n5 k5] := seg_one rfl
  refine Lp1.mk (fun i W => (i = .int .i64 0 ∨ i = .int .i64 1 ∨ i = .int .i64 2) ∧ Hp [] w0 W [ro tLs 1 u 2 [.slice a4 n4 k4, .slice a5 n5 k5], ro tLt 3 (.slice a5 n5 k5) (L ++ [oe]).length ((L ++ [oe]).flatMap fL), bx g4 tC (fC c), ro tC 5 v6 2 ([c1, c2].flatMap fC), ro tLt 3 (.slice a4 n4 k4) L.length (L.flatMap fL), shE ks L, bx g3 tLt [.int .i64 orq, .int .i64 olt, .slice a3 n3 k3], ro tR 2 (.slice a3 n3 k3) (cutL osh).length ((cutL osh).flatMap fR), ro tR 2 (.slice a2 n2 k2) (cutL sh).length ((cutL sh).flatMap fR)])
   (fun i _ => match i with | .int _ i' => 2 - i'.toNat | _ => 0) ⟨.inl rfl, h⟩ ?_
  clear h
  rintro _ W ⟨(rfl | rfl | rfl), h⟩
  ·clear s1
   have cD : ∀ {W : World}, Ext w0 W → ∀ {u u' : Value}, SlC W 3 u (oL (bilO c (L))).length ((oL (bilO c (L))).flatMap fU) → SlC W 3 u' (oL (bilO c (L))).length ((oL (bilO c (L))).flatMap fU) → Calls Tryz.prog 20 #[u, u'] W (Ret fun r w' => Ext W w' ∧ r = .bool true) := fun {W} _ u u' a b => m_samed (by have := (bil_du (c := c) hLk).2; have : (L).length ≤ 13 := hL13; omega) a b
   have hdu := (bil_du (c := c) hLk).1
   have hdl2 : (oL (bilO c (L))).length ≤ 1000 := by have := (bil_du (c := c) hLk).2; have : (L).length ≤ 13 := hL13; omega
   refine Exists.elim (p := fun D => oL (bilO c (L)) = D) ⟨_, rfl⟩ fun D hD => ?_
   refine Exists.elim (p := fun z => oZ (bilO c (L)) = z) ⟨_, rfl⟩ fun z hz => ?_
   have hzb := oZ_bd (bilO c (L))
   have hzt := oZ_bd (totO D)
   rw [hD] at cD hdu hdl2
   rw [hz] at hzb
   have cc3 := @cD
   have cr1 : ∀ {W : World}, Ext w0 W → ∀ {u : Value}, SlC W 3 u D.length (D.flatMap fU) → Calls Tryz.prog 21 #[u] W (Ret fun r w' => ∃ v, r = .tuple #[v, .int .i64 (oZ (totO D))] ∧ Hp [] W w' [ro tI 1 v (oL (totO D)).length ((oL (totO D)).flatMap fI)]) := fun {W} _ u hu => m_tot hu hdu hdl2
   have cr2 : ∀ {W : World}, Ext w0 W → ∀ {u : Value}, SlC W 3 u D.length (D.flatMap fU) → Calls Tryz.prog 22 #[u] W (Ret fun r w' => ∃ v, r = .tuple #[v, .int .i64 (oZ (totO D))] ∧ Hp [] W w' [ro tI 1 v (oL (totO D)).length ((oL (totO D)).flatMap fI)]) := fun {W} _ u hu => m_ftot hu hdu hdl2
   have cc4 : ∀ {W : World}, Ext w0 W → ∀ {u u' : Value}, SlC W 1 u (oL (totO D)).length ((oL (totO D)).flatMap fI) → SlC W 1 u' (oL (totO D)).length ((oL (totO D)).flatMap fI) → Calls Tryz.prog 17 #[u, u'] W (Ret fun r w' => Ext W w' ∧ r = .bool true) := fun {W} _ u u' a b => m_same (by have := oL_tot D; omega) a b
   refine Bn_ltT (by omega) (If_T (iaRz h 0 rfl (by omega) (by omega) fun zg zk zv => ?_))
   refine lr0 h 0 rfl ‹_› ‹_› (by rfl) ?_
   refine ldA h 2 rfl rfl ?_
   refine clR h n_contract_Bill (hD ▸ hz ▸ m_bill (c := c) (he.ext h.ext) hck (qZ 4 h rfl) (h.get (i := 5) rfl) hLk hL13) fun v81 w h => ?_
   refine Ex2 (ldA h 3 rfl rfl ?_)
   refine clR h n_ref26_Bill (hD ▸ hz ▸ m_fbill (c := c) hck (h.sl (i := 4 + 1) rfl) (h.get (i := 6) rfl) hLk hL13) fun v82 w h => ?_
   refine Ex2 (Bn_neF (by omega) (Gd_F (Gd_F (Gd_F (cl1 h n_ref26_SameDues (cc3 h.ext (by first | exact (qZ 1 h rfl) | assumption) (by first | exact (qZ 0 h rfl) | assumption)) fun w h => ?_)))))
   refine Gd_F (Un_T (Pick_F (If_F (clR h n_contract_Totals (cr1 h.ext (by first | exact (qZ 1 h rfl) | assumption)) fun v10 w h => ?_))))
   refine Ex2 (clR h n_ref26_Totals (cr2 h.ext (by first | exact (qZ 1 h rfl) | assumption)) fun v11 w h => ?_)
   refine Ex2 (Bn_neF (by omega) (Gd_F (Gd_F (Gd_F (cl1 h n_ref26_Same (cc4 h.ext (by first | exact (qZ 1 h rfl) | assumption) (by first | exact (qZ 0 h rfl) | assumption)) fun w h => ?_)))))
   refine Gd_F (Un_T (Pick_F (If_F (Bn_ad (by omega) (by omega) ?_))))
   refine ⟨?_, ?_⟩
   ·exact ⟨.inr (.inl rfl), h.pick [4, 5, 6, 7, 8, 9, 10, 11, 12] (by decide) rfl⟩
   ·decide
  ·clear s0
   have cD : ∀ {W : World}, Ext w0 W → ∀ {u u' : Value}, SlC W 3 u (oL (bilO c (L ++ [oe]))).length ((oL (bilO c (L ++ [oe]))).flatMap fU) → SlC W 3 u' (oL (bilO c (L ++ [oe]))).length ((oL (bilO c (L ++ [oe]))).flatMap fU) → Calls Tryz.prog 20 #[u, u'] W (Ret fun r w' => Ext W w' ∧ r = .bool true) := fun {W} _ u u' a b => m_samed (by have := (bil_du (c := c) hLk2).2; have : (L ++ [oe]).length ≤ 13 := hL2; omega) a b
   have hdu := (bil_du (c := c) hLk2).1
   have hdl2 : (oL (bilO c (L ++ [oe]))).length ≤ 1000 := by have := (bil_du (c := c) hLk2).2; have : (L ++ [oe]).length ≤ 13 := hL2; omega
   refine Exists.elim (p := fun D => oL (bilO c (L ++ [oe])) = D) ⟨_, rfl⟩ fun D hD => ?_
   refine Exists.elim (p := fun z => oZ (bilO c (L ++ [oe])) = z) ⟨_, rfl⟩ fun z hz => ?_
   have hzb := oZ_bd (bilO c (L ++ [oe]))
   have hzt := oZ_bd (totO D)
   rw [hD] at cD hdu hdl2
   rw [hz] at hzb
   have cc3 := @cD
   have cr1 : ∀ {W : World}, Ext w0 W → ∀ {u : Value}, SlC W 3 u D.length (D.flatMap fU) → Calls Tryz.prog 21 #[u] W (Ret fun r w' => ∃ v, r = .tuple #[v, .int .i64 (oZ (totO D))] ∧ Hp [] W w' [ro tI 1 v (oL (totO D)).length ((oL (totO D)).flatMap fI)]) := fun {W} _ u hu => m_tot hu hdu hdl2
   have cr2 : ∀ {W : World}, Ext w0 W → ∀ {u : Value}, SlC W 3 u D.length (D.flatMap fU) → Calls Tryz.prog 22 #[u] W (Ret fun r w' => ∃ v, r = .tuple #[v, .int .i64 (oZ (totO D))] ∧ Hp [] W w' [ro tI 1 v (oL (totO D)).length ((oL (totO D)).flatMap fI)]) := fun {W} _ u hu => m_ftot hu hdu hdl2
   have cc4 : ∀ {W : World}, Ext w0 W → ∀ {u u' : Value}, SlC W 1 u (oL (totO D)).length ((oL (totO D)).flatMap fI) → SlC W 1 u' (oL (totO D)).length ((oL (totO D)).flatMap fI) → Calls Tryz.prog 17 #[u, u'] W (Ret fun r w' => Ext W w' ∧ r = .bool true) := fun {W} _ u u' a b => m_same (by have := oL_tot D; omega) a b
   refine Bn_ltT (by omega) (If_T (iaRz h 0 rfl (by omega) (by omega) fun zg zk zv => ?_))
   refine lr0 h 0 rfl ‹_› ‹_› (by rfl) ?_
   refine ldA h 2 rfl rfl ?_
   refine clR h n_contract_Bill (hD ▸ hz ▸ m_bill (c := c) (he.ext h.ext) hck (qZ 1 h rfl) (all_snoc (h.get (i := 5) rfl) (by rw [← hoe]; exact h.sl (i := 7) rfl)) hLk2 hL2) fun v81 w h => ?_
   refine Ex2 (ldA h 3 rfl rfl ?_)
   refine clR h n_ref26_Bill (hD ▸ hz ▸ m_fbill (c := c) hck (h.sl (i := 1 + 1) rfl) (all_snoc (h.get (i := 6) rfl) (by rw [← hoe]; exact h.sl (i := 8) rfl)) hLk2 hL2) fun v82 w h => ?_
   refine Ex2 (Bn_neF (by omega) (Gd_F (Gd_F (Gd_F (cl1 h n_ref26_SameDues (cc3 h.ext (by first | exact (qZ 1 h rfl) | assumption) (by first | exact (qZ 0 h rfl) | assumption)) fun w h => ?_)))))
   refine Gd_F (Un_T (Pick_F (If_F (clR h n_contract_Totals (cr1 h.ext (by first | exact (qZ 1 h rfl) | assumption)) fun v10 w h => ?_))))
   refine Ex2 (clR h n_ref26_Totals (cr2 h.ext (by first | exact (qZ 1 h rfl) | assumption)) fun v11 w h => ?_)
   refine Ex2 (Bn_neF (by omega) (Gd_F (Gd_F (Gd_F (cl1 h n_ref26_Same (cc4 h.ext (by first | exact (qZ 1 h rfl) | assumption) (by first | exact (qZ 0 h rfl) | assumption)) fun w h => ?_)))))
   refine Gd_F (Un_T (Pick_F (If_F (Bn_ad (by omega) (by omega) ?_))))
   refine ⟨?_, ?_⟩
   ·exact ⟨.inr (.inr rfl), h.pick [4, 5, 6, 7, 8, 9, 10, 11, 12] (by decide) rfl⟩
   ·decide
  ·refine Bn_ltF (by omega) (If_F (Bn_ad (by omega) (by omega) ?_))
   exact ⟨⟨j + 1, by omega, rfl, h.pick [3, 4, 5, 6, 7, 8] (by decide) rfl⟩, by show 2 - ((j : Int) + 1).toNat < 2 - (j : Int).toNat; omega⟩
 clear hK
 replace h := h.dr
 refine dlA h 4 rfl rfl ?_
 refine ⟨?_, ?_⟩
 refine bs0 h fun v10 w h => ?_
 refine klA h 5 rfl rfl ?_
 refine ⟨?_, ?_⟩
 refine apR (by rfl) (by decide) h 0 rfl (qZ 3 h rfl) (by first | rfl | assumption) (by omega) fun v11 w h => ?_
 refine klA h 5 rfl rfl ?_
 refine bs1A h (by rfl) (by decide) (by rfl) (by decide) fun v12 w h => ?_
 refine apR (by rfl) (by decide) h 1 rfl (qZ 0 h rfl) (by first | rfl | assumption) (by omega) fun v13 w h => ?_
 refine bsN (vs := [_, _]) h (.cons (by rfl) (by rfl) (.cons (by first | assumption | exact qY 0 h rfl | exact qY 1 h rfl | exact qY 3 h rfl | exact qY 4 h rfl | exact qY 7 h rfl | exact qY 8 h rfl) (by rfl) .nil)) (by rfl) (by rfl) (by decide) (by decide) (by decide) fun v14 w h => ?_
 refine dlS (qZ 0 h rfl) ?_
 exact lf1 _ _ _ (h.pick [0, 2, 3, 4, 5, 6, 7, 8, 9] (by decide) rfl)
 refine bs1A h (by rfl) (by decide) (by rfl) (by decide) fun v11 w h => ?_
 refine apR (by rfl) (by decide) h 1 rfl (qZ 4 h rfl) (by first | rfl | assumption) (by omega) fun v12 w h => ?_
 refine klA h 6 rfl rfl ?_
 refine apR (by rfl) (by decide) h 1 rfl (qZ 0 h rfl) (by first | rfl | assumption) (by omega) fun v13 w h => ?_
 refine bsN (vs := [_, _]) h (.cons (by rfl) (by rfl) (.cons (by first | assumption | exact qY 0 h rfl | exact qY 1 h rfl | exact qY 3 h rfl | exact qY 4 h rfl | exact qY 7 h rfl | exact qY 8 h rfl) (by rfl) .nil)) (by rfl) (by rfl) (by decide) (by decide) (by decide) fun v14 w h => ?_
 refine dlS (qZ 0 h rfl) ?_
 exact lf1 _ _ _ (h.pick [0, 2, 3, 4, 5, 6, 7, 8, 9] (by decide) rfl)
 refine bs1A h (by rfl) (by decide) (by rfl) (by decide) fun v10 w h => ?_
 refine bs0 h fun v11 w h => ?_
 refine klA h 6 rfl rfl ?_
 refine apR (by rfl) (by decide) h 0 rfl (qZ 4 h rfl) (by first | rfl | assumption) (by omega) fun v12 w h => ?_
 refine klA h 6 rfl rfl ?_
 refine apR (by rfl) (by decide) h 0 rfl (qZ 1 h rfl) (by first | rfl | assumption) (by omega) fun v13 w h => ?_
 refine bsN (vs := [_, _]) h (.cons (by rfl) (by rfl) (.cons (by first | assumption | exact qY 0 h rfl | exact qY 1 h rfl | exact qY 3 h rfl | exact qY 4 h rfl | exact qY 7 h rfl | exact qY 8 h rfl) (by rfl) .nil)) (by rfl) (by rfl) (by decide) (by decide) (by decide) fun v14 w h => ?_
 refine dlS (qZ 0 h rfl) ?_
 exact lf1 _ _ _ (h.pick [0, 1, 3, 4, 5, 6, 7, 8, 9] (by decide) rfl)
end
end Go.Proofs.YtjmdnjnjepinoaaGreatDoor
