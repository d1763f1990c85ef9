/-
  Contracts and plain lemmas. By an AI agent.
-/
import Derived.Test.YtdbcpkihokagkaaGreatDoorEngW
import Derived.Laws.IdiomStrings
set_option linter.unusedSimpArgs false
set_option linter.unusedVariables false
set_option linter.unusedSectionVars false
namespace Go.Eng
open Go Go.RowKit Go.Proofs
abbrev u8s (l : List UInt8) : List Value := l.map fun b => Value.int .u8 (b.toNat : Int)
abbrev bw (g : Nat) (e : TypeId) (k : Nat) (cs : List Value) : Et := ⟨[g], fun w => w.heap[g]? = some (.cells cs.toArray e (k, k + 1))⟩
section
variable {P : Program} {S : List Nat} {w0 w w' : World} {L : List Et} {K : Value → World → Prop} {KP : Value → Prop} {KW : World → Prop} {s d t e : TypeId} {g k n cap o : Nat} {cs : List Value} {v : Value}
theorem bw_at {B : Nat} (h : w.heap[g]? = some (.cells cs.toArray e (k, k + 1))) : (bw g e k cs).At B S w :=
 fun w' _ hb => (hb g (Array.getElem?_eq_some_iff.1 h).1 (.inl (by simp))).trans h
theorem cvB (h : Hp S w0 w L) (hs : P.underlying s = some .string) (hd : P.underlying d = some (.slice e)) (he : P.underlying e = some (.int .u8)) {l : List UInt8}
 (hk : ∀ g cap zs w1, l.length + zs.length = cap → Hp S w0 w1 (bw g e cap (u8s l ++ zs) :: L) → K (.slice (some ⟨g, 0, none⟩) l.length cap) w1) : Cv P s d (str l) w K := by
 have hr := run_bytes_of_string (P := P) w s d e ⟨l.toArray⟩ hs hd he
 have hge := grownCap_ge w l.length 0 e
 have hsz : (ByteArray.mk l.toArray).size = l.length := rfl
 rw [hsz] at hr
 obtain ⟨cap, hcap⟩ : ∃ c, c = grownCap w l.length 0 e := ⟨_, rfl⟩
 rw [← hcap] at hr hge
 have hrow : bytesRow ⟨l.toArray⟩ cap = (u8s l ++ List.replicate (cap - l.length) (Value.int .u8 0)).toArray := by
  apply Array.toList_inj.1
  simp [bytesRow, hsz, u8s]
 rw [hrow] at hr
 have hl : (u8s l ++ List.replicate (cap - l.length) (Value.int .u8 0)).toArray.size = cap := by simp; omega
 rw [hl] at hr
 refine V_of hr (hk _ cap (List.replicate (cap - l.length) (Value.int .u8 0)) _ (by simp; omega) ?_)
 exact h.xn ((Ext.refl w).dr.al _) (bw_at (by show (w.heap.push _)[w.heap.size]? = _; simp)) (fun k hk => by simp at hk; subst hk; exact ⟨Nat.le_refl _, by simp⟩)
theorem iaV [hs : Slt P t e 1] {k' : IntKind} {z : Int} (h0 : 0 ≤ z) (h1 : z < n) (hk : K (pr g (0 + z.toNat * 1)) w) : Ia P t (.slice (some ⟨g, 0, none⟩) n cap) (.int k' z) w K := by
 obtain ⟨j, rfl⟩ := Int.eq_ofNat_of_zero_le h0
 exact V_of (run_ia (by omega) w) hk
theorem bw_cells (h : Hp S w0 w L) {i : Nat} (hi : L[i]? = some (bw g e k cs)) : CellsAt w g 0 cs := by
 intro j x hx
 have h1 : w.heap[g]? = some (.cells cs.toArray e (k, k + 1)) := h.get hi
 simp [World.cell?, h1, hx]
theorem dcvB (h : Hp S w0 w L) {i : Nat} (hs : P.underlying s = some (.slice e)) (he : P.underlying e = some (.int .u8)) (hd : P.underlying d = some .string) {l : List UInt8} {zs : List Value} (hi : L[i]? = some (bw g e k (u8s l ++ zs)))
 (hk : KP (str l)) : Dv P false (convert s d (.slice (some ⟨g, 0, none⟩) l.length cap)) w KP := by
 refine ⟨_, run_convert_bytes_back w s d e ⟨g, 0, none⟩ cap l hs he hd fun j hj => ?_, hk⟩
 have hplain : (⟨g, 0, none⟩ : Addr).add j = ⟨g, 0 + j, none⟩ := by unfold Addr.add; split <;> simp_all
 rw [hplain]
 refine bw_cells h hi j _ ?_
 rw [List.getElem?_append_left (by simp; exact hj), List.getElem?_map, List.getElem?_eq_getElem hj]; rfl
theorem Dv_tB {l r : List UInt8} {u : TypeId} [hs : StrT P u] {wi : Bool} {x y : Int} {k k' : IntKind} {a b : Nat} (ha : x = a) (hb : y = b) (h1 : a ≤ b) (h2 : b ≤ l.length) (he : (l.drop a).take (b - a) = r) (hk : KP (str r)) :
 Dv P wi (Instr.sliceAt u (str l) (some (.int k x)) (some (.int k' y)) none) w KP := by
 subst ha
 subst hb
 subst he
 have e : (ByteArray.mk l.toArray).size = l.length := rfl
 have := fun w => run_slice_string (P := P) w u (ByteArray.mk l.toArray) k k' (a : Int) (b : Int) hs.un (by omega) (by omega) (by rw [e]; omega)
 cases wi <;> ((try simp -dsimp [go_sem, hs.un, this, ext_lh (s := l)]); repeat (simp -dsimp (disch := omega) only [gL, gI]; try simp -dsimp [go_sem, hs.un, this, ext_lh (s := l)])) <;> exact hk
theorem bw_up (h : Hp S w0 w L) {i : Nat} (hi : L[i]? = some (bw g e k cs)) (u : Value) (o : Nat) : Hp S w0 (w.setCell ⟨g, o, none⟩ u) (L.set i (bw g e k (cs.set o u))) := by
 have h1 : w.heap[g]? = some (.cells cs.toArray e (k, k + 1)) := h.get hi
 have h2 : (w.setCell ⟨g, o, none⟩ u).heap[g]? = some (.cells (cs.set o u).toArray e (k, k + 1)) := by
  unfold World.setCell
  simp only [Array.getElem?_modify, if_pos, h1, Option.map_some]
  simp
 exact h.up hi ⟨rfl, rfl, rfl, by simp [World.setCell], fun k hk hs => by
  have : k ≠ g := by simpa using hs
  simp [World.setCell, Array.getElem?_modify, this.symm]⟩ (bw_at h2) fun _ hk => .inl hk
theorem bw_frz (h : Hp S w0 w L) {i : Nat} (hi : L[i]? = some (bw g e k cs)) (ho : o < k) : w.frozen? ⟨g, o, none⟩ = false := by
 have h1 : w.heap[g]? = some (.cells cs.toArray e (k, k + 1)) := h.get hi
 simp [World.frozen?, h1]; omega
end
end Go.Eng
