/- YtgdggbamhlinlaaC2: what is needed ahead of edits.Flat's walk: plain facts on the reference's printed functions, and small facts on a builder. -/
import Derived.Test.YtgdggbamhlinlaaB4
import Derived.Test.YtgdggbamhlinlaaC1
namespace Go.Proofs.Ytgdggbamhlinlaa.PEditsFlat
open Go.RowKit Go.Proofs.YtgdggbamhlinlaaW.PrintWords Go.Proofs.YtgdggbamhlinlaaW.PrintLast Go.Proofs.YtgdggbamhlinlaaW.PrintMore
set_option linter.unusedVariables false
set_option linter.unusedSimpArgs false

theorem wrap_small {x : Int} (h1 : -9223372036854775808 ≤ x) (h2 : x ≤ 9223372036854775807) : wrap64 x = x := by
  unfold wrap64
  omega

theorem check_of_fits_l (n : Int) (hn : 0 ≤ n) (l : List S39) (hl : l.length ≤ 4611686018427387904) : ∀ (k : Nat) (i was : Int) (t : Bool), 0 ≤ i → i ≤ (l.length : Int) → (i = 0 → was = 0) → (0 < i → was = (rd_T39 l (i - 1)).f1) → 0 ≤ was →
    emendref07_Fits.l0 k n l i = some t → edits_Check.l0 k n was l (l.length : Int) i = some (if t then 0 else 2) := by
  intro k
  induction k with
  | zero => intro i was t _ _ _ _ _ h; simp [emendref07_Fits.l0] at h
  | succ k ih =>
    intro i was t hi0 hil hw0 hw1 hw h
    simp only [emendref07_Fits.l0] at h
    simp only [edits_Check.l0]
    by_cases hlt : i < (l.length : Int)
    · rw [if_pos hlt, if_pos hi0] at h
      rw [if_pos hlt, if_pos hi0, if_pos hlt]
      have hwi : wrap64 (i + 1) = i + 1 := wrap_small (by omega) (by omega)
      have hwd : wrap64 (i - 1) = i - 1 := wrap_small (by omega) (by omega)
      by_cases h0 : (rd_T39 l i).f0 < 0
      · rw [if_pos h0] at h
        cases h
        rw [if_pos (by omega)]; rfl
      · rw [if_neg h0] at h
        by_cases h1 : (rd_T39 l i).f0 > (rd_T39 l i).f1
        · rw [if_pos h1] at h
          cases h
          by_cases hq : (rd_T39 l i).f0 < was
          · rw [if_pos hq]; rfl
          · rw [if_neg hq, if_pos h1]; rfl
        · rw [if_neg h1] at h
          by_cases h2 : (rd_T39 l i).f1 > n
          · rw [if_pos h2] at h
            cases h
            by_cases hq : (rd_T39 l i).f0 < was
            · rw [if_pos hq]; rfl
            · rw [if_neg hq, if_neg (by omega), if_pos h2]; rfl
          · rw [if_neg h2] at h
            by_cases h3 : i > 0
            · rw [if_pos h3, hwd, if_pos (by omega), if_pos (by omega), ← hw1 h3] at h
              by_cases h4 : (rd_T39 l i).f0 < was
              · rw [if_pos h4] at h
                cases h
                rw [if_pos h4]; rfl
              · rw [if_neg h4, hwi] at h
                rw [if_neg h4, if_neg (by omega), if_neg h2, hwi]
                refine ih (i + 1) _ t (by omega) (by omega) (by omega) (fun _ => by rw [show i + 1 - 1 = i by omega]) (by omega) h
            · rw [if_neg h3, hwi] at h
              have : i = 0 := by omega
              have := hw0 this
              rw [if_neg (by omega), if_neg (by omega), if_neg h2, hwi]
              refine ih (i + 1) _ t (by omega) (by omega) (by omega) (fun _ => by rw [show i + 1 - 1 = i by omega]) (by omega) h
    · rw [if_neg hlt] at h
      cases h
      rw [if_neg hlt, if_neg (by omega)]; rfl

theorem check_of_fits {n : Int} (hn : 0 ≤ n) {l : List S39} (hl : l.length ≤ 4611686018427387904) {k : Nat} {t : Bool} (h : emendref07_Fits.f k n l = some t) : edits_Check.f k n l = some (if t then 0 else 2) := by
  unfold emendref07_Fits.f at h
  rw [if_neg (by omega)] at h
  exact check_of_fits_l n hn l hl k 0 0 t (by omega) (by omega) (fun _ => rfl) (fun h => by omega) (by omega) h

theorem part_of {k : Nat} {a0 : ByteArray} {x y : Int} {t : ByteArray} {n : Bool} {r : ByteArray} {ok : Bool} (h : emendref07_part.f k a0 x y t n = some (r, ok)) :
    (n = true ∧ r = t ∧ ok = true) ∨ (n = false ∧ t.toList ≠ [] ∧ r = t ∧ ok = true) ∨
    (n = false ∧ t.toList = [] ∧ x < 0 ∧ ok = false) ∨ (n = false ∧ t.toList = [] ∧ 0 ≤ x ∧ y < x ∧ ok = false) ∨ (n = false ∧ t.toList = [] ∧ 0 ≤ x ∧ x ≤ y ∧ (a0.size : Int) < y ∧ ok = false) ∨
    (n = false ∧ t.toList = [] ∧ 0 ≤ x ∧ x ≤ y ∧ y ≤ (a0.size : Int) ∧ r = a0.extract x.toNat y.toNat ∧ ok = true) := by
  unfold emendref07_part.f at h
  cases k with
  | zero => simp [emendref07_part.j0] at h
  | succ k =>
    cases n with
    | true =>
      simp only [if_true, emendref07_part.j0] at h
      injection h with h; injection h with h1 h2
      exact .inl ⟨rfl, h1.symm, h2.symm⟩
    | false =>
      simp only [Bool.false_eq_true, if_false, emendref07_part.j0] at h
      by_cases ht : t.toList = []
      · rw [if_neg (by simp [ht])] at h
        by_cases h0 : x < 0
        · rw [if_pos h0] at h
          injection h with h; injection h with h1 h2
          exact .inr (.inr (.inl ⟨rfl, ht, h0, h2.symm⟩))
        · rw [if_neg h0] at h
          by_cases h1 : x > y
          · rw [if_pos h1] at h
            injection h with h; injection h with _ h2
            exact .inr (.inr (.inr (.inl ⟨rfl, ht, by omega, by omega, h2.symm⟩)))
          · rw [if_neg h1] at h
            by_cases h2 : y > (a0.size : Int)
            · rw [if_pos h2] at h
              injection h with h; injection h with _ h3
              exact .inr (.inr (.inr (.inr (.inl ⟨rfl, ht, by omega, by omega, by omega, h3.symm⟩))))
            · rw [if_neg h2, if_pos (by omega), if_pos (by omega), if_pos (by omega)] at h
              injection h with h; injection h with h3 h4
              exact .inr (.inr (.inr (.inr (.inr ⟨rfl, ht, by omega, by omega, by omega, h3.symm, h4.symm⟩))))
      · rw [if_pos (by simp [ht])] at h
        injection h with h; injection h with h1 h2
        exact .inr (.inl ⟨rfl, ht, h1.symm, h2.symm⟩)

theorem flat_l1_at {k : Nat} {a0 : ByteArray} {l : List S45} {x6 : List S39} {x7 x8 : Int} {x9 : ByteArray} {x10 : Int} {r : List S39 × Int} (h : emendref07_Flat.l1 k a0 l x6 x7 x8 x9 x10 = some r) : 0 ≤ x8 ∧ x8 < (l.length : Int) := by
  cases k with
  | zero => simp [emendref07_Flat.l1] at h
  | succ k =>
    simp only [emendref07_Flat.l1] at h
    by_cases h0 : 0 ≤ x8
    · rw [if_pos h0] at h
      by_cases h1 : x8 < (l.length : Int)
      · exact ⟨h0, h1⟩
      · rw [if_neg h1] at h; cases h
    · rw [if_neg h0] at h; cases h

theorem isB_alloc {T e B b : Nat} {bs : List Value} {w : World} (h : Lib.IsBuilder T e B b bs w) (o : Obj) : Lib.IsBuilder T e B b bs (w.alloc o) := by
  have one : ∀ p, Lib.BuilderAt T e B b p bs w → Lib.BuilderAt T e B b p bs (w.alloc o) := by
    rintro p ⟨hB, v, hb, hown, hne⟩
    exact ⟨hB, v, (Lib.alloc_old w o b (Lib.BuilderAt.lt ⟨hB, v, hb, hown, hne⟩)).trans hb, hown.alloc _, hne⟩
  exact h.imp (one _) (one _)
theorem isB_drew {T e B b : Nat} {bs : List Value} {w : World} (h : Lib.IsBuilder T e B b bs w) : Lib.IsBuilder T e B b bs w.drew := h
theorem cells_put (x s : ByteArray) : Lib.byteCells x.data.toList ++ Lib.strCells s = Lib.byteCells (x ++ s).data.toList := by
  rw [Lib.strCells_eq, ← Lib.byteCells_append]
  simp
theorem cells_len (x : ByteArray) : (Lib.byteCells x.data.toList).length = x.size := by
  rw [Lib.byteCells_length]; simp
theorem str_back (x : ByteArray) : (⟨x.data.toList.toArray⟩ : ByteArray) = x := by simp

theorem bLen (B b : Nat) (x : ByteArray) (w : World) (h : Lib.IsBuilder 65 5 B b (Lib.byteCells x.data.toList) w) :
    Calls Try.prog 20 #[.pointer (some ⟨b, 0, none⟩)] w fun e w' => e = .returned (.int .i64 (x.size : Int)) ∧ w = w' :=
  (Try.Builder_Len B b _ w h).mono fun e w' ⟨he, hw⟩ => ⟨by rw [he, cells_len], hw.symm⟩
theorem bWrite (B b : Nat) (x s : ByteArray) (w : World) (h : Lib.IsBuilder 65 5 B b (Lib.byteCells x.data.toList) w) (hlen : x.size + s.size ≤ 140737488355328) (hBw : B ≤ w.heap.size) :
    Calls Try.prog 21 #[.pointer (some ⟨b, 0, none⟩), .string s] w fun e w' => e = .returned (.tuple #[.int .i64 s.size, .nilIface]) ∧ Lib.IsBuilder 65 5 B b (Lib.byteCells (x ++ s).data.toList) w' ∧ Below B w w' :=
  (Try.WriteString B b _ s w h (by rw [cells_len]; exact hlen) hBw).mono fun e w' ⟨he, hb, hw⟩ => ⟨he, .inr (by rw [← cells_put]; exact hb), hw⟩
theorem bString (B b : Nat) (x : ByteArray) (w : World) (h : Lib.IsBuilder 65 5 B b (Lib.byteCells x.data.toList) w) (hBw : B ≤ w.heap.size) :
    Calls Try.prog 22 #[.pointer (some ⟨b, 0, none⟩)] w fun e w' => e = .returned (.string x) ∧ Below B w w' :=
  (Try.Builder_String_any B b _ w h hBw).mono fun e w' ⟨he, hw⟩ => ⟨by rw [he, str_back], hw⟩
theorem fresh_b (w : World) (o : Obj) : Lib.IsBuilder 65 5 (w.heap.size + 1) (w.heap.size + 1) (Lib.byteCells (⟨#[]⟩ : ByteArray).data.toList) ((w.alloc o).alloc (.cells #[.pointer none, .slice none 0 0] 65)) := by
  have h := Lib.fresh_isBuilder 65 5 (w.alloc o)
  have e : (w.alloc o).heap.size = w.heap.size + 1 := by simp
  rw [e] at h
  exact h

theorem rd42_mem {xs : List S42} {i : Int} (h0 : 0 ≤ i) (h1 : i < (xs.length : Int)) : rd_T42 xs i ∈ xs := by
  unfold rd_T42
  have h : i.toNat < xs.length := by omega
  rw [List.getD_eq_getElem?_getD, List.getElem?_eq_getElem h, Option.getD_some]
  exact List.getElem_mem h
theorem rd45_mem {xs : List S45} {i : Int} (h0 : 0 ≤ i) (h1 : i < (xs.length : Int)) : rd_T45 xs i ∈ xs := by
  unfold rd_T45
  have h : i.toNat < xs.length := by omega
  rw [List.getD_eq_getElem?_getD, List.getElem?_eq_getElem h, Option.getD_some]
  exact List.getElem_mem h

end Go.Proofs.Ytgdggbamhlinlaa.PEditsFlat
