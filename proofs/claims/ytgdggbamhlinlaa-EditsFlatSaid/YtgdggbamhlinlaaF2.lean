/- YtgdggbamhlinlaaF2: a handed slice of cuts, read as a list. -/
import Derived.Test.YtgdggbamhlinlaaF0
import Derived.Test.YtgdggbamhlinlaaF1
import Derived.Deep.Slices
import Derived.Deep.Fields
import Derived.ChangeSame
namespace Go.Proofs.Ytgdggbamhlinlaa.PEditsFlat
open Go.RowKit Go.Shelf Go.Proofs.YtgdggbamhlinlaaW.PrintWords Go.Proofs.YtgdggbamhlinlaaW.PrintLast Go.Proofs.YtgdggbamhlinlaaW.PrintMore
open Go.ChangeShapes Go.WideShapes Go.Deep
set_option linter.unusedVariables false
set_option linter.unusedSimpArgs false

section
variable {H : Type} {enc : TypeId × Value → H} {w : World} {base : Nat} {spare : Nat → Bool} {held : Bool}

/-- What a handed slice of structs holds: each field's cell and its reading. -/
theorem handed_elems {P : Program} {t e : TypeId} {fs : Array Field} {fuel : Nat} {v : Value} {y : DataW H × List MemPlace} (ht : P.underlying t = some (.slice e)) (he : P.underlying e = some (.struct fs))
    (hone : oneCellFields P fs = true) (hC : P.cellsOf e = fs.size) (h : DataW.trod enc P w base spare held fuel t [v] = some y) :
    v = .slice none 0 0 ∨ ∃ (a : Addr) (len cap : Nat), v = .slice (some a) len cap ∧ len ≤ cap ∧ cap ≤ maxLen ∧
      ∀ i, i < len → ∀ (j : Nat) (f : Field), fs[j]? = some f → ∃ (u : Value) (z : DataW H × List MemPlace) (n : Nat), w.cell? (a.add (i * fs.size + j)) = some u ∧ DataW.trod enc P w base spare held n f.type [u] = some z := by
  rcases open_slice ht h with ⟨h0, _⟩ | ⟨a, len, cap, m, n, D, Pl, hcs, hb, hl, hm, hmm, hx, hi⟩
  · exact .inl (by simpa using h0)
  · refine .inr ⟨a, len, cap, by simpa using hcs, hl, hm, fun i hil j f hj => ?_⟩
    have him : i < m := by
      rw [hmm]
      split <;> omega
    obtain ⟨cs', hc, ht'⟩ := hi i him
    rw [hC] at hc
    obtain ⟨ys, n', hn', hy, hlen, hyl, hf⟩ := DataW.trod_struct he ht'
    obtain ⟨_, hcl, hat⟩ := World.cells?_some hc
    obtain ⟨ho, hk⟩ := hone_of hone j f hj
    have hjl : j < fs.size := (Array.getElem?_eq_some_iff.1 hj).1
    have hcell := hat j hjl
    have hv : cs'[j]? = some (cs'[j]'(by omega)) := List.getElem?_eq_getElem (by omega)
    have h1 := hf j f hj
    have hcut : (cs'.drop j).take 1 = [cs'[j]'(by omega)] := by
      rw [List.drop_eq_getElem_cons (by omega)]
      rfl
    rw [ho, hk, hcut] at h1
    have hys : ys[j]? = some (ys[j]'(by omega)) := List.getElem?_eq_getElem (by omega)
    refine ⟨_, _, n', ?_, h1.trans hys⟩
    rw [← Go.Deep.add_add, hcell, hv]

theorem row_of {α : Type} [Inhabited α] {d : Kd α} {v : Value} {a : Addr} {len cap : Nat} (hl : len ≤ cap) (hm : cap ≤ maxLen)
    (h : ∀ i, i < len → ∃ (p : α) (c : List Value), c.length = d.sz ∧ d.K w p c ∧ ∀ j u, c[j]? = some u → w.cell? (a.add (i * d.sz + j)) = some u) :
    ∃ ps : List α, ps.length = len ∧ Kd.C d w (some a) ps.length ps := by
  obtain ⟨f, hf⟩ := choose_lt h
  refine ⟨(List.range len).map f, by simp, by simp, by simp only [List.length_map, List.length_range]; simp only [maxLen] at hm; omega, fun _ => ⟨a, rfl, fun j p hj => ?_⟩⟩
  obtain ⟨hjl, hp⟩ := List.getElem?_eq_some_iff.1 hj
  simp at hjl hp
  subst hp
  exact hf j hjl

theorem one42 : oneCellFields Try.prog #[⟨ "From", 3, 0, false, "", "", 0⟩, ⟨ "To", 3, 1, false, "", "", 8⟩, ⟨ "Text", 9, 2, false, "", "", 16⟩, ⟨ "New", 4, 3, false, "", "", 32⟩] = true := by kernel_rfl
theorem one45 : oneCellFields Try.prog #[⟨ "From", 3, 0, false, "", "", 0⟩, ⟨ "To", 3, 1, false, "", "", 8⟩, ⟨ "Parts", 43, 2, false, "", "", 16⟩] = true := by kernel_rfl
instance : Inhabited S42 := ⟨z42⟩
instance : Inhabited S45 := ⟨z45⟩

theorem parts_read {fuel : Nat} {v : Value} {y : DataW H × List MemPlace} (h : DataW.trod enc Try.prog w base spare held fuel 43 [v] = some y) :
    ∃ (A : Option Addr) (c : Nat) (ps : List S42), v = .slice A ps.length c ∧ ps.length ≤ c ∧ Kd.C k42 w A ps.length ps := by
  rcases handed_elems Try.underlying43 Try.underlying42 one42 (by kernel_rfl) h with rfl | ⟨a, len, cap, rfl, hl, hm, hi⟩
  · exact ⟨none, 0, [], rfl, Nat.le_refl _, Kd.C_nil k42 w⟩
  · obtain ⟨ps, hps, hC⟩ := row_of (d := k42) (v := .slice (some a) len cap) (w := w) (a := a) hl hm (fun i hil => by
      obtain ⟨u0, z0, n0, c0, t0⟩ := hi i hil 0 _ rfl
      obtain ⟨u1, z1, n1, c1, t1⟩ := hi i hil 1 _ rfl
      obtain ⟨u2, z2, n2, c2, t2⟩ := hi i hil 2 _ rfl
      obtain ⟨u3, z3, n3, c3, t3⟩ := hi i hil 3 _ rfl
      obtain ⟨x0, e0, _, _⟩ := DataW.trod_int Try.underlying3 t0
      obtain ⟨x1, e1, _, _⟩ := DataW.trod_int Try.underlying3 t1
      obtain ⟨x2, e2, _, _⟩ := DataW.trod_string Try.underlying9 t2
      obtain ⟨x3, e3, _⟩ := DataW.trod_bool Try.underlying4 t3
      obtain rfl := List.head_eq_of_cons_eq e0
      obtain rfl := List.head_eq_of_cons_eq e1
      obtain rfl := List.head_eq_of_cons_eq e2
      obtain rfl := List.head_eq_of_cons_eq e3
      refine ⟨⟨x0, x1, x2, x3⟩, [.int .i64 x0, .int .i64 x1, .string x2, .bool x3], rfl, k42_mk w _, fun j u hj => ?_⟩
      match j, hj with
      | 0, hj => exact c0.trans hj
      | 1, hj => exact c1.trans hj
      | 2, hj => exact c2.trans hj
      | 3, hj => exact c3.trans hj)
    subst hps
    exact ⟨some a, cap, ps, rfl, hl, hC⟩

theorem cuts_read {fuel : Nat} {v : Value} {y : DataW H × List MemPlace} (h : DataW.trod enc Try.prog w base spare held fuel 22 [v] = some y) :
    ∃ (A : Option Addr) (c : Nat) (ps : List S45), v = .slice A ps.length c ∧ ps.length ≤ c ∧ Kd.C k45 w A ps.length ps := by
  rcases handed_elems Try.underlying22 Try.underlying45 one45 (by kernel_rfl) h with rfl | ⟨a, len, cap, rfl, hl, hm, hi⟩
  · exact ⟨none, 0, [], rfl, Nat.le_refl _, Kd.C_nil k45 w⟩
  · obtain ⟨ps, hps, hC⟩ := row_of (d := k45) (v := .slice (some a) len cap) (w := w) (a := a) hl hm (fun i hil => by
      obtain ⟨u0, z0, n0, c0, t0⟩ := hi i hil 0 _ rfl
      obtain ⟨u1, z1, n1, c1, t1⟩ := hi i hil 1 _ rfl
      obtain ⟨u2, z2, n2, c2, t2⟩ := hi i hil 2 _ rfl
      obtain ⟨x0, e0, _, _⟩ := DataW.trod_int Try.underlying3 t0
      obtain ⟨x1, e1, _, _⟩ := DataW.trod_int Try.underlying3 t1
      obtain ⟨A2, cc, qs, rfl, hq, hCq⟩ := parts_read t2
      obtain rfl := List.head_eq_of_cons_eq e0
      obtain rfl := List.head_eq_of_cons_eq e1
      refine ⟨⟨x0, x1, qs⟩, [.int .i64 x0, .int .i64 x1, .slice A2 qs.length cc], rfl, k45_mk w ⟨x0, x1, qs⟩ hq hCq, fun j u hj => ?_⟩
      match j, hj with
      | 0, hj => exact c0.trans hj
      | 1, hj => exact c1.trans hj
      | 2, hj => exact c2.trans hj)
    subst hps
    exact ⟨some a, cap, ps, rfl, hl, hC⟩
end
end Go.Proofs.Ytgdggbamhlinlaa.PEditsFlat
