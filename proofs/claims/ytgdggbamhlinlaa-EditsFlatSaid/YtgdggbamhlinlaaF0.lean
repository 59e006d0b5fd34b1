/- YtgdggbamhlinlaaF0: that cut, pieces, Flat and Same of EditsFlat end, and how large their answers are. No program in sight. -/
import Derived.Test.YtgdggbamhlinlaaE0
import Derived.Test.YtgdggbamhlinlaaB5
namespace Go.Proofs.Ytgdggbamhlinlaa.PEditsFlat
open Go.RowKit Go.Shelf Go.Proofs.YtgdggbamhlinlaaW.PrintWords Go.Proofs.YtgdggbamhlinlaaW.PrintLast Go.Proofs.YtgdggbamhlinlaaW.PrintMore
set_option linter.unusedVariables false
set_option linter.unusedSimpArgs false

theorem mn_facts (n : Nat) (m : Int) (hm : 0 ≤ m) : 0 ≤ mn (n : Int) m ∧ mn (n : Int) m ≤ n ∧ mn (n : Int) m ≤ m := by
  unfold mn
  split <;> omega
theorem ext_300 (s : ByteArray) : (s.extract 0 (mn (s.size : Int) 300).toNat).size ≤ 300 := by
  have h := mn_facts s.size 300 (by decide)
  rw [ByteArray.size_extract]
  omega
theorem ext_1500 (s : ByteArray) : (s.extract 0 (mn (s.size : Int) 1500).toNat).size ≤ 1500 := by
  have h := mn_facts s.size 1500 (by decide)
  rw [ByteArray.size_extract]
  omega
theorem cut_ends (a0 : ByteArray) : ∃ t, emendlaw07_cut.f a0 = some t ∧ t.size ≤ 1500 := by
  have h := mn_facts a0.size 1500 (by decide)
  refine ⟨a0.extract 0 (mn (a0.size : Int) 1500).toNat, ?_, ext_1500 a0⟩
  unfold emendlaw07_cut.f
  rw [if_pos h.1, if_pos h.2.1]

def Fine (c : S45) : Prop := c.f2.length ≤ 12 ∧ ∀ p ∈ c.f2, p.f2.size ≤ 300
theorem next_nat (j : Nat) (h : j ≤ 1000000) : wrap64 ((j : Int) + 1) = ((j + 1 : Nat) : Int) := by
  rw [wrap_small (by omega) (by omega)]
  omega

theorem pieces_l1 (x0 out : List S45) (i : Int) (h0 : 0 ≤ i) (h1 : i < (x0.length : Int)) (hout : out.length < 3518437208883) (f0 f1 : Int) :
    ∀ (d j : Nat) (ps : List S42), j + d = 12 → ps.length = j → (∀ p ∈ ps, p.f2.size ≤ 300) →
      ∃ (m : Nat) (ps' : List S42), ps'.length ≤ 12 ∧ (∀ p ∈ ps', p.f2.size ≤ 300) ∧ ∀ k, emendlaw07_pieces.l1 (k + m) x0 out i (j : Int) f0 f1 ps = emendlaw07_pieces.l0 k x0 (out ++ [⟨f0, f1, ps'⟩]) (wrap64 (i + 1))
  | 0, j, ps, hd, hj, hp => by
    refine ⟨1, ps, by omega, hp, fun k => ?_⟩
    rw [emendlaw07_pieces.l1, if_pos h0, if_pos h1]
    by_cases hl : (j : Int) < ((rd_T45 x0 i).f2.length : Int)
    · rw [if_pos hl, if_neg (by omega), if_pos hout]
    · rw [if_neg hl, if_pos hout]
  | d + 1, j, ps, hd, hj, hp => by
    by_cases hl : (j : Int) < ((rd_T45 x0 i).f2.length : Int)
    · have hf := mn_facts (rd_T42 (rd_T45 x0 i).f2 (j : Int)).f2.size 300 (by decide)
      obtain ⟨m, ps', h12, h300, hk⟩ := pieces_l1 x0 out i h0 h1 hout f0 f1 d (j + 1) (ps ++ [(⟨(rd_T42 ((rd_T45 x0 i).f2) (j : Int)).f0, (rd_T42 ((rd_T45 x0 i).f2) (j : Int)).f1, ((rd_T42 ((rd_T45 x0 i).f2) (j : Int)).f2).extract 0 ((mn (((rd_T42 ((rd_T45 x0 i).f2) (j : Int)).f2).size : Int) 300) : Int).toNat, (rd_T42 ((rd_T45 x0 i).f2) (j : Int)).f3⟩ : S42)]) (by omega) (by simp; omega) (by
        intro p hpm
        rcases List.mem_append.1 hpm with h | h
        · exact hp p h
        · simp only [List.mem_singleton] at h
          subst h
          exact ext_300 _)
      refine ⟨m + 1, ps', h12, h300, fun k => ?_⟩
      rw [← hk k, ← Nat.add_assoc, emendlaw07_pieces.l1, if_pos h0, if_pos h1, if_pos hl, if_pos (by omega), if_pos (by omega), if_pos hf.1, if_pos hf.2.1, if_pos (by omega), next_nat j (by omega)]
    · refine ⟨1, ps, by omega, hp, fun k => ?_⟩
      rw [emendlaw07_pieces.l1, if_pos h0, if_pos h1, if_neg hl, if_pos hout]

theorem pieces_l0 (x0 : List S45) : ∀ (d i : Nat) (out : List S45), i + d = 20 → out.length = i → (∀ c ∈ out, Fine c) →
      ∃ (m : Nat) (r : List S45), r.length ≤ 20 ∧ (∀ c ∈ r, Fine c) ∧ ∀ k, emendlaw07_pieces.l0 (k + m) x0 out (i : Int) = some r
  | 0, i, out, hd, ho, hf => by
    refine ⟨2, out, by omega, hf, fun k => ?_⟩
    have hdec : decide ((i : Int) < 20) = false := decide_eq_false (by omega)
    rw [show k + 2 = (k + 1) + 1 from rfl, emendlaw07_pieces.l0, hdec]
    split <;> rw [emendlaw07_pieces.j1, if_neg (by simp)]
  | d + 1, i, out, hd, ho, hf => by
    have hdec : decide ((i : Int) < 20) = true := decide_eq_true (by omega)
    by_cases hl : (i : Int) < (x0.length : Int)
    · obtain ⟨m1, ps, h12, h300, hk1⟩ := pieces_l1 x0 out (i : Int) (by omega) hl (by omega) (rd_T45 x0 (i : Int)).f0 (rd_T45 x0 (i : Int)).f1 12 0 [] rfl rfl (by simp)
      obtain ⟨m2, r, h20, hfr, hk2⟩ := pieces_l0 x0 d (i + 1) (out ++ [⟨(rd_T45 x0 (i : Int)).f0, (rd_T45 x0 (i : Int)).f1, ps⟩]) (by omega) (by simp; omega) (by
        intro c hc
        rcases List.mem_append.1 hc with h | h
        · exact hf c h
        · simp only [List.mem_singleton] at h
          subst h
          exact ⟨h12, h300⟩)
      refine ⟨m2 + m1 + 2, r, h20, hfr, fun k => ?_⟩
      rw [show k + (m2 + m1 + 2) = ((k + m2 + m1) + 1) + 1 by omega, emendlaw07_pieces.l0, if_pos hl, hdec, emendlaw07_pieces.j1, if_pos rfl, if_pos (by omega), if_pos hl]
      have h1 := hk1 (k + m2)
      rw [next_nat i (by omega)] at h1
      exact h1.trans (hk2 k)
    · refine ⟨2, out, by omega, hf, fun k => ?_⟩
      rw [show k + 2 = (k + 1) + 1 from rfl, emendlaw07_pieces.l0, if_neg hl, emendlaw07_pieces.j1, if_neg (by simp)]

theorem pieces_ends (l : List S45) : ∃ (k : Nat) (r : List S45), emendlaw07_pieces.f k l = some r ∧ r.length ≤ 20 ∧ ∀ c ∈ r, Fine c := by
  obtain ⟨m, r, h, hf, hk⟩ := pieces_l0 l 20 0 [] rfl rfl (by simp)
  exact ⟨0 + m, r, hk 0, h, hf⟩

theorem part_ends (t : ByteArray) (p : S42) (ht : t.size ≤ 1500) (hp : p.f2.size ≤ 300) : ∃ (b : ByteArray) (ok : Bool), b.size ≤ 1500 ∧ ∀ k, emendref07_part.f (k + 1) t p.f0 p.f1 p.f2 p.f3 = some (b, ok) := by
  have z0 : (⟨#[]⟩ : ByteArray).size ≤ 1500 := Nat.zero_le _
  unfold emendref07_part.f
  by_cases h3 : p.f3 = true
  · exact ⟨p.f2, true, by omega, fun k => by rw [if_pos h3, emendref07_part.j0, if_pos rfl]⟩
  · by_cases hn : (p.f2.toList != ([] : List UInt8)) = true
    · exact ⟨p.f2, true, by omega, fun k => by rw [if_neg h3, emendref07_part.j0, if_pos hn]⟩
    · by_cases c1 : p.f0 < 0
      · exact ⟨⟨#[]⟩, false, z0, fun k => by rw [if_neg h3, emendref07_part.j0, if_neg hn, if_pos c1]⟩
      · by_cases c2 : p.f0 > p.f1
        · exact ⟨⟨#[]⟩, false, z0, fun k => by rw [if_neg h3, emendref07_part.j0, if_neg hn, if_neg c1, if_pos c2]⟩
        · by_cases c3 : p.f1 > (t.size : Int)
          · exact ⟨⟨#[]⟩, false, z0, fun k => by rw [if_neg h3, emendref07_part.j0, if_neg hn, if_neg c1, if_neg c2, if_pos c3]⟩
          · refine ⟨t.extract p.f0.toNat p.f1.toNat, true, ?_, fun k => by rw [if_neg h3, emendref07_part.j0, if_neg hn, if_neg c1, if_neg c2, if_neg c3, if_pos (by omega), if_pos (by omega), if_pos (by omega)]⟩
            rw [ByteArray.size_extract]
            omega

theorem fits_ends (n : Int) (G : List S39) (hG : G.length ≤ 20) : ∀ (d i : Nat), i + d = G.length → ∃ (m : Nat) (b : Bool), ∀ k, emendref07_Fits.l0 (k + m) n G (i : Int) = some b
  | 0, i, hd => ⟨1, true, fun k => by rw [emendref07_Fits.l0, if_neg (by omega)]⟩
  | d + 1, i, hd => by
    obtain ⟨m, b, hk⟩ := fits_ends n G hG d (i + 1) (by omega)
    have hl : (i : Int) < (G.length : Int) := by omega
    have hu : ∀ k, emendref07_Fits.l0 (k + (m + 1)) n G (i : Int) = emendref07_Fits.l0 ((k + m) + 1) n G (i : Int) := fun k => rfl
    have hk' : ∀ k, emendref07_Fits.l0 (k + m) n G (wrap64 ((i : Int) + 1)) = some b := fun k => by rw [next_nat i (by omega)]; exact hk k
    by_cases c1 : (rd_T39 G (i : Int)).f0 < 0
    · exact ⟨m + 1, false, fun k => by rw [hu, emendref07_Fits.l0, if_pos hl, if_pos (by omega), if_pos c1]⟩
    · by_cases c2 : (rd_T39 G (i : Int)).f0 > (rd_T39 G (i : Int)).f1
      · exact ⟨m + 1, false, fun k => by rw [hu, emendref07_Fits.l0, if_pos hl, if_pos (by omega), if_neg c1, if_pos c2]⟩
      · by_cases c3 : (rd_T39 G (i : Int)).f1 > n
        · exact ⟨m + 1, false, fun k => by rw [hu, emendref07_Fits.l0, if_pos hl, if_pos (by omega), if_neg c1, if_neg c2, if_pos c3]⟩
        · by_cases c4 : (i : Int) > 0
          · have w : wrap64 ((i : Int) - 1) = (i : Int) - 1 := wrap_small (by omega) (by omega)
            by_cases c5 : (rd_T39 G (i : Int)).f0 < (rd_T39 G ((i : Int) - 1)).f1
            · exact ⟨m + 1, false, fun k => by rw [hu, emendref07_Fits.l0, if_pos hl, if_pos (by omega), if_neg c1, if_neg c2, if_neg c3, if_pos c4, w, if_pos (by omega), if_pos (by omega), if_pos c5]⟩
            · exact ⟨m + 1, b, fun k => by rw [hu, emendref07_Fits.l0, if_pos hl, if_pos (by omega), if_neg c1, if_neg c2, if_neg c3, if_pos c4, w, if_pos (by omega), if_pos (by omega), if_neg c5]; exact hk' k⟩
          · exact ⟨m + 1, b, fun k => by rw [hu, emendref07_Fits.l0, if_pos hl, if_pos (by omega), if_neg c1, if_neg c2, if_neg c3, if_neg c4]; exact hk' k⟩

theorem flat_l1_ends (t : ByteArray) (ht : t.size ≤ 1500) (L : List S45) (x6 : List S39) (x7 i : Int) (h0 : 0 ≤ i) (h1 : i < (L.length : Int)) (hP : Fine (rd_T45 L i)) (hx6 : x6.length < 20)
    (H : ∀ (y : List S39) (z : Int), y.length = x6.length + 1 → ∃ (m : Nat) (r : List S39 × Int), r.1.length ≤ 20 ∧ ∀ k, emendref07_Flat.l0 (k + m) t L y z (wrap64 (i + 1)) = some r) :
    ∀ (d j : Nat) (x9 : ByteArray), j + d = (rd_T45 L i).f2.length → x9.size ≤ j * 1500 → ∃ (m : Nat) (r : List S39 × Int), r.1.length ≤ 20 ∧ ∀ k, emendref07_Flat.l1 (k + m) t L x6 x7 i x9 (j : Int) = some r
  | 0, j, x9, hd, hs => by
    by_cases c : wrap64 (x7 + (x9.size : Int)) > 65536
    · exact ⟨1, ([], 3), by simp, fun k => by rw [emendref07_Flat.l1, if_pos h0, if_pos h1, if_neg (by omega), if_pos c]⟩
    · obtain ⟨m, r, hr, hk⟩ := H (x6 ++ [(⟨(rd_T45 L i).f0, (rd_T45 L i).f1, x9⟩ : S39)]) (wrap64 (x7 + (x9.size : Int))) (by simp)
      exact ⟨m + 1, r, hr, fun k => by rw [← Nat.add_assoc, emendref07_Flat.l1, if_pos h0, if_pos h1, if_neg (by omega), if_neg c, if_pos (by omega)]; exact hk k⟩
  | d + 1, j, x9, hd, hs => by
    have hj : (j : Int) < ((rd_T45 L i).f2.length : Int) := by omega
    have h12 := hP.1
    obtain ⟨b, ok, hb, hpk⟩ := part_ends t (rd_T42 (rd_T45 L i).f2 (j : Int)) ht (hP.2 _ (rd42_mem (by omega) hj))
    have hu : ∀ m k, emendref07_Flat.l1 (k + (m + 2)) t L x6 x7 i x9 (j : Int) = emendref07_Flat.l1 (((k + m) + 1) + 1) t L x6 x7 i x9 (j : Int) := fun m k => rfl
    cases ok with
    | false => exact ⟨0 + 2, ([], 2), by simp, fun k => by rw [hu, emendref07_Flat.l1, if_pos h0, if_pos h1, if_pos hj, if_pos (by omega), hpk, Option.bind_some, if_neg (by simp)]⟩
    | true =>
      by_cases c : wrap64 (x7 + (x9.size : Int)) ≤ 65536
      · obtain ⟨m, r, hr, hk⟩ := flat_l1_ends t ht L x6 x7 i h0 h1 hP hx6 H d (j + 1) (x9 ++ b) (by omega) (by rw [ByteArray.size_append]; omega)
        refine ⟨m + 2, r, hr, fun k => ?_⟩
        rw [hu, emendref07_Flat.l1, if_pos h0, if_pos h1, if_pos hj, if_pos (by omega), hpk, Option.bind_some, if_pos rfl, if_pos c, if_pos (by dsimp only; omega), next_nat j (by omega), show k + m + 1 = (k + 1) + m by omega]
        exact hk (k + 1)
      · obtain ⟨m, r, hr, hk⟩ := flat_l1_ends t ht L x6 x7 i h0 h1 hP hx6 H d (j + 1) x9 (by omega) (Nat.le_trans hs (Nat.mul_le_mul_right _ (Nat.le_succ j)))
        refine ⟨m + 2, r, hr, fun k => ?_⟩
        rw [hu, emendref07_Flat.l1, if_pos h0, if_pos h1, if_pos hj, if_pos (by omega), hpk, Option.bind_some, if_pos rfl, if_neg c, next_nat j (by omega), show k + m + 1 = (k + 1) + m by omega]
        exact hk (k + 1)

theorem flat_l0_ends (t : ByteArray) (ht : t.size ≤ 1500) (L : List S45) (hL : L.length ≤ 20) (hP : ∀ c ∈ L, Fine c) :
    ∀ (d i : Nat) (x6 : List S39) (x7 : Int), i + d = L.length → x6.length = i → ∃ (m : Nat) (r : List S39 × Int), r.1.length ≤ 20 ∧ ∀ k, emendref07_Flat.l0 (k + m) t L x6 x7 (i : Int) = some r
  | 0, i, x6, x7, hd, hx => by
    obtain ⟨m, b, hk⟩ := fits_ends (t.size : Int) x6 (by omega) x6.length 0 (by omega)
    have hf : ∀ k, emendref07_Fits.f (k + m) (t.size : Int) x6 = some b := fun k => by
      unfold emendref07_Fits.f
      rw [if_neg (by omega)]
      exact hk k
    cases b with
    | true => exact ⟨m + 1, (x6, 0), by dsimp only; omega, fun k => by rw [← Nat.add_assoc, emendref07_Flat.l0, if_neg (by omega), hf, Option.bind_some, if_pos rfl]⟩
    | false => exact ⟨m + 1, ([], 2), by simp, fun k => by rw [← Nat.add_assoc, emendref07_Flat.l0, if_neg (by omega), hf, Option.bind_some, if_neg (by simp)]⟩
  | d + 1, i, x6, x7, hd, hx => by
    have hi : (i : Int) < (L.length : Int) := by omega
    obtain ⟨m, r, hr, hk⟩ := flat_l1_ends t ht L x6 x7 (i : Int) (by omega) hi (hP _ (rd45_mem (by omega) hi)) (by omega) (fun y z hy => by
      rw [next_nat i (by omega)]
      exact flat_l0_ends t ht L hL hP d (i + 1) y z (by omega) (by omega)) (rd_T45 L (i : Int)).f2.length 0 ⟨#[]⟩ (by omega) (Nat.zero_le _)
    exact ⟨m + 1, r, hr, fun k => by rw [← Nat.add_assoc, emendref07_Flat.l0, if_pos hi]; exact hk k⟩

theorem flat_ends (t : ByteArray) (ht : t.size ≤ 1500) (L : List S45) (hL : L.length ≤ 20) (hP : ∀ c ∈ L, Fine c) : ∃ (k : Nat) (G : List S39) (g : Int), emendref07_Flat.f k t L = some (G, g) ∧ G.length ≤ 20 := by
  obtain ⟨m, r, hr, hk⟩ := flat_l0_ends t ht L hL hP L.length 0 [] 0 (by omega) rfl
  exact ⟨0 + m, r.1, r.2, hk 0, hr⟩

theorem same_l0 (G : List S39) (hG : G.length ≤ 20) : ∀ (d i : Nat), i + d = G.length → ∃ m : Nat, ∀ k, emendref07_Same.l0 (k + m) G G (i : Int) = some true
  | 0, i, hd => ⟨1, fun k => by rw [emendref07_Same.l0, if_neg (by omega)]⟩
  | d + 1, i, hd => by
    obtain ⟨m, hk⟩ := same_l0 G hG d (i + 1) (by omega)
    exact ⟨m + 1, fun k => by rw [← Nat.add_assoc, emendref07_Same.l0, if_pos (by omega), if_pos (by omega), if_pos (by omega), if_neg (by simp), next_nat i (by omega)]; exact hk k⟩
theorem same_ends (G : List S39) (hG : G.length ≤ 20) : ∃ k, emendref07_Same.f k G G = some true := by
  obtain ⟨m, hk⟩ := same_l0 G hG G.length 0 (by omega)
  exact ⟨0 + m, by unfold emendref07_Same.f; rw [if_pos rfl]; exact hk 0⟩
end Go.Proofs.Ytgdggbamhlinlaa.PEditsFlat
