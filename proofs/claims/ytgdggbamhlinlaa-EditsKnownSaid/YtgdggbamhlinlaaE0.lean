/- YtgdggbamhlinlaaE0: what Check, Apply and Flat answer to the splices of EditsLong. No program in sight. -/
import Derived.Test.YtgdggbamhlinlaaD4
import Derived.Test.YtgdggbamhlinlaaC3
namespace Go.Proofs.Ytgdggbamhlinlaa.PEditsFlat
open Go.RowKit Go.Shelf Go.Proofs.YtgdggbamhlinlaaW.PrintWords Go.Proofs.YtgdggbamhlinlaaW.PrintLast Go.Proofs.YtgdggbamhlinlaaW.PrintMore
set_option linter.unusedVariables false
set_option linter.unusedSimpArgs false

def zeros (n : Nat) : List UInt8 := List.replicate n 0
def zstr (n : Nat) : ByteArray := ⟨(zeros n).toArray⟩
theorem zstr_size (n : Nat) : (zstr n).size = n := by simp [zstr, zeros, ByteArray.size]
theorem row_zeros (n : Nat) : madeCells #[.int .u8 0] n = rowOf (zeros n) (zeros n).length := by
  have h : (zeros n).length = n := by simp [zeros]
  rw [h, ← rowOf_nil]
  simp [rowOf, Lib.byteCells, zeros]

theorem w_one : wrap64 1 = 1 := by kernel_rfl
theorem w_two : wrap64 2 = 2 := by kernel_rfl
theorem check_one (n : Int) (hn : 0 ≤ n) (b : Int) (h0 : 0 ≤ b) (hb : b ≤ n) (s : ByteArray) : edits_Check.f 2 n [⟨0, b, s⟩] = some 0 := by
  have e0 : wrap64 (0 + 1) = 1 := by kernel_rfl
  simp [edits_Check.f, edits_Check.l0, rd_T39, e0, w_one, Int.not_lt.2 hn, Int.not_lt.2 h0, Int.not_lt.2 hb, hn]

theorem cat_one (text add : ByteArray) (b : Nat) (hb : b ≤ text.size) : (cat (chunks text [⟨0, (b : Int), add⟩])).length = add.size + (text.size - b) := by
  simp [chunks, cat, pcs, endAt]

/-- The cut that EditsLong asks for. -/
def longCut (text add : ByteArray) : List S45 := [⟨0, 0, [⟨0, (text.size : Int), ⟨#[]⟩, false⟩, ⟨0, 0, add, true⟩]⟩]

section
variable (text add : ByteArray)
theorem rd_c0 : rd_T45 (longCut text add) 0 = ⟨0, 0, [⟨0, (text.size : Int), ⟨#[]⟩, false⟩, ⟨0, 0, add, true⟩]⟩ := rfl
theorem rd_p0 : rd_T42 [⟨0, (text.size : Int), ⟨#[]⟩, false⟩, ⟨0, 0, add, true⟩] 0 = ⟨0, (text.size : Int), ⟨#[]⟩, false⟩ := rfl
theorem rd_p1 : rd_T42 [⟨0, (text.size : Int), ⟨#[]⟩, false⟩, ⟨0, 0, add, true⟩] 1 = ⟨0, 0, add, true⟩ := rfl
theorem part_first (k : Nat) : emendref07_part.f (k + 1) text 0 (text.size : Int) ⟨#[]⟩ false = some (text, true) := by
  simp [emendref07_part.f, emendref07_part.j0]
theorem part_second (k : Nat) : emendref07_part.f (k + 1) text 0 0 add true = some (add, true) := by
  simp [emendref07_part.f, emendref07_part.j0]
theorem len_c : ((longCut text add).length : Int) = 1 := rfl
theorem len_p : (([⟨0, (text.size : Int), ⟨#[]⟩, false⟩, ⟨0, 0, add, true⟩] : List S42).length : Int) = 2 := rfl
theorem flat_end (k : Nat) (G : ByteArray) (x7 : Int) : emendref07_Flat.l0 (k + 1 + 4) text (longCut text add) [⟨0, 0, G⟩] x7 1 = some ([⟨0, 0, G⟩], 0) := by
  have hf : ∀ k, emendref07_Fits.f (k + 4) (text.size : Int) [⟨0, 0, G⟩] = some true := fun k => by
    have e0 : wrap64 (0 + 1) = 1 := by kernel_rfl
    have ng : ¬ ((text.size : Int) < 0) := by omega
    simp [emendref07_Fits.f, emendref07_Fits.l0, rd_T39, e0, w_one, ng]
  rw [emendref07_Flat.l0]
  rw [len_c, if_neg (by omega), hf k]
  rfl
theorem flat_out (k : Nat) (G : ByteArray) (hG : G.size ≤ 262144) : emendref07_Flat.l1 (k + 1 + 4 + 1) text (longCut text add) [] 0 0 G 2 = some (if (G.size : Int) ≤ 65536 then ([⟨0, 0, G⟩], 0) else ([], 3)) := by
  have w : wrap64 (0 + (G.size : Int)) = G.size := by rw [Int.zero_add]; exact wrap_small (by omega) (by omega)
  rw [emendref07_Flat.l1]
  rw [rd_c0, len_c, len_p, w, if_pos (by omega), if_pos (by omega), if_neg (by omega)]
  by_cases h : (G.size : Int) ≤ 65536
  · have e0 : wrap64 (0 + 1) = 1 := by kernel_rfl
    rw [if_neg (by omega), if_pos (by simp), if_pos h, e0, List.nil_append]
    exact flat_end text add k G _
  · rw [if_pos (by omega), if_neg h]
theorem flat_two (k : Nat) (G : ByteArray) (hG : G.size ≤ 131072) (ha : add.size ≤ 131072) : emendref07_Flat.l1 (k + 1 + 4 + 1 + 1) text (longCut text add) [] 0 0 G 1 = some (if ((G.size + add.size : Nat) : Int) ≤ 65536 ∧ (G.size : Int) ≤ 65536 then ([⟨0, 0, G ++ add⟩], 0) else ([], 3)) := by
  have w : wrap64 (0 + (G.size : Int)) = G.size := by rw [Int.zero_add]; exact wrap_small (by omega) (by omega)
  have e1 : wrap64 (1 + 1) = 2 := by kernel_rfl
  rw [emendref07_Flat.l1]
  rw [rd_c0, len_c, len_p, w, if_pos (by omega), if_pos (by omega), if_pos (by omega), if_pos (by omega), rd_p1, part_second, Option.bind_some, if_pos rfl]
  by_cases h : (G.size : Int) ≤ 65536
  · rw [if_pos h, if_pos (by show _ ≤ 9223372036854775807; dsimp only; omega), e1, flat_out text add k _ (by rw [ByteArray.size_append]; dsimp only; omega)]
    simp only [ByteArray.size_append, h, and_true]
  · rw [if_neg h, e1, flat_out text add k _ (by omega), if_neg h, if_neg (by omega)]
theorem flat_long (ht : text.size ≤ 131072) (ha : add.size ≤ 131072) :
    ∃ G, emendref07_Flat.f 10 text (longCut text add) = some (G, if text.size + add.size ≤ 65536 then 0 else 3) := by
  have e0 : wrap64 (0 + 1) = 1 := by kernel_rfl
  have w0 : wrap64 0 = 0 := by kernel_rfl
  have z0 : (⟨#[]⟩ : ByteArray).size = 0 := rfl
  have x1 : (⟨#[]⟩ : ByteArray) ++ text = text := ByteArray.ext (by simp)
  have H : emendref07_Flat.f 10 text (longCut text add) = some (if ((text.size + add.size : Nat) : Int) ≤ 65536 ∧ (text.size : Int) ≤ 65536 then ([⟨0, 0, text ++ add⟩], 0) else ([], 3)) := by
    unfold emendref07_Flat.f
    rw [emendref07_Flat.l0, len_c, if_pos (by omega)]
    rw [emendref07_Flat.l1]
    rw [rd_c0, len_c, len_p, z0, if_pos (by omega), if_pos (by omega), if_pos (by omega), if_pos (by omega), rd_p0, part_first, Option.bind_some, if_pos rfl, if_pos (by simp [w0]), if_pos (by dsimp only; omega), e0, x1]
    exact flat_two text add 1 text ht ha
  by_cases h : text.size + add.size ≤ 65536
  · exact ⟨[⟨0, 0, text ++ add⟩], by rw [H, if_pos ⟨by omega, by omega⟩, if_pos h]⟩
  · exact ⟨[], by rw [H, if_neg (by omega), if_neg h]⟩
end
/-- What Apply answers to one splice at the beginning. -/
theorem apply_long (text add : ByteArray) (b : Nat) (hb : b ≤ text.size) :
    ∃ r, ApplyRes text [⟨0, (b : Int), add⟩] 0 r (if text.size - b + add.size ≤ 65536 then 0 else 3) ∧ (text.size - b + add.size ≤ 65536 → r.size = text.size - b + add.size) := by
  have hc := cat_one text add b hb
  by_cases h : text.size - b + add.size ≤ 65536
  · refine ⟨⟨(cat (chunks text [⟨0, (b : Int), add⟩])).toArray⟩, .inr (.inr ⟨rfl, by omega, rfl, by simp [h]⟩), fun _ => ?_⟩
    simp only [ByteArray.size, List.size_toArray]
    simp only [ByteArray.size] at hc
    omega
  · exact ⟨⟨#[]⟩, .inr (.inl ⟨rfl, by omega, rfl, by simp [h]⟩), fun hh => absurd hh h⟩
end Go.Proofs.Ytgdggbamhlinlaa.PEditsFlat
