/- YtgdggbamhlinlaaD2: plain facts for edits.Apply: sums of lengths, what has been copied so far, a copy of a string into a row of bytes, the row as a string. -/
import Derived.Lib.BufferWrite
import Derived.Laws.BytesString
import Derived.Laws.IdiomStrings
import Derived.Laws.CopyRow
import Derived.Laws.Tables
import Derived.Deep.OwnRows
import Derived.Laws.BytesArg
import Derived.Test.YtgdggbamhlinlaaD1
namespace Go.Proofs.Ytgdggbamhlinlaa.PEditsFlat
open Go.RowKit Go.Lib
set_option linter.unusedVariables false
set_option linter.unusedSimpArgs false

def cat (pre : List ByteArray) : List UInt8 := pre.flatMap fun x => x.data.toList
def wsum (pre : List ByteArray) : Int := pre.foldl (fun a x => wrap64 (a + (x.size : Int))) 0
def fill (n : Nat) (pre : List ByteArray) : List UInt8 := pre.foldl (fun q x => (q ++ x.data.toList).take n) []
theorem cat_snoc (pre : List ByteArray) (x : ByteArray) : cat (pre ++ [x]) = cat pre ++ x.data.toList := by simp [cat]
theorem cat_length_snoc (pre : List ByteArray) (x : ByteArray) : (cat (pre ++ [x])).length = (cat pre).length + x.size := by rw [cat_snoc]; simp
theorem wsum_snoc (pre : List ByteArray) (x : ByteArray) : wsum (pre ++ [x]) = wrap64 (wsum pre + (x.size : Int)) := by simp [wsum]
theorem fill_snoc (n : Nat) (pre : List ByteArray) (x : ByteArray) : fill n (pre ++ [x]) = (fill n pre ++ x.data.toList).take n := by simp [fill]
theorem fill_le (n : Nat) (pre : List ByteArray) : (fill n pre).length ≤ n := by
  rcases List.eq_nil_or_concat pre with rfl | ⟨r, x, rfl⟩
  · simp [fill]
  · rw [List.concat_eq_append, fill_snoc, List.length_take]; omega
theorem wsum_aux : ∀ (l : List ByteArray) (a : Int), 0 ≤ a → a + ((cat l).length : Int) ≤ 4611686018427387904 → l.foldl (fun a x => wrap64 (a + (x.size : Int))) a = a + ((cat l).length : Int)
  | [], a, _, _ => by simp [cat]
  | x :: r, a, h0, h => by
    have hc : (cat (x :: r)).length = x.size + (cat r).length := by simp [cat]
    rw [hc] at h ⊢
    have hw : wrap64 (a + (x.size : Int)) = a + (x.size : Int) := by unfold wrap64; omega
    rw [List.foldl_cons, hw, wsum_aux r (a + x.size) (by omega) (by omega)]
    omega
theorem wsum_eq {l : List ByteArray} (h : ((cat l).length : Int) ≤ 4611686018427387904) : wsum l = ((cat l).length : Int) := by
  unfold wsum
  rw [wsum_aux l 0 (by omega) (by omega)]
  omega
theorem fill_aux (n : Nat) : ∀ (l : List ByteArray) (q : List UInt8), l.foldl (fun q x => (q ++ x.data.toList).take n) (q.take n) = (q ++ cat l).take n
  | [], q => by simp [cat]
  | x :: r, q => by
    have hc : cat (x :: r) = x.data.toList ++ cat r := by simp [cat]
    have h1 : (q.take n ++ x.data.toList).take n = (q ++ x.data.toList).take n := by
      rw [List.take_append, List.take_append, List.take_take, Nat.min_self, List.length_take]
      congr 2
      omega
    rw [List.foldl_cons, h1, fill_aux n r (q ++ x.data.toList), hc, List.append_assoc]
theorem fill_eq (n : Nat) (l : List ByteArray) : fill n l = (cat l).take n := by
  have := fill_aux n l []
  simpa [fill] using this

/-- A row of n bytes that begins with q. -/
def rowOf (q : List UInt8) (n : Nat) : Array Value := (byteCells q ++ List.replicate (n - q.length) (Value.int .u8 0)).toArray
theorem rowOf_size {q : List UInt8} {n : Nat} (h : q.length ≤ n) : (rowOf q n).size = n := by
  simp [rowOf, byteCells_length]; omega
theorem rowOf_nil (n : Nat) : rowOf [] n = madeCells #[.int .u8 0] n := by
  apply Array.ext
  · simp [rowOf, byteCells, madeCells]
  · intro i h1 h2
    simp [rowOf, byteCells, madeCells, Nat.mod_one]

theorem run_copy_fill {P : Program} (w : World) (dT sT ty elem : TypeId) (g n dCap : Nat) (q : List UInt8) (s : ByteArray) (hq : q.length ≤ n)
    (hu : P.underlying dT = some (.slice elem)) (hs : (P.info? elem).map (·.size) = some 1) (hg : w.heap[g]? = some (.cells (rowOf q n) 5 (0, 0))) :
    (Builtin.copy_ #[dT, sT] ty #[.slice (some ⟨g, q.length, none⟩) (n - q.length) dCap, .string s]).run P w =
      .ok (goInt ((min s.size (n - q.length) : Nat) : Int)) (w.setRow g (rowOf ((q ++ s.data.toList).take n) n)) := by
  obtain ⟨k, hk⟩ : ∃ k, k = min s.size (n - q.length) := ⟨_, rfl⟩
  have hmin : Nat.min s.size (n - q.length) = k := hk.symm
  have hsz : s.data.toList.length = s.size := by simp
  have htk : List.take k (List.map (fun b : UInt8 => Value.int IntKind.u8 (b.toNat : Int)) s.data.toList) = byteCells (s.data.toList.take k) := by
    rw [byteCells, List.map_take]
  have hlen : (byteCells (s.data.toList.take k)).length = k := by rw [byteCells_length, List.length_take, hsz]; omega
  have hst := run_storeCells_at P g q.length 5 (byteCells (s.data.toList.take k)) 0 (rowOf q n) w hg (by rw [hlen, rowOf_size hq]; omega) (byteCells_one _)
  rw [hlen] at hst
  simp only [Nat.add_zero] at hst
  have hrow : ((rowOf q n).toList.take q.length ++ byteCells (s.data.toList.take k) ++ (rowOf q n).toList.drop (q.length + k)).toArray = rowOf ((q ++ s.data.toList).take n) n := by
    unfold rowOf
    congr 1
    have e1 : (q ++ s.data.toList).take n = q ++ s.data.toList.take k := by
      rw [List.take_append, List.take_of_length_le hq]
      congr 1
      rw [hk]
      by_cases hh : s.size ≤ n - q.length
      · rw [Nat.min_eq_left hh, List.take_of_length_le (by omega), List.take_of_length_le (by omega)]
      · rw [Nat.min_eq_right (by omega)]
    rw [e1, byteCells_append]
    have e2 : (byteCells q ++ List.replicate (n - q.length) (Value.int .u8 0)).take q.length = byteCells q := by
      rw [List.take_append_of_le_length (by rw [byteCells_length]; exact Nat.le_refl _), List.take_of_length_le (by rw [byteCells_length]; exact Nat.le_refl _)]
    have e3 : (byteCells q ++ List.replicate (n - q.length) (Value.int .u8 0)).drop (q.length + k) = List.replicate (n - q.length - k) (Value.int .u8 0) := by
      rw [List.drop_append, byteCells_length, List.drop_of_length_le (by rw [byteCells_length]; omega), List.nil_append, List.drop_replicate]
      congr 1
      omega
    have e4 : (q ++ s.data.toList.take k).length = q.length + k := by rw [List.length_append, List.length_take, hsz]; omega
    rw [e4]
    simp only [List.append_assoc] at *
    rw [show n - (q.length + k) = n - q.length - k by omega, e2, e3]
  cases hp : P.info? elem with
  | none => simp [hp] at hs
  | some i =>
    rw [← hk]
    simp [hp] at hs
    simp [Builtin.copy_, run_underlying hu, Builtin.lenOf, Builtin.firstCells, sizeOf, typeInfo, hp, hs, hmin]
    rw [htk, hst, hrow]
    simp [Result.andThen]

theorem run_copy_full {P : Program} (w : World) (dT sT ty elem : TypeId) (d : Option Addr) (dCap : Nat) (s : ByteArray)
    (hu : P.underlying dT = some (.slice elem)) (hs : (P.info? elem).map (·.size) = some 1) :
    (Builtin.copy_ #[dT, sT] ty #[.slice d 0 dCap, .string s]).run P w = .ok (goInt 0) w := by
  cases hp : P.info? elem with
  | none => simp [hp] at hs
  | some i =>
    simp [hp] at hs
    cases d <;> simp [Builtin.copy_, run_underlying hu, Builtin.lenOf, Builtin.firstCells, sizeOf, typeInfo, hp, hs, storeCells]

theorem run_row_string {P : Program} (w : World) (src dst e g cap : Nat) (q : List UInt8) (hs : P.underlying src = some (.slice e)) (he : P.underlying e = some (.int .u8)) (hd : P.underlying dst = some .string)
    (hg : w.heap[g]? = some (.cells (rowOf q q.length) 5 (0, 0))) :
    (convert src dst (.slice (some ⟨g, 0, none⟩) q.length cap)).run P w = .ok (.string ⟨q.toArray⟩) w := by
  have hrow : rowOf q q.length = (byteCells q).toArray := by simp [rowOf]
  rw [hrow] at hg
  have hl : (loadCells ⟨g, 0, none⟩ q.length).run P w = .ok ((q.map fun b => (b.toNat : Int)).map (Value.int .u8)).toArray w := by
    have h := run_loadCells_list (P := P) (w := w) ⟨g, 0, none⟩ (byteCells q) (fun j v hj => by
      rw [show (⟨g, 0, none⟩ : Addr).add j = ⟨g, j, none⟩ by unfold Addr.add; split <;> simp_all]
      rw [cell_of_heap hg]
      simpa using hj)
    rw [byteCells_length] at h
    rw [h]
    simp [byteCells]
  rw [run_convert_bytes_string w src dst e _ q.length cap hs he hd, run_bytesToString w _ q.length cap _ hl, foldl_push_byteCells]
  simp [ByteArray.empty, ByteArray.emptyWithCapacity]
  rfl

end Go.Proofs.Ytgdggbamhlinlaa.PEditsFlat
