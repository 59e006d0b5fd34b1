/- YtgdggbamhlinlaaC3: edits.Flat (function 7) answers what the reference's Flat answers, whatever the cuts. -/
import Derived.Test.YtgdggbamhlinlaaC2
namespace Go.Proofs.Ytgdggbamhlinlaa.PEditsFlat
open Go.RowKit Go.Proofs.YtgdggbamhlinlaaW.PrintWords Go.Proofs.YtgdggbamhlinlaaW.PrintLast Go.Proofs.YtgdggbamhlinlaaW.PrintMore
attribute [local go_sem] max2_int min2_int max_two min_two max_three min_three max_four min_four
set_option linter.unusedVariables false
set_option linter.unusedSimpArgs false

set_option maxHeartbeats 8000000 in
set_option maxRecDepth 100000 in
theorem edits_Flat.calls (k : Nat) (a0 : ByteArray) (A1 : Option Addr) (c1 : Nat) (l1 : List (S45)) (r1 : List (S39)) (r2 : Int) (w : World) (hr1 : Kd.C k45 w A1 l1.length l1) (hc1 : l1.length ≤ c1)
    (hl1 : l1.length ≤ 1099511627776) (ha0 : a0.size ≤ 1099511627776) (hp1 : ∀ c ∈ l1, c.f2.length ≤ 1099511627776 ∧ ∀ p ∈ c.f2, p.f2.size ≤ 1099511627776) (h : emendref07_Flat.f k a0 l1 = some (r1, r2)) :
    Calls Try.prog 7 #[.string a0, .slice A1 l1.length c1] w fun e w' => ∃ v0_ : Value, e = .returned (.tuple #[v0_, .int .i64 r2]) ∧ Kd.R k39 39 w' w.heap.size (fun _ => True) v0_ r1 ∧ Below w.heap.size w w' := by
  have hu45 := Try.underlying45
  have hu42 := Try.underlying42
  have hu39 := Try.underlying39
  have HR1 := Aside0.mk hr1
  have HC1 := Aside0.mk hc1
  have HL1 := Aside0.mk hl1
  have HA0 := Aside0.mk ha0
  have HP1 := Aside0.mk hp1
  clear hr1 hc1 hl1 ha0 hp1
  have HB := Aside0.mk (Below.refl w.heap.size w)
  have H' := Aside0.mk (show emendref07_Flat.l0 k a0 l1 ([] : List (S39)) 0 0 = some (r1, r2) from h)
  clear h
  go_enter Try.func7, Try.ntmps7
  go_wp2
  go_loopg [6, 7, 17] k (fun kq v6 v7 v17 w' => ∃ (x6_1 : List (S39)) (x7_1 : Int) (x8_1 : Int), v7 = .int .i64 x7_1 ∧ v17 = .int .i64 x8_1 ∧ Aside0 (emendref07_Flat.l0 kq a0 l1 x6_1 x7_1 x8_1 = some (r1, r2)) ∧ Aside0 (kq ≤ k) ∧ Aside0 (0 ≤ x7_1 ∧ x7_1 ≤ 65536) ∧ Aside0 (0 ≤ x8_1 ∧ x6_1.length ≤ x8_1 ∧ x8_1 ≤ l1.length) ∧ Aside0 (Kd.R k39 39 w' w.heap.size (fun _ => True) v6 x6_1) ∧ Aside0 (Below w.heap.size w w'))
  case atStart => exact ⟨[], 0, 0, rfl, rfl, H', ⟨Nat.le_refl _⟩, ⟨by omega⟩, ⟨by simp⟩, ⟨Kd.R_nil _ _ _ _ _⟩, ⟨by repeat (first | (with_reducible first | exact HB.out | apply below_alloc | apply pw_below_drewN | apply below_drew1) | exact HB.out)⟩⟩
  case round =>
    clear H'
    obtain ⟨x6_1, x7_1, x8_1, rfl, rfl, HA, HK1, HX7, HX8, HO_6, HB⟩ := hrel
    cases gk with
    | zero => exact absurd HA.out (by simp [emendref07_Flat.l0])
    | succ k1 =>
      have H := HA.out
      clear HA
      simp only [emendref07_Flat.l0] at H
      by_cases c3 : x8_1 < (l1.length : Int)
      · rw [if_pos c3] at H
        have c3b0 : decide (x8_1 < (l1.length : Int)) = true := decide_eq_true c3
        have c3b1 : decide (0 ≤ x8_1) = true := decide_eq_true HX8.out.1
        have c3c := eq_true c3
        have c3d := eq_true HX8.out.1
        obtain ⟨ad130, A130_2, c130_2, e130, hx130_0, hx130_1, hx130_2, hl130_2, hi130_2⟩ := at_T45 HR1.out x8_1 HX8.out.1 c3
        cases e130
        replace hx130_0 := (HB.out.cell (World.block_lt_of_cell? w _ hx130_0)).trans hx130_0
        replace hx130_1 := (HB.out.cell (World.block_lt_of_cell? w _ hx130_1)).trans hx130_1
        replace hx130_2 := (HB.out.cell (World.block_lt_of_cell? w _ hx130_2)).trans hx130_2
        have HR130_2 := Aside0.mk hi130_2
        have HC130_2 := Aside0.mk hl130_2
        clear hi130_2 hl130_2 c3
        have H' := Aside0.mk H
        clear H
        go_wp2
        obtain ⟨wo, rfl⟩ : ∃ wo : World, wo = wr := ⟨_, rfl⟩
        go_loopg [24] k1 (fun kq v24 w' => ∃ (x9_2 : ByteArray) (x10_2 : Int), v24 = .int .i64 x10_2 ∧ Aside0 (emendref07_Flat.l1 kq a0 l1 x6_1 x7_1 x8_1 x9_2 x10_2 = some (r1, r2)) ∧ Aside0 (kq ≤ k1) ∧ Aside0 (0 ≤ x10_2) ∧ Aside0 (x9_2.size ≤ 1099511693312) ∧ Aside0 (Lib.IsBuilder 65 5 (wo.heap.size + 1) (wo.heap.size + 1) (Lib.byteCells x9_2.data.toList) w') ∧ Aside0 (Below (wo.heap.size + 1) (wo.alloc (Obj.cells #[Value.int IntKind.i64 (rd_T45 l1 x8_1).f0, Value.int IntKind.i64 (rd_T45 l1 x8_1).f1, Value.slice A130_2 (rd_T45 l1 x8_1).f2.length c130_2] 45)) w'))
        case atStart => exact ⟨⟨#[]⟩, 0, rfl, H', ⟨Nat.le_refl _⟩, ⟨Int.le_refl _⟩, ⟨Nat.zero_le _⟩, ⟨fresh_b _ _⟩, ⟨by refine (Below.refl _ _).alloc ?_ _; simp⟩⟩
        case round =>
          clear H'
          obtain ⟨x9_2, x10_2, rfl, HA, HK2, HX10, HX9, HI, HBi⟩ := hrel
          cases gk with
          | zero => exact absurd HA.out (by simp [emendref07_Flat.l1])
          | succ k2 =>
            have H := HA.out
            clear HA
            simp only [emendref07_Flat.l1] at H
            rw [if_pos (of_eq_true c3d), if_pos (of_eq_true c3c)] at H
            have HBW : Aside0 (Below w.heap.size w wr) := ⟨((HB.out.alloc HB.out.size _).trans (HBi.out.mono (by have := HB.out.size; omega)))⟩
            by_cases c6 : x10_2 < (((rd_T45 l1 x8_1).f2).length : Int)
            · rw [if_pos c6, if_pos HX10.out] at H
              have c6b0 : decide (x10_2 < (((rd_T45 l1 x8_1).f2).length : Int)) = true := decide_eq_true c6
              have c6c := eq_true c6
              have c6d := eq_true HX10.out
              replace H := Option.bind_eq_some_iff.mp H
              obtain ⟨⟨t138, t139⟩, A80, H⟩ := H
              obtain ⟨ad137, e137, hx137_0, hx137_1, hx137_2, hx137_3⟩ := at_T42 HR130_2.out x10_2 HX10.out c6
              cases e137
              replace hx137_0 := (HBW.out.cell (World.block_lt_of_cell? w _ hx137_0)).trans hx137_0
              replace hx137_1 := (HBW.out.cell (World.block_lt_of_cell? w _ hx137_1)).trans hx137_1
              replace hx137_2 := (HBW.out.cell (World.block_lt_of_cell? w _ hx137_2)).trans hx137_2
              replace hx137_3 := (HBW.out.cell (World.block_lt_of_cell? w _ hx137_3)).trans hx137_3
              clear c6
              have HT0 : Aside0 ((rd_T42 ((rd_T45 l1 x8_1).f2) x10_2).f2.size ≤ 1099511627776) := ⟨(HP1.out _ (rd45_mem (of_eq_true c3d) (of_eq_true c3c))).2 _ (rd42_mem HX10.out (of_eq_true c6c))⟩
              have hX7a := HX7.out.1
              have hX7b := HX7.out.2
              have hX9 := HX9.out
              have hX10a := HX10.out
              have hX10b : x10_2 ≤ 1099511627776 := by have := (HP1.out _ (rd45_mem (of_eq_true c3d) (of_eq_true c3c))).1; have := of_eq_true c6c; omega
              have hw7 : wrap64 (x7_1 + (x9_2.size : Int)) = x7_1 + (x9_2.size : Int) := wrap_small (by omega) (by omega)
              have hw10 : wrap64 (x10_2 + 1) = x10_2 + 1 := wrap_small (by omega) (by omega)
              have HSZ : Aside0 (wo.heap.size + 1 ≤ wr.heap.size) := ⟨by have := HBi.out.size; simp at this; omega⟩
              rcases part_of A80 with ⟨q1, q2, q3⟩ | ⟨q1, q2, q3, q4⟩ | ⟨q1, q2, q3, q4⟩ | ⟨q1, q2, q3, q4, q5⟩ | ⟨q1, q2, q3, q4, q5, q6⟩ | ⟨q1, q2, q3, q4, q5, q6, q7⟩
              · subst q2
                subst q3
                rw [q1] at hx137_3
                have HT : Aside0 ((rd_T42 ((rd_T45 l1 x8_1).f2) x10_2).f2.size ≤ 1099511627776) := HT0
                clear q1
                dsimp only at H
                rw [if_pos rfl, hw7] at H
                by_cases c10 : x7_1 + (x9_2.size : Int) ≤ 65536
                · rw [if_pos c10, if_pos (by have := HT.out; omega), hw10] at H
                  have hls : x9_2.size + ((rd_T42 ((rd_T45 l1 x8_1).f2) x10_2).f2).size ≤ 140737488355328 := by have := HT.out; omega
                  have hls' := Aside0.mk hls
                  clear hls
                  have c10b := eq_true c10
                  clear c10
                  have H' := Aside0.mk H
                  clear H
                  go_wp2_with (first | (go_at_call 20; (with_reducible refine (bLen _ _ x9_2 _ (isB_alloc HI.out _)).mono ?_); rintro e w' ⟨rfl, rfl⟩) | (go_at_call 21; (with_reducible refine (bWrite _ _ x9_2 _ _ (isB_alloc HI.out _) hls'.out (by have := HSZ.out; simp; omega)).mono ?_); rintro e w12 ⟨rfl, hI2, hb2⟩; have HI2 := Aside0.mk hI2; have HB2 := Aside0.mk hb2; clear hI2 hb2))
                  go_roundg k2
                  case measure => have := HK1.out; have := HK2.out; omega
                  case rel => exact ⟨x9_2 ++ (rd_T42 ((rd_T45 l1 x8_1).f2) x10_2).f2, x10_2 + 1, rfl, H', ⟨by have := HK2.out; omega⟩, ⟨by omega⟩, ⟨by rw [ByteArray.size_append]; have := HT.out; have := hX7a; have := of_eq_true c10b; omega⟩, HI2, ⟨(HBi.out.alloc (by have := HSZ.out; simp; omega) _).trans HB2.out⟩⟩
                · rw [if_neg c10, hw10] at H
                  have c10b := eq_false c10
                  have c10c : decide (x7_1 + (x9_2.size : Int) ≤ 65536) = false := decide_eq_false c10
                  clear c10
                  have H' := Aside0.mk H
                  clear H
                  go_wp2_with (first | (go_at_call 20; (with_reducible refine (bLen _ _ x9_2 _ (isB_alloc HI.out _)).mono ?_); rintro e w' ⟨rfl, rfl⟩))
                  go_roundg k2
                  case measure => have := HK1.out; have := HK2.out; omega
                  case rel => exact ⟨x9_2, x10_2 + 1, rfl, H', ⟨by have := HK2.out; omega⟩, ⟨by omega⟩, HX9, ⟨isB_alloc HI.out _⟩, ⟨HBi.out.alloc (by have := HSZ.out; simp; omega) _⟩⟩
              · subst q3
                subst q4
                rw [q1] at hx137_3
                have HT : Aside0 ((rd_T42 ((rd_T45 l1 x8_1).f2) x10_2).f2.size ≤ 1099511627776) := HT0
                have q2b : (rd_T42 ((rd_T45 l1 x8_1).f2) x10_2).f2.toList.isEmpty = false := by simpa using q2
                clear q1
                dsimp only at H
                rw [if_pos rfl, hw7] at H
                by_cases c10 : x7_1 + (x9_2.size : Int) ≤ 65536
                · rw [if_pos c10, if_pos (by have := HT.out; omega), hw10] at H
                  have hls : x9_2.size + ((rd_T42 ((rd_T45 l1 x8_1).f2) x10_2).f2).size ≤ 140737488355328 := by have := HT.out; omega
                  have hls' := Aside0.mk hls
                  clear hls
                  have c10b := eq_true c10
                  clear c10
                  have H' := Aside0.mk H
                  clear H
                  go_wp2_with (first | (go_at_call 20; (with_reducible refine (bLen _ _ x9_2 _ (isB_alloc HI.out _)).mono ?_); rintro e w' ⟨rfl, rfl⟩) | (go_at_call 21; (with_reducible refine (bWrite _ _ x9_2 _ _ (isB_alloc HI.out _) hls'.out (by have := HSZ.out; simp; omega)).mono ?_); rintro e w12 ⟨rfl, hI2, hb2⟩; have HI2 := Aside0.mk hI2; have HB2 := Aside0.mk hb2; clear hI2 hb2))
                  go_roundg k2
                  case measure => have := HK1.out; have := HK2.out; omega
                  case rel => exact ⟨x9_2 ++ (rd_T42 ((rd_T45 l1 x8_1).f2) x10_2).f2, x10_2 + 1, rfl, H', ⟨by have := HK2.out; omega⟩, ⟨by omega⟩, ⟨by rw [ByteArray.size_append]; have := HT.out; have := hX7a; have := of_eq_true c10b; omega⟩, HI2, ⟨(HBi.out.alloc (by have := HSZ.out; simp; omega) _).trans HB2.out⟩⟩
                · rw [if_neg c10, hw10] at H
                  have c10b := eq_false c10
                  have c10c : decide (x7_1 + (x9_2.size : Int) ≤ 65536) = false := decide_eq_false c10
                  clear c10
                  have H' := Aside0.mk H
                  clear H
                  go_wp2_with (first | (go_at_call 20; (with_reducible refine (bLen _ _ x9_2 _ (isB_alloc HI.out _)).mono ?_); rintro e w' ⟨rfl, rfl⟩))
                  go_roundg k2
                  case measure => have := HK1.out; have := HK2.out; omega
                  case rel => exact ⟨x9_2, x10_2 + 1, rfl, H', ⟨by have := HK2.out; omega⟩, ⟨by omega⟩, HX9, ⟨isB_alloc HI.out _⟩, ⟨HBi.out.alloc (by have := HSZ.out; simp; omega) _⟩⟩
              · subst q4
                rw [q1] at hx137_3
                have q3b := eq_true q3
                clear q1 q3
                dsimp only at H
                rw [if_neg (by simp)] at H
                simp only [Option.some.injEq, Prod.mk.injEq] at H
                obtain ⟨rfl, rfl⟩ := H
                go_wp2
                go_ret2
                exact ⟨_, rfl, Kd.R_nil _ _ _ _ _, HBW.out.alloc HBW.out.size _⟩
              · subst q5
                rw [q1] at hx137_3
                have q3b : decide ((rd_T42 ((rd_T45 l1 x8_1).f2) x10_2).f0 < 0) = false := decide_eq_false (by omega)
                have q4b := eq_true q4
                clear q1 q4
                dsimp only at H
                rw [if_neg (by simp)] at H
                simp only [Option.some.injEq, Prod.mk.injEq] at H
                obtain ⟨rfl, rfl⟩ := H
                go_wp2
                go_ret2
                exact ⟨_, rfl, Kd.R_nil _ _ _ _ _, HBW.out.alloc HBW.out.size _⟩
              · subst q6
                rw [q1] at hx137_3
                have q3b : decide ((rd_T42 ((rd_T45 l1 x8_1).f2) x10_2).f0 < 0) = false := decide_eq_false (by omega)
                have q4b : decide ((rd_T42 ((rd_T45 l1 x8_1).f2) x10_2).f1 < (rd_T42 ((rd_T45 l1 x8_1).f2) x10_2).f0) = false := decide_eq_false (by omega)
                have q5b := eq_true q5
                clear q1 q5
                dsimp only at H
                rw [if_neg (by simp)] at H
                simp only [Option.some.injEq, Prod.mk.injEq] at H
                obtain ⟨rfl, rfl⟩ := H
                go_wp2
                go_ret2
                exact ⟨_, rfl, Kd.R_nil _ _ _ _ _, HBW.out.alloc HBW.out.size _⟩
              · subst q6
                subst q7
                rw [q1] at hx137_3
                have HT : Aside0 ((a0.extract (rd_T42 ((rd_T45 l1 x8_1).f2) x10_2).f0.toNat (rd_T42 ((rd_T45 l1 x8_1).f2) x10_2).f1.toNat).size ≤ 1099511627776) := ⟨by rw [ByteArray.size_extract]; have := HA0.out; omega⟩
                have q3b : decide ((rd_T42 ((rd_T45 l1 x8_1).f2) x10_2).f0 < 0) = false := decide_eq_false (by omega)
                have q4b : decide ((rd_T42 ((rd_T45 l1 x8_1).f2) x10_2).f1 < (rd_T42 ((rd_T45 l1 x8_1).f2) x10_2).f0) = false := decide_eq_false (by omega)
                have q5b : decide ((a0.size : Int) < (rd_T42 ((rd_T45 l1 x8_1).f2) x10_2).f1) = false := decide_eq_false (by omega)
                clear q1
                dsimp only at H
                rw [if_pos rfl, hw7] at H
                by_cases c10 : x7_1 + (x9_2.size : Int) ≤ 65536
                · rw [if_pos c10, if_pos (by have := HT.out; omega), hw10] at H
                  have hls : x9_2.size + ((a0.extract (rd_T42 ((rd_T45 l1 x8_1).f2) x10_2).f0.toNat (rd_T42 ((rd_T45 l1 x8_1).f2) x10_2).f1.toNat)).size ≤ 140737488355328 := by have := HT.out; omega
                  have hls' := Aside0.mk hls
                  clear hls
                  have c10b := eq_true c10
                  clear c10
                  have H' := Aside0.mk H
                  clear H
                  go_wp2_with (first | (go_at_call 20; (with_reducible refine (bLen _ _ x9_2 _ (isB_alloc HI.out _)).mono ?_); rintro e w' ⟨rfl, rfl⟩) | (go_at_call 21; (with_reducible refine (bWrite _ _ x9_2 _ _ (isB_alloc HI.out _) hls'.out (by have := HSZ.out; simp; omega)).mono ?_); rintro e w12 ⟨rfl, hI2, hb2⟩; have HI2 := Aside0.mk hI2; have HB2 := Aside0.mk hb2; clear hI2 hb2))
                  go_roundg k2
                  case measure => have := HK1.out; have := HK2.out; omega
                  case rel => exact ⟨x9_2 ++ (a0.extract (rd_T42 ((rd_T45 l1 x8_1).f2) x10_2).f0.toNat (rd_T42 ((rd_T45 l1 x8_1).f2) x10_2).f1.toNat), x10_2 + 1, rfl, H', ⟨by have := HK2.out; omega⟩, ⟨by omega⟩, ⟨by rw [ByteArray.size_append]; have := HT.out; have := hX7a; have := of_eq_true c10b; omega⟩, HI2, ⟨(HBi.out.alloc (by have := HSZ.out; simp; omega) _).trans HB2.out⟩⟩
                · rw [if_neg c10, hw10] at H
                  have c10b := eq_false c10
                  have c10c : decide (x7_1 + (x9_2.size : Int) ≤ 65536) = false := decide_eq_false c10
                  clear c10
                  have H' := Aside0.mk H
                  clear H
                  go_wp2_with (first | (go_at_call 20; (with_reducible refine (bLen _ _ x9_2 _ (isB_alloc HI.out _)).mono ?_); rintro e w' ⟨rfl, rfl⟩))
                  go_roundg k2
                  case measure => have := HK1.out; have := HK2.out; omega
                  case rel => exact ⟨x9_2, x10_2 + 1, rfl, H', ⟨by have := HK2.out; omega⟩, ⟨by omega⟩, HX9, ⟨isB_alloc HI.out _⟩, ⟨HBi.out.alloc (by have := HSZ.out; simp; omega) _⟩⟩
            · rw [if_neg c6] at H
              have hc0 : wr.cell? ⟨wo.heap.size, 0, none⟩ = some (.int .i64 (rd_T45 l1 x8_1).f0) := (HBi.out.cell (p := ⟨wo.heap.size, 0, none⟩) (Nat.lt_succ_self _)).trans (Lib.cell_of_heap (Go.heap_alloc_new wo (Obj.cells #[Value.int IntKind.i64 (rd_T45 l1 x8_1).f0, Value.int IntKind.i64 (rd_T45 l1 x8_1).f1, Value.slice A130_2 (rd_T45 l1 x8_1).f2.length c130_2] 45)) 0)
              have hc1 : wr.cell? ⟨wo.heap.size, 1, none⟩ = some (.int .i64 (rd_T45 l1 x8_1).f1) := (HBi.out.cell (p := ⟨wo.heap.size, 1, none⟩) (Nat.lt_succ_self _)).trans (Lib.cell_of_heap (Go.heap_alloc_new wo (Obj.cells #[Value.int IntKind.i64 (rd_T45 l1 x8_1).f0, Value.int IntKind.i64 (rd_T45 l1 x8_1).f1, Value.slice A130_2 (rd_T45 l1 x8_1).f2.length c130_2] 45)) 1)
              have c6b0 : decide (x10_2 < (((rd_T45 l1 x8_1).f2).length : Int)) = false := decide_eq_false c6
              clear c6
              have hX7a := HX7.out.1
              have hX7b := HX7.out.2
              have hX9 := HX9.out
              have hw7 : wrap64 (x7_1 + (x9_2.size : Int)) = x7_1 + (x9_2.size : Int) := wrap_small (by omega) (by omega)
              have HSZ : Aside0 (wo.heap.size + 1 ≤ wr.heap.size) := ⟨by have := HBi.out.size; simp at this; omega⟩
              rw [hw7] at H
              clear hw7
              by_cases c15 : x7_1 + (x9_2.size : Int) > 65536
              · rw [if_pos c15] at H
                simp only [Option.some.injEq, Prod.mk.injEq] at H
                obtain ⟨rfl, rfl⟩ := H
                have c15b : decide (65536 < x7_1 + (x9_2.size : Int)) = true := decide_eq_true c15
                have c15c : (65536 < x7_1 + (x9_2.size : Int)) = True := eq_true c15
                clear c15
                go_wp2_with (first | (go_at_call 20; (with_reducible refine (bLen _ _ x9_2 _ HI.out).mono ?_); rintro e w' ⟨rfl, rfl⟩))
                go_ret2
                exact ⟨_, rfl, Kd.R_nil _ _ _ _ _, HBW.out⟩
              · rw [if_neg c15] at H
                have hx8w : wrap64 (x8_1 + 1) = x8_1 + 1 := wrap_small (by have := HX8.out.1; omega) (by have := of_eq_true c3c; have := HL1.out; omega)
                rw [hx8w, if_pos (by have := HX8.out.2; have := of_eq_true c3c; have := HL1.out; omega)] at H
                clear hx8w
                have HX7n : Aside0 (0 ≤ x7_1 + (x9_2.size : Int) ∧ x7_1 + (x9_2.size : Int) ≤ 65536) := ⟨by omega⟩
                have HX8n : Aside0 (0 ≤ x8_1 + 1 ∧ ((x6_1 ++ [(⟨(rd_T45 l1 x8_1).f0, (rd_T45 l1 x8_1).f1, x9_2⟩ : S39)]).length : Int) ≤ x8_1 + 1 ∧ x8_1 + 1 ≤ (l1.length : Int)) := ⟨by have := HX8.out; have := of_eq_true c3c; simp; omega⟩
                have HX6 : Aside0 ((x6_1.length + 1) * 32 ≤ 140737488355328) := ⟨by have := HX8.out.2; have := of_eq_true c3c; have := HL1.out; omega⟩
                have hX8a := HX8.out.1
                have hX8b : x8_1 ≤ 1099511627776 := by have := of_eq_true c3c; have := HL1.out; omega
                have c15b : decide (65536 < x7_1 + (x9_2.size : Int)) = false := decide_eq_false c15
                have c15c : (65536 < x7_1 + (x9_2.size : Int)) = False := eq_false (by omega)
                clear c15
                have H' := Aside0.mk H
                clear H
                go_wp2_with (first | (go_at_call 20; (with_reducible refine (bLen _ _ x9_2 _ HI.out).mono ?_); rintro e w' ⟨rfl, rfl⟩))
                have T21 : rtab .any (opsOf Try.f7 21) = (true, [([], []), ([], []), ([1], [1]), ([], []), ([3], [3]), ([], []), ([2, 4, 5], [2, 4, 5]), ([6], [6]), ([0, 7, 5], [0, 7]), ([8, 8, 0, 1, 2, 3, 4, 5, 6, 7, 8], [0, 8])]) := by kernel_rfl
                refine start_ (n := 10) (S := fun w' => w'.cell? ⟨wo.heap.size, 0, none⟩ = some (.int .i64 (rd_T45 l1 x8_1).f0) ∧ w'.cell? ⟨wo.heap.size, 1, none⟩ = some (.int .i64 (rd_T45 l1 x8_1).f1)) (ds := []) #[false, false, false, false, false, false, false, false, false, false] (by kernel_rfl) rfl rfl ⟨hc0, hc1⟩ (fun hHeld => ?_); refine with_tabW (B := [0, 0, 2, 0, 8, 0, 62, 126, 255, 511]) T21 (by kernel_rfl) (fun HT_ HW_ => ?_)
                refine pure_ (i := 0) (N := some 72) (v := ?_) (a' := ?_) #[true, false, false, false, false, false, false, false, false, false] rfl rfl (any_of HT_.out (by kernel_rfl)) (fun _ _ _ h => h) (Or.inl ⟨by rfl, ?_⟩) ?_ ?_
                rotate_left
                · intro w'
                  go_simp
                  with_reducible rfl
                rotate_left
                · simp only [Act.put, List.setIfInBounds_toArray, List.set_cons_zero, List.set_cons_succ, i64_w, i32_w]
                  rfl
                refine pure_ (i := 1) (N := some 73) (v := ?_) (a' := ?_) #[true, true, false, false, false, false, false, false, false, false] rfl rfl (any_of HT_.out (by kernel_rfl)) (fun _ _ _ h => h) (Or.inl ⟨by rfl, ?_⟩) ?_ ?_
                rotate_left
                · intro w'
                  go_simp
                  with_reducible rfl
                rotate_left
                · simp only [Act.put, List.setIfInBounds_toArray, List.set_cons_zero, List.set_cons_succ, i64_w, i32_w]
                  rfl
                refine pure_ (i := 3) (N := some 75) (v := ?_) (a' := ?_) #[true, true, false, true, false, false, false, false, false, false] rfl rfl (any_of HT_.out (by kernel_rfl)) (fun _ _ _ h => h) (Or.inl ⟨by rfl, ?_⟩) ?_ ?_
                rotate_left
                · intro w'
                  go_simp
                  with_reducible rfl
                rotate_left
                · simp only [Act.put, List.setIfInBounds_toArray, List.set_cons_zero, List.set_cons_succ, i64_w, i32_w]
                  rfl
                refine take_ (i := 2) (N := some 74) (v := ?_) (a' := ?_) #[true, true, true, true, false, false, false, false, false, false] rfl rfl (take_ofW HT_.out HW_.out (by kernel_rfl)) (fun _ _ _ h => h) (Or.inl ⟨by rfl, ?_⟩) hHeld ?_ ?_
                rotate_left
                · rintro w' ⟨s0, s1⟩
                  go_simp
                  with_reducible rfl
                rotate_left
                · simp only [Act.put, List.setIfInBounds_toArray, List.set_cons_zero, List.set_cons_succ, i64_w, i32_w]
                  rfl
                refine take_ (i := 4) (N := some 76) (v := ?_) (a' := ?_) #[true, true, true, true, true, false, false, false, false, false] rfl rfl (take_ofW HT_.out HW_.out (by kernel_rfl)) (fun _ _ _ h => h) (Or.inl ⟨by rfl, ?_⟩) hHeld ?_ ?_
                rotate_left
                · rintro w' ⟨s0, s1⟩
                  go_simp
                  with_reducible rfl
                rotate_left
                · simp only [Act.put, List.setIfInBounds_toArray, List.set_cons_zero, List.set_cons_succ, i64_w, i32_w]
                  rfl
                refine one_ (i := 5) (N := some 77) #[true, true, true, true, true, true, false, false, false, false] rfl rfl (one_of HT_.out (by kernel_rfl)) (by decide) (fun K hK => ?_)
                refine goes_ Try.func22 (by kernel_rfl) rfl #[.pointer (some ⟨wo.heap.size + 1, 0, none⟩)] (by rfl) rfl rfl (by (try simp only [List.map_toArray, List.map_cons, List.map_nil]); first | done | rfl) ?_
                refine (bString _ _ x9_2 _ (isB_drew HI.out) (by have := HSZ.out; simpa using this)).mono ?_
                rintro e w12 ⟨rfl, hb3⟩
                have HBX : Aside0 (Below (wo.alloc (Obj.cells #[Value.int IntKind.i64 (rd_T45 l1 x8_1).f0, Value.int IntKind.i64 (rd_T45 l1 x8_1).f1, Value.slice A130_2 (rd_T45 l1 x8_1).f2.length c130_2] 45)).heap.size (wo.alloc (Obj.cells #[Value.int IntKind.i64 (rd_T45 l1 x8_1).f0, Value.int IntKind.i64 (rd_T45 l1 x8_1).f1, Value.slice A130_2 (rd_T45 l1 x8_1).f2.length c130_2] 45)) w12) := ⟨by rw [show (wo.alloc (Obj.cells #[Value.int IntKind.i64 (rd_T45 l1 x8_1).f0, Value.int IntKind.i64 (rd_T45 l1 x8_1).f1, Value.slice A130_2 (rd_T45 l1 x8_1).f2.length c130_2] 45)).heap.size = wo.heap.size + 1 by simp]; exact (HBi.out.drew).trans hb3⟩
                have HBY : Aside0 (Below w.heap.size w w12) := ⟨(HB.out.alloc HB.out.size _).trans (HBX.out.mono (by have := HB.out.size; simp; omega))⟩
                have HRY : Aside0 (Kd.R k39 39 w12 w.heap.size (fun _ => True) u6 x6_1) := ⟨Kd.R_below (Kd.R_alloc HO_6.out _) HBX.out⟩
                have HC12 : Aside0 (w12.heap[wo.heap.size]? = some (Obj.cells #[Value.int IntKind.i64 (rd_T45 l1 x8_1).f0, Value.int IntKind.i64 (rd_T45 l1 x8_1).f1, Value.slice A130_2 (rd_T45 l1 x8_1).f2.length c130_2] 45)) := ⟨(HBX.out.block _ (by simp)).trans (Go.heap_alloc_new wo _)⟩
                have hh0 : w12.cell? ⟨wo.heap.size, 0, none⟩ = some (.int .i64 (rd_T45 l1 x8_1).f0) := (hb3.cell (p := ⟨wo.heap.size, 0, none⟩) (Nat.lt_succ_self _)).trans hc0
                have hh1 : w12.cell? ⟨wo.heap.size, 1, none⟩ = some (.int .i64 (rd_T45 l1 x8_1).f1) := (hb3.cell (p := ⟨wo.heap.size, 1, none⟩) (Nat.lt_succ_self _)).trans hc1
                clear hb3
                refine ⟨_, rfl, hK.out _ _ ⟨hh0, hh1⟩ (fun hHeld => ?_)⟩
                clear hK K
                refine norm_ (a' := ?_) ?_ ?_
                rotate_left
                · show Act.put _ (some 77) _ = _
                  simp only [Act.put, List.setIfInBounds_toArray, List.set_cons_zero, List.set_cons_succ, i64_w, i32_w]
                  rfl
                refine pure_ (i := 6) (N := some 78) (v := ?_) (a' := ?_) #[true, true, true, true, true, true, true, false, false, false] rfl rfl (any_of HT_.out (by kernel_rfl)) (fun _ _ _ h => h) (Or.inl ⟨by rfl, ?_⟩) ?_ ?_
                rotate_left
                · intro w'
                  go_simp
                  with_reducible rfl
                rotate_left
                · simp only [Act.put, List.setIfInBounds_toArray, List.set_cons_zero, List.set_cons_succ, i64_w, i32_w]
                  rfl
                refine one_ (i := 7) (N := some 79) #[true, true, true, true, true, true, true, true, false, false] rfl rfl (one_of HT_.out (by kernel_rfl)) (by decide) (fun K hK => ?_)
                refine value_ (w1 := ?_) (v := ?_) (by rfl) rfl ?_ ?_
                rotate_left 2
                · go_simp
                  constructor
                  · rfl
                  · rfl
                refine hK.out _ _ ⟨(World.cell?_alloc_lt _ _ _ (World.block_lt_of_cell? _ _ hh0)).trans hh0, (World.cell?_alloc_lt _ _ _ (World.block_lt_of_cell? _ _ hh1)).trans hh1⟩ (fun hHeld => ?_)
                clear hK K
                refine norm_ (a' := ?_) ?_ ?_
                rotate_left
                · show Act.put _ (some 79) _ = _
                  simp only [Act.put, List.setIfInBounds_toArray, List.set_cons_zero, List.set_cons_succ, i64_w, i32_w]
                  rfl
                refine one_ (i := 8) (N := some 80) #[true, true, true, true, true, true, true, true, true, false] rfl rfl (one_of HT_.out (by kernel_rfl)) (by decide) (fun K hK => ?_)
                refine Kd.R_append_step k39 (w0 := w) w.heap.size (by rfl) (.tmp 72) (.tmp 79) 24 39 (.agg #[(.int .i64 0), (.int .i64 0), (.string ⟨#[]⟩)]) 32 rfl Try.underlying24 info39 rfl (by decide) (by omega) u6 x6_1 (⟨(rd_T45 l1 x8_1).f0, (rd_T45 l1 x8_1).f1, x9_2⟩ : S39) [.int .i64 ((rd_T45 l1 x8_1).f0), .int .i64 ((rd_T45 l1 x8_1).f1), .string x9_2] (fun _ => True) (fun _ => False) rfl rfl ?aP (fun _ hk => hk.elim) ?aF ?aO ?aB ?aS ?aL ?_
                (case aP => exact k39_mkM _ _ _ (⟨(rd_T45 l1 x8_1).f0, (rd_T45 l1 x8_1).f1, x9_2⟩ : S39))
                (case aB => exact HBY.out)
                (case aF => exact (fun _ _ => trivial))
                (case aO => exact HRY.out)
                (case aS => exact HBY.out.size)
                (case aL => exact HX6.out)
                intro v134 w18 ho hb hg hat
                have HOn := Aside0.mk ho
                have HBn := Aside0.mk hb
                have HC18 := blk_grown HC12.out hg (Kd.R_ne HRY.out HC12.out (by decide))
                have hj0 : w18.cell? ⟨wo.heap.size, 0, none⟩ = some (.int .i64 (rd_T45 l1 x8_1).f0) := Lib.cell_of_heap HC18 0
                have hj1 : w18.cell? ⟨wo.heap.size, 1, none⟩ = some (.int .i64 (rd_T45 l1 x8_1).f1) := Lib.cell_of_heap HC18 1
                clear ho hb hg hat
                refine hK.out _ _ ⟨hj0, hj1⟩ (fun hHeld => ?_)
                clear hK K
                refine norm_ (a' := ?_) ?_ ?_
                rotate_left
                · show Act.put _ (some 80) _ = _
                  simp only [Act.put, List.setIfInBounds_toArray, List.set_cons_zero, List.set_cons_succ, i64_w, i32_w]
                  rfl
                refine pure_ (i := 9) (N := some 6) (v := ?_) (a' := ?_) #[true, true, true, true, true, true, true, true, true, true] rfl rfl (any_of HT_.out (by kernel_rfl)) (fun _ _ _ h => h) (Or.inl ⟨by rfl, ?_⟩) ?_ ?_
                rotate_left
                · intro w'
                  go_simp
                  with_reducible rfl
                rotate_left
                · simp only [Act.put, List.setIfInBounds_toArray, List.set_cons_zero, List.set_cons_succ, i64_w, i32_w]
                  rfl
                refine done_ (done_of HT_.out (by kernel_rfl)) ?_
                try go_wp2
                go_roundg k2
                case measure => have := HK1.out; have := HK2.out; omega
                case rel => exact ⟨(x6_1 ++ [(⟨(rd_T45 l1 x8_1).f0, (rd_T45 l1 x8_1).f1, x9_2⟩ : S39)]), x7_1 + (x9_2.size : Int), x8_1 + 1, rfl, rfl, H', ⟨by have := HK1.out; have := HK2.out; omega⟩, HX7n, HX8n, HOn, HBn⟩
      · rw [if_neg c3] at H
        have c3b0 : decide (x8_1 < (l1.length : Int)) = false := decide_eq_false c3
        clear c3
        replace H := Option.bind_eq_some_iff.mp H
        obtain ⟨t129, A19, H⟩ := H
        have A20 := Aside0.mk (check_of_fits (Int.natCast_nonneg _) (by have := HX8.out; have := HL1.out; omega) A19)
        clear A19
        obtain ⟨Ao, co, eo⟩ := Kd.R_slice HO_6.out
        subst eo
        have HCk := Aside0.mk (edits_Check.calls k1 (a0.size : Int) Ao co x6_1 _ wr (Kd.R_reads' HO_6.out).2.2 (Kd.R_reads' HO_6.out).2.1 A20.out)
        cases t129 with
        | true =>
          rw [if_pos rfl] at H
          simp only [Option.some.injEq, Prod.mk.injEq] at H
          obtain ⟨rfl, rfl⟩ := H
          go_wp2_with (first | (go_at_call 17; (with_reducible refine HCk.out.mono ?_); rintro e w12 ⟨rfl, hb2⟩; have HB2 := Aside0.mk hb2; clear hb2; have hif : (if true = true then (0 : Int) else 2) = 0 := rfl))
          go_ret2
          exact ⟨_, rfl, Kd.R_below HO_6.out HB2.out, HB.out.trans (HB2.out.mono HB.out.size)⟩
        | false =>
          rw [if_neg (by simp)] at H
          simp only [Option.some.injEq, Prod.mk.injEq] at H
          obtain ⟨rfl, rfl⟩ := H
          go_wp2_with (first | (go_at_call 17; (with_reducible refine HCk.out.mono ?_); rintro e w12 ⟨rfl, hb2⟩; have HB2 := Aside0.mk hb2; clear hb2))
          go_ret2
          exact ⟨_, rfl, Kd.R_nil _ _ _ _ _, HB.out.trans (HB2.out.mono HB.out.size)⟩

end Go.Proofs.Ytgdggbamhlinlaa.PEditsFlat
