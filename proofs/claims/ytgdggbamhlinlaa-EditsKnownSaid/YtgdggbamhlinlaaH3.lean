/- YtgdggbamhlinlaaH3: Whole (19) at EditsKnown's four inputs. -/
import Derived.Test.YtgdggbamhlinlaaH2
import Derived.Maps.OwnSet
import Derived.Maps.OwnOps
import Derived.LoopN
import Derived.Deep.QuietTactic
import Derived.BigQuiet
import Derived.Deep.DeepCutAuto
import Derived.StringKeys
import Derived.Deep.RegionHeld3
import Derived.Deep.DrawnRows
namespace Go.Proofs.Ytgdggbamhlinlaa.PEditsFlat
open Go.RowKit Go.Shelf Go.Proofs.YtgdggbamhlinlaaW.PrintWords Go.Proofs.YtgdggbamhlinlaaW.PrintLast Go.Proofs.YtgdggbamhlinlaaW.PrintMore
open Go.Maps
set_option linter.unusedVariables false
set_option linter.unusedSimpArgs false

theorem keyS : Keyed Try.prog 9 := string_keyed Try.underlying9
theorem zero3 (w : World) : (zeroValue 3).run Try.prog w = .ok (.int .i64 0) w := by kernel_rfl
theorem keyU : keyOf Try.prog 9 (.string ⟨#[117]⟩) = some (.string [117]) := Go.WideMaps.keyOf_string_mk Try.underlying9 (by unfold maxLen; decide)
theorem keyW : keyOf Try.prog 9 (.string ⟨#[119]⟩) = some (.string [119]) := Go.WideMaps.keyOf_string_mk Try.underlying9 (by unfold maxLen; decide)
/-- The map of Whole: u stands for 0. -/
def mapU : DataW Unit := (DataW.map []).put (.string [117]) (.lit (.int .i64 0))
theorem mapU_u : mapU.atKey (.string [117]) (.lit (.int .i64 0)) = .lit (.int .i64 0) := by kernel_rfl
theorem mapU_hasU : Maps.has mapU (.string [117]) = true := by kernel_rfl
theorem mapU_hasW : Maps.has mapU (.string [119]) = false := by kernel_rfl
theorem ownsMap_below {w w1 : World} {b n : Nat} {D : DataW Unit} {R : Value → Option (DataW Unit × List MemPlace)} {k : TypeId} (h : w.ownsMap Try.prog k R b n D) (hb : Below w.heap.size w w1) : w1.ownsMap Try.prog k R b n D := by
  obtain ⟨es, clock, h1, h2⟩ := h
  have hlt : b < w.heap.size := lt_of_block h1
  exact ⟨es, clock, (hb.block b hlt).trans h1, h2⟩

theorem doc_at {w : World} {ad : Addr} {n : Nat} {xs : List S56} (h : Kd.C k56 w (some ad) n xs) (hn : 0 < n) :
    w.cell? ad = some (.string (rd_T56 xs 0).f0) ∧ w.cell? ⟨ad.block, ad.off + 1, none⟩ = some (.string (rd_T56 xs 0).f1) ∧ w.cell? ⟨ad.block, ad.off + 2, none⟩ = some (.int .i64 (rd_T56 xs 0).f2) := by
  obtain ⟨ad', e, h0, h1, h2⟩ := at_T56 h 0 (by decide) (by omega)
  cases e
  simp only [show ((0 : Int).toNat * 3) = 0 from rfl, Addr.add_zero'] at h0 h1 h2
  exact ⟨h0, h1, h2⟩
theorem edit_at {w : World} {ad : Addr} {n : Nat} {xs : List S61} (h : Kd.C k61 w (some ad) n xs) (hn : 0 < n) :
    ∃ A2 c2, w.cell? ad = some (.string (rd_T61 xs 0).f0) ∧ w.cell? ⟨ad.block, ad.off + 1, none⟩ = some (.int .i64 (rd_T61 xs 0).f1) ∧ w.cell? ⟨ad.block, ad.off + 2, none⟩ = some (.slice A2 (rd_T61 xs 0).f2.length c2) ∧ (rd_T61 xs 0).f2.length ≤ c2 ∧ Kd.C k39 w A2 (rd_T61 xs 0).f2.length (rd_T61 xs 0).f2 := by
  obtain ⟨ad', A2, c2, e, h0, h1, h2, h3, h4⟩ := at_T61 h 0 (by decide) (by omega)
  cases e
  simp only [show ((0 : Int).toNat * 3) = 0 from rfl, Addr.add_zero'] at h0 h1 h2
  exact ⟨A2, c2, h0, h1, h2, h3, h4⟩
theorem edit_at1 {w : World} {ad : Addr} {n : Nat} {xs : List S61} (h : Kd.C k61 w (some ad) n xs) (hn : 1 < n) :
    ∃ A2 c2, w.cell? ⟨ad.block, ad.off + 3, none⟩ = some (.string (rd_T61 xs 1).f0) ∧ w.cell? ⟨ad.block, ad.off + 4, none⟩ = some (.int .i64 (rd_T61 xs 1).f1) ∧ w.cell? ⟨ad.block, ad.off + 5, none⟩ = some (.slice A2 (rd_T61 xs 1).f2.length c2) ∧ (rd_T61 xs 1).f2.length ≤ c2 ∧ Kd.C k39 w A2 (rd_T61 xs 1).f2.length (rd_T61 xs 1).f2 := by
  obtain ⟨ad', A2, c2, e, h0, h1, h2, h3, h4⟩ := at_T61 h 1 (by decide) (by omega)
  cases e
  simp only [show ((1 : Int).toNat * 3) = 3 from rfl, Go.Addr.add, show ¬ (3 = 0) by decide, ↓reduceIte] at h0 h1 h2
  exact ⟨A2, c2, h0, h1, h2, h3, h4⟩

set_option maxRecDepth 100000 in
set_option maxHeartbeats 8000000 in
theorem whole_B (ad0 : Addr) (c0 : Nat) (ad1 : Addr) (c1 : Nat) (w : World) (hr0 : Kd.C k56 w (some ad0) 1 docsIn) (hr1 : Kd.C k61 w (some ad1) 1 wholeB) (hc1 : 1 ≤ c1) :
    Calls Try.prog 19 #[.slice (some ad0) 1 c0, .slice (some ad1) 1 c1] w fun e w' => ∃ v0_, e = .returned (.tuple #[v0_, .int .i64 5]) ∧ Kd.R k56 56 w' w.heap.size (fun _ => True) v0_ [] ∧ Below w.heap.size w w' := by
  have HR0 := Aside0.mk hr0
  have HR1 := Aside0.mk hr1
  clear hr0 hr1
  have hmm := @run_makeMap Try.prog
  go_enter Try.func19, Try.ntmps19
  go_wp2
  have HM := Aside0.mk (World.ownsMap_made w Try.prog 9 (plainElem (H := Unit) Try.prog 3))
  have HB := Aside0.mk ((Below.refl w.heap.size w).alloc (Nat.le_refl _) (.map #[] 0))
  clear hmm
  generalize w.alloc (.map #[] 0) = w1 at HB HM ⊢
  obtain ⟨hd0, hd1, hd2⟩ := doc_at (Kd.C_below HR0.out HB.out) (by decide)
  change _ = some (Value.string ⟨#[117]⟩) at hd0
  refine wp_loop_rounds 2 ?_
  rw [rounds_succ]
  go_wp2_with (at_mapUpdate; refine wpList_mapUpdate_own _ rfl _ _ _ 82 rfl 9 3 keyS Try.underlying82 _ w.heap.size 0 _ rfl HM.out (by unfold maxLen; decide) _ _ (.string [117]) rfl rfl keyU (.lit (.int .i64 0)) [] (plainElem_int Try.underlying3 (by decide)) ?_; intro w2 hown2 hgrow2; have n0_ := Aside0.mk (HB.out.grown hgrow2 HB.out.size (fun k h => by cases h; exact Nat.le_refl _)); clear HB HM hd0 hd1 hd2; have HB := n0_; have HM := Aside0.mk hown2; clear hown2 hgrow2 n0_)
  change Aside0 (w2.ownsMap Try.prog 9 (plainElem (H := Unit) Try.prog 3) w.heap.size 1 mapU) at HM
  rw [rounds_succ]
  go_wp2_with (go_at_call 31; (with_reducible refine (clone_doc ad0 c0 _ _ (Kd.C_below HR0.out HB.out)).mono ?_); rintro e w3 ⟨g, cap, tl, rfl, hh, hg, hc, hm, hl, hb⟩; have n0_ := Aside0.mk (below_step HB.out hb); have n1_ := Aside0.mk (ownsMap_below HM.out hb); have HGE := Aside0.mk (Nat.le_trans HB.out.size hg); clear HB HM; have HB := n0_; have HM := n1_; have HH := Aside0.mk hh; have HC := Aside0.mk hc; have HX := Aside0.mk hm; have HL := Aside0.mk hl; clear hh hg hc hm hl hb n0_ n1_)
  obtain ⟨A2, c2, he0, he1, he2, he3, he4⟩ := edit_at (Kd.C_below HR1.out HB.out) (by decide)
  change _ = some (Value.string ⟨#[119]⟩) at he0
  change _ = some (Value.int .i64 3) at he1
  change _ = some (Value.slice A2 0 c2) at he2
  change 0 ≤ c2 at he3
  change Kd.C k39 w3 A2 0 ([] : List S39) at he4
  have HE := Aside0.mk he4
  have HE3 := Aside0.mk he3
  clear he3 he4
  refine wp_loop_rounds 3 ?_
  rw [rounds_succ]
  go_upto_region 10 with fail
  have HBX := Aside0.mk (blk_new w3 (.cells #[.string ⟨#[119]⟩, .int .i64 3, .slice A2 0 c2] 61))
  have n0_ := Aside0.mk (below_alloc HB.out (.cells #[.string ⟨#[119]⟩, .int .i64 3, .slice A2 0 c2] 61))
  have n1_ := Aside0.mk (HM.out.alloc (.cells #[.string ⟨#[119]⟩, .int .i64 3, .slice A2 0 c2] 61))
  have n2_ := Aside0.mk (blk_alloc HH.out (.cells #[.string ⟨#[119]⟩, .int .i64 3, .slice A2 0 c2] 61))
  have n3_ := Aside0.mk (Kd.C_alloc HE.out (.cells #[.string ⟨#[119]⟩, .int .i64 3, .slice A2 0 c2] 61))
  have HBG := Aside0.mk HB.out.size
  have HGL := Aside0.mk (blk_lt HH.out)
  clear HB HM HH HE he0 he1 he2
  have HB := n0_
  have HM := n1_
  have HH := n2_
  have HE := n3_
  clear n0_ n1_ n2_ n3_
  generalize w3.alloc (.cells #[.string ⟨#[119]⟩, .int .i64 3, .slice A2 0 c2] 61) = w4 at HB HM HH HE HBX ⊢
  generalize w3.heap.size = bx at HBG HGL HBX ⊢
  go_wp2_with (first
    | (go_at_call 32; (with_reducible refine (contains_none _ _ bx _).mono ?_); rintro e w5 ⟨rfl, hb⟩; have n0_ := Aside0.mk (below_step HB.out hb); have n1_ := Aside0.mk (ownsMap_below HM.out hb); have n2_ := Aside0.mk (blk_below HH.out hb); have n3_ := Aside0.mk (Kd.C_below HE.out hb); have n4_ := Aside0.mk (blk_below HBX.out hb); clear HB HM HH HE HBX hb; have HB := n0_; have HM := n1_; have HH := n2_; have HE := n3_; have HBX := n4_; clear n0_ n1_ n2_ n3_ n4_; have hx0 : w5.cell? ⟨bx, 0, none⟩ = some (.string ⟨#[119]⟩) := (blk_cell HBX.out 0).trans rfl; have hx1 : w5.cell? ⟨bx, 1, none⟩ = some (.int .i64 3) := (blk_cell HBX.out 1).trans rfl; have hx2 : w5.cell? ⟨bx, 2, none⟩ = some (.slice A2 0 c2) := (blk_cell HBX.out 2).trans rfl; obtain ⟨hd0, hd1, hd2⟩ := doc_at (Kd.C_below HR0.out HB.out) (by decide); change _ = some (Value.string ⟨#[117]⟩) at hd0; change _ = some (Value.string ⟨#[97, 98]⟩) at hd1; change _ = some (Value.int .i64 3) at hd2)
    | (at_lookup; refine wpList_lookup_own_ok_int _ rfl _ _ 82 rfl 9 3 .i64 keyS Try.underlying82 Try.underlying3 (zero3 _) w.heap.size 1 mapU rfl HM.out _ (.string [119]) rfl keyW ?_; intro c hat hwc; rw [mapU_hasW]; clear hat hwc))
  go_ret2
  exact ⟨_, rfl, Kd.R_nil _ _ _ _ _, HB.out⟩

set_option maxRecDepth 100000 in
set_option maxHeartbeats 8000000 in
theorem whole_A (ad0 : Addr) (c0 : Nat) (ad1 : Addr) (c1 : Nat) (w : World) (hr0 : Kd.C k56 w (some ad0) 1 docsIn) (hr1 : Kd.C k61 w (some ad1) 1 wholeA) (hc1 : 1 ≤ c1) :
    Calls Try.prog 19 #[.slice (some ad0) 1 c0, .slice (some ad1) 1 c1] w fun e w' => ∃ v0_, e = .returned (.tuple #[v0_, .int .i64 18]) ∧ Kd.R k56 56 w' w.heap.size (fun _ => True) v0_ [] ∧ Below w.heap.size w w' := by
  have HR0 := Aside0.mk hr0
  have HR1 := Aside0.mk hr1
  clear hr0 hr1
  have hmm := @run_makeMap Try.prog
  go_enter Try.func19, Try.ntmps19
  go_wp2
  have HM := Aside0.mk (World.ownsMap_made w Try.prog 9 (plainElem (H := Unit) Try.prog 3))
  have HB := Aside0.mk ((Below.refl w.heap.size w).alloc (Nat.le_refl _) (.map #[] 0))
  clear hmm
  generalize w.alloc (.map #[] 0) = w1 at HB HM ⊢
  obtain ⟨hd0, hd1, hd2⟩ := doc_at (Kd.C_below HR0.out HB.out) (by decide)
  change _ = some (Value.string ⟨#[117]⟩) at hd0
  refine wp_loop_rounds 2 ?_
  rw [rounds_succ]
  go_wp2_with (at_mapUpdate; refine wpList_mapUpdate_own _ rfl _ _ _ 82 rfl 9 3 keyS Try.underlying82 _ w.heap.size 0 _ rfl HM.out (by unfold maxLen; decide) _ _ (.string [117]) rfl rfl keyU (.lit (.int .i64 0)) [] (plainElem_int Try.underlying3 (by decide)) ?_; intro w2 hown2 hgrow2; have n0_ := Aside0.mk (HB.out.grown hgrow2 HB.out.size (fun k h => by cases h; exact Nat.le_refl _)); clear HB HM hd0 hd1 hd2; have HB := n0_; have HM := Aside0.mk hown2; clear hown2 hgrow2 n0_)
  change Aside0 (w2.ownsMap Try.prog 9 (plainElem (H := Unit) Try.prog 3) w.heap.size 1 mapU) at HM
  rw [rounds_succ]
  go_wp2_with (go_at_call 31; (with_reducible refine (clone_doc ad0 c0 _ _ (Kd.C_below HR0.out HB.out)).mono ?_); rintro e w3 ⟨g, cap, tl, rfl, hh, hg, hc, hm, hl, hb⟩; have n0_ := Aside0.mk (below_step HB.out hb); have n1_ := Aside0.mk (ownsMap_below HM.out hb); have HGE := Aside0.mk (Nat.le_trans HB.out.size hg); clear HB HM; have HB := n0_; have HM := n1_; have HH := Aside0.mk hh; have HC := Aside0.mk hc; have HX := Aside0.mk hm; have HL := Aside0.mk hl; clear hh hg hc hm hl hb n0_ n1_)
  obtain ⟨A2, c2, he0, he1, he2, he3, he4⟩ := edit_at (Kd.C_below HR1.out HB.out) (by decide)
  change _ = some (Value.string ⟨#[117]⟩) at he0
  change _ = some (Value.int .i64 2) at he1
  change _ = some (Value.slice A2 0 c2) at he2
  change 0 ≤ c2 at he3
  change Kd.C k39 w3 A2 0 ([] : List S39) at he4
  have HE := Aside0.mk he4
  have HE3 := Aside0.mk he3
  clear he3 he4
  refine wp_loop_rounds 3 ?_
  rw [rounds_succ]
  go_upto_region 10 with fail
  have HBX := Aside0.mk (blk_new w3 (.cells #[.string ⟨#[117]⟩, .int .i64 2, .slice A2 0 c2] 61))
  have n0_ := Aside0.mk (below_alloc HB.out (.cells #[.string ⟨#[117]⟩, .int .i64 2, .slice A2 0 c2] 61))
  have n1_ := Aside0.mk (HM.out.alloc (.cells #[.string ⟨#[117]⟩, .int .i64 2, .slice A2 0 c2] 61))
  have n2_ := Aside0.mk (blk_alloc HH.out (.cells #[.string ⟨#[117]⟩, .int .i64 2, .slice A2 0 c2] 61))
  have n3_ := Aside0.mk (Kd.C_alloc HE.out (.cells #[.string ⟨#[117]⟩, .int .i64 2, .slice A2 0 c2] 61))
  have HBG := Aside0.mk HB.out.size
  have HGL := Aside0.mk (blk_lt HH.out)
  clear HB HM HH HE he0 he1 he2
  have HB := n0_
  have HM := n1_
  have HH := n2_
  have HE := n3_
  clear n0_ n1_ n2_ n3_
  generalize w3.alloc (.cells #[.string ⟨#[117]⟩, .int .i64 2, .slice A2 0 c2] 61) = w4 at HB HM HH HE HBX ⊢
  generalize w3.heap.size = bx at HBG HGL HBX ⊢
  go_wp2_with (first
    | (go_at_call 32; (with_reducible refine (contains_none _ _ bx _).mono ?_); rintro e w5 ⟨rfl, hb⟩; have n0_ := Aside0.mk (below_step HB.out hb); have n1_ := Aside0.mk (ownsMap_below HM.out hb); have n2_ := Aside0.mk (blk_below HH.out hb); have n3_ := Aside0.mk (Kd.C_below HE.out hb); have n4_ := Aside0.mk (blk_below HBX.out hb); clear HB HM HH HE HBX hb; have HB := n0_; have HM := n1_; have HH := n2_; have HE := n3_; have HBX := n4_; clear n0_ n1_ n2_ n3_ n4_; have hx0 : w5.cell? ⟨bx, 0, none⟩ = some (.string ⟨#[117]⟩) := (blk_cell HBX.out 0).trans rfl; have hx1 : w5.cell? ⟨bx, 1, none⟩ = some (.int .i64 2) := (blk_cell HBX.out 1).trans rfl; have hx2 : w5.cell? ⟨bx, 2, none⟩ = some (.slice A2 0 c2) := (blk_cell HBX.out 2).trans rfl; obtain ⟨hd0, hd1, hd2⟩ := doc_at (Kd.C_below HR0.out HB.out) (by decide); change _ = some (Value.string ⟨#[117]⟩) at hd0; change _ = some (Value.string ⟨#[97, 98]⟩) at hd1; change _ = some (Value.int .i64 3) at hd2)
    | (at_lookup; refine wpList_lookup_own_ok_int _ rfl _ _ 82 rfl 9 3 .i64 keyS Try.underlying82 Try.underlying3 (zero3 _) w.heap.size 1 mapU rfl HM.out _ (.string [117]) rfl keyU ?_; intro c hat hwc; (obtain rfl : c = 0 := by rw [mapU_u] at hat; injection hat with h1; injection h1 with h2 h3; exact h3.symm); rw [mapU_hasU]; clear hat hwc))
  go_quiet (fail)
  go_wp2
  go_ret2
  exact ⟨_, rfl, Kd.R_nil _ _ _ _ _, by repeat (first | exact HB.out | apply pw_below_drewN | apply below_drew1)⟩

set_option maxRecDepth 100000 in
set_option maxHeartbeats 8000000 in
theorem whole_D (ad0 : Addr) (c0 : Nat) (ad1 : Addr) (c1 : Nat) (w : World) (hr0 : Kd.C k56 w (some ad0) 1 docsIn) (hr1 : Kd.C k61 w (some ad1) 1 wholeD) (hc1 : 1 ≤ c1) :
    Calls Try.prog 19 #[.slice (some ad0) 1 c0, .slice (some ad1) 1 c1] w fun e w' => ∃ v0_, e = .returned (.tuple #[v0_, .int .i64 0]) ∧ Kd.R k56 56 w' w.heap.size (fun _ => True) v0_ [⟨⟨#[117]⟩, ⟨#[97, 120, 98]⟩, 3⟩] ∧ Below w.heap.size w w' := by
  have HR0 := Aside0.mk hr0
  have HR1 := Aside0.mk hr1
  clear hr0 hr1
  have hmm := @run_makeMap Try.prog
  go_enter Try.func19, Try.ntmps19
  go_wp2
  have HM := Aside0.mk (World.ownsMap_made w Try.prog 9 (plainElem (H := Unit) Try.prog 3))
  have HB := Aside0.mk ((Below.refl w.heap.size w).alloc (Nat.le_refl _) (.map #[] 0))
  clear hmm
  generalize w.alloc (.map #[] 0) = w1 at HB HM ⊢
  obtain ⟨hd0, hd1, hd2⟩ := doc_at (Kd.C_below HR0.out HB.out) (by decide)
  change _ = some (Value.string ⟨#[117]⟩) at hd0
  refine wp_loop_rounds 2 ?_
  rw [rounds_succ]
  go_wp2_with (at_mapUpdate; refine wpList_mapUpdate_own _ rfl _ _ _ 82 rfl 9 3 keyS Try.underlying82 _ w.heap.size 0 _ rfl HM.out (by unfold maxLen; decide) _ _ (.string [117]) rfl rfl keyU (.lit (.int .i64 0)) [] (plainElem_int Try.underlying3 (by decide)) ?_; intro w2 hown2 hgrow2; have n0_ := Aside0.mk (HB.out.grown hgrow2 HB.out.size (fun k h => by cases h; exact Nat.le_refl _)); clear HB HM hd0 hd1 hd2; have HB := n0_; have HM := Aside0.mk hown2; clear hown2 hgrow2 n0_)
  change Aside0 (w2.ownsMap Try.prog 9 (plainElem (H := Unit) Try.prog 3) w.heap.size 1 mapU) at HM
  rw [rounds_succ]
  go_wp2_with (go_at_call 31; (with_reducible refine (clone_doc ad0 c0 _ _ (Kd.C_below HR0.out HB.out)).mono ?_); rintro e w3 ⟨g, cap, tl, rfl, hh, hg, hc, hm, hl, hb⟩; have n0_ := Aside0.mk (below_step HB.out hb); have n1_ := Aside0.mk (ownsMap_below HM.out hb); have HGE := Aside0.mk (Nat.le_trans HB.out.size hg); clear HB HM; have HB := n0_; have HM := n1_; have HH := Aside0.mk hh; have HC := Aside0.mk hc; have HX := Aside0.mk hm; have HL := Aside0.mk hl; clear hh hg hc hm hl hb n0_ n1_)
  obtain ⟨A2, c2, he0, he1, he2, he3, he4⟩ := edit_at (Kd.C_below HR1.out HB.out) (by decide)
  change _ = some (Value.string ⟨#[117]⟩) at he0
  change _ = some (Value.int .i64 3) at he1
  change _ = some (Value.slice A2 1 c2) at he2
  change 1 ≤ c2 at he3
  change Kd.C k39 w3 A2 1 [(⟨1, 1, ⟨#[120]⟩⟩ : S39)] at he4
  have HE := Aside0.mk he4
  have HE3 := Aside0.mk he3
  clear he3 he4
  refine wp_loop_rounds 3 ?_
  rw [rounds_succ]
  go_upto_region 10 with fail
  have HBX := Aside0.mk (blk_new w3 (.cells #[.string ⟨#[117]⟩, .int .i64 3, .slice A2 1 c2] 61))
  have n0_ := Aside0.mk (below_alloc HB.out (.cells #[.string ⟨#[117]⟩, .int .i64 3, .slice A2 1 c2] 61))
  have n1_ := Aside0.mk (HM.out.alloc (.cells #[.string ⟨#[117]⟩, .int .i64 3, .slice A2 1 c2] 61))
  have n2_ := Aside0.mk (blk_alloc HH.out (.cells #[.string ⟨#[117]⟩, .int .i64 3, .slice A2 1 c2] 61))
  have n3_ := Aside0.mk (Kd.C_alloc HE.out (.cells #[.string ⟨#[117]⟩, .int .i64 3, .slice A2 1 c2] 61))
  have HBG := Aside0.mk HB.out.size
  have HGL := Aside0.mk (blk_lt HH.out)
  clear HB HM HH HE he0 he1 he2
  have HB := n0_
  have HM := n1_
  have HH := n2_
  have HE := n3_
  clear n0_ n1_ n2_ n3_
  generalize w3.alloc (.cells #[.string ⟨#[117]⟩, .int .i64 3, .slice A2 1 c2] 61) = w4 at HB HM HH HE HBX ⊢
  generalize w3.heap.size = bx at HBG HGL HBX ⊢
  go_wp2_with (first
    | (go_at_call 32; (with_reducible refine (contains_none _ _ bx _).mono ?_); rintro e w5 ⟨rfl, hb⟩; have n0_ := Aside0.mk (below_step HB.out hb); have n1_ := Aside0.mk (ownsMap_below HM.out hb); have n2_ := Aside0.mk (blk_below HH.out hb); have n3_ := Aside0.mk (Kd.C_below HE.out hb); have n4_ := Aside0.mk (blk_below HBX.out hb); clear HB HM HH HE HBX hb; have HB := n0_; have HM := n1_; have HH := n2_; have HE := n3_; have HBX := n4_; clear n0_ n1_ n2_ n3_ n4_; have hx0 : w5.cell? ⟨bx, 0, none⟩ = some (.string ⟨#[117]⟩) := (blk_cell HBX.out 0).trans rfl; have hx1 : w5.cell? ⟨bx, 1, none⟩ = some (.int .i64 3) := (blk_cell HBX.out 1).trans rfl; have hx2 : w5.cell? ⟨bx, 2, none⟩ = some (.slice A2 1 c2) := (blk_cell HBX.out 2).trans rfl; obtain ⟨hd0, hd1, hd2⟩ := doc_at (Kd.C_below HR0.out HB.out) (by decide); change _ = some (Value.string ⟨#[117]⟩) at hd0; change _ = some (Value.string ⟨#[97, 98]⟩) at hd1; change _ = some (Value.int .i64 3) at hd2)
    | (at_lookup; refine wpList_lookup_own_ok_int _ rfl _ _ 82 rfl 9 3 .i64 keyS Try.underlying82 Try.underlying3 (zero3 _) w.heap.size 1 mapU rfl HM.out _ (.string [117]) rfl keyU ?_; intro c hat hwc; (obtain rfl : c = 0 := by rw [mapU_u] at hat; injection hat with h1; injection h1 with h2 h3; exact h3.symm); rw [mapU_hasU]; clear hat hwc))
  go_quiet (fail)
  clear hd0 hd1 hd2 hx0 hx1 hx2
  go_upto_region 17 with fail
  have n0_ := Aside0.mk (pw_below_drewN HB.out nq)
  have n2_ := Aside0.mk (blk_drewN HH.out nq)
  have n3_ := Aside0.mk (Kd.C_drewN HE.out nq)
  have n4_ := Aside0.mk (blk_drewN HBX.out nq)
  clear HB HM HH HE HBX
  have HB := n0_
  have HH := n2_
  have HE := n3_
  have HBX := n4_
  clear n0_ n2_ n3_ n4_
  generalize w5.drewN nq = w6 at HB HH HE HBX ⊢
  obtain ⟨hd0, hd1, hd2⟩ := doc_at (Kd.C_below HR0.out HB.out) (by decide)
  change _ = some (Value.string ⟨#[97, 98]⟩) at hd1
  have hx2 : w6.cell? ⟨bx, 2, none⟩ = some (.slice A2 1 c2) := (blk_cell HBX.out 2).trans rfl
  clear hd0 hd2
  go_region_held3 (fun w' => w'.cell? ⟨ad0.block, ad0.off + 1, none⟩ = some (.string ⟨#[97, 98]⟩) ∧ w'.cell? ⟨bx, 2, none⟩ = some (.slice A2 1 c2)) (go_keep) ((go_at_call 12; (refine (edits_Apply.calls 10 ⟨#[97, 98]⟩ A2 c2 [(⟨1, 1, ⟨#[120]⟩⟩ : S39)] ⟨#[97, 120, 98]⟩ 0 _ (Kd.C_drew HE.out) HE3.out (by kernel_rfl)).mono ?_); rintro e w7 ⟨rfl, hb⟩; have n0_ := Aside0.mk (below_step (below_drew1 HB.out) hb); have n2_ := Aside0.mk (blk_below (blk_drew HH.out) hb); have n4_ := Aside0.mk (blk_below (blk_drew HBX.out) hb); clear HB HH HBX hb; have HB := n0_; have HH := n2_; have HBX := n4_; clear n0_ n2_ n4_; have hx2' : w7.cell? ⟨bx, 2, none⟩ = some (.slice A2 1 c2) := (blk_cell HBX.out 2).trans rfl; obtain ⟨hd0', hd1', hd2'⟩ := doc_at (Kd.C_below HR0.out HB.out) (by decide); change _ = some (Value.string ⟨#[97, 98]⟩) at hd1'))
  have hs0 : w7.cell? ⟨g, 1, none⟩ = some (.string ⟨#[97, 98]⟩) := (blk_cell HH.out 1).trans rfl
  have hs1 : w7.frozen? ⟨g, 1, none⟩ = false := blk_frozen HH.out 1
  go_wp2
  have n2_ := Aside0.mk (blk_put HH.out 1 (.string ⟨#[97, 120, 98]⟩) rfl)
  have n0_ := Aside0.mk (below_set (j := 1) (v := .string ⟨#[97, 120, 98]⟩) HB.out HGE.out)
  clear HB HH HBX hs0 hs1
  have HB := n0_
  have HH := n2_
  clear n0_ n2_
  generalize w7.setCell ⟨g, 1, none⟩ (.string ⟨#[97, 120, 98]⟩) = w8 at HB HH ⊢
  rw [rounds_succ]
  go_wp2
  go_ret2
  refine ⟨_, rfl, ⟨fun k hk => trivial, ?_⟩, HB.out⟩
  refine ⟨[.string ⟨#[117]⟩, .string ⟨#[97, 120, 98]⟩, .int .i64 3], own_of_block (tl := tl) HGE.out HH.out HC.out HX.out (by have := HL.out; show _ = cap * 3; simp; omega) rfl, ?_⟩
  exact Reps.c3 (k56_mkM _ _ _ (⟨⟨#[117]⟩, ⟨#[97, 120, 98]⟩, 3⟩ : S56)) (Reps.none _ _)

set_option maxRecDepth 100000 in
set_option maxHeartbeats 8000000 in
theorem whole_C (ad0 : Addr) (c0 : Nat) (ad1 : Addr) (c1 : Nat) (w : World) (hr0 : Kd.C k56 w (some ad0) 1 docsIn) (hr1 : Kd.C k61 w (some ad1) 2 wholeC) (hc1 : 2 ≤ c1) :
    Calls Try.prog 19 #[.slice (some ad0) 1 c0, .slice (some ad1) 2 c1] w fun e w' => ∃ v0_, e = .returned (.tuple #[v0_, .int .i64 13]) ∧ Kd.R k56 56 w' w.heap.size (fun _ => True) v0_ [] ∧ Below w.heap.size w w' := by
  have HR0 := Aside0.mk hr0
  have HR1 := Aside0.mk hr1
  clear hr0 hr1
  have hmm := @run_makeMap Try.prog
  go_enter Try.func19, Try.ntmps19
  go_wp2
  have HM := Aside0.mk (World.ownsMap_made w Try.prog 9 (plainElem (H := Unit) Try.prog 3))
  have HB := Aside0.mk ((Below.refl w.heap.size w).alloc (Nat.le_refl _) (.map #[] 0))
  clear hmm
  generalize w.alloc (.map #[] 0) = w1 at HB HM ⊢
  obtain ⟨hd0, hd1, hd2⟩ := doc_at (Kd.C_below HR0.out HB.out) (by decide)
  change _ = some (Value.string ⟨#[117]⟩) at hd0
  refine wp_loop_rounds 2 ?_
  rw [rounds_succ]
  go_wp2_with (at_mapUpdate; refine wpList_mapUpdate_own _ rfl _ _ _ 82 rfl 9 3 keyS Try.underlying82 _ w.heap.size 0 _ rfl HM.out (by unfold maxLen; decide) _ _ (.string [117]) rfl rfl keyU (.lit (.int .i64 0)) [] (plainElem_int Try.underlying3 (by decide)) ?_; intro w2 hown2 hgrow2; have n0_ := Aside0.mk (HB.out.grown hgrow2 HB.out.size (fun k h => by cases h; exact Nat.le_refl _)); clear HB HM hd0 hd1 hd2; have HB := n0_; have HM := Aside0.mk hown2; clear hown2 hgrow2 n0_)
  change Aside0 (w2.ownsMap Try.prog 9 (plainElem (H := Unit) Try.prog 3) w.heap.size 1 mapU) at HM
  rw [rounds_succ]
  go_wp2_with (go_at_call 31; (with_reducible refine (clone_doc ad0 c0 _ _ (Kd.C_below HR0.out HB.out)).mono ?_); rintro e w3 ⟨g, cap, tl, rfl, hh, hg, hc, hm, hl, hb⟩; have n0_ := Aside0.mk (below_step HB.out hb); have n1_ := Aside0.mk (ownsMap_below HM.out hb); have HGE := Aside0.mk (Nat.le_trans HB.out.size hg); clear HB HM; have HB := n0_; have HM := n1_; have HH := Aside0.mk hh; have HC := Aside0.mk hc; have HX := Aside0.mk hm; have HL := Aside0.mk hl; clear hh hg hc hm hl hb n0_ n1_)
  obtain ⟨A2, c2, he0, he1, he2, he3, he4⟩ := edit_at (Kd.C_below HR1.out HB.out) (by decide)
  change _ = some (Value.string ⟨#[117]⟩) at he0
  change _ = some (Value.int .i64 3) at he1
  change _ = some (Value.slice A2 0 c2) at he2
  change 0 ≤ c2 at he3
  change Kd.C k39 w3 A2 0 ([] : List S39) at he4
  have HE := Aside0.mk he4
  have HE3 := Aside0.mk he3
  clear he3 he4
  refine wp_loop_rounds 3 ?_
  rw [rounds_succ]
  go_upto_region 10 with fail
  have HBX := Aside0.mk (blk_new w3 (.cells #[.string ⟨#[117]⟩, .int .i64 3, .slice A2 0 c2] 61))
  have n0_ := Aside0.mk (below_alloc HB.out (.cells #[.string ⟨#[117]⟩, .int .i64 3, .slice A2 0 c2] 61))
  have n1_ := Aside0.mk (HM.out.alloc (.cells #[.string ⟨#[117]⟩, .int .i64 3, .slice A2 0 c2] 61))
  have n2_ := Aside0.mk (blk_alloc HH.out (.cells #[.string ⟨#[117]⟩, .int .i64 3, .slice A2 0 c2] 61))
  have n3_ := Aside0.mk (Kd.C_alloc HE.out (.cells #[.string ⟨#[117]⟩, .int .i64 3, .slice A2 0 c2] 61))
  have HBG := Aside0.mk HB.out.size
  have HGL := Aside0.mk (blk_lt HH.out)
  clear HB HM HH HE he0 he1 he2
  have HB := n0_
  have HM := n1_
  have HH := n2_
  have HE := n3_
  clear n0_ n1_ n2_ n3_
  generalize w3.alloc (.cells #[.string ⟨#[117]⟩, .int .i64 3, .slice A2 0 c2] 61) = w4 at HB HM HH HE HBX ⊢
  generalize w3.heap.size = bx at HBG HGL HBX ⊢
  go_wp2_with (first
    | (go_at_call 32; (with_reducible refine (contains_none _ _ bx _).mono ?_); rintro e w5 ⟨rfl, hb⟩; have n0_ := Aside0.mk (below_step HB.out hb); have n1_ := Aside0.mk (ownsMap_below HM.out hb); have n2_ := Aside0.mk (blk_below HH.out hb); have n3_ := Aside0.mk (Kd.C_below HE.out hb); have n4_ := Aside0.mk (blk_below HBX.out hb); clear HB HM HH HE HBX hb; have HB := n0_; have HM := n1_; have HH := n2_; have HE := n3_; have HBX := n4_; clear n0_ n1_ n2_ n3_ n4_; have hx0 : w5.cell? ⟨bx, 0, none⟩ = some (.string ⟨#[117]⟩) := (blk_cell HBX.out 0).trans rfl; have hx1 : w5.cell? ⟨bx, 1, none⟩ = some (.int .i64 3) := (blk_cell HBX.out 1).trans rfl; have hx2 : w5.cell? ⟨bx, 2, none⟩ = some (.slice A2 0 c2) := (blk_cell HBX.out 2).trans rfl; obtain ⟨hd0, hd1, hd2⟩ := doc_at (Kd.C_below HR0.out HB.out) (by decide); change _ = some (Value.string ⟨#[117]⟩) at hd0; change _ = some (Value.string ⟨#[97, 98]⟩) at hd1; change _ = some (Value.int .i64 3) at hd2)
    | (at_lookup; refine wpList_lookup_own_ok_int _ rfl _ _ 82 rfl 9 3 .i64 keyS Try.underlying82 Try.underlying3 (zero3 _) w.heap.size 1 mapU rfl HM.out _ (.string [117]) rfl keyU ?_; intro c hat hwc; (obtain rfl : c = 0 := by rw [mapU_u] at hat; injection hat with h1; injection h1 with h2 h3; exact h3.symm); rw [mapU_hasU]; clear hat hwc))
  go_quiet (fail)
  clear hd0 hd1 hd2 hx0 hx1 hx2
  go_upto_region 17 with fail
  have n0_ := Aside0.mk (pw_below_drewN HB.out nq)
  have n2_ := Aside0.mk (blk_drewN HH.out nq)
  have n3_ := Aside0.mk (Kd.C_drewN HE.out nq)
  have n4_ := Aside0.mk (blk_drewN HBX.out nq)
  clear HB HM HH HE HBX
  have HB := n0_
  have HH := n2_
  have HE := n3_
  have HBX := n4_
  clear n0_ n2_ n3_ n4_
  generalize w5.drewN nq = w6 at HB HH HE HBX ⊢
  obtain ⟨hd0, hd1, hd2⟩ := doc_at (Kd.C_below HR0.out HB.out) (by decide)
  change _ = some (Value.string ⟨#[97, 98]⟩) at hd1
  have hx2 : w6.cell? ⟨bx, 2, none⟩ = some (.slice A2 0 c2) := (blk_cell HBX.out 2).trans rfl
  clear hd0 hd2
  go_region_held3 (fun w' => w'.cell? ⟨ad0.block, ad0.off + 1, none⟩ = some (.string ⟨#[97, 98]⟩) ∧ w'.cell? ⟨bx, 2, none⟩ = some (.slice A2 0 c2)) (go_keep) ((go_at_call 12; (refine (edits_Apply.calls 10 ⟨#[97, 98]⟩ A2 c2 ([] : List S39) ⟨#[97, 98]⟩ 0 _ (Kd.C_drew HE.out) HE3.out (by kernel_rfl)).mono ?_); rintro e w7 ⟨rfl, hb⟩; have n0_ := Aside0.mk (below_step (below_drew1 HB.out) hb); have n2_ := Aside0.mk (blk_below (blk_drew HH.out) hb); have n4_ := Aside0.mk (blk_below (blk_drew HBX.out) hb); clear HB HH HBX hb; have HB := n0_; have HH := n2_; have HBX := n4_; clear n0_ n2_ n4_; have hx2' : w7.cell? ⟨bx, 2, none⟩ = some (.slice A2 0 c2) := (blk_cell HBX.out 2).trans rfl; obtain ⟨hd0', hd1', hd2'⟩ := doc_at (Kd.C_below HR0.out HB.out) (by decide); change _ = some (Value.string ⟨#[97, 98]⟩) at hd1'))
  have hs0 : w7.cell? ⟨g, 1, none⟩ = some (.string ⟨#[97, 98]⟩) := (blk_cell HH.out 1).trans rfl
  have hs1 : w7.frozen? ⟨g, 1, none⟩ = false := blk_frozen HH.out 1
  go_wp2
  have n2_ := Aside0.mk (blk_put HH.out 1 (.string ⟨#[97, 98]⟩) rfl)
  have n0_ := Aside0.mk (below_set (j := 1) (v := .string ⟨#[97, 98]⟩) HB.out HGE.out)
  clear HB HH HBX hs0 hs1
  have HB := n0_
  have HH := n2_
  clear n0_ n2_
  generalize w7.setCell ⟨g, 1, none⟩ (.string ⟨#[97, 98]⟩) = w8 at HB HH ⊢
  rw [rounds_succ]
  obtain ⟨B2, d2, hf0, hf1, hf2, hf3, hf4⟩ := edit_at1 (Kd.C_below HR1.out HB.out) (by decide)
  change _ = some (Value.string ⟨#[117]⟩) at hf0
  change _ = some (Value.int .i64 3) at hf1
  change _ = some (Value.slice B2 0 d2) at hf2
  clear hf3 hf4
  go_upto_region 10 with fail
  have HBY := Aside0.mk (blk_new w8 (.cells #[.string ⟨#[117]⟩, .int .i64 3, .slice B2 0 d2] 61))
  have n0_ := Aside0.mk (below_alloc HB.out (.cells #[.string ⟨#[117]⟩, .int .i64 3, .slice B2 0 d2] 61))
  clear HB HH hf0 hf1 hf2
  have HB := n0_
  clear n0_
  generalize w8.alloc (.cells #[.string ⟨#[117]⟩, .int .i64 3, .slice B2 0 d2] 61) = w9 at HB HBY ⊢
  generalize w8.heap.size = bz at HBY ⊢
  obtain ⟨C2, f2, hg0, hg1, hg2, hg3, hg4⟩ := edit_at (Kd.C_below HR1.out HB.out) (by decide)
  change _ = some (Value.string ⟨#[117]⟩) at hg0
  change _ = some (Value.int .i64 3) at hg1
  change _ = some (Value.slice C2 0 f2) at hg2
  have HG0 := Aside0.mk hg0
  have HG1 := Aside0.mk hg1
  have HG2 := Aside0.mk hg2
  have HC1 : (1 : Nat) ≤ c1 := by omega
  clear hg0 hg1 hg2 hg3 hg4
  go_wp2_with (go_at_call 32; (with_reducible refine (contains_one ad1 _ bz ⟨#[117]⟩ ⟨#[117]⟩ 3 (.slice C2 0 f2) _ ((blk_cell HBY.out 0).trans rfl) HG0.out HG1.out HG2.out rfl).mono ?_); rintro e w10 ⟨rfl, hb⟩; have n0_ := Aside0.mk (below_step HB.out hb); clear HB hb; have HB := n0_; clear n0_)
  go_ret2
  exact ⟨_, rfl, Kd.R_nil _ _ _ _ _, HB.out⟩

theorem known_Whole.calls (k : Nat) (A0 : Option Addr) (c0 : Nat) (l0 : List (S56)) (A1 : Option Addr) (c1 : Nat) (l1 : List (S61)) (r1 : List (S56)) (r2 : Int) (w : World) (hr0 : Kd.C k56 w A0 l0.length l0) (hc0 : l0.length ≤ c0) (hr1 : Kd.C k61 w A1 l1.length l1) (hc1 : l1.length ≤ c1) (h : known_Whole.f k l0 l1 = some (r1, r2)) :
    Calls Try.prog 19 #[.slice A0 l0.length c0, .slice A1 l1.length c1] w fun e w' => ∃ v0_ : Value, e = .returned (.tuple #[v0_, .int .i64 r2]) ∧ Kd.R k56 56 w' w.heap.size (fun _ => True) v0_ r1 ∧ Below w.heap.size w w' := by
  unfold known_Whole.f at h
  by_cases hd : p56 l0 = p56 docsIn
  · rw [if_pos hd] at h
    obtain rfl := p56_inj hd
    obtain ⟨ad0, rfl, _⟩ := hr0.2.2 (by decide)
    by_cases ha : p61 l1 = p61 wholeA
    · rw [if_pos ha] at h
      obtain rfl := p61_inj ha
      simp only [Option.some.injEq, Prod.mk.injEq] at h
      obtain ⟨rfl, rfl⟩ := h
      obtain ⟨ad1, rfl, _⟩ := hr1.2.2 (by decide)
      exact whole_A ad0 c0 ad1 c1 w hr0 hr1 hc1
    · rw [if_neg ha] at h
      by_cases hb : p61 l1 = p61 wholeB
      · rw [if_pos hb] at h
        obtain rfl := p61_inj hb
        simp only [Option.some.injEq, Prod.mk.injEq] at h
        obtain ⟨rfl, rfl⟩ := h
        obtain ⟨ad1, rfl, _⟩ := hr1.2.2 (by decide)
        exact whole_B ad0 c0 ad1 c1 w hr0 hr1 hc1
      · rw [if_neg hb] at h
        by_cases hc : p61 l1 = p61 wholeC
        · rw [if_pos hc] at h
          obtain rfl := p61_inj hc
          simp only [Option.some.injEq, Prod.mk.injEq] at h
          obtain ⟨rfl, rfl⟩ := h
          obtain ⟨ad1, rfl, _⟩ := hr1.2.2 (by decide)
          exact whole_C ad0 c0 ad1 c1 w hr0 hr1 hc1
        · rw [if_neg hc] at h
          by_cases he : p61 l1 = p61 wholeD
          · rw [if_pos he] at h
            obtain rfl := p61_inj he
            simp only [Option.some.injEq, Prod.mk.injEq] at h
            obtain ⟨rfl, rfl⟩ := h
            obtain ⟨ad1, rfl, _⟩ := hr1.2.2 (by decide)
            exact whole_D ad0 c0 ad1 c1 w hr0 hr1 hc1
          · rw [if_neg he] at h
            cases h
  · rw [if_neg hd] at h
    cases h
end Go.Proofs.Ytgdggbamhlinlaa.PEditsFlat
