/- YtgdggbamhlinlaaE1: EditsLong (function 4): its walk. -/
import Derived.Test.YtgdggbamhlinlaaE0
namespace Go.Proofs.Ytgdggbamhlinlaa.PEditsFlat
open Go.RowKit Go.Shelf Go.Proofs.YtgdggbamhlinlaaW.PrintWords Go.Proofs.YtgdggbamhlinlaaW.PrintLast Go.Proofs.YtgdggbamhlinlaaW.PrintMore
attribute [local go_sem] max2_int min2_int max_two min_two max_three min_three max_four min_four
attribute [local go_sem high] eqA39
set_option linter.unusedVariables false
set_option linter.unusedSimpArgs false

theorem sum_w (a b : Nat) (ha : a < 131072) (hb : b < 131072) : wrap64 ((a : Int) + (b : Int)) = (a : Int) + (b : Int) := by
  refine wrap_small ?_ ?_
  · omega
  · omega
theorem sum_i (a b : Nat) (ha : a < 131072) (hb : b < 131072) : IntKind.i64.wrap ((a : Int) + (b : Int)) = (a : Int) + (b : Int) := by
  refine IntWalk.i64_in _ ⟨?_, ?_⟩
  · omega
  · omega
theorem le_true (a b : Nat) (h : a + b ≤ 65536) : ((a : Int) + (b : Int) ≤ 65536) = True := eq_true (by omega)
theorem le_true1 (b : Nat) (h : b ≤ 65536) : ((b : Int) ≤ 65536) = True := eq_true (by omega)
theorem le_false (a b : Nat) (h : ¬ (a + b ≤ 65536)) : ((a : Int) + (b : Int) ≤ 65536) = False := eq_false (by omega)
theorem le_false1 (b : Nat) (h : ¬ (b ≤ 65536)) : ((b : Int) ≤ 65536) = False := eq_false (by omega)
theorem of_sum (a b : Nat) (h : a + b ≤ 65536) : b ≤ 65536 := by omega
theorem one_w (a : Nat) (h : a < 131072) : wrap64 (a : Int) = (a : Int) := wrap_small (by omega) (by omega)
theorem Apply_at (n : Nat) (text : ByteArray) (A : Option Addr) (cap : Nat) (L : List S39) (w : World) (hn : L.length = n) (hR : Kd.C k39 w A L.length L) (hcap : L.length ≤ cap) (hlen : L.length ≤ 1048576) (hts : text.size ≤ 1099511627776) (hxs : ∀ x ∈ L, x.f2.size ≤ 1099511627776)
    (k : Nat) (c : Int) (hk : edits_Check.f k (text.size : Int) L = some c) (r : ByteArray) (e0 : Int) (hres : ApplyRes text L c r e0) :
    Calls Try.prog 12 #[.string text, .slice A n cap] w fun e w' => e = .returned (.tuple #[.string r, .int .i64 e0]) ∧ Below w.heap.size w w' := by
  subst hn
  exact Apply_says text A cap L w hR hcap hlen hts hxs k c hk r e0 hres
theorem Flat_at (n : Nat) (k : Nat) (a0 : ByteArray) (A1 : Option Addr) (c1 : Nat) (l1 : List (S45)) (r1 : List (S39)) (r2 : Int) (w : World) (hn : l1.length = n) (hr1 : Kd.C k45 w A1 l1.length l1) (hc1 : l1.length ≤ c1)
    (hl1 : l1.length ≤ 1099511627776) (ha0 : a0.size ≤ 1099511627776) (hp1 : ∀ c ∈ l1, c.f2.length ≤ 1099511627776 ∧ ∀ p ∈ c.f2, p.f2.size ≤ 1099511627776) (h : emendref07_Flat.f k a0 l1 = some (r1, r2)) :
    Calls Try.prog 7 #[.string a0, .slice A1 n c1] w fun e w' => ∃ v0_ : Value, e = .returned (.tuple #[v0_, .int .i64 r2]) ∧ Kd.R k39 39 w' w.heap.size (fun _ => True) v0_ r1 ∧ Below w.heap.size w w' := by
  subst hn
  exact edits_Flat.calls k a0 A1 c1 l1 r1 r2 w hr1 hc1 hl1 ha0 hp1 h
theorem tera (a : Nat) (h : a < 131072) : a ≤ 1099511627776 := by omega

set_option maxRecDepth 100000 in
set_option maxHeartbeats 8000000 in
theorem EditsLong_walk (n m : Int) (hn : 0 ≤ n ∧ n ≤ 4294967295) (hm : 0 ≤ m ∧ m ≤ 4294967295) (w : World) :
    Calls Try.prog 4 #[.int .u32 n, .int .u32 m] w fun e w' => e = .returned (.bool true) ∧ Below w.heap.size w w' := by
  have hu45 := Try.underlying45
  have hu42 := Try.underlying42
  have hu39 := Try.underlying39
  have hn0 := hn.1
  have hn1 := hn.2
  have hm0 := hm.1
  have hm1 := hm.2
  obtain ⟨a, ha⟩ := Int.eq_ofNat_of_zero_le (Int.emod_nonneg n (b := 131072) (by decide))
  obtain ⟨b, hb⟩ := Int.eq_ofNat_of_zero_le (Int.emod_nonneg m (b := 131072) (by decide))
  have hal : a < 131072 := by omega
  have hbl : b < 131072 := by omega
  have hmkA : ∀ W' : World, (Instr.makeSlice 35 (.int .i64 (a : Int)) (.int .i64 (a : Int))).run Try.prog W' = .ok (.slice (some ⟨W'.heap.size, 0, none⟩) a a) (W'.alloc (.cells (madeCells #[.int .u8 0] a) 5)) := fun W' => run_make_row' 35 5 (.int .u8 0) 1 Try.underlying35 infoByte rfl .i64 .i64 a (by omega) (by omega) W'
  have hmkB : ∀ W' : World, (Instr.makeSlice 35 (.int .i64 (b : Int)) (.int .i64 (b : Int))).run Try.prog W' = .ok (.slice (some ⟨W'.heap.size, 0, none⟩) b b) (W'.alloc (.cells (madeCells #[.int .u8 0] b) 5)) := fun W' => run_make_row' 35 5 (.int .u8 0) 1 Try.underlying35 infoByte rfl .i64 .i64 b (by omega) (by omega) W'
  have hz : ∀ c, (zeros c).length = c := fun c => by simp [zeros]
  have hcv : ∀ (c : Nat) (W' : World), (convert 35 9 (.slice (some ⟨W'.heap.size, 0, none⟩) c c)).run Try.prog (W'.alloc (.cells (madeCells #[.int .u8 0] c) 5)) = .ok (.string (zstr c)) (W'.alloc (.cells (madeCells #[.int .u8 0] c) 5)) := fun c W' => by
    have h := run_row_string (W'.alloc (.cells (madeCells #[.int .u8 0] c) 5)) 35 9 5 W'.heap.size c (zeros c) Try.underlying35 Try.underlying5 Try.underlying9 (by rw [row_zeros]; exact Go.heap_alloc_new W' _)
    rw [hz] at h
    exact h
  have hsa := zstr_size a
  have hsb := zstr_size b
  have hcvA := hcv a
  have hcvB := hcv b
  have hcvC : ∀ (W' : World) (o : Obj), (convert 35 9 (.slice (some ⟨W'.heap.size + 1, 0, none⟩) b b)).run Try.prog ((W'.alloc o).alloc (.cells (madeCells #[.int .u8 0] b) 5)) = .ok (.string (zstr b)) ((W'.alloc o).alloc (.cells (madeCells #[.int .u8 0] b) 5)) := fun W' o => by
    have h := hcv b (W'.alloc o)
    rw [World.size_alloc] at h
    exact h
  clear hcv hz
  generalize zstr a = text at hsa hcvA
  generalize zstr b = add at hsb hcvB hcvC
  obtain ⟨r1, hA1, hz1⟩ := apply_long text add 0 (Nat.zero_le _)
  obtain ⟨r2, hA2, hz2⟩ := apply_long text add text.size (Nat.le_refl _)
  obtain ⟨G, hG⟩ := flat_long text add (by rw [hsa]; exact Nat.le_of_lt hal) (by rw [hsb]; exact Nat.le_of_lt hbl)
  rw [hsa] at hA2
  rw [Nat.sub_zero, hsa, hsb] at hA1 hz1
  rw [hsa] at hz2
  rw [Nat.sub_self, hsb, Nat.zero_add] at hA2 hz2
  rw [hsa, hsb] at hG
  have hta : n.tmod 131072 = (a : Int) := by rw [Int.tmod_eq_emod_of_nonneg hn0]; exact ha
  have htb : m.tmod 131072 = (b : Int) := by rw [Int.tmod_eq_emod_of_nonneg hm0]; exact hb
  have hwa : wrap64 (a : Int) = (a : Int) := one_w a hal
  have hwb : wrap64 (b : Int) = (b : Int) := one_w b hbl
  have hw64 : wrap64 ((a : Int) + (b : Int)) = (a : Int) + (b : Int) := sum_w a b hal hbl
  have hwr : IntKind.i64.wrap ((a : Int) + (b : Int)) = (a : Int) + (b : Int) := sum_i a b hal hbl
  have HZ1 := Aside0.mk hz1
  have HZ2 := Aside0.mk hz2
  clear hz1 hz2
  obtain ⟨L1, hL1⟩ : ∃ L : List S39, L = [⟨0, 0, add⟩] := ⟨_, rfl⟩
  obtain ⟨L2, hL2⟩ : ∃ L : List S39, L = [⟨0, (a : Int), add⟩] := ⟨_, rfl⟩
  obtain ⟨L3, hL3⟩ : ∃ L : List S45, L = [⟨0, 0, [⟨0, (a : Int), ⟨#[]⟩, false⟩, ⟨0, 0, add, true⟩]⟩] := ⟨_, rfl⟩
  have hL3' : longCut text add = L3 := by rw [hL3, longCut, hsa]
  rw [hL3'] at hG
  replace hA1 : ApplyRes text [⟨0, 0, add⟩] 0 r1 (if a + b ≤ 65536 then 0 else 3) := hA1
  rw [← hL1] at hA1
  rw [← hL2] at hA2
  have HL1c : Aside0 (edits_Check.f 2 (text.size : Int) L1 = some 0) := ⟨by rw [hL1]; exact check_one (text.size : Int) (Int.natCast_nonneg _) 0 (Int.le_refl _) (Int.natCast_nonneg _) add⟩
  have HL2c : Aside0 (edits_Check.f 2 (text.size : Int) L2 = some 0) := ⟨by rw [hL2]; exact check_one (text.size : Int) (Int.natCast_nonneg _) (a : Int) (Int.natCast_nonneg _) (by rw [hsa]; exact Int.le_refl _) add⟩
  have HL1l : Aside0 (L1.length = 1) := ⟨by rw [hL1]; rfl⟩
  have HL2l : Aside0 (L2.length = 1) := ⟨by rw [hL2]; rfl⟩
  have HL3l : Aside0 (L3.length = 1) := ⟨by rw [hL3]; rfl⟩
  have HL1n : Aside0 (L1.length ≤ 1048576) := ⟨by rw [hL1]; simp⟩
  have HL2n : Aside0 (L2.length ≤ 1048576) := ⟨by rw [hL2]; simp⟩
  have HL3n : Aside0 (L3.length ≤ 1099511627776) := ⟨by rw [hL3]; simp⟩
  have HL1x : Aside0 (∀ x ∈ L1, x.f2.size ≤ 1099511627776) := ⟨by rw [hL1]; intro x hx; simp at hx; subst hx; dsimp only; rw [hsb]; exact tera b hbl⟩
  have HL2x : Aside0 (∀ x ∈ L2, x.f2.size ≤ 1099511627776) := ⟨by rw [hL2]; intro x hx; simp at hx; subst hx; dsimp only; rw [hsb]; exact tera b hbl⟩
  have HL3p : Aside0 (∀ c ∈ L3, c.f2.length ≤ 1099511627776 ∧ ∀ p ∈ c.f2, p.f2.size ≤ 1099511627776) := ⟨by
    rw [hL3]; intro x hx; simp at hx; subst hx
    refine ⟨by simp, fun p hp => ?_⟩
    simp at hp
    rcases hp with rfl | rfl
    · exact Nat.zero_le _
    · dsimp only; rw [hsb]; exact tera b hbl⟩
  have HTS : Aside0 (text.size ≤ 1099511627776) := ⟨by rw [hsa]; exact tera a hal⟩
  have HTS2 := HTS
  have HL1 := Aside0.mk hL1
  have HL2 := Aside0.mk hL2
  have HL3 := Aside0.mk hL3
  clear hL1 hL2 hL3 hL3'
  have HA1 := Aside0.mk hA1
  have HA2 := Aside0.mk hA2
  have HG := Aside0.mk hG
  have HSA := Aside0.mk hsa
  have HSB := Aside0.mk hsb
  clear hA1 hA2 hG hsa hsb hu45 hu42 hu39 hn hm
  have hu45 := Try.underlying45
  have hu42 := Try.underlying42
  have hu39 := Try.underlying39
  have HB := Aside0.mk (Below.refl w.heap.size w)
  by_cases hp : a + b ≤ 65536
  · have hq := of_sum a b hp
    rw [if_pos hp] at HA1 HG
    rw [if_pos hq] at HA2
    have hz1' : (r1.size : Int) = (a : Int) + (b : Int) := by rw [HZ1.out hp, Int.natCast_add]
    have hz2' : (r2.size : Int) = (b : Int) := by rw [HZ2.out hq]
    have hp1 : ((a : Int) + (b : Int) ≤ 65536) = True := le_true a b hp
    have hq1 : ((b : Int) ≤ 65536) = True := le_true1 b hq
    have hta' : ∀ k : Int, k = 131072 → n.tmod k = (a : Int) := fun k hk => by rw [hk]; exact hta
    have htb' : ∀ k : Int, k = 131072 → m.tmod k = (b : Int) := fun k hk => by rw [hk]; exact htb
    have hwa' : ∀ k : Int, k = (a : Int) → wrap64 k = (a : Int) := fun k hk => by rw [hk]; exact hwa
    have hwb' : ∀ k : Int, k = (b : Int) → wrap64 k = (b : Int) := fun k hk => by rw [hk]; exact hwb
    have hw64' : ∀ k : Int, k = (a : Int) + (b : Int) → wrap64 k = (a : Int) + (b : Int) := fun k hk => by rw [hk]; exact hw64
    have hwr' : ∀ k : Int, k = (a : Int) + (b : Int) → IntKind.i64.wrap k = (a : Int) + (b : Int) := fun k hk => by rw [hk]; exact hwr
    have hp1' : ∀ k : Int, k = 65536 → ((a : Int) + (b : Int) ≤ k) = True := fun k hk => by rw [hk]; exact hp1
    have hq1' : ∀ k : Int, k = 65536 → ((b : Int) ≤ k) = True := fun k hk => by rw [hk]; exact hq1
    have hz1'' : ∀ r : ByteArray, r = r1 → (r.size : Int) = (a : Int) + (b : Int) := fun r hr => by rw [hr]; exact hz1'
    have hz2'' : ∀ r : ByteArray, r = r2 → (r.size : Int) = (b : Int) := fun r hr => by rw [hr]; exact hz2'
    clear hwa' hwb' hp hq HZ1 HZ2 hn0 hn1 hm0 hm1 hal hbl ha hb hta htb hw64 hwr hp1 hq1 hz1' hz2'
    go_enter Try.func4, Try.ntmps4
    go_wp2_with (first 
      | (go_at_call 13; (with_reducible refine (emendlaw07_of.calls 0 0 add 0 0 add _ rfl).mono ?_); rintro e w30 ⟨rfl, hb⟩; have n0 := Aside0.mk (below_step (by repeat (first | (with_reducible first | exact HB.out | apply below_alloc | apply pw_below_drewN | apply below_drew1) | exact HB.out)) hb); clear HB hb; have HB := n0; clear n0)
      | (go_at_call 13; (with_reducible refine (emendlaw07_of.calls 0 (a : Int) add 0 (a : Int) add _ rfl).mono ?_); rintro e w39 ⟨rfl, hb⟩; have n0 := Aside0.mk (below_step (by repeat (first | (with_reducible first | exact HB.out | apply below_alloc | apply pw_below_drewN | apply below_drew1) | exact HB.out)) hb); clear HB hb; have HB := n0; clear n0)
      | ((with_reducible refine gate_dst (N := 31) rfl ?_); refine Kd.R_lit k39 _ 39 ?hg (N := 31) ?hd (xs := [(⟨0, 0, add⟩ : S39)]) (inner := [.int .i64 0, .int .i64 0, .string add]) (ok := fun _ => True) (okp := fun _ => True) ?hr ?hp (fun _ hk => hk) trivial (Below.refl _ _) (Nat.le_refl _) (by simp) ?_; (case hd => rfl); (case hg => rfl); (case hr => first | (go_simp; done) | (go_simp; rfl)); (case hp => exact Reps.c3 (show Kd.M k39 _ _ _ (⟨0, 0, add⟩ : S39) [.int .i64 0, .int .i64 0, .string add] from k39_mkM _ _ _ (⟨0, 0, add⟩ : S39)) (Reps.none _ _)); intro v31 w31 ho hb hg_ hnew_; clear hg_ hnew_; obtain ⟨A31, c31, rfl⟩ := Kd.R_slice ho; rw [← HL1.out] at ho; have HO31 := Aside0.mk ho; clear ho; have n0 := Aside0.mk (below_step (by repeat (first | (with_reducible first | exact HB.out | apply below_alloc | apply pw_below_drewN | apply below_drew1) | exact HB.out)) hb); clear HB hb; have HB := n0; clear n0)
      | ((with_reducible refine gate_dst (N := 40) rfl ?_); refine Kd.R_lit k39 _ 39 ?hg (N := 40) ?hd (xs := [(⟨0, (a : Int), add⟩ : S39)]) (inner := [.int .i64 0, .int .i64 (a : Int), .string add]) (ok := fun _ => True) (okp := fun _ => True) ?hr ?hp (fun _ hk => hk) trivial (Below.refl _ _) (Nat.le_refl _) (by simp) ?_; (case hd => rfl); (case hg => rfl); (case hr => first | (go_simp; done) | (go_simp; rfl)); (case hp => exact Reps.c3 (show Kd.M k39 _ _ _ (⟨0, (a : Int), add⟩ : S39) [.int .i64 0, .int .i64 (a : Int), .string add] from k39_mkM _ _ _ (⟨0, (a : Int), add⟩ : S39)) (Reps.none _ _)); intro v40 w40 ho hb hg_ hnew_; clear hg_ hnew_; obtain ⟨A40, c40, rfl⟩ := Kd.R_slice ho; rw [← HL2.out] at ho; have HO40 := Aside0.mk ho; clear ho; have n0 := Aside0.mk (below_step (by repeat (first | (with_reducible first | exact HB.out | apply below_alloc | apply pw_below_drewN | apply below_drew1) | exact HB.out)) hb); clear HB hb; have HB := n0; clear n0)
      | (go_at_call 12; (with_reducible refine (Apply_at _ text _ _ L1 _ HL1l.out (Kd.R_reads' HO31.out).2.2 (Kd.R_reads' HO31.out).2.1 HL1n.out HTS.out HL1x.out 2 0 HL1c.out r1 _ HA1.out).mono ?_); rintro e w32 ⟨rfl, hb⟩; have n0 := Aside0.mk (below_step (by repeat (first | (with_reducible first | exact HB.out | apply below_alloc | apply pw_below_drewN | apply below_drew1) | exact HB.out)) hb); clear HB hb; have HB := n0; clear n0)
      | (go_at_call 12; (with_reducible refine (Apply_at _ text _ _ L2 _ HL2l.out (Kd.R_reads' HO40.out).2.2 (Kd.R_reads' HO40.out).2.1 HL2n.out HTS.out HL2x.out 2 0 HL2c.out r2 _ HA2.out).mono ?_); rintro e w41 ⟨rfl, hb⟩; have n0 := Aside0.mk (below_step (by repeat (first | (with_reducible first | exact HB.out | apply below_alloc | apply pw_below_drewN | apply below_drew1) | exact HB.out)) hb); clear HB hb; have HB := n0; clear n0)
      | ((with_reducible refine gate_dst (N := 50) rfl ?_); refine Kd.R_lit k42 _ 42 ?hg (N := 50) ?hd (xs := [(⟨0, (a : Int), ⟨#[]⟩, false⟩ : S42), (⟨0, 0, add, true⟩ : S42)]) (inner := [.int .i64 0, .int .i64 (a : Int), .string ⟨#[]⟩, .bool false, .int .i64 0, .int .i64 0, .string add, .bool true]) (ok := fun _ => True) (okp := fun _ => True) ?hr ?hp (fun _ hk => hk) trivial (Below.refl _ _) (Nat.le_refl _) (by simp) ?_; (case hd => rfl); (case hg => rfl); (case hr => first | (go_simp; done) | (go_simp; rfl)); (case hp => exact Reps.c4 (show Kd.M k42 _ _ _ (⟨0, (a : Int), ⟨#[]⟩, false⟩ : S42) [.int .i64 0, .int .i64 (a : Int), .string ⟨#[]⟩, .bool false] from k42_mkM _ _ _ (⟨0, (a : Int), ⟨#[]⟩, false⟩ : S42)) (Reps.c4 (show Kd.M k42 _ _ _ (⟨0, 0, add, true⟩ : S42) [.int .i64 0, .int .i64 0, .string add, .bool true] from k42_mkM _ _ _ (⟨0, 0, add, true⟩ : S42)) (Reps.none _ _))); intro v50 w50 ho hb hg_ hnew_; clear hg_ hnew_; obtain ⟨A50, c50, rfl⟩ := Kd.R_slice ho; have HO50 := Aside0.mk (Kd.R_lower ho (below_size (by repeat (first | (with_reducible first | exact HB.out | apply below_alloc | apply pw_below_drewN | apply below_drew1) | exact HB.out)))); clear ho; have n0 := Aside0.mk (below_step (by repeat (first | (with_reducible first | exact HB.out | apply below_alloc | apply pw_below_drewN | apply below_drew1) | exact HB.out)) hb); clear HB hb; have HB := n0; clear n0)
      | ((with_reducible refine gate_dst (N := 52) rfl ?_); refine Kd.R_lit k45 (w0 := w) w.heap.size 45 ?hg (N := 52) ?hd (xs := [(⟨0, 0, [(⟨0, (a : Int), ⟨#[]⟩, false⟩ : S42), (⟨0, 0, add, true⟩ : S42)]⟩ : S45)]) (inner := [.int .i64 0, .int .i64 0, .slice A50 2 c50]) (ok := fun _ => True) (okp := fun _ => True) ?hr ?hp (fun _ hk => hk) trivial (by repeat (first | (with_reducible first | exact HB.out | apply below_alloc | apply pw_below_drewN | apply below_drew1) | exact HB.out)) (below_size (by repeat (first | (with_reducible first | exact HB.out | apply below_alloc | apply pw_below_drewN | apply below_drew1) | exact HB.out))) (by simp) ?_; (case hd => rfl); (case hg => rfl); (case hr => first | (go_simp; done) | (go_simp; rfl)); (case hp => exact Reps.c3 (show Kd.M k45 _ _ _ (⟨0, 0, [(⟨0, (a : Int), ⟨#[]⟩, false⟩ : S42), (⟨0, 0, add, true⟩ : S42)]⟩ : S45) [.int .i64 0, .int .i64 0, .slice A50 2 c50] from k45_mkM _ _ _ (⟨0, 0, [(⟨0, (a : Int), ⟨#[]⟩, false⟩ : S42), (⟨0, 0, add, true⟩ : S42)]⟩ : S45) HO50.out) (Reps.none _ _)); intro v52 w52 ho hb hg_ hnew_; clear hg_ hnew_; obtain ⟨A52, c52, rfl⟩ := Kd.R_slice ho; rw [show [(⟨0, 0, [(⟨0, (a : Int), ⟨#[]⟩, false⟩ : S42), (⟨0, 0, add, true⟩ : S42)]⟩ : S45)] = L3 from HL3.out.symm] at ho; have HO52 := Aside0.mk ho; clear ho; clear HB; have HB := Aside0.mk hb; clear hb)
      | (go_at_call 7; (with_reducible refine (Flat_at _ 10 text _ _ L3 G _ _ HL3l.out (Kd.R_reads' HO52.out).2.2 (Kd.R_reads' HO52.out).2.1 HL3n.out HTS2.out HL3p.out HG.out).mono ?_); rintro e w53 ⟨v53, rfl, ho, hb⟩; clear ho; have n0 := Aside0.mk (below_step (by repeat (first | (with_reducible first | exact HB.out | apply below_alloc | apply pw_below_drewN | apply below_drew1) | exact HB.out)) hb); clear HB hb; have HB := n0; clear n0)
      | (go_at_call 11; (with_reducible refine (awake_calls _).mono ?_); rintro e w122 ⟨rfl, hb⟩; have n0 := Aside0.mk (below_step (by repeat (first | (with_reducible first | exact HB.out | apply below_alloc | apply pw_below_drewN | apply below_drew1) | exact HB.out)) hb); clear HB hb; have HB := n0; clear n0))
    go_ret
    exact ⟨rfl, HB.out⟩
  · rw [if_neg hp] at HA1 HG
    have hta' : ∀ k : Int, k = 131072 → n.tmod k = (a : Int) := fun k hk => by rw [hk]; exact hta
    have htb' : ∀ k : Int, k = 131072 → m.tmod k = (b : Int) := fun k hk => by rw [hk]; exact htb
    have hw64' : ∀ k : Int, k = (a : Int) + (b : Int) → wrap64 k = (a : Int) + (b : Int) := fun k hk => by rw [hk]; exact hw64
    have hwr' : ∀ k : Int, k = (a : Int) + (b : Int) → IntKind.i64.wrap k = (a : Int) + (b : Int) := fun k hk => by rw [hk]; exact hwr
    by_cases hq : b ≤ 65536
    · have hp1' : ∀ k : Int, k = 65536 → ((a : Int) + (b : Int) ≤ k) = False := fun k hk => by rw [hk]; exact le_false a b hp
      have hq1' : ∀ k : Int, k = 65536 → ((b : Int) ≤ k) = True := fun k hk => by rw [hk]; exact le_true1 b hq
      have hz2'' : ∀ r : ByteArray, r = r2 → (r.size : Int) = (b : Int) := fun r hr => by rw [hr, HZ2.out hq]
      rw [if_pos hq] at HA2
      clear hp hq HZ1 HZ2 hn0 hn1 hm0 hm1 hal hbl ha hb hta htb hw64 hwr
      go_enter Try.func4, Try.ntmps4
      go_wp2_with (first 
        | (go_at_call 13; (with_reducible refine (emendlaw07_of.calls 0 0 add 0 0 add _ rfl).mono ?_); rintro e w30 ⟨rfl, hb⟩; have n0 := Aside0.mk (below_step (by repeat (first | (with_reducible first | exact HB.out | apply below_alloc | apply pw_below_drewN | apply below_drew1) | exact HB.out)) hb); clear HB hb; have HB := n0; clear n0)
        | (go_at_call 13; (with_reducible refine (emendlaw07_of.calls 0 (a : Int) add 0 (a : Int) add _ rfl).mono ?_); rintro e w39 ⟨rfl, hb⟩; have n0 := Aside0.mk (below_step (by repeat (first | (with_reducible first | exact HB.out | apply below_alloc | apply pw_below_drewN | apply below_drew1) | exact HB.out)) hb); clear HB hb; have HB := n0; clear n0)
        | ((with_reducible refine gate_dst (N := 31) rfl ?_); refine Kd.R_lit k39 _ 39 ?hg (N := 31) ?hd (xs := [(⟨0, 0, add⟩ : S39)]) (inner := [.int .i64 0, .int .i64 0, .string add]) (ok := fun _ => True) (okp := fun _ => True) ?hr ?hp (fun _ hk => hk) trivial (Below.refl _ _) (Nat.le_refl _) (by simp) ?_; (case hd => rfl); (case hg => rfl); (case hr => first | (go_simp; done) | (go_simp; rfl)); (case hp => exact Reps.c3 (show Kd.M k39 _ _ _ (⟨0, 0, add⟩ : S39) [.int .i64 0, .int .i64 0, .string add] from k39_mkM _ _ _ (⟨0, 0, add⟩ : S39)) (Reps.none _ _)); intro v31 w31 ho hb hg_ hnew_; clear hg_ hnew_; obtain ⟨A31, c31, rfl⟩ := Kd.R_slice ho; rw [← HL1.out] at ho; have HO31 := Aside0.mk ho; clear ho; have n0 := Aside0.mk (below_step (by repeat (first | (with_reducible first | exact HB.out | apply below_alloc | apply pw_below_drewN | apply below_drew1) | exact HB.out)) hb); clear HB hb; have HB := n0; clear n0)
        | ((with_reducible refine gate_dst (N := 40) rfl ?_); refine Kd.R_lit k39 _ 39 ?hg (N := 40) ?hd (xs := [(⟨0, (a : Int), add⟩ : S39)]) (inner := [.int .i64 0, .int .i64 (a : Int), .string add]) (ok := fun _ => True) (okp := fun _ => True) ?hr ?hp (fun _ hk => hk) trivial (Below.refl _ _) (Nat.le_refl _) (by simp) ?_; (case hd => rfl); (case hg => rfl); (case hr => first | (go_simp; done) | (go_simp; rfl)); (case hp => exact Reps.c3 (show Kd.M k39 _ _ _ (⟨0, (a : Int), add⟩ : S39) [.int .i64 0, .int .i64 (a : Int), .string add] from k39_mkM _ _ _ (⟨0, (a : Int), add⟩ : S39)) (Reps.none _ _)); intro v40 w40 ho hb hg_ hnew_; clear hg_ hnew_; obtain ⟨A40, c40, rfl⟩ := Kd.R_slice ho; rw [← HL2.out] at ho; have HO40 := Aside0.mk ho; clear ho; have n0 := Aside0.mk (below_step (by repeat (first | (with_reducible first | exact HB.out | apply below_alloc | apply pw_below_drewN | apply below_drew1) | exact HB.out)) hb); clear HB hb; have HB := n0; clear n0)
        | (go_at_call 12; (with_reducible refine (Apply_at _ text _ _ L1 _ HL1l.out (Kd.R_reads' HO31.out).2.2 (Kd.R_reads' HO31.out).2.1 HL1n.out HTS.out HL1x.out 2 0 HL1c.out r1 _ HA1.out).mono ?_); rintro e w32 ⟨rfl, hb⟩; have n0 := Aside0.mk (below_step (by repeat (first | (with_reducible first | exact HB.out | apply below_alloc | apply pw_below_drewN | apply below_drew1) | exact HB.out)) hb); clear HB hb; have HB := n0; clear n0)
        | (go_at_call 12; (with_reducible refine (Apply_at _ text _ _ L2 _ HL2l.out (Kd.R_reads' HO40.out).2.2 (Kd.R_reads' HO40.out).2.1 HL2n.out HTS.out HL2x.out 2 0 HL2c.out r2 _ HA2.out).mono ?_); rintro e w41 ⟨rfl, hb⟩; have n0 := Aside0.mk (below_step (by repeat (first | (with_reducible first | exact HB.out | apply below_alloc | apply pw_below_drewN | apply below_drew1) | exact HB.out)) hb); clear HB hb; have HB := n0; clear n0)
        | ((with_reducible refine gate_dst (N := 50) rfl ?_); refine Kd.R_lit k42 _ 42 ?hg (N := 50) ?hd (xs := [(⟨0, (a : Int), ⟨#[]⟩, false⟩ : S42), (⟨0, 0, add, true⟩ : S42)]) (inner := [.int .i64 0, .int .i64 (a : Int), .string ⟨#[]⟩, .bool false, .int .i64 0, .int .i64 0, .string add, .bool true]) (ok := fun _ => True) (okp := fun _ => True) ?hr ?hp (fun _ hk => hk) trivial (Below.refl _ _) (Nat.le_refl _) (by simp) ?_; (case hd => rfl); (case hg => rfl); (case hr => first | (go_simp; done) | (go_simp; rfl)); (case hp => exact Reps.c4 (show Kd.M k42 _ _ _ (⟨0, (a : Int), ⟨#[]⟩, false⟩ : S42) [.int .i64 0, .int .i64 (a : Int), .string ⟨#[]⟩, .bool false] from k42_mkM _ _ _ (⟨0, (a : Int), ⟨#[]⟩, false⟩ : S42)) (Reps.c4 (show Kd.M k42 _ _ _ (⟨0, 0, add, true⟩ : S42) [.int .i64 0, .int .i64 0, .string add, .bool true] from k42_mkM _ _ _ (⟨0, 0, add, true⟩ : S42)) (Reps.none _ _))); intro v50 w50 ho hb hg_ hnew_; clear hg_ hnew_; obtain ⟨A50, c50, rfl⟩ := Kd.R_slice ho; have HO50 := Aside0.mk (Kd.R_lower ho (below_size (by repeat (first | (with_reducible first | exact HB.out | apply below_alloc | apply pw_below_drewN | apply below_drew1) | exact HB.out)))); clear ho; have n0 := Aside0.mk (below_step (by repeat (first | (with_reducible first | exact HB.out | apply below_alloc | apply pw_below_drewN | apply below_drew1) | exact HB.out)) hb); clear HB hb; have HB := n0; clear n0)
        | ((with_reducible refine gate_dst (N := 52) rfl ?_); refine Kd.R_lit k45 (w0 := w) w.heap.size 45 ?hg (N := 52) ?hd (xs := [(⟨0, 0, [(⟨0, (a : Int), ⟨#[]⟩, false⟩ : S42), (⟨0, 0, add, true⟩ : S42)]⟩ : S45)]) (inner := [.int .i64 0, .int .i64 0, .slice A50 2 c50]) (ok := fun _ => True) (okp := fun _ => True) ?hr ?hp (fun _ hk => hk) trivial (by repeat (first | (with_reducible first | exact HB.out | apply below_alloc | apply pw_below_drewN | apply below_drew1) | exact HB.out)) (below_size (by repeat (first | (with_reducible first | exact HB.out | apply below_alloc | apply pw_below_drewN | apply below_drew1) | exact HB.out))) (by simp) ?_; (case hd => rfl); (case hg => rfl); (case hr => first | (go_simp; done) | (go_simp; rfl)); (case hp => exact Reps.c3 (show Kd.M k45 _ _ _ (⟨0, 0, [(⟨0, (a : Int), ⟨#[]⟩, false⟩ : S42), (⟨0, 0, add, true⟩ : S42)]⟩ : S45) [.int .i64 0, .int .i64 0, .slice A50 2 c50] from k45_mkM _ _ _ (⟨0, 0, [(⟨0, (a : Int), ⟨#[]⟩, false⟩ : S42), (⟨0, 0, add, true⟩ : S42)]⟩ : S45) HO50.out) (Reps.none _ _)); intro v52 w52 ho hb hg_ hnew_; clear hg_ hnew_; obtain ⟨A52, c52, rfl⟩ := Kd.R_slice ho; rw [show [(⟨0, 0, [(⟨0, (a : Int), ⟨#[]⟩, false⟩ : S42), (⟨0, 0, add, true⟩ : S42)]⟩ : S45)] = L3 from HL3.out.symm] at ho; have HO52 := Aside0.mk ho; clear ho; clear HB; have HB := Aside0.mk hb; clear hb)
        | (go_at_call 7; (with_reducible refine (Flat_at _ 10 text _ _ L3 G _ _ HL3l.out (Kd.R_reads' HO52.out).2.2 (Kd.R_reads' HO52.out).2.1 HL3n.out HTS2.out HL3p.out HG.out).mono ?_); rintro e w53 ⟨v53, rfl, ho, hb⟩; clear ho; have n0 := Aside0.mk (below_step (by repeat (first | (with_reducible first | exact HB.out | apply below_alloc | apply pw_below_drewN | apply below_drew1) | exact HB.out)) hb); clear HB hb; have HB := n0; clear n0)
        | (go_at_call 11; (with_reducible refine (awake_calls _).mono ?_); rintro e w122 ⟨rfl, hb⟩; have n0 := Aside0.mk (below_step (by repeat (first | (with_reducible first | exact HB.out | apply below_alloc | apply pw_below_drewN | apply below_drew1) | exact HB.out)) hb); clear HB hb; have HB := n0; clear n0))
      go_ret
      exact ⟨rfl, HB.out⟩
    · have hp1' : ∀ k : Int, k = 65536 → ((a : Int) + (b : Int) ≤ k) = False := fun k hk => by rw [hk]; exact le_false a b hp
      have hq1' : ∀ k : Int, k = 65536 → ((b : Int) ≤ k) = False := fun k hk => by rw [hk]; exact le_false1 b hq
      rw [if_neg hq] at HA2
      clear hp hq HZ1 HZ2 hn0 hn1 hm0 hm1 hal hbl ha hb hta htb hw64 hwr
      go_enter Try.func4, Try.ntmps4
      go_wp2_with (first 
        | (go_at_call 13; (with_reducible refine (emendlaw07_of.calls 0 0 add 0 0 add _ rfl).mono ?_); rintro e w30 ⟨rfl, hb⟩; have n0 := Aside0.mk (below_step (by repeat (first | (with_reducible first | exact HB.out | apply below_alloc | apply pw_below_drewN | apply below_drew1) | exact HB.out)) hb); clear HB hb; have HB := n0; clear n0)
        | (go_at_call 13; (with_reducible refine (emendlaw07_of.calls 0 (a : Int) add 0 (a : Int) add _ rfl).mono ?_); rintro e w39 ⟨rfl, hb⟩; have n0 := Aside0.mk (below_step (by repeat (first | (with_reducible first | exact HB.out | apply below_alloc | apply pw_below_drewN | apply below_drew1) | exact HB.out)) hb); clear HB hb; have HB := n0; clear n0)
        | ((with_reducible refine gate_dst (N := 31) rfl ?_); refine Kd.R_lit k39 _ 39 ?hg (N := 31) ?hd (xs := [(⟨0, 0, add⟩ : S39)]) (inner := [.int .i64 0, .int .i64 0, .string add]) (ok := fun _ => True) (okp := fun _ => True) ?hr ?hp (fun _ hk => hk) trivial (Below.refl _ _) (Nat.le_refl _) (by simp) ?_; (case hd => rfl); (case hg => rfl); (case hr => first | (go_simp; done) | (go_simp; rfl)); (case hp => exact Reps.c3 (show Kd.M k39 _ _ _ (⟨0, 0, add⟩ : S39) [.int .i64 0, .int .i64 0, .string add] from k39_mkM _ _ _ (⟨0, 0, add⟩ : S39)) (Reps.none _ _)); intro v31 w31 ho hb hg_ hnew_; clear hg_ hnew_; obtain ⟨A31, c31, rfl⟩ := Kd.R_slice ho; rw [← HL1.out] at ho; have HO31 := Aside0.mk ho; clear ho; have n0 := Aside0.mk (below_step (by repeat (first | (with_reducible first | exact HB.out | apply below_alloc | apply pw_below_drewN | apply below_drew1) | exact HB.out)) hb); clear HB hb; have HB := n0; clear n0)
        | ((with_reducible refine gate_dst (N := 40) rfl ?_); refine Kd.R_lit k39 _ 39 ?hg (N := 40) ?hd (xs := [(⟨0, (a : Int), add⟩ : S39)]) (inner := [.int .i64 0, .int .i64 (a : Int), .string add]) (ok := fun _ => True) (okp := fun _ => True) ?hr ?hp (fun _ hk => hk) trivial (Below.refl _ _) (Nat.le_refl _) (by simp) ?_; (case hd => rfl); (case hg => rfl); (case hr => first | (go_simp; done) | (go_simp; rfl)); (case hp => exact Reps.c3 (show Kd.M k39 _ _ _ (⟨0, (a : Int), add⟩ : S39) [.int .i64 0, .int .i64 (a : Int), .string add] from k39_mkM _ _ _ (⟨0, (a : Int), add⟩ : S39)) (Reps.none _ _)); intro v40 w40 ho hb hg_ hnew_; clear hg_ hnew_; obtain ⟨A40, c40, rfl⟩ := Kd.R_slice ho; rw [← HL2.out] at ho; have HO40 := Aside0.mk ho; clear ho; have n0 := Aside0.mk (below_step (by repeat (first | (with_reducible first | exact HB.out | apply below_alloc | apply pw_below_drewN | apply below_drew1) | exact HB.out)) hb); clear HB hb; have HB := n0; clear n0)
        | (go_at_call 12; (with_reducible refine (Apply_at _ text _ _ L1 _ HL1l.out (Kd.R_reads' HO31.out).2.2 (Kd.R_reads' HO31.out).2.1 HL1n.out HTS.out HL1x.out 2 0 HL1c.out r1 _ HA1.out).mono ?_); rintro e w32 ⟨rfl, hb⟩; have n0 := Aside0.mk (below_step (by repeat (first | (with_reducible first | exact HB.out | apply below_alloc | apply pw_below_drewN | apply below_drew1) | exact HB.out)) hb); clear HB hb; have HB := n0; clear n0)
        | (go_at_call 12; (with_reducible refine (Apply_at _ text _ _ L2 _ HL2l.out (Kd.R_reads' HO40.out).2.2 (Kd.R_reads' HO40.out).2.1 HL2n.out HTS.out HL2x.out 2 0 HL2c.out r2 _ HA2.out).mono ?_); rintro e w41 ⟨rfl, hb⟩; have n0 := Aside0.mk (below_step (by repeat (first | (with_reducible first | exact HB.out | apply below_alloc | apply pw_below_drewN | apply below_drew1) | exact HB.out)) hb); clear HB hb; have HB := n0; clear n0)
        | ((with_reducible refine gate_dst (N := 50) rfl ?_); refine Kd.R_lit k42 _ 42 ?hg (N := 50) ?hd (xs := [(⟨0, (a : Int), ⟨#[]⟩, false⟩ : S42), (⟨0, 0, add, true⟩ : S42)]) (inner := [.int .i64 0, .int .i64 (a : Int), .string ⟨#[]⟩, .bool false, .int .i64 0, .int .i64 0, .string add, .bool true]) (ok := fun _ => True) (okp := fun _ => True) ?hr ?hp (fun _ hk => hk) trivial (Below.refl _ _) (Nat.le_refl _) (by simp) ?_; (case hd => rfl); (case hg => rfl); (case hr => first | (go_simp; done) | (go_simp; rfl)); (case hp => exact Reps.c4 (show Kd.M k42 _ _ _ (⟨0, (a : Int), ⟨#[]⟩, false⟩ : S42) [.int .i64 0, .int .i64 (a : Int), .string ⟨#[]⟩, .bool false] from k42_mkM _ _ _ (⟨0, (a : Int), ⟨#[]⟩, false⟩ : S42)) (Reps.c4 (show Kd.M k42 _ _ _ (⟨0, 0, add, true⟩ : S42) [.int .i64 0, .int .i64 0, .string add, .bool true] from k42_mkM _ _ _ (⟨0, 0, add, true⟩ : S42)) (Reps.none _ _))); intro v50 w50 ho hb hg_ hnew_; clear hg_ hnew_; obtain ⟨A50, c50, rfl⟩ := Kd.R_slice ho; have HO50 := Aside0.mk (Kd.R_lower ho (below_size (by repeat (first | (with_reducible first | exact HB.out | apply below_alloc | apply pw_below_drewN | apply below_drew1) | exact HB.out)))); clear ho; have n0 := Aside0.mk (below_step (by repeat (first | (with_reducible first | exact HB.out | apply below_alloc | apply pw_below_drewN | apply below_drew1) | exact HB.out)) hb); clear HB hb; have HB := n0; clear n0)
        | ((with_reducible refine gate_dst (N := 52) rfl ?_); refine Kd.R_lit k45 (w0 := w) w.heap.size 45 ?hg (N := 52) ?hd (xs := [(⟨0, 0, [(⟨0, (a : Int), ⟨#[]⟩, false⟩ : S42), (⟨0, 0, add, true⟩ : S42)]⟩ : S45)]) (inner := [.int .i64 0, .int .i64 0, .slice A50 2 c50]) (ok := fun _ => True) (okp := fun _ => True) ?hr ?hp (fun _ hk => hk) trivial (by repeat (first | (with_reducible first | exact HB.out | apply below_alloc | apply pw_below_drewN | apply below_drew1) | exact HB.out)) (below_size (by repeat (first | (with_reducible first | exact HB.out | apply below_alloc | apply pw_below_drewN | apply below_drew1) | exact HB.out))) (by simp) ?_; (case hd => rfl); (case hg => rfl); (case hr => first | (go_simp; done) | (go_simp; rfl)); (case hp => exact Reps.c3 (show Kd.M k45 _ _ _ (⟨0, 0, [(⟨0, (a : Int), ⟨#[]⟩, false⟩ : S42), (⟨0, 0, add, true⟩ : S42)]⟩ : S45) [.int .i64 0, .int .i64 0, .slice A50 2 c50] from k45_mkM _ _ _ (⟨0, 0, [(⟨0, (a : Int), ⟨#[]⟩, false⟩ : S42), (⟨0, 0, add, true⟩ : S42)]⟩ : S45) HO50.out) (Reps.none _ _)); intro v52 w52 ho hb hg_ hnew_; clear hg_ hnew_; obtain ⟨A52, c52, rfl⟩ := Kd.R_slice ho; rw [show [(⟨0, 0, [(⟨0, (a : Int), ⟨#[]⟩, false⟩ : S42), (⟨0, 0, add, true⟩ : S42)]⟩ : S45)] = L3 from HL3.out.symm] at ho; have HO52 := Aside0.mk ho; clear ho; clear HB; have HB := Aside0.mk hb; clear hb)
        | (go_at_call 7; (with_reducible refine (Flat_at _ 10 text _ _ L3 G _ _ HL3l.out (Kd.R_reads' HO52.out).2.2 (Kd.R_reads' HO52.out).2.1 HL3n.out HTS2.out HL3p.out HG.out).mono ?_); rintro e w53 ⟨v53, rfl, ho, hb⟩; clear ho; have n0 := Aside0.mk (below_step (by repeat (first | (with_reducible first | exact HB.out | apply below_alloc | apply pw_below_drewN | apply below_drew1) | exact HB.out)) hb); clear HB hb; have HB := n0; clear n0)
        | (go_at_call 11; (with_reducible refine (awake_calls _).mono ?_); rintro e w122 ⟨rfl, hb⟩; have n0 := Aside0.mk (below_step (by repeat (first | (with_reducible first | exact HB.out | apply below_alloc | apply pw_below_drewN | apply below_drew1) | exact HB.out)) hb); clear HB hb; have HB := n0; clear n0))
      go_ret
      exact ⟨rfl, HB.out⟩
end Go.Proofs.Ytgdggbamhlinlaa.PEditsFlat
