/- YtgdggbamhlinlaaK4: EditsKnown, Sort: lines that the print wrote, cut by this session to the ways on which it answers true (wip/known). -/
import Derived.Test.YtgdggbamhlinlaaK0
namespace Go.Proofs.Ytgdggbamhlinlaa.PEditsFlat
open Go.RowKit Go.Proofs.YtgdggbamhlinlaaW.PrintWords Go.Proofs.YtgdggbamhlinlaaW.PrintLast Go.Proofs.YtgdggbamhlinlaaW.PrintMore
attribute [local go_sem] max2_int min2_int max_two min_two max_three min_three max_four min_four
set_option linter.unusedVariables false
set_option linter.unusedSimpArgs false
attribute [local go_sem high] eqA39 eqA56
set_option maxHeartbeats 8000000 in
set_option maxRecDepth 100000 in
theorem ek.piece8 (h : ek.From 10) : ek.From 8 := by
  intro w u0 u1 u2 u3 u4 u5 u6 u7 u8 u9 u10 u11 u12 u13 u14 u15 u16 u17 u18 u19 u20 u21 u22 u23 u24 u25 u26 u27 u28 u29 u30 u31 u32 u33 u34 u35 u36 u37 u38 u39 u40 u41 u42 u43 u44 u45 u46 u47 u48 u49 u50 u51 u52 u53 u54 u55 u56 u57 u58 u59 u60 u61 u62 u63 u64 u65 u66 u67 u68 u69 u70 u71 u72 u73 u74 u75 u76 u77 u78 u79 u80 u81 u82 u83 u84 u85 u86 u87 u88 u89 u90 u91 u92 u93 u94 u95 u96 u97 u98 u99 u100 u101 u102 u103 u104 u105 u106 u107 u108 u109 u110 u111 u112 u113 u114 u115 u116 u117 u118 u119 u120 u121 u122 u123 u124 u125 u126 u127 u128 u129 u130 u131 u132 u133 u134 u135 u136 u137 u138 u139 u140 u141 u142 u143 u144 u145 u146 u147 u148 u149 u150 u151 u152 u153 u154 u155 u156 u157 u158 u159 u160 u161 u162 u163 u164 u165 u166 u167 u168 u169 u170 u171 u172 u173 u174 u175 u176 u177 u178 u179 u180 u181 u182 u183 u184 u185 u186 u187 u188 u189 u190 u191 u192 u193 u194 u195 u196 u197 u198 u199 u200 u201 u202 u203 u204 u205 u206 u207 u208 u209 u210 u211 u212 u213 u214 u215 u216 u217 u218 u219 u220 u221 u222 u223 u224 u225 u226 u227 u228 u229 u230 u231 u232 u233 u234 u235 u236 u237 u238 u239 u240 u241 u242 u243 u244 u245 u246 u247 u248 u249 u250 u251 u252 u253 u254 u255 u256 u257 u258 u259 u260 u261 u262 u263 u264 u265 u266 u267 u268 u269 u270 u271 u272 u273 u274 u275 u276 u277 u278 u279 u280 u281 u282 u283 u284 u285 u286 u287 u288 u289 u290 u291 u292 u293 u294 u295 u296 u297 u298 u299 u300 u301 u302 u303 u304 u305 u306 u307 u308 u309 u310 w1 hb
  have HB := Aside0.mk hb
  clear hb
  have hu39 := Try.underlying39
  have hu42 := Try.underlying42
  have hu45 := Try.underlying45
  have hu56 := Try.underlying56
  have hu61 := Try.underlying61
  have HJ2 := Aside0.mk (Nat.le_refl 0)
  have HK2 := HJ2
  have HK3 := HJ2
  have HJ159 := HJ2
  obtain ⟨k3, H⟩ : ∃ k3, ((emendlaw07_of.f 3 4 (⟨#[120]⟩ : ByteArray)).bind fun bt229 => ((emendlaw07_of.f 3 3 (⟨#[121]⟩ : ByteArray)).bind fun bt232 => ((emendlaw07_of.f 1 2 (⟨#[122]⟩ : ByteArray)).bind fun bt235 => ((known_Sort.f (([(⟨bt229.1, bt229.2.1, bt229.2.2⟩ : S39), (⟨bt232.1, bt232.2.1, bt232.2.2⟩ : S39), (⟨bt235.1, bt235.2.1, bt235.2.2⟩ : S39)] : List (S39)))).bind fun t241 => (if (t241.length : Int) = 3 then (if 0 < (t241.length : Int) then ((emendlaw07_of.f 1 2 (⟨#[122]⟩ : ByteArray)).bind fun bt245 => (if (!(((rd_T39 t241 0).f0) == bt245.1) || (!(((rd_T39 t241 0).f1) == bt245.2.1) || (!((((rd_T39 t241 0).f2).toList) == bt245.2.2.toList)))) = true then (ek.j3 k3 true) else (if 1 < (t241.length : Int) then ((emendlaw07_of.f 3 3 (⟨#[121]⟩ : ByteArray)).bind fun bt249 => (if (!(((rd_T39 t241 1).f0) == bt249.1) || (!(((rd_T39 t241 1).f1) == bt249.2.1) || (!((((rd_T39 t241 1).f2).toList) == bt249.2.2.toList)))) = true then (ek.j3 k3 true) else (if 2 < (t241.length : Int) then ((emendlaw07_of.f 3 4 (⟨#[120]⟩ : ByteArray)).bind fun bt253 => (ek.j3 k3 (!(((rd_T39 t241 2).f0) == bt253.1) || (!(((rd_T39 t241 2).f1) == bt253.2.1) || (!((((rd_T39 t241 2).f2).toList) == bt253.2.2.toList)))))) else (none)))) else (none)))) else (none)) else (ek.j3 k3 true)))))) = some true := ⟨40, by kernel_rfl⟩
  conv => arg 2; whnf
  obtain ⟨v219, y218, HO_8⟩ : ∃ (v219 : Value) (y218 : List (List S39)), Aside0 (Kd.N (Kd.slice 39 k39) 24 w1 w.heap.size (fun _ => True) v219 y218) := ⟨.slice none 0 0, [], ⟨Kd.N_nil _ _ _ _ _⟩⟩
  replace H := Option.bind_eq_some_iff.mp H
  obtain ⟨⟨t229, t230, t231⟩, A1560, H⟩ := H
  (try dsimp only at H)
  have A156 := Aside0.mk A1560
  clear A1560
  replace H := Option.bind_eq_some_iff.mp H
  obtain ⟨⟨t232, t233, t234⟩, A1570, H⟩ := H
  (try dsimp only at H)
  have A157 := Aside0.mk A1570
  clear A1570
  replace H := Option.bind_eq_some_iff.mp H
  obtain ⟨⟨t235, t236, t237⟩, A1580, H⟩ := H
  (try dsimp only at H)
  have A158 := Aside0.mk A1580
  clear A1580
  obtain ⟨y238, hy238⟩ : ∃ y_ : List (S39), y_ = (([(⟨t229, t230, t231⟩ : S39), (⟨t232, t233, t234⟩ : S39), (⟨t235, t236, t237⟩ : S39)] : List (S39))) := ⟨_, rfl⟩
  replace H : ((known_Sort.f y238).bind fun t241 => (if (t241.length : Int) = 3 then (if 0 < (t241.length : Int) then ((emendlaw07_of.f 1 2 (⟨#[122]⟩ : ByteArray)).bind fun bt245 => (if (!(((rd_T39 t241 0).f0) == bt245.1) || (!(((rd_T39 t241 0).f1) == bt245.2.1) || (!((((rd_T39 t241 0).f2).toList) == bt245.2.2.toList)))) = true then (ek.j3 k3 true) else (if 1 < (t241.length : Int) then ((emendlaw07_of.f 3 3 (⟨#[121]⟩ : ByteArray)).bind fun bt249 => (if (!(((rd_T39 t241 1).f0) == bt249.1) || (!(((rd_T39 t241 1).f1) == bt249.2.1) || (!((((rd_T39 t241 1).f2).toList) == bt249.2.2.toList)))) = true then (ek.j3 k3 true) else (if 2 < (t241.length : Int) then ((emendlaw07_of.f 3 4 (⟨#[120]⟩ : ByteArray)).bind fun bt253 => (ek.j3 k3 (!(((rd_T39 t241 2).f0) == bt253.1) || (!(((rd_T39 t241 2).f1) == bt253.2.1) || (!((((rd_T39 t241 2).f2).toList) == bt253.2.2.toList)))))) else (none)))) else (none)))) else (none)) else (ek.j3 k3 true))) = some true := by first | (rw [hy238]; with_reducible exact H) | (have H2_ := (Option.bind_some _ _).symm.trans H; rw [hy238]; with_reducible exact H2_) | (have H2_ := (Option.bind_some _ _).symm.trans H; with_reducible exact H2_) | with_reducible exact H | (rw [hy238]; exact H) | exact H
  have Ny238 := Aside0.mk hy238
  clear hy238
  replace H := Option.bind_eq_some_iff.mp H
  obtain ⟨t241, A1590, H⟩ := H
  (try dsimp only at H)
  have A159 := Aside0.mk A1590
  clear A1590
  have HC160 := Aside0.mk H
  clear H
  obtain ⟨Ao161, co161, eo161⟩ := Kd.N_slice HO_8.out
  subst eo161
  go_upto_region 21 with (first | ((with_reducible refine gate_callee (f := 13) rfl ?_); refine goesL_ (some 157) rfl rfl Try.func13 (by kernel_rfl) rfl #[.int .i64 3, .int .i64 4, .string (⟨#[120]⟩ : ByteArray)] rfl (by (try simp only [List.map_toArray, List.map_cons, List.map_nil]); first | done | rfl | (simp only [List.length_drop, List.length_take]; rfl)) ?_; (with_reducible refine (emendlaw07_of.calls 3 4 (⟨#[120]⟩ : ByteArray) t229 t230 t231 _ A156.out).mono ?_); rintro e w162 ⟨rfl, hb⟩; refine ⟨_, rfl, ?_⟩; have n0_ := Aside0.mk (Kd.N_below (by (with_reducible repeat (first | apply Kd.N_alloc | apply Kd.N_drewN | apply Kd.N_drew)); exact HO_8.out) hb); have n1_ := Aside0.mk (below_step (by repeat (first | (with_reducible first | exact HB.out | apply below_alloc | apply pw_below_drewN | apply below_drew1) | exact HB.out)) hb); clear HO_8; clear HB; have HO_8 := n0_; have HB := n1_; clear n0_ n1_; (try clear hb); (try clear hb2); (try clear hk); (try clear hi)) | ((with_reducible refine gate_callee (f := 13) rfl ?_); refine goesL_ (some 158) rfl rfl Try.func13 (by kernel_rfl) rfl #[.int .i64 3, .int .i64 3, .string (⟨#[121]⟩ : ByteArray)] rfl (by (try simp only [List.map_toArray, List.map_cons, List.map_nil]); first | done | rfl | (simp only [List.length_drop, List.length_take]; rfl)) ?_; (with_reducible refine (emendlaw07_of.calls 3 3 (⟨#[121]⟩ : ByteArray) t232 t233 t234 _ A157.out).mono ?_); rintro e w163 ⟨rfl, hb⟩; refine ⟨_, rfl, ?_⟩; have n0_ := Aside0.mk (Kd.N_below (by (with_reducible repeat (first | apply Kd.N_alloc | apply Kd.N_drewN | apply Kd.N_drew)); exact HO_8.out) hb); have n1_ := Aside0.mk (below_step (by repeat (first | (with_reducible first | exact HB.out | apply below_alloc | apply pw_below_drewN | apply below_drew1) | exact HB.out)) hb); clear HO_8; clear HB; have HO_8 := n0_; have HB := n1_; clear n0_ n1_; (try clear hb); (try clear hb2); (try clear hk); (try clear hi)) | ((with_reducible refine gate_callee (f := 13) rfl ?_); refine goesL_ (some 159) rfl rfl Try.func13 (by kernel_rfl) rfl #[.int .i64 1, .int .i64 2, .string (⟨#[122]⟩ : ByteArray)] rfl (by (try simp only [List.map_toArray, List.map_cons, List.map_nil]); first | done | rfl | (simp only [List.length_drop, List.length_take]; rfl)) ?_; (with_reducible refine (emendlaw07_of.calls 1 2 (⟨#[122]⟩ : ByteArray) t235 t236 t237 _ A158.out).mono ?_); rintro e w164 ⟨rfl, hb⟩; refine ⟨_, rfl, ?_⟩; have n0_ := Aside0.mk (Kd.N_below (by (with_reducible repeat (first | apply Kd.N_alloc | apply Kd.N_drewN | apply Kd.N_drew)); exact HO_8.out) hb); have n1_ := Aside0.mk (below_step (by repeat (first | (with_reducible first | exact HB.out | apply below_alloc | apply pw_below_drewN | apply below_drew1) | exact HB.out)) hb); clear HO_8; clear HB; have HO_8 := n0_; have HB := n1_; clear n0_ n1_; (try clear hb); (try clear hb2); (try clear hk); (try clear hi)) | ((with_reducible refine gate_dst (N := 160) rfl ?_); (try (refine gate_guard (by rfl) ?_; dsimp only)); refine Kd.R_lit k39 _ 39 ?hg (N := 160) ?hd (xs := ([(⟨t229, t230, t231⟩ : S39), (⟨t232, t233, t234⟩ : S39), (⟨t235, t236, t237⟩ : S39)] : List (S39))) (inner := [.int .i64 t229, .int .i64 t230, .string t231, .int .i64 t232, .int .i64 t233, .string t234, .int .i64 t235, .int .i64 t236, .string t237]) (ok := fun _ => True) (okp := fun _ => True) ?hr ?hp (fun _ hk => hk) trivial (Below.refl _ _) (Nat.le_refl _) (by simp) ?_; (case hd => rfl); (case hg => rfl); (case hr => first | (go_simp; done) | (go_simp; rfl)); (case hp => exact (Reps.c3 (show Kd.M k39 _ _ _ (⟨t229, t230, t231⟩ : S39) [.int .i64 t229, .int .i64 t230, .string t231] from (k39_mkM _ _ _ (⟨t229, t230, t231⟩ : S39) )) (Reps.c3 (show Kd.M k39 _ _ _ (⟨t232, t233, t234⟩ : S39) [.int .i64 t232, .int .i64 t233, .string t234] from (k39_mkM _ _ _ (⟨t232, t233, t234⟩ : S39) )) (Reps.c3 (show Kd.M k39 _ _ _ (⟨t235, t236, t237⟩ : S39) [.int .i64 t235, .int .i64 t236, .string t237] from (k39_mkM _ _ _ (⟨t235, t236, t237⟩ : S39) )) (Reps.none _ _))))); intro v239 w165 ho166 hb hg_ hnew_; clear hg_ hnew_; (first | rw [← Ny238.out] at ho166 | (simp only [Int.reduceToNat] at ho166; rw [← Ny238.out] at ho166)); have n0_ := Aside0.mk (Kd.N_elder' (by (with_reducible repeat (first | apply Kd.N_alloc | apply Kd.N_drewN | apply Kd.N_drew)); exact HO_8.out) (Kd.R_base ho166) hb); have n1_ := Aside0.mk (Kd.R_lower ho166 (below_size (by repeat (first | (with_reducible first | exact HB.out | apply below_alloc | apply pw_below_drewN | apply below_drew1) | exact HB.out)))); have n2_ := Aside0.mk (below_step (by repeat (first | (with_reducible first | exact HB.out | apply below_alloc | apply pw_below_drewN | apply below_drew1) | exact HB.out)) hb); clear HO_8; clear HB; have HO_8 := n0_; have HO240 := n1_; have HB := n2_; clear n0_ n1_ n2_; clear hb ho166; obtain ⟨Ao167, co167, eo167⟩ := Kd.R_slice HO240.out; subst eo167) | ((with_reducible refine gate_callee (f := 18) rfl ?_); refine goesL_ (some 161) rfl rfl Try.func18 (by kernel_rfl) rfl #[.slice Ao167 y238.length co167] rfl (by (try simp only [List.map_toArray, List.map_cons, List.map_nil]); first | done | rfl | (simp only [List.length_drop, List.length_take]; rfl)) ?_; (with_reducible refine (known_Sort.calls _ _ y238 t241 _ ?side1 ?side2 A159.out).mono ?_); (case side1 => repeat (first | exact (Kd.R_reads' HO240.out).2.2 | (with_reducible refine Kd.C_alloc ?_ _) | (with_reducible refine Kd.C_drewN ?_ _) | (with_reducible refine Kd.C_drew ?_))); (case side2 => exact (Kd.R_reads' HO240.out).2.1); rintro e w168 ⟨v242, rfl, ho0, hb⟩; refine ⟨_, rfl, ?_⟩; have n0_ := Aside0.mk (Kd.N_elder' (by (with_reducible repeat (first | apply Kd.N_alloc | apply Kd.N_drewN | apply Kd.N_drew)); exact HO_8.out) (Kd.R_base ho0) hb); have n1_ := Aside0.mk (Kd.R_elder' (by (with_reducible repeat (first | apply Kd.R_alloc | apply Kd.R_drewN | apply Kd.R_drew)); exact HO240.out) (Kd.R_base ho0) hb); have n2_ := Aside0.mk (Kd.R_lower (Kd.R_new' ho0 (Kd.R_lt (by (with_reducible repeat (first | apply Kd.R_alloc | apply Kd.R_drewN | apply Kd.R_drew)); exact HO240.out))) (below_size (by repeat (first | (with_reducible first | exact HB.out | apply below_alloc | apply pw_below_drewN | apply below_drew1) | exact HB.out)))); have n3_ := Aside0.mk (below_step (by repeat (first | (with_reducible first | exact HB.out | apply below_alloc | apply pw_below_drewN | apply below_drew1) | exact HB.out)) hb); clear HO_8; clear HO240; clear HB; have HO_8 := n0_; have HO240 := n1_; have HO243 := n2_; have HB := n3_; clear n0_ n1_ n2_ n3_; (try clear hb); (try clear hb2); (try clear hk); (try clear hi); (try clear ho0)))
  (try simp only [Act.put, List.setIfInBounds_toArray, List.set_cons_zero, List.set_cons_succ])
  go_cut [185] (fun v185 wc => ∃ (kq : Nat) (x185_159 : Bool), v185 = .bool x185_159 ∧ Aside0 (ek.j3 kq x185_159 = some true) ∧ Aside0 (kq ≤ k3) ∧ Aside0 (Below w.heap.size w wc))
  case first =>
    have H := HC160.out
    clear HC160
    by_cases c169 : (t241.length : Int) = 3
    rotate_left
    · rw [if_neg c169] at H
      exfalso; first | exact ek.j0_no _ H | exact ek.j3_no _ H | exact ek.j4_no _ H | cases H
    rw [if_pos c169] at H
    have c169b0 : ((t241.length : Int) == 3) = true := beq_iff_eq.mpr c169
    have c169b1 : ((t241.length : Int) != 3) = false := bne_eq_false_iff_eq.mpr c169
    clear c169
    (first | rw [c169b0] | (simp only [i64_w, i32_w]; rw [c169b0]) | skip)
    by_cases c170 : 0 < (t241.length : Int)
    rotate_left
    · rw [if_neg c170] at H
      exact absurd H (by simp)
    rw [if_pos c170] at H
    have c170b0 : decide (0 < (t241.length : Int)) = true := decide_eq_true c170
    have c170b1 : decide (0 < t241.length) = true := decide_eq_true (by omega)
    clear c170
    replace H := Option.bind_eq_some_iff.mp H
    obtain ⟨⟨t245, t246, t247⟩, A1710, H⟩ := H
    (try dsimp only at H)
    have A171 := Aside0.mk A1710
    clear A1710
    by_cases c172 : (!(((rd_T39 t241 0).f0) == t245) || (!(((rd_T39 t241 0).f1) == t246) || (!((((rd_T39 t241 0).f2).toList) == t247.toList)))) = true
    · rw [if_pos c172] at H
      exfalso; first | exact ek.j0_no _ H | exact ek.j3_no _ H | exact ek.j4_no _ H | cases H
    rw [if_neg c172] at H
    have c172b0 : (!(((rd_T39 t241 0).f0) == t245) || (!(((rd_T39 t241 0).f1) == t246) || (!((((rd_T39 t241 0).f2).toList) == t247.toList)))) = false := by simpa using c172
    clear c172
    by_cases c176 : 1 < (t241.length : Int)
    rotate_left
    · rw [if_neg c176] at H
      exact absurd H (by simp)
    rw [if_pos c176] at H
    have c176b0 : decide (1 < (t241.length : Int)) = true := decide_eq_true c176
    have c176b1 : decide (1 < t241.length) = true := decide_eq_true (by omega)
    clear c176
    replace H := Option.bind_eq_some_iff.mp H
    obtain ⟨⟨t249, t250, t251⟩, A1770, H⟩ := H
    (try dsimp only at H)
    have A177 := Aside0.mk A1770
    clear A1770
    by_cases c178 : (!(((rd_T39 t241 1).f0) == t249) || (!(((rd_T39 t241 1).f1) == t250) || (!((((rd_T39 t241 1).f2).toList) == t251.toList)))) = true
    · rw [if_pos c178] at H
      exfalso; first | exact ek.j0_no _ H | exact ek.j3_no _ H | exact ek.j4_no _ H | cases H
    rw [if_neg c178] at H
    have c178b0 : (!(((rd_T39 t241 1).f0) == t249) || (!(((rd_T39 t241 1).f1) == t250) || (!((((rd_T39 t241 1).f2).toList) == t251.toList)))) = false := by simpa using c178
    clear c178
    by_cases c183 : 2 < (t241.length : Int)
    rotate_left
    · rw [if_neg c183] at H
      exact absurd H (by simp)
    rw [if_pos c183] at H
    have c183b0 : decide (2 < (t241.length : Int)) = true := decide_eq_true c183
    have c183b1 : decide (2 < t241.length) = true := decide_eq_true (by omega)
    clear c183
    replace H := Option.bind_eq_some_iff.mp H
    obtain ⟨⟨t253, t254, t255⟩, A1840, H⟩ := H
    (try dsimp only at H)
    have A184 := Aside0.mk A1840
    clear A1840
    have H' := Aside0.mk H
    clear H
    try go_wp2
    have n0_ := Aside0.mk (Kd.N_drew HO_8.out)
    have n1_ := Aside0.mk (Kd.R_drew HO240.out)
    have n2_ := Aside0.mk (Kd.R_drew HO243.out)
    have n3_ := Aside0.mk (below_drew1 HB.out)
    clear HO_8
    clear HO240
    clear HO243
    clear HB
    have HO_8 := n0_
    have HO240 := n1_
    have HO243 := n2_
    have HB := n3_
    clear n0_ n1_ n2_ n3_
    obtain ⟨Ao186, co186, eo186⟩ := Kd.R_slice HO243.out
    (first | subst eo186 | (injection eo186 with f1_ f2_ f3_; have f4_ := f1_.symm; have f5_ := f3_.symm; clear f1_ f2_ f3_; subst f4_; subst f5_))
    have p244 : 0 ≤ (0 : Int) := (by omega)
    have q244 : 0 < (t241.length : Int) := of_decide_eq_true (by first | (with_reducible assumption) | assumption)
    obtain ⟨ad244, e244, hx244_0, hx244_1, hx244_2⟩ := at_T39 (Kd.R_reads' HO243.out).2.2 0 p244 q244
    cases e244
    have qi244 : (0 < t241.length) = True := eq_true (by omega)
    (try rw [show ((0 : Int)).toNat = 0 from rfl] at hx244_0)
    (try rw [show 0 * 3 = 0 from rfl] at hx244_0)
    (try rw [Addr.add_zero'] at hx244_0)
    (try rw [show ((0 : Int)).toNat = 0 from rfl] at hx244_1)
    (try rw [show 0 * 3 = 0 from rfl] at hx244_1)
    (try rw [Addr.add_zero'] at hx244_1)
    (try rw [show ((0 : Int)).toNat = 0 from rfl] at hx244_2)
    (try rw [show 0 * 3 = 0 from rfl] at hx244_2)
    (try rw [Addr.add_zero'] at hx244_2)
    replace p244 := eq_true p244
    replace q244 := eq_true q244
    have p248 : 0 ≤ (1 : Int) := (by omega)
    have q248 : 1 < (t241.length : Int) := of_decide_eq_true (by first | (with_reducible assumption) | assumption)
    obtain ⟨ad248, e248, hx248_0, hx248_1, hx248_2⟩ := at_T39 (Kd.R_reads' HO243.out).2.2 1 p248 q248
    obtain rfl : ad244 = ad248 := (by injection e248)
    (try simp only [show (1 : Int).toNat = 1 from rfl, Nat.reduceMul, Nat.reduceEqDiff, Go.Addr.add, ↓reduceIte] at hx248_0)
    (try simp only [show (1 : Int).toNat = 1 from rfl, Nat.reduceMul, Nat.reduceEqDiff, Go.Addr.add, ↓reduceIte] at hx248_1)
    (try simp only [show (1 : Int).toNat = 1 from rfl, Nat.reduceMul, Nat.reduceEqDiff, Go.Addr.add, ↓reduceIte] at hx248_2)
    have qi248 : (1 < t241.length) = True := eq_true (by omega)
    (try rw [show ((1 : Int)).toNat = 1 from rfl] at hx248_0)
    (try rw [show 1 * 3 = 3 from rfl] at hx248_0)
    (try rw [show ((1 : Int)).toNat = 1 from rfl] at hx248_1)
    (try rw [show 1 * 3 = 3 from rfl] at hx248_1)
    (try rw [show ((1 : Int)).toNat = 1 from rfl] at hx248_2)
    (try rw [show 1 * 3 = 3 from rfl] at hx248_2)
    replace p248 := eq_true p248
    replace q248 := eq_true q248
    have p252 : 0 ≤ (2 : Int) := (by omega)
    have q252 : 2 < (t241.length : Int) := of_decide_eq_true (by first | (with_reducible assumption) | assumption)
    obtain ⟨ad252, e252, hx252_0, hx252_1, hx252_2⟩ := at_T39 (Kd.R_reads' HO243.out).2.2 2 p252 q252
    obtain rfl : ad244 = ad252 := (by injection e252)
    (try simp only [show (2 : Int).toNat = 2 from rfl, Nat.reduceMul, Nat.reduceEqDiff, Go.Addr.add, ↓reduceIte] at hx252_0)
    (try simp only [show (2 : Int).toNat = 2 from rfl, Nat.reduceMul, Nat.reduceEqDiff, Go.Addr.add, ↓reduceIte] at hx252_1)
    (try simp only [show (2 : Int).toNat = 2 from rfl, Nat.reduceMul, Nat.reduceEqDiff, Go.Addr.add, ↓reduceIte] at hx252_2)
    have qi252 : (2 < t241.length) = True := eq_true (by omega)
    (try rw [show ((2 : Int)).toNat = 2 from rfl] at hx252_0)
    (try rw [show 2 * 3 = 6 from rfl] at hx252_0)
    (try rw [show ((2 : Int)).toNat = 2 from rfl] at hx252_1)
    (try rw [show 2 * 3 = 6 from rfl] at hx252_1)
    (try rw [show ((2 : Int)).toNat = 2 from rfl] at hx252_2)
    (try rw [show 2 * 3 = 6 from rfl] at hx252_2)
    replace p252 := eq_true p252
    replace q252 := eq_true q252
    refine start_ (n := 24) (S := fun w' => w'.cell? ad244 = some (.int .i64 ((rd_T39 t241 0).f0)) ∧ w'.cell? ⟨ad244.block, ad244.off + 1, none⟩ = some (.int .i64 ((rd_T39 t241 0).f1)) ∧ w'.cell? ⟨ad244.block, ad244.off + 2, none⟩ = some (.string ((rd_T39 t241 0).f2)) ∧ w'.cell? ⟨ad244.block, ad244.off + 3, none⟩ = some (.int .i64 ((rd_T39 t241 1).f0)) ∧ w'.cell? ⟨ad244.block, ad244.off + 3 + 1, none⟩ = some (.int .i64 ((rd_T39 t241 1).f1)) ∧ w'.cell? ⟨ad244.block, ad244.off + 3 + 2, none⟩ = some (.string ((rd_T39 t241 1).f2)) ∧ w'.cell? ⟨ad244.block, ad244.off + 6, none⟩ = some (.int .i64 ((rd_T39 t241 2).f0)) ∧ w'.cell? ⟨ad244.block, ad244.off + 6 + 1, none⟩ = some (.int .i64 ((rd_T39 t241 2).f1)) ∧ w'.cell? ⟨ad244.block, ad244.off + 6 + 2, none⟩ = some (.string ((rd_T39 t241 2).f2))) (ds := []) #[false, false, false, false, false, false, false, false, false, false, false, false, false, false, false, false, false, false, false, false, false, false, false, false] (by kernel_rfl) rfl rfl ⟨hx244_0, hx244_1, hx244_2, hx248_0, hx248_1, hx248_2, hx252_0, hx252_1, hx252_2⟩ (fun hHeld => ?_); refine with_tabW ek.tab21 ek.bits21 (fun HT_ HW_ => ?_)
    generalize w168.drew = w185 at HO_8 HO240 HO243 HB hx244_0 hx244_1 hx244_2 hx248_0 hx248_1 hx248_2 hx252_0 hx252_1 hx252_2 hHeld ⊢
    refine pure_ (i := 0) (N := some 162) (v := ?_) (a' := ?_) #[true, false, false, false, false, false, false, false, false, false, false, false, false, false, false, false, false, false, false, false, false, false, false, false] rfl rfl (any_of HT_.out (by kernel_rfl)) (fun _ _ _ h => h) (Or.inl ⟨by rfl, ?_⟩) ?_ ?_
    rotate_left
    · intro w'
      go_simp
      with_reducible rfl
    rotate_left
    · simp only [Act.put, List.setIfInBounds_toArray, List.set_cons_zero, List.set_cons_succ, i64_w, i32_w]
      rfl
    refine pure_ (i := 1) (N := some 163) (v := ?_) (a' := ?_) #[true, true, false, false, false, false, false, false, false, false, false, false, false, false, false, false, false, false, false, false, false, false, false, false] rfl rfl (any_of HT_.out (by kernel_rfl)) (fun _ _ _ h => h) (Or.inl ⟨by rfl, ?_⟩) ?_ ?_
    rotate_left
    · intro w'
      go_simp
      with_reducible rfl
    rotate_left
    · simp only [Act.put, List.setIfInBounds_toArray, List.set_cons_zero, List.set_cons_succ, i64_w, i32_w]
      rfl
    refine pure_ (i := 2) (N := some 164) (v := ?_) (a' := ?_) #[true, true, true, false, false, false, false, false, false, false, false, false, false, false, false, false, false, false, false, false, false, false, false, false] rfl rfl (any_of HT_.out (by kernel_rfl)) (fun _ _ _ h => h) (Or.inl ⟨by rfl, ?_⟩) ?_ ?_
    rotate_left
    · intro w'
      go_simp
      with_reducible rfl
    rotate_left
    · simp only [Act.put, List.setIfInBounds_toArray, List.set_cons_zero, List.set_cons_succ, i64_w, i32_w]
      rfl
    refine pure_ (i := 3) (N := some 165) (v := ?_) (a' := ?_) #[true, true, true, true, false, false, false, false, false, false, false, false, false, false, false, false, false, false, false, false, false, false, false, false] rfl rfl (any_of HT_.out (by kernel_rfl)) (fun _ _ _ h => h) (Or.inl ⟨by rfl, ?_⟩) ?_ ?_
    rotate_left
    · intro w'
      go_simp
      with_reducible rfl
    rotate_left
    · simp only [Act.put, List.setIfInBounds_toArray, List.set_cons_zero, List.set_cons_succ, i64_w, i32_w]
      rfl
    refine pure_ (i := 4) (N := some 166) (v := ?_) (a' := ?_) #[true, true, true, true, true, false, false, false, false, false, false, false, false, false, false, false, false, false, false, false, false, false, false, false] rfl rfl (any_of HT_.out (by kernel_rfl)) (fun _ _ _ h => h) (Or.inl ⟨by rfl, ?_⟩) ?_ ?_
    rotate_left
    · intro w'
      go_simp
      with_reducible rfl
    rotate_left
    · simp only [Act.put, List.setIfInBounds_toArray, List.set_cons_zero, List.set_cons_succ, i64_w, i32_w]
      rfl
    refine pure_ (i := 5) (N := some 167) (v := ?_) (a' := ?_) #[true, true, true, true, true, true, false, false, false, false, false, false, false, false, false, false, false, false, false, false, false, false, false, false] rfl rfl (any_of HT_.out (by kernel_rfl)) (fun _ _ _ h => h) (Or.inl ⟨by rfl, ?_⟩) ?_ ?_
    rotate_left
    · intro w'
      go_simp
      with_reducible rfl
    rotate_left
    · simp only [Act.put, List.setIfInBounds_toArray, List.set_cons_zero, List.set_cons_succ, i64_w, i32_w]
      rfl
    refine take_ (i := 6) (N := some 168) (v := ?_) (a' := ?_) #[true, true, true, true, true, true, true, false, false, false, false, false, false, false, false, false, false, false, false, false, false, false, false, false] rfl rfl (take_ofW HT_.out HW_.out (by kernel_rfl)) (fun _ _ _ h => h) (Or.inl ⟨by rfl, ?_⟩) hHeld ?_ ?_
    rotate_left
    · rintro w' ⟨s0, s1, s2, s3, s4, s5, s6, s7, s8⟩
      go_simp
      with_reducible rfl
    rotate_left
    · simp only [Act.put, List.setIfInBounds_toArray, List.set_cons_zero, List.set_cons_succ, i64_w, i32_w]
      rfl
    refine one_ (i := 7) (N := some 169) #[true, true, true, true, true, true, true, true, false, false, false, false, false, false, false, false, false, false, false, false, false, false, false, false] rfl rfl (one_of HT_.out (by kernel_rfl)) (by decide) (fun K hK => ?_)
    refine goes_ Try.func13 (by kernel_rfl) rfl #[.int .i64 1, .int .i64 2, .string (⟨#[122]⟩ : ByteArray)] (by rfl) rfl rfl (by (try simp only [List.map_toArray, List.map_cons, List.map_nil]); first | done | rfl | (simp only [List.length_drop, List.length_take]; rfl)) ?_
    with_reducible refine (emendlaw07_of.calls 1 2 (⟨#[122]⟩ : ByteArray) t245 t246 t247 _ A171.out).mono ?_
    rintro e w187 ⟨rfl, hb⟩
    have HS0_ := (hb.cell (World.block_lt_of_cell? _ _ (hHeld.1))).trans (hHeld.1)
    have HS1_ := (hb.cell (World.block_lt_of_cell? _ _ (hHeld.2.1))).trans (hHeld.2.1)
    have HS2_ := (hb.cell (World.block_lt_of_cell? _ _ (hHeld.2.2.1))).trans (hHeld.2.2.1)
    have HS3_ := (hb.cell (World.block_lt_of_cell? _ _ (hHeld.2.2.2.1))).trans (hHeld.2.2.2.1)
    have HS4_ := (hb.cell (World.block_lt_of_cell? _ _ (hHeld.2.2.2.2.1))).trans (hHeld.2.2.2.2.1)
    have HS5_ := (hb.cell (World.block_lt_of_cell? _ _ (hHeld.2.2.2.2.2.1))).trans (hHeld.2.2.2.2.2.1)
    have HS6_ := (hb.cell (World.block_lt_of_cell? _ _ (hHeld.2.2.2.2.2.2.1))).trans (hHeld.2.2.2.2.2.2.1)
    have HS7_ := (hb.cell (World.block_lt_of_cell? _ _ (hHeld.2.2.2.2.2.2.2.1))).trans (hHeld.2.2.2.2.2.2.2.1)
    have HS8_ := (hb.cell (World.block_lt_of_cell? _ _ (hHeld.2.2.2.2.2.2.2.2))).trans (hHeld.2.2.2.2.2.2.2.2)
    refine ⟨_, rfl, ?_⟩
    have n0_ := Aside0.mk (Kd.N_below (by (with_reducible repeat (first | apply Kd.N_alloc | apply Kd.N_drewN | apply Kd.N_drew)); exact HO_8.out) hb)
    have n1_ := Aside0.mk (Kd.R_below (by (with_reducible repeat (first | apply Kd.R_alloc | apply Kd.R_drewN | apply Kd.R_drew)); exact HO240.out) hb)
    have n2_ := Aside0.mk (Kd.R_below (by (with_reducible repeat (first | apply Kd.R_alloc | apply Kd.R_drewN | apply Kd.R_drew)); exact HO243.out) hb)
    have n3_ := Aside0.mk (below_step (by repeat (first | (with_reducible first | exact HB.out | apply below_alloc | apply pw_below_drewN | apply below_drew1) | exact HB.out)) hb)
    clear HO_8
    clear HO240
    clear HO243
    clear HB
    have HO_8 := n0_
    have HO240 := n1_
    have HO243 := n2_
    have HB := n3_
    clear n0_ n1_ n2_ n3_
    (try clear hb)
    (try clear hb2)
    (try clear hk)
    (try clear hi)
    refine hK.out _ _ ⟨HS0_, HS1_, HS2_, HS3_, HS4_, HS5_, HS6_, HS7_, HS8_⟩ (fun hHeld => ?_)
    clear hK K
    refine norm_ (a' := ?_) ?_ ?_
    rotate_left
    · show Act.put _ (some 169) _ = _
      simp only [Act.put, List.setIfInBounds_toArray, List.set_cons_zero, List.set_cons_succ, i64_w, i32_w]
      rfl
    refine pure_ (i := 8) (N := some 170) (v := ?_) (a' := ?_) #[true, true, true, true, true, true, true, true, true, false, false, false, false, false, false, false, false, false, false, false, false, false, false, false] rfl rfl (any_of HT_.out (by kernel_rfl)) (fun _ _ _ h => h) (Or.inl ⟨by rfl, ?_⟩) ?_ ?_
    rotate_left
    · intro w'
      go_simp
      with_reducible rfl
    rotate_left
    · simp only [Act.put, List.setIfInBounds_toArray, List.set_cons_zero, List.set_cons_succ, i64_w, i32_w]
      rfl
    refine pure_ (i := 9) (N := some 171) (v := ?_) (a' := ?_) #[true, true, true, true, true, true, true, true, true, true, false, false, false, false, false, false, false, false, false, false, false, false, false, false] rfl rfl (any_of HT_.out (by kernel_rfl)) (fun _ _ _ h => h) (Or.inl ⟨by rfl, ?_⟩) ?_ ?_
    rotate_left
    · intro w'
      go_simp
      with_reducible rfl
    rotate_left
    · simp only [Act.put, List.setIfInBounds_toArray, List.set_cons_zero, List.set_cons_succ, i64_w, i32_w]
      rfl
    refine pure_ (i := 10) (N := some 172) (v := ?_) (a' := ?_) #[true, true, true, true, true, true, true, true, true, true, true, false, false, false, false, false, false, false, false, false, false, false, false, false] rfl rfl (any_of HT_.out (by kernel_rfl)) (fun _ _ _ h => h) (Or.inl ⟨by rfl, ?_⟩) ?_ ?_
    rotate_left
    · intro w'
      go_simp
      with_reducible rfl
    rotate_left
    · simp only [Act.put, List.setIfInBounds_toArray, List.set_cons_zero, List.set_cons_succ, i64_w, i32_w]
      rfl
    refine pure_ (i := 11) (N := some 173) (v := ?_) (a' := ?_) #[true, true, true, true, true, true, true, true, true, true, true, true, false, false, false, false, false, false, false, false, false, false, false, false] rfl rfl (any_of HT_.out (by kernel_rfl)) (fun _ _ _ h => h) (Or.inl ⟨by rfl, ?_⟩) ?_ ?_
    rotate_left
    · intro w'
      go_simp
      with_reducible rfl
    rotate_left
    · simp only [Act.put, List.setIfInBounds_toArray, List.set_cons_zero, List.set_cons_succ, i64_w, i32_w]
      rfl
    refine pure_ (i := 12) (N := some 174) (v := ?_) (a' := ?_) #[true, true, true, true, true, true, true, true, true, true, true, true, true, false, false, false, false, false, false, false, false, false, false, false] rfl rfl (any_of HT_.out (by kernel_rfl)) (fun _ _ _ h => h) (Or.inl ⟨by rfl, ?_⟩) ?_ ?_
    rotate_left
    · intro w'
      go_simp
      with_reducible rfl
    rotate_left
    · simp only [Act.put, List.setIfInBounds_toArray, List.set_cons_zero, List.set_cons_succ, i64_w, i32_w]
      rfl
    refine take_ (i := 13) (N := some 175) (v := ?_) (a' := ?_) #[true, true, true, true, true, true, true, true, true, true, true, true, true, true, false, false, false, false, false, false, false, false, false, false] rfl rfl (take_ofW HT_.out HW_.out (by kernel_rfl)) (fun _ _ _ h => h) (Or.inl ⟨by rfl, ?_⟩) hHeld ?_ ?_
    rotate_left
    · rintro w' ⟨s0, s1, s2, s3, s4, s5, s6, s7, s8⟩
      go_simp
      with_reducible rfl
    rotate_left
    · simp only [Act.put, List.setIfInBounds_toArray, List.set_cons_zero, List.set_cons_succ, i64_w, i32_w]
      rfl
    refine one_ (i := 14) (N := some 176) #[true, true, true, true, true, true, true, true, true, true, true, true, true, true, true, false, false, false, false, false, false, false, false, false] rfl rfl (one_of HT_.out (by kernel_rfl)) (by decide) (fun K hK => ?_)
    refine goes_ Try.func13 (by kernel_rfl) rfl #[.int .i64 3, .int .i64 3, .string (⟨#[121]⟩ : ByteArray)] (by rfl) rfl rfl (by (try simp only [List.map_toArray, List.map_cons, List.map_nil]); first | done | rfl | (simp only [List.length_drop, List.length_take]; rfl)) ?_
    with_reducible refine (emendlaw07_of.calls 3 3 (⟨#[121]⟩ : ByteArray) t249 t250 t251 _ A177.out).mono ?_
    rintro e w188 ⟨rfl, hb⟩
    have HS0_ := (hb.cell (World.block_lt_of_cell? _ _ (hHeld.1))).trans (hHeld.1)
    have HS1_ := (hb.cell (World.block_lt_of_cell? _ _ (hHeld.2.1))).trans (hHeld.2.1)
    have HS2_ := (hb.cell (World.block_lt_of_cell? _ _ (hHeld.2.2.1))).trans (hHeld.2.2.1)
    have HS3_ := (hb.cell (World.block_lt_of_cell? _ _ (hHeld.2.2.2.1))).trans (hHeld.2.2.2.1)
    have HS4_ := (hb.cell (World.block_lt_of_cell? _ _ (hHeld.2.2.2.2.1))).trans (hHeld.2.2.2.2.1)
    have HS5_ := (hb.cell (World.block_lt_of_cell? _ _ (hHeld.2.2.2.2.2.1))).trans (hHeld.2.2.2.2.2.1)
    have HS6_ := (hb.cell (World.block_lt_of_cell? _ _ (hHeld.2.2.2.2.2.2.1))).trans (hHeld.2.2.2.2.2.2.1)
    have HS7_ := (hb.cell (World.block_lt_of_cell? _ _ (hHeld.2.2.2.2.2.2.2.1))).trans (hHeld.2.2.2.2.2.2.2.1)
    have HS8_ := (hb.cell (World.block_lt_of_cell? _ _ (hHeld.2.2.2.2.2.2.2.2))).trans (hHeld.2.2.2.2.2.2.2.2)
    refine ⟨_, rfl, ?_⟩
    have n0_ := Aside0.mk (Kd.N_below (by (with_reducible repeat (first | apply Kd.N_alloc | apply Kd.N_drewN | apply Kd.N_drew)); exact HO_8.out) hb)
    have n1_ := Aside0.mk (Kd.R_below (by (with_reducible repeat (first | apply Kd.R_alloc | apply Kd.R_drewN | apply Kd.R_drew)); exact HO240.out) hb)
    have n2_ := Aside0.mk (Kd.R_below (by (with_reducible repeat (first | apply Kd.R_alloc | apply Kd.R_drewN | apply Kd.R_drew)); exact HO243.out) hb)
    have n3_ := Aside0.mk (below_step (by repeat (first | (with_reducible first | exact HB.out | apply below_alloc | apply pw_below_drewN | apply below_drew1) | exact HB.out)) hb)
    clear HO_8
    clear HO240
    clear HO243
    clear HB
    have HO_8 := n0_
    have HO240 := n1_
    have HO243 := n2_
    have HB := n3_
    clear n0_ n1_ n2_ n3_
    (try clear hb)
    (try clear hb2)
    (try clear hk)
    (try clear hi)
    refine hK.out _ _ ⟨HS0_, HS1_, HS2_, HS3_, HS4_, HS5_, HS6_, HS7_, HS8_⟩ (fun hHeld => ?_)
    clear hK K
    refine norm_ (a' := ?_) ?_ ?_
    rotate_left
    · show Act.put _ (some 176) _ = _
      simp only [Act.put, List.setIfInBounds_toArray, List.set_cons_zero, List.set_cons_succ, i64_w, i32_w]
      rfl
    refine pure_ (i := 15) (N := some 177) (v := ?_) (a' := ?_) #[true, true, true, true, true, true, true, true, true, true, true, true, true, true, true, true, false, false, false, false, false, false, false, false] rfl rfl (any_of HT_.out (by kernel_rfl)) (fun _ _ _ h => h) (Or.inl ⟨by rfl, ?_⟩) ?_ ?_
    rotate_left
    · intro w'
      go_simp
      with_reducible rfl
    rotate_left
    · simp only [Act.put, List.setIfInBounds_toArray, List.set_cons_zero, List.set_cons_succ, i64_w, i32_w]
      rfl
    refine pure_ (i := 16) (N := some 178) (v := ?_) (a' := ?_) #[true, true, true, true, true, true, true, true, true, true, true, true, true, true, true, true, true, false, false, false, false, false, false, false] rfl rfl (any_of HT_.out (by kernel_rfl)) (fun _ _ _ h => h) (Or.inl ⟨by rfl, ?_⟩) ?_ ?_
    rotate_left
    · intro w'
      go_simp
      with_reducible rfl
    rotate_left
    · simp only [Act.put, List.setIfInBounds_toArray, List.set_cons_zero, List.set_cons_succ, i64_w, i32_w]
      rfl
    refine pure_ (i := 17) (N := some 179) (v := ?_) (a' := ?_) #[true, true, true, true, true, true, true, true, true, true, true, true, true, true, true, true, true, true, false, false, false, false, false, false] rfl rfl (any_of HT_.out (by kernel_rfl)) (fun _ _ _ h => h) (Or.inl ⟨by rfl, ?_⟩) ?_ ?_
    rotate_left
    · intro w'
      go_simp
      with_reducible rfl
    rotate_left
    · simp only [Act.put, List.setIfInBounds_toArray, List.set_cons_zero, List.set_cons_succ, i64_w, i32_w]
      rfl
    refine pure_ (i := 18) (N := some 180) (v := ?_) (a' := ?_) #[true, true, true, true, true, true, true, true, true, true, true, true, true, true, true, true, true, true, true, false, false, false, false, false] rfl rfl (any_of HT_.out (by kernel_rfl)) (fun _ _ _ h => h) (Or.inl ⟨by rfl, ?_⟩) ?_ ?_
    rotate_left
    · intro w'
      go_simp
      with_reducible rfl
    rotate_left
    · simp only [Act.put, List.setIfInBounds_toArray, List.set_cons_zero, List.set_cons_succ, i64_w, i32_w]
      rfl
    refine pure_ (i := 19) (N := some 181) (v := ?_) (a' := ?_) #[true, true, true, true, true, true, true, true, true, true, true, true, true, true, true, true, true, true, true, true, false, false, false, false] rfl rfl (any_of HT_.out (by kernel_rfl)) (fun _ _ _ h => h) (Or.inl ⟨by rfl, ?_⟩) ?_ ?_
    rotate_left
    · intro w'
      go_simp
      with_reducible rfl
    rotate_left
    · simp only [Act.put, List.setIfInBounds_toArray, List.set_cons_zero, List.set_cons_succ, i64_w, i32_w]
      rfl
    refine take_ (i := 20) (N := some 182) (v := ?_) (a' := ?_) #[true, true, true, true, true, true, true, true, true, true, true, true, true, true, true, true, true, true, true, true, true, false, false, false] rfl rfl (take_ofW HT_.out HW_.out (by kernel_rfl)) (fun _ _ _ h => h) (Or.inl ⟨by rfl, ?_⟩) hHeld ?_ ?_
    rotate_left
    · rintro w' ⟨s0, s1, s2, s3, s4, s5, s6, s7, s8⟩
      go_simp
      with_reducible rfl
    rotate_left
    · simp only [Act.put, List.setIfInBounds_toArray, List.set_cons_zero, List.set_cons_succ, i64_w, i32_w]
      rfl
    refine one_ (i := 21) (N := some 183) #[true, true, true, true, true, true, true, true, true, true, true, true, true, true, true, true, true, true, true, true, true, true, false, false] rfl rfl (one_of HT_.out (by kernel_rfl)) (by decide) (fun K hK => ?_)
    refine goes_ Try.func13 (by kernel_rfl) rfl #[.int .i64 3, .int .i64 4, .string (⟨#[120]⟩ : ByteArray)] (by rfl) rfl rfl (by (try simp only [List.map_toArray, List.map_cons, List.map_nil]); first | done | rfl | (simp only [List.length_drop, List.length_take]; rfl)) ?_
    with_reducible refine (emendlaw07_of.calls 3 4 (⟨#[120]⟩ : ByteArray) t253 t254 t255 _ A184.out).mono ?_
    rintro e w189 ⟨rfl, hb⟩
    have HS0_ := (hb.cell (World.block_lt_of_cell? _ _ (hHeld.1))).trans (hHeld.1)
    have HS1_ := (hb.cell (World.block_lt_of_cell? _ _ (hHeld.2.1))).trans (hHeld.2.1)
    have HS2_ := (hb.cell (World.block_lt_of_cell? _ _ (hHeld.2.2.1))).trans (hHeld.2.2.1)
    have HS3_ := (hb.cell (World.block_lt_of_cell? _ _ (hHeld.2.2.2.1))).trans (hHeld.2.2.2.1)
    have HS4_ := (hb.cell (World.block_lt_of_cell? _ _ (hHeld.2.2.2.2.1))).trans (hHeld.2.2.2.2.1)
    have HS5_ := (hb.cell (World.block_lt_of_cell? _ _ (hHeld.2.2.2.2.2.1))).trans (hHeld.2.2.2.2.2.1)
    have HS6_ := (hb.cell (World.block_lt_of_cell? _ _ (hHeld.2.2.2.2.2.2.1))).trans (hHeld.2.2.2.2.2.2.1)
    have HS7_ := (hb.cell (World.block_lt_of_cell? _ _ (hHeld.2.2.2.2.2.2.2.1))).trans (hHeld.2.2.2.2.2.2.2.1)
    have HS8_ := (hb.cell (World.block_lt_of_cell? _ _ (hHeld.2.2.2.2.2.2.2.2))).trans (hHeld.2.2.2.2.2.2.2.2)
    refine ⟨_, rfl, ?_⟩
    have n0_ := Aside0.mk (Kd.N_below (by (with_reducible repeat (first | apply Kd.N_alloc | apply Kd.N_drewN | apply Kd.N_drew)); exact HO_8.out) hb)
    have n1_ := Aside0.mk (Kd.R_below (by (with_reducible repeat (first | apply Kd.R_alloc | apply Kd.R_drewN | apply Kd.R_drew)); exact HO240.out) hb)
    have n2_ := Aside0.mk (Kd.R_below (by (with_reducible repeat (first | apply Kd.R_alloc | apply Kd.R_drewN | apply Kd.R_drew)); exact HO243.out) hb)
    have n3_ := Aside0.mk (below_step (by repeat (first | (with_reducible first | exact HB.out | apply below_alloc | apply pw_below_drewN | apply below_drew1) | exact HB.out)) hb)
    clear HO_8
    clear HO240
    clear HO243
    clear HB
    have HO_8 := n0_
    have HO240 := n1_
    have HO243 := n2_
    have HB := n3_
    clear n0_ n1_ n2_ n3_
    (try clear hb)
    (try clear hb2)
    (try clear hk)
    (try clear hi)
    refine hK.out _ _ ⟨HS0_, HS1_, HS2_, HS3_, HS4_, HS5_, HS6_, HS7_, HS8_⟩ (fun hHeld => ?_)
    clear hK K
    refine norm_ (a' := ?_) ?_ ?_
    rotate_left
    · show Act.put _ (some 183) _ = _
      simp only [Act.put, List.setIfInBounds_toArray, List.set_cons_zero, List.set_cons_succ, i64_w, i32_w]
      rfl
    refine pure_ (i := 22) (N := some 184) (v := ?_) (a' := ?_) #[true, true, true, true, true, true, true, true, true, true, true, true, true, true, true, true, true, true, true, true, true, true, true, false] rfl rfl (any_of HT_.out (by kernel_rfl)) (fun _ _ _ h => h) (Or.inl ⟨by rfl, ?_⟩) ?_ ?_
    rotate_left
    · intro w'
      go_simp
      with_reducible rfl
    rotate_left
    · simp only [Act.put, List.setIfInBounds_toArray, List.set_cons_zero, List.set_cons_succ, i64_w, i32_w]
      rfl
    refine pure_ (i := 23) (N := some 185) (v := ?_) (a' := ?_) #[true, true, true, true, true, true, true, true, true, true, true, true, true, true, true, true, true, true, true, true, true, true, true, true] rfl rfl (any_of HT_.out (by kernel_rfl)) (fun _ _ _ h => h) (Or.inl ⟨by rfl, ?_⟩) ?_ ?_
    rotate_left
    · intro w'
      go_simp
      with_reducible rfl
    rotate_left
    · simp only [Act.put, List.setIfInBounds_toArray, List.set_cons_zero, List.set_cons_succ, i64_w, i32_w]
      rfl
    refine done_ (done_of HT_.out (by kernel_rfl)) ?_
    try go_wp2
    go_meet
    case rel => exact ⟨_, ((!(((rd_T39 t241 2).f0) == t253) || (!(((rd_T39 t241 2).f1) == t254) || (!((((rd_T39 t241 2).f2).toList) == t255.toList))))), (by first | rfl | (simp; done) | (simp [*]; done)), H', ⟨by have := HJ2.out; have := HK2.out; have := HK3.out; first | omega | exact Nat.le_refl _⟩, ⟨by repeat (first | (with_reducible first | exact HB.out | apply below_alloc | apply pw_below_drewN | apply below_drew1) | exact HB.out)⟩⟩
  case rest =>
    clear HC160
    try clear c1
    try clear p2
    try clear q2
    try clear hx2
    try clear qi2
    try clear c13
    try clear c16
    try clear c17
    try clear c18
    try clear p24
    try clear q24
    try clear hx24
    try clear qi24
    try clear p25
    try clear q25
    try clear hx25
    try clear qi25
    try clear c169
    try clear c169b0
    try clear c169b1
    try clear c170
    try clear c176
    try clear c178
    try clear c178b0
    try clear c183
    try clear c183b0
    try clear c183b1
    try clear hx244_0
    try clear hx244_1
    try clear hx244_2
    try clear hx248_0
    try clear hx248_1
    try clear hx248_2
    try clear hx252_0
    try clear hx252_1
    try clear hx252_2
    try clear p244
    try clear p248
    try clear p252
    try clear q244
    try clear q248
    try clear q252
    obtain ⟨kq, x185_159, rfl, HA, HJ159, HB⟩ := hcut
    cases kq with
    | zero => exact absurd HA.out (by simp [ek.j3])
    | succ kj159 =>
      have H := HA.out
      clear HA
      simp only [ek.j3] at H
      by_cases c192 : x185_159 = true
      · subst c192
        exfalso; first | exact ek.j0_no _ H | exact ek.j3_no _ H | exact ek.j4_no _ H | cases H
      replace c192 := Bool.eq_false_iff.mpr c192
      subst c192
      repeat (first | (exact h w _ _ _ _ _ _ _ _ _ _ _ _ _ _ _ _ _ _ _ _ _ _ _ _ _ _ _ _ _ _ _ _ _ _ _ _ _ _ _ _ _ _ _ _ _ _ _ _ _ _ _ _ _ _ _ _ _ _ _ _ _ _ _ _ _ _ _ _ _ _ _ _ _ _ _ _ _ _ _ _ _ _ _ _ _ _ _ _ _ _ _ _ _ _ _ _ _ _ _ _ _ _ _ _ _ _ _ _ _ _ _ _ _ _ _ _ _ _ _ _ _ _ _ _ _ _ _ _ _ _ _ _ _ _ _ _ _ _ _ _ _ _ _ _ _ _ _ _ _ _ _ _ _ _ _ _ _ _ _ _ _ _ _ _ _ _ _ _ _ _ _ _ _ _ _ _ _ _ _ _ _ _ _ _ _ _ _ _ _ _ _ _ _ _ _ _ _ _ _ _ _ _ _ _ _ _ _ _ _ _ _ _ _ _ _ _ _ _ _ _ _ _ _ _ _ _ _ _ _ _ _ _ _ _ _ _ _ _ _ _ _ _ _ _ _ _ _ _ _ _ _ _ _ _ _ _ _ _ _ _ _ _ _ _ _ _ _ _ _ _ _ _ _ _ _ _ _ _ _ _ _ _ _ _ _ _ _ _ _ _ _ _ _ _ _ _ _ _ _ _ _ _ _ _ _ _ _ _ _ _ _ _ (by repeat (first | (with_reducible first | exact HB.out | apply below_alloc | apply pw_below_drewN | apply below_drew1) | exact HB.out))) | go_values | go_skip | go_guarded | go_step)
end Go.Proofs.Ytgdggbamhlinlaa.PEditsFlat
