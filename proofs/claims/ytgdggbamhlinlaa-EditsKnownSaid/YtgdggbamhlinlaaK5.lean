/- YtgdggbamhlinlaaK5: EditsKnown, Flat: lines that the print wrote, cut by this session to the ways on which it answers true (wip/known). -/
import Derived.Test.YtgdggbamhlinlaaK0
namespace Go.Proofs.Ytgdggbamhlinlaa.PEditsFlat
open Go.RowKit Go.Proofs.YtgdggbamhlinlaaW.PrintWords Go.Proofs.YtgdggbamhlinlaaW.PrintLast Go.Proofs.YtgdggbamhlinlaaW.PrintMore
attribute [local go_sem] max2_int min2_int max_two min_two max_three min_three max_four min_four
set_option linter.unusedVariables false
set_option linter.unusedSimpArgs false
attribute [local go_sem high] eqA39 eqA56
set_option maxHeartbeats 8000000 in
set_option maxRecDepth 100000 in
theorem ek.piece10 (h : ek.From 15) : ek.From 10 := by
  intro w u0 u1 u2 u3 u4 u5 u6 u7 u8 u9 u10 u11 u12 u13 u14 u15 u16 u17 u18 u19 u20 u21 u22 u23 u24 u25 u26 u27 u28 u29 u30 u31 u32 u33 u34 u35 u36 u37 u38 u39 u40 u41 u42 u43 u44 u45 u46 u47 u48 u49 u50 u51 u52 u53 u54 u55 u56 u57 u58 u59 u60 u61 u62 u63 u64 u65 u66 u67 u68 u69 u70 u71 u72 u73 u74 u75 u76 u77 u78 u79 u80 u81 u82 u83 u84 u85 u86 u87 u88 u89 u90 u91 u92 u93 u94 u95 u96 u97 u98 u99 u100 u101 u102 u103 u104 u105 u106 u107 u108 u109 u110 u111 u112 u113 u114 u115 u116 u117 u118 u119 u120 u121 u122 u123 u124 u125 u126 u127 u128 u129 u130 u131 u132 u133 u134 u135 u136 u137 u138 u139 u140 u141 u142 u143 u144 u145 u146 u147 u148 u149 u150 u151 u152 u153 u154 u155 u156 u157 u158 u159 u160 u161 u162 u163 u164 u165 u166 u167 u168 u169 u170 u171 u172 u173 u174 u175 u176 u177 u178 u179 u180 u181 u182 u183 u184 u185 u186 u187 u188 u189 u190 u191 u192 u193 u194 u195 u196 u197 u198 u199 u200 u201 u202 u203 u204 u205 u206 u207 u208 u209 u210 u211 u212 u213 u214 u215 u216 u217 u218 u219 u220 u221 u222 u223 u224 u225 u226 u227 u228 u229 u230 u231 u232 u233 u234 u235 u236 u237 u238 u239 u240 u241 u242 u243 u244 u245 u246 u247 u248 u249 u250 u251 u252 u253 u254 u255 u256 u257 u258 u259 u260 u261 u262 u263 u264 u265 u266 u267 u268 u269 u270 u271 u272 u273 u274 u275 u276 u277 u278 u279 u280 u281 u282 u283 u284 u285 u286 u287 u288 u289 u290 u291 u292 u293 u294 u295 u296 u297 u298 u299 u300 u301 u302 u303 u304 u305 u306 u307 u308 u309 u310 w1 hb
  have HB := Aside0.mk hb
  clear hb
  have hu39 := Try.underlying39
  have hu42 := Try.underlying42
  have hu45 := Try.underlying45
  have hu56 := Try.underlying56
  have hu61 := Try.underlying61
  have HJ2 := Aside0.mk (Nat.le_refl 0)
  have HK2 := HJ2
  have HK3 := HJ2
  have HJ159 := HJ2
  obtain ⟨kj159, H⟩ : ∃ kj159, ((known_Flat.f kj159 (⟨#[97, 98, 99, 100, 101, 102]⟩ : ByteArray) (([(⟨0, 1, (([(⟨0, 0, (⟨#[40]⟩ : ByteArray), false⟩ : S42), (⟨2, 4, (⟨#[]⟩ : ByteArray), false⟩ : S42), (⟨0, 0, (⟨#[41]⟩ : ByteArray), false⟩ : S42), (⟨0, 0, (⟨#[110]⟩ : ByteArray), true⟩ : S42)] : List (S42)))⟩ : S45)] : List (S45)))).bind fun bt262 => ((known_Flat.f kj159 (⟨#[97, 98, 99, 100, 101, 102]⟩ : ByteArray) (([(⟨0, 0, (([(⟨2, 7, (⟨#[]⟩ : ByteArray), false⟩ : S42)] : List (S42)))⟩ : S45)] : List (S45)))).bind fun bt272 => ((known_Flat.f kj159 (⟨#[97, 98, 99, 100, 101, 102]⟩ : ByteArray) (([(⟨7, 7, ([] : List (S42))⟩ : S45)] : List (S45)))).bind fun bt279 => (if bt262.2 = 0 then (if (bt262.1.length : Int) = 1 then (if 0 < (bt262.1.length : Int) then ((emendlaw07_of.f 0 1 (⟨#[40, 99, 100, 41, 110]⟩ : ByteArray)).bind fun bt284 => (if (!(((rd_T39 bt262.1 0).f0) == bt284.1) || (!(((rd_T39 bt262.1 0).f1) == bt284.2.1) || (!((((rd_T39 bt262.1 0).f2).toList) == bt284.2.2.toList)))) = true then (ek.j4 kj159 true) else (if bt272.2 = 2 then (if bt279.2 = 2 then ((edits_Check.f kj159 (-1) ([] : List (S39))).bind fun t287 => (if t287 = 2 then ((edits_Check.f kj159 0 ([] : List (S39))).bind fun t288 => (ek.j4 kj159 (t288 != 0))) else (ek.j4 kj159 true))) else (ek.j4 kj159 true)) else (ek.j4 kj159 true)))) else (none)) else (ek.j4 kj159 true)) else (ek.j4 kj159 true))))) = some true := ⟨40, by kernel_rfl⟩
  conv => arg 2; whnf
  obtain ⟨y256, hy256⟩ : ∃ y_ : List (S42), y_ = (([(⟨0, 0, (⟨#[40]⟩ : ByteArray), false⟩ : S42), (⟨2, 4, (⟨#[]⟩ : ByteArray), false⟩ : S42), (⟨0, 0, (⟨#[41]⟩ : ByteArray), false⟩ : S42), (⟨0, 0, (⟨#[110]⟩ : ByteArray), true⟩ : S42)] : List (S42))) := ⟨_, rfl⟩
  replace H : ((known_Flat.f kj159 (⟨#[97, 98, 99, 100, 101, 102]⟩ : ByteArray) (([(⟨0, 1, y256⟩ : S45)] : List (S45)))).bind fun bt262 => ((known_Flat.f kj159 (⟨#[97, 98, 99, 100, 101, 102]⟩ : ByteArray) (([(⟨0, 0, (([(⟨2, 7, (⟨#[]⟩ : ByteArray), false⟩ : S42)] : List (S42)))⟩ : S45)] : List (S45)))).bind fun bt272 => ((known_Flat.f kj159 (⟨#[97, 98, 99, 100, 101, 102]⟩ : ByteArray) (([(⟨7, 7, ([] : List (S42))⟩ : S45)] : List (S45)))).bind fun bt279 => (if bt262.2 = 0 then (if (bt262.1.length : Int) = 1 then (if 0 < (bt262.1.length : Int) then ((emendlaw07_of.f 0 1 (⟨#[40, 99, 100, 41, 110]⟩ : ByteArray)).bind fun bt284 => (if (!(((rd_T39 bt262.1 0).f0) == bt284.1) || (!(((rd_T39 bt262.1 0).f1) == bt284.2.1) || (!((((rd_T39 bt262.1 0).f2).toList) == bt284.2.2.toList)))) = true then (ek.j4 kj159 true) else (if bt272.2 = 2 then (if bt279.2 = 2 then ((edits_Check.f kj159 (-1) ([] : List (S39))).bind fun t287 => (if t287 = 2 then ((edits_Check.f kj159 0 ([] : List (S39))).bind fun t288 => (ek.j4 kj159 (t288 != 0))) else (ek.j4 kj159 true))) else (ek.j4 kj159 true)) else (ek.j4 kj159 true)))) else (none)) else (ek.j4 kj159 true)) else (ek.j4 kj159 true))))) = some true := by first | (rw [hy256]; with_reducible exact H) | (have H2_ := (Option.bind_some _ _).symm.trans H; rw [hy256]; with_reducible exact H2_) | (have H2_ := (Option.bind_some _ _).symm.trans H; with_reducible exact H2_) | with_reducible exact H | (rw [hy256]; exact H) | exact H
  have Ny256 := Aside0.mk hy256
  clear hy256
  obtain ⟨y259, hy259⟩ : ∃ y_ : List (S45), y_ = (([(⟨0, 1, y256⟩ : S45)] : List (S45))) := ⟨_, rfl⟩
  replace H : ((known_Flat.f kj159 (⟨#[97, 98, 99, 100, 101, 102]⟩ : ByteArray) y259).bind fun bt262 => ((known_Flat.f kj159 (⟨#[97, 98, 99, 100, 101, 102]⟩ : ByteArray) (([(⟨0, 0, (([(⟨2, 7, (⟨#[]⟩ : ByteArray), false⟩ : S42)] : List (S42)))⟩ : S45)] : List (S45)))).bind fun bt272 => ((known_Flat.f kj159 (⟨#[97, 98, 99, 100, 101, 102]⟩ : ByteArray) (([(⟨7, 7, ([] : List (S42))⟩ : S45)] : List (S45)))).bind fun bt279 => (if bt262.2 = 0 then (if (bt262.1.length : Int) = 1 then (if 0 < (bt262.1.length : Int) then ((emendlaw07_of.f 0 1 (⟨#[40, 99, 100, 41, 110]⟩ : ByteArray)).bind fun bt284 => (if (!(((rd_T39 bt262.1 0).f0) == bt284.1) || (!(((rd_T39 bt262.1 0).f1) == bt284.2.1) || (!((((rd_T39 bt262.1 0).f2).toList) == bt284.2.2.toList)))) = true then (ek.j4 kj159 true) else (if bt272.2 = 2 then (if bt279.2 = 2 then ((edits_Check.f kj159 (-1) ([] : List (S39))).bind fun t287 => (if t287 = 2 then ((edits_Check.f kj159 0 ([] : List (S39))).bind fun t288 => (ek.j4 kj159 (t288 != 0))) else (ek.j4 kj159 true))) else (ek.j4 kj159 true)) else (ek.j4 kj159 true)))) else (none)) else (ek.j4 kj159 true)) else (ek.j4 kj159 true))))) = some true := by first | (rw [hy259]; with_reducible exact H) | (have H2_ := (Option.bind_some _ _).symm.trans H; rw [hy259]; with_reducible exact H2_) | (have H2_ := (Option.bind_some _ _).symm.trans H; with_reducible exact H2_) | with_reducible exact H | (rw [hy259]; exact H) | exact H
  have Ny259 := Aside0.mk hy259
  clear hy259
  replace H := Option.bind_eq_some_iff.mp H
  obtain ⟨⟨t262, t263⟩, A1930, H⟩ := H
  (try dsimp only at H)
  have A193 := Aside0.mk A1930
  clear A1930
  obtain ⟨y266, hy266⟩ : ∃ y_ : List (S42), y_ = (([(⟨2, 7, (⟨#[]⟩ : ByteArray), false⟩ : S42)] : List (S42))) := ⟨_, rfl⟩
  replace H : ((known_Flat.f kj159 (⟨#[97, 98, 99, 100, 101, 102]⟩ : ByteArray) (([(⟨0, 0, y266⟩ : S45)] : List (S45)))).bind fun bt272 => ((known_Flat.f kj159 (⟨#[97, 98, 99, 100, 101, 102]⟩ : ByteArray) (([(⟨7, 7, ([] : List (S42))⟩ : S45)] : List (S45)))).bind fun bt279 => (if t263 = 0 then (if (t262.length : Int) = 1 then (if 0 < (t262.length : Int) then ((emendlaw07_of.f 0 1 (⟨#[40, 99, 100, 41, 110]⟩ : ByteArray)).bind fun bt284 => (if (!(((rd_T39 t262 0).f0) == bt284.1) || (!(((rd_T39 t262 0).f1) == bt284.2.1) || (!((((rd_T39 t262 0).f2).toList) == bt284.2.2.toList)))) = true then (ek.j4 kj159 true) else (if bt272.2 = 2 then (if bt279.2 = 2 then ((edits_Check.f kj159 (-1) ([] : List (S39))).bind fun t287 => (if t287 = 2 then ((edits_Check.f kj159 0 ([] : List (S39))).bind fun t288 => (ek.j4 kj159 (t288 != 0))) else (ek.j4 kj159 true))) else (ek.j4 kj159 true)) else (ek.j4 kj159 true)))) else (none)) else (ek.j4 kj159 true)) else (ek.j4 kj159 true)))) = some true := by first | (rw [hy266]; with_reducible exact H) | (have H2_ := (Option.bind_some _ _).symm.trans H; rw [hy266]; with_reducible exact H2_) | (have H2_ := (Option.bind_some _ _).symm.trans H; with_reducible exact H2_) | with_reducible exact H | (rw [hy266]; exact H) | exact H
  have Ny266 := Aside0.mk hy266
  clear hy266
  obtain ⟨y269, hy269⟩ : ∃ y_ : List (S45), y_ = (([(⟨0, 0, y266⟩ : S45)] : List (S45))) := ⟨_, rfl⟩
  replace H : ((known_Flat.f kj159 (⟨#[97, 98, 99, 100, 101, 102]⟩ : ByteArray) y269).bind fun bt272 => ((known_Flat.f kj159 (⟨#[97, 98, 99, 100, 101, 102]⟩ : ByteArray) (([(⟨7, 7, ([] : List (S42))⟩ : S45)] : List (S45)))).bind fun bt279 => (if t263 = 0 then (if (t262.length : Int) = 1 then (if 0 < (t262.length : Int) then ((emendlaw07_of.f 0 1 (⟨#[40, 99, 100, 41, 110]⟩ : ByteArray)).bind fun bt284 => (if (!(((rd_T39 t262 0).f0) == bt284.1) || (!(((rd_T39 t262 0).f1) == bt284.2.1) || (!((((rd_T39 t262 0).f2).toList) == bt284.2.2.toList)))) = true then (ek.j4 kj159 true) else (if bt272.2 = 2 then (if bt279.2 = 2 then ((edits_Check.f kj159 (-1) ([] : List (S39))).bind fun t287 => (if t287 = 2 then ((edits_Check.f kj159 0 ([] : List (S39))).bind fun t288 => (ek.j4 kj159 (t288 != 0))) else (ek.j4 kj159 true))) else (ek.j4 kj159 true)) else (ek.j4 kj159 true)))) else (none)) else (ek.j4 kj159 true)) else (ek.j4 kj159 true)))) = some true := by first | (rw [hy269]; with_reducible exact H) | (have H2_ := (Option.bind_some _ _).symm.trans H; rw [hy269]; with_reducible exact H2_) | (have H2_ := (Option.bind_some _ _).symm.trans H; with_reducible exact H2_) | with_reducible exact H | (rw [hy269]; exact H) | exact H
  have Ny269 := Aside0.mk hy269
  clear hy269
  replace H := Option.bind_eq_some_iff.mp H
  obtain ⟨⟨t272, t273⟩, A1940, H⟩ := H
  (try dsimp only at H)
  have A194 := Aside0.mk A1940
  clear A1940
  obtain ⟨y276, hy276⟩ : ∃ y_ : List (S45), y_ = (([(⟨7, 7, ([] : List (S42))⟩ : S45)] : List (S45))) := ⟨_, rfl⟩
  replace H : ((known_Flat.f kj159 (⟨#[97, 98, 99, 100, 101, 102]⟩ : ByteArray) y276).bind fun bt279 => (if t263 = 0 then (if (t262.length : Int) = 1 then (if 0 < (t262.length : Int) then ((emendlaw07_of.f 0 1 (⟨#[40, 99, 100, 41, 110]⟩ : ByteArray)).bind fun bt284 => (if (!(((rd_T39 t262 0).f0) == bt284.1) || (!(((rd_T39 t262 0).f1) == bt284.2.1) || (!((((rd_T39 t262 0).f2).toList) == bt284.2.2.toList)))) = true then (ek.j4 kj159 true) else (if t273 = 2 then (if bt279.2 = 2 then ((edits_Check.f kj159 (-1) ([] : List (S39))).bind fun t287 => (if t287 = 2 then ((edits_Check.f kj159 0 ([] : List (S39))).bind fun t288 => (ek.j4 kj159 (t288 != 0))) else (ek.j4 kj159 true))) else (ek.j4 kj159 true)) else (ek.j4 kj159 true)))) else (none)) else (ek.j4 kj159 true)) else (ek.j4 kj159 true))) = some true := by first | (rw [hy276]; with_reducible exact H) | (have H2_ := (Option.bind_some _ _).symm.trans H; rw [hy276]; with_reducible exact H2_) | (have H2_ := (Option.bind_some _ _).symm.trans H; with_reducible exact H2_) | with_reducible exact H | (rw [hy276]; exact H) | exact H
  have Ny276 := Aside0.mk hy276
  clear hy276
  replace H := Option.bind_eq_some_iff.mp H
  obtain ⟨⟨t279, t280⟩, A1950, H⟩ := H
  (try dsimp only at H)
  have A195 := Aside0.mk A1950
  clear A1950
  have HC196 := Aside0.mk H
  clear H
  go_upto_region 27 with (first | ((with_reducible refine gate_dst (N := 190) rfl ?_); (try (refine gate_guard (by rfl) ?_; dsimp only)); refine Kd.R_lit k42 _ 42 ?hg (N := 190) ?hd (xs := ([(⟨0, 0, (⟨#[40]⟩ : ByteArray), false⟩ : S42), (⟨2, 4, (⟨#[]⟩ : ByteArray), false⟩ : S42), (⟨0, 0, (⟨#[41]⟩ : ByteArray), false⟩ : S42), (⟨0, 0, (⟨#[110]⟩ : ByteArray), true⟩ : S42)] : List (S42))) (inner := [.int .i64 0, .int .i64 0, .string (⟨#[40]⟩ : ByteArray), .bool false, .int .i64 2, .int .i64 4, .string (⟨#[]⟩ : ByteArray), .bool false, .int .i64 0, .int .i64 0, .string (⟨#[41]⟩ : ByteArray), .bool false, .int .i64 0, .int .i64 0, .string (⟨#[110]⟩ : ByteArray), .bool true]) (ok := fun _ => True) (okp := fun _ => True) ?hr ?hp (fun _ hk => hk) trivial (Below.refl _ _) (Nat.le_refl _) (by simp) ?_; (case hd => rfl); (case hg => rfl); (case hr => first | (go_simp; done) | (go_simp; rfl)); (case hp => exact (Reps.c4 (show Kd.M k42 _ _ _ (⟨0, 0, (⟨#[40]⟩ : ByteArray), false⟩ : S42) [.int .i64 0, .int .i64 0, .string (⟨#[40]⟩ : ByteArray), .bool false] from (k42_mkM _ _ _ (⟨0, 0, (⟨#[40]⟩ : ByteArray), false⟩ : S42) )) (Reps.c4 (show Kd.M k42 _ _ _ (⟨2, 4, (⟨#[]⟩ : ByteArray), false⟩ : S42) [.int .i64 2, .int .i64 4, .string (⟨#[]⟩ : ByteArray), .bool false] from (k42_mkM _ _ _ (⟨2, 4, (⟨#[]⟩ : ByteArray), false⟩ : S42) )) (Reps.c4 (show Kd.M k42 _ _ _ (⟨0, 0, (⟨#[41]⟩ : ByteArray), false⟩ : S42) [.int .i64 0, .int .i64 0, .string (⟨#[41]⟩ : ByteArray), .bool false] from (k42_mkM _ _ _ (⟨0, 0, (⟨#[41]⟩ : ByteArray), false⟩ : S42) )) (Reps.c4 (show Kd.M k42 _ _ _ (⟨0, 0, (⟨#[110]⟩ : ByteArray), true⟩ : S42) [.int .i64 0, .int .i64 0, .string (⟨#[110]⟩ : ByteArray), .bool true] from (k42_mkM _ _ _ (⟨0, 0, (⟨#[110]⟩ : ByteArray), true⟩ : S42) )) (Reps.none _ _)))))); intro v257 w197 ho198 hb hg_ hnew_; clear hg_ hnew_; (first | rw [← Ny256.out] at ho198 | (simp only [Int.reduceToNat] at ho198; rw [← Ny256.out] at ho198)); have n0_ := Aside0.mk (Kd.R_lower ho198 (below_size (by repeat (first | (with_reducible first | exact HB.out | apply below_alloc | apply pw_below_drewN | apply below_drew1) | exact HB.out)))); have n1_ := Aside0.mk (below_step (by repeat (first | (with_reducible first | exact HB.out | apply below_alloc | apply pw_below_drewN | apply below_drew1) | exact HB.out)) hb); clear HB; have HO258 := n0_; have HB := n1_; clear n0_ n1_; clear hb ho198; obtain ⟨Ao199, co199, eo199⟩ := Kd.R_slice HO258.out; subst eo199) | ((with_reducible refine gate_dst (N := 194) rfl ?_); (try (refine gate_guard (by rfl) ?_; dsimp only)); refine Kd.N_lit k45 _ 45 ?hg (N' := 194) ?hd (xs := ([(⟨0, 1, y256⟩ : S45)] : List (S45))) (inner := [.int .i64 0, .int .i64 1, .slice Ao199 y256.length co199]) (ok := (fun _ => True)) (okp := (fun _ => True)) ?hr ?hp (fun _ hk => hk) ((show ∀ k_, w197.heap.size ≤ k_ → (fun _ => True) k_ from fun k_ hk => trivial) _ (Nat.le_refl _)) (Below.refl _ _) (Nat.le_refl _) (by simp) ?_; (case hd => rfl); (case hg => rfl); (case hr => first | (go_simp; done) | (go_simp; rfl)); (case hp => exact (Reps.c3 (show Kd.FK k45 _ _ (⟨0, 1, y256⟩ : S45) [.int .i64 0, .int .i64 1, .slice Ao199 y256.length co199] from (k45_mkF _ _ (⟨0, 1, y256⟩ : S45) (Kd.R_reads' (Kd.R_mono (ok' := (fun _ => True)) (HO258.out) (fun k_ hk => trivial))).2.1 (Kd.R_F (Kd.R_mono (ok' := (fun _ => True)) (HO258.out) (fun k_ hk => trivial))))) (Reps.none _ _))); intro v260 w200 ho201 hb hg_ hnew_; clear hg_ hnew_; (first | rw [← Ny259.out] at ho201 | (simp only [Int.reduceToNat] at ho201; rw [← Ny259.out] at ho201)); have n0_ := Aside0.mk (Kd.N_lower ho201 (below_size (by repeat (first | (with_reducible first | exact HB.out | apply below_alloc | apply pw_below_drewN | apply below_drew1) | exact HB.out)))); have n1_ := Aside0.mk (below_step (by repeat (first | (with_reducible first | exact HB.out | apply below_alloc | apply pw_below_drewN | apply below_drew1) | exact HB.out)) hb); clear HB; clear HO258; have HO261 := n0_; have HB := n1_; clear n0_ n1_; clear hb ho201; obtain ⟨Ao202, co202, eo202⟩ := Kd.N_slice HO261.out; subst eo202) | ((with_reducible refine gate_callee (f := 7) rfl ?_); refine goesL_ (some 195) rfl rfl Try.func7 (by kernel_rfl) rfl #[.string (⟨#[97, 98, 99, 100, 101, 102]⟩ : ByteArray), .slice Ao202 y259.length co202] rfl (by (try simp only [List.map_toArray, List.map_cons, List.map_nil]); first | done | rfl | (simp only [List.length_drop, List.length_take]; rfl)) ?_; (with_reducible refine (known_Flat.calls kj159 (⟨#[97, 98, 99, 100, 101, 102]⟩ : ByteArray) _ _ y259 t262 t263 _ ?side1 ?side2 A193.out).mono ?_); (case side1 => repeat (first | exact (Kd.N_reads' HO261.out).2.2 | (with_reducible refine Kd.C_alloc ?_ _) | (with_reducible refine Kd.C_drewN ?_ _) | (with_reducible refine Kd.C_drew ?_))); (case side2 => exact (Kd.N_reads' HO261.out).2.1); rintro e w203 ⟨v264, rfl, ho0, hb⟩; refine ⟨_, rfl, ?_⟩; have n0_ := Aside0.mk (Kd.N_elder' (by (with_reducible repeat (first | apply Kd.N_alloc | apply Kd.N_drewN | apply Kd.N_drew)); exact HO261.out) (Kd.R_base ho0) hb); have n1_ := Aside0.mk (Kd.R_lower ho0 (below_size (by repeat (first | (with_reducible first | exact HB.out | apply below_alloc | apply pw_below_drewN | apply below_drew1) | exact HB.out)))); have n2_ := Aside0.mk (below_step (by repeat (first | (with_reducible first | exact HB.out | apply below_alloc | apply pw_below_drewN | apply below_drew1) | exact HB.out)) hb); clear HO261; clear HB; have HO261 := n0_; have HO265 := n1_; have HB := n2_; clear n0_ n1_ n2_; (try clear hb); (try clear hb2); (try clear hk); (try clear hi); (try clear ho0)) | ((with_reducible refine gate_dst (N := 200) rfl ?_); (try (refine gate_guard (by rfl) ?_; dsimp only)); refine Kd.R_lit k42 _ 42 ?hg (N := 200) ?hd (xs := ([(⟨2, 7, (⟨#[]⟩ : ByteArray), false⟩ : S42)] : List (S42))) (inner := [.int .i64 2, .int .i64 7, .string (⟨#[]⟩ : ByteArray), .bool false]) (ok := fun _ => True) (okp := fun _ => True) ?hr ?hp (fun _ hk => hk) trivial (Below.refl _ _) (Nat.le_refl _) (by simp) ?_; (case hd => rfl); (case hg => rfl); (case hr => first | (go_simp; done) | (go_simp; rfl)); (case hp => exact (Reps.c4 (show Kd.M k42 _ _ _ (⟨2, 7, (⟨#[]⟩ : ByteArray), false⟩ : S42) [.int .i64 2, .int .i64 7, .string (⟨#[]⟩ : ByteArray), .bool false] from (k42_mkM _ _ _ (⟨2, 7, (⟨#[]⟩ : ByteArray), false⟩ : S42) )) (Reps.none _ _))); intro v267 w204 ho205 hb hg_ hnew_; clear hg_ hnew_; (first | rw [← Ny266.out] at ho205 | (simp only [Int.reduceToNat] at ho205; rw [← Ny266.out] at ho205)); have n0_ := Aside0.mk (Kd.N_elder' (by (with_reducible repeat (first | apply Kd.N_alloc | apply Kd.N_drewN | apply Kd.N_drew)); exact HO261.out) (Kd.R_base ho205) hb); have n1_ := Aside0.mk (Kd.R_below (by (with_reducible repeat (first | apply Kd.R_alloc | apply Kd.R_drewN | apply Kd.R_drew)); exact HO265.out) hb); have n2_ := Aside0.mk (Kd.R_lower ho205 (below_size (by repeat (first | (with_reducible first | exact HB.out | apply below_alloc | apply pw_below_drewN | apply below_drew1) | exact HB.out)))); have n3_ := Aside0.mk (below_step (by repeat (first | (with_reducible first | exact HB.out | apply below_alloc | apply pw_below_drewN | apply below_drew1) | exact HB.out)) hb); clear HO261; clear HO265; clear HB; have HO261 := n0_; have HO265 := n1_; have HO268 := n2_; have HB := n3_; clear n0_ n1_ n2_ n3_; clear hb ho205; obtain ⟨Ao206, co206, eo206⟩ := Kd.R_slice HO268.out; subst eo206) | ((with_reducible refine gate_dst (N := 202) rfl ?_); (try (refine gate_guard (by rfl) ?_; dsimp only)); refine Kd.N_lit k45 _ 45 ?hg (N' := 202) ?hd (xs := ([(⟨0, 0, y266⟩ : S45)] : List (S45))) (inner := [.int .i64 0, .int .i64 0, .slice Ao206 y266.length co206]) (ok := (fun k_ => some k_ ≠ (.slice Ao202 y259.length co202 : Value).ownBlock ∧ some k_ ≠ (v264 : Value).ownBlock)) (okp := (fun k_ => some k_ ≠ (.slice Ao202 y259.length co202 : Value).ownBlock ∧ some k_ ≠ (v264 : Value).ownBlock)) ?hr ?hp (fun _ hk => hk) ((show ∀ k_, w204.heap.size ≤ k_ → (fun k_ => some k_ ≠ (.slice Ao202 y259.length co202 : Value).ownBlock ∧ some k_ ≠ (v264 : Value).ownBlock) k_ from fun k_ hk => ⟨Kd.fresh' (Kd.N_lt (by (with_reducible repeat (first | apply Kd.N_alloc | apply Kd.N_drewN | apply Kd.N_drew)); exact HO261.out)) k_ hk, Kd.fresh' (Kd.R_lt (by (with_reducible repeat (first | apply Kd.R_alloc | apply Kd.R_drewN | apply Kd.R_drew)); exact HO265.out)) k_ hk⟩) _ (Nat.le_refl _)) (Below.refl _ _) (Nat.le_refl _) (by simp) ?_; (case hd => rfl); (case hg => rfl); (case hr => first | (go_simp; done) | (go_simp; rfl)); (case hp => exact (Reps.c3 (show Kd.FK k45 _ _ (⟨0, 0, y266⟩ : S45) [.int .i64 0, .int .i64 0, .slice Ao206 y266.length co206] from (k45_mkF _ _ (⟨0, 0, y266⟩ : S45) (Kd.R_reads' (Kd.R_mono (ok' := (fun k_ => some k_ ≠ (.slice Ao202 y259.length co202 : Value).ownBlock ∧ some k_ ≠ (v264 : Value).ownBlock)) (Kd.R_apart' (Kd.R_apart' (HO268.out) (Kd.N_typed HO261.out) (by decide)) (Kd.R_typed HO265.out) (by decide)) (fun k_ hk => ⟨hk.1.2, hk.2⟩))).2.1 (Kd.R_F (Kd.R_mono (ok' := (fun k_ => some k_ ≠ (.slice Ao202 y259.length co202 : Value).ownBlock ∧ some k_ ≠ (v264 : Value).ownBlock)) (Kd.R_apart' (Kd.R_apart' (HO268.out) (Kd.N_typed HO261.out) (by decide)) (Kd.R_typed HO265.out) (by decide)) (fun k_ hk => ⟨hk.1.2, hk.2⟩))))) (Reps.none _ _))); intro v270 w207 ho208 hb hg_ hnew_; clear hg_ hnew_; (first | rw [← Ny269.out] at ho208 | (simp only [Int.reduceToNat] at ho208; rw [← Ny269.out] at ho208)); have n0_ := Aside0.mk (Kd.N_elder' (by (with_reducible repeat (first | apply Kd.N_alloc | apply Kd.N_drewN | apply Kd.N_drew)); exact HO261.out) (Kd.N_base ho208) hb); have n1_ := Aside0.mk (Kd.R_below (by (with_reducible repeat (first | apply Kd.R_alloc | apply Kd.R_drewN | apply Kd.R_drew)); exact HO265.out) hb); have n2_ := Aside0.mk (Kd.N_lower ho208 (below_size (by repeat (first | (with_reducible first | exact HB.out | apply below_alloc | apply pw_below_drewN | apply below_drew1) | exact HB.out)))); have n3_ := Aside0.mk (below_step (by repeat (first | (with_reducible first | exact HB.out | apply below_alloc | apply pw_below_drewN | apply below_drew1) | exact HB.out)) hb); clear HO261; clear HO265; clear HB; clear HO268; have HO261 := n0_; have HO265 := n1_; have HO271 := n2_; have HB := n3_; clear n0_ n1_ n2_ n3_; clear hb ho208; obtain ⟨Ao209, co209, eo209⟩ := Kd.N_slice HO271.out; subst eo209) | ((with_reducible refine gate_callee (f := 7) rfl ?_); refine goesL_ (some 203) rfl rfl Try.func7 (by kernel_rfl) rfl #[.string (⟨#[97, 98, 99, 100, 101, 102]⟩ : ByteArray), .slice Ao209 y269.length co209] rfl (by (try simp only [List.map_toArray, List.map_cons, List.map_nil]); first | done | rfl | (simp only [List.length_drop, List.length_take]; rfl)) ?_; (with_reducible refine (known_Flat.calls kj159 (⟨#[97, 98, 99, 100, 101, 102]⟩ : ByteArray) _ _ y269 t272 t273 _ ?side1 ?side2 A194.out).mono ?_); (case side1 => repeat (first | exact (Kd.N_reads' HO271.out).2.2 | (with_reducible refine Kd.C_alloc ?_ _) | (with_reducible refine Kd.C_drewN ?_ _) | (with_reducible refine Kd.C_drew ?_))); (case side2 => exact (Kd.N_reads' HO271.out).2.1); rintro e w210 ⟨v274, rfl, ho0, hb⟩; refine ⟨_, rfl, ?_⟩; have n0_ := Aside0.mk (Kd.N_elder' (by (with_reducible repeat (first | apply Kd.N_alloc | apply Kd.N_drewN | apply Kd.N_drew)); exact HO261.out) (Kd.R_base ho0) hb); have n1_ := Aside0.mk (Kd.R_elder' (by (with_reducible repeat (first | apply Kd.R_alloc | apply Kd.R_drewN | apply Kd.R_drew)); exact HO265.out) (Kd.R_base ho0) hb); have n2_ := Aside0.mk (Kd.N_elder' (by (with_reducible repeat (first | apply Kd.N_alloc | apply Kd.N_drewN | apply Kd.N_drew)); exact HO271.out) (Kd.R_base ho0) hb); have n3_ := Aside0.mk (Kd.R_lower (Kd.R_new' ho0 (Kd.R_lt (by (with_reducible repeat (first | apply Kd.R_alloc | apply Kd.R_drewN | apply Kd.R_drew)); exact HO265.out))) (below_size (by repeat (first | (with_reducible first | exact HB.out | apply below_alloc | apply pw_below_drewN | apply below_drew1) | exact HB.out)))); have n4_ := Aside0.mk (below_step (by repeat (first | (with_reducible first | exact HB.out | apply below_alloc | apply pw_below_drewN | apply below_drew1) | exact HB.out)) hb); clear HO261; clear HO265; clear HO271; clear HB; have HO261 := n0_; have HO265 := n1_; have HO271 := n2_; have HO275 := n3_; have HB := n4_; clear n0_ n1_ n2_ n3_ n4_; (try clear hb); (try clear hb2); (try clear hk); (try clear hi); (try clear ho0)) | ((with_reducible refine gate_dst (N := 208) rfl ?_); (try (refine gate_guard (by rfl) ?_; dsimp only)); refine Kd.N_lit k45 _ 45 ?hg (N' := 208) ?hd (xs := ([(⟨7, 7, ([] : List (S42))⟩ : S45)] : List (S45))) (inner := [.int .i64 7, .int .i64 7, .slice none 0 0]) (ok := (fun k_ => some k_ ≠ (.slice Ao202 y259.length co202 : Value).ownBlock ∧ some k_ ≠ (v264 : Value).ownBlock ∧ some k_ ≠ (.slice Ao209 y269.length co209 : Value).ownBlock ∧ some k_ ≠ (v274 : Value).ownBlock)) (okp := (fun k_ => some k_ ≠ (.slice Ao202 y259.length co202 : Value).ownBlock ∧ some k_ ≠ (v264 : Value).ownBlock ∧ some k_ ≠ (.slice Ao209 y269.length co209 : Value).ownBlock ∧ some k_ ≠ (v274 : Value).ownBlock)) ?hr ?hp (fun _ hk => hk) ((show ∀ k_, w210.heap.size ≤ k_ → (fun k_ => some k_ ≠ (.slice Ao202 y259.length co202 : Value).ownBlock ∧ some k_ ≠ (v264 : Value).ownBlock ∧ some k_ ≠ (.slice Ao209 y269.length co209 : Value).ownBlock ∧ some k_ ≠ (v274 : Value).ownBlock) k_ from fun k_ hk => ⟨Kd.fresh' (Kd.N_lt (by (with_reducible repeat (first | apply Kd.N_alloc | apply Kd.N_drewN | apply Kd.N_drew)); exact HO261.out)) k_ hk, Kd.fresh' (Kd.R_lt (by (with_reducible repeat (first | apply Kd.R_alloc | apply Kd.R_drewN | apply Kd.R_drew)); exact HO265.out)) k_ hk, Kd.fresh' (Kd.N_lt (by (with_reducible repeat (first | apply Kd.N_alloc | apply Kd.N_drewN | apply Kd.N_drew)); exact HO271.out)) k_ hk, Kd.fresh' (Kd.R_lt (by (with_reducible repeat (first | apply Kd.R_alloc | apply Kd.R_drewN | apply Kd.R_drew)); exact HO275.out)) k_ hk⟩) _ (Nat.le_refl _)) (Below.refl _ _) (Nat.le_refl _) (by simp) ?_; (case hd => rfl); (case hg => rfl); (case hr => first | (go_simp; done) | (go_simp; rfl)); (case hp => exact (Reps.c3 (show Kd.FK k45 _ _ (⟨7, 7, ([] : List (S42))⟩ : S45) [.int .i64 7, .int .i64 7, .slice none 0 0] from (k45_mkF _ _ (⟨7, 7, ([] : List (S42))⟩ : S45) (Nat.le_refl _) (Kd.F_nil _ _ _))) (Reps.none _ _))); intro v277 w211 ho212 hb hg_ hnew_; clear hg_ hnew_; (first | rw [← Ny276.out] at ho212 | (simp only [Int.reduceToNat] at ho212; rw [← Ny276.out] at ho212)); have n0_ := Aside0.mk (Kd.N_elder' (by (with_reducible repeat (first | apply Kd.N_alloc | apply Kd.N_drewN | apply Kd.N_drew)); exact HO261.out) (Kd.N_base ho212) hb); have n1_ := Aside0.mk (Kd.R_below (by (with_reducible repeat (first | apply Kd.R_alloc | apply Kd.R_drewN | apply Kd.R_drew)); exact HO265.out) hb); have n2_ := Aside0.mk (Kd.N_elder' (by (with_reducible repeat (first | apply Kd.N_alloc | apply Kd.N_drewN | apply Kd.N_drew)); exact HO271.out) (Kd.N_base ho212) hb); have n3_ := Aside0.mk (Kd.R_below (by (with_reducible repeat (first | apply Kd.R_alloc | apply Kd.R_drewN | apply Kd.R_drew)); exact HO275.out) hb); have n4_ := Aside0.mk (Kd.N_lower ho212 (below_size (by repeat (first | (with_reducible first | exact HB.out | apply below_alloc | apply pw_below_drewN | apply below_drew1) | exact HB.out)))); have n5_ := Aside0.mk (below_step (by repeat (first | (with_reducible first | exact HB.out | apply below_alloc | apply pw_below_drewN | apply below_drew1) | exact HB.out)) hb); clear HO261; clear HO265; clear HO271; clear HO275; clear HB; have HO261 := n0_; have HO265 := n1_; have HO271 := n2_; have HO275 := n3_; have HO278 := n4_; have HB := n5_; clear n0_ n1_ n2_ n3_ n4_ n5_; clear hb ho212; obtain ⟨Ao213, co213, eo213⟩ := Kd.N_slice HO278.out; subst eo213) | ((with_reducible refine gate_callee (f := 7) rfl ?_); refine goesL_ (some 209) rfl rfl Try.func7 (by kernel_rfl) rfl #[.string (⟨#[97, 98, 99, 100, 101, 102]⟩ : ByteArray), .slice Ao213 y276.length co213] rfl (by (try simp only [List.map_toArray, List.map_cons, List.map_nil]); first | done | rfl | (simp only [List.length_drop, List.length_take]; rfl)) ?_; (with_reducible refine (known_Flat.calls kj159 (⟨#[97, 98, 99, 100, 101, 102]⟩ : ByteArray) _ _ y276 t279 t280 _ ?side1 ?side2 A195.out).mono ?_); (case side1 => repeat (first | exact (Kd.N_reads' HO278.out).2.2 | (with_reducible refine Kd.C_alloc ?_ _) | (with_reducible refine Kd.C_drewN ?_ _) | (with_reducible refine Kd.C_drew ?_))); (case side2 => exact (Kd.N_reads' HO278.out).2.1); rintro e w214 ⟨v281, rfl, ho0, hb⟩; refine ⟨_, rfl, ?_⟩; have n0_ := Aside0.mk (Kd.N_elder' (by (with_reducible repeat (first | apply Kd.N_alloc | apply Kd.N_drewN | apply Kd.N_drew)); exact HO261.out) (Kd.R_base ho0) hb); have n1_ := Aside0.mk (Kd.R_elder' (by (with_reducible repeat (first | apply Kd.R_alloc | apply Kd.R_drewN | apply Kd.R_drew)); exact HO265.out) (Kd.R_base ho0) hb); have n2_ := Aside0.mk (Kd.N_elder' (by (with_reducible repeat (first | apply Kd.N_alloc | apply Kd.N_drewN | apply Kd.N_drew)); exact HO271.out) (Kd.R_base ho0) hb); have n3_ := Aside0.mk (Kd.R_elder' (by (with_reducible repeat (first | apply Kd.R_alloc | apply Kd.R_drewN | apply Kd.R_drew)); exact HO275.out) (Kd.R_base ho0) hb); have n4_ := Aside0.mk (Kd.N_elder' (by (with_reducible repeat (first | apply Kd.N_alloc | apply Kd.N_drewN | apply Kd.N_drew)); exact HO278.out) (Kd.R_base ho0) hb); have n5_ := Aside0.mk (Kd.R_lower (Kd.R_new' (Kd.R_new' ho0 (Kd.R_lt (by (with_reducible repeat (first | apply Kd.R_alloc | apply Kd.R_drewN | apply Kd.R_drew)); exact HO265.out))) (Kd.R_lt (by (with_reducible repeat (first | apply Kd.R_alloc | apply Kd.R_drewN | apply Kd.R_drew)); exact HO275.out))) (below_size (by repeat (first | (with_reducible first | exact HB.out | apply below_alloc | apply pw_below_drewN | apply below_drew1) | exact HB.out)))); have n6_ := Aside0.mk (below_step (by repeat (first | (with_reducible first | exact HB.out | apply below_alloc | apply pw_below_drewN | apply below_drew1) | exact HB.out)) hb); clear HO261; clear HO265; clear HO271; clear HO275; clear HO278; clear HB; have HO261 := n0_; have HO265 := n1_; have HO271 := n2_; have HO275 := n3_; have HO278 := n4_; have HO282 := n5_; have HB := n6_; clear n0_ n1_ n2_ n3_ n4_ n5_ n6_; (try clear hb); (try clear hb2); (try clear hk); (try clear hi); (try clear ho0)))
  (try simp only [Act.put, List.setIfInBounds_toArray, List.set_cons_zero, List.set_cons_succ])
  go_cut [241] (fun v241 wc => ∃ (kq : Nat) (x241_195 : Bool), v241 = .bool x241_195 ∧ Aside0 (ek.j4 kq x241_195 = some true) ∧ Aside0 (kq ≤ kj159) ∧ Aside0 (Below w.heap.size w wc))
  case first =>
    have H := HC196.out
    clear HC196
    by_cases c215 : t263 = 0
    rotate_left
    · rw [if_neg c215] at H
      exfalso; first | exact ek.j0_no _ H | exact ek.j3_no _ H | exact ek.j4_no _ H | cases H
    rw [if_pos c215] at H
    have c215b0 : (t263 == 0) = true := beq_iff_eq.mpr c215
    have c215b1 : (t263 != 0) = false := bne_eq_false_iff_eq.mpr c215
    clear c215
    (first | rw [c215b0] | (simp only [i64_w, i32_w]; rw [c215b0]) | skip)
    by_cases c216 : (t262.length : Int) = 1
    rotate_left
    · rw [if_neg c216] at H
      exfalso; first | exact ek.j0_no _ H | exact ek.j3_no _ H | exact ek.j4_no _ H | cases H
    rw [if_pos c216] at H
    have c216b0 : ((t262.length : Int) == 1) = true := beq_iff_eq.mpr c216
    have c216b1 : ((t262.length : Int) != 1) = false := bne_eq_false_iff_eq.mpr c216
    clear c216
    by_cases c217 : 0 < (t262.length : Int)
    rotate_left
    · rw [if_neg c217] at H
      exact absurd H (by simp)
    rw [if_pos c217] at H
    have c217b0 : decide (0 < (t262.length : Int)) = true := decide_eq_true c217
    have c217b1 : decide (0 < t262.length) = true := decide_eq_true (by omega)
    clear c217
    replace H := Option.bind_eq_some_iff.mp H
    obtain ⟨⟨t284, t285, t286⟩, A2180, H⟩ := H
    (try dsimp only at H)
    have A218 := Aside0.mk A2180
    clear A2180
    by_cases c219 : (!(((rd_T39 t262 0).f0) == t284) || (!(((rd_T39 t262 0).f1) == t285) || (!((((rd_T39 t262 0).f2).toList) == t286.toList)))) = true
    · rw [if_pos c219] at H
      exfalso; first | exact ek.j0_no _ H | exact ek.j3_no _ H | exact ek.j4_no _ H | cases H
    rw [if_neg c219] at H
    have c219b0 : (!(((rd_T39 t262 0).f0) == t284) || (!(((rd_T39 t262 0).f1) == t285) || (!((((rd_T39 t262 0).f2).toList) == t286.toList)))) = false := by simpa using c219
    clear c219
    by_cases c223 : t273 = 2
    rotate_left
    · rw [if_neg c223] at H
      exfalso; first | exact ek.j0_no _ H | exact ek.j3_no _ H | exact ek.j4_no _ H | cases H
    rw [if_pos c223] at H
    have c223b0 : (t273 == 2) = true := beq_iff_eq.mpr c223
    have c223b1 : (t273 != 2) = false := bne_eq_false_iff_eq.mpr c223
    clear c223
    by_cases c224 : t280 = 2
    rotate_left
    · rw [if_neg c224] at H
      exfalso; first | exact ek.j0_no _ H | exact ek.j3_no _ H | exact ek.j4_no _ H | cases H
    rw [if_pos c224] at H
    have c224b0 : (t280 == 2) = true := beq_iff_eq.mpr c224
    have c224b1 : (t280 != 2) = false := bne_eq_false_iff_eq.mpr c224
    clear c224
    replace H := Option.bind_eq_some_iff.mp H
    obtain ⟨t287, A2250, H⟩ := H
    (try dsimp only at H)
    have A225 := Aside0.mk A2250
    clear A2250
    by_cases c226 : t287 = 2
    rotate_left
    · rw [if_neg c226] at H
      exfalso; first | exact ek.j0_no _ H | exact ek.j3_no _ H | exact ek.j4_no _ H | cases H
    rw [if_pos c226] at H
    have c226b0 : (t287 == 2) = true := beq_iff_eq.mpr c226
    have c226b1 : (t287 != 2) = false := bne_eq_false_iff_eq.mpr c226
    clear c226
    replace H := Option.bind_eq_some_iff.mp H
    obtain ⟨t288, A2270, H⟩ := H
    (try dsimp only at H)
    have A227 := Aside0.mk A2270
    clear A2270
    have H' := Aside0.mk H
    clear H
    try go_wp2
    have n0_ := Aside0.mk (Kd.N_drew HO261.out)
    have n1_ := Aside0.mk (Kd.R_drew HO265.out)
    have n2_ := Aside0.mk (Kd.N_drew HO271.out)
    have n3_ := Aside0.mk (Kd.R_drew HO275.out)
    have n4_ := Aside0.mk (Kd.N_drew HO278.out)
    have n5_ := Aside0.mk (Kd.R_drew HO282.out)
    have n6_ := Aside0.mk (below_drew1 HB.out)
    clear HO261
    clear HO265
    clear HO271
    clear HO275
    clear HO278
    clear HO282
    clear HB
    have HO261 := n0_
    have HO265 := n1_
    have HO271 := n2_
    have HO275 := n3_
    have HO278 := n4_
    have HO282 := n5_
    have HB := n6_
    clear n0_ n1_ n2_ n3_ n4_ n5_ n6_
    obtain ⟨Ao229, co229, eo229⟩ := Kd.R_slice HO265.out
    (first | subst eo229 | (injection eo229 with f1_ f2_ f3_; have f4_ := f1_.symm; have f5_ := f3_.symm; clear f1_ f2_ f3_; subst f4_; subst f5_))
    have p283 : 0 ≤ (0 : Int) := (by omega)
    have q283 : 0 < (t262.length : Int) := of_decide_eq_true (by first | (with_reducible assumption) | assumption)
    obtain ⟨ad283, e283, hx283_0, hx283_1, hx283_2⟩ := at_T39 (Kd.R_reads' HO265.out).2.2 0 p283 q283
    cases e283
    have qi283 : (0 < t262.length) = True := eq_true (by omega)
    (try rw [show ((0 : Int)).toNat = 0 from rfl] at hx283_0)
    (try rw [show 0 * 3 = 0 from rfl] at hx283_0)
    (try rw [Addr.add_zero'] at hx283_0)
    (try rw [show ((0 : Int)).toNat = 0 from rfl] at hx283_1)
    (try rw [show 0 * 3 = 0 from rfl] at hx283_1)
    (try rw [Addr.add_zero'] at hx283_1)
    (try rw [show ((0 : Int)).toNat = 0 from rfl] at hx283_2)
    (try rw [show 0 * 3 = 0 from rfl] at hx283_2)
    (try rw [Addr.add_zero'] at hx283_2)
    replace p283 := eq_true p283
    replace q283 := eq_true q283
    refine start_ (n := 30) (S := fun w' => w'.cell? ad283 = some (.int .i64 ((rd_T39 t262 0).f0)) ∧ w'.cell? ⟨ad283.block, ad283.off + 1, none⟩ = some (.int .i64 ((rd_T39 t262 0).f1)) ∧ w'.cell? ⟨ad283.block, ad283.off + 2, none⟩ = some (.string ((rd_T39 t262 0).f2))) (ds := []) #[false, false, false, false, false, false, false, false, false, false, false, false, false, false, false, false, false, false, false, false, false, false, false, false, false, false, false, false, false, false] (by kernel_rfl) rfl rfl ⟨hx283_0, hx283_1, hx283_2⟩ (fun hHeld => ?_); refine with_tabW ek.tab27 ek.bits27 (fun HT_ HW_ => ?_)
    generalize w214.drew = w228 at HO261 HO265 HO271 HO275 HO278 HO282 HB hx283_0 hx283_1 hx283_2 hHeld ⊢
    refine pure_ (i := 0) (N := some 212) (v := ?_) (a' := ?_) #[true, false, false, false, false, false, false, false, false, false, false, false, false, false, false, false, false, false, false, false, false, false, false, false, false, false, false, false, false, false] rfl rfl (any_of HT_.out (by kernel_rfl)) (fun _ _ _ h => h) (Or.inl ⟨by rfl, ?_⟩) ?_ ?_
    rotate_left
    · intro w'
      go_simp
      with_reducible rfl
    rotate_left
    · simp only [Act.put, List.setIfInBounds_toArray, List.set_cons_zero, List.set_cons_succ, i64_w, i32_w]
      rfl
    refine pure_ (i := 1) (N := some 213) (v := ?_) (a' := ?_) #[true, true, false, false, false, false, false, false, false, false, false, false, false, false, false, false, false, false, false, false, false, false, false, false, false, false, false, false, false, false] rfl rfl (any_of HT_.out (by kernel_rfl)) (fun _ _ _ h => h) (Or.inl ⟨by rfl, ?_⟩) ?_ ?_
    rotate_left
    · intro w'
      go_simp
      with_reducible rfl
    rotate_left
    · simp only [Act.put, List.setIfInBounds_toArray, List.set_cons_zero, List.set_cons_succ, i64_w, i32_w]
      rfl
    refine pure_ (i := 2) (N := some 214) (v := ?_) (a' := ?_) #[true, true, true, false, false, false, false, false, false, false, false, false, false, false, false, false, false, false, false, false, false, false, false, false, false, false, false, false, false, false] rfl rfl (any_of HT_.out (by kernel_rfl)) (fun _ _ _ h => h) (Or.inl ⟨by rfl, ?_⟩) ?_ ?_
    rotate_left
    · intro w'
      go_simp
      with_reducible rfl
    rotate_left
    · simp only [Act.put, List.setIfInBounds_toArray, List.set_cons_zero, List.set_cons_succ, i64_w, i32_w]
      rfl
    refine pure_ (i := 3) (N := some 215) (v := ?_) (a' := ?_) #[true, true, true, true, false, false, false, false, false, false, false, false, false, false, false, false, false, false, false, false, false, false, false, false, false, false, false, false, false, false] rfl rfl (any_of HT_.out (by kernel_rfl)) (fun _ _ _ h => h) (Or.inl ⟨by rfl, ?_⟩) ?_ ?_
    rotate_left
    · intro w'
      go_simp
      with_reducible rfl
    rotate_left
    · simp only [Act.put, List.setIfInBounds_toArray, List.set_cons_zero, List.set_cons_succ, i64_w, i32_w]
      rfl
    refine pure_ (i := 4) (N := some 216) (v := ?_) (a' := ?_) #[true, true, true, true, true, false, false, false, false, false, false, false, false, false, false, false, false, false, false, false, false, false, false, false, false, false, false, false, false, false] rfl rfl (any_of HT_.out (by kernel_rfl)) (fun _ _ _ h => h) (Or.inl ⟨by rfl, ?_⟩) ?_ ?_
    rotate_left
    · intro w'
      go_simp
      with_reducible rfl
    rotate_left
    · simp only [Act.put, List.setIfInBounds_toArray, List.set_cons_zero, List.set_cons_succ, i64_w, i32_w]
      rfl
    refine pure_ (i := 5) (N := some 217) (v := ?_) (a' := ?_) #[true, true, true, true, true, true, false, false, false, false, false, false, false, false, false, false, false, false, false, false, false, false, false, false, false, false, false, false, false, false] rfl rfl (any_of HT_.out (by kernel_rfl)) (fun _ _ _ h => h) (Or.inl ⟨by rfl, ?_⟩) ?_ ?_
    rotate_left
    · intro w'
      go_simp
      with_reducible rfl
    rotate_left
    · simp only [Act.put, List.setIfInBounds_toArray, List.set_cons_zero, List.set_cons_succ, i64_w, i32_w]
      rfl
    refine pure_ (i := 6) (N := some 218) (v := ?_) (a' := ?_) #[true, true, true, true, true, true, true, false, false, false, false, false, false, false, false, false, false, false, false, false, false, false, false, false, false, false, false, false, false, false] rfl rfl (any_of HT_.out (by kernel_rfl)) (fun _ _ _ h => h) (Or.inl ⟨by rfl, ?_⟩) ?_ ?_
    rotate_left
    · intro w'
      go_simp
      with_reducible rfl
    rotate_left
    · simp only [Act.put, List.setIfInBounds_toArray, List.set_cons_zero, List.set_cons_succ, i64_w, i32_w]
      rfl
    refine pure_ (i := 7) (N := some 219) (v := ?_) (a' := ?_) #[true, true, true, true, true, true, true, true, false, false, false, false, false, false, false, false, false, false, false, false, false, false, false, false, false, false, false, false, false, false] rfl rfl (any_of HT_.out (by kernel_rfl)) (fun _ _ _ h => h) (Or.inl ⟨by rfl, ?_⟩) ?_ ?_
    rotate_left
    · intro w'
      go_simp
      with_reducible rfl
    rotate_left
    · simp only [Act.put, List.setIfInBounds_toArray, List.set_cons_zero, List.set_cons_succ, i64_w, i32_w]
      rfl
    refine pure_ (i := 8) (N := some 220) (v := ?_) (a' := ?_) #[true, true, true, true, true, true, true, true, true, false, false, false, false, false, false, false, false, false, false, false, false, false, false, false, false, false, false, false, false, false] rfl rfl (any_of HT_.out (by kernel_rfl)) (fun _ _ _ h => h) (Or.inl ⟨by rfl, ?_⟩) ?_ ?_
    rotate_left
    · intro w'
      go_simp
      with_reducible rfl
    rotate_left
    · simp only [Act.put, List.setIfInBounds_toArray, List.set_cons_zero, List.set_cons_succ, i64_w, i32_w]
      rfl
    refine pure_ (i := 9) (N := some 221) (v := ?_) (a' := ?_) #[true, true, true, true, true, true, true, true, true, true, false, false, false, false, false, false, false, false, false, false, false, false, false, false, false, false, false, false, false, false] rfl rfl (any_of HT_.out (by kernel_rfl)) (fun _ _ _ h => h) (Or.inl ⟨by rfl, ?_⟩) ?_ ?_
    rotate_left
    · intro w'
      go_simp
      with_reducible rfl
    rotate_left
    · simp only [Act.put, List.setIfInBounds_toArray, List.set_cons_zero, List.set_cons_succ, i64_w, i32_w]
      rfl
    refine take_ (i := 10) (N := some 222) (v := ?_) (a' := ?_) #[true, true, true, true, true, true, true, true, true, true, true, false, false, false, false, false, false, false, false, false, false, false, false, false, false, false, false, false, false, false] rfl rfl (take_ofW HT_.out HW_.out (by kernel_rfl)) (fun _ _ _ h => h) (Or.inl ⟨by rfl, ?_⟩) hHeld ?_ ?_
    rotate_left
    · rintro w' ⟨s0, s1, s2⟩
      go_simp
      with_reducible rfl
    rotate_left
    · simp only [Act.put, List.setIfInBounds_toArray, List.set_cons_zero, List.set_cons_succ, i64_w, i32_w]
      rfl
    refine one_ (i := 11) (N := some 223) #[true, true, true, true, true, true, true, true, true, true, true, true, false, false, false, false, false, false, false, false, false, false, false, false, false, false, false, false, false, false] rfl rfl (one_of HT_.out (by kernel_rfl)) (by decide) (fun K hK => ?_)
    refine goes_ Try.func13 (by kernel_rfl) rfl #[.int .i64 0, .int .i64 1, .string (⟨#[40, 99, 100, 41, 110]⟩ : ByteArray)] (by rfl) rfl rfl (by (try simp only [List.map_toArray, List.map_cons, List.map_nil]); first | done | rfl | (simp only [List.length_drop, List.length_take]; rfl)) ?_
    with_reducible refine (emendlaw07_of.calls 0 1 (⟨#[40, 99, 100, 41, 110]⟩ : ByteArray) t284 t285 t286 _ A218.out).mono ?_
    rintro e w230 ⟨rfl, hb⟩
    have HS0_ := (hb.cell (World.block_lt_of_cell? _ _ (hHeld.1))).trans (hHeld.1)
    have HS1_ := (hb.cell (World.block_lt_of_cell? _ _ (hHeld.2.1))).trans (hHeld.2.1)
    have HS2_ := (hb.cell (World.block_lt_of_cell? _ _ (hHeld.2.2))).trans (hHeld.2.2)
    refine ⟨_, rfl, ?_⟩
    have n0_ := Aside0.mk (Kd.N_below (by (with_reducible repeat (first | apply Kd.N_alloc | apply Kd.N_drewN | apply Kd.N_drew)); exact HO261.out) hb)
    have n1_ := Aside0.mk (Kd.R_below (by (with_reducible repeat (first | apply Kd.R_alloc | apply Kd.R_drewN | apply Kd.R_drew)); exact HO265.out) hb)
    have n2_ := Aside0.mk (Kd.N_below (by (with_reducible repeat (first | apply Kd.N_alloc | apply Kd.N_drewN | apply Kd.N_drew)); exact HO271.out) hb)
    have n3_ := Aside0.mk (Kd.R_below (by (with_reducible repeat (first | apply Kd.R_alloc | apply Kd.R_drewN | apply Kd.R_drew)); exact HO275.out) hb)
    have n4_ := Aside0.mk (Kd.N_below (by (with_reducible repeat (first | apply Kd.N_alloc | apply Kd.N_drewN | apply Kd.N_drew)); exact HO278.out) hb)
    have n5_ := Aside0.mk (Kd.R_below (by (with_reducible repeat (first | apply Kd.R_alloc | apply Kd.R_drewN | apply Kd.R_drew)); exact HO282.out) hb)
    have n6_ := Aside0.mk (below_step (by repeat (first | (with_reducible first | exact HB.out | apply below_alloc | apply pw_below_drewN | apply below_drew1) | exact HB.out)) hb)
    clear HO261
    clear HO265
    clear HO271
    clear HO275
    clear HO278
    clear HO282
    clear HB
    have HO261 := n0_
    have HO265 := n1_
    have HO271 := n2_
    have HO275 := n3_
    have HO278 := n4_
    have HO282 := n5_
    have HB := n6_
    clear n0_ n1_ n2_ n3_ n4_ n5_ n6_
    (try clear hb)
    (try clear hb2)
    (try clear hk)
    (try clear hi)
    refine hK.out _ _ ⟨HS0_, HS1_, HS2_⟩ (fun hHeld => ?_)
    clear hK K
    refine norm_ (a' := ?_) ?_ ?_
    rotate_left
    · show Act.put _ (some 223) _ = _
      simp only [Act.put, List.setIfInBounds_toArray, List.set_cons_zero, List.set_cons_succ, i64_w, i32_w]
      rfl
    refine pure_ (i := 12) (N := some 224) (v := ?_) (a' := ?_) #[true, true, true, true, true, true, true, true, true, true, true, true, true, false, false, false, false, false, false, false, false, false, false, false, false, false, false, false, false, false] rfl rfl (any_of HT_.out (by kernel_rfl)) (fun _ _ _ h => h) (Or.inl ⟨by rfl, ?_⟩) ?_ ?_
    rotate_left
    · intro w'
      go_simp
      with_reducible rfl
    rotate_left
    · simp only [Act.put, List.setIfInBounds_toArray, List.set_cons_zero, List.set_cons_succ, i64_w, i32_w]
      rfl
    refine pure_ (i := 13) (N := some 225) (v := ?_) (a' := ?_) #[true, true, true, true, true, true, true, true, true, true, true, true, true, true, false, false, false, false, false, false, false, false, false, false, false, false, false, false, false, false] rfl rfl (any_of HT_.out (by kernel_rfl)) (fun _ _ _ h => h) (Or.inl ⟨by rfl, ?_⟩) ?_ ?_
    rotate_left
    · intro w'
      go_simp
      with_reducible rfl
    rotate_left
    · simp only [Act.put, List.setIfInBounds_toArray, List.set_cons_zero, List.set_cons_succ, i64_w, i32_w]
      rfl
    refine pure_ (i := 14) (N := some 226) (v := ?_) (a' := ?_) #[true, true, true, true, true, true, true, true, true, true, true, true, true, true, true, false, false, false, false, false, false, false, false, false, false, false, false, false, false, false] rfl rfl (any_of HT_.out (by kernel_rfl)) (fun _ _ _ h => h) (Or.inl ⟨by rfl, ?_⟩) ?_ ?_
    rotate_left
    · intro w'
      go_simp
      with_reducible rfl
    rotate_left
    · simp only [Act.put, List.setIfInBounds_toArray, List.set_cons_zero, List.set_cons_succ, i64_w, i32_w]
      rfl
    refine pure_ (i := 15) (N := some 227) (v := ?_) (a' := ?_) #[true, true, true, true, true, true, true, true, true, true, true, true, true, true, true, true, false, false, false, false, false, false, false, false, false, false, false, false, false, false] rfl rfl (any_of HT_.out (by kernel_rfl)) (fun _ _ _ h => h) (Or.inl ⟨by rfl, ?_⟩) ?_ ?_
    rotate_left
    · intro w'
      go_simp
      with_reducible rfl
    rotate_left
    · simp only [Act.put, List.setIfInBounds_toArray, List.set_cons_zero, List.set_cons_succ, i64_w, i32_w]
      rfl
    refine pure_ (i := 16) (N := some 228) (v := ?_) (a' := ?_) #[true, true, true, true, true, true, true, true, true, true, true, true, true, true, true, true, true, false, false, false, false, false, false, false, false, false, false, false, false, false] rfl rfl (any_of HT_.out (by kernel_rfl)) (fun _ _ _ h => h) (Or.inl ⟨by rfl, ?_⟩) ?_ ?_
    rotate_left
    · intro w'
      go_simp
      with_reducible rfl
    rotate_left
    · simp only [Act.put, List.setIfInBounds_toArray, List.set_cons_zero, List.set_cons_succ, i64_w, i32_w]
      rfl
    refine pure_ (i := 17) (N := some 229) (v := ?_) (a' := ?_) #[true, true, true, true, true, true, true, true, true, true, true, true, true, true, true, true, true, true, false, false, false, false, false, false, false, false, false, false, false, false] rfl rfl (any_of HT_.out (by kernel_rfl)) (fun _ _ _ h => h) (Or.inl ⟨by rfl, ?_⟩) ?_ ?_
    rotate_left
    · intro w'
      go_simp
      with_reducible rfl
    rotate_left
    · simp only [Act.put, List.setIfInBounds_toArray, List.set_cons_zero, List.set_cons_succ, i64_w, i32_w]
      rfl
    refine pure_ (i := 18) (N := some 230) (v := ?_) (a' := ?_) #[true, true, true, true, true, true, true, true, true, true, true, true, true, true, true, true, true, true, true, false, false, false, false, false, false, false, false, false, false, false] rfl rfl (any_of HT_.out (by kernel_rfl)) (fun _ _ _ h => h) (Or.inl ⟨by rfl, ?_⟩) ?_ ?_
    rotate_left
    · intro w'
      go_simp
      with_reducible rfl
    rotate_left
    · simp only [Act.put, List.setIfInBounds_toArray, List.set_cons_zero, List.set_cons_succ, i64_w, i32_w]
      rfl
    refine pure_ (i := 19) (N := some 231) (v := ?_) (a' := ?_) #[true, true, true, true, true, true, true, true, true, true, true, true, true, true, true, true, true, true, true, true, false, false, false, false, false, false, false, false, false, false] rfl rfl (any_of HT_.out (by kernel_rfl)) (fun _ _ _ h => h) (Or.inl ⟨by rfl, ?_⟩) ?_ ?_
    rotate_left
    · intro w'
      go_simp
      with_reducible rfl
    rotate_left
    · simp only [Act.put, List.setIfInBounds_toArray, List.set_cons_zero, List.set_cons_succ, i64_w, i32_w]
      rfl
    refine pure_ (i := 20) (N := some 232) (v := ?_) (a' := ?_) #[true, true, true, true, true, true, true, true, true, true, true, true, true, true, true, true, true, true, true, true, true, false, false, false, false, false, false, false, false, false] rfl rfl (any_of HT_.out (by kernel_rfl)) (fun _ _ _ h => h) (Or.inl ⟨by rfl, ?_⟩) ?_ ?_
    rotate_left
    · intro w'
      go_simp
      with_reducible rfl
    rotate_left
    · simp only [Act.put, List.setIfInBounds_toArray, List.set_cons_zero, List.set_cons_succ, i64_w, i32_w]
      rfl
    refine pure_ (i := 21) (N := some 233) (v := ?_) (a' := ?_) #[true, true, true, true, true, true, true, true, true, true, true, true, true, true, true, true, true, true, true, true, true, true, false, false, false, false, false, false, false, false] rfl rfl (any_of HT_.out (by kernel_rfl)) (fun _ _ _ h => h) (Or.inl ⟨by rfl, ?_⟩) ?_ ?_
    rotate_left
    · intro w'
      go_simp
      with_reducible rfl
    rotate_left
    · simp only [Act.put, List.setIfInBounds_toArray, List.set_cons_zero, List.set_cons_succ, i64_w, i32_w]
      rfl
    refine pure_ (i := 22) (N := some 234) (v := ?_) (a' := ?_) #[true, true, true, true, true, true, true, true, true, true, true, true, true, true, true, true, true, true, true, true, true, true, true, false, false, false, false, false, false, false] rfl rfl (any_of HT_.out (by kernel_rfl)) (fun _ _ _ h => h) (Or.inl ⟨by rfl, ?_⟩) ?_ ?_
    rotate_left
    · intro w'
      go_simp
      with_reducible rfl
    rotate_left
    · simp only [Act.put, List.setIfInBounds_toArray, List.set_cons_zero, List.set_cons_succ, i64_w, i32_w]
      rfl
    refine one_ (i := 23) (N := some 235) #[true, true, true, true, true, true, true, true, true, true, true, true, true, true, true, true, true, true, true, true, true, true, true, true, false, false, false, false, false, false] rfl rfl (one_of HT_.out (by kernel_rfl)) (by decide) (fun K hK => ?_)
    refine goes_ Try.func17 (by kernel_rfl) rfl #[.int .i64 (-1), .slice none 0 0] (by rfl) rfl rfl (by (try simp only [List.map_toArray, List.map_cons, List.map_nil]); first | done | rfl | (simp only [List.length_drop, List.length_take]; rfl)) ?_
    refine (edits_Check.calls kj159 (-1) _ _ ([] : List (S39)) t287 _ ?side1 ?side2 A225.out).mono ?_
    (case side1 => exact Kd.C_nil _ _)
    (case side2 => exact Nat.le_refl _)
    rintro e w231 ⟨rfl, hb⟩
    have HS0_ := (hb.cell (World.block_lt_of_cell? _ _ (hHeld.1))).trans (hHeld.1)
    have HS1_ := (hb.cell (World.block_lt_of_cell? _ _ (hHeld.2.1))).trans (hHeld.2.1)
    have HS2_ := (hb.cell (World.block_lt_of_cell? _ _ (hHeld.2.2))).trans (hHeld.2.2)
    refine ⟨_, rfl, ?_⟩
    have n0_ := Aside0.mk (Kd.N_below (by (with_reducible repeat (first | apply Kd.N_alloc | apply Kd.N_drewN | apply Kd.N_drew)); exact HO261.out) hb)
    have n1_ := Aside0.mk (Kd.R_below (by (with_reducible repeat (first | apply Kd.R_alloc | apply Kd.R_drewN | apply Kd.R_drew)); exact HO265.out) hb)
    have n2_ := Aside0.mk (Kd.N_below (by (with_reducible repeat (first | apply Kd.N_alloc | apply Kd.N_drewN | apply Kd.N_drew)); exact HO271.out) hb)
    have n3_ := Aside0.mk (Kd.R_below (by (with_reducible repeat (first | apply Kd.R_alloc | apply Kd.R_drewN | apply Kd.R_drew)); exact HO275.out) hb)
    have n4_ := Aside0.mk (Kd.N_below (by (with_reducible repeat (first | apply Kd.N_alloc | apply Kd.N_drewN | apply Kd.N_drew)); exact HO278.out) hb)
    have n5_ := Aside0.mk (Kd.R_below (by (with_reducible repeat (first | apply Kd.R_alloc | apply Kd.R_drewN | apply Kd.R_drew)); exact HO282.out) hb)
    have n6_ := Aside0.mk (below_step (by repeat (first | (with_reducible first | exact HB.out | apply below_alloc | apply pw_below_drewN | apply below_drew1) | exact HB.out)) hb)
    clear HO261
    clear HO265
    clear HO271
    clear HO275
    clear HO278
    clear HO282
    clear HB
    have HO261 := n0_
    have HO265 := n1_
    have HO271 := n2_
    have HO275 := n3_
    have HO278 := n4_
    have HO282 := n5_
    have HB := n6_
    clear n0_ n1_ n2_ n3_ n4_ n5_ n6_
    (try clear hb)
    (try clear hb2)
    (try clear hk)
    (try clear hi)
    refine hK.out _ _ ⟨HS0_, HS1_, HS2_⟩ (fun hHeld => ?_)
    clear hK K
    refine norm_ (a' := ?_) ?_ ?_
    rotate_left
    · show Act.put _ (some 235) _ = _
      simp only [Act.put, List.setIfInBounds_toArray, List.set_cons_zero, List.set_cons_succ, i64_w, i32_w]
      rfl
    refine pure_ (i := 24) (N := some 236) (v := ?_) (a' := ?_) #[true, true, true, true, true, true, true, true, true, true, true, true, true, true, true, true, true, true, true, true, true, true, true, true, true, false, false, false, false, false] rfl rfl (any_of HT_.out (by kernel_rfl)) (fun _ _ _ h => h) (Or.inl ⟨by rfl, ?_⟩) ?_ ?_
    rotate_left
    · intro w'
      go_simp
      with_reducible rfl
    rotate_left
    · simp only [Act.put, List.setIfInBounds_toArray, List.set_cons_zero, List.set_cons_succ, i64_w, i32_w]
      rfl
    refine pure_ (i := 25) (N := some 237) (v := ?_) (a' := ?_) #[true, true, true, true, true, true, true, true, true, true, true, true, true, true, true, true, true, true, true, true, true, true, true, true, true, true, false, false, false, false] rfl rfl (any_of HT_.out (by kernel_rfl)) (fun _ _ _ h => h) (Or.inl ⟨by rfl, ?_⟩) ?_ ?_
    rotate_left
    · intro w'
      go_simp
      with_reducible rfl
    rotate_left
    · simp only [Act.put, List.setIfInBounds_toArray, List.set_cons_zero, List.set_cons_succ, i64_w, i32_w]
      rfl
    refine pure_ (i := 26) (N := some 238) (v := ?_) (a' := ?_) #[true, true, true, true, true, true, true, true, true, true, true, true, true, true, true, true, true, true, true, true, true, true, true, true, true, true, true, false, false, false] rfl rfl (any_of HT_.out (by kernel_rfl)) (fun _ _ _ h => h) (Or.inl ⟨by rfl, ?_⟩) ?_ ?_
    rotate_left
    · intro w'
      go_simp
      with_reducible rfl
    rotate_left
    · simp only [Act.put, List.setIfInBounds_toArray, List.set_cons_zero, List.set_cons_succ, i64_w, i32_w]
      rfl
    refine one_ (i := 27) (N := some 239) #[true, true, true, true, true, true, true, true, true, true, true, true, true, true, true, true, true, true, true, true, true, true, true, true, true, true, true, true, false, false] rfl rfl (one_of HT_.out (by kernel_rfl)) (by decide) (fun K hK => ?_)
    refine goes_ Try.func17 (by kernel_rfl) rfl #[.int .i64 0, .slice none 0 0] (by rfl) rfl rfl (by (try simp only [List.map_toArray, List.map_cons, List.map_nil]); first | done | rfl | (simp only [List.length_drop, List.length_take]; rfl)) ?_
    refine (edits_Check.calls kj159 0 _ _ ([] : List (S39)) t288 _ ?side1 ?side2 A227.out).mono ?_
    (case side1 => exact Kd.C_nil _ _)
    (case side2 => exact Nat.le_refl _)
    rintro e w232 ⟨rfl, hb⟩
    have HS0_ := (hb.cell (World.block_lt_of_cell? _ _ (hHeld.1))).trans (hHeld.1)
    have HS1_ := (hb.cell (World.block_lt_of_cell? _ _ (hHeld.2.1))).trans (hHeld.2.1)
    have HS2_ := (hb.cell (World.block_lt_of_cell? _ _ (hHeld.2.2))).trans (hHeld.2.2)
    refine ⟨_, rfl, ?_⟩
    have n0_ := Aside0.mk (Kd.N_below (by (with_reducible repeat (first | apply Kd.N_alloc | apply Kd.N_drewN | apply Kd.N_drew)); exact HO261.out) hb)
    have n1_ := Aside0.mk (Kd.R_below (by (with_reducible repeat (first | apply Kd.R_alloc | apply Kd.R_drewN | apply Kd.R_drew)); exact HO265.out) hb)
    have n2_ := Aside0.mk (Kd.N_below (by (with_reducible repeat (first | apply Kd.N_alloc | apply Kd.N_drewN | apply Kd.N_drew)); exact HO271.out) hb)
    have n3_ := Aside0.mk (Kd.R_below (by (with_reducible repeat (first | apply Kd.R_alloc | apply Kd.R_drewN | apply Kd.R_drew)); exact HO275.out) hb)
    have n4_ := Aside0.mk (Kd.N_below (by (with_reducible repeat (first | apply Kd.N_alloc | apply Kd.N_drewN | apply Kd.N_drew)); exact HO278.out) hb)
    have n5_ := Aside0.mk (Kd.R_below (by (with_reducible repeat (first | apply Kd.R_alloc | apply Kd.R_drewN | apply Kd.R_drew)); exact HO282.out) hb)
    have n6_ := Aside0.mk (below_step (by repeat (first | (with_reducible first | exact HB.out | apply below_alloc | apply pw_below_drewN | apply below_drew1) | exact HB.out)) hb)
    clear HO261
    clear HO265
    clear HO271
    clear HO275
    clear HO278
    clear HO282
    clear HB
    have HO261 := n0_
    have HO265 := n1_
    have HO271 := n2_
    have HO275 := n3_
    have HO278 := n4_
    have HO282 := n5_
    have HB := n6_
    clear n0_ n1_ n2_ n3_ n4_ n5_ n6_
    (try clear hb)
    (try clear hb2)
    (try clear hk)
    (try clear hi)
    refine hK.out _ _ ⟨HS0_, HS1_, HS2_⟩ (fun hHeld => ?_)
    clear hK K
    refine norm_ (a' := ?_) ?_ ?_
    rotate_left
    · show Act.put _ (some 239) _ = _
      simp only [Act.put, List.setIfInBounds_toArray, List.set_cons_zero, List.set_cons_succ, i64_w, i32_w]
      rfl
    refine pure_ (i := 28) (N := some 240) (v := ?_) (a' := ?_) #[true, true, true, true, true, true, true, true, true, true, true, true, true, true, true, true, true, true, true, true, true, true, true, true, true, true, true, true, true, false] rfl rfl (any_of HT_.out (by kernel_rfl)) (fun _ _ _ h => h) (Or.inl ⟨by rfl, ?_⟩) ?_ ?_
    rotate_left
    · intro w'
      go_simp
      with_reducible rfl
    rotate_left
    · simp only [Act.put, List.setIfInBounds_toArray, List.set_cons_zero, List.set_cons_succ, i64_w, i32_w]
      rfl
    refine pure_ (i := 29) (N := some 241) (v := ?_) (a' := ?_) #[true, true, true, true, true, true, true, true, true, true, true, true, true, true, true, true, true, true, true, true, true, true, true, true, true, true, true, true, true, true] rfl rfl (any_of HT_.out (by kernel_rfl)) (fun _ _ _ h => h) (Or.inl ⟨by rfl, ?_⟩) ?_ ?_
    rotate_left
    · intro w'
      go_simp
      with_reducible rfl
    rotate_left
    · simp only [Act.put, List.setIfInBounds_toArray, List.set_cons_zero, List.set_cons_succ, i64_w, i32_w]
      rfl
    refine done_ (done_of HT_.out (by kernel_rfl)) ?_
    try go_wp2
    go_meet
    case rel => exact ⟨_, ((t288 != 0)), (by first | rfl | (simp; done) | (simp [*]; done)), H', ⟨by have := HJ2.out; have := HK2.out; have := HK3.out; have := HJ159.out; first | omega | exact Nat.le_refl _⟩, ⟨by repeat (first | (with_reducible first | exact HB.out | apply below_alloc | apply pw_below_drewN | apply below_drew1) | exact HB.out)⟩⟩
  case rest =>
    clear HC196
    try clear c2
    try clear p2
    try clear c21
    try clear c215
    try clear c215b0
    try clear c215b1
    try clear c216
    try clear c216b0
    try clear c216b1
    try clear c217
    obtain ⟨kq, x241_195, rfl, HA, HJ195, HB⟩ := hcut
    cases kq with
    | zero => exact absurd HA.out (by simp [ek.j4])
    | succ kj195 =>
      have H := HA.out
      clear HA
      simp only [ek.j4] at H
      by_cases c246 : x241_195 = true
      · subst c246
        exfalso; first | exact ek.j0_no _ H | exact ek.j3_no _ H | exact ek.j4_no _ H | cases H
      replace c246 := Bool.eq_false_iff.mpr c246
      subst c246
      repeat (first | (exact h w _ _ _ _ _ _ _ _ _ _ _ _ _ _ _ _ _ _ _ _ _ _ _ _ _ _ _ _ _ _ _ _ _ _ _ _ _ _ _ _ _ _ _ _ _ _ _ _ _ _ _ _ _ _ _ _ _ _ _ _ _ _ _ _ _ _ _ _ _ _ _ _ _ _ _ _ _ _ _ _ _ _ _ _ _ _ _ _ _ _ _ _ _ _ _ _ _ _ _ _ _ _ _ _ _ _ _ _ _ _ _ _ _ _ _ _ _ _ _ _ _ _ _ _ _ _ _ _ _ _ _ _ _ _ _ _ _ _ _ _ _ _ _ _ _ _ _ _ _ _ _ _ _ _ _ _ _ _ _ _ _ _ _ _ _ _ _ _ _ _ _ _ _ _ _ _ _ _ _ _ _ _ _ _ _ _ _ _ _ _ _ _ _ _ _ _ _ _ _ _ _ _ _ _ _ _ _ _ _ _ _ _ _ _ _ _ _ _ _ _ _ _ _ _ _ _ _ _ _ _ _ _ _ _ _ _ _ _ _ _ _ _ _ _ _ _ _ _ _ _ _ _ _ _ _ _ _ _ _ _ _ _ _ _ _ _ _ _ _ _ _ _ _ _ _ _ _ _ _ _ _ _ _ _ _ _ _ _ _ _ _ _ _ _ _ _ _ _ _ _ _ _ _ _ _ _ _ _ _ _ _ _ (by repeat (first | (with_reducible first | exact HB.out | apply below_alloc | apply pw_below_drewN | apply below_drew1) | exact HB.out))) | go_values | go_skip | go_guarded | go_step)
end Go.Proofs.Ytgdggbamhlinlaa.PEditsFlat
