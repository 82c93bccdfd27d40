/- Functions of the program as plain Lean functions, each with a proof that the Go code computes just that; written by a turned copy of the kit's printer, not by hand. No condition but what each theorem names. -/
import Derived.Test.YtdmaedaobjcocaaQ0
import Derived.Test.YtdmaedaobjcocaaQ2
import Derived.Test.YtdmaedaobjcocaaQ3
import Derived.Test.YtdmaedaobjcocaaQ6
import Derived.Test.YtdmaedaobjcocaaHMark
import Derived.Test.YtdmaedaobjcocaaHSplit
namespace Go.Proofs.Ytdmaedaobjcocaa.Q
open Go.RowKit Go.Proofs.YtdmaedaobjcocaaW.PrintWords Go.Proofs.YtdmaedaobjcocaaW.PrintLast Go.Proofs.YtdmaedaobjcocaaW.PrintMore
attribute [local go_sem] max2_int min2_int max_two min_two max_three min_three max_four min_four   -- for this text's walks alone
set_option linter.unusedVariables false
set_option linter.unusedSimpArgs false

/-! ### tailwaterlaw20_LateNames: function 4 -/
def tailwaterlaw20_LateNames.l0 : Nat → List (S40) → Int → Option (Bool)
  | 0, _, _ => none
  | k + 1, x1, x2 => if x2 < (x1.length : Int) then ((tailwaterlaw20_at.f 0).bind fun bt238 => (if 0 ≤ x2 then ((late_Mark.f k (([(⟨bt238.1, bt238.2.1, (⟨bt238.2.2.1, bt238.2.2.2.1, bt238.2.2.2.2⟩ : S38)⟩ : S40), (⟨(rd_T40 x1 x2).f0, (rd_T40 x1 x2).f1, (⟨(rd_T40 x1 x2).f2.f0, (rd_T40 x1 x2).f2.f1, (rd_T40 x1 x2).f2.f2⟩ : S38)⟩ : S40)] : List (S40)))).bind fun bt247 => (if x2 ≤ (wrap64 (x2 + 1)) then (if (wrap64 (x2 + 1)) ≤ (x1.length : Int) then ((late_Split.f k ((x1.take ((wrap64 (x2 + 1)) : Int).toNat).drop (x2 : Int).toNat)).bind fun bt253 => ((late_Check.f k ((x1.take ((wrap64 (x2 + 1)) : Int).toNat).drop (x2 : Int).toNat)).bind fun t264 => (if t264 = 8 then (if bt247.2 = 8 then (if bt253.2.2 = 8 then (tailwaterlaw20_LateNames.l0 k x1 (wrap64 (x2 + 1))) else (some false)) else (some false)) else (some false)))) else (none)) else (none))) else (none))) else (if 61 ≤ 7036874417766 then ((some (List.replicate 61 z40 : List (S40))).bind fun y265 => ((late_Mark.f k y265).bind fun bt268 => ((late_Split.f k y265).bind fun bt270 => (if 60 ≤ (y265.length : Int) then ((late_Mark.f k (y265.take 60)).bind fun bt281 => ((tailwaterlaw20_mark.f 9223372036854775807).bind fun bt283 => ((tailwaterlaw20_at.f 1099511627776).bind fun bt288 => ((tailwaterlaw20_mark.f 0).bind fun bt293 => ((tailwaterlaw20_at.f (-1099511627776)).bind fun bt298 => ((late_Split.f k (([(⟨bt283.1, bt283.2.1, (⟨bt283.2.2.1, bt283.2.2.2.1, bt283.2.2.2.2⟩ : S38)⟩ : S40), (⟨bt288.1, bt288.2.1, (⟨bt288.2.2.1, bt288.2.2.2.1, bt288.2.2.2.2⟩ : S38)⟩ : S40), (⟨bt293.1, bt293.2.1, (⟨bt293.2.2.1, bt293.2.2.2.1, bt293.2.2.2.2⟩ : S38)⟩ : S40), (⟨bt298.1, bt298.2.1, (⟨bt298.2.2.1, bt298.2.2.2.1, bt298.2.2.2.2⟩ : S38)⟩ : S40)] : List (S40)))).bind fun bt306 => ((tailwaterlaw20_mark.f (-1099511627776)).bind fun bt313 => ((tailwaterlaw20_at.f (-1099511627776)).bind fun bt318 => ((tailwaterlaw20_mark.f 1099511627776).bind fun bt323 => ((tailwaterlaw20_at.f 1099511627776).bind fun bt328 => ((late_Split.f k (([(⟨bt313.1, bt313.2.1, (⟨bt313.2.2.1, bt313.2.2.2.1, bt313.2.2.2.2⟩ : S38)⟩ : S40), (⟨bt318.1, bt318.2.1, (⟨bt318.2.2.1, bt318.2.2.2.1, bt318.2.2.2.2⟩ : S38)⟩ : S40), (⟨bt323.1, bt323.2.1, (⟨bt323.2.2.1, bt323.2.2.2.1, bt323.2.2.2.2⟩ : S38)⟩ : S40), (⟨bt328.1, bt328.2.1, (⟨bt328.2.2.1, bt328.2.2.2.1, bt328.2.2.2.2⟩ : S38)⟩ : S40)] : List (S40)))).bind fun bt336 => ((tailwaterlaw20_alive.f k).bind fun t343 => (if t343 = true then (if bt268.2 = 4 then (if bt270.2.2 = 4 then (if bt281.2 = 0 then (if bt281.1 = (-9223372036854775808) then (if bt306.2.2 = 0 then (if (bt306.1.length : Int) = 0 then ((tailwaterlaw20_times.f k bt306.2.1 (([1099511627776, (-1099511627776)] : List Int))).bind fun t347 => (if t347 = true then (if bt336.2.2 = 0 then ((tailwaterlaw20_times.f k bt336.1 (([(-1099511627776), 1099511627776] : List Int))).bind fun t351 => (if t351 = true then (some ((bt336.2.1.length : Int) == 0)) else (some false))) else (some false)) else (some false))) else (some false)) else (some false)) else (some false)) else (some false)) else (some false)) else (some false)) else (some false)))))))))))))) else (none))))) else (none))
def tailwaterlaw20_LateNames.f (k : Nat)  : Option (Bool) := (tailwaterlaw20_at.f 1099511627777).bind fun bt225 => ((tailwaterlaw20_at.f (-1099511627777)).bind fun bt230 => (tailwaterlaw20_LateNames.l0 k (([(⟨true, 1099511627777, (⟨0, 0, 0⟩ : S38)⟩ : S40), (⟨true, (-1099511627777), (⟨0, 0, 0⟩ : S38)⟩ : S40), (⟨true, 0, (⟨0, 0, 1⟩ : S38)⟩ : S40), (⟨false, 1, (⟨0, 0, 0⟩ : S38)⟩ : S40), (⟨bt225.1, bt225.2.1, (⟨bt225.2.2.1, bt225.2.2.2.1, bt225.2.2.2.2⟩ : S38)⟩ : S40), (⟨bt230.1, bt230.2.1, (⟨bt230.2.2.1, bt230.2.2.2.1, bt230.2.2.2.2⟩ : S38)⟩ : S40), (⟨true, (-9223372036854775808), (⟨0, 0, 0⟩ : S38)⟩ : S40), (⟨true, 9223372036854775806, (⟨0, 0, 0⟩ : S38)⟩ : S40)] : List (S40))) 0))
theorem tailwaterlaw20_LateNames.mono_l : ∀ k, (∀ y0 y1, LeO (tailwaterlaw20_LateNames.l0 k y0 y1) (tailwaterlaw20_LateNames.l0 (k + 1) y0 y1))
  | 0 => fun _ _ r h => by simp [tailwaterlaw20_LateNames.l0] at h
  | k + 1 => by
    have ih0 := tailwaterlaw20_LateNames.mono_l k
    · intro y0 y1
      unfold tailwaterlaw20_LateNames.l0
      repeat' first
      | (with_reducible exact ih0 _ _)
      | (with_reducible exact late_Check.mono _ _)
      | (with_reducible exact late_Mark.mono _ _)
      | (with_reducible exact late_Split.mono _ _)
      | (with_reducible exact tailwaterlaw20_alive.mono _)
      | (with_reducible exact tailwaterlaw20_times.mono _ _ _)
      | (with_reducible exact LeO.refl _)
      | (with_reducible exact LeO.none _)
      | (with_reducible refine LeO.ite ?_ ?_)
      | (with_reducible refine LeO.bind ?_ (fun _ => ?_))
      | exact ih0 _ _
      | exact late_Check.mono _ _
      | exact late_Mark.mono _ _
      | exact late_Split.mono _ _
      | exact tailwaterlaw20_alive.mono _
      | exact tailwaterlaw20_times.mono _ _ _
      | exact LeO.none _
      | refine LeO.ite ?_ ?_
      | refine LeO.bind ?_ (fun _ => ?_)
theorem tailwaterlaw20_LateNames.mono : ∀ k, LeO (tailwaterlaw20_LateNames.f k ) (tailwaterlaw20_LateNames.f (k + 1) ) := by
  intro  k
  have ih0 := tailwaterlaw20_LateNames.mono_l k
  unfold tailwaterlaw20_LateNames.f
  repeat' first
      | (with_reducible exact ih0 _ _)
      | (with_reducible exact late_Check.mono _ _)
      | (with_reducible exact late_Mark.mono _ _)
      | (with_reducible exact late_Split.mono _ _)
      | (with_reducible exact tailwaterlaw20_alive.mono _)
      | (with_reducible exact tailwaterlaw20_times.mono _ _ _)
      | (with_reducible exact LeO.refl _)
      | (with_reducible exact LeO.none _)
      | (with_reducible refine LeO.ite ?_ ?_)
      | (with_reducible refine LeO.bind ?_ (fun _ => ?_))
      | exact ih0 _ _
      | exact late_Check.mono _ _
      | exact late_Mark.mono _ _
      | exact late_Split.mono _ _
      | exact tailwaterlaw20_alive.mono _
      | exact tailwaterlaw20_times.mono _ _ _
      | exact LeO.none _
      | refine LeO.ite ?_ ?_
      | refine LeO.bind ?_ (fun _ => ?_)
def tailwaterlaw20_LateNames.T5 : Bool × List (List Nat × List Nat) := (true, [([], []), ([], []), ([], []), ([1, 2], [1, 2]), ([3], [3]), ([0, 4], [0, 4]), ([5, 0], [5]), ([6], [6]), ([7], [7]), ([7], [7]), ([8, 6, 0, 1, 2, 3, 4, 5, 6, 7, 8], [8]), ([9, 10, 0, 1, 2, 3, 4, 5, 6, 7, 8, 9, 10], [9])])
def tailwaterlaw20_LateNames.B5 : List Nat := [0, 0, 0, 6, 14, 31, 63, 127, 255, 255, 511, 2047]
theorem tailwaterlaw20_LateNames.tab5 : rtab .any (opsOf Try.f4 5) = tailwaterlaw20_LateNames.T5 := by kernel_rfl
theorem tailwaterlaw20_LateNames.bits5 : waitsOk tailwaterlaw20_LateNames.T5.2 tailwaterlaw20_LateNames.B5 = true := by kernel_rfl
set_option maxHeartbeats 60000000 in
set_option maxRecDepth 100000 in
theorem tailwaterlaw20_LateNames.calls (k : Nat)  (w : World) (h : tailwaterlaw20_LateNames.f k  = some true) :
    Calls Try.prog 4 #[] w fun e w' => e = .returned (.bool true) ∧ Below w.heap.size w w' := by
  have hu40 := Try.underlying40
  have hu38 := Try.underlying38
  have HB := Aside0.mk (Below.refl w.heap.size w)
  have H : ((tailwaterlaw20_at.f 1099511627777).bind fun bt225 => ((tailwaterlaw20_at.f (-1099511627777)).bind fun bt230 => (tailwaterlaw20_LateNames.l0 k (([(⟨true, 1099511627777, (⟨0, 0, 0⟩ : S38)⟩ : S40), (⟨true, (-1099511627777), (⟨0, 0, 0⟩ : S38)⟩ : S40), (⟨true, 0, (⟨0, 0, 1⟩ : S38)⟩ : S40), (⟨false, 1, (⟨0, 0, 0⟩ : S38)⟩ : S40), (⟨bt225.1, bt225.2.1, (⟨bt225.2.2.1, bt225.2.2.2.1, bt225.2.2.2.2⟩ : S38)⟩ : S40), (⟨bt230.1, bt230.2.1, (⟨bt230.2.2.1, bt230.2.2.2.1, bt230.2.2.2.2⟩ : S38)⟩ : S40), (⟨true, (-9223372036854775808), (⟨0, 0, 0⟩ : S38)⟩ : S40), (⟨true, 9223372036854775806, (⟨0, 0, 0⟩ : S38)⟩ : S40)] : List (S40))) 0))) = some true := h
  clear h
  replace H := Option.bind_eq_some_iff.mp H
  obtain ⟨⟨t225, t226, t227, t228, t229⟩, A10, H⟩ := H
  try dsimp only at H
  have A1 := Aside0.mk A10
  clear A10
  replace H := Option.bind_eq_some_iff.mp H
  obtain ⟨⟨t230, t231, t232, t233, t234⟩, A20, H⟩ := H
  try dsimp only at H
  have A2 := Aside0.mk A20
  clear A20
  obtain ⟨y235, hy235⟩ : ∃ y_ : List (S40), y_ = (([(⟨true, 1099511627777, (⟨0, 0, 0⟩ : S38)⟩ : S40), (⟨true, (-1099511627777), (⟨0, 0, 0⟩ : S38)⟩ : S40), (⟨true, 0, (⟨0, 0, 1⟩ : S38)⟩ : S40), (⟨false, 1, (⟨0, 0, 0⟩ : S38)⟩ : S40), (⟨t225, t226, (⟨t227, t228, t229⟩ : S38)⟩ : S40), (⟨t230, t231, (⟨t232, t233, t234⟩ : S38)⟩ : S40), (⟨true, (-9223372036854775808), (⟨0, 0, 0⟩ : S38)⟩ : S40), (⟨true, 9223372036854775806, (⟨0, 0, 0⟩ : S38)⟩ : S40)] : List (S40))) := ⟨_, rfl⟩
  replace H : (tailwaterlaw20_LateNames.l0 k y235 0) = some true := by first | (rw [hy235]; with_reducible exact H) | (have H2_ := (Option.bind_some _ _).symm.trans H; rw [hy235]; with_reducible exact H2_) | (have H2_ := (Option.bind_some _ _).symm.trans H; with_reducible exact H2_) | with_reducible exact H | (rw [hy235]; exact H) | exact H
  have Ny235 := Aside0.mk hy235
  clear hy235
  have H' := Aside0.mk H
  clear H
  go_enter Try.func4, Try.ntmps4
  go_wp2_with (first | ((with_reducible refine gate_callee (f := 16) rfl ?_); refine goesL_ (some 27) rfl rfl Try.func16 (by kernel_rfl) rfl #[.int .i64 1099511627777] rfl (by (try simp only [List.map_toArray, List.map_cons, List.map_nil]); first | done | rfl | (simp only [List.length_drop, List.length_take]; rfl)) ?_; (with_reducible refine (tailwaterlaw20_at.calls 1099511627777 t225 t226 t227 t228 t229 _ A1.out).mono ?_); rintro e w3 ⟨rfl, hb⟩; refine ⟨_, rfl, ?_⟩; have n0_ := Aside0.mk (below_step (by repeat (first | (with_reducible first | exact HB.out | apply below_alloc | apply pw_below_drewN | apply below_drew1) | exact HB.out)) hb); clear HB; have HB := n0_; clear n0_; (try clear hb); (try clear hb2); (try clear hk); (try clear hi)) | ((with_reducible refine gate_callee (f := 16) rfl ?_); refine goesL_ (some 28) rfl rfl Try.func16 (by kernel_rfl) rfl #[.int .i64 (-1099511627777)] rfl (by (try simp only [List.map_toArray, List.map_cons, List.map_nil]); first | done | rfl | (simp only [List.length_drop, List.length_take]; rfl)) ?_; (with_reducible refine (tailwaterlaw20_at.calls (-1099511627777) t230 t231 t232 t233 t234 _ A2.out).mono ?_); rintro e w4 ⟨rfl, hb⟩; refine ⟨_, rfl, ?_⟩; have n0_ := Aside0.mk (below_step (by repeat (first | (with_reducible first | exact HB.out | apply below_alloc | apply pw_below_drewN | apply below_drew1) | exact HB.out)) hb); clear HB; have HB := n0_; clear n0_; (try clear hb); (try clear hb2); (try clear hk); (try clear hi)) | ((with_reducible refine gate_dst (N := 31) rfl ?_); (try (refine gate_guard (by rfl) ?_; dsimp only)); refine Kd.R_lit k40 _ 40 ?hg (N := 31) ?hd (xs := ([(⟨true, 1099511627777, (⟨0, 0, 0⟩ : S38)⟩ : S40), (⟨true, (-1099511627777), (⟨0, 0, 0⟩ : S38)⟩ : S40), (⟨true, 0, (⟨0, 0, 1⟩ : S38)⟩ : S40), (⟨false, 1, (⟨0, 0, 0⟩ : S38)⟩ : S40), (⟨t225, t226, (⟨t227, t228, t229⟩ : S38)⟩ : S40), (⟨t230, t231, (⟨t232, t233, t234⟩ : S38)⟩ : S40), (⟨true, (-9223372036854775808), (⟨0, 0, 0⟩ : S38)⟩ : S40), (⟨true, 9223372036854775806, (⟨0, 0, 0⟩ : S38)⟩ : S40)] : List (S40))) (inner := [.bool true, .int .i64 1099511627777, .int .i64 0, .int .i64 0, .int .i64 0, .bool true, .int .i64 (-1099511627777), .int .i64 0, .int .i64 0, .int .i64 0, .bool true, .int .i64 0, .int .i64 0, .int .i64 0, .int .i64 1, .bool false, .int .i64 1, .int .i64 0, .int .i64 0, .int .i64 0, .bool t225, .int .i64 t226, .int .i64 t227, .int .i64 t228, .int .i64 t229, .bool t230, .int .i64 t231, .int .i64 t232, .int .i64 t233, .int .i64 t234, .bool true, .int .i64 (-9223372036854775808), .int .i64 0, .int .i64 0, .int .i64 0, .bool true, .int .i64 9223372036854775806, .int .i64 0, .int .i64 0, .int .i64 0]) (ok := fun _ => True) (okp := fun _ => True) ?hr ?hp (fun _ hk => hk) trivial (Below.refl _ _) (Nat.le_refl _) (by simp) ?_; (case hd => rfl); (case hg => rfl); (case hr => first | (go_simp; done) | (go_simp; rfl)); (case hp => exact (Reps.c5 (show Kd.M k40 _ _ _ (⟨true, 1099511627777, (⟨0, 0, 0⟩ : S38)⟩ : S40) [.bool true, .int .i64 1099511627777, .int .i64 0, .int .i64 0, .int .i64 0] from (k40_mkM _ _ _ (⟨true, 1099511627777, (⟨0, 0, 0⟩ : S38)⟩ : S40) )) (Reps.c5 (show Kd.M k40 _ _ _ (⟨true, (-1099511627777), (⟨0, 0, 0⟩ : S38)⟩ : S40) [.bool true, .int .i64 (-1099511627777), .int .i64 0, .int .i64 0, .int .i64 0] from (k40_mkM _ _ _ (⟨true, (-1099511627777), (⟨0, 0, 0⟩ : S38)⟩ : S40) )) (Reps.c5 (show Kd.M k40 _ _ _ (⟨true, 0, (⟨0, 0, 1⟩ : S38)⟩ : S40) [.bool true, .int .i64 0, .int .i64 0, .int .i64 0, .int .i64 1] from (k40_mkM _ _ _ (⟨true, 0, (⟨0, 0, 1⟩ : S38)⟩ : S40) )) (Reps.c5 (show Kd.M k40 _ _ _ (⟨false, 1, (⟨0, 0, 0⟩ : S38)⟩ : S40) [.bool false, .int .i64 1, .int .i64 0, .int .i64 0, .int .i64 0] from (k40_mkM _ _ _ (⟨false, 1, (⟨0, 0, 0⟩ : S38)⟩ : S40) )) (Reps.c5 (show Kd.M k40 _ _ _ (⟨t225, t226, (⟨t227, t228, t229⟩ : S38)⟩ : S40) [.bool t225, .int .i64 t226, .int .i64 t227, .int .i64 t228, .int .i64 t229] from (k40_mkM _ _ _ (⟨t225, t226, (⟨t227, t228, t229⟩ : S38)⟩ : S40) )) (Reps.c5 (show Kd.M k40 _ _ _ (⟨t230, t231, (⟨t232, t233, t234⟩ : S38)⟩ : S40) [.bool t230, .int .i64 t231, .int .i64 t232, .int .i64 t233, .int .i64 t234] from (k40_mkM _ _ _ (⟨t230, t231, (⟨t232, t233, t234⟩ : S38)⟩ : S40) )) (Reps.c5 (show Kd.M k40 _ _ _ (⟨true, (-9223372036854775808), (⟨0, 0, 0⟩ : S38)⟩ : S40) [.bool true, .int .i64 (-9223372036854775808), .int .i64 0, .int .i64 0, .int .i64 0] from (k40_mkM _ _ _ (⟨true, (-9223372036854775808), (⟨0, 0, 0⟩ : S38)⟩ : S40) )) (Reps.c5 (show Kd.M k40 _ _ _ (⟨true, 9223372036854775806, (⟨0, 0, 0⟩ : S38)⟩ : S40) [.bool true, .int .i64 9223372036854775806, .int .i64 0, .int .i64 0, .int .i64 0] from (k40_mkM _ _ _ (⟨true, 9223372036854775806, (⟨0, 0, 0⟩ : S38)⟩ : S40) )) (Reps.none _ _)))))))))); intro v236 w5 ho6 hb hg_ hnew_; clear hg_ hnew_; (first | rw [← Ny235.out] at ho6 | (simp only [Int.reduceToNat] at ho6; rw [← Ny235.out] at ho6)); have n0_ := Aside0.mk (Kd.R_lower ho6 (below_size (by repeat (first | (with_reducible first | exact HB.out | apply below_alloc | apply pw_below_drewN | apply below_drew1) | exact HB.out)))); have n1_ := Aside0.mk (below_step (by repeat (first | (with_reducible first | exact HB.out | apply below_alloc | apply pw_below_drewN | apply below_drew1) | exact HB.out)) hb); clear HB; have HO237 := n0_; have HB := n1_; clear n0_ n1_; clear hb ho6))
  go_loopg [2] k (fun kq v2 w' => ∃ (x2_1 : Int), v2 = .int .i64 x2_1 ∧ Aside0 (tailwaterlaw20_LateNames.l0 kq y235 x2_1 = some true) ∧ Aside0 (kq ≤ k) ∧ Aside0 (Kd.R k40 40 w' w.heap.size (fun _ => True) v236 y235) ∧ Aside0 (Below w.heap.size w w'))
  case atStart => exact ⟨(0), (by first | rfl | (simp; done) | (simp [*]; done)), H', ⟨Nat.le_refl _⟩, ⟨by (with_reducible repeat (first | apply Kd.R_alloc | apply Kd.R_drewN | apply Kd.R_drew)); exact HO237.out⟩, ⟨by repeat (first | (with_reducible first | exact HB.out | apply below_alloc | apply pw_below_drewN | apply below_drew1) | exact HB.out)⟩⟩
  case round =>
    clear H'
    try clear c1
    try clear p2
    try clear c4
    try clear c5
    obtain ⟨x2_1, rfl, HA, HK1, HO_1, HB⟩ := hrel
    cases gk with
    | zero => exact absurd HA.out (by simp [tailwaterlaw20_LateNames.l0])
    | succ k1 =>
      have H := HA.out
      clear HA
      simp only [tailwaterlaw20_LateNames.l0] at H
      by_cases c7 : x2_1 < (y235.length : Int)
      · rw [if_pos c7] at H
        have c7b0 : decide (x2_1 < (y235.length : Int)) = true := decide_eq_true c7
        clear c7
        replace H := Option.bind_eq_some_iff.mp H
        obtain ⟨⟨t238, t239, t240, t241, t242⟩, A80, H⟩ := H
        try dsimp only at H
        have A8 := Aside0.mk A80
        clear A80
        by_cases c9 : 0 ≤ x2_1
        · rw [if_pos c9] at H
          have c9b0 : decide (0 ≤ x2_1) = true := decide_eq_true c9
          clear c9
          obtain ⟨y244, hy244⟩ : ∃ y_ : List (S40), y_ = (([(⟨t238, t239, (⟨t240, t241, t242⟩ : S38)⟩ : S40), (⟨(rd_T40 y235 x2_1).f0, (rd_T40 y235 x2_1).f1, (⟨(rd_T40 y235 x2_1).f2.f0, (rd_T40 y235 x2_1).f2.f1, (rd_T40 y235 x2_1).f2.f2⟩ : S38)⟩ : S40)] : List (S40))) := ⟨_, rfl⟩
          replace H : ((late_Mark.f k1 y244).bind fun bt247 => (if x2_1 ≤ (wrap64 (x2_1 + 1)) then (if (wrap64 (x2_1 + 1)) ≤ (y235.length : Int) then ((late_Split.f k1 ((y235.take ((wrap64 (x2_1 + 1)) : Int).toNat).drop (x2_1 : Int).toNat)).bind fun bt253 => ((late_Check.f k1 ((y235.take ((wrap64 (x2_1 + 1)) : Int).toNat).drop (x2_1 : Int).toNat)).bind fun t264 => (if t264 = 8 then (if bt247.2 = 8 then (if bt253.2.2 = 8 then (tailwaterlaw20_LateNames.l0 k1 y235 (wrap64 (x2_1 + 1))) else (some false)) else (some false)) else (some false)))) else (none)) else (none))) = some true := by first | (rw [hy244]; with_reducible exact H) | (have H2_ := (Option.bind_some _ _).symm.trans H; rw [hy244]; with_reducible exact H2_) | (have H2_ := (Option.bind_some _ _).symm.trans H; with_reducible exact H2_) | with_reducible exact H | (rw [hy244]; exact H) | exact H
          have Ny244 := Aside0.mk hy244
          clear hy244
          replace H := Option.bind_eq_some_iff.mp H
          obtain ⟨⟨t247, t248⟩, A100, H⟩ := H
          try dsimp only at H
          have A10 := Aside0.mk A100
          clear A100
          have c11b0 := eq_true (of_decide_eq_true (by first | (with_reducible assumption) | assumption) : 0 ≤ x2_1)
          by_cases c12 : x2_1 ≤ (wrap64 (x2_1 + 1))
          · rw [if_pos c12] at H
            have c12b0 := eq_true c12
            have c12b1 : decide (x2_1 ≤ (wrap64 (x2_1 + 1))) = true := decide_eq_true c12
            by_cases c13 : (wrap64 (x2_1 + 1)) ≤ (y235.length : Int)
            · rw [if_pos c13] at H
              have c13b0 := eq_true c13
              have c13b1 : decide ((wrap64 (x2_1 + 1)) ≤ (y235.length : Int)) = true := decide_eq_true c13
              obtain ⟨y249, hy249⟩ : ∃ y_ : List (S40), y_ = ((y235.take ((wrap64 (x2_1 + 1)) : Int).toNat).drop (x2_1 : Int).toNat) := ⟨_, rfl⟩
              replace H : ((late_Split.f k1 y249).bind fun bt253 => ((late_Check.f k1 ((y235.take ((wrap64 (x2_1 + 1)) : Int).toNat).drop (x2_1 : Int).toNat)).bind fun t264 => (if t264 = 8 then (if t248 = 8 then (if bt253.2.2 = 8 then (tailwaterlaw20_LateNames.l0 k1 y235 (wrap64 (x2_1 + 1))) else (some false)) else (some false)) else (some false)))) = some true := by first | (rw [hy249]; with_reducible exact H) | (have H2_ := (Option.bind_some _ _).symm.trans H; rw [hy249]; with_reducible exact H2_) | (have H2_ := (Option.bind_some _ _).symm.trans H; with_reducible exact H2_) | with_reducible exact H | (rw [hy249]; exact H) | exact H
              have Ny249 := Aside0.mk hy249
              clear hy249
              replace H := Option.bind_eq_some_iff.mp H
              obtain ⟨⟨t253, t254, t255⟩, A140, H⟩ := H
              try dsimp only at H
              have A14 := Aside0.mk A140
              clear A140
              have c15b0 := eq_true (of_decide_eq_true (by first | (with_reducible assumption) | assumption) : 0 ≤ x2_1)
              have c16b0 := eq_true (of_decide_eq_true (by first | (with_reducible assumption) | assumption) : x2_1 ≤ (wrap64 (x2_1 + 1)))
              have c17b0 := eq_true (of_decide_eq_true (by first | (with_reducible assumption) | assumption) : (wrap64 (x2_1 + 1)) ≤ (y235.length : Int))
              obtain ⟨y260, hy260⟩ : ∃ y_ : List (S40), y_ = ((y235.take ((wrap64 (x2_1 + 1)) : Int).toNat).drop (x2_1 : Int).toNat) := ⟨_, rfl⟩
              replace H : ((late_Check.f k1 y260).bind fun t264 => (if t264 = 8 then (if t248 = 8 then (if t255 = 8 then (tailwaterlaw20_LateNames.l0 k1 y235 (wrap64 (x2_1 + 1))) else (some false)) else (some false)) else (some false))) = some true := by first | (rw [hy260]; with_reducible exact H) | (have H2_ := (Option.bind_some _ _).symm.trans H; rw [hy260]; with_reducible exact H2_) | (have H2_ := (Option.bind_some _ _).symm.trans H; with_reducible exact H2_) | with_reducible exact H | (rw [hy260]; exact H) | exact H
              have Ny260 := Aside0.mk hy260
              have e_y260 : y249 = y260 := Ny249.out.trans Ny260.out.symm
              subst y249
              clear hy260
              replace H := Option.bind_eq_some_iff.mp H
              obtain ⟨t264, A180, H⟩ := H
              try dsimp only at H
              have A18 := Aside0.mk A180
              clear A180
              by_cases c19 : t264 = 8
              · rw [if_pos c19] at H
                have c19b0 : (t264 == 8) = true := beq_iff_eq.mpr c19
                have c19b1 : (t264 != 8) = false := bne_eq_false_iff_eq.mpr c19
                clear c19
                by_cases c20 : t248 = 8
                · rw [if_pos c20] at H
                  have c20b0 : (t248 == 8) = true := beq_iff_eq.mpr c20
                  have c20b1 : (t248 != 8) = false := bne_eq_false_iff_eq.mpr c20
                  clear c20
                  by_cases c21 : t255 = 8
                  · rw [if_pos c21] at H
                    have c21b0 : (t255 == 8) = true := beq_iff_eq.mpr c21
                    have c21b1 : (t255 != 8) = false := bne_eq_false_iff_eq.mpr c21
                    clear c21
                    have H' := Aside0.mk H
                    clear H
                    obtain ⟨Ao22, co22, eo22⟩ := Kd.R_slice HO_1.out
                    subst eo22
                    try go_wp2
                    have n0_ := Aside0.mk (Kd.R_drew HO_1.out)
                    have n1_ := Aside0.mk (below_drew1 HB.out)
                    clear HO_1
                    clear HB
                    have HO_1 := n0_
                    have HB := n1_
                    clear n0_ n1_
                    have p243 : 0 ≤ (x2_1 : Int) := of_decide_eq_true (by first | (with_reducible assumption) | assumption)
                    have q243 : x2_1 < (y235.length : Int) := of_decide_eq_true (by first | (with_reducible assumption) | assumption)
                    obtain ⟨ad243, e243, hx243_0, hx243_1, hx243_2, hx243_3, hx243_4⟩ := at_T40 (Kd.R_reads' HO_1.out).2.2 x2_1 p243 q243
                    cases e243
                    replace p243 := eq_true p243
                    replace q243 := eq_true q243
                    refine start_ (n := 12) (S := fun w' => w'.cell? (ad243.add ((x2_1).toNat * 5)) = some (.bool ((rd_T40 y235 x2_1).f0)) ∧ w'.cell? ⟨(ad243.add ((x2_1).toNat * 5)).block, (ad243.add ((x2_1).toNat * 5)).off + 1, none⟩ = some (.int .i64 ((rd_T40 y235 x2_1).f1)) ∧ w'.cell? ⟨(ad243.add ((x2_1).toNat * 5)).block, (ad243.add ((x2_1).toNat * 5)).off + 2, none⟩ = some (.int .i64 ((rd_T40 y235 x2_1).f2.f0)) ∧ w'.cell? ⟨(ad243.add ((x2_1).toNat * 5)).block, (ad243.add ((x2_1).toNat * 5)).off + 3, none⟩ = some (.int .i64 ((rd_T40 y235 x2_1).f2.f1)) ∧ w'.cell? ⟨(ad243.add ((x2_1).toNat * 5)).block, (ad243.add ((x2_1).toNat * 5)).off + 4, none⟩ = some (.int .i64 ((rd_T40 y235 x2_1).f2.f2))) (ds := []) #[false, false, false, false, false, false, false, false, false, false, false, false] (by kernel_rfl) rfl rfl ⟨hx243_0, hx243_1, hx243_2, hx243_3, hx243_4⟩ (fun hHeld => ?_); refine with_tabW tailwaterlaw20_LateNames.tab5 tailwaterlaw20_LateNames.bits5 (fun HT_ HW_ => ?_)
                    generalize wr.drew = w23 at HO_1 HB hx243_0 hx243_1 hx243_2 hx243_3 hx243_4 hHeld ⊢
                    refine pure_ (i := 1) (N := some 40) (v := ?_) (a' := ?_) #[false, true, false, false, false, false, false, false, false, false, false, false] rfl rfl (any_of HT_.out (by kernel_rfl)) (fun _ _ _ h => h) (Or.inl ⟨by rfl, ?_⟩) ?_ ?_
                    rotate_left
                    · intro w'
                      go_simp
                      with_reducible rfl
                    rotate_left
                    · simp only [Act.put, List.setIfInBounds_toArray, List.set_cons_zero, List.set_cons_succ, i64_w, i32_w]
                      rfl
                    refine pure_ (i := 2) (N := some 41) (v := ?_) (a' := ?_) #[false, true, true, false, false, false, false, false, false, false, false, false] rfl rfl (any_of HT_.out (by kernel_rfl)) (fun _ _ _ h => h) (Or.inl ⟨by rfl, ?_⟩) ?_ ?_
                    rotate_left
                    · intro w'
                      go_simp
                      with_reducible rfl
                    rotate_left
                    · simp only [Act.put, List.setIfInBounds_toArray, List.set_cons_zero, List.set_cons_succ, i64_w, i32_w]
                      rfl
                    refine pure_ (i := 3) (N := some 42) (v := ?_) (a' := ?_) #[false, true, true, true, false, false, false, false, false, false, false, false] rfl rfl (any_of HT_.out (by kernel_rfl)) (fun _ _ _ h => h) (Or.inl ⟨by rfl, ?_⟩) ?_ ?_
                    rotate_left
                    · intro w'
                      go_simp
                      with_reducible rfl
                    rotate_left
                    · simp only [Act.put, List.setIfInBounds_toArray, List.set_cons_zero, List.set_cons_succ, i64_w, i32_w]
                      rfl
                    refine take_ (i := 4) (N := some 43) (v := ?_) (a' := ?_) #[false, true, true, true, true, false, false, false, false, false, false, false] rfl rfl (take_ofW HT_.out HW_.out (by kernel_rfl)) (fun _ _ _ h => h) (Or.inl ⟨by rfl, ?_⟩) hHeld ?_ ?_
                    rotate_left
                    · rintro w' ⟨s0, s1, s2, s3, s4⟩
                      go_simp
                      with_reducible rfl
                    rotate_left
                    · simp only [Act.put, List.setIfInBounds_toArray, List.set_cons_zero, List.set_cons_succ, i64_w, i32_w]
                      rfl
                    refine one_ (i := 0) (N := some 39) #[true, true, true, true, true, false, false, false, false, false, false, false] rfl rfl (one_of HT_.out (by kernel_rfl)) (by decide) (fun K hK => ?_)
                    refine goes_ Try.func16 (by kernel_rfl) rfl #[.int .i64 0] (by rfl) rfl rfl (by (try simp only [List.map_toArray, List.map_cons, List.map_nil]); first | done | rfl | (simp only [List.length_drop, List.length_take]; rfl)) ?_
                    with_reducible refine (tailwaterlaw20_at.calls 0 t238 t239 t240 t241 t242 _ A8.out).mono ?_
                    rintro e w24 ⟨rfl, hb⟩
                    have HS0_ := (hb.cell (World.block_lt_of_cell? _ _ (hHeld.1))).trans (hHeld.1)
                    have HS1_ := (hb.cell (World.block_lt_of_cell? _ _ (hHeld.2.1))).trans (hHeld.2.1)
                    have HS2_ := (hb.cell (World.block_lt_of_cell? _ _ (hHeld.2.2.1))).trans (hHeld.2.2.1)
                    have HS3_ := (hb.cell (World.block_lt_of_cell? _ _ (hHeld.2.2.2.1))).trans (hHeld.2.2.2.1)
                    have HS4_ := (hb.cell (World.block_lt_of_cell? _ _ (hHeld.2.2.2.2))).trans (hHeld.2.2.2.2)
                    refine ⟨_, rfl, ?_⟩
                    have n0_ := Aside0.mk (Kd.R_below (by (with_reducible repeat (first | apply Kd.R_alloc | apply Kd.R_drewN | apply Kd.R_drew)); exact HO_1.out) hb)
                    have n1_ := Aside0.mk (below_step (by repeat (first | (with_reducible first | exact HB.out | apply below_alloc | apply pw_below_drewN | apply below_drew1) | exact HB.out)) hb)
                    clear HO_1
                    clear HB
                    have HO_1 := n0_
                    have HB := n1_
                    clear n0_ n1_
                    (try clear hb)
                    (try clear hb2)
                    (try clear hk)
                    (try clear hi)
                    refine hK.out _ _ ⟨HS0_, HS1_, HS2_, HS3_, HS4_⟩ (fun hHeld => ?_)
                    clear hK K
                    refine norm_ (a' := ?_) ?_ ?_
                    rotate_left
                    · show Act.put _ (some 39) _ = _
                      simp only [Act.put, List.setIfInBounds_toArray, List.set_cons_zero, List.set_cons_succ, i64_w, i32_w]
                      rfl
                    refine one_ (i := 5) (N := some 44) #[true, true, true, true, true, true, false, false, false, false, false, false] rfl rfl (one_of HT_.out (by kernel_rfl)) (by decide) (fun K hK => ?_)
                    refine Kd.R_lit_step k40 _ 40 ?hg (N := 44) ?hd (xs := ([(⟨t238, t239, (⟨t240, t241, t242⟩ : S38)⟩ : S40), (⟨(rd_T40 y235 x2_1).f0, (rd_T40 y235 x2_1).f1, (⟨(rd_T40 y235 x2_1).f2.f0, (rd_T40 y235 x2_1).f2.f1, (rd_T40 y235 x2_1).f2.f2⟩ : S38)⟩ : S40)] : List (S40))) (inner := [.bool t238, .int .i64 t239, .int .i64 t240, .int .i64 t241, .int .i64 t242, .bool ((rd_T40 y235 x2_1).f0), .int .i64 ((rd_T40 y235 x2_1).f1), .int .i64 ((rd_T40 y235 x2_1).f2.f0), .int .i64 ((rd_T40 y235 x2_1).f2.f1), .int .i64 ((rd_T40 y235 x2_1).f2.f2)]) (ok := fun _ => True) (okp := fun _ => True) ?hr ?hp (fun _ hk => hk) trivial (Below.refl _ _) (Nat.le_refl _) (by simp) ?_; (case hd => rfl); (case hg => rfl); (case hr => first | (go_simp; done) | (go_simp; rfl)); (case hp => exact (Reps.c5 (show Kd.M k40 _ _ _ (⟨t238, t239, (⟨t240, t241, t242⟩ : S38)⟩ : S40) [.bool t238, .int .i64 t239, .int .i64 t240, .int .i64 t241, .int .i64 t242] from (k40_mkM _ _ _ (⟨t238, t239, (⟨t240, t241, t242⟩ : S38)⟩ : S40) )) (Reps.c5 (show Kd.M k40 _ _ _ (⟨(rd_T40 y235 x2_1).f0, (rd_T40 y235 x2_1).f1, (⟨(rd_T40 y235 x2_1).f2.f0, (rd_T40 y235 x2_1).f2.f1, (rd_T40 y235 x2_1).f2.f2⟩ : S38)⟩ : S40) [.bool ((rd_T40 y235 x2_1).f0), .int .i64 ((rd_T40 y235 x2_1).f1), .int .i64 ((rd_T40 y235 x2_1).f2.f0), .int .i64 ((rd_T40 y235 x2_1).f2.f1), .int .i64 ((rd_T40 y235 x2_1).f2.f2)] from (k40_mkM _ _ _ (⟨(rd_T40 y235 x2_1).f0, (rd_T40 y235 x2_1).f1, (⟨(rd_T40 y235 x2_1).f2.f0, (rd_T40 y235 x2_1).f2.f1, (rd_T40 y235 x2_1).f2.f2⟩ : S38)⟩ : S40) )) (Reps.none _ _))))
                    intro v245 w25 ho26 hb hg_ hnew_
                    have HS0_ := (hb.cell (World.block_lt_of_cell? _ _ (hHeld.1))).trans (hHeld.1)
                    have HS1_ := (hb.cell (World.block_lt_of_cell? _ _ (hHeld.2.1))).trans (hHeld.2.1)
                    have HS2_ := (hb.cell (World.block_lt_of_cell? _ _ (hHeld.2.2.1))).trans (hHeld.2.2.1)
                    have HS3_ := (hb.cell (World.block_lt_of_cell? _ _ (hHeld.2.2.2.1))).trans (hHeld.2.2.2.1)
                    have HS4_ := (hb.cell (World.block_lt_of_cell? _ _ (hHeld.2.2.2.2))).trans (hHeld.2.2.2.2)
                    clear hg_ hnew_
                    (first | rw [← Ny244.out] at ho26 | (simp only [Int.reduceToNat] at ho26; rw [← Ny244.out] at ho26))
                    have n0_ := Aside0.mk (Kd.R_elder' (by (with_reducible repeat (first | apply Kd.R_alloc | apply Kd.R_drewN | apply Kd.R_drew)); exact HO_1.out) (Kd.R_base ho26) hb)
                    have n1_ := Aside0.mk (Kd.R_lower (Kd.R_new' ho26 (Kd.R_lt (by (with_reducible repeat (first | apply Kd.R_alloc | apply Kd.R_drewN | apply Kd.R_drew)); exact HO_1.out))) (below_size (by repeat (first | (with_reducible first | exact HB.out | apply below_alloc | apply pw_below_drewN | apply below_drew1) | exact HB.out))))
                    have n2_ := Aside0.mk (below_step (by repeat (first | (with_reducible first | exact HB.out | apply below_alloc | apply pw_below_drewN | apply below_drew1) | exact HB.out)) hb)
                    clear HO_1
                    clear HB
                    have HO_1 := n0_
                    have HO246 := n1_
                    have HB := n2_
                    clear n0_ n1_ n2_
                    clear hb ho26
                    obtain ⟨Ao27, co27, eo27⟩ := Kd.R_slice HO246.out
                    (first | subst eo27 | (injection eo27 with f1_ f2_ f3_; have f4_ := f1_.symm; have f5_ := f3_.symm; clear f1_ f2_ f3_; subst f4_; subst f5_))
                    refine hK.out _ _ ⟨HS0_, HS1_, HS2_, HS3_, HS4_⟩ (fun hHeld => ?_)
                    clear hK K
                    refine norm_ (a' := ?_) ?_ ?_
                    rotate_left
                    · show Act.put _ (some 44) _ = _
                      simp only [Act.put, List.setIfInBounds_toArray, List.set_cons_zero, List.set_cons_succ, i64_w, i32_w]
                      rfl
                    refine one_ (i := 6) (N := some 45) #[true, true, true, true, true, true, true, false, false, false, false, false] rfl rfl (one_of HT_.out (by kernel_rfl)) (by decide) (fun K hK => ?_)
                    refine goes_ Try.func9 (by kernel_rfl) rfl #[.slice Ao27 y244.length co27] (by rfl) rfl rfl (by (try simp only [List.map_toArray, List.map_cons, List.map_nil]); first | done | rfl | (simp only [List.length_drop, List.length_take]; rfl)) ?_
                    with_reducible refine (late_Mark.calls k1 _ _ y244 t247 t248 _ ?side1 ?side2 A10.out).mono ?_
                    (case side1 => repeat (first | exact (Kd.R_reads' HO246.out).2.2 | (with_reducible refine Kd.C_alloc ?_ _) | (with_reducible refine Kd.C_drewN ?_ _) | (with_reducible refine Kd.C_drew ?_)))
                    (case side2 => exact (Kd.R_reads' HO246.out).2.1)
                    rintro e w28 ⟨rfl, hb⟩
                    have HS0_ := (hb.cell (World.block_lt_of_cell? _ _ (hHeld.1))).trans (hHeld.1)
                    have HS1_ := (hb.cell (World.block_lt_of_cell? _ _ (hHeld.2.1))).trans (hHeld.2.1)
                    have HS2_ := (hb.cell (World.block_lt_of_cell? _ _ (hHeld.2.2.1))).trans (hHeld.2.2.1)
                    have HS3_ := (hb.cell (World.block_lt_of_cell? _ _ (hHeld.2.2.2.1))).trans (hHeld.2.2.2.1)
                    have HS4_ := (hb.cell (World.block_lt_of_cell? _ _ (hHeld.2.2.2.2))).trans (hHeld.2.2.2.2)
                    refine ⟨_, rfl, ?_⟩
                    have n0_ := Aside0.mk (Kd.R_below (by (with_reducible repeat (first | apply Kd.R_alloc | apply Kd.R_drewN | apply Kd.R_drew)); exact HO_1.out) hb)
                    have n1_ := Aside0.mk (Kd.R_below (by (with_reducible repeat (first | apply Kd.R_alloc | apply Kd.R_drewN | apply Kd.R_drew)); exact HO246.out) hb)
                    have n2_ := Aside0.mk (below_step (by repeat (first | (with_reducible first | exact HB.out | apply below_alloc | apply pw_below_drewN | apply below_drew1) | exact HB.out)) hb)
                    clear HO_1
                    clear HO246
                    clear HB
                    have HO_1 := n0_
                    have HO246 := n1_
                    have HB := n2_
                    clear n0_ n1_ n2_
                    (try clear hb)
                    (try clear hb2)
                    (try clear hk)
                    (try clear hi)
                    refine hK.out _ _ ⟨HS0_, HS1_, HS2_, HS3_, HS4_⟩ (fun hHeld => ?_)
                    clear hK K
                    refine norm_ (a' := ?_) ?_ ?_
                    rotate_left
                    · show Act.put _ (some 45) _ = _
                      simp only [Act.put, List.setIfInBounds_toArray, List.set_cons_zero, List.set_cons_succ, i64_w, i32_w]
                      rfl
                    refine pure_ (i := 7) (N := some 38) (v := ?_) (a' := ?_) #[true, true, true, true, true, true, true, true, false, false, false, false] rfl rfl (any_of HT_.out (by kernel_rfl)) (fun _ _ _ h => h) (Or.inl ⟨by rfl, ?_⟩) ?_ ?_
                    rotate_left
                    · intro w'
                      go_simp
                      with_reducible rfl
                    rotate_left
                    · simp only [Act.put, List.setIfInBounds_toArray, List.set_cons_zero, List.set_cons_succ, i64_w, i32_w]
                      rfl
                    refine pure_ (i := 8) (N := some 46) (v := ?_) (a' := ?_) #[true, true, true, true, true, true, true, true, true, false, false, false] rfl rfl (any_of HT_.out (by kernel_rfl)) (fun _ _ _ h => h) (Or.inl ⟨by rfl, ?_⟩) ?_ ?_
                    rotate_left
                    · intro w'
                      go_simp
                      with_reducible rfl
                    rotate_left
                    · simp only [Act.put, List.setIfInBounds_toArray, List.set_cons_zero, List.set_cons_succ, i64_w, i32_w]
                      rfl
                    refine pure_ (i := 9) (N := some 47) (v := ?_) (a' := ?_) #[true, true, true, true, true, true, true, true, true, true, false, false] rfl rfl (any_of HT_.out (by kernel_rfl)) (fun _ _ _ h => h) (Or.inl ⟨by rfl, ?_⟩) ?_ ?_
                    rotate_left
                    · intro w'
                      go_simp
                      with_reducible rfl
                    rotate_left
                    · simp only [Act.put, List.setIfInBounds_toArray, List.set_cons_zero, List.set_cons_succ, i64_w, i32_w]
                      rfl
                    refine pure_ (i := 10) (N := some 3) (v := ?_) (a' := ?_) #[true, true, true, true, true, true, true, true, true, true, true, false] rfl rfl (any_of HT_.out (by kernel_rfl)) (fun _ _ _ h => h) (Or.inl ⟨by rfl, ?_⟩) ?_ ?_
                    rotate_left
                    · intro w'
                      go_simp
                      with_reducible rfl
                    rotate_left
                    · simp only [Act.put, List.setIfInBounds_toArray, List.set_cons_zero, List.set_cons_succ, i64_w, i32_w]
                      rfl
                    refine pure_ (i := 11) (N := some 4) (v := ?_) (a' := ?_) #[true, true, true, true, true, true, true, true, true, true, true, true] rfl rfl (any_of HT_.out (by kernel_rfl)) (fun _ _ _ h => h) (Or.inl ⟨by rfl, ?_⟩) ?_ ?_
                    rotate_left
                    · intro w'
                      go_simp
                      with_reducible rfl
                    rotate_left
                    · simp only [Act.put, List.setIfInBounds_toArray, List.set_cons_zero, List.set_cons_succ, i64_w, i32_w]
                      rfl
                    refine done_ (done_of HT_.out (by kernel_rfl)) ?_
                    have q29 : ((wrap64 (x2_1 + 1)) : Int) ≤ ((y235.length : Int) : Int) := of_decide_eq_true (by first | (with_reducible assumption) | assumption)
                    obtain ⟨i029, hi029, _, hsz29, _⟩ := info_parts info40
                    have hroom29 : y235.length ≤ co22 := (Kd.R_reads' HO_1.out).2.1
                    have hC29 : Kd.C k40 _ (some ad243) y235.length y235 := (Kd.R_reads' HO_1.out).2.2
                    have ql29 : (x2_1 : Int) ≤ ((wrap64 (x2_1 + 1)) : Int) := of_decide_eq_true (by first | (with_reducible assumption) | assumption)
                    have q029 : (0 : Int) ≤ (x2_1 : Int) := of_decide_eq_true (by first | (with_reducible assumption) | assumption)
                    have hcut29 := cut_mid (P := Try.prog) 22 40 .i64 .i64 Try.underlying22 hi029 5 hsz29 (some ad243) y235.length co22 x2_1 (wrap64 (x2_1 + 1)) q029 ql29 q29 hroom29
                    have hr29 := Kd.C_mid (lo := (x2_1 : Int).toNat) (hi := ((wrap64 (x2_1 + 1)) : Int).toNat) (c := co22) hC29 (by omega) (by omega) hroom29
                    obtain ⟨A29, hA29⟩ : ∃ A1, A1 = (if co22 = (x2_1 : Int).toNat then (some ad243) else ((some ad243) : Option Addr).map (·.add ((x2_1 : Int).toNat * 5))) := ⟨_, rfl⟩
                    obtain ⟨c29, hc29⟩ : ∃ c1, c1 = co22 - (x2_1 : Int).toNat := ⟨_, rfl⟩
                    have hy29 : y260.length = ((wrap64 (x2_1 + 1)) : Int).toNat - (x2_1 : Int).toNat := (by rw [Ny249.out, List.length_drop, List.length_take] <;> omega)
                    rw [show ((y235).take ((wrap64 (x2_1 + 1)) : Int).toNat).drop (x2_1 : Int).toNat = y260 from Ny249.out.symm] at hr29
                    replace hr29 : Kd.C k40 _ A29 y260.length y260 := (by rw [hA29]; exact hr29)
                    rw [← hy29, ← hA29, ← hc29] at hcut29
                    have HR252 := Aside0.mk hr29
                    have HC252 := Aside0.mk (show y260.length ≤ c29 from by rw [hy29, hc29]; exact Nat.sub_le_sub_right (Nat.le_trans (by omega) hroom29) _)
                    clear hr29 hC29 hroom29 hi029 hsz29 hc29
                    have KY29 := Aside0.mk hy29
                    have KA29 := Aside0.mk hA29
                    clear hy29 hA29
                    have KL29 := Aside0.mk (show ((wrap64 (x2_1 + 1)) : Int).toNat ≤ y235.length from by omega)
                    have KM29 := Aside0.mk (show (x2_1 : Int).toNat ≤ ((wrap64 (x2_1 + 1)) : Int).toNat from by omega)
                    replace q29 := eq_true q29
                    try go_wp2_with (first | ((with_reducible refine gate_callee (f := 11) rfl ?_); refine goesL_ (some 54) rfl rfl Try.func11 (by kernel_rfl) rfl #[.slice A29 y260.length c29] rfl (by (try simp only [List.map_toArray, List.map_cons, List.map_nil]); first | done | rfl | (simp only [List.length_drop, List.length_take]; rfl)) ?_; (with_reducible refine (late_Split.calls k1 _ _ y260 t253 t254 t255 _ ?side1 ?side2 A14.out).mono ?_); (case side1 => repeat (first | exact (by repeat (first | (with_reducible exact HR252.out) | (with_reducible refine Kd.C_alloc ?_ _) | (with_reducible refine Kd.C_drewN ?_ _) | (with_reducible refine Kd.C_drew ?_) | exact HR252.out)) | (with_reducible refine Kd.C_alloc ?_ _) | (with_reducible refine Kd.C_drewN ?_ _) | (with_reducible refine Kd.C_drew ?_))); (case side2 => exact HC252.out); rintro e w30 ⟨v256, v258, rfl, ho0, ho1, hb⟩; refine ⟨_, rfl, ?_⟩; have n0_ := Aside0.mk (Kd.R_below (by (with_reducible repeat (first | apply Kd.R_alloc | apply Kd.R_drewN | apply Kd.R_drew)); exact HO_1.out) hb); have n1_ := Aside0.mk (Kd.R_below (by (with_reducible repeat (first | apply Kd.R_alloc | apply Kd.R_drewN | apply Kd.R_drew)); exact HO246.out) hb); have n2_ := Aside0.mk (Kd.R_lower ho0 (below_size (by repeat (first | (with_reducible first | exact HB.out | apply below_alloc | apply pw_below_drewN | apply below_drew1) | exact HB.out)))); have n3_ := Aside0.mk (Kd.R_lower ho1 (below_size (by repeat (first | (with_reducible first | exact HB.out | apply below_alloc | apply pw_below_drewN | apply below_drew1) | exact HB.out)))); have n4_ := Aside0.mk (Kd.C_below (by repeat (first | (with_reducible exact HR252.out) | (with_reducible refine Kd.C_alloc ?_ _) | (with_reducible refine Kd.C_drewN ?_ _) | (with_reducible refine Kd.C_drew ?_) | exact HR252.out)) hb); have n5_ := Aside0.mk (below_step (by repeat (first | (with_reducible first | exact HB.out | apply below_alloc | apply pw_below_drewN | apply below_drew1) | exact HB.out)) hb); clear HO_1; clear HO246; clear HR252; clear HB; have HO_1 := n0_; have HO246 := n1_; have HO257 := n2_; have HO259 := n3_; have HR252 := n4_; have HB := n5_; clear n0_ n1_ n2_ n3_ n4_ n5_; (try clear hb); (try clear hb2); (try clear hk); (try clear hi); (try clear ho0); (try clear ho1); have q31 : ((wrap64 (x2_1 + 1)) : Int) ≤ ((y235.length : Int) : Int) := of_decide_eq_true (by first | (with_reducible assumption) | assumption); obtain ⟨i031, hi031, _, hsz31, _⟩ := info_parts info40; have hroom31 : y235.length ≤ co22 := (Kd.R_reads' HO_1.out).2.1; have hC31 : Kd.C k40 _ (some ad243) y235.length y235 := (Kd.R_reads' HO_1.out).2.2; have ql31 : (x2_1 : Int) ≤ ((wrap64 (x2_1 + 1)) : Int) := of_decide_eq_true (by first | (with_reducible assumption) | assumption); have q031 : (0 : Int) ≤ (x2_1 : Int) := of_decide_eq_true (by first | (with_reducible assumption) | assumption); have hcut31 := cut_mid (P := Try.prog) 22 40 .i64 .i64 Try.underlying22 hi031 5 hsz31 (some ad243) y235.length co22 x2_1 (wrap64 (x2_1 + 1)) q031 ql31 q31 hroom31; have hr31 := Kd.C_mid (lo := (x2_1 : Int).toNat) (hi := ((wrap64 (x2_1 + 1)) : Int).toNat) (c := co22) hC31 (by omega) (by omega) hroom31; obtain ⟨A31, hA31⟩ : ∃ A1, A1 = (if co22 = (x2_1 : Int).toNat then (some ad243) else ((some ad243) : Option Addr).map (·.add ((x2_1 : Int).toNat * 5))) := ⟨_, rfl⟩; obtain ⟨c31, hc31⟩ : ∃ c1, c1 = co22 - (x2_1 : Int).toNat := ⟨_, rfl⟩; have hy31 : y260.length = ((wrap64 (x2_1 + 1)) : Int).toNat - (x2_1 : Int).toNat := (by rw [Ny260.out, List.length_drop, List.length_take] <;> omega); rw [show ((y235).take ((wrap64 (x2_1 + 1)) : Int).toNat).drop (x2_1 : Int).toNat = y260 from Ny260.out.symm] at hr31; replace hr31 : Kd.C k40 _ A31 y260.length y260 := (by rw [hA31]; exact hr31); rw [← hy31, ← hA31, ← hc31] at hcut31; have HR263 := Aside0.mk hr31; have HC263 := Aside0.mk (show y260.length ≤ c31 from by rw [hy31, hc31]; exact Nat.sub_le_sub_right (Nat.le_trans (by omega) hroom31) _); clear hr31 hC31 hroom31 hi031 hsz31 hc31; have KY31 := Aside0.mk hy31; have KA31 := Aside0.mk hA31; clear hy31 hA31; have KL31 := Aside0.mk (show ((wrap64 (x2_1 + 1)) : Int).toNat ≤ y235.length from by omega); have KM31 := Aside0.mk (show (x2_1 : Int).toNat ≤ ((wrap64 (x2_1 + 1)) : Int).toNat from by omega); replace q31 := eq_true q31) | ((with_reducible refine gate_callee (f := 14) rfl ?_); refine goesL_ (some 63) rfl rfl Try.func14 (by kernel_rfl) rfl #[.slice A31 y260.length c31] rfl (by (try simp only [List.map_toArray, List.map_cons, List.map_nil]); first | done | rfl | (simp only [List.length_drop, List.length_take]; rfl)) ?_; (with_reducible refine (late_Check.calls k1 _ _ y260 t264 _ ?side1 ?side2 A18.out).mono ?_); (case side1 => repeat (first | exact (by repeat (first | (with_reducible exact HR263.out) | (with_reducible refine Kd.C_alloc ?_ _) | (with_reducible refine Kd.C_drewN ?_ _) | (with_reducible refine Kd.C_drew ?_) | exact HR263.out)) | (with_reducible refine Kd.C_alloc ?_ _) | (with_reducible refine Kd.C_drewN ?_ _) | (with_reducible refine Kd.C_drew ?_))); (case side2 => exact HC263.out); rintro e w32 ⟨rfl, hb⟩; refine ⟨_, rfl, ?_⟩; have n0_ := Aside0.mk (Kd.R_below (by (with_reducible repeat (first | apply Kd.R_alloc | apply Kd.R_drewN | apply Kd.R_drew)); exact HO_1.out) hb); have n1_ := Aside0.mk (Kd.R_below (by (with_reducible repeat (first | apply Kd.R_alloc | apply Kd.R_drewN | apply Kd.R_drew)); exact HO246.out) hb); have n2_ := Aside0.mk (Kd.R_below (by (with_reducible repeat (first | apply Kd.R_alloc | apply Kd.R_drewN | apply Kd.R_drew)); exact HO257.out) hb); have n3_ := Aside0.mk (Kd.R_below (by (with_reducible repeat (first | apply Kd.R_alloc | apply Kd.R_drewN | apply Kd.R_drew)); exact HO259.out) hb); have n4_ := Aside0.mk (Kd.C_below (by repeat (first | (with_reducible exact HR252.out) | (with_reducible refine Kd.C_alloc ?_ _) | (with_reducible refine Kd.C_drewN ?_ _) | (with_reducible refine Kd.C_drew ?_) | exact HR252.out)) hb); have n5_ := Aside0.mk (Kd.C_below (by repeat (first | (with_reducible exact HR263.out) | (with_reducible refine Kd.C_alloc ?_ _) | (with_reducible refine Kd.C_drewN ?_ _) | (with_reducible refine Kd.C_drew ?_) | exact HR263.out)) hb); have n6_ := Aside0.mk (below_step (by repeat (first | (with_reducible first | exact HB.out | apply below_alloc | apply pw_below_drewN | apply below_drew1) | exact HB.out)) hb); clear HO_1; clear HO246; clear HO257; clear HO259; clear HR252; clear HR263; clear HB; have HO_1 := n0_; have HO246 := n1_; have HO257 := n2_; have HO259 := n3_; have HR252 := n4_; have HR263 := n5_; have HB := n6_; clear n0_ n1_ n2_ n3_ n4_ n5_ n6_; (try clear hb); (try clear hb2); (try clear hk); (try clear hi)) | ((with_reducible refine gate_callee (f := 14) rfl ?_); refine goesL_ (some 63) rfl rfl Try.func14 (by kernel_rfl) rfl #[.slice A29 y260.length c29] rfl (by (try simp only [List.map_toArray, List.map_cons, List.map_nil]); first | done | rfl | (simp only [List.length_drop, List.length_take]; rfl)) ?_; (with_reducible refine (late_Check.calls k1 _ _ y260 t264 _ ?side1 ?side2 A18.out).mono ?_); (case side1 => repeat (first | exact (by repeat (first | (with_reducible exact HR252.out) | (with_reducible refine Kd.C_alloc ?_ _) | (with_reducible refine Kd.C_drewN ?_ _) | (with_reducible refine Kd.C_drew ?_) | exact HR252.out)) | (with_reducible refine Kd.C_alloc ?_ _) | (with_reducible refine Kd.C_drewN ?_ _) | (with_reducible refine Kd.C_drew ?_))); (case side2 => exact HC252.out); rintro e w32 ⟨rfl, hb⟩; refine ⟨_, rfl, ?_⟩; have n0_ := Aside0.mk (Kd.R_below (by (with_reducible repeat (first | apply Kd.R_alloc | apply Kd.R_drewN | apply Kd.R_drew)); exact HO_1.out) hb); have n1_ := Aside0.mk (Kd.R_below (by (with_reducible repeat (first | apply Kd.R_alloc | apply Kd.R_drewN | apply Kd.R_drew)); exact HO246.out) hb); have n2_ := Aside0.mk (Kd.R_below (by (with_reducible repeat (first | apply Kd.R_alloc | apply Kd.R_drewN | apply Kd.R_drew)); exact HO257.out) hb); have n3_ := Aside0.mk (Kd.R_below (by (with_reducible repeat (first | apply Kd.R_alloc | apply Kd.R_drewN | apply Kd.R_drew)); exact HO259.out) hb); have n4_ := Aside0.mk (Kd.C_below (by repeat (first | (with_reducible exact HR252.out) | (with_reducible refine Kd.C_alloc ?_ _) | (with_reducible refine Kd.C_drewN ?_ _) | (with_reducible refine Kd.C_drew ?_) | exact HR252.out)) hb); have n5_ := Aside0.mk (Kd.C_below (by repeat (first | (with_reducible exact HR252.out) | (with_reducible refine Kd.C_alloc ?_ _) | (with_reducible refine Kd.C_drewN ?_ _) | (with_reducible refine Kd.C_drew ?_) | exact HR252.out)) hb); have n6_ := Aside0.mk (below_step (by repeat (first | (with_reducible first | exact HB.out | apply below_alloc | apply pw_below_drewN | apply below_drew1) | exact HB.out)) hb); clear HO_1; clear HO246; clear HO257; clear HO259; clear HR252; clear HB; have HO_1 := n0_; have HO246 := n1_; have HO257 := n2_; have HO259 := n3_; have HR252 := n4_; have HB := n6_; clear n0_ n1_ n2_ n3_ n4_ n5_ n6_; (try clear hb); (try clear hb2); (try clear hk); (try clear hi)))
                    go_roundg k1
                    case measure => have := HK1.out; omega
                    case rel => exact ⟨(wrap64 (x2_1 + 1)), (by first | rfl | (simp; done) | (simp [*]; done)), H', ⟨by have := HK1.out; omega⟩, ⟨by (with_reducible repeat (first | apply Kd.R_alloc | apply Kd.R_drewN | apply Kd.R_drew)); exact Kd.R_mono HO_1.out (fun _ hk => trivial)⟩, ⟨by repeat (first | (with_reducible first | exact HB.out | apply below_alloc | apply pw_below_drewN | apply below_drew1) | exact HB.out)⟩⟩
                  · rw [if_neg c21] at H
                    have c21b0 : (t255 == 8) = false := beq_eq_false_iff_ne.mpr c21
                    have c21b1 : (t255 != 8) = true := bne_iff_ne.mpr c21
                    exact absurd H (by decide)
                · rw [if_neg c20] at H
                  have c20b0 : (t248 == 8) = false := beq_eq_false_iff_ne.mpr c20
                  have c20b1 : (t248 != 8) = true := bne_iff_ne.mpr c20
                  exact absurd H (by decide)
              · rw [if_neg c19] at H
                have c19b0 : (t264 == 8) = false := beq_eq_false_iff_ne.mpr c19
                have c19b1 : (t264 != 8) = true := bne_iff_ne.mpr c19
                exact absurd H (by decide)
            · rw [if_neg c13] at H
              exact absurd H (by simp)
          · rw [if_neg c12] at H
            exact absurd H (by simp)
        · rw [if_neg c9] at H
          exact absurd H (by simp)
      · rw [if_neg c7] at H
        have c7b0 : decide (x2_1 < (y235.length : Int)) = false := decide_eq_false c7
        clear c7
        by_cases c33 : 61 ≤ 7036874417766
        · rw [if_pos c33] at H
          have c33b0 := eq_true c33
          have c33b1 : decide (61 ≤ 7036874417766) = true := decide_eq_true c33
          clear c33
          obtain ⟨y265, hy265⟩ : ∃ y_ : List (S40), y_ = (List.replicate 61 z40) := ⟨_, rfl⟩
          replace H : ((late_Mark.f k1 y265).bind fun bt268 => ((late_Split.f k1 y265).bind fun bt270 => (if 60 ≤ (y265.length : Int) then ((late_Mark.f k1 (y265.take 60)).bind fun bt281 => ((tailwaterlaw20_mark.f 9223372036854775807).bind fun bt283 => ((tailwaterlaw20_at.f 1099511627776).bind fun bt288 => ((tailwaterlaw20_mark.f 0).bind fun bt293 => ((tailwaterlaw20_at.f (-1099511627776)).bind fun bt298 => ((late_Split.f k1 (([(⟨bt283.1, bt283.2.1, (⟨bt283.2.2.1, bt283.2.2.2.1, bt283.2.2.2.2⟩ : S38)⟩ : S40), (⟨bt288.1, bt288.2.1, (⟨bt288.2.2.1, bt288.2.2.2.1, bt288.2.2.2.2⟩ : S38)⟩ : S40), (⟨bt293.1, bt293.2.1, (⟨bt293.2.2.1, bt293.2.2.2.1, bt293.2.2.2.2⟩ : S38)⟩ : S40), (⟨bt298.1, bt298.2.1, (⟨bt298.2.2.1, bt298.2.2.2.1, bt298.2.2.2.2⟩ : S38)⟩ : S40)] : List (S40)))).bind fun bt306 => ((tailwaterlaw20_mark.f (-1099511627776)).bind fun bt313 => ((tailwaterlaw20_at.f (-1099511627776)).bind fun bt318 => ((tailwaterlaw20_mark.f 1099511627776).bind fun bt323 => ((tailwaterlaw20_at.f 1099511627776).bind fun bt328 => ((late_Split.f k1 (([(⟨bt313.1, bt313.2.1, (⟨bt313.2.2.1, bt313.2.2.2.1, bt313.2.2.2.2⟩ : S38)⟩ : S40), (⟨bt318.1, bt318.2.1, (⟨bt318.2.2.1, bt318.2.2.2.1, bt318.2.2.2.2⟩ : S38)⟩ : S40), (⟨bt323.1, bt323.2.1, (⟨bt323.2.2.1, bt323.2.2.2.1, bt323.2.2.2.2⟩ : S38)⟩ : S40), (⟨bt328.1, bt328.2.1, (⟨bt328.2.2.1, bt328.2.2.2.1, bt328.2.2.2.2⟩ : S38)⟩ : S40)] : List (S40)))).bind fun bt336 => ((tailwaterlaw20_alive.f k1).bind fun t343 => (if t343 = true then (if bt268.2 = 4 then (if bt270.2.2 = 4 then (if bt281.2 = 0 then (if bt281.1 = (-9223372036854775808) then (if bt306.2.2 = 0 then (if (bt306.1.length : Int) = 0 then ((tailwaterlaw20_times.f k1 bt306.2.1 (([1099511627776, (-1099511627776)] : List Int))).bind fun t347 => (if t347 = true then (if bt336.2.2 = 0 then ((tailwaterlaw20_times.f k1 bt336.1 (([(-1099511627776), 1099511627776] : List Int))).bind fun t351 => (if t351 = true then (some ((bt336.2.1.length : Int) == 0)) else (some false))) else (some false)) else (some false))) else (some false)) else (some false)) else (some false)) else (some false)) else (some false)) else (some false)) else (some false)))))))))))))) else (none)))) = some true := by first | (rw [hy265]; with_reducible exact H) | (have H2_ := (Option.bind_some _ _).symm.trans H; rw [hy265]; with_reducible exact H2_) | (have H2_ := (Option.bind_some _ _).symm.trans H; with_reducible exact H2_) | with_reducible exact H | (rw [hy265]; exact H) | exact H
          have Ny265 := Aside0.mk hy265
          clear hy265
          replace H := Option.bind_eq_some_iff.mp H
          obtain ⟨⟨t268, t269⟩, A340, H⟩ := H
          try dsimp only at H
          have A34 := Aside0.mk A340
          clear A340
          replace H := Option.bind_eq_some_iff.mp H
          obtain ⟨⟨t270, t271, t272⟩, A350, H⟩ := H
          try dsimp only at H
          have A35 := Aside0.mk A350
          clear A350
          by_cases c36 : 60 ≤ (y265.length : Int)
          · rw [if_pos c36] at H
            have c36b0 := eq_true c36
            have c36b1 : decide (60 ≤ (y265.length : Int)) = true := decide_eq_true c36
            clear c36
            obtain ⟨y277, hy277⟩ : ∃ y_ : List (S40), y_ = (y265.take 60) := ⟨_, rfl⟩
            replace H : ((late_Mark.f k1 y277).bind fun bt281 => ((tailwaterlaw20_mark.f 9223372036854775807).bind fun bt283 => ((tailwaterlaw20_at.f 1099511627776).bind fun bt288 => ((tailwaterlaw20_mark.f 0).bind fun bt293 => ((tailwaterlaw20_at.f (-1099511627776)).bind fun bt298 => ((late_Split.f k1 (([(⟨bt283.1, bt283.2.1, (⟨bt283.2.2.1, bt283.2.2.2.1, bt283.2.2.2.2⟩ : S38)⟩ : S40), (⟨bt288.1, bt288.2.1, (⟨bt288.2.2.1, bt288.2.2.2.1, bt288.2.2.2.2⟩ : S38)⟩ : S40), (⟨bt293.1, bt293.2.1, (⟨bt293.2.2.1, bt293.2.2.2.1, bt293.2.2.2.2⟩ : S38)⟩ : S40), (⟨bt298.1, bt298.2.1, (⟨bt298.2.2.1, bt298.2.2.2.1, bt298.2.2.2.2⟩ : S38)⟩ : S40)] : List (S40)))).bind fun bt306 => ((tailwaterlaw20_mark.f (-1099511627776)).bind fun bt313 => ((tailwaterlaw20_at.f (-1099511627776)).bind fun bt318 => ((tailwaterlaw20_mark.f 1099511627776).bind fun bt323 => ((tailwaterlaw20_at.f 1099511627776).bind fun bt328 => ((late_Split.f k1 (([(⟨bt313.1, bt313.2.1, (⟨bt313.2.2.1, bt313.2.2.2.1, bt313.2.2.2.2⟩ : S38)⟩ : S40), (⟨bt318.1, bt318.2.1, (⟨bt318.2.2.1, bt318.2.2.2.1, bt318.2.2.2.2⟩ : S38)⟩ : S40), (⟨bt323.1, bt323.2.1, (⟨bt323.2.2.1, bt323.2.2.2.1, bt323.2.2.2.2⟩ : S38)⟩ : S40), (⟨bt328.1, bt328.2.1, (⟨bt328.2.2.1, bt328.2.2.2.1, bt328.2.2.2.2⟩ : S38)⟩ : S40)] : List (S40)))).bind fun bt336 => ((tailwaterlaw20_alive.f k1).bind fun t343 => (if t343 = true then (if t269 = 4 then (if t272 = 4 then (if bt281.2 = 0 then (if bt281.1 = (-9223372036854775808) then (if bt306.2.2 = 0 then (if (bt306.1.length : Int) = 0 then ((tailwaterlaw20_times.f k1 bt306.2.1 (([1099511627776, (-1099511627776)] : List Int))).bind fun t347 => (if t347 = true then (if bt336.2.2 = 0 then ((tailwaterlaw20_times.f k1 bt336.1 (([(-1099511627776), 1099511627776] : List Int))).bind fun t351 => (if t351 = true then (some ((bt336.2.1.length : Int) == 0)) else (some false))) else (some false)) else (some false))) else (some false)) else (some false)) else (some false)) else (some false)) else (some false)) else (some false)) else (some false)))))))))))))) = some true := by first | (rw [hy277]; with_reducible exact H) | (have H2_ := (Option.bind_some _ _).symm.trans H; rw [hy277]; with_reducible exact H2_) | (have H2_ := (Option.bind_some _ _).symm.trans H; with_reducible exact H2_) | with_reducible exact H | (rw [hy277]; exact H) | exact H
            have Ny277 := Aside0.mk hy277
            clear hy277
            replace H := Option.bind_eq_some_iff.mp H
            obtain ⟨⟨t281, t282⟩, A370, H⟩ := H
            try dsimp only at H
            have A37 := Aside0.mk A370
            clear A370
            replace H := Option.bind_eq_some_iff.mp H
            obtain ⟨⟨t283, t284, t285, t286, t287⟩, A380, H⟩ := H
            try dsimp only at H
            have A38 := Aside0.mk A380
            clear A380
            replace H := Option.bind_eq_some_iff.mp H
            obtain ⟨⟨t288, t289, t290, t291, t292⟩, A390, H⟩ := H
            try dsimp only at H
            have A39 := Aside0.mk A390
            clear A390
            replace H := Option.bind_eq_some_iff.mp H
            obtain ⟨⟨t293, t294, t295, t296, t297⟩, A400, H⟩ := H
            try dsimp only at H
            have A40 := Aside0.mk A400
            clear A400
            replace H := Option.bind_eq_some_iff.mp H
            obtain ⟨⟨t298, t299, t300, t301, t302⟩, A410, H⟩ := H
            try dsimp only at H
            have A41 := Aside0.mk A410
            clear A410
            obtain ⟨y303, hy303⟩ : ∃ y_ : List (S40), y_ = (([(⟨t283, t284, (⟨t285, t286, t287⟩ : S38)⟩ : S40), (⟨t288, t289, (⟨t290, t291, t292⟩ : S38)⟩ : S40), (⟨t293, t294, (⟨t295, t296, t297⟩ : S38)⟩ : S40), (⟨t298, t299, (⟨t300, t301, t302⟩ : S38)⟩ : S40)] : List (S40))) := ⟨_, rfl⟩
            replace H : ((late_Split.f k1 y303).bind fun bt306 => ((tailwaterlaw20_mark.f (-1099511627776)).bind fun bt313 => ((tailwaterlaw20_at.f (-1099511627776)).bind fun bt318 => ((tailwaterlaw20_mark.f 1099511627776).bind fun bt323 => ((tailwaterlaw20_at.f 1099511627776).bind fun bt328 => ((late_Split.f k1 (([(⟨bt313.1, bt313.2.1, (⟨bt313.2.2.1, bt313.2.2.2.1, bt313.2.2.2.2⟩ : S38)⟩ : S40), (⟨bt318.1, bt318.2.1, (⟨bt318.2.2.1, bt318.2.2.2.1, bt318.2.2.2.2⟩ : S38)⟩ : S40), (⟨bt323.1, bt323.2.1, (⟨bt323.2.2.1, bt323.2.2.2.1, bt323.2.2.2.2⟩ : S38)⟩ : S40), (⟨bt328.1, bt328.2.1, (⟨bt328.2.2.1, bt328.2.2.2.1, bt328.2.2.2.2⟩ : S38)⟩ : S40)] : List (S40)))).bind fun bt336 => ((tailwaterlaw20_alive.f k1).bind fun t343 => (if t343 = true then (if t269 = 4 then (if t272 = 4 then (if t282 = 0 then (if t281 = (-9223372036854775808) then (if bt306.2.2 = 0 then (if (bt306.1.length : Int) = 0 then ((tailwaterlaw20_times.f k1 bt306.2.1 (([1099511627776, (-1099511627776)] : List Int))).bind fun t347 => (if t347 = true then (if bt336.2.2 = 0 then ((tailwaterlaw20_times.f k1 bt336.1 (([(-1099511627776), 1099511627776] : List Int))).bind fun t351 => (if t351 = true then (some ((bt336.2.1.length : Int) == 0)) else (some false))) else (some false)) else (some false))) else (some false)) else (some false)) else (some false)) else (some false)) else (some false)) else (some false)) else (some false))))))))) = some true := by first | (rw [hy303]; with_reducible exact H) | (have H2_ := (Option.bind_some _ _).symm.trans H; rw [hy303]; with_reducible exact H2_) | (have H2_ := (Option.bind_some _ _).symm.trans H; with_reducible exact H2_) | with_reducible exact H | (rw [hy303]; exact H) | exact H
            have Ny303 := Aside0.mk hy303
            clear hy303
            replace H := Option.bind_eq_some_iff.mp H
            obtain ⟨⟨t306, t307, t308⟩, A420, H⟩ := H
            try dsimp only at H
            have A42 := Aside0.mk A420
            clear A420
            replace H := Option.bind_eq_some_iff.mp H
            obtain ⟨⟨t313, t314, t315, t316, t317⟩, A430, H⟩ := H
            try dsimp only at H
            have A43 := Aside0.mk A430
            clear A430
            replace H := Option.bind_eq_some_iff.mp H
            obtain ⟨⟨t318, t319, t320, t321, t322⟩, A440, H⟩ := H
            try dsimp only at H
            have A44 := Aside0.mk A440
            clear A440
            replace H := Option.bind_eq_some_iff.mp H
            obtain ⟨⟨t323, t324, t325, t326, t327⟩, A450, H⟩ := H
            try dsimp only at H
            have A45 := Aside0.mk A450
            clear A450
            replace H := Option.bind_eq_some_iff.mp H
            obtain ⟨⟨t328, t329, t330, t331, t332⟩, A460, H⟩ := H
            try dsimp only at H
            have A46 := Aside0.mk A460
            clear A460
            obtain ⟨y333, hy333⟩ : ∃ y_ : List (S40), y_ = (([(⟨t313, t314, (⟨t315, t316, t317⟩ : S38)⟩ : S40), (⟨t318, t319, (⟨t320, t321, t322⟩ : S38)⟩ : S40), (⟨t323, t324, (⟨t325, t326, t327⟩ : S38)⟩ : S40), (⟨t328, t329, (⟨t330, t331, t332⟩ : S38)⟩ : S40)] : List (S40))) := ⟨_, rfl⟩
            replace H : ((late_Split.f k1 y333).bind fun bt336 => ((tailwaterlaw20_alive.f k1).bind fun t343 => (if t343 = true then (if t269 = 4 then (if t272 = 4 then (if t282 = 0 then (if t281 = (-9223372036854775808) then (if t308 = 0 then (if (t306.length : Int) = 0 then ((tailwaterlaw20_times.f k1 t307 (([1099511627776, (-1099511627776)] : List Int))).bind fun t347 => (if t347 = true then (if bt336.2.2 = 0 then ((tailwaterlaw20_times.f k1 bt336.1 (([(-1099511627776), 1099511627776] : List Int))).bind fun t351 => (if t351 = true then (some ((bt336.2.1.length : Int) == 0)) else (some false))) else (some false)) else (some false))) else (some false)) else (some false)) else (some false)) else (some false)) else (some false)) else (some false)) else (some false)))) = some true := by first | (rw [hy333]; with_reducible exact H) | (have H2_ := (Option.bind_some _ _).symm.trans H; rw [hy333]; with_reducible exact H2_) | (have H2_ := (Option.bind_some _ _).symm.trans H; with_reducible exact H2_) | with_reducible exact H | (rw [hy333]; exact H) | exact H
            have Ny333 := Aside0.mk hy333
            clear hy333
            replace H := Option.bind_eq_some_iff.mp H
            obtain ⟨⟨t336, t337, t338⟩, A470, H⟩ := H
            try dsimp only at H
            have A47 := Aside0.mk A470
            clear A470
            replace H := Option.bind_eq_some_iff.mp H
            obtain ⟨t343, A480, H⟩ := H
            try dsimp only at H
            have A48 := Aside0.mk A480
            clear A480
            by_cases c49 : t343 = true
            · subst c49
              have H1 := H
              rw [if_pos rfl] at H1
              clear H
              have H := H1
              clear H1
              by_cases c50 : t269 = 4
              · rw [if_pos c50] at H
                have c50b0 : (t269 == 4) = true := beq_iff_eq.mpr c50
                have c50b1 : (t269 != 4) = false := bne_eq_false_iff_eq.mpr c50
                clear c50
                by_cases c51 : t272 = 4
                · rw [if_pos c51] at H
                  have c51b0 : (t272 == 4) = true := beq_iff_eq.mpr c51
                  have c51b1 : (t272 != 4) = false := bne_eq_false_iff_eq.mpr c51
                  clear c51
                  by_cases c52 : t282 = 0
                  · rw [if_pos c52] at H
                    have c52b0 : (t282 == 0) = true := beq_iff_eq.mpr c52
                    have c52b1 : (t282 != 0) = false := bne_eq_false_iff_eq.mpr c52
                    clear c52
                    by_cases c53 : t281 = (-9223372036854775808)
                    · rw [if_pos c53] at H
                      have c53b0 : (t281 == (-9223372036854775808)) = true := beq_iff_eq.mpr c53
                      have c53b1 : (t281 != (-9223372036854775808)) = false := bne_eq_false_iff_eq.mpr c53
                      clear c53
                      by_cases c54 : t308 = 0
                      · rw [if_pos c54] at H
                        have c54b0 : (t308 == 0) = true := beq_iff_eq.mpr c54
                        have c54b1 : (t308 != 0) = false := bne_eq_false_iff_eq.mpr c54
                        clear c54
                        by_cases c55 : (t306.length : Int) = 0
                        · rw [if_pos c55] at H
                          have c55b0 : ((t306.length : Int) == 0) = true := beq_iff_eq.mpr c55
                          have c55b1 : ((t306.length : Int) != 0) = false := bne_eq_false_iff_eq.mpr c55
                          clear c55
                          obtain ⟨y344, hy344⟩ : ∃ y_ : List Int, y_ = (([1099511627776, (-1099511627776)] : List Int)) := ⟨_, rfl⟩
                          replace H : ((tailwaterlaw20_times.f k1 t307 y344).bind fun t347 => (if t347 = true then (if t338 = 0 then ((tailwaterlaw20_times.f k1 t336 (([(-1099511627776), 1099511627776] : List Int))).bind fun t351 => (if t351 = true then (some ((t337.length : Int) == 0)) else (some false))) else (some false)) else (some false))) = some true := by first | (rw [hy344]; with_reducible exact H) | (have H2_ := (Option.bind_some _ _).symm.trans H; rw [hy344]; with_reducible exact H2_) | (have H2_ := (Option.bind_some _ _).symm.trans H; with_reducible exact H2_) | with_reducible exact H | (rw [hy344]; exact H) | exact H
                          have Ny344 := Aside0.mk hy344
                          clear hy344
                          replace H := Option.bind_eq_some_iff.mp H
                          obtain ⟨t347, A560, H⟩ := H
                          try dsimp only at H
                          have A56 := Aside0.mk A560
                          clear A560
                          by_cases c57 : t347 = true
                          · subst c57
                            have H1 := H
                            rw [if_pos rfl] at H1
                            clear H
                            have H := H1
                            clear H1
                            by_cases c58 : t338 = 0
                            · rw [if_pos c58] at H
                              have c58b0 : (t338 == 0) = true := beq_iff_eq.mpr c58
                              have c58b1 : (t338 != 0) = false := bne_eq_false_iff_eq.mpr c58
                              clear c58
                              obtain ⟨y348, hy348⟩ : ∃ y_ : List Int, y_ = (([(-1099511627776), 1099511627776] : List Int)) := ⟨_, rfl⟩
                              replace H : ((tailwaterlaw20_times.f k1 t336 y348).bind fun t351 => (if t351 = true then (some ((t337.length : Int) == 0)) else (some false))) = some true := by first | (rw [hy348]; with_reducible exact H) | (have H2_ := (Option.bind_some _ _).symm.trans H; rw [hy348]; with_reducible exact H2_) | (have H2_ := (Option.bind_some _ _).symm.trans H; with_reducible exact H2_) | with_reducible exact H | (rw [hy348]; exact H) | exact H
                              have Ny348 := Aside0.mk hy348
                              clear hy348
                              replace H := Option.bind_eq_some_iff.mp H
                              obtain ⟨t351, A590, H⟩ := H
                              try dsimp only at H
                              have A59 := Aside0.mk A590
                              clear A590
                              by_cases c60 : t351 = true
                              · subst c60
                                have H1 := H
                                rw [if_pos rfl] at H1
                                clear H
                                have H := H1
                                clear H1
                                have HV_ := Option.some.inj H
                                clear H
                                obtain ⟨Ao61, co61, eo61⟩ := Kd.R_slice HO_1.out
                                subst eo61
                                go_wp2_with (first | ((with_reducible refine gate_dst (N := 73) rfl ?_); (try (refine gate_guard (by rfl) ?_; dsimp only)); refine Kd.R_make k40 _ 40 rfl (N := 73) rfl 22 _ _ rfl 61 rfl rfl Try.underlying22 (.agg #[(.bool false), (.int .i64 0), (.int .i64 0), (.int .i64 0), (.int .i64 0)]) 40 info40 rfl (by decide) (by omega) z40 (ok := fun _ => True) (okp := fun _ => True) (k40_mkM _ _ _ z40 ) (fun _ hk => hk) trivial (by omega) (by omega) (Below.refl _ _) (Nat.le_refl _) ?_; intro v266 w62 ho63 hb hg_ hnew_; clear hg_ hnew_; (first | rw [← Ny265.out] at ho63 | (simp only [Int.reduceToNat] at ho63; rw [← Ny265.out] at ho63)); have n0_ := Aside0.mk (Kd.R_elder' (by (with_reducible repeat (first | apply Kd.R_alloc | apply Kd.R_drewN | apply Kd.R_drew)); exact HO_1.out) (Kd.R_base ho63) hb); have n1_ := Aside0.mk (Kd.R_lower (Kd.R_new' ho63 (Kd.R_lt (by (with_reducible repeat (first | apply Kd.R_alloc | apply Kd.R_drewN | apply Kd.R_drew)); exact HO_1.out))) (below_size (by repeat (first | (with_reducible first | exact HB.out | apply below_alloc | apply pw_below_drewN | apply below_drew1) | exact HB.out)))); have n2_ := Aside0.mk (below_step (by repeat (first | (with_reducible first | exact HB.out | apply below_alloc | apply pw_below_drewN | apply below_drew1) | exact HB.out)) hb); clear HO_1; clear HB; have HO_1 := n0_; have HO267 := n1_; have HB := n2_; clear n0_ n1_ n2_; clear hb ho63; obtain ⟨Ao64, co64, eo64⟩ := Kd.R_slice HO267.out; subst eo64) | ((with_reducible refine gate_callee (f := 9) rfl ?_); refine goesL_ (some 76) rfl rfl Try.func9 (by kernel_rfl) rfl #[.slice Ao64 y265.length co64] rfl (by (try simp only [List.map_toArray, List.map_cons, List.map_nil]); first | done | rfl | (simp only [List.length_drop, List.length_take]; rfl)) ?_; (with_reducible refine (late_Mark.calls k1 _ _ y265 t268 t269 _ ?side1 ?side2 A34.out).mono ?_); (case side1 => repeat (first | exact (Kd.R_reads' HO267.out).2.2 | (with_reducible refine Kd.C_alloc ?_ _) | (with_reducible refine Kd.C_drewN ?_ _) | (with_reducible refine Kd.C_drew ?_))); (case side2 => exact (Kd.R_reads' HO267.out).2.1); rintro e w65 ⟨rfl, hb⟩; refine ⟨_, rfl, ?_⟩; have n0_ := Aside0.mk (Kd.R_below (by (with_reducible repeat (first | apply Kd.R_alloc | apply Kd.R_drewN | apply Kd.R_drew)); exact HO_1.out) hb); have n1_ := Aside0.mk (Kd.R_below (by (with_reducible repeat (first | apply Kd.R_alloc | apply Kd.R_drewN | apply Kd.R_drew)); exact HO267.out) hb); have n2_ := Aside0.mk (below_step (by repeat (first | (with_reducible first | exact HB.out | apply below_alloc | apply pw_below_drewN | apply below_drew1) | exact HB.out)) hb); clear HO_1; clear HO267; clear HB; have HO_1 := n0_; have HO267 := n1_; have HB := n2_; clear n0_ n1_ n2_; (try clear hb); (try clear hb2); (try clear hk); (try clear hi)) | ((with_reducible refine gate_callee (f := 11) rfl ?_); refine goesL_ (some 81) rfl rfl Try.func11 (by kernel_rfl) rfl #[.slice Ao64 y265.length co64] rfl (by (try simp only [List.map_toArray, List.map_cons, List.map_nil]); first | done | rfl | (simp only [List.length_drop, List.length_take]; rfl)) ?_; (with_reducible refine (late_Split.calls k1 _ _ y265 t270 t271 t272 _ ?side1 ?side2 A35.out).mono ?_); (case side1 => repeat (first | exact (Kd.R_reads' HO267.out).2.2 | (with_reducible refine Kd.C_alloc ?_ _) | (with_reducible refine Kd.C_drewN ?_ _) | (with_reducible refine Kd.C_drew ?_))); (case side2 => exact (Kd.R_reads' HO267.out).2.1); rintro e w66 ⟨v273, v275, rfl, ho0, ho1, hb⟩; refine ⟨_, rfl, ?_⟩; have n0_ := Aside0.mk (Kd.R_below (by (with_reducible repeat (first | apply Kd.R_alloc | apply Kd.R_drewN | apply Kd.R_drew)); exact HO_1.out) hb); have n1_ := Aside0.mk (Kd.R_below (by (with_reducible repeat (first | apply Kd.R_alloc | apply Kd.R_drewN | apply Kd.R_drew)); exact HO267.out) hb); have n2_ := Aside0.mk (Kd.R_lower ho0 (below_size (by repeat (first | (with_reducible first | exact HB.out | apply below_alloc | apply pw_below_drewN | apply below_drew1) | exact HB.out)))); have n3_ := Aside0.mk (Kd.R_lower ho1 (below_size (by repeat (first | (with_reducible first | exact HB.out | apply below_alloc | apply pw_below_drewN | apply below_drew1) | exact HB.out)))); have n4_ := Aside0.mk (below_step (by repeat (first | (with_reducible first | exact HB.out | apply below_alloc | apply pw_below_drewN | apply below_drew1) | exact HB.out)) hb); clear HO_1; clear HO267; clear HB; have HO_1 := n0_; have HO267 := n1_; have HO274 := n2_; have HO276 := n3_; have HB := n4_; clear n0_ n1_ n2_ n3_ n4_; (try clear hb); (try clear hb2); (try clear hk); (try clear hi); (try clear ho0); (try clear ho1); have q67 : (60 : Int) ≤ ((y265.length : Int) : Int) := of_decide_eq_true (by first | (with_reducible assumption) | assumption); obtain ⟨i067, hi067, _, hsz67, _⟩ := info_parts info40; have hroom67 : y265.length ≤ co64 := (Kd.R_reads' HO267.out).2.1; have hC67 : Kd.C k40 _ Ao64 y265.length y265 := (Kd.R_reads' HO267.out).2.2; have hcut67 := cut_to (P := Try.prog) 22 40 .i64 Try.underlying22 hi067 Ao64 y265.length co64 60 (by omega) q67 hroom67; have hr67 := Kd.C_take (m := 60) hC67 (by omega); have hy67 : y277.length = (60 : Int).toNat := (by rw [Ny277.out, List.length_take]; omega); rw [← Ny277.out] at hr67; rw [← hy67] at hcut67; have HR280 := Aside0.mk hr67; have HC280 := Aside0.mk (show y277.length ≤ co64 from by omega); clear hr67 hC67 hroom67 hi067 hsz67; have KY67 := Aside0.mk hy67; clear hy67; have KL67 := Aside0.mk (show 60 ≤ y265.length from by omega); replace q67 := eq_true q67) | ((with_reducible refine gate_callee (f := 9) rfl ?_); refine goesL_ (some 88) rfl rfl Try.func9 (by kernel_rfl) rfl #[.slice Ao64 y277.length co64] rfl (by (try simp only [List.map_toArray, List.map_cons, List.map_nil]); first | done | rfl | (simp only [List.length_drop, List.length_take]; rfl)) ?_; (with_reducible refine (late_Mark.calls k1 _ _ y277 t281 t282 _ ?side1 ?side2 A37.out).mono ?_); (case side1 => repeat (first | exact (by repeat (first | (with_reducible exact HR280.out) | (with_reducible refine Kd.C_alloc ?_ _) | (with_reducible refine Kd.C_drewN ?_ _) | (with_reducible refine Kd.C_drew ?_) | exact HR280.out)) | (with_reducible refine Kd.C_alloc ?_ _) | (with_reducible refine Kd.C_drewN ?_ _) | (with_reducible refine Kd.C_drew ?_))); (case side2 => exact HC280.out); rintro e w68 ⟨rfl, hb⟩; refine ⟨_, rfl, ?_⟩; have n0_ := Aside0.mk (Kd.R_below (by (with_reducible repeat (first | apply Kd.R_alloc | apply Kd.R_drewN | apply Kd.R_drew)); exact HO_1.out) hb); have n1_ := Aside0.mk (Kd.R_below (by (with_reducible repeat (first | apply Kd.R_alloc | apply Kd.R_drewN | apply Kd.R_drew)); exact HO267.out) hb); have n2_ := Aside0.mk (Kd.R_below (by (with_reducible repeat (first | apply Kd.R_alloc | apply Kd.R_drewN | apply Kd.R_drew)); exact HO274.out) hb); have n3_ := Aside0.mk (Kd.R_below (by (with_reducible repeat (first | apply Kd.R_alloc | apply Kd.R_drewN | apply Kd.R_drew)); exact HO276.out) hb); have n4_ := Aside0.mk (Kd.C_below (by repeat (first | (with_reducible exact HR280.out) | (with_reducible refine Kd.C_alloc ?_ _) | (with_reducible refine Kd.C_drewN ?_ _) | (with_reducible refine Kd.C_drew ?_) | exact HR280.out)) hb); have n5_ := Aside0.mk (below_step (by repeat (first | (with_reducible first | exact HB.out | apply below_alloc | apply pw_below_drewN | apply below_drew1) | exact HB.out)) hb); clear HO_1; clear HO267; clear HO274; clear HO276; clear HR280; clear HB; have HO_1 := n0_; have HO267 := n1_; have HO274 := n2_; have HO276 := n3_; have HR280 := n4_; have HB := n5_; clear n0_ n1_ n2_ n3_ n4_ n5_; (try clear hb); (try clear hb2); (try clear hk); (try clear hi)) | ((with_reducible refine gate_callee (f := 17) rfl ?_); refine goesL_ (some 92) rfl rfl Try.func17 (by kernel_rfl) rfl #[.int .i64 9223372036854775807] rfl (by (try simp only [List.map_toArray, List.map_cons, List.map_nil]); first | done | rfl | (simp only [List.length_drop, List.length_take]; rfl)) ?_; (with_reducible refine (tailwaterlaw20_mark.calls 9223372036854775807 t283 t284 t285 t286 t287 _ A38.out).mono ?_); rintro e w69 ⟨rfl, hb⟩; refine ⟨_, rfl, ?_⟩; have n0_ := Aside0.mk (Kd.R_below (by (with_reducible repeat (first | apply Kd.R_alloc | apply Kd.R_drewN | apply Kd.R_drew)); exact HO_1.out) hb); have n1_ := Aside0.mk (Kd.R_below (by (with_reducible repeat (first | apply Kd.R_alloc | apply Kd.R_drewN | apply Kd.R_drew)); exact HO267.out) hb); have n2_ := Aside0.mk (Kd.R_below (by (with_reducible repeat (first | apply Kd.R_alloc | apply Kd.R_drewN | apply Kd.R_drew)); exact HO274.out) hb); have n3_ := Aside0.mk (Kd.R_below (by (with_reducible repeat (first | apply Kd.R_alloc | apply Kd.R_drewN | apply Kd.R_drew)); exact HO276.out) hb); have n4_ := Aside0.mk (Kd.C_below (by repeat (first | (with_reducible exact HR280.out) | (with_reducible refine Kd.C_alloc ?_ _) | (with_reducible refine Kd.C_drewN ?_ _) | (with_reducible refine Kd.C_drew ?_) | exact HR280.out)) hb); have n5_ := Aside0.mk (below_step (by repeat (first | (with_reducible first | exact HB.out | apply below_alloc | apply pw_below_drewN | apply below_drew1) | exact HB.out)) hb); clear HO_1; clear HO267; clear HO274; clear HO276; clear HR280; clear HB; have HO_1 := n0_; have HO267 := n1_; have HO274 := n2_; have HO276 := n3_; have HR280 := n4_; have HB := n5_; clear n0_ n1_ n2_ n3_ n4_ n5_; (try clear hb); (try clear hb2); (try clear hk); (try clear hi)) | ((with_reducible refine gate_callee (f := 16) rfl ?_); refine goesL_ (some 93) rfl rfl Try.func16 (by kernel_rfl) rfl #[.int .i64 1099511627776] rfl (by (try simp only [List.map_toArray, List.map_cons, List.map_nil]); first | done | rfl | (simp only [List.length_drop, List.length_take]; rfl)) ?_; (with_reducible refine (tailwaterlaw20_at.calls 1099511627776 t288 t289 t290 t291 t292 _ A39.out).mono ?_); rintro e w70 ⟨rfl, hb⟩; refine ⟨_, rfl, ?_⟩; have n0_ := Aside0.mk (Kd.R_below (by (with_reducible repeat (first | apply Kd.R_alloc | apply Kd.R_drewN | apply Kd.R_drew)); exact HO_1.out) hb); have n1_ := Aside0.mk (Kd.R_below (by (with_reducible repeat (first | apply Kd.R_alloc | apply Kd.R_drewN | apply Kd.R_drew)); exact HO267.out) hb); have n2_ := Aside0.mk (Kd.R_below (by (with_reducible repeat (first | apply Kd.R_alloc | apply Kd.R_drewN | apply Kd.R_drew)); exact HO274.out) hb); have n3_ := Aside0.mk (Kd.R_below (by (with_reducible repeat (first | apply Kd.R_alloc | apply Kd.R_drewN | apply Kd.R_drew)); exact HO276.out) hb); have n4_ := Aside0.mk (Kd.C_below (by repeat (first | (with_reducible exact HR280.out) | (with_reducible refine Kd.C_alloc ?_ _) | (with_reducible refine Kd.C_drewN ?_ _) | (with_reducible refine Kd.C_drew ?_) | exact HR280.out)) hb); have n5_ := Aside0.mk (below_step (by repeat (first | (with_reducible first | exact HB.out | apply below_alloc | apply pw_below_drewN | apply below_drew1) | exact HB.out)) hb); clear HO_1; clear HO267; clear HO274; clear HO276; clear HR280; clear HB; have HO_1 := n0_; have HO267 := n1_; have HO274 := n2_; have HO276 := n3_; have HR280 := n4_; have HB := n5_; clear n0_ n1_ n2_ n3_ n4_ n5_; (try clear hb); (try clear hb2); (try clear hk); (try clear hi)) | ((with_reducible refine gate_callee (f := 17) rfl ?_); refine goesL_ (some 94) rfl rfl Try.func17 (by kernel_rfl) rfl #[.int .i64 0] rfl (by (try simp only [List.map_toArray, List.map_cons, List.map_nil]); first | done | rfl | (simp only [List.length_drop, List.length_take]; rfl)) ?_; (with_reducible refine (tailwaterlaw20_mark.calls 0 t293 t294 t295 t296 t297 _ A40.out).mono ?_); rintro e w71 ⟨rfl, hb⟩; refine ⟨_, rfl, ?_⟩; have n0_ := Aside0.mk (Kd.R_below (by (with_reducible repeat (first | apply Kd.R_alloc | apply Kd.R_drewN | apply Kd.R_drew)); exact HO_1.out) hb); have n1_ := Aside0.mk (Kd.R_below (by (with_reducible repeat (first | apply Kd.R_alloc | apply Kd.R_drewN | apply Kd.R_drew)); exact HO267.out) hb); have n2_ := Aside0.mk (Kd.R_below (by (with_reducible repeat (first | apply Kd.R_alloc | apply Kd.R_drewN | apply Kd.R_drew)); exact HO274.out) hb); have n3_ := Aside0.mk (Kd.R_below (by (with_reducible repeat (first | apply Kd.R_alloc | apply Kd.R_drewN | apply Kd.R_drew)); exact HO276.out) hb); have n4_ := Aside0.mk (Kd.C_below (by repeat (first | (with_reducible exact HR280.out) | (with_reducible refine Kd.C_alloc ?_ _) | (with_reducible refine Kd.C_drewN ?_ _) | (with_reducible refine Kd.C_drew ?_) | exact HR280.out)) hb); have n5_ := Aside0.mk (below_step (by repeat (first | (with_reducible first | exact HB.out | apply below_alloc | apply pw_below_drewN | apply below_drew1) | exact HB.out)) hb); clear HO_1; clear HO267; clear HO274; clear HO276; clear HR280; clear HB; have HO_1 := n0_; have HO267 := n1_; have HO274 := n2_; have HO276 := n3_; have HR280 := n4_; have HB := n5_; clear n0_ n1_ n2_ n3_ n4_ n5_; (try clear hb); (try clear hb2); (try clear hk); (try clear hi)) | ((with_reducible refine gate_callee (f := 16) rfl ?_); refine goesL_ (some 95) rfl rfl Try.func16 (by kernel_rfl) rfl #[.int .i64 (-1099511627776)] rfl (by (try simp only [List.map_toArray, List.map_cons, List.map_nil]); first | done | rfl | (simp only [List.length_drop, List.length_take]; rfl)) ?_; (with_reducible refine (tailwaterlaw20_at.calls (-1099511627776) t298 t299 t300 t301 t302 _ A41.out).mono ?_); rintro e w72 ⟨rfl, hb⟩; refine ⟨_, rfl, ?_⟩; have n0_ := Aside0.mk (Kd.R_below (by (with_reducible repeat (first | apply Kd.R_alloc | apply Kd.R_drewN | apply Kd.R_drew)); exact HO_1.out) hb); have n1_ := Aside0.mk (Kd.R_below (by (with_reducible repeat (first | apply Kd.R_alloc | apply Kd.R_drewN | apply Kd.R_drew)); exact HO267.out) hb); have n2_ := Aside0.mk (Kd.R_below (by (with_reducible repeat (first | apply Kd.R_alloc | apply Kd.R_drewN | apply Kd.R_drew)); exact HO274.out) hb); have n3_ := Aside0.mk (Kd.R_below (by (with_reducible repeat (first | apply Kd.R_alloc | apply Kd.R_drewN | apply Kd.R_drew)); exact HO276.out) hb); have n4_ := Aside0.mk (Kd.C_below (by repeat (first | (with_reducible exact HR280.out) | (with_reducible refine Kd.C_alloc ?_ _) | (with_reducible refine Kd.C_drewN ?_ _) | (with_reducible refine Kd.C_drew ?_) | exact HR280.out)) hb); have n5_ := Aside0.mk (below_step (by repeat (first | (with_reducible first | exact HB.out | apply below_alloc | apply pw_below_drewN | apply below_drew1) | exact HB.out)) hb); clear HO_1; clear HO267; clear HO274; clear HO276; clear HR280; clear HB; have HO_1 := n0_; have HO267 := n1_; have HO274 := n2_; have HO276 := n3_; have HR280 := n4_; have HB := n5_; clear n0_ n1_ n2_ n3_ n4_ n5_; (try clear hb); (try clear hb2); (try clear hk); (try clear hi)) | ((with_reducible refine gate_dst (N := 96) rfl ?_); (try (refine gate_guard (by rfl) ?_; dsimp only)); refine Kd.R_lit k40 _ 40 ?hg (N := 96) ?hd (xs := ([(⟨t283, t284, (⟨t285, t286, t287⟩ : S38)⟩ : S40), (⟨t288, t289, (⟨t290, t291, t292⟩ : S38)⟩ : S40), (⟨t293, t294, (⟨t295, t296, t297⟩ : S38)⟩ : S40), (⟨t298, t299, (⟨t300, t301, t302⟩ : S38)⟩ : S40)] : List (S40))) (inner := [.bool t283, .int .i64 t284, .int .i64 t285, .int .i64 t286, .int .i64 t287, .bool t288, .int .i64 t289, .int .i64 t290, .int .i64 t291, .int .i64 t292, .bool t293, .int .i64 t294, .int .i64 t295, .int .i64 t296, .int .i64 t297, .bool t298, .int .i64 t299, .int .i64 t300, .int .i64 t301, .int .i64 t302]) (ok := fun _ => True) (okp := fun _ => True) ?hr ?hp (fun _ hk => hk) trivial (Below.refl _ _) (Nat.le_refl _) (by simp) ?_; (case hd => rfl); (case hg => rfl); (case hr => first | (go_simp; done) | (go_simp; rfl)); (case hp => exact (Reps.c5 (show Kd.M k40 _ _ _ (⟨t283, t284, (⟨t285, t286, t287⟩ : S38)⟩ : S40) [.bool t283, .int .i64 t284, .int .i64 t285, .int .i64 t286, .int .i64 t287] from (k40_mkM _ _ _ (⟨t283, t284, (⟨t285, t286, t287⟩ : S38)⟩ : S40) )) (Reps.c5 (show Kd.M k40 _ _ _ (⟨t288, t289, (⟨t290, t291, t292⟩ : S38)⟩ : S40) [.bool t288, .int .i64 t289, .int .i64 t290, .int .i64 t291, .int .i64 t292] from (k40_mkM _ _ _ (⟨t288, t289, (⟨t290, t291, t292⟩ : S38)⟩ : S40) )) (Reps.c5 (show Kd.M k40 _ _ _ (⟨t293, t294, (⟨t295, t296, t297⟩ : S38)⟩ : S40) [.bool t293, .int .i64 t294, .int .i64 t295, .int .i64 t296, .int .i64 t297] from (k40_mkM _ _ _ (⟨t293, t294, (⟨t295, t296, t297⟩ : S38)⟩ : S40) )) (Reps.c5 (show Kd.M k40 _ _ _ (⟨t298, t299, (⟨t300, t301, t302⟩ : S38)⟩ : S40) [.bool t298, .int .i64 t299, .int .i64 t300, .int .i64 t301, .int .i64 t302] from (k40_mkM _ _ _ (⟨t298, t299, (⟨t300, t301, t302⟩ : S38)⟩ : S40) )) (Reps.none _ _)))))); intro v304 w73 ho74 hb hg_ hnew_; clear hg_ hnew_; (first | rw [← Ny303.out] at ho74 | (simp only [Int.reduceToNat] at ho74; rw [← Ny303.out] at ho74)); have n0_ := Aside0.mk (Kd.R_elder' (by (with_reducible repeat (first | apply Kd.R_alloc | apply Kd.R_drewN | apply Kd.R_drew)); exact HO_1.out) (Kd.R_base ho74) hb); have n1_ := Aside0.mk (Kd.R_elder' (by (with_reducible repeat (first | apply Kd.R_alloc | apply Kd.R_drewN | apply Kd.R_drew)); exact HO267.out) (Kd.R_base ho74) hb); have n2_ := Aside0.mk (Kd.R_below (by (with_reducible repeat (first | apply Kd.R_alloc | apply Kd.R_drewN | apply Kd.R_drew)); exact HO274.out) hb); have n3_ := Aside0.mk (Kd.R_below (by (with_reducible repeat (first | apply Kd.R_alloc | apply Kd.R_drewN | apply Kd.R_drew)); exact HO276.out) hb); have n4_ := Aside0.mk (Kd.R_lower (Kd.R_new' (Kd.R_new' ho74 (Kd.R_lt (by (with_reducible repeat (first | apply Kd.R_alloc | apply Kd.R_drewN | apply Kd.R_drew)); exact HO_1.out))) (Kd.R_lt (by (with_reducible repeat (first | apply Kd.R_alloc | apply Kd.R_drewN | apply Kd.R_drew)); exact HO267.out))) (below_size (by repeat (first | (with_reducible first | exact HB.out | apply below_alloc | apply pw_below_drewN | apply below_drew1) | exact HB.out)))); have n5_ := Aside0.mk (Kd.C_below (by repeat (first | (with_reducible exact HR280.out) | (with_reducible refine Kd.C_alloc ?_ _) | (with_reducible refine Kd.C_drewN ?_ _) | (with_reducible refine Kd.C_drew ?_) | exact HR280.out)) hb); have n6_ := Aside0.mk (below_step (by repeat (first | (with_reducible first | exact HB.out | apply below_alloc | apply pw_below_drewN | apply below_drew1) | exact HB.out)) hb); clear HO_1; clear HO267; clear HO274; clear HO276; clear HR280; clear HB; have HO_1 := n0_; have HO267 := n1_; have HO274 := n2_; have HO276 := n3_; have HO305 := n4_; have HR280 := n5_; have HB := n6_; clear n0_ n1_ n2_ n3_ n4_ n5_ n6_; clear hb ho74; obtain ⟨Ao75, co75, eo75⟩ := Kd.R_slice HO305.out; subst eo75) | ((with_reducible refine gate_callee (f := 11) rfl ?_); refine goesL_ (some 97) rfl rfl Try.func11 (by kernel_rfl) rfl #[.slice Ao75 y303.length co75] rfl (by (try simp only [List.map_toArray, List.map_cons, List.map_nil]); first | done | rfl | (simp only [List.length_drop, List.length_take]; rfl)) ?_; (with_reducible refine (late_Split.calls k1 _ _ y303 t306 t307 t308 _ ?side1 ?side2 A42.out).mono ?_); (case side1 => repeat (first | exact (Kd.R_reads' HO305.out).2.2 | (with_reducible refine Kd.C_alloc ?_ _) | (with_reducible refine Kd.C_drewN ?_ _) | (with_reducible refine Kd.C_drew ?_))); (case side2 => exact (Kd.R_reads' HO305.out).2.1); rintro e w76 ⟨v309, v311, rfl, ho0, ho1, hb⟩; refine ⟨_, rfl, ?_⟩; have n0_ := Aside0.mk (Kd.R_below (by (with_reducible repeat (first | apply Kd.R_alloc | apply Kd.R_drewN | apply Kd.R_drew)); exact HO_1.out) hb); have n1_ := Aside0.mk (Kd.R_below (by (with_reducible repeat (first | apply Kd.R_alloc | apply Kd.R_drewN | apply Kd.R_drew)); exact HO267.out) hb); have n2_ := Aside0.mk (Kd.R_mono (Kd.R_told (Kd.R_told (Kd.R_old (by (with_reducible repeat (first | apply Kd.R_alloc | apply Kd.R_drewN | apply Kd.R_drew)); exact HO274.out) hb) (Kd.R_base ho0)) (Kd.R_base ho1)) (fun _ h_ => h_.1)); have n3_ := Aside0.mk (Kd.R_mono (Kd.R_told (Kd.R_told (Kd.R_old (by (with_reducible repeat (first | apply Kd.R_alloc | apply Kd.R_drewN | apply Kd.R_drew)); exact HO276.out) hb) (Kd.R_base ho0)) (Kd.R_base ho1)) (fun _ h_ => h_.1)); have n4_ := Aside0.mk (Kd.R_below (by (with_reducible repeat (first | apply Kd.R_alloc | apply Kd.R_drewN | apply Kd.R_drew)); exact HO305.out) hb); have n5_ := Aside0.mk (Kd.R_lower (Kd.R_new' (Kd.R_new' ho0 (Kd.R_lt (by (with_reducible repeat (first | apply Kd.R_alloc | apply Kd.R_drewN | apply Kd.R_drew)); exact HO274.out))) (Kd.R_lt (by (with_reducible repeat (first | apply Kd.R_alloc | apply Kd.R_drewN | apply Kd.R_drew)); exact HO276.out))) (below_size (by repeat (first | (with_reducible first | exact HB.out | apply below_alloc | apply pw_below_drewN | apply below_drew1) | exact HB.out)))); have n6_ := Aside0.mk (Kd.R_lower (Kd.R_new' (Kd.R_new' ho1 (Kd.R_lt (by (with_reducible repeat (first | apply Kd.R_alloc | apply Kd.R_drewN | apply Kd.R_drew)); exact HO274.out))) (Kd.R_lt (by (with_reducible repeat (first | apply Kd.R_alloc | apply Kd.R_drewN | apply Kd.R_drew)); exact HO276.out))) (below_size (by repeat (first | (with_reducible first | exact HB.out | apply below_alloc | apply pw_below_drewN | apply below_drew1) | exact HB.out)))); have n7_ := Aside0.mk (Kd.C_below (by repeat (first | (with_reducible exact HR280.out) | (with_reducible refine Kd.C_alloc ?_ _) | (with_reducible refine Kd.C_drewN ?_ _) | (with_reducible refine Kd.C_drew ?_) | exact HR280.out)) hb); have n8_ := Aside0.mk (below_step (by repeat (first | (with_reducible first | exact HB.out | apply below_alloc | apply pw_below_drewN | apply below_drew1) | exact HB.out)) hb); clear HO_1; clear HO267; clear HO274; clear HO276; clear HO305; clear HR280; clear HB; have HO_1 := n0_; have HO267 := n1_; have HO274 := n2_; have HO276 := n3_; have HO305 := n4_; have HO310 := n5_; have HO312 := n6_; have HR280 := n7_; have HB := n8_; clear n0_ n1_ n2_ n3_ n4_ n5_ n6_ n7_ n8_; (try clear hb); (try clear hb2); (try clear hk); (try clear hi); (try clear ho0); (try clear ho1)) | ((with_reducible refine gate_callee (f := 17) rfl ?_); refine goesL_ (some 102) rfl rfl Try.func17 (by kernel_rfl) rfl #[.int .i64 (-1099511627776)] rfl (by (try simp only [List.map_toArray, List.map_cons, List.map_nil]); first | done | rfl | (simp only [List.length_drop, List.length_take]; rfl)) ?_; (with_reducible refine (tailwaterlaw20_mark.calls (-1099511627776) t313 t314 t315 t316 t317 _ A43.out).mono ?_); rintro e w77 ⟨rfl, hb⟩; refine ⟨_, rfl, ?_⟩; have n0_ := Aside0.mk (Kd.R_below (by (with_reducible repeat (first | apply Kd.R_alloc | apply Kd.R_drewN | apply Kd.R_drew)); exact HO_1.out) hb); have n1_ := Aside0.mk (Kd.R_below (by (with_reducible repeat (first | apply Kd.R_alloc | apply Kd.R_drewN | apply Kd.R_drew)); exact HO267.out) hb); have n2_ := Aside0.mk (Kd.R_below (by (with_reducible repeat (first | apply Kd.R_alloc | apply Kd.R_drewN | apply Kd.R_drew)); exact HO274.out) hb); have n3_ := Aside0.mk (Kd.R_below (by (with_reducible repeat (first | apply Kd.R_alloc | apply Kd.R_drewN | apply Kd.R_drew)); exact HO276.out) hb); have n4_ := Aside0.mk (Kd.R_below (by (with_reducible repeat (first | apply Kd.R_alloc | apply Kd.R_drewN | apply Kd.R_drew)); exact HO305.out) hb); have n5_ := Aside0.mk (Kd.R_below (by (with_reducible repeat (first | apply Kd.R_alloc | apply Kd.R_drewN | apply Kd.R_drew)); exact HO310.out) hb); have n6_ := Aside0.mk (Kd.R_below (by (with_reducible repeat (first | apply Kd.R_alloc | apply Kd.R_drewN | apply Kd.R_drew)); exact HO312.out) hb); have n7_ := Aside0.mk (Kd.C_below (by repeat (first | (with_reducible exact HR280.out) | (with_reducible refine Kd.C_alloc ?_ _) | (with_reducible refine Kd.C_drewN ?_ _) | (with_reducible refine Kd.C_drew ?_) | exact HR280.out)) hb); have n8_ := Aside0.mk (below_step (by repeat (first | (with_reducible first | exact HB.out | apply below_alloc | apply pw_below_drewN | apply below_drew1) | exact HB.out)) hb); clear HO_1; clear HO267; clear HO274; clear HO276; clear HO305; clear HO310; clear HO312; clear HR280; clear HB; have HO_1 := n0_; have HO267 := n1_; have HO274 := n2_; have HO276 := n3_; have HO305 := n4_; have HO310 := n5_; have HO312 := n6_; have HR280 := n7_; have HB := n8_; clear n0_ n1_ n2_ n3_ n4_ n5_ n6_ n7_ n8_; (try clear hb); (try clear hb2); (try clear hk); (try clear hi)) | ((with_reducible refine gate_callee (f := 16) rfl ?_); refine goesL_ (some 103) rfl rfl Try.func16 (by kernel_rfl) rfl #[.int .i64 (-1099511627776)] rfl (by (try simp only [List.map_toArray, List.map_cons, List.map_nil]); first | done | rfl | (simp only [List.length_drop, List.length_take]; rfl)) ?_; (with_reducible refine (tailwaterlaw20_at.calls (-1099511627776) t318 t319 t320 t321 t322 _ A44.out).mono ?_); rintro e w78 ⟨rfl, hb⟩; refine ⟨_, rfl, ?_⟩; have n0_ := Aside0.mk (Kd.R_below (by (with_reducible repeat (first | apply Kd.R_alloc | apply Kd.R_drewN | apply Kd.R_drew)); exact HO_1.out) hb); have n1_ := Aside0.mk (Kd.R_below (by (with_reducible repeat (first | apply Kd.R_alloc | apply Kd.R_drewN | apply Kd.R_drew)); exact HO267.out) hb); have n2_ := Aside0.mk (Kd.R_below (by (with_reducible repeat (first | apply Kd.R_alloc | apply Kd.R_drewN | apply Kd.R_drew)); exact HO274.out) hb); have n3_ := Aside0.mk (Kd.R_below (by (with_reducible repeat (first | apply Kd.R_alloc | apply Kd.R_drewN | apply Kd.R_drew)); exact HO276.out) hb); have n4_ := Aside0.mk (Kd.R_below (by (with_reducible repeat (first | apply Kd.R_alloc | apply Kd.R_drewN | apply Kd.R_drew)); exact HO305.out) hb); have n5_ := Aside0.mk (Kd.R_below (by (with_reducible repeat (first | apply Kd.R_alloc | apply Kd.R_drewN | apply Kd.R_drew)); exact HO310.out) hb); have n6_ := Aside0.mk (Kd.R_below (by (with_reducible repeat (first | apply Kd.R_alloc | apply Kd.R_drewN | apply Kd.R_drew)); exact HO312.out) hb); have n7_ := Aside0.mk (Kd.C_below (by repeat (first | (with_reducible exact HR280.out) | (with_reducible refine Kd.C_alloc ?_ _) | (with_reducible refine Kd.C_drewN ?_ _) | (with_reducible refine Kd.C_drew ?_) | exact HR280.out)) hb); have n8_ := Aside0.mk (below_step (by repeat (first | (with_reducible first | exact HB.out | apply below_alloc | apply pw_below_drewN | apply below_drew1) | exact HB.out)) hb); clear HO_1; clear HO267; clear HO274; clear HO276; clear HO305; clear HO310; clear HO312; clear HR280; clear HB; have HO_1 := n0_; have HO267 := n1_; have HO274 := n2_; have HO276 := n3_; have HO305 := n4_; have HO310 := n5_; have HO312 := n6_; have HR280 := n7_; have HB := n8_; clear n0_ n1_ n2_ n3_ n4_ n5_ n6_ n7_ n8_; (try clear hb); (try clear hb2); (try clear hk); (try clear hi)) | ((with_reducible refine gate_callee (f := 17) rfl ?_); refine goesL_ (some 104) rfl rfl Try.func17 (by kernel_rfl) rfl #[.int .i64 1099511627776] rfl (by (try simp only [List.map_toArray, List.map_cons, List.map_nil]); first | done | rfl | (simp only [List.length_drop, List.length_take]; rfl)) ?_; (with_reducible refine (tailwaterlaw20_mark.calls 1099511627776 t323 t324 t325 t326 t327 _ A45.out).mono ?_); rintro e w79 ⟨rfl, hb⟩; refine ⟨_, rfl, ?_⟩; have n0_ := Aside0.mk (Kd.R_below (by (with_reducible repeat (first | apply Kd.R_alloc | apply Kd.R_drewN | apply Kd.R_drew)); exact HO_1.out) hb); have n1_ := Aside0.mk (Kd.R_below (by (with_reducible repeat (first | apply Kd.R_alloc | apply Kd.R_drewN | apply Kd.R_drew)); exact HO267.out) hb); have n2_ := Aside0.mk (Kd.R_below (by (with_reducible repeat (first | apply Kd.R_alloc | apply Kd.R_drewN | apply Kd.R_drew)); exact HO274.out) hb); have n3_ := Aside0.mk (Kd.R_below (by (with_reducible repeat (first | apply Kd.R_alloc | apply Kd.R_drewN | apply Kd.R_drew)); exact HO276.out) hb); have n4_ := Aside0.mk (Kd.R_below (by (with_reducible repeat (first | apply Kd.R_alloc | apply Kd.R_drewN | apply Kd.R_drew)); exact HO305.out) hb); have n5_ := Aside0.mk (Kd.R_below (by (with_reducible repeat (first | apply Kd.R_alloc | apply Kd.R_drewN | apply Kd.R_drew)); exact HO310.out) hb); have n6_ := Aside0.mk (Kd.R_below (by (with_reducible repeat (first | apply Kd.R_alloc | apply Kd.R_drewN | apply Kd.R_drew)); exact HO312.out) hb); have n7_ := Aside0.mk (Kd.C_below (by repeat (first | (with_reducible exact HR280.out) | (with_reducible refine Kd.C_alloc ?_ _) | (with_reducible refine Kd.C_drewN ?_ _) | (with_reducible refine Kd.C_drew ?_) | exact HR280.out)) hb); have n8_ := Aside0.mk (below_step (by repeat (first | (with_reducible first | exact HB.out | apply below_alloc | apply pw_below_drewN | apply below_drew1) | exact HB.out)) hb); clear HO_1; clear HO267; clear HO274; clear HO276; clear HO305; clear HO310; clear HO312; clear HR280; clear HB; have HO_1 := n0_; have HO267 := n1_; have HO274 := n2_; have HO276 := n3_; have HO305 := n4_; have HO310 := n5_; have HO312 := n6_; have HR280 := n7_; have HB := n8_; clear n0_ n1_ n2_ n3_ n4_ n5_ n6_ n7_ n8_; (try clear hb); (try clear hb2); (try clear hk); (try clear hi)) | ((with_reducible refine gate_callee (f := 16) rfl ?_); refine goesL_ (some 105) rfl rfl Try.func16 (by kernel_rfl) rfl #[.int .i64 1099511627776] rfl (by (try simp only [List.map_toArray, List.map_cons, List.map_nil]); first | done | rfl | (simp only [List.length_drop, List.length_take]; rfl)) ?_; (with_reducible refine (tailwaterlaw20_at.calls 1099511627776 t328 t329 t330 t331 t332 _ A46.out).mono ?_); rintro e w80 ⟨rfl, hb⟩; refine ⟨_, rfl, ?_⟩; have n0_ := Aside0.mk (Kd.R_below (by (with_reducible repeat (first | apply Kd.R_alloc | apply Kd.R_drewN | apply Kd.R_drew)); exact HO_1.out) hb); have n1_ := Aside0.mk (Kd.R_below (by (with_reducible repeat (first | apply Kd.R_alloc | apply Kd.R_drewN | apply Kd.R_drew)); exact HO267.out) hb); have n2_ := Aside0.mk (Kd.R_below (by (with_reducible repeat (first | apply Kd.R_alloc | apply Kd.R_drewN | apply Kd.R_drew)); exact HO274.out) hb); have n3_ := Aside0.mk (Kd.R_below (by (with_reducible repeat (first | apply Kd.R_alloc | apply Kd.R_drewN | apply Kd.R_drew)); exact HO276.out) hb); have n4_ := Aside0.mk (Kd.R_below (by (with_reducible repeat (first | apply Kd.R_alloc | apply Kd.R_drewN | apply Kd.R_drew)); exact HO305.out) hb); have n5_ := Aside0.mk (Kd.R_below (by (with_reducible repeat (first | apply Kd.R_alloc | apply Kd.R_drewN | apply Kd.R_drew)); exact HO310.out) hb); have n6_ := Aside0.mk (Kd.R_below (by (with_reducible repeat (first | apply Kd.R_alloc | apply Kd.R_drewN | apply Kd.R_drew)); exact HO312.out) hb); have n7_ := Aside0.mk (Kd.C_below (by repeat (first | (with_reducible exact HR280.out) | (with_reducible refine Kd.C_alloc ?_ _) | (with_reducible refine Kd.C_drewN ?_ _) | (with_reducible refine Kd.C_drew ?_) | exact HR280.out)) hb); have n8_ := Aside0.mk (below_step (by repeat (first | (with_reducible first | exact HB.out | apply below_alloc | apply pw_below_drewN | apply below_drew1) | exact HB.out)) hb); clear HO_1; clear HO267; clear HO274; clear HO276; clear HO305; clear HO310; clear HO312; clear HR280; clear HB; have HO_1 := n0_; have HO267 := n1_; have HO274 := n2_; have HO276 := n3_; have HO305 := n4_; have HO310 := n5_; have HO312 := n6_; have HR280 := n7_; have HB := n8_; clear n0_ n1_ n2_ n3_ n4_ n5_ n6_ n7_ n8_; (try clear hb); (try clear hb2); (try clear hk); (try clear hi)) | ((with_reducible refine gate_dst (N := 106) rfl ?_); (try (refine gate_guard (by rfl) ?_; dsimp only)); refine Kd.R_lit k40 _ 40 ?hg (N := 106) ?hd (xs := ([(⟨t313, t314, (⟨t315, t316, t317⟩ : S38)⟩ : S40), (⟨t318, t319, (⟨t320, t321, t322⟩ : S38)⟩ : S40), (⟨t323, t324, (⟨t325, t326, t327⟩ : S38)⟩ : S40), (⟨t328, t329, (⟨t330, t331, t332⟩ : S38)⟩ : S40)] : List (S40))) (inner := [.bool t313, .int .i64 t314, .int .i64 t315, .int .i64 t316, .int .i64 t317, .bool t318, .int .i64 t319, .int .i64 t320, .int .i64 t321, .int .i64 t322, .bool t323, .int .i64 t324, .int .i64 t325, .int .i64 t326, .int .i64 t327, .bool t328, .int .i64 t329, .int .i64 t330, .int .i64 t331, .int .i64 t332]) (ok := fun _ => True) (okp := fun _ => True) ?hr ?hp (fun _ hk => hk) trivial (Below.refl _ _) (Nat.le_refl _) (by simp) ?_; (case hd => rfl); (case hg => rfl); (case hr => first | (go_simp; done) | (go_simp; rfl)); (case hp => exact (Reps.c5 (show Kd.M k40 _ _ _ (⟨t313, t314, (⟨t315, t316, t317⟩ : S38)⟩ : S40) [.bool t313, .int .i64 t314, .int .i64 t315, .int .i64 t316, .int .i64 t317] from (k40_mkM _ _ _ (⟨t313, t314, (⟨t315, t316, t317⟩ : S38)⟩ : S40) )) (Reps.c5 (show Kd.M k40 _ _ _ (⟨t318, t319, (⟨t320, t321, t322⟩ : S38)⟩ : S40) [.bool t318, .int .i64 t319, .int .i64 t320, .int .i64 t321, .int .i64 t322] from (k40_mkM _ _ _ (⟨t318, t319, (⟨t320, t321, t322⟩ : S38)⟩ : S40) )) (Reps.c5 (show Kd.M k40 _ _ _ (⟨t323, t324, (⟨t325, t326, t327⟩ : S38)⟩ : S40) [.bool t323, .int .i64 t324, .int .i64 t325, .int .i64 t326, .int .i64 t327] from (k40_mkM _ _ _ (⟨t323, t324, (⟨t325, t326, t327⟩ : S38)⟩ : S40) )) (Reps.c5 (show Kd.M k40 _ _ _ (⟨t328, t329, (⟨t330, t331, t332⟩ : S38)⟩ : S40) [.bool t328, .int .i64 t329, .int .i64 t330, .int .i64 t331, .int .i64 t332] from (k40_mkM _ _ _ (⟨t328, t329, (⟨t330, t331, t332⟩ : S38)⟩ : S40) )) (Reps.none _ _)))))); intro v334 w81 ho82 hb hg_ hnew_; clear hg_ hnew_; (first | rw [← Ny333.out] at ho82 | (simp only [Int.reduceToNat] at ho82; rw [← Ny333.out] at ho82)); have n0_ := Aside0.mk (Kd.R_elder' (by (with_reducible repeat (first | apply Kd.R_alloc | apply Kd.R_drewN | apply Kd.R_drew)); exact HO_1.out) (Kd.R_base ho82) hb); have n1_ := Aside0.mk (Kd.R_elder' (by (with_reducible repeat (first | apply Kd.R_alloc | apply Kd.R_drewN | apply Kd.R_drew)); exact HO267.out) (Kd.R_base ho82) hb); have n2_ := Aside0.mk (Kd.R_below (by (with_reducible repeat (first | apply Kd.R_alloc | apply Kd.R_drewN | apply Kd.R_drew)); exact HO274.out) hb); have n3_ := Aside0.mk (Kd.R_below (by (with_reducible repeat (first | apply Kd.R_alloc | apply Kd.R_drewN | apply Kd.R_drew)); exact HO276.out) hb); have n4_ := Aside0.mk (Kd.R_elder' (by (with_reducible repeat (first | apply Kd.R_alloc | apply Kd.R_drewN | apply Kd.R_drew)); exact HO305.out) (Kd.R_base ho82) hb); have n5_ := Aside0.mk (Kd.R_below (by (with_reducible repeat (first | apply Kd.R_alloc | apply Kd.R_drewN | apply Kd.R_drew)); exact HO310.out) hb); have n6_ := Aside0.mk (Kd.R_below (by (with_reducible repeat (first | apply Kd.R_alloc | apply Kd.R_drewN | apply Kd.R_drew)); exact HO312.out) hb); have n7_ := Aside0.mk (Kd.R_lower (Kd.R_new' (Kd.R_new' (Kd.R_new' ho82 (Kd.R_lt (by (with_reducible repeat (first | apply Kd.R_alloc | apply Kd.R_drewN | apply Kd.R_drew)); exact HO_1.out))) (Kd.R_lt (by (with_reducible repeat (first | apply Kd.R_alloc | apply Kd.R_drewN | apply Kd.R_drew)); exact HO267.out))) (Kd.R_lt (by (with_reducible repeat (first | apply Kd.R_alloc | apply Kd.R_drewN | apply Kd.R_drew)); exact HO305.out))) (below_size (by repeat (first | (with_reducible first | exact HB.out | apply below_alloc | apply pw_below_drewN | apply below_drew1) | exact HB.out)))); have n8_ := Aside0.mk (Kd.C_below (by repeat (first | (with_reducible exact HR280.out) | (with_reducible refine Kd.C_alloc ?_ _) | (with_reducible refine Kd.C_drewN ?_ _) | (with_reducible refine Kd.C_drew ?_) | exact HR280.out)) hb); have n9_ := Aside0.mk (below_step (by repeat (first | (with_reducible first | exact HB.out | apply below_alloc | apply pw_below_drewN | apply below_drew1) | exact HB.out)) hb); clear HO_1; clear HO267; clear HO274; clear HO276; clear HO305; clear HO310; clear HO312; clear HR280; clear HB; have HO_1 := n0_; have HO267 := n1_; have HO274 := n2_; have HO276 := n3_; have HO305 := n4_; have HO310 := n5_; have HO312 := n6_; have HO335 := n7_; have HR280 := n8_; have HB := n9_; clear n0_ n1_ n2_ n3_ n4_ n5_ n6_ n7_ n8_ n9_; clear hb ho82; obtain ⟨Ao83, co83, eo83⟩ := Kd.R_slice HO335.out; subst eo83) | ((with_reducible refine gate_callee (f := 11) rfl ?_); refine goesL_ (some 107) rfl rfl Try.func11 (by kernel_rfl) rfl #[.slice Ao83 y333.length co83] rfl (by (try simp only [List.map_toArray, List.map_cons, List.map_nil]); first | done | rfl | (simp only [List.length_drop, List.length_take]; rfl)) ?_; (with_reducible refine (late_Split.calls k1 _ _ y333 t336 t337 t338 _ ?side1 ?side2 A47.out).mono ?_); (case side1 => repeat (first | exact (Kd.R_reads' HO335.out).2.2 | (with_reducible refine Kd.C_alloc ?_ _) | (with_reducible refine Kd.C_drewN ?_ _) | (with_reducible refine Kd.C_drew ?_))); (case side2 => exact (Kd.R_reads' HO335.out).2.1); rintro e w84 ⟨v339, v341, rfl, ho0, ho1, hb⟩; refine ⟨_, rfl, ?_⟩; have n0_ := Aside0.mk (Kd.R_below (by (with_reducible repeat (first | apply Kd.R_alloc | apply Kd.R_drewN | apply Kd.R_drew)); exact HO_1.out) hb); have n1_ := Aside0.mk (Kd.R_below (by (with_reducible repeat (first | apply Kd.R_alloc | apply Kd.R_drewN | apply Kd.R_drew)); exact HO267.out) hb); have n2_ := Aside0.mk (Kd.R_mono (Kd.R_told (Kd.R_told (Kd.R_old (by (with_reducible repeat (first | apply Kd.R_alloc | apply Kd.R_drewN | apply Kd.R_drew)); exact HO274.out) hb) (Kd.R_base ho0)) (Kd.R_base ho1)) (fun _ h_ => h_.1)); have n3_ := Aside0.mk (Kd.R_mono (Kd.R_told (Kd.R_told (Kd.R_old (by (with_reducible repeat (first | apply Kd.R_alloc | apply Kd.R_drewN | apply Kd.R_drew)); exact HO276.out) hb) (Kd.R_base ho0)) (Kd.R_base ho1)) (fun _ h_ => h_.1)); have n4_ := Aside0.mk (Kd.R_below (by (with_reducible repeat (first | apply Kd.R_alloc | apply Kd.R_drewN | apply Kd.R_drew)); exact HO305.out) hb); have n5_ := Aside0.mk (Kd.R_mono (Kd.R_told (Kd.R_told (Kd.R_old (by (with_reducible repeat (first | apply Kd.R_alloc | apply Kd.R_drewN | apply Kd.R_drew)); exact HO310.out) hb) (Kd.R_base ho0)) (Kd.R_base ho1)) (fun _ h_ => h_.1)); have n6_ := Aside0.mk (Kd.R_mono (Kd.R_told (Kd.R_told (Kd.R_old (by (with_reducible repeat (first | apply Kd.R_alloc | apply Kd.R_drewN | apply Kd.R_drew)); exact HO312.out) hb) (Kd.R_base ho0)) (Kd.R_base ho1)) (fun _ h_ => h_.1)); have n7_ := Aside0.mk (Kd.R_below (by (with_reducible repeat (first | apply Kd.R_alloc | apply Kd.R_drewN | apply Kd.R_drew)); exact HO335.out) hb); have n8_ := Aside0.mk (Kd.R_lower (Kd.R_new' (Kd.R_new' (Kd.R_new' (Kd.R_new' ho0 (Kd.R_lt (by (with_reducible repeat (first | apply Kd.R_alloc | apply Kd.R_drewN | apply Kd.R_drew)); exact HO274.out))) (Kd.R_lt (by (with_reducible repeat (first | apply Kd.R_alloc | apply Kd.R_drewN | apply Kd.R_drew)); exact HO276.out))) (Kd.R_lt (by (with_reducible repeat (first | apply Kd.R_alloc | apply Kd.R_drewN | apply Kd.R_drew)); exact HO310.out))) (Kd.R_lt (by (with_reducible repeat (first | apply Kd.R_alloc | apply Kd.R_drewN | apply Kd.R_drew)); exact HO312.out))) (below_size (by repeat (first | (with_reducible first | exact HB.out | apply below_alloc | apply pw_below_drewN | apply below_drew1) | exact HB.out)))); have n9_ := Aside0.mk (Kd.R_lower (Kd.R_new' (Kd.R_new' (Kd.R_new' (Kd.R_new' ho1 (Kd.R_lt (by (with_reducible repeat (first | apply Kd.R_alloc | apply Kd.R_drewN | apply Kd.R_drew)); exact HO274.out))) (Kd.R_lt (by (with_reducible repeat (first | apply Kd.R_alloc | apply Kd.R_drewN | apply Kd.R_drew)); exact HO276.out))) (Kd.R_lt (by (with_reducible repeat (first | apply Kd.R_alloc | apply Kd.R_drewN | apply Kd.R_drew)); exact HO310.out))) (Kd.R_lt (by (with_reducible repeat (first | apply Kd.R_alloc | apply Kd.R_drewN | apply Kd.R_drew)); exact HO312.out))) (below_size (by repeat (first | (with_reducible first | exact HB.out | apply below_alloc | apply pw_below_drewN | apply below_drew1) | exact HB.out)))); have n10_ := Aside0.mk (Kd.C_below (by repeat (first | (with_reducible exact HR280.out) | (with_reducible refine Kd.C_alloc ?_ _) | (with_reducible refine Kd.C_drewN ?_ _) | (with_reducible refine Kd.C_drew ?_) | exact HR280.out)) hb); have n11_ := Aside0.mk (below_step (by repeat (first | (with_reducible first | exact HB.out | apply below_alloc | apply pw_below_drewN | apply below_drew1) | exact HB.out)) hb); clear HO_1; clear HO267; clear HO274; clear HO276; clear HO305; clear HO310; clear HO312; clear HO335; clear HR280; clear HB; have HO_1 := n0_; have HO267 := n1_; have HO274 := n2_; have HO276 := n3_; have HO305 := n4_; have HO310 := n5_; have HO312 := n6_; have HO335 := n7_; have HO340 := n8_; have HO342 := n9_; have HR280 := n10_; have HB := n11_; clear n0_ n1_ n2_ n3_ n4_ n5_ n6_ n7_ n8_ n9_ n10_ n11_; (try clear hb); (try clear hb2); (try clear hk); (try clear hi); (try clear ho0); (try clear ho1)) | (go_at_call 18; (with_reducible refine (tailwaterlaw20_alive.calls k1  true _ A48.out).mono ?_); rintro e w85 ⟨rfl, hb⟩; have n0_ := Aside0.mk (Kd.R_below (by (with_reducible repeat (first | apply Kd.R_alloc | apply Kd.R_drewN | apply Kd.R_drew)); exact HO_1.out) hb); have n1_ := Aside0.mk (Kd.R_below (by (with_reducible repeat (first | apply Kd.R_alloc | apply Kd.R_drewN | apply Kd.R_drew)); exact HO267.out) hb); have n2_ := Aside0.mk (Kd.R_below (by (with_reducible repeat (first | apply Kd.R_alloc | apply Kd.R_drewN | apply Kd.R_drew)); exact HO274.out) hb); have n3_ := Aside0.mk (Kd.R_below (by (with_reducible repeat (first | apply Kd.R_alloc | apply Kd.R_drewN | apply Kd.R_drew)); exact HO276.out) hb); have n4_ := Aside0.mk (Kd.R_below (by (with_reducible repeat (first | apply Kd.R_alloc | apply Kd.R_drewN | apply Kd.R_drew)); exact HO305.out) hb); have n5_ := Aside0.mk (Kd.R_below (by (with_reducible repeat (first | apply Kd.R_alloc | apply Kd.R_drewN | apply Kd.R_drew)); exact HO310.out) hb); have n6_ := Aside0.mk (Kd.R_below (by (with_reducible repeat (first | apply Kd.R_alloc | apply Kd.R_drewN | apply Kd.R_drew)); exact HO312.out) hb); have n7_ := Aside0.mk (Kd.R_below (by (with_reducible repeat (first | apply Kd.R_alloc | apply Kd.R_drewN | apply Kd.R_drew)); exact HO335.out) hb); have n8_ := Aside0.mk (Kd.R_below (by (with_reducible repeat (first | apply Kd.R_alloc | apply Kd.R_drewN | apply Kd.R_drew)); exact HO340.out) hb); have n9_ := Aside0.mk (Kd.R_below (by (with_reducible repeat (first | apply Kd.R_alloc | apply Kd.R_drewN | apply Kd.R_drew)); exact HO342.out) hb); have n10_ := Aside0.mk (Kd.C_below (by repeat (first | (with_reducible exact HR280.out) | (with_reducible refine Kd.C_alloc ?_ _) | (with_reducible refine Kd.C_drewN ?_ _) | (with_reducible refine Kd.C_drew ?_) | exact HR280.out)) hb); have n11_ := Aside0.mk (below_step (by repeat (first | (with_reducible first | exact HB.out | apply below_alloc | apply pw_below_drewN | apply below_drew1) | exact HB.out)) hb); clear HO_1; clear HO267; clear HO274; clear HO276; clear HO305; clear HO310; clear HO312; clear HO335; clear HO340; clear HO342; clear HR280; clear HB; have HO_1 := n0_; have HO267 := n1_; have HO274 := n2_; have HO276 := n3_; have HO305 := n4_; have HO310 := n5_; have HO312 := n6_; have HO335 := n7_; have HO340 := n8_; have HO342 := n9_; have HR280 := n10_; have HB := n11_; clear n0_ n1_ n2_ n3_ n4_ n5_ n6_ n7_ n8_ n9_ n10_ n11_; (try clear hb); (try clear hb2); (try clear hk); (try clear hi); obtain ⟨Ao86, co86, eo86⟩ := Kd.R_slice HO310.out; subst eo86) | ((with_reducible refine gate_dst (N := 141) rfl ?_); (try (refine gate_guard (by rfl) ?_; dsimp only)); refine Kd.R_lit (Kd.int .i64) _ 2 ?hg (N := 141) ?hd (xs := ([1099511627776, (-1099511627776)] : List Int)) (inner := [.int .i64 1099511627776, .int .i64 (-1099511627776)]) (ok := fun _ => True) (okp := fun _ => True) ?hr ?hp (fun _ hk => hk) trivial (Below.refl _ _) (Nat.le_refl _) (by simp) ?_; (case hd => rfl); (case hg => rfl); (case hr => first | (go_simp; done) | (go_simp; rfl)); (case hp => exact (Reps.one (show Kd.M (Kd.int .i64) _ _ _ 1099511627776 [.int .i64 1099511627776] from rfl) (Reps.one (show Kd.M (Kd.int .i64) _ _ _ (-1099511627776) [.int .i64 (-1099511627776)] from rfl) (Reps.none _ _)))); intro v345 w87 ho88 hb hg_ hnew_; clear hg_ hnew_; (first | rw [← Ny344.out] at ho88 | (simp only [Int.reduceToNat] at ho88; rw [← Ny344.out] at ho88)); have n0_ := Aside0.mk (Kd.R_below (by (with_reducible repeat (first | apply Kd.R_alloc | apply Kd.R_drewN | apply Kd.R_drew)); exact HO_1.out) hb); have n1_ := Aside0.mk (Kd.R_below (by (with_reducible repeat (first | apply Kd.R_alloc | apply Kd.R_drewN | apply Kd.R_drew)); exact HO267.out) hb); have n2_ := Aside0.mk (Kd.R_below (by (with_reducible repeat (first | apply Kd.R_alloc | apply Kd.R_drewN | apply Kd.R_drew)); exact HO274.out) hb); have n3_ := Aside0.mk (Kd.R_below (by (with_reducible repeat (first | apply Kd.R_alloc | apply Kd.R_drewN | apply Kd.R_drew)); exact HO276.out) hb); have n4_ := Aside0.mk (Kd.R_below (by (with_reducible repeat (first | apply Kd.R_alloc | apply Kd.R_drewN | apply Kd.R_drew)); exact HO305.out) hb); have n5_ := Aside0.mk (Kd.R_below (by (with_reducible repeat (first | apply Kd.R_alloc | apply Kd.R_drewN | apply Kd.R_drew)); exact HO310.out) hb); have n6_ := Aside0.mk (Kd.R_below (by (with_reducible repeat (first | apply Kd.R_alloc | apply Kd.R_drewN | apply Kd.R_drew)); exact HO312.out) hb); have n7_ := Aside0.mk (Kd.R_below (by (with_reducible repeat (first | apply Kd.R_alloc | apply Kd.R_drewN | apply Kd.R_drew)); exact HO335.out) hb); have n8_ := Aside0.mk (Kd.R_below (by (with_reducible repeat (first | apply Kd.R_alloc | apply Kd.R_drewN | apply Kd.R_drew)); exact HO340.out) hb); have n9_ := Aside0.mk (Kd.R_below (by (with_reducible repeat (first | apply Kd.R_alloc | apply Kd.R_drewN | apply Kd.R_drew)); exact HO342.out) hb); have n10_ := Aside0.mk (Kd.R_lower ho88 (below_size (by repeat (first | (with_reducible first | exact HB.out | apply below_alloc | apply pw_below_drewN | apply below_drew1) | exact HB.out)))); have n11_ := Aside0.mk (Kd.C_below (by repeat (first | (with_reducible exact HR280.out) | (with_reducible refine Kd.C_alloc ?_ _) | (with_reducible refine Kd.C_drewN ?_ _) | (with_reducible refine Kd.C_drew ?_) | exact HR280.out)) hb); have n12_ := Aside0.mk (below_step (by repeat (first | (with_reducible first | exact HB.out | apply below_alloc | apply pw_below_drewN | apply below_drew1) | exact HB.out)) hb); clear HO_1; clear HO267; clear HO274; clear HO276; clear HO305; clear HO310; clear HO312; clear HO335; clear HO340; clear HO342; clear HR280; clear HB; have HO_1 := n0_; have HO267 := n1_; have HO274 := n2_; have HO276 := n3_; have HO305 := n4_; have HO310 := n5_; have HO312 := n6_; have HO335 := n7_; have HO340 := n8_; have HO342 := n9_; have HO346 := n10_; have HR280 := n11_; have HB := n12_; clear n0_ n1_ n2_ n3_ n4_ n5_ n6_ n7_ n8_ n9_ n10_ n11_ n12_; clear hb ho88; obtain ⟨Ao89, co89, eo89⟩ := Kd.R_slice HO312.out; subst eo89; obtain ⟨Ao90, co90, eo90⟩ := Kd.R_slice HO346.out; subst eo90) | (go_at_call 19; (with_reducible refine (tailwaterlaw20_times.calls k1 _ _ t307 _ _ y344 true _ ?side1 ?side2 ?side3 ?side4 A56.out).mono ?_); (case side1 => repeat (first | exact (Kd.R_reads' HO312.out).2.2 | (with_reducible refine Kd.C_alloc ?_ _) | (with_reducible refine Kd.C_drewN ?_ _) | (with_reducible refine Kd.C_drew ?_))); (case side2 => exact (Kd.R_reads' HO312.out).2.1); (case side3 => repeat (first | exact (Kd.R_reads' HO346.out).2.2 | (with_reducible refine Kd.C_alloc ?_ _) | (with_reducible refine Kd.C_drewN ?_ _) | (with_reducible refine Kd.C_drew ?_))); (case side4 => exact (Kd.R_reads' HO346.out).2.1); rintro e w' ⟨rfl, ⟨nd, rfl⟩⟩) | ((with_reducible refine gate_dst (N := 150) rfl ?_); (try (refine gate_guard (by rfl) ?_; dsimp only)); refine Kd.R_lit (Kd.int .i64) _ 2 ?hg (N := 150) ?hd (xs := ([(-1099511627776), 1099511627776] : List Int)) (inner := [.int .i64 (-1099511627776), .int .i64 1099511627776]) (ok := fun _ => True) (okp := fun _ => True) ?hr ?hp (fun _ hk => hk) trivial (Below.refl _ _) (Nat.le_refl _) (by simp) ?_; (case hd => rfl); (case hg => rfl); (case hr => first | (go_simp; done) | (go_simp; rfl)); (case hp => exact (Reps.one (show Kd.M (Kd.int .i64) _ _ _ (-1099511627776) [.int .i64 (-1099511627776)] from rfl) (Reps.one (show Kd.M (Kd.int .i64) _ _ _ 1099511627776 [.int .i64 1099511627776] from rfl) (Reps.none _ _)))); intro v349 w91 ho92 hb hg_ hnew_; clear hg_ hnew_; (first | rw [← Ny348.out] at ho92 | (simp only [Int.reduceToNat] at ho92; rw [← Ny348.out] at ho92)); have n0_ := Aside0.mk (Kd.R_below (by (with_reducible repeat (first | apply Kd.R_alloc | apply Kd.R_drewN | apply Kd.R_drew)); exact HO_1.out) hb); have n1_ := Aside0.mk (Kd.R_below (by (with_reducible repeat (first | apply Kd.R_alloc | apply Kd.R_drewN | apply Kd.R_drew)); exact HO267.out) hb); have n2_ := Aside0.mk (Kd.R_below (by (with_reducible repeat (first | apply Kd.R_alloc | apply Kd.R_drewN | apply Kd.R_drew)); exact HO274.out) hb); have n3_ := Aside0.mk (Kd.R_below (by (with_reducible repeat (first | apply Kd.R_alloc | apply Kd.R_drewN | apply Kd.R_drew)); exact HO276.out) hb); have n4_ := Aside0.mk (Kd.R_below (by (with_reducible repeat (first | apply Kd.R_alloc | apply Kd.R_drewN | apply Kd.R_drew)); exact HO305.out) hb); have n5_ := Aside0.mk (Kd.R_below (by (with_reducible repeat (first | apply Kd.R_alloc | apply Kd.R_drewN | apply Kd.R_drew)); exact HO310.out) hb); have n6_ := Aside0.mk (Kd.R_below (by (with_reducible repeat (first | apply Kd.R_alloc | apply Kd.R_drewN | apply Kd.R_drew)); exact HO312.out) hb); have n7_ := Aside0.mk (Kd.R_below (by (with_reducible repeat (first | apply Kd.R_alloc | apply Kd.R_drewN | apply Kd.R_drew)); exact HO335.out) hb); have n8_ := Aside0.mk (Kd.R_below (by (with_reducible repeat (first | apply Kd.R_alloc | apply Kd.R_drewN | apply Kd.R_drew)); exact HO340.out) hb); have n9_ := Aside0.mk (Kd.R_below (by (with_reducible repeat (first | apply Kd.R_alloc | apply Kd.R_drewN | apply Kd.R_drew)); exact HO342.out) hb); have n10_ := Aside0.mk (Kd.R_elder' (by (with_reducible repeat (first | apply Kd.R_alloc | apply Kd.R_drewN | apply Kd.R_drew)); exact HO346.out) (Kd.R_base ho92) hb); have n11_ := Aside0.mk (Kd.R_lower (Kd.R_new' ho92 (Kd.R_lt (by (with_reducible repeat (first | apply Kd.R_alloc | apply Kd.R_drewN | apply Kd.R_drew)); exact HO346.out))) (below_size (by repeat (first | (with_reducible first | exact HB.out | apply below_alloc | apply pw_below_drewN | apply below_drew1) | exact HB.out)))); have n12_ := Aside0.mk (Kd.C_below (by repeat (first | (with_reducible exact HR280.out) | (with_reducible refine Kd.C_alloc ?_ _) | (with_reducible refine Kd.C_drewN ?_ _) | (with_reducible refine Kd.C_drew ?_) | exact HR280.out)) hb); have n13_ := Aside0.mk (below_step (by repeat (first | (with_reducible first | exact HB.out | apply below_alloc | apply pw_below_drewN | apply below_drew1) | exact HB.out)) hb); clear HO_1; clear HO267; clear HO274; clear HO276; clear HO305; clear HO310; clear HO312; clear HO335; clear HO340; clear HO342; clear HO346; clear HR280; clear HB; have HO_1 := n0_; have HO267 := n1_; have HO274 := n2_; have HO276 := n3_; have HO305 := n4_; have HO310 := n5_; have HO312 := n6_; have HO335 := n7_; have HO340 := n8_; have HO342 := n9_; have HO346 := n10_; have HO350 := n11_; have HR280 := n12_; have HB := n13_; clear n0_ n1_ n2_ n3_ n4_ n5_ n6_ n7_ n8_ n9_ n10_ n11_ n12_ n13_; clear hb ho92; obtain ⟨Ao93, co93, eo93⟩ := Kd.R_slice HO340.out; subst eo93; obtain ⟨Ao94, co94, eo94⟩ := Kd.R_slice HO350.out; subst eo94) | (go_at_call 19; (with_reducible refine (tailwaterlaw20_times.calls k1 _ _ t336 _ _ y348 true _ ?side1 ?side2 ?side3 ?side4 A59.out).mono ?_); (case side1 => repeat (first | exact (Kd.R_reads' HO340.out).2.2 | (with_reducible refine Kd.C_alloc ?_ _) | (with_reducible refine Kd.C_drewN ?_ _) | (with_reducible refine Kd.C_drew ?_))); (case side2 => exact (Kd.R_reads' HO340.out).2.1); (case side3 => repeat (first | exact (Kd.R_reads' HO350.out).2.2 | (with_reducible refine Kd.C_alloc ?_ _) | (with_reducible refine Kd.C_drewN ?_ _) | (with_reducible refine Kd.C_drew ?_))); (case side4 => exact (Kd.R_reads' HO350.out).2.1); rintro e w' ⟨rfl, ⟨nd, rfl⟩⟩; obtain ⟨Ao95, co95, eo95⟩ := Kd.R_slice HO342.out; subst eo95))
                                go_ret
                                exact ⟨by first | rfl | (simp [errW_none, errW_some] <;> rfl) | (simp [*, errW_none, errW_some] <;> rfl), by repeat (first | (with_reducible first | exact HB.out | apply below_alloc | apply pw_below_drewN | apply below_drew1) | exact HB.out)⟩
                              · replace c60 := Bool.eq_false_iff.mpr c60
                                subst c60
                                have H1 := H
                                rw [if_neg (show ¬ (false = true) by decide)] at H1
                                clear H
                                have H := H1
                                clear H1
                                exact absurd H (by decide)
                            · rw [if_neg c58] at H
                              have c58b0 : (t338 == 0) = false := beq_eq_false_iff_ne.mpr c58
                              have c58b1 : (t338 != 0) = true := bne_iff_ne.mpr c58
                              exact absurd H (by decide)
                          · replace c57 := Bool.eq_false_iff.mpr c57
                            subst c57
                            have H1 := H
                            rw [if_neg (show ¬ (false = true) by decide)] at H1
                            clear H
                            have H := H1
                            clear H1
                            exact absurd H (by decide)
                        · rw [if_neg c55] at H
                          have c55b0 : ((t306.length : Int) == 0) = false := beq_eq_false_iff_ne.mpr c55
                          have c55b1 : ((t306.length : Int) != 0) = true := bne_iff_ne.mpr c55
                          have c55b2 : ¬ (t306 = []) := fun h_ => c55 (by rw [h_]; rfl)
                          exact absurd H (by decide)
                      · rw [if_neg c54] at H
                        have c54b0 : (t308 == 0) = false := beq_eq_false_iff_ne.mpr c54
                        have c54b1 : (t308 != 0) = true := bne_iff_ne.mpr c54
                        exact absurd H (by decide)
                    · rw [if_neg c53] at H
                      have c53b0 : (t281 == (-9223372036854775808)) = false := beq_eq_false_iff_ne.mpr c53
                      have c53b1 : (t281 != (-9223372036854775808)) = true := bne_iff_ne.mpr c53
                      exact absurd H (by decide)
                  · rw [if_neg c52] at H
                    have c52b0 : (t282 == 0) = false := beq_eq_false_iff_ne.mpr c52
                    have c52b1 : (t282 != 0) = true := bne_iff_ne.mpr c52
                    exact absurd H (by decide)
                · rw [if_neg c51] at H
                  have c51b0 : (t272 == 4) = false := beq_eq_false_iff_ne.mpr c51
                  have c51b1 : (t272 != 4) = true := bne_iff_ne.mpr c51
                  exact absurd H (by decide)
              · rw [if_neg c50] at H
                have c50b0 : (t269 == 4) = false := beq_eq_false_iff_ne.mpr c50
                have c50b1 : (t269 != 4) = true := bne_iff_ne.mpr c50
                exact absurd H (by decide)
            · replace c49 := Bool.eq_false_iff.mpr c49
              subst c49
              have H1 := H
              rw [if_neg (show ¬ (false = true) by decide)] at H1
              clear H
              have H := H1
              clear H1
              exact absurd H (by decide)
          · rw [if_neg c36] at H
            exact absurd H (by simp)
        · rw [if_neg c33] at H
          exact absurd H (by simp)

/-- THE ONE PURE STATEMENT of tailwaterlaw20_LateNames: yours. -/
def tailwaterlaw20_LateNames.Pure : Prop := ∃ k, tailwaterlaw20_LateNames.f k  = some true
theorem tailwaterlaw20_LateNames.walk (P : tailwaterlaw20_LateNames.Pure)  (w : World)  :
    Calls Try.prog 4 #[] w fun e w' => e = .returned (.bool true) ∧ Below w.heap.size w w' := by
  obtain ⟨k, h⟩ := P  
  refine (tailwaterlaw20_LateNames.calls k  w h).mono ?_
  rintro e w' ⟨rfl, hd⟩
  exact ⟨rfl, hd⟩

end Go.Proofs.Ytdmaedaobjcocaa.Q
