/- Functions of the program as plain Lean functions, each with a proof that the Go code computes just that; written by a turned copy of the kit's printer, not by hand. No condition but what each theorem names. -/
import Derived.Test.YtiilljmhddjmeaaF11
import Derived.Test.YtiilljmhddjmeaaF16
import Derived.Test.YtiilljmhddjmeaaF18
import Derived.Test.YtiilljmhddjmeaaF25
import Derived.Test.YtiilljmhddjmeaaHPut
import Derived.Test.YtiilljmhddjmeaaHTake
import Derived.Test.YtiilljmhddjmeaaQ0
import Derived.Test.YtiilljmhddjmeaaQ1
namespace Go.Proofs.Ytiilljmhddjmeaa.Q
open Go.RowKit Go.Proofs.YtiilljmhddjmeaaW.PrintWords Go.Proofs.YtiilljmhddjmeaaW.PrintLast
set_option linter.unusedVariables false
set_option linter.unusedSimpArgs false

attribute [local go_sem high] eqA35
/-! ### tailwaterlaw26_alive: function 22 -/
def tailwaterlaw26_alive.f (k : Nat)  : Option (Bool) := (channel_New.f 2).bind fun bt279 => ((tailwaterlaw26_mark.f 1).bind fun bt285 => ((channel_Put.f k bt279.1 bt279.2.1 bt285.1 bt285.2.1 bt285.2.2.1 bt285.2.2.2.1 bt285.2.2.2.2.1 bt285.2.2.2.2.2.1 bt285.2.2.2.2.2.2.1 bt285.2.2.2.2.2.2.2.1 bt285.2.2.2.2.2.2.2.2.1 bt285.2.2.2.2.2.2.2.2.2).bind fun bt295 => ((tailwaterlaw26_mark.f 2).bind fun bt301 => ((channel_Put.f k bt295.1 bt295.2.1 bt301.1 bt301.2.1 bt301.2.2.1 bt301.2.2.2.1 bt301.2.2.2.2.1 bt301.2.2.2.2.2.1 bt301.2.2.2.2.2.2.1 bt301.2.2.2.2.2.2.2.1 bt301.2.2.2.2.2.2.2.2.1 bt301.2.2.2.2.2.2.2.2.2).bind fun bt311 => ((tailwaterlaw26_mark.f 3).bind fun bt317 => ((channel_Put.f k bt311.1 bt311.2.1 bt317.1 bt317.2.1 bt317.2.2.1 bt317.2.2.2.1 bt317.2.2.2.2.1 bt317.2.2.2.2.2.1 bt317.2.2.2.2.2.2.1 bt317.2.2.2.2.2.2.2.1 bt317.2.2.2.2.2.2.2.2.1 bt317.2.2.2.2.2.2.2.2.2).bind fun bt327 => ((channel_Take.f k bt311.1 bt311.2.1).bind fun bt333 => ((tailwaterlaw26_mark.f 3).bind fun bt350 => ((channel_Put.f k bt333.2.2.2.2.2.2.2.2.2.2.1 bt333.2.2.2.2.2.2.2.2.2.2.2.1 bt350.1 bt350.2.1 bt350.2.2.1 bt350.2.2.2.1 bt350.2.2.2.2.1 bt350.2.2.2.2.2.1 bt350.2.2.2.2.2.2.1 bt350.2.2.2.2.2.2.2.1 bt350.2.2.2.2.2.2.2.2.1 bt350.2.2.2.2.2.2.2.2.2).bind fun bt360 => (if bt279.2.2 = 0 then (if bt295.2.2 = 0 then (if bt311.2.2 = 0 then (if bt327.2.2 = 18 then (if bt333.2.2.2.2.2.2.2.2.2.2.2.2 = 0 then ((tailwaterlaw26_mark.f 1).bind fun bt366 => (if (bt333.1 == bt366.1 && ((bt333.2.1 == bt366.2.1 && (bt333.2.2.1 == bt366.2.2.1 && (bt333.2.2.2.1 == bt366.2.2.2.1))) && (bt333.2.2.2.2.1 == bt366.2.2.2.2.1 && ((bt333.2.2.2.2.2.1 == bt366.2.2.2.2.2.1 && ((bt333.2.2.2.2.2.2.1 == bt366.2.2.2.2.2.2.1 && (bt333.2.2.2.2.2.2.2.1 == bt366.2.2.2.2.2.2.2.1)) && ((bt333.2.2.2.2.2.2.2.2.1 == bt366.2.2.2.2.2.2.2.2.1 && (bt333.2.2.2.2.2.2.2.2.2.1 == bt366.2.2.2.2.2.2.2.2.2))))))))) = true then (if bt360.2.2 = 0 then (some ((bt360.2.1.length : Int) == 2)) else (some false)) else (some false))) else (some false)) else (some false)) else (some false)) else (some false)) else (some false)))))))))))
theorem tailwaterlaw26_alive.mono : ∀ k, LeO (tailwaterlaw26_alive.f k ) (tailwaterlaw26_alive.f (k + 1) ) := by
  intro  k
  unfold tailwaterlaw26_alive.f
  repeat' first
      | (with_reducible exact channel_Put.mono _ _ _ _ _ _ _ _ _ _ _ _ _)
      | (with_reducible exact channel_Take.mono _ _ _)
      | (with_reducible exact LeO.refl _)
      | (with_reducible exact LeO.none _)
      | (with_reducible refine LeO.ite ?_ ?_)
      | (with_reducible refine LeO.bind ?_ (fun _ => ?_))
      | exact channel_Put.mono _ _ _ _ _ _ _ _ _ _ _ _ _
      | exact channel_Take.mono _ _ _
      | exact LeO.none _
      | refine LeO.ite ?_ ?_
      | refine LeO.bind ?_ (fun _ => ?_)
def tailwaterlaw26_alive.T2 : Bool × List (List Nat × List Nat) := (true, [([], []), ([], []), ([0, 1, 1], [0, 1]), ([2], [2]), ([3], [3]), ([3], [3]), ([], []), ([6, 4, 2, 0, 1, 2, 3, 4, 6], [4, 6]), ([5, 7, 0, 1, 2, 3, 4, 5, 6, 7], [5])])
def tailwaterlaw26_alive.B2 : List Nat := [0, 0, 3, 7, 15, 15, 0, 95, 255]
theorem tailwaterlaw26_alive.tab2 : rtab .any (opsOf Try.f22 2) = tailwaterlaw26_alive.T2 := by kernel_rfl
theorem tailwaterlaw26_alive.bits2 : waitsOk tailwaterlaw26_alive.T2.2 tailwaterlaw26_alive.B2 = true := by kernel_rfl
def tailwaterlaw26_alive.T3 : Bool × List (List Nat × List Nat) := (true, [([], []), ([], []), ([0, 1, 1], [0, 1]), ([2], [2]), ([3], [3]), ([3], [3]), ([], []), ([6, 4, 2, 0, 1, 2, 3, 4, 6], [4, 6]), ([5, 7, 0, 1, 2, 3, 4, 5, 6, 7], [5])])
def tailwaterlaw26_alive.B3 : List Nat := [0, 0, 3, 7, 15, 15, 0, 95, 255]
theorem tailwaterlaw26_alive.tab3 : rtab .any (opsOf Try.f22 3) = tailwaterlaw26_alive.T3 := by kernel_rfl
theorem tailwaterlaw26_alive.bits3 : waitsOk tailwaterlaw26_alive.T3.2 tailwaterlaw26_alive.B3 = true := by kernel_rfl
def tailwaterlaw26_alive.T4 : Bool × List (List Nat × List Nat) := (true, [([], []), ([], []), ([0, 1, 1], [0, 1]), ([2], [2]), ([3], [3]), ([3], [3]), ([], []), ([6, 4, 2, 0, 1, 2, 3, 4, 6], [4, 6]), ([5, 7, 0, 1, 2, 3, 4, 5, 6, 7], [5])])
def tailwaterlaw26_alive.B4 : List Nat := [0, 0, 3, 7, 15, 15, 0, 95, 255]
theorem tailwaterlaw26_alive.tab4 : rtab .any (opsOf Try.f22 4) = tailwaterlaw26_alive.T4 := by kernel_rfl
theorem tailwaterlaw26_alive.bits4 : waitsOk tailwaterlaw26_alive.T4.2 tailwaterlaw26_alive.B4 = true := by kernel_rfl
def tailwaterlaw26_alive.T6 : Bool × List (List Nat × List Nat) := (true, [([], []), ([], []), ([0, 1, 1], [0, 1]), ([2], [2]), ([3], [3]), ([3], [3]), ([], []), ([6, 4, 2, 0, 1, 2, 3, 4, 6], [4, 6]), ([5, 7, 0, 1, 2, 3, 4, 5, 6, 7], [5])])
def tailwaterlaw26_alive.B6 : List Nat := [0, 0, 3, 7, 15, 15, 0, 95, 255]
theorem tailwaterlaw26_alive.tab6 : rtab .any (opsOf Try.f22 6) = tailwaterlaw26_alive.T6 := by kernel_rfl
theorem tailwaterlaw26_alive.bits6 : waitsOk tailwaterlaw26_alive.T6.2 tailwaterlaw26_alive.B6 = true := by kernel_rfl
def tailwaterlaw26_alive.T7 : Bool × List (List Nat × List Nat) := (true, [([], []), ([0], [0]), ([1], [1]), ([2], [2]), ([3, 2], [2, 3]), ([2, 4], [2, 4]), ([5, 2], [5]), ([6], [6]), ([7, 6], [6, 7]), ([6, 8], [6, 8]), ([9, 6], [9]), ([10], [10]), ([11, 10], [10, 11]), ([10, 12], [10, 12]), ([13, 10], [13]), ([14], [14]), ([15, 14], [14, 15]), ([14, 16], [14, 16]), ([17, 14], [17]), ([18], [18]), ([18, 18], [18]), ([19, 20, 18], [18, 19, 20]), ([18, 21], [18, 21]), ([22, 20], [22]), ([23], [23]), ([24, 23], [23, 24]), ([23, 25], [23, 25]), ([26, 23], [26]), ([27], [27]), ([28, 27], [27, 28]), ([29, 27], [27, 29]), ([30, 27], [27, 30]), ([27, 31], [27, 31]), ([32, 27, 0, 1, 2, 3, 4, 5, 6, 7, 8, 9, 10, 11, 12, 13, 14, 15, 16, 17, 18, 19, 20, 21, 22, 23, 24, 25, 26, 27, 28, 29, 30, 31, 32], [32])])
def tailwaterlaw26_alive.B7 : List Nat := [0, 1, 3, 7, 15, 31, 63, 127, 255, 511, 1023, 2047, 4095, 8191, 16383, 32767, 65535, 131071, 262143, 524287, 524287, 2097151, 4194303, 8388607, 16777215, 33554431, 67108863, 134217727, 268435455, 536870911, 1073741823, 2147483647, 4294967295, 8589934591]
theorem tailwaterlaw26_alive.tab7 : rtab .any (opsOf Try.f22 7) = tailwaterlaw26_alive.T7 := by kernel_rfl
theorem tailwaterlaw26_alive.bits7 : waitsOk tailwaterlaw26_alive.T7.2 tailwaterlaw26_alive.B7 = true := by kernel_rfl
set_option maxHeartbeats 8000000 in
set_option maxRecDepth 100000 in
theorem tailwaterlaw26_alive.callsT (k : Nat)  (w : World) (h : tailwaterlaw26_alive.f k  = some true) :
    Calls Try.prog 22 #[] w fun e w' => e = .returned (.bool true) ∧ Below w.heap.size w w' := by
 have hu24 := Try.underlying24
 have hu35 := Try.underlying35
 have HB := Aside0.mk (Below.refl w.heap.size w)
 have H : ((channel_New.f 2).bind fun bt279 => ((tailwaterlaw26_mark.f 1).bind fun bt285 => ((channel_Put.f k bt279.1 bt279.2.1 bt285.1 bt285.2.1 bt285.2.2.1 bt285.2.2.2.1 bt285.2.2.2.2.1 bt285.2.2.2.2.2.1 bt285.2.2.2.2.2.2.1 bt285.2.2.2.2.2.2.2.1 bt285.2.2.2.2.2.2.2.2.1 bt285.2.2.2.2.2.2.2.2.2).bind fun bt295 => ((tailwaterlaw26_mark.f 2).bind fun bt301 => ((channel_Put.f k bt295.1 bt295.2.1 bt301.1 bt301.2.1 bt301.2.2.1 bt301.2.2.2.1 bt301.2.2.2.2.1 bt301.2.2.2.2.2.1 bt301.2.2.2.2.2.2.1 bt301.2.2.2.2.2.2.2.1 bt301.2.2.2.2.2.2.2.2.1 bt301.2.2.2.2.2.2.2.2.2).bind fun bt311 => ((tailwaterlaw26_mark.f 3).bind fun bt317 => ((channel_Put.f k bt311.1 bt311.2.1 bt317.1 bt317.2.1 bt317.2.2.1 bt317.2.2.2.1 bt317.2.2.2.2.1 bt317.2.2.2.2.2.1 bt317.2.2.2.2.2.2.1 bt317.2.2.2.2.2.2.2.1 bt317.2.2.2.2.2.2.2.2.1 bt317.2.2.2.2.2.2.2.2.2).bind fun bt327 => ((channel_Take.f k bt311.1 bt311.2.1).bind fun bt333 => ((tailwaterlaw26_mark.f 3).bind fun bt350 => ((channel_Put.f k bt333.2.2.2.2.2.2.2.2.2.2.1 bt333.2.2.2.2.2.2.2.2.2.2.2.1 bt350.1 bt350.2.1 bt350.2.2.1 bt350.2.2.2.1 bt350.2.2.2.2.1 bt350.2.2.2.2.2.1 bt350.2.2.2.2.2.2.1 bt350.2.2.2.2.2.2.2.1 bt350.2.2.2.2.2.2.2.2.1 bt350.2.2.2.2.2.2.2.2.2).bind fun bt360 => (if bt279.2.2 = 0 then (if bt295.2.2 = 0 then (if bt311.2.2 = 0 then (if bt327.2.2 = 18 then (if bt333.2.2.2.2.2.2.2.2.2.2.2.2 = 0 then ((tailwaterlaw26_mark.f 1).bind fun bt366 => (if (bt333.1 == bt366.1 && ((bt333.2.1 == bt366.2.1 && (bt333.2.2.1 == bt366.2.2.1 && (bt333.2.2.2.1 == bt366.2.2.2.1))) && (bt333.2.2.2.2.1 == bt366.2.2.2.2.1 && ((bt333.2.2.2.2.2.1 == bt366.2.2.2.2.2.1 && ((bt333.2.2.2.2.2.2.1 == bt366.2.2.2.2.2.2.1 && (bt333.2.2.2.2.2.2.2.1 == bt366.2.2.2.2.2.2.2.1)) && ((bt333.2.2.2.2.2.2.2.2.1 == bt366.2.2.2.2.2.2.2.2.1 && (bt333.2.2.2.2.2.2.2.2.2.1 == bt366.2.2.2.2.2.2.2.2.2))))))))) = true then (if bt360.2.2 = 0 then (some ((bt360.2.1.length : Int) == 2)) else (some false)) else (some false))) else (some false)) else (some false)) else (some false)) else (some false)) else (some false)))))))))))) = some true := h
 clear h
 replace H := Option.bind_eq_some_iff.mp H
 obtain ⟨⟨t279, t280, t283⟩, A10, H⟩ := H
 try dsimp only at H
 have A1 := Aside0.mk A10
 clear A10
 replace H := Option.bind_eq_some_iff.mp H
 obtain ⟨⟨t285, t286, t287, t288, t289, t290, t291, t292, t293, t294⟩, A20, H⟩ := H
 try dsimp only at H
 have A2 := Aside0.mk A20
 clear A20
 replace H := Option.bind_eq_some_iff.mp H
 obtain ⟨⟨t295, t296, t299⟩, A30, H⟩ := H
 try dsimp only at H
 have A3 := Aside0.mk A30
 clear A30
 replace H := Option.bind_eq_some_iff.mp H
 obtain ⟨⟨t301, t302, t303, t304, t305, t306, t307, t308, t309, t310⟩, A40, H⟩ := H
 try dsimp only at H
 have A4 := Aside0.mk A40
 clear A40
 replace H := Option.bind_eq_some_iff.mp H
 obtain ⟨⟨t311, t312, t315⟩, A50, H⟩ := H
 try dsimp only at H
 have A5 := Aside0.mk A50
 clear A50
 replace H := Option.bind_eq_some_iff.mp H
 obtain ⟨⟨t317, t318, t319, t320, t321, t322, t323, t324, t325, t326⟩, A60, H⟩ := H
 try dsimp only at H
 have A6 := Aside0.mk A60
 clear A60
 replace H := Option.bind_eq_some_iff.mp H
 obtain ⟨⟨t327, t328, t331⟩, A70, H⟩ := H
 try dsimp only at H
 have A7 := Aside0.mk A70
 clear A70
 replace H := Option.bind_eq_some_iff.mp H
 obtain ⟨⟨t333, t334, t335, t336, t337, t338, t339, t340, t341, t342, t343, t344, t347⟩, A80, H⟩ := H
 try dsimp only at H
 have A8 := Aside0.mk A80
 clear A80
 replace H := Option.bind_eq_some_iff.mp H
 obtain ⟨⟨t350, t351, t352, t353, t354, t355, t356, t357, t358, t359⟩, A90, H⟩ := H
 try dsimp only at H
 have A9 := Aside0.mk A90
 clear A90
 replace H := Option.bind_eq_some_iff.mp H
 obtain ⟨⟨t360, t361, t364⟩, A100, H⟩ := H
 try dsimp only at H
 have A10 := Aside0.mk A100
 clear A100
 by_cases c11 : t283 = 0
 case neg =>
  rw [if_neg c11] at H
  have c11b0 : (t283 == 0) = false := beq_eq_false_iff_ne.mpr c11
  have c11b1 : (t283 != 0) = true := bne_iff_ne.mpr c11
  exact absurd H (by decide)
 rw [if_pos c11] at H
 have c11b0 : (t283 == 0) = true := beq_iff_eq.mpr c11
 have c11b1 : (t283 != 0) = false := bne_eq_false_iff_eq.mpr c11
 clear c11
 by_cases c12 : t299 = 0
 case neg =>
  rw [if_neg c12] at H
  have c12b0 : (t299 == 0) = false := beq_eq_false_iff_ne.mpr c12
  have c12b1 : (t299 != 0) = true := bne_iff_ne.mpr c12
  exact absurd H (by decide)
 rw [if_pos c12] at H
 have c12b0 : (t299 == 0) = true := beq_iff_eq.mpr c12
 have c12b1 : (t299 != 0) = false := bne_eq_false_iff_eq.mpr c12
 clear c12
 by_cases c13 : t315 = 0
 case neg =>
  rw [if_neg c13] at H
  have c13b0 : (t315 == 0) = false := beq_eq_false_iff_ne.mpr c13
  have c13b1 : (t315 != 0) = true := bne_iff_ne.mpr c13
  exact absurd H (by decide)
 rw [if_pos c13] at H
 have c13b0 : (t315 == 0) = true := beq_iff_eq.mpr c13
 have c13b1 : (t315 != 0) = false := bne_eq_false_iff_eq.mpr c13
 clear c13
 by_cases c14 : t331 = 18
 case neg =>
  rw [if_neg c14] at H
  have c14b0 : (t331 == 18) = false := beq_eq_false_iff_ne.mpr c14
  have c14b1 : (t331 != 18) = true := bne_iff_ne.mpr c14
  exact absurd H (by decide)
 rw [if_pos c14] at H
 have c14b0 : (t331 == 18) = true := beq_iff_eq.mpr c14
 have c14b1 : (t331 != 18) = false := bne_eq_false_iff_eq.mpr c14
 clear c14
 by_cases c15 : t347 = 0
 case neg =>
  rw [if_neg c15] at H
  have c15b0 : (t347 == 0) = false := beq_eq_false_iff_ne.mpr c15
  have c15b1 : (t347 != 0) = true := bne_iff_ne.mpr c15
  exact absurd H (by decide)
 rw [if_pos c15] at H
 have c15b0 : (t347 == 0) = true := beq_iff_eq.mpr c15
 have c15b1 : (t347 != 0) = false := bne_eq_false_iff_eq.mpr c15
 clear c15
 replace H := Option.bind_eq_some_iff.mp H
 obtain ⟨⟨t366, t367, t368, t369, t370, t371, t372, t373, t374, t375⟩, A160, H⟩ := H
 try dsimp only at H
 have A16 := Aside0.mk A160
 clear A160
 by_cases c17 : (t333 == t366 && ((t334 == t367 && (t335 == t368 && (t336 == t369))) && (t337 == t370 && ((t338 == t371 && ((t339 == t372 && (t340 == t373)) && ((t341 == t374 && (t342 == t375))))))))) = true
 case neg =>
  rw [if_neg c17] at H
  have c17b0 : (t333 == t366 && ((t334 == t367 && (t335 == t368 && (t336 == t369))) && (t337 == t370 && ((t338 == t371 && ((t339 == t372 && (t340 == t373)) && ((t341 == t374 && (t342 == t375))))))))) = false := by simpa using c17
  (try (have c17b1 : decide (t333 = t366 && ((t334 == t367 && (t335 == t368 && (t336 == t369))) && (t337 == t370 && ((t338 == t371 && ((t339 == t372 && (t340 == t373)) && ((t341 == t374 && (t342 == t375))))))))) = false := by simpa using c17))
  (try (have c17b2 : (t333 == t366 && ((t334 == t367 && (t335 == t368 && (t336 == t369))) && (t337 == t370 && ((t338 == t371 && ((t339 == t372 && (t340 == t373)) && ((t341 == t374 && (t342 == t375))))))))) = false := by simpa using c17))
  (try (have c17b3 : ¬ (t333 = t366 && ((t334 == t367 && (t335 == t368 && (t336 == t369))) && (t337 == t370 && ((t338 == t371 && ((t339 == t372 && (t340 == t373)) && ((t341 == t374 && (t342 == t375))))))))) := by simpa using c17))
  have c17b4 : (t333 == t366 && (((t334 == t367 && ((t335 == t368 && (t336 == t369)))) && ((t337 == t370 && ((t338 == t371 && (((t339 == t372 && (t340 == t373)) && ((t341 == t374 && (t342 == t375)))))))))))) = false := by simpa using c17
  clear c17
  exact absurd H (by decide)
 rw [if_pos c17] at H
 have c17b0 : (t333 == t366 && ((t334 == t367 && (t335 == t368 && (t336 == t369))) && (t337 == t370 && ((t338 == t371 && ((t339 == t372 && (t340 == t373)) && ((t341 == t374 && (t342 == t375))))))))) = true := c17
 (try (have c17b1 : decide (t333 = t366 && ((t334 == t367 && (t335 == t368 && (t336 == t369))) && (t337 == t370 && ((t338 == t371 && ((t339 == t372 && (t340 == t373)) && ((t341 == t374 && (t342 == t375))))))))) = true := by simpa using c17))
 (try (have c17b2 : (t333 == t366 && ((t334 == t367 && (t335 == t368 && (t336 == t369))) && (t337 == t370 && ((t338 == t371 && ((t339 == t372 && (t340 == t373)) && ((t341 == t374 && (t342 == t375))))))))) = true := by simpa using c17))
 have c17b3 : (t333 == t366 && (((t334 == t367 && ((t335 == t368 && (t336 == t369)))) && ((t337 == t370 && ((t338 == t371 && (((t339 == t372 && (t340 == t373)) && ((t341 == t374 && (t342 == t375)))))))))))) = true := by simpa using c17
 clear c17
 by_cases c18 : t364 = 0
 case neg =>
  rw [if_neg c18] at H
  have c18b0 : (t364 == 0) = false := beq_eq_false_iff_ne.mpr c18
  have c18b1 : (t364 != 0) = true := bne_iff_ne.mpr c18
  exact absurd H (by decide)
 rw [if_pos c18] at H
 have c18b0 : (t364 == 0) = true := beq_iff_eq.mpr c18
 have c18b1 : (t364 != 0) = false := bne_eq_false_iff_eq.mpr c18
 clear c18
 have HV_ := Option.some.inj H
 clear H
 go_enter Try.func22, Try.ntmps22
 try go_wp2_with (first | ((with_reducible refine gate_callee (f := 18) rfl ?_); refine goesL_ (some 15) rfl rfl Try.func18 (by kernel_rfl) rfl #[.int .i64 2] rfl (by (try simp only [List.map_toArray, List.map_cons, List.map_nil]); first | done | rfl | (simp only [List.length_drop, List.length_take]; rfl)) ?_; (with_reducible refine (channel_New.calls 2 t279 t280 t283 _ A1.out).mono ?_); rintro e w19 ⟨v281, rfl, ho0, hb⟩; refine ⟨_, rfl, ?_⟩; have n0_ := Aside0.mk (Kd.R_lower ho0 (below_size (by repeat (first | (with_reducible first | exact HB.out | apply below_alloc | apply pw_below_drewN | apply below_drew1) | exact HB.out)))); have n1_ := Aside0.mk (below_step (by repeat (first | (with_reducible first | exact HB.out | apply below_alloc | apply pw_below_drewN | apply below_drew1) | exact HB.out)) hb); clear HB; have HO282 := n0_; have HB := n1_; clear n0_ n1_; (try clear hb); (try clear hb2); (try clear hk); (try clear hi); (try clear ho0)) | ((with_reducible refine gate_dst (N := 1) rfl ?_); (try (refine gate_guard (by rfl) ?_; dsimp only)); refine box_event ?hg (N := 1) ?hd (cs := #[.int .i64 0, .slice none 0 0]) (t := 24) ?hr ?_; (case hd => rfl); (case hg => rfl); (case hr => first | (go_simp; done) | (go_simp; rfl)); intro gb284 hg w20 hbox hb; have n0_ := Aside0.mk (Kd.R_below HO282.out hb); have n1_ := Aside0.mk (below_step (by repeat (first | (with_reducible first | exact HB.out | apply below_alloc | apply pw_below_drewN | apply below_drew1) | exact HB.out)) hb); have n2_ := Aside0.mk (hbox); have n3_ := Aside0.mk ((by rw [hg]; exact (below_size (by repeat (first | (with_reducible first | exact HB.out | apply below_alloc | apply pw_below_drewN | apply below_drew1) | exact HB.out))) : w.heap.size ≤ gb284)); have n4_ := Aside0.mk ((by rw [hg]; exact (below_size (by repeat (first | (with_reducible first | exact HB.out | apply below_alloc | apply pw_below_drewN | apply below_drew1) | exact HB.out))) : w.heap.size ≤ gb284)); clear HO282; clear HB; have HO282 := n0_; have HB := n1_; have BK284 := n2_; have GW284 := n3_; have GE284 := n4_; clear n0_ n1_ n2_ n3_ n4_; clear hb hbox hg; have hcz21_0 : w20.cell? ⟨gb284, 0, none⟩ = some (.int .i64 0) := (blk_cell BK284.out 0).trans rfl; have hcz21_1 : w20.cell? ⟨gb284, 1, none⟩ = some (.slice none 0 0) := (blk_cell BK284.out 1).trans rfl; have hfz21_0 := blk_frozen BK284.out 0; have hfz21_1 := blk_frozen BK284.out 1; obtain ⟨Ao22, co22, eo22⟩ := Kd.R_slice HO282.out; subst eo22))
 have n0_ : Aside0 (Kd.R k35 35 ((w20.setCell ⟨gb284, 0, none⟩ (.int .i64 t279)).setCell ⟨gb284, 1, none⟩ (.slice Ao22 t280.length co22)) w.heap.size (fun _ => True) (.slice Ao22 t280.length co22) t280) := ⟨by (with_reducible repeat (first | apply Kd.R_alloc | apply Kd.R_drewN | apply Kd.R_drew)); exact Kd.R_mono (Kd.R_far (p := ⟨gb284, 1, none⟩) (Kd.R_far (p := ⟨gb284, 0, none⟩) (Kd.R_types HO282.out BK284.out (by decide)) (fun _ hk => hk.2) (.int .i64 t279)) (fun _ hk => hk.2) (.slice Ao22 t280.length co22)) (fun _ hk => trivial)⟩
 have n1_ : Aside0 (((w20.setCell ⟨gb284, 0, none⟩ (.int .i64 t279)).setCell ⟨gb284, 1, none⟩ (.slice Ao22 t280.length co22)).heap[gb284]? = some (.cells #[.int .i64 t279, .slice Ao22 t280.length co22] 24 (0, 0))) := ⟨by (with_reducible repeat (first | refine blk_drewN ?_ _ | refine blk_drew ?_ | refine blk_alloc ?_ _)); refine blk_put (cs := #[.int .i64 t279, .slice none 0 0]) ?_ 1 _ rfl; (with_reducible repeat (first | refine blk_drewN ?_ _ | refine blk_drew ?_ | refine blk_alloc ?_ _)); refine blk_put (cs := #[.int .i64 0, .slice none 0 0]) ?_ 0 _ rfl; (with_reducible repeat (first | refine blk_drewN ?_ _ | refine blk_drew ?_ | refine blk_alloc ?_ _)); exact BK284.out⟩
 have n2_ : Aside0 (Below w.heap.size w ((w20.setCell ⟨gb284, 0, none⟩ (.int .i64 t279)).setCell ⟨gb284, 1, none⟩ (.slice Ao22 t280.length co22))) := ⟨by repeat (first | (with_reducible first | exact HB.out | apply below_alloc | apply pw_below_drewN | apply below_drew1 | refine below_set ?_ GE284.out) | exact HB.out)⟩
 (try clear HO282)
 (try clear BK284)
 (try clear HB)
 generalize ((w20.setCell ⟨gb284, 0, none⟩ (.int .i64 t279)).setCell ⟨gb284, 1, none⟩ (.slice Ao22 t280.length co22)) = w23 at n0_ n1_ n2_ ⊢
 have HO282 := n0_
 have BK284 := n1_
 have HB := n2_
 clear n0_ n1_ n2_
 have n0_ := Aside0.mk (Kd.R_drew HO282.out)
 have n1_ := Aside0.mk (blk_drew BK284.out)
 have n2_ := Aside0.mk (below_drew1 HB.out)
 clear HO282
 clear BK284
 clear HB
 have HO282 := n0_
 have BK284 := n1_
 have HB := n2_
 clear n0_ n1_ n2_
 refine start_ (n := 9) (S := fun w' => w'.cell? ⟨gb284, 0, none⟩ = some (.int .i64 t279) ∧ w'.cell? ⟨gb284, 1, none⟩ = some (.slice Ao22 t280.length co22)) (ds := []) #[false, false, false, false, false, false, false, false, false] (by kernel_rfl) rfl rfl ⟨(blk_cell BK284.out 0).trans rfl, (blk_cell BK284.out 1).trans rfl⟩ (fun hHeld => ?_); refine with_tabW tailwaterlaw26_alive.tab2 tailwaterlaw26_alive.bits2 (fun HT_ HW_ => ?_)
 generalize w23.drew = w24 at HO282 BK284 HB hHeld ⊢
 refine take_ (i := 0) (N := some 19) (v := ?_) (a' := ?_) #[true, false, false, false, false, false, false, false, false] rfl rfl (take_ofW HT_.out HW_.out (by kernel_rfl)) (fun _ _ _ h => h) (Or.inl ⟨by rfl, ?_⟩) hHeld ?_ ?_
 rotate_left
 · rintro w' ⟨s0, s1⟩
   go_simp
   with_reducible rfl
 rotate_left
 · simp only [Act.put, List.setIfInBounds_toArray, List.set_cons_zero, List.set_cons_succ, i64_w, i32_w]
   rfl
 refine join_ (σ := Value × Nat) 2 #[true, true, true, true, true, true, true, false, false] (fun s_ => [(20, .agg #[.int .u8 t285, .int .i64 t286, .int .i64 t287, .int .i64 t288, .int .i64 t289, .int .i64 t290, .int .i64 t291, .int .i64 t292, .int .i64 t293, .int .i64 t294]), (21, .tuple #[.agg #[.int .i64 t295, s_.1], .int .i64 t299]), (3, .pointer (some ⟨s_.2, 0, none⟩)), (18, .tuple #[.agg #[.int .i64 t295, s_.1], .int .i64 t299]), (22, .agg #[.int .i64 t295, s_.1]), (23, .int .i64 t299)]) (fun s_ w' => (w'.cell? ⟨gb284, 0, none⟩ = some (.int .i64 t279) ∧ w'.cell? ⟨gb284, 1, none⟩ = some (.slice Ao22 t280.length co22)) ∧ (Kd.R k35 35 w' w.heap.size (fun k_ => some k_ ≠ (s_.1 : Value).ownBlock) (.slice Ao22 t280.length co22) t280) ∧ (Kd.R k35 35 w' w.heap.size (fun k_ => some k_ ≠ (.slice Ao22 t280.length co22 : Value).ownBlock) s_.1 t296) ∧ (w'.heap[gb284]? = some (.cells #[.int .i64 t279, .slice Ao22 t280.length co22] 24 (0, 0))) ∧ (w'.heap[s_.2]? = some (.cells #[.int .i64 0, .slice none 0 0] 24 (0, 0))) ∧ (w.heap.size ≤ s_.2) ∧ (w.heap.size ≤ s_.2) ∧ (gb284 ≠ s_.2) ∧ (s_.2 ≠ gb284) ∧ (Below w.heap.size w w')) ?_ ?_
 rotate_left
 · intro hCont
   refine two_ (i := 1) (j := 6) (Ni := some 20) (Nj := some 3) #[true, true, false, false, false, false, false, false, false] #[true, false, false, false, false, false, true, false, false] rfl rfl rfl rfl (two_of HT_.out (by kernel_rfl)) (by decide) (by decide) (fun K hK => ?_) (fun K hK => ?_)
   · skip
     refine goes_ Try.func25 (by kernel_rfl) rfl #[.int .i64 1] (by rfl) rfl rfl (by (try simp only [List.map_toArray, List.map_cons, List.map_nil]); first | done | rfl | (simp only [List.length_drop, List.length_take]; rfl)) ?_
     with_reducible refine (tailwaterlaw26_mark.calls 1 t285 t286 t287 t288 t289 t290 t291 t292 t293 t294 _ A2.out).mono ?_
     rintro e w25 ⟨rfl, hb⟩
     refine ⟨_, rfl, ?_⟩
     have n0_ := Aside0.mk (Kd.R_below HO282.out hb)
     have n1_ := Aside0.mk (blk_below (g := gb284) (o := .cells #[.int .i64 t279, .slice Ao22 t280.length co22] 24 (0, 0)) BK284.out hb)
     have n2_ := Aside0.mk (below_step (by repeat (first | (with_reducible first | exact HB.out | apply below_alloc | apply pw_below_drewN | apply below_drew1 | refine below_set ?_ GE284.out) | exact HB.out)) hb)
     clear HO282
     clear BK284
     clear HB
     have HO282 := n0_
     have BK284 := n1_
     have HB := n2_
     clear n0_ n1_ n2_
     (try clear hb)
     (try clear hb2)
     (try clear hk)
     (try clear hi)
     refine hK.out _ _ ⟨(blk_cell BK284.out 0).trans rfl, (blk_cell BK284.out 1).trans rfl⟩ (fun hHeld => ?_)
     clear hK K
     refine norm_ (a' := ?_) ?_ ?_
     rotate_left
     · show Act.put _ (some 20) _ = _
       simp only [Act.put, List.setIfInBounds_toArray, List.set_cons_zero, List.set_cons_succ, i64_w, i32_w]
       rfl
     refine two_ (i := 2) (j := 6) (Ni := some 21) (Nj := some 3) #[true, true, true, false, false, false, false, false, false] #[true, true, false, false, false, false, true, false, false] rfl rfl rfl rfl (two_of HT_.out (by kernel_rfl)) (by decide) (by decide) (fun K hK => ?_) (fun K hK => ?_)
     · skip
       refine goes_ Try.func16 (by kernel_rfl) rfl #[.agg #[.int .i64 t279, .slice Ao22 t280.length co22], .agg #[.int .u8 t285, .int .i64 t286, .int .i64 t287, .int .i64 t288, .int .i64 t289, .int .i64 t290, .int .i64 t291, .int .i64 t292, .int .i64 t293, .int .i64 t294]] (by rfl) rfl rfl (by (try simp only [List.map_toArray, List.map_cons, List.map_nil]); first | done | rfl | (simp only [List.length_drop, List.length_take]; rfl)) ?_
       with_reducible refine (channel_Put.calls k t279 _ _ t280 t285 t286 t287 t288 t289 t290 t291 t292 t293 t294 t295 t296 t299 _ ?side1 ?side2 A3.out).mono ?_
       (case side1 => repeat (first | exact (Kd.R_reads' HO282.out).2.2 | (with_reducible refine Kd.C_alloc ?_ _) | (with_reducible refine Kd.C_drewN ?_ _) | (with_reducible refine Kd.C_drew ?_)))
       (case side2 => exact (Kd.R_reads' HO282.out).2.1)
       rintro e w26 ⟨v297, rfl, ho0, hb⟩
       refine ⟨_, rfl, ?_⟩
       have n0_ := Aside0.mk (Kd.R_elder' HO282.out (Kd.R_base ho0) hb)
       have n1_ := Aside0.mk (Kd.R_lower (Kd.R_new' ho0 (Kd.R_lt HO282.out)) (below_size (by repeat (first | (with_reducible first | exact HB.out | apply below_alloc | apply pw_below_drewN | apply below_drew1 | refine below_set ?_ GE284.out) | exact HB.out))))
       have n2_ := Aside0.mk (blk_below (g := gb284) (o := .cells #[.int .i64 t279, .slice Ao22 t280.length co22] 24 (0, 0)) BK284.out hb)
       have n3_ := Aside0.mk (below_step (by repeat (first | (with_reducible first | exact HB.out | apply below_alloc | apply pw_below_drewN | apply below_drew1 | refine below_set ?_ GE284.out) | exact HB.out)) hb)
       clear HO282
       clear BK284
       clear HB
       have HO282 := n0_
       have HO298 := n1_
       have BK284 := n2_
       have HB := n3_
       clear n0_ n1_ n2_ n3_
       (try clear hb)
       (try clear hb2)
       (try clear hk)
       (try clear hi)
       (try clear ho0)
       refine hK.out _ _ ⟨(blk_cell BK284.out 0).trans rfl, (blk_cell BK284.out 1).trans rfl⟩ (fun hHeld => ?_)
       clear hK K
       refine norm_ (a' := ?_) ?_ ?_
       rotate_left
       · show Act.put _ (some 21) _ = _
         simp only [Act.put, List.setIfInBounds_toArray, List.set_cons_zero, List.set_cons_succ, i64_w, i32_w]
         rfl
       refine pure_ (i := 3) (N := some 18) (v := ?_) (a' := ?_) #[true, true, true, true, false, false, false, false, false] rfl rfl (any_of HT_.out (by kernel_rfl)) (fun _ _ _ h => h) (Or.inl ⟨by rfl, ?_⟩) ?_ ?_
       rotate_left
       · intro w'
         go_simp
         with_reducible rfl
       rotate_left
       · simp only [Act.put, List.setIfInBounds_toArray, List.set_cons_zero, List.set_cons_succ, i64_w, i32_w]
         rfl
       refine pure_ (i := 4) (N := some 22) (v := ?_) (a' := ?_) #[true, true, true, true, true, false, false, false, false] rfl rfl (any_of HT_.out (by kernel_rfl)) (fun _ _ _ h => h) (Or.inl ⟨by rfl, ?_⟩) ?_ ?_
       rotate_left
       · intro w'
         go_simp
         with_reducible rfl
       rotate_left
       · simp only [Act.put, List.setIfInBounds_toArray, List.set_cons_zero, List.set_cons_succ, i64_w, i32_w]
         rfl
       refine pure_ (i := 5) (N := some 23) (v := ?_) (a' := ?_) #[true, true, true, true, true, true, false, false, false] rfl rfl (any_of HT_.out (by kernel_rfl)) (fun _ _ _ h => h) (Or.inl ⟨by rfl, ?_⟩) ?_ ?_
       rotate_left
       · intro w'
         go_simp
         with_reducible rfl
       rotate_left
       · simp only [Act.put, List.setIfInBounds_toArray, List.set_cons_zero, List.set_cons_succ, i64_w, i32_w]
         rfl
       refine one_ (i := 6) (N := some 3) #[true, true, true, true, true, true, true, false, false] rfl rfl (one_of HT_.out (by kernel_rfl)) (by decide) (fun K hK => ?_)
       refine box_step ?hg (N := 3) ?hd (cs := #[.int .i64 0, .slice none 0 0]) (t := 24) ?hr ?_; (case hd => rfl); (case hg => rfl); (case hr => first | (go_simp; done) | (go_simp; rfl))
       intro gb300 hg w27 hbox hb
       have n0_ := Aside0.mk (Kd.R_below HO282.out hb)
       have n1_ := Aside0.mk (Kd.R_below HO298.out hb)
       have n2_ := Aside0.mk (blk_below (g := gb284) (o := .cells #[.int .i64 t279, .slice Ao22 t280.length co22] 24 (0, 0)) BK284.out hb)
       have n3_ := Aside0.mk (below_step (by repeat (first | (with_reducible first | exact HB.out | apply below_alloc | apply pw_below_drewN | apply below_drew1 | refine below_set ?_ GE284.out) | exact HB.out)) hb)
       have n4_ := Aside0.mk (hbox)
       have n5_ := Aside0.mk ((by rw [hg]; exact (below_size (by repeat (first | (with_reducible first | exact HB.out | apply below_alloc | apply pw_below_drewN | apply below_drew1 | refine below_set ?_ GE284.out) | exact HB.out))) : w.heap.size ≤ gb300))
       have n6_ := Aside0.mk ((by rw [hg]; exact (below_size (by repeat (first | (with_reducible first | exact HB.out | apply below_alloc | apply pw_below_drewN | apply below_drew1 | refine below_set ?_ GE284.out) | exact HB.out))) : w.heap.size ≤ gb300))
       have n7_ := Aside0.mk ((by rw [hg]; exact Nat.ne_of_lt (blk_lt (g := gb284) (o := .cells #[.int .i64 t279, .slice Ao22 t280.length co22] 24 (0, 0)) BK284.out) : gb284 ≠ gb300))
       have n8_ := Aside0.mk ((by rw [hg]; exact Nat.ne_of_gt (blk_lt (g := gb284) (o := .cells #[.int .i64 t279, .slice Ao22 t280.length co22] 24 (0, 0)) BK284.out) : gb300 ≠ gb284))
       clear HO282
       clear HO298
       clear BK284
       clear HB
       have HO282 := n0_
       have HO298 := n1_
       have BK284 := n2_
       have HB := n3_
       have BK300 := n4_
       have GW300 := n5_
       have GE300 := n6_
       have NB284_300 := n7_
       have NB300_284 := n8_
       clear n0_ n1_ n2_ n3_ n4_ n5_ n6_ n7_ n8_
       clear hb hbox hg
       refine hK.out _ _ ⟨(blk_cell BK284.out 0).trans rfl, (blk_cell BK284.out 1).trans rfl⟩ (fun hHeld => ?_)
       clear hK K
       refine norm_ (a' := ?_) ?_ ?_
       rotate_left
       · show Act.put _ (some 3) _ = _
         simp only [Act.put, List.setIfInBounds_toArray, List.set_cons_zero, List.set_cons_succ, i64_w, i32_w]
         rfl
       exact norm_ (by simp only [putAll, Act.put, List.setIfInBounds_toArray, List.set_cons_zero, List.set_cons_succ]) (hCont (v297, gb300) _ ⟨hHeld, (by (with_reducible repeat (first | apply Kd.R_alloc | apply Kd.R_drewN | apply Kd.R_drew)); exact Kd.R_mono HO282.out (fun _ hk => hk.2)), (by (with_reducible repeat (first | apply Kd.R_alloc | apply Kd.R_drewN | apply Kd.R_drew)); exact Kd.R_mono HO298.out (fun _ hk => hk.2)), BK284.out, BK300.out, GW300.out, GE300.out, NB284_300.out, NB300_284.out, (by repeat (first | (with_reducible first | exact HB.out | apply below_alloc | apply pw_below_drewN | apply below_drew1 | refine below_set ?_ GE284.out | refine below_set ?_ GE300.out) | exact HB.out))⟩)
     · skip
       refine box_step ?hg (N := 3) ?hd (cs := #[.int .i64 0, .slice none 0 0]) (t := 24) ?hr ?_; (case hd => rfl); (case hg => rfl); (case hr => first | (go_simp; done) | (go_simp; rfl))
       intro gb300 hg w26 hbox hb
       have n0_ := Aside0.mk (Kd.R_below HO282.out hb)
       have n1_ := Aside0.mk (blk_below (g := gb284) (o := .cells #[.int .i64 t279, .slice Ao22 t280.length co22] 24 (0, 0)) BK284.out hb)
       have n2_ := Aside0.mk (below_step (by repeat (first | (with_reducible first | exact HB.out | apply below_alloc | apply pw_below_drewN | apply below_drew1 | refine below_set ?_ GE284.out) | exact HB.out)) hb)
       have n3_ := Aside0.mk (hbox)
       have n4_ := Aside0.mk ((by rw [hg]; exact (below_size (by repeat (first | (with_reducible first | exact HB.out | apply below_alloc | apply pw_below_drewN | apply below_drew1 | refine below_set ?_ GE284.out) | exact HB.out))) : w.heap.size ≤ gb300))
       have n5_ := Aside0.mk ((by rw [hg]; exact (below_size (by repeat (first | (with_reducible first | exact HB.out | apply below_alloc | apply pw_below_drewN | apply below_drew1 | refine below_set ?_ GE284.out) | exact HB.out))) : w.heap.size ≤ gb300))
       have n6_ := Aside0.mk ((by rw [hg]; exact Nat.ne_of_lt (blk_lt (g := gb284) (o := .cells #[.int .i64 t279, .slice Ao22 t280.length co22] 24 (0, 0)) BK284.out) : gb284 ≠ gb300))
       have n7_ := Aside0.mk ((by rw [hg]; exact Nat.ne_of_gt (blk_lt (g := gb284) (o := .cells #[.int .i64 t279, .slice Ao22 t280.length co22] 24 (0, 0)) BK284.out) : gb300 ≠ gb284))
       clear HO282
       clear BK284
       clear HB
       have HO282 := n0_
       have BK284 := n1_
       have HB := n2_
       have BK300 := n3_
       have GW300 := n4_
       have GE300 := n5_
       have NB284_300 := n6_
       have NB300_284 := n7_
       clear n0_ n1_ n2_ n3_ n4_ n5_ n6_ n7_
       clear hb hbox hg
       refine hK.out _ _ ⟨(blk_cell BK284.out 0).trans rfl, (blk_cell BK284.out 1).trans rfl⟩ (fun hHeld => ?_)
       clear hK K
       refine norm_ (a' := ?_) ?_ ?_
       rotate_left
       · show Act.put _ (some 3) _ = _
         simp only [Act.put, List.setIfInBounds_toArray, List.set_cons_zero, List.set_cons_succ, i64_w, i32_w]
         rfl
       refine one_ (i := 2) (N := some 21) #[true, true, true, false, false, false, true, false, false] rfl rfl (one_of HT_.out (by kernel_rfl)) (by decide) (fun K hK => ?_)
       refine goes_ Try.func16 (by kernel_rfl) rfl #[.agg #[.int .i64 t279, .slice Ao22 t280.length co22], .agg #[.int .u8 t285, .int .i64 t286, .int .i64 t287, .int .i64 t288, .int .i64 t289, .int .i64 t290, .int .i64 t291, .int .i64 t292, .int .i64 t293, .int .i64 t294]] (by rfl) rfl rfl (by (try simp only [List.map_toArray, List.map_cons, List.map_nil]); first | done | rfl | (simp only [List.length_drop, List.length_take]; rfl)) ?_
       with_reducible refine (channel_Put.calls k t279 _ _ t280 t285 t286 t287 t288 t289 t290 t291 t292 t293 t294 t295 t296 t299 _ ?side1 ?side2 A3.out).mono ?_
       (case side1 => repeat (first | exact (Kd.R_reads' HO282.out).2.2 | (with_reducible refine Kd.C_alloc ?_ _) | (with_reducible refine Kd.C_drewN ?_ _) | (with_reducible refine Kd.C_drew ?_)))
       (case side2 => exact (Kd.R_reads' HO282.out).2.1)
       rintro e w27 ⟨v297, rfl, ho0, hb⟩
       refine ⟨_, rfl, ?_⟩
       have n0_ := Aside0.mk (Kd.R_elder' HO282.out (Kd.R_base ho0) hb)
       have n1_ := Aside0.mk (Kd.R_lower (Kd.R_new' ho0 (Kd.R_lt HO282.out)) (below_size (by repeat (first | (with_reducible first | exact HB.out | apply below_alloc | apply pw_below_drewN | apply below_drew1 | refine below_set ?_ GE284.out | refine below_set ?_ GE300.out) | exact HB.out))))
       have n2_ := Aside0.mk (blk_below (g := gb284) (o := .cells #[.int .i64 t279, .slice Ao22 t280.length co22] 24 (0, 0)) BK284.out hb)
       have n3_ := Aside0.mk (blk_below (g := gb300) (o := .cells #[.int .i64 0, .slice none 0 0] 24 (0, 0)) BK300.out hb)
       have n4_ := Aside0.mk (below_step (by repeat (first | (with_reducible first | exact HB.out | apply below_alloc | apply pw_below_drewN | apply below_drew1 | refine below_set ?_ GE284.out | refine below_set ?_ GE300.out) | exact HB.out)) hb)
       clear HO282
       clear BK284
       clear BK300
       clear HB
       have HO282 := n0_
       have HO298 := n1_
       have BK284 := n2_
       have BK300 := n3_
       have HB := n4_
       clear n0_ n1_ n2_ n3_ n4_
       (try clear hb)
       (try clear hb2)
       (try clear hk)
       (try clear hi)
       (try clear ho0)
       refine hK.out _ _ ⟨(blk_cell BK284.out 0).trans rfl, (blk_cell BK284.out 1).trans rfl⟩ (fun hHeld => ?_)
       clear hK K
       refine norm_ (a' := ?_) ?_ ?_
       rotate_left
       · show Act.put _ (some 21) _ = _
         simp only [Act.put, List.setIfInBounds_toArray, List.set_cons_zero, List.set_cons_succ, i64_w, i32_w]
         rfl
       refine pure_ (i := 3) (N := some 18) (v := ?_) (a' := ?_) #[true, true, true, true, false, false, true, false, false] rfl rfl (any_of HT_.out (by kernel_rfl)) (fun _ _ _ h => h) (Or.inl ⟨by rfl, ?_⟩) ?_ ?_
       rotate_left
       · intro w'
         go_simp
         with_reducible rfl
       rotate_left
       · simp only [Act.put, List.setIfInBounds_toArray, List.set_cons_zero, List.set_cons_succ, i64_w, i32_w]
         rfl
       refine pure_ (i := 4) (N := some 22) (v := ?_) (a' := ?_) #[true, true, true, true, true, false, true, false, false] rfl rfl (any_of HT_.out (by kernel_rfl)) (fun _ _ _ h => h) (Or.inl ⟨by rfl, ?_⟩) ?_ ?_
       rotate_left
       · intro w'
         go_simp
         with_reducible rfl
       rotate_left
       · simp only [Act.put, List.setIfInBounds_toArray, List.set_cons_zero, List.set_cons_succ, i64_w, i32_w]
         rfl
       refine pure_ (i := 5) (N := some 23) (v := ?_) (a' := ?_) #[true, true, true, true, true, true, true, false, false] rfl rfl (any_of HT_.out (by kernel_rfl)) (fun _ _ _ h => h) (Or.inl ⟨by rfl, ?_⟩) ?_ ?_
       rotate_left
       · intro w'
         go_simp
         with_reducible rfl
       rotate_left
       · simp only [Act.put, List.setIfInBounds_toArray, List.set_cons_zero, List.set_cons_succ, i64_w, i32_w]
         rfl
       exact norm_ (by simp only [putAll, Act.put, List.setIfInBounds_toArray, List.set_cons_zero, List.set_cons_succ]) (hCont (v297, gb300) _ ⟨hHeld, (by (with_reducible repeat (first | apply Kd.R_alloc | apply Kd.R_drewN | apply Kd.R_drew)); exact Kd.R_mono HO282.out (fun _ hk => hk.2)), (by (with_reducible repeat (first | apply Kd.R_alloc | apply Kd.R_drewN | apply Kd.R_drew)); exact Kd.R_mono HO298.out (fun _ hk => hk.2)), BK284.out, BK300.out, GW300.out, GE300.out, NB284_300.out, NB300_284.out, (by repeat (first | (with_reducible first | exact HB.out | apply below_alloc | apply pw_below_drewN | apply below_drew1 | refine below_set ?_ GE284.out | refine below_set ?_ GE300.out) | exact HB.out))⟩)
   · skip
     refine box_step ?hg (N := 3) ?hd (cs := #[.int .i64 0, .slice none 0 0]) (t := 24) ?hr ?_; (case hd => rfl); (case hg => rfl); (case hr => first | (go_simp; done) | (go_simp; rfl))
     intro gb300 hg w25 hbox hb
     have n0_ := Aside0.mk (Kd.R_below HO282.out hb)
     have n1_ := Aside0.mk (blk_below (g := gb284) (o := .cells #[.int .i64 t279, .slice Ao22 t280.length co22] 24 (0, 0)) BK284.out hb)
     have n2_ := Aside0.mk (below_step (by repeat (first | (with_reducible first | exact HB.out | apply below_alloc | apply pw_below_drewN | apply below_drew1 | refine below_set ?_ GE284.out) | exact HB.out)) hb)
     have n3_ := Aside0.mk (hbox)
     have n4_ := Aside0.mk ((by rw [hg]; exact (below_size (by repeat (first | (with_reducible first | exact HB.out | apply below_alloc | apply pw_below_drewN | apply below_drew1 | refine below_set ?_ GE284.out) | exact HB.out))) : w.heap.size ≤ gb300))
     have n5_ := Aside0.mk ((by rw [hg]; exact (below_size (by repeat (first | (with_reducible first | exact HB.out | apply below_alloc | apply pw_below_drewN | apply below_drew1 | refine below_set ?_ GE284.out) | exact HB.out))) : w.heap.size ≤ gb300))
     have n6_ := Aside0.mk ((by rw [hg]; exact Nat.ne_of_lt (blk_lt (g := gb284) (o := .cells #[.int .i64 t279, .slice Ao22 t280.length co22] 24 (0, 0)) BK284.out) : gb284 ≠ gb300))
     have n7_ := Aside0.mk ((by rw [hg]; exact Nat.ne_of_gt (blk_lt (g := gb284) (o := .cells #[.int .i64 t279, .slice Ao22 t280.length co22] 24 (0, 0)) BK284.out) : gb300 ≠ gb284))
     clear HO282
     clear BK284
     clear HB
     have HO282 := n0_
     have BK284 := n1_
     have HB := n2_
     have BK300 := n3_
     have GW300 := n4_
     have GE300 := n5_
     have NB284_300 := n6_
     have NB300_284 := n7_
     clear n0_ n1_ n2_ n3_ n4_ n5_ n6_ n7_
     clear hb hbox hg
     refine hK.out _ _ ⟨(blk_cell BK284.out 0).trans rfl, (blk_cell BK284.out 1).trans rfl⟩ (fun hHeld => ?_)
     clear hK K
     refine norm_ (a' := ?_) ?_ ?_
     rotate_left
     · show Act.put _ (some 3) _ = _
       simp only [Act.put, List.setIfInBounds_toArray, List.set_cons_zero, List.set_cons_succ, i64_w, i32_w]
       rfl
     refine one_ (i := 1) (N := some 20) #[true, true, false, false, false, false, true, false, false] rfl rfl (one_of HT_.out (by kernel_rfl)) (by decide) (fun K hK => ?_)
     refine goes_ Try.func25 (by kernel_rfl) rfl #[.int .i64 1] (by rfl) rfl rfl (by (try simp only [List.map_toArray, List.map_cons, List.map_nil]); first | done | rfl | (simp only [List.length_drop, List.length_take]; rfl)) ?_
     with_reducible refine (tailwaterlaw26_mark.calls 1 t285 t286 t287 t288 t289 t290 t291 t292 t293 t294 _ A2.out).mono ?_
     rintro e w26 ⟨rfl, hb⟩
     refine ⟨_, rfl, ?_⟩
     have n0_ := Aside0.mk (Kd.R_below HO282.out hb)
     have n1_ := Aside0.mk (blk_below (g := gb284) (o := .cells #[.int .i64 t279, .slice Ao22 t280.length co22] 24 (0, 0)) BK284.out hb)
     have n2_ := Aside0.mk (blk_below (g := gb300) (o := .cells #[.int .i64 0, .slice none 0 0] 24 (0, 0)) BK300.out hb)
     have n3_ := Aside0.mk (below_step (by repeat (first | (with_reducible first | exact HB.out | apply below_alloc | apply pw_below_drewN | apply below_drew1 | refine below_set ?_ GE284.out | refine below_set ?_ GE300.out) | exact HB.out)) hb)
     clear HO282
     clear BK284
     clear BK300
     clear HB
     have HO282 := n0_
     have BK284 := n1_
     have BK300 := n2_
     have HB := n3_
     clear n0_ n1_ n2_ n3_
     (try clear hb)
     (try clear hb2)
     (try clear hk)
     (try clear hi)
     refine hK.out _ _ ⟨(blk_cell BK284.out 0).trans rfl, (blk_cell BK284.out 1).trans rfl⟩ (fun hHeld => ?_)
     clear hK K
     refine norm_ (a' := ?_) ?_ ?_
     rotate_left
     · show Act.put _ (some 20) _ = _
       simp only [Act.put, List.setIfInBounds_toArray, List.set_cons_zero, List.set_cons_succ, i64_w, i32_w]
       rfl
     refine one_ (i := 2) (N := some 21) #[true, true, true, false, false, false, true, false, false] rfl rfl (one_of HT_.out (by kernel_rfl)) (by decide) (fun K hK => ?_)
     refine goes_ Try.func16 (by kernel_rfl) rfl #[.agg #[.int .i64 t279, .slice Ao22 t280.length co22], .agg #[.int .u8 t285, .int .i64 t286, .int .i64 t287, .int .i64 t288, .int .i64 t289, .int .i64 t290, .int .i64 t291, .int .i64 t292, .int .i64 t293, .int .i64 t294]] (by rfl) rfl rfl (by (try simp only [List.map_toArray, List.map_cons, List.map_nil]); first | done | rfl | (simp only [List.length_drop, List.length_take]; rfl)) ?_
     with_reducible refine (channel_Put.calls k t279 _ _ t280 t285 t286 t287 t288 t289 t290 t291 t292 t293 t294 t295 t296 t299 _ ?side1 ?side2 A3.out).mono ?_
     (case side1 => repeat (first | exact (Kd.R_reads' HO282.out).2.2 | (with_reducible refine Kd.C_alloc ?_ _) | (with_reducible refine Kd.C_drewN ?_ _) | (with_reducible refine Kd.C_drew ?_)))
     (case side2 => exact (Kd.R_reads' HO282.out).2.1)
     rintro e w27 ⟨v297, rfl, ho0, hb⟩
     refine ⟨_, rfl, ?_⟩
     have n0_ := Aside0.mk (Kd.R_elder' HO282.out (Kd.R_base ho0) hb)
     have n1_ := Aside0.mk (Kd.R_lower (Kd.R_new' ho0 (Kd.R_lt HO282.out)) (below_size (by repeat (first | (with_reducible first | exact HB.out | apply below_alloc | apply pw_below_drewN | apply below_drew1 | refine below_set ?_ GE284.out | refine below_set ?_ GE300.out) | exact HB.out))))
     have n2_ := Aside0.mk (blk_below (g := gb284) (o := .cells #[.int .i64 t279, .slice Ao22 t280.length co22] 24 (0, 0)) BK284.out hb)
     have n3_ := Aside0.mk (blk_below (g := gb300) (o := .cells #[.int .i64 0, .slice none 0 0] 24 (0, 0)) BK300.out hb)
     have n4_ := Aside0.mk (below_step (by repeat (first | (with_reducible first | exact HB.out | apply below_alloc | apply pw_below_drewN | apply below_drew1 | refine below_set ?_ GE284.out | refine below_set ?_ GE300.out) | exact HB.out)) hb)
     clear HO282
     clear BK284
     clear BK300
     clear HB
     have HO282 := n0_
     have HO298 := n1_
     have BK284 := n2_
     have BK300 := n3_
     have HB := n4_
     clear n0_ n1_ n2_ n3_ n4_
     (try clear hb)
     (try clear hb2)
     (try clear hk)
     (try clear hi)
     (try clear ho0)
     refine hK.out _ _ ⟨(blk_cell BK284.out 0).trans rfl, (blk_cell BK284.out 1).trans rfl⟩ (fun hHeld => ?_)
     clear hK K
     refine norm_ (a' := ?_) ?_ ?_
     rotate_left
     · show Act.put _ (some 21) _ = _
       simp only [Act.put, List.setIfInBounds_toArray, List.set_cons_zero, List.set_cons_succ, i64_w, i32_w]
       rfl
     refine pure_ (i := 3) (N := some 18) (v := ?_) (a' := ?_) #[true, true, true, true, false, false, true, false, false] rfl rfl (any_of HT_.out (by kernel_rfl)) (fun _ _ _ h => h) (Or.inl ⟨by rfl, ?_⟩) ?_ ?_
     rotate_left
     · intro w'
       go_simp
       with_reducible rfl
     rotate_left
     · simp only [Act.put, List.setIfInBounds_toArray, List.set_cons_zero, List.set_cons_succ, i64_w, i32_w]
       rfl
     refine pure_ (i := 4) (N := some 22) (v := ?_) (a' := ?_) #[true, true, true, true, true, false, true, false, false] rfl rfl (any_of HT_.out (by kernel_rfl)) (fun _ _ _ h => h) (Or.inl ⟨by rfl, ?_⟩) ?_ ?_
     rotate_left
     · intro w'
       go_simp
       with_reducible rfl
     rotate_left
     · simp only [Act.put, List.setIfInBounds_toArray, List.set_cons_zero, List.set_cons_succ, i64_w, i32_w]
       rfl
     refine pure_ (i := 5) (N := some 23) (v := ?_) (a' := ?_) #[true, true, true, true, true, true, true, false, false] rfl rfl (any_of HT_.out (by kernel_rfl)) (fun _ _ _ h => h) (Or.inl ⟨by rfl, ?_⟩) ?_ ?_
     rotate_left
     · intro w'
       go_simp
       with_reducible rfl
     rotate_left
     · simp only [Act.put, List.setIfInBounds_toArray, List.set_cons_zero, List.set_cons_succ, i64_w, i32_w]
       rfl
     exact norm_ (by simp only [putAll, Act.put, List.setIfInBounds_toArray, List.set_cons_zero, List.set_cons_succ]) (hCont (v297, gb300) _ ⟨hHeld, (by (with_reducible repeat (first | apply Kd.R_alloc | apply Kd.R_drewN | apply Kd.R_drew)); exact Kd.R_mono HO282.out (fun _ hk => hk.2)), (by (with_reducible repeat (first | apply Kd.R_alloc | apply Kd.R_drewN | apply Kd.R_drew)); exact Kd.R_mono HO298.out (fun _ hk => hk.2)), BK284.out, BK300.out, GW300.out, GE300.out, NB284_300.out, NB300_284.out, (by repeat (first | (with_reducible first | exact HB.out | apply below_alloc | apply pw_below_drewN | apply below_drew1 | refine below_set ?_ GE284.out | refine below_set ?_ GE300.out) | exact HB.out))⟩)
 rintro ⟨v297, gb300⟩ w28 ⟨hS_, h0_, h1_, h2_, h3_, h4_, h5_, h6_, h7_, h8_⟩
 have n0_ : Aside0 (Kd.R k35 35 w28 w.heap.size (fun k_ => some k_ ≠ (v297 : Value).ownBlock) (.slice Ao22 t280.length co22) t280) := ⟨h0_⟩
 have n1_ : Aside0 (Kd.R k35 35 w28 w.heap.size (fun k_ => some k_ ≠ (.slice Ao22 t280.length co22 : Value).ownBlock) v297 t296) := ⟨h1_⟩
 have n2_ : Aside0 (w28.heap[gb284]? = some (.cells #[.int .i64 t279, .slice Ao22 t280.length co22] 24 (0, 0))) := ⟨h2_⟩
 have n3_ : Aside0 (w28.heap[gb300]? = some (.cells #[.int .i64 0, .slice none 0 0] 24 (0, 0))) := ⟨h3_⟩
 have n4_ : Aside0 (w.heap.size ≤ gb300) := ⟨h4_⟩
 have n5_ : Aside0 (w.heap.size ≤ gb300) := ⟨h5_⟩
 have n6_ : Aside0 (gb284 ≠ gb300) := ⟨h6_⟩
 have n7_ : Aside0 (gb300 ≠ gb284) := ⟨h7_⟩
 have n8_ : Aside0 (Below w.heap.size w w28) := ⟨h8_⟩
 clear HO282
 clear BK284
 clear HB
 clear h0_ h1_ h2_ h3_ h4_ h5_ h6_ h7_ h8_
 have HO282 := n0_
 have HO298 := n1_
 have BK284 := n2_
 have BK300 := n3_
 have GW300 := n4_
 have GE300 := n5_
 have NB284_300 := n6_
 have NB300_284 := n7_
 have HB := n8_
 clear n0_ n1_ n2_ n3_ n4_ n5_ n6_ n7_ n8_
 have hHeld : w28.cell? ⟨gb284, 0, none⟩ = some (.int .i64 t279) ∧ w28.cell? ⟨gb284, 1, none⟩ = some (.slice Ao22 t280.length co22) := hS_
 obtain ⟨Ao30, co30, eo30⟩ := Kd.R_slice HO298.out
 (first | subst eo30 | (injection eo30 with f1_ f2_ f3_; have f4_ := f1_.symm; have f5_ := f3_.symm; clear f1_ f2_ f3_; subst f4_; subst f5_))
 refine norm_ (a' := ?_) ?_ ?_
 rotate_left
 · simp only [putAll, Act.put, List.setIfInBounds_toArray, List.set_cons_zero, List.set_cons_succ]
   rfl
 refine one_ (i := 7) (N := none) #[true, true, true, true, true, true, true, true, false] rfl rfl (one_of HT_.out (by kernel_rfl)) (by decide) (fun K hK => ?_)
 have hs29 : w28.cell? ⟨gb300, 0, none⟩ = some (.int .i64 0) := (blk_cell BK300.out 0).trans rfl
 have hfs29 := blk_frozen BK300.out 0
 have hns29_0 := NB284_300.out
 have hms29_0 := NB300_284.out
 have hs31 : w28.cell? ⟨gb300, 1, none⟩ = some (.slice none 0 0) := (blk_cell BK300.out 1).trans rfl
 have hfs31 := blk_frozen BK300.out 1
 have hns31_0 := NB284_300.out
 have hms31_0 := NB300_284.out
 refine skip_ (w1 := ?_) (by rfl) rfl ?_ ?_
 rotate_left
 · go_simp
   rfl
 refine hK.out _ _ ⟨((cell_far (p := ⟨gb300, _, none⟩) NB284_300.out _).trans (((cell_far (p := ⟨gb300, _, none⟩) NB284_300.out _).trans (hHeld.1)))), ((cell_far (p := ⟨gb300, _, none⟩) NB284_300.out _).trans (((cell_far (p := ⟨gb300, _, none⟩) NB284_300.out _).trans (hHeld.2))))⟩ (fun hHeld => ?_)
 clear hK K
 refine pure_ (i := 8) (N := some 4) (v := ?_) (a' := ?_) #[true, true, true, true, true, true, true, true, true] rfl rfl (any_of HT_.out (by kernel_rfl)) (fun _ _ _ h => h) (Or.inl ⟨by rfl, ?_⟩) ?_ ?_
 rotate_left
 · intro w'
   go_simp
   with_reducible rfl
 rotate_left
 · simp only [Act.put, List.setIfInBounds_toArray, List.set_cons_zero, List.set_cons_succ, i64_w, i32_w]
   rfl
 refine done_ (done_of HT_.out (by kernel_rfl)) ?_
 try go_wp2
 have n0_ : Aside0 (Kd.R k35 35 ((w28.setCell ⟨gb300, 0, none⟩ (.int .i64 t295)).setCell ⟨gb300, 1, none⟩ (.slice Ao30 t296.length co30)) w.heap.size (fun k_ => some k_ ≠ (.slice Ao30 t296.length co30 : Value).ownBlock) (.slice Ao22 t280.length co22) t280) := ⟨by (with_reducible repeat (first | apply Kd.R_alloc | apply Kd.R_drewN | apply Kd.R_drew)); exact Kd.R_mono (Kd.R_far (p := ⟨gb300, 1, none⟩) (Kd.R_far (p := ⟨gb300, 0, none⟩) (Kd.R_types HO282.out BK300.out (by decide)) (fun _ hk => hk.2) (.int .i64 t295)) (fun _ hk => hk.2) (.slice Ao30 t296.length co30)) (fun _ hk => hk.1)⟩
 have n1_ : Aside0 (Kd.R k35 35 ((w28.setCell ⟨gb300, 0, none⟩ (.int .i64 t295)).setCell ⟨gb300, 1, none⟩ (.slice Ao30 t296.length co30)) w.heap.size (fun k_ => some k_ ≠ (.slice Ao22 t280.length co22 : Value).ownBlock) (.slice Ao30 t296.length co30) t296) := ⟨by (with_reducible repeat (first | apply Kd.R_alloc | apply Kd.R_drewN | apply Kd.R_drew)); exact Kd.R_mono (Kd.R_far (p := ⟨gb300, 1, none⟩) (Kd.R_far (p := ⟨gb300, 0, none⟩) (Kd.R_types HO298.out BK300.out (by decide)) (fun _ hk => hk.2) (.int .i64 t295)) (fun _ hk => hk.2) (.slice Ao30 t296.length co30)) (fun _ hk => hk.1)⟩
 have n2_ : Aside0 (((w28.setCell ⟨gb300, 0, none⟩ (.int .i64 t295)).setCell ⟨gb300, 1, none⟩ (.slice Ao30 t296.length co30)).heap[gb284]? = some (.cells #[.int .i64 t279, .slice Ao22 t280.length co22] 24 (0, 0))) := ⟨by (with_reducible repeat (first | refine blk_drewN ?_ _ | refine blk_drew ?_ | refine blk_alloc ?_ _)); refine blk_far ?_ NB284_300.out _; (with_reducible repeat (first | refine blk_drewN ?_ _ | refine blk_drew ?_ | refine blk_alloc ?_ _)); refine blk_far ?_ NB284_300.out _; (with_reducible repeat (first | refine blk_drewN ?_ _ | refine blk_drew ?_ | refine blk_alloc ?_ _)); exact BK284.out⟩
 have n3_ : Aside0 (((w28.setCell ⟨gb300, 0, none⟩ (.int .i64 t295)).setCell ⟨gb300, 1, none⟩ (.slice Ao30 t296.length co30)).heap[gb300]? = some (.cells #[.int .i64 t295, .slice Ao30 t296.length co30] 24 (0, 0))) := ⟨by (with_reducible repeat (first | refine blk_drewN ?_ _ | refine blk_drew ?_ | refine blk_alloc ?_ _)); refine blk_put (cs := #[.int .i64 t295, .slice none 0 0]) ?_ 1 _ rfl; (with_reducible repeat (first | refine blk_drewN ?_ _ | refine blk_drew ?_ | refine blk_alloc ?_ _)); refine blk_put (cs := #[.int .i64 0, .slice none 0 0]) ?_ 0 _ rfl; (with_reducible repeat (first | refine blk_drewN ?_ _ | refine blk_drew ?_ | refine blk_alloc ?_ _)); exact BK300.out⟩
 have n4_ : Aside0 (Below w.heap.size w ((w28.setCell ⟨gb300, 0, none⟩ (.int .i64 t295)).setCell ⟨gb300, 1, none⟩ (.slice Ao30 t296.length co30))) := ⟨by repeat (first | (with_reducible first | exact HB.out | apply below_alloc | apply pw_below_drewN | apply below_drew1 | refine below_set ?_ GE284.out | refine below_set ?_ GE300.out) | exact HB.out)⟩
 (try clear HO282)
 (try clear HO298)
 (try clear BK284)
 (try clear BK300)
 (try clear HB)
 generalize ((w28.setCell ⟨gb300, 0, none⟩ (.int .i64 t295)).setCell ⟨gb300, 1, none⟩ (.slice Ao30 t296.length co30)) = w32 at n0_ n1_ n2_ n3_ n4_ ⊢
 have HO282 := n0_
 have HO298 := n1_
 have BK284 := n2_
 have BK300 := n3_
 have HB := n4_
 clear n0_ n1_ n2_ n3_ n4_
 have n0_ := Aside0.mk (Kd.R_drew HO282.out)
 have n1_ := Aside0.mk (Kd.R_drew HO298.out)
 have n2_ := Aside0.mk (blk_drew BK284.out)
 have n3_ := Aside0.mk (blk_drew BK300.out)
 have n4_ := Aside0.mk (below_drew1 HB.out)
 clear HO282
 clear HO298
 clear BK284
 clear BK300
 clear HB
 have HO282 := n0_
 have HO298 := n1_
 have BK284 := n2_
 have BK300 := n3_
 have HB := n4_
 clear n0_ n1_ n2_ n3_ n4_
 refine start_ (n := 9) (S := fun w' => w'.cell? ⟨gb300, 0, none⟩ = some (.int .i64 t295) ∧ w'.cell? ⟨gb300, 1, none⟩ = some (.slice Ao30 t296.length co30)) (ds := []) #[false, false, false, false, false, false, false, false, false] (by kernel_rfl) rfl rfl ⟨(blk_cell BK300.out 0).trans rfl, (blk_cell BK300.out 1).trans rfl⟩ (fun hHeld => ?_); refine with_tabW tailwaterlaw26_alive.tab3 tailwaterlaw26_alive.bits3 (fun HT_ HW_ => ?_)
 generalize w32.drew = w33 at HO282 HO298 BK284 BK300 HB hHeld ⊢
 refine take_ (i := 0) (N := some 25) (v := ?_) (a' := ?_) #[true, false, false, false, false, false, false, false, false] rfl rfl (take_ofW HT_.out HW_.out (by kernel_rfl)) (fun _ _ _ h => h) (Or.inl ⟨by rfl, ?_⟩) hHeld ?_ ?_
 rotate_left
 · rintro w' ⟨s0, s1⟩
   go_simp
   with_reducible rfl
 rotate_left
 · simp only [Act.put, List.setIfInBounds_toArray, List.set_cons_zero, List.set_cons_succ, i64_w, i32_w]
   rfl
 refine join_ (σ := Value × Nat) 2 #[true, true, true, true, true, true, true, false, false] (fun s_ => [(26, .agg #[.int .u8 t301, .int .i64 t302, .int .i64 t303, .int .i64 t304, .int .i64 t305, .int .i64 t306, .int .i64 t307, .int .i64 t308, .int .i64 t309, .int .i64 t310]), (27, .tuple #[.agg #[.int .i64 t311, s_.1], .int .i64 t315]), (5, .pointer (some ⟨s_.2, 0, none⟩)), (24, .tuple #[.agg #[.int .i64 t311, s_.1], .int .i64 t315]), (28, .agg #[.int .i64 t311, s_.1]), (29, .int .i64 t315)]) (fun s_ w' => (w'.cell? ⟨gb300, 0, none⟩ = some (.int .i64 t295) ∧ w'.cell? ⟨gb300, 1, none⟩ = some (.slice Ao30 t296.length co30)) ∧ (Kd.R k35 35 w' w.heap.size (fun k_ => some k_ ≠ (.slice Ao30 t296.length co30 : Value).ownBlock ∧ some k_ ≠ (s_.1 : Value).ownBlock) (.slice Ao22 t280.length co22) t280) ∧ (Kd.R k35 35 w' w.heap.size (fun k_ => some k_ ≠ (.slice Ao22 t280.length co22 : Value).ownBlock ∧ some k_ ≠ (s_.1 : Value).ownBlock) (.slice Ao30 t296.length co30) t296) ∧ (Kd.R k35 35 w' w.heap.size (fun k_ => some k_ ≠ (.slice Ao22 t280.length co22 : Value).ownBlock ∧ some k_ ≠ (.slice Ao30 t296.length co30 : Value).ownBlock) s_.1 t312) ∧ (w'.heap[gb284]? = some (.cells #[.int .i64 t279, .slice Ao22 t280.length co22] 24 (0, 0))) ∧ (w'.heap[gb300]? = some (.cells #[.int .i64 t295, .slice Ao30 t296.length co30] 24 (0, 0))) ∧ (w'.heap[s_.2]? = some (.cells #[.int .i64 0, .slice none 0 0] 24 (0, 0))) ∧ (w.heap.size ≤ s_.2) ∧ (w.heap.size ≤ s_.2) ∧ (gb284 ≠ s_.2) ∧ (s_.2 ≠ gb284) ∧ (gb300 ≠ s_.2) ∧ (s_.2 ≠ gb300) ∧ (Below w.heap.size w w')) ?_ ?_
 rotate_left
 · intro hCont
   refine two_ (i := 1) (j := 6) (Ni := some 26) (Nj := some 5) #[true, true, false, false, false, false, false, false, false] #[true, false, false, false, false, false, true, false, false] rfl rfl rfl rfl (two_of HT_.out (by kernel_rfl)) (by decide) (by decide) (fun K hK => ?_) (fun K hK => ?_)
   · skip
     refine goes_ Try.func25 (by kernel_rfl) rfl #[.int .i64 2] (by rfl) rfl rfl (by (try simp only [List.map_toArray, List.map_cons, List.map_nil]); first | done | rfl | (simp only [List.length_drop, List.length_take]; rfl)) ?_
     with_reducible refine (tailwaterlaw26_mark.calls 2 t301 t302 t303 t304 t305 t306 t307 t308 t309 t310 _ A4.out).mono ?_
     rintro e w34 ⟨rfl, hb⟩
     refine ⟨_, rfl, ?_⟩
     have n0_ := Aside0.mk (Kd.R_below HO282.out hb)
     have n1_ := Aside0.mk (Kd.R_below HO298.out hb)
     have n2_ := Aside0.mk (blk_below (g := gb284) (o := .cells #[.int .i64 t279, .slice Ao22 t280.length co22] 24 (0, 0)) BK284.out hb)
     have n3_ := Aside0.mk (blk_below (g := gb300) (o := .cells #[.int .i64 t295, .slice Ao30 t296.length co30] 24 (0, 0)) BK300.out hb)
     have n4_ := Aside0.mk (below_step (by repeat (first | (with_reducible first | exact HB.out | apply below_alloc | apply pw_below_drewN | apply below_drew1 | refine below_set ?_ GE284.out | refine below_set ?_ GE300.out) | exact HB.out)) hb)
     clear HO282
     clear HO298
     clear BK284
     clear BK300
     clear HB
     have HO282 := n0_
     have HO298 := n1_
     have BK284 := n2_
     have BK300 := n3_
     have HB := n4_
     clear n0_ n1_ n2_ n3_ n4_
     (try clear hb)
     (try clear hb2)
     (try clear hk)
     (try clear hi)
     refine hK.out _ _ ⟨(blk_cell BK300.out 0).trans rfl, (blk_cell BK300.out 1).trans rfl⟩ (fun hHeld => ?_)
     clear hK K
     refine norm_ (a' := ?_) ?_ ?_
     rotate_left
     · show Act.put _ (some 26) _ = _
       simp only [Act.put, List.setIfInBounds_toArray, List.set_cons_zero, List.set_cons_succ, i64_w, i32_w]
       rfl
     refine two_ (i := 2) (j := 6) (Ni := some 27) (Nj := some 5) #[true, true, true, false, false, false, false, false, false] #[true, true, false, false, false, false, true, false, false] rfl rfl rfl rfl (two_of HT_.out (by kernel_rfl)) (by decide) (by decide) (fun K hK => ?_) (fun K hK => ?_)
     · skip
       refine goes_ Try.func16 (by kernel_rfl) rfl #[.agg #[.int .i64 t295, .slice Ao30 t296.length co30], .agg #[.int .u8 t301, .int .i64 t302, .int .i64 t303, .int .i64 t304, .int .i64 t305, .int .i64 t306, .int .i64 t307, .int .i64 t308, .int .i64 t309, .int .i64 t310]] (by rfl) rfl rfl (by (try simp only [List.map_toArray, List.map_cons, List.map_nil]); first | done | rfl | (simp only [List.length_drop, List.length_take]; rfl)) ?_
       with_reducible refine (channel_Put.calls k t295 _ _ t296 t301 t302 t303 t304 t305 t306 t307 t308 t309 t310 t311 t312 t315 _ ?side1 ?side2 A5.out).mono ?_
       (case side1 => repeat (first | exact (Kd.R_reads' HO298.out).2.2 | (with_reducible refine Kd.C_alloc ?_ _) | (with_reducible refine Kd.C_drewN ?_ _) | (with_reducible refine Kd.C_drew ?_)))
       (case side2 => exact (Kd.R_reads' HO298.out).2.1)
       rintro e w35 ⟨v313, rfl, ho0, hb⟩
       refine ⟨_, rfl, ?_⟩
       have n0_ := Aside0.mk (Kd.R_elder' HO282.out (Kd.R_base ho0) hb)
       have n1_ := Aside0.mk (Kd.R_elder' HO298.out (Kd.R_base ho0) hb)
       have n2_ := Aside0.mk (Kd.R_lower (Kd.R_new' (Kd.R_new' ho0 (Kd.R_lt HO282.out)) (Kd.R_lt HO298.out)) (below_size (by repeat (first | (with_reducible first | exact HB.out | apply below_alloc | apply pw_below_drewN | apply below_drew1 | refine below_set ?_ GE284.out | refine below_set ?_ GE300.out) | exact HB.out))))
       have n3_ := Aside0.mk (blk_below (g := gb284) (o := .cells #[.int .i64 t279, .slice Ao22 t280.length co22] 24 (0, 0)) BK284.out hb)
       have n4_ := Aside0.mk (blk_below (g := gb300) (o := .cells #[.int .i64 t295, .slice Ao30 t296.length co30] 24 (0, 0)) BK300.out hb)
       have n5_ := Aside0.mk (below_step (by repeat (first | (with_reducible first | exact HB.out | apply below_alloc | apply pw_below_drewN | apply below_drew1 | refine below_set ?_ GE284.out | refine below_set ?_ GE300.out) | exact HB.out)) hb)
       clear HO282
       clear HO298
       clear BK284
       clear BK300
       clear HB
       have HO282 := n0_
       have HO298 := n1_
       have HO314 := n2_
       have BK284 := n3_
       have BK300 := n4_
       have HB := n5_
       clear n0_ n1_ n2_ n3_ n4_ n5_
       (try clear hb)
       (try clear hb2)
       (try clear hk)
       (try clear hi)
       (try clear ho0)
       refine hK.out _ _ ⟨(blk_cell BK300.out 0).trans rfl, (blk_cell BK300.out 1).trans rfl⟩ (fun hHeld => ?_)
       clear hK K
       refine norm_ (a' := ?_) ?_ ?_
       rotate_left
       · show Act.put _ (some 27) _ = _
         simp only [Act.put, List.setIfInBounds_toArray, List.set_cons_zero, List.set_cons_succ, i64_w, i32_w]
         rfl
       refine pure_ (i := 3) (N := some 24) (v := ?_) (a' := ?_) #[true, true, true, true, false, false, false, false, false] rfl rfl (any_of HT_.out (by kernel_rfl)) (fun _ _ _ h => h) (Or.inl ⟨by rfl, ?_⟩) ?_ ?_
       rotate_left
       · intro w'
         go_simp
         with_reducible rfl
       rotate_left
       · simp only [Act.put, List.setIfInBounds_toArray, List.set_cons_zero, List.set_cons_succ, i64_w, i32_w]
         rfl
       refine pure_ (i := 4) (N := some 28) (v := ?_) (a' := ?_) #[true, true, true, true, true, false, false, false, false] rfl rfl (any_of HT_.out (by kernel_rfl)) (fun _ _ _ h => h) (Or.inl ⟨by rfl, ?_⟩) ?_ ?_
       rotate_left
       · intro w'
         go_simp
         with_reducible rfl
       rotate_left
       · simp only [Act.put, List.setIfInBounds_toArray, List.set_cons_zero, List.set_cons_succ, i64_w, i32_w]
         rfl
       refine pure_ (i := 5) (N := some 29) (v := ?_) (a' := ?_) #[true, true, true, true, true, true, false, false, false] rfl rfl (any_of HT_.out (by kernel_rfl)) (fun _ _ _ h => h) (Or.inl ⟨by rfl, ?_⟩) ?_ ?_
       rotate_left
       · intro w'
         go_simp
         with_reducible rfl
       rotate_left
       · simp only [Act.put, List.setIfInBounds_toArray, List.set_cons_zero, List.set_cons_succ, i64_w, i32_w]
         rfl
       refine one_ (i := 6) (N := some 5) #[true, true, true, true, true, true, true, false, false] rfl rfl (one_of HT_.out (by kernel_rfl)) (by decide) (fun K hK => ?_)
       refine box_step ?hg (N := 5) ?hd (cs := #[.int .i64 0, .slice none 0 0]) (t := 24) ?hr ?_; (case hd => rfl); (case hg => rfl); (case hr => first | (go_simp; done) | (go_simp; rfl))
       intro gb316 hg w36 hbox hb
       have n0_ := Aside0.mk (Kd.R_below HO282.out hb)
       have n1_ := Aside0.mk (Kd.R_below HO298.out hb)
       have n2_ := Aside0.mk (Kd.R_below HO314.out hb)
       have n3_ := Aside0.mk (blk_below (g := gb284) (o := .cells #[.int .i64 t279, .slice Ao22 t280.length co22] 24 (0, 0)) BK284.out hb)
       have n4_ := Aside0.mk (blk_below (g := gb300) (o := .cells #[.int .i64 t295, .slice Ao30 t296.length co30] 24 (0, 0)) BK300.out hb)
       have n5_ := Aside0.mk (below_step (by repeat (first | (with_reducible first | exact HB.out | apply below_alloc | apply pw_below_drewN | apply below_drew1 | refine below_set ?_ GE284.out | refine below_set ?_ GE300.out) | exact HB.out)) hb)
       have n6_ := Aside0.mk (hbox)
       have n7_ := Aside0.mk ((by rw [hg]; exact (below_size (by repeat (first | (with_reducible first | exact HB.out | apply below_alloc | apply pw_below_drewN | apply below_drew1 | refine below_set ?_ GE284.out | refine below_set ?_ GE300.out) | exact HB.out))) : w.heap.size ≤ gb316))
       have n8_ := Aside0.mk ((by rw [hg]; exact (below_size (by repeat (first | (with_reducible first | exact HB.out | apply below_alloc | apply pw_below_drewN | apply below_drew1 | refine below_set ?_ GE284.out | refine below_set ?_ GE300.out) | exact HB.out))) : w.heap.size ≤ gb316))
       have n9_ := Aside0.mk ((by rw [hg]; exact Nat.ne_of_lt (blk_lt (g := gb284) (o := .cells #[.int .i64 t279, .slice Ao22 t280.length co22] 24 (0, 0)) BK284.out) : gb284 ≠ gb316))
       have n10_ := Aside0.mk ((by rw [hg]; exact Nat.ne_of_gt (blk_lt (g := gb284) (o := .cells #[.int .i64 t279, .slice Ao22 t280.length co22] 24 (0, 0)) BK284.out) : gb316 ≠ gb284))
       have n11_ := Aside0.mk ((by rw [hg]; exact Nat.ne_of_lt (blk_lt (g := gb300) (o := .cells #[.int .i64 t295, .slice Ao30 t296.length co30] 24 (0, 0)) BK300.out) : gb300 ≠ gb316))
       have n12_ := Aside0.mk ((by rw [hg]; exact Nat.ne_of_gt (blk_lt (g := gb300) (o := .cells #[.int .i64 t295, .slice Ao30 t296.length co30] 24 (0, 0)) BK300.out) : gb316 ≠ gb300))
       clear HO282
       clear HO298
       clear HO314
       clear BK284
       clear BK300
       clear HB
       have HO282 := n0_
       have HO298 := n1_
       have HO314 := n2_
       have BK284 := n3_
       have BK300 := n4_
       have HB := n5_
       have BK316 := n6_
       have GW316 := n7_
       have GE316 := n8_
       have NB284_316 := n9_
       have NB316_284 := n10_
       have NB300_316 := n11_
       have NB316_300 := n12_
       clear n0_ n1_ n2_ n3_ n4_ n5_ n6_ n7_ n8_ n9_ n10_ n11_ n12_
       clear hb hbox hg
       refine hK.out _ _ ⟨(blk_cell BK300.out 0).trans rfl, (blk_cell BK300.out 1).trans rfl⟩ (fun hHeld => ?_)
       clear hK K
       refine norm_ (a' := ?_) ?_ ?_
       rotate_left
       · show Act.put _ (some 5) _ = _
         simp only [Act.put, List.setIfInBounds_toArray, List.set_cons_zero, List.set_cons_succ, i64_w, i32_w]
         rfl
       exact norm_ (by simp only [putAll, Act.put, List.setIfInBounds_toArray, List.set_cons_zero, List.set_cons_succ]) (hCont (v313, gb316) _ ⟨hHeld, HO282.out, HO298.out, (by (with_reducible repeat (first | apply Kd.R_alloc | apply Kd.R_drewN | apply Kd.R_drew)); exact Kd.R_mono HO314.out (fun _ hk => ⟨hk.1.2, hk.2⟩)), BK284.out, BK300.out, BK316.out, GW316.out, GE316.out, NB284_316.out, NB316_284.out, NB300_316.out, NB316_300.out, (by repeat (first | (with_reducible first | exact HB.out | apply below_alloc | apply pw_below_drewN | apply below_drew1 | refine below_set ?_ GE284.out | refine below_set ?_ GE300.out | refine below_set ?_ GE316.out) | exact HB.out))⟩)
     · skip
       refine box_step ?hg (N := 5) ?hd (cs := #[.int .i64 0, .slice none 0 0]) (t := 24) ?hr ?_; (case hd => rfl); (case hg => rfl); (case hr => first | (go_simp; done) | (go_simp; rfl))
       intro gb316 hg w35 hbox hb
       have n0_ := Aside0.mk (Kd.R_below HO282.out hb)
       have n1_ := Aside0.mk (Kd.R_below HO298.out hb)
       have n2_ := Aside0.mk (blk_below (g := gb284) (o := .cells #[.int .i64 t279, .slice Ao22 t280.length co22] 24 (0, 0)) BK284.out hb)
       have n3_ := Aside0.mk (blk_below (g := gb300) (o := .cells #[.int .i64 t295, .slice Ao30 t296.length co30] 24 (0, 0)) BK300.out hb)
       have n4_ := Aside0.mk (below_step (by repeat (first | (with_reducible first | exact HB.out | apply below_alloc | apply pw_below_drewN | apply below_drew1 | refine below_set ?_ GE284.out | refine below_set ?_ GE300.out) | exact HB.out)) hb)
       have n5_ := Aside0.mk (hbox)
       have n6_ := Aside0.mk ((by rw [hg]; exact (below_size (by repeat (first | (with_reducible first | exact HB.out | apply below_alloc | apply pw_below_drewN | apply below_drew1 | refine below_set ?_ GE284.out | refine below_set ?_ GE300.out) | exact HB.out))) : w.heap.size ≤ gb316))
       have n7_ := Aside0.mk ((by rw [hg]; exact (below_size (by repeat (first | (with_reducible first | exact HB.out | apply below_alloc | apply pw_below_drewN | apply below_drew1 | refine below_set ?_ GE284.out | refine below_set ?_ GE300.out) | exact HB.out))) : w.heap.size ≤ gb316))
       have n8_ := Aside0.mk ((by rw [hg]; exact Nat.ne_of_lt (blk_lt (g := gb284) (o := .cells #[.int .i64 t279, .slice Ao22 t280.length co22] 24 (0, 0)) BK284.out) : gb284 ≠ gb316))
       have n9_ := Aside0.mk ((by rw [hg]; exact Nat.ne_of_gt (blk_lt (g := gb284) (o := .cells #[.int .i64 t279, .slice Ao22 t280.length co22] 24 (0, 0)) BK284.out) : gb316 ≠ gb284))
       have n10_ := Aside0.mk ((by rw [hg]; exact Nat.ne_of_lt (blk_lt (g := gb300) (o := .cells #[.int .i64 t295, .slice Ao30 t296.length co30] 24 (0, 0)) BK300.out) : gb300 ≠ gb316))
       have n11_ := Aside0.mk ((by rw [hg]; exact Nat.ne_of_gt (blk_lt (g := gb300) (o := .cells #[.int .i64 t295, .slice Ao30 t296.length co30] 24 (0, 0)) BK300.out) : gb316 ≠ gb300))
       clear HO282
       clear HO298
       clear BK284
       clear BK300
       clear HB
       have HO282 := n0_
       have HO298 := n1_
       have BK284 := n2_
       have BK300 := n3_
       have HB := n4_
       have BK316 := n5_
       have GW316 := n6_
       have GE316 := n7_
       have NB284_316 := n8_
       have NB316_284 := n9_
       have NB300_316 := n10_
       have NB316_300 := n11_
       clear n0_ n1_ n2_ n3_ n4_ n5_ n6_ n7_ n8_ n9_ n10_ n11_
       clear hb hbox hg
       refine hK.out _ _ ⟨(blk_cell BK300.out 0).trans rfl, (blk_cell BK300.out 1).trans rfl⟩ (fun hHeld => ?_)
       clear hK K
       refine norm_ (a' := ?_) ?_ ?_
       rotate_left
       · show Act.put _ (some 5) _ = _
         simp only [Act.put, List.setIfInBounds_toArray, List.set_cons_zero, List.set_cons_succ, i64_w, i32_w]
         rfl
       refine one_ (i := 2) (N := some 27) #[true, true, true, false, false, false, true, false, false] rfl rfl (one_of HT_.out (by kernel_rfl)) (by decide) (fun K hK => ?_)
       refine goes_ Try.func16 (by kernel_rfl) rfl #[.agg #[.int .i64 t295, .slice Ao30 t296.length co30], .agg #[.int .u8 t301, .int .i64 t302, .int .i64 t303, .int .i64 t304, .int .i64 t305, .int .i64 t306, .int .i64 t307, .int .i64 t308, .int .i64 t309, .int .i64 t310]] (by rfl) rfl rfl (by (try simp only [List.map_toArray, List.map_cons, List.map_nil]); first | done | rfl | (simp only [List.length_drop, List.length_take]; rfl)) ?_
       with_reducible refine (channel_Put.calls k t295 _ _ t296 t301 t302 t303 t304 t305 t306 t307 t308 t309 t310 t311 t312 t315 _ ?side1 ?side2 A5.out).mono ?_
       (case side1 => repeat (first | exact (Kd.R_reads' HO298.out).2.2 | (with_reducible refine Kd.C_alloc ?_ _) | (with_reducible refine Kd.C_drewN ?_ _) | (with_reducible refine Kd.C_drew ?_)))
       (case side2 => exact (Kd.R_reads' HO298.out).2.1)
       rintro e w36 ⟨v313, rfl, ho0, hb⟩
       refine ⟨_, rfl, ?_⟩
       have n0_ := Aside0.mk (Kd.R_elder' HO282.out (Kd.R_base ho0) hb)
       have n1_ := Aside0.mk (Kd.R_elder' HO298.out (Kd.R_base ho0) hb)
       have n2_ := Aside0.mk (Kd.R_lower (Kd.R_new' (Kd.R_new' ho0 (Kd.R_lt HO282.out)) (Kd.R_lt HO298.out)) (below_size (by repeat (first | (with_reducible first | exact HB.out | apply below_alloc | apply pw_below_drewN | apply below_drew1 | refine below_set ?_ GE284.out | refine below_set ?_ GE300.out | refine below_set ?_ GE316.out) | exact HB.out))))
       have n3_ := Aside0.mk (blk_below (g := gb284) (o := .cells #[.int .i64 t279, .slice Ao22 t280.length co22] 24 (0, 0)) BK284.out hb)
       have n4_ := Aside0.mk (blk_below (g := gb300) (o := .cells #[.int .i64 t295, .slice Ao30 t296.length co30] 24 (0, 0)) BK300.out hb)
       have n5_ := Aside0.mk (blk_below (g := gb316) (o := .cells #[.int .i64 0, .slice none 0 0] 24 (0, 0)) BK316.out hb)
       have n6_ := Aside0.mk (below_step (by repeat (first | (with_reducible first | exact HB.out | apply below_alloc | apply pw_below_drewN | apply below_drew1 | refine below_set ?_ GE284.out | refine below_set ?_ GE300.out | refine below_set ?_ GE316.out) | exact HB.out)) hb)
       clear HO282
       clear HO298
       clear BK284
       clear BK300
       clear BK316
       clear HB
       have HO282 := n0_
       have HO298 := n1_
       have HO314 := n2_
       have BK284 := n3_
       have BK300 := n4_
       have BK316 := n5_
       have HB := n6_
       clear n0_ n1_ n2_ n3_ n4_ n5_ n6_
       (try clear hb)
       (try clear hb2)
       (try clear hk)
       (try clear hi)
       (try clear ho0)
       refine hK.out _ _ ⟨(blk_cell BK300.out 0).trans rfl, (blk_cell BK300.out 1).trans rfl⟩ (fun hHeld => ?_)
       clear hK K
       refine norm_ (a' := ?_) ?_ ?_
       rotate_left
       · show Act.put _ (some 27) _ = _
         simp only [Act.put, List.setIfInBounds_toArray, List.set_cons_zero, List.set_cons_succ, i64_w, i32_w]
         rfl
       refine pure_ (i := 3) (N := some 24) (v := ?_) (a' := ?_) #[true, true, true, true, false, false, true, false, false] rfl rfl (any_of HT_.out (by kernel_rfl)) (fun _ _ _ h => h) (Or.inl ⟨by rfl, ?_⟩) ?_ ?_
       rotate_left
       · intro w'
         go_simp
         with_reducible rfl
       rotate_left
       · simp only [Act.put, List.setIfInBounds_toArray, List.set_cons_zero, List.set_cons_succ, i64_w, i32_w]
         rfl
       refine pure_ (i := 4) (N := some 28) (v := ?_) (a' := ?_) #[true, true, true, true, true, false, true, false, false] rfl rfl (any_of HT_.out (by kernel_rfl)) (fun _ _ _ h => h) (Or.inl ⟨by rfl, ?_⟩) ?_ ?_
       rotate_left
       · intro w'
         go_simp
         with_reducible rfl
       rotate_left
       · simp only [Act.put, List.setIfInBounds_toArray, List.set_cons_zero, List.set_cons_succ, i64_w, i32_w]
         rfl
       refine pure_ (i := 5) (N := some 29) (v := ?_) (a' := ?_) #[true, true, true, true, true, true, true, false, false] rfl rfl (any_of HT_.out (by kernel_rfl)) (fun _ _ _ h => h) (Or.inl ⟨by rfl, ?_⟩) ?_ ?_
       rotate_left
       · intro w'
         go_simp
         with_reducible rfl
       rotate_left
       · simp only [Act.put, List.setIfInBounds_toArray, List.set_cons_zero, List.set_cons_succ, i64_w, i32_w]
         rfl
       exact norm_ (by simp only [putAll, Act.put, List.setIfInBounds_toArray, List.set_cons_zero, List.set_cons_succ]) (hCont (v313, gb316) _ ⟨hHeld, HO282.out, HO298.out, (by (with_reducible repeat (first | apply Kd.R_alloc | apply Kd.R_drewN | apply Kd.R_drew)); exact Kd.R_mono HO314.out (fun _ hk => ⟨hk.1.2, hk.2⟩)), BK284.out, BK300.out, BK316.out, GW316.out, GE316.out, NB284_316.out, NB316_284.out, NB300_316.out, NB316_300.out, (by repeat (first | (with_reducible first | exact HB.out | apply below_alloc | apply pw_below_drewN | apply below_drew1 | refine below_set ?_ GE284.out | refine below_set ?_ GE300.out | refine below_set ?_ GE316.out) | exact HB.out))⟩)
   · skip
     refine box_step ?hg (N := 5) ?hd (cs := #[.int .i64 0, .slice none 0 0]) (t := 24) ?hr ?_; (case hd => rfl); (case hg => rfl); (case hr => first | (go_simp; done) | (go_simp; rfl))
     intro gb316 hg w34 hbox hb
     have n0_ := Aside0.mk (Kd.R_below HO282.out hb)
     have n1_ := Aside0.mk (Kd.R_below HO298.out hb)
     have n2_ := Aside0.mk (blk_below (g := gb284) (o := .cells #[.int .i64 t279, .slice Ao22 t280.length co22] 24 (0, 0)) BK284.out hb)
     have n3_ := Aside0.mk (blk_below (g := gb300) (o := .cells #[.int .i64 t295, .slice Ao30 t296.length co30] 24 (0, 0)) BK300.out hb)
     have n4_ := Aside0.mk (below_step (by repeat (first | (with_reducible first | exact HB.out | apply below_alloc | apply pw_below_drewN | apply below_drew1 | refine below_set ?_ GE284.out | refine below_set ?_ GE300.out) | exact HB.out)) hb)
     have n5_ := Aside0.mk (hbox)
     have n6_ := Aside0.mk ((by rw [hg]; exact (below_size (by repeat (first | (with_reducible first | exact HB.out | apply below_alloc | apply pw_below_drewN | apply below_drew1 | refine below_set ?_ GE284.out | refine below_set ?_ GE300.out) | exact HB.out))) : w.heap.size ≤ gb316))
     have n7_ := Aside0.mk ((by rw [hg]; exact (below_size (by repeat (first | (with_reducible first | exact HB.out | apply below_alloc | apply pw_below_drewN | apply below_drew1 | refine below_set ?_ GE284.out | refine below_set ?_ GE300.out) | exact HB.out))) : w.heap.size ≤ gb316))
     have n8_ := Aside0.mk ((by rw [hg]; exact Nat.ne_of_lt (blk_lt (g := gb284) (o := .cells #[.int .i64 t279, .slice Ao22 t280.length co22] 24 (0, 0)) BK284.out) : gb284 ≠ gb316))
     have n9_ := Aside0.mk ((by rw [hg]; exact Nat.ne_of_gt (blk_lt (g := gb284) (o := .cells #[.int .i64 t279, .slice Ao22 t280.length co22] 24 (0, 0)) BK284.out) : gb316 ≠ gb284))
     have n10_ := Aside0.mk ((by rw [hg]; exact Nat.ne_of_lt (blk_lt (g := gb300) (o := .cells #[.int .i64 t295, .slice Ao30 t296.length co30] 24 (0, 0)) BK300.out) : gb300 ≠ gb316))
     have n11_ := Aside0.mk ((by rw [hg]; exact Nat.ne_of_gt (blk_lt (g := gb300) (o := .cells #[.int .i64 t295, .slice Ao30 t296.length co30] 24 (0, 0)) BK300.out) : gb316 ≠ gb300))
     clear HO282
     clear HO298
     clear BK284
     clear BK300
     clear HB
     have HO282 := n0_
     have HO298 := n1_
     have BK284 := n2_
     have BK300 := n3_
     have HB := n4_
     have BK316 := n5_
     have GW316 := n6_
     have GE316 := n7_
     have NB284_316 := n8_
     have NB316_284 := n9_
     have NB300_316 := n10_
     have NB316_300 := n11_
     clear n0_ n1_ n2_ n3_ n4_ n5_ n6_ n7_ n8_ n9_ n10_ n11_
     clear hb hbox hg
     refine hK.out _ _ ⟨(blk_cell BK300.out 0).trans rfl, (blk_cell BK300.out 1).trans rfl⟩ (fun hHeld => ?_)
     clear hK K
     refine norm_ (a' := ?_) ?_ ?_
     rotate_left
     · show Act.put _ (some 5) _ = _
       simp only [Act.put, List.setIfInBounds_toArray, List.set_cons_zero, List.set_cons_succ, i64_w, i32_w]
       rfl
     refine one_ (i := 1) (N := some 26) #[true, true, false, false, false, false, true, false, false] rfl rfl (one_of HT_.out (by kernel_rfl)) (by decide) (fun K hK => ?_)
     refine goes_ Try.func25 (by kernel_rfl) rfl #[.int .i64 2] (by rfl) rfl rfl (by (try simp only [List.map_toArray, List.map_cons, List.map_nil]); first | done | rfl | (simp only [List.length_drop, List.length_take]; rfl)) ?_
     with_reducible refine (tailwaterlaw26_mark.calls 2 t301 t302 t303 t304 t305 t306 t307 t308 t309 t310 _ A4.out).mono ?_
     rintro e w35 ⟨rfl, hb⟩
     refine ⟨_, rfl, ?_⟩
     have n0_ := Aside0.mk (Kd.R_below HO282.out hb)
     have n1_ := Aside0.mk (Kd.R_below HO298.out hb)
     have n2_ := Aside0.mk (blk_below (g := gb284) (o := .cells #[.int .i64 t279, .slice Ao22 t280.length co22] 24 (0, 0)) BK284.out hb)
     have n3_ := Aside0.mk (blk_below (g := gb300) (o := .cells #[.int .i64 t295, .slice Ao30 t296.length co30] 24 (0, 0)) BK300.out hb)
     have n4_ := Aside0.mk (blk_below (g := gb316) (o := .cells #[.int .i64 0, .slice none 0 0] 24 (0, 0)) BK316.out hb)
     have n5_ := Aside0.mk (below_step (by repeat (first | (with_reducible first | exact HB.out | apply below_alloc | apply pw_below_drewN | apply below_drew1 | refine below_set ?_ GE284.out | refine below_set ?_ GE300.out | refine below_set ?_ GE316.out) | exact HB.out)) hb)
     clear HO282
     clear HO298
     clear BK284
     clear BK300
     clear BK316
     clear HB
     have HO282 := n0_
     have HO298 := n1_
     have BK284 := n2_
     have BK300 := n3_
     have BK316 := n4_
     have HB := n5_
     clear n0_ n1_ n2_ n3_ n4_ n5_
     (try clear hb)
     (try clear hb2)
     (try clear hk)
     (try clear hi)
     refine hK.out _ _ ⟨(blk_cell BK300.out 0).trans rfl, (blk_cell BK300.out 1).trans rfl⟩ (fun hHeld => ?_)
     clear hK K
     refine norm_ (a' := ?_) ?_ ?_
     rotate_left
     · show Act.put _ (some 26) _ = _
       simp only [Act.put, List.setIfInBounds_toArray, List.set_cons_zero, List.set_cons_succ, i64_w, i32_w]
       rfl
     refine one_ (i := 2) (N := some 27) #[true, true, true, false, false, false, true, false, false] rfl rfl (one_of HT_.out (by kernel_rfl)) (by decide) (fun K hK => ?_)
     refine goes_ Try.func16 (by kernel_rfl) rfl #[.agg #[.int .i64 t295, .slice Ao30 t296.length co30], .agg #[.int .u8 t301, .int .i64 t302, .int .i64 t303, .int .i64 t304, .int .i64 t305, .int .i64 t306, .int .i64 t307, .int .i64 t308, .int .i64 t309, .int .i64 t310]] (by rfl) rfl rfl (by (try simp only [List.map_toArray, List.map_cons, List.map_nil]); first | done | rfl | (simp only [List.length_drop, List.length_take]; rfl)) ?_
     with_reducible refine (channel_Put.calls k t295 _ _ t296 t301 t302 t303 t304 t305 t306 t307 t308 t309 t310 t311 t312 t315 _ ?side1 ?side2 A5.out).mono ?_
     (case side1 => repeat (first | exact (Kd.R_reads' HO298.out).2.2 | (with_reducible refine Kd.C_alloc ?_ _) | (with_reducible refine Kd.C_drewN ?_ _) | (with_reducible refine Kd.C_drew ?_)))
     (case side2 => exact (Kd.R_reads' HO298.out).2.1)
     rintro e w36 ⟨v313, rfl, ho0, hb⟩
     refine ⟨_, rfl, ?_⟩
     have n0_ := Aside0.mk (Kd.R_elder' HO282.out (Kd.R_base ho0) hb)
     have n1_ := Aside0.mk (Kd.R_elder' HO298.out (Kd.R_base ho0) hb)
     have n2_ := Aside0.mk (Kd.R_lower (Kd.R_new' (Kd.R_new' ho0 (Kd.R_lt HO282.out)) (Kd.R_lt HO298.out)) (below_size (by repeat (first | (with_reducible first | exact HB.out | apply below_alloc | apply pw_below_drewN | apply below_drew1 | refine below_set ?_ GE284.out | refine below_set ?_ GE300.out | refine below_set ?_ GE316.out) | exact HB.out))))
     have n3_ := Aside0.mk (blk_below (g := gb284) (o := .cells #[.int .i64 t279, .slice Ao22 t280.length co22] 24 (0, 0)) BK284.out hb)
     have n4_ := Aside0.mk (blk_below (g := gb300) (o := .cells #[.int .i64 t295, .slice Ao30 t296.length co30] 24 (0, 0)) BK300.out hb)
     have n5_ := Aside0.mk (blk_below (g := gb316) (o := .cells #[.int .i64 0, .slice none 0 0] 24 (0, 0)) BK316.out hb)
     have n6_ := Aside0.mk (below_step (by repeat (first | (with_reducible first | exact HB.out | apply below_alloc | apply pw_below_drewN | apply below_drew1 | refine below_set ?_ GE284.out | refine below_set ?_ GE300.out | refine below_set ?_ GE316.out) | exact HB.out)) hb)
     clear HO282
     clear HO298
     clear BK284
     clear BK300
     clear BK316
     clear HB
     have HO282 := n0_
     have HO298 := n1_
     have HO314 := n2_
     have BK284 := n3_
     have BK300 := n4_
     have BK316 := n5_
     have HB := n6_
     clear n0_ n1_ n2_ n3_ n4_ n5_ n6_
     (try clear hb)
     (try clear hb2)
     (try clear hk)
     (try clear hi)
     (try clear ho0)
     refine hK.out _ _ ⟨(blk_cell BK300.out 0).trans rfl, (blk_cell BK300.out 1).trans rfl⟩ (fun hHeld => ?_)
     clear hK K
     refine norm_ (a' := ?_) ?_ ?_
     rotate_left
     · show Act.put _ (some 27) _ = _
       simp only [Act.put, List.setIfInBounds_toArray, List.set_cons_zero, List.set_cons_succ, i64_w, i32_w]
       rfl
     refine pure_ (i := 3) (N := some 24) (v := ?_) (a' := ?_) #[true, true, true, true, false, false, true, false, false] rfl rfl (any_of HT_.out (by kernel_rfl)) (fun _ _ _ h => h) (Or.inl ⟨by rfl, ?_⟩) ?_ ?_
     rotate_left
     · intro w'
       go_simp
       with_reducible rfl
     rotate_left
     · simp only [Act.put, List.setIfInBounds_toArray, List.set_cons_zero, List.set_cons_succ, i64_w, i32_w]
       rfl
     refine pure_ (i := 4) (N := some 28) (v := ?_) (a' := ?_) #[true, true, true, true, true, false, true, false, false] rfl rfl (any_of HT_.out (by kernel_rfl)) (fun _ _ _ h => h) (Or.inl ⟨by rfl, ?_⟩) ?_ ?_
     rotate_left
     · intro w'
       go_simp
       with_reducible rfl
     rotate_left
     · simp only [Act.put, List.setIfInBounds_toArray, List.set_cons_zero, List.set_cons_succ, i64_w, i32_w]
       rfl
     refine pure_ (i := 5) (N := some 29) (v := ?_) (a' := ?_) #[true, true, true, true, true, true, true, false, false] rfl rfl (any_of HT_.out (by kernel_rfl)) (fun _ _ _ h => h) (Or.inl ⟨by rfl, ?_⟩) ?_ ?_
     rotate_left
     · intro w'
       go_simp
       with_reducible rfl
     rotate_left
     · simp only [Act.put, List.setIfInBounds_toArray, List.set_cons_zero, List.set_cons_succ, i64_w, i32_w]
       rfl
     exact norm_ (by simp only [putAll, Act.put, List.setIfInBounds_toArray, List.set_cons_zero, List.set_cons_succ]) (hCont (v313, gb316) _ ⟨hHeld, HO282.out, HO298.out, (by (with_reducible repeat (first | apply Kd.R_alloc | apply Kd.R_drewN | apply Kd.R_drew)); exact Kd.R_mono HO314.out (fun _ hk => ⟨hk.1.2, hk.2⟩)), BK284.out, BK300.out, BK316.out, GW316.out, GE316.out, NB284_316.out, NB316_284.out, NB300_316.out, NB316_300.out, (by repeat (first | (with_reducible first | exact HB.out | apply below_alloc | apply pw_below_drewN | apply below_drew1 | refine below_set ?_ GE284.out | refine below_set ?_ GE300.out | refine below_set ?_ GE316.out) | exact HB.out))⟩)
 rintro ⟨v313, gb316⟩ w37 ⟨hS_, h0_, h1_, h2_, h3_, h4_, h5_, h6_, h7_, h8_, h9_, h10_, h11_, h12_⟩
 have n0_ : Aside0 (Kd.R k35 35 w37 w.heap.size (fun k_ => some k_ ≠ (.slice Ao30 t296.length co30 : Value).ownBlock ∧ some k_ ≠ (v313 : Value).ownBlock) (.slice Ao22 t280.length co22) t280) := ⟨h0_⟩
 have n1_ : Aside0 (Kd.R k35 35 w37 w.heap.size (fun k_ => some k_ ≠ (.slice Ao22 t280.length co22 : Value).ownBlock ∧ some k_ ≠ (v313 : Value).ownBlock) (.slice Ao30 t296.length co30) t296) := ⟨h1_⟩
 have n2_ : Aside0 (Kd.R k35 35 w37 w.heap.size (fun k_ => some k_ ≠ (.slice Ao22 t280.length co22 : Value).ownBlock ∧ some k_ ≠ (.slice Ao30 t296.length co30 : Value).ownBlock) v313 t312) := ⟨h2_⟩
 have n3_ : Aside0 (w37.heap[gb284]? = some (.cells #[.int .i64 t279, .slice Ao22 t280.length co22] 24 (0, 0))) := ⟨h3_⟩
 have n4_ : Aside0 (w37.heap[gb300]? = some (.cells #[.int .i64 t295, .slice Ao30 t296.length co30] 24 (0, 0))) := ⟨h4_⟩
 have n5_ : Aside0 (w37.heap[gb316]? = some (.cells #[.int .i64 0, .slice none 0 0] 24 (0, 0))) := ⟨h5_⟩
 have n6_ : Aside0 (w.heap.size ≤ gb316) := ⟨h6_⟩
 have n7_ : Aside0 (w.heap.size ≤ gb316) := ⟨h7_⟩
 have n8_ : Aside0 (gb284 ≠ gb316) := ⟨h8_⟩
 have n9_ : Aside0 (gb316 ≠ gb284) := ⟨h9_⟩
 have n10_ : Aside0 (gb300 ≠ gb316) := ⟨h10_⟩
 have n11_ : Aside0 (gb316 ≠ gb300) := ⟨h11_⟩
 have n12_ : Aside0 (Below w.heap.size w w37) := ⟨h12_⟩
 clear HO282
 clear HO298
 clear BK284
 clear BK300
 clear HB
 clear h0_ h1_ h2_ h3_ h4_ h5_ h6_ h7_ h8_ h9_ h10_ h11_ h12_
 have HO282 := n0_
 have HO298 := n1_
 have HO314 := n2_
 have BK284 := n3_
 have BK300 := n4_
 have BK316 := n5_
 have GW316 := n6_
 have GE316 := n7_
 have NB284_316 := n8_
 have NB316_284 := n9_
 have NB300_316 := n10_
 have NB316_300 := n11_
 have HB := n12_
 clear n0_ n1_ n2_ n3_ n4_ n5_ n6_ n7_ n8_ n9_ n10_ n11_ n12_
 have hHeld : w37.cell? ⟨gb300, 0, none⟩ = some (.int .i64 t295) ∧ w37.cell? ⟨gb300, 1, none⟩ = some (.slice Ao30 t296.length co30) := hS_
 obtain ⟨Ao39, co39, eo39⟩ := Kd.R_slice HO314.out
 (first | subst eo39 | (injection eo39 with f1_ f2_ f3_; have f4_ := f1_.symm; have f5_ := f3_.symm; clear f1_ f2_ f3_; subst f4_; subst f5_))
 refine norm_ (a' := ?_) ?_ ?_
 rotate_left
 · simp only [putAll, Act.put, List.setIfInBounds_toArray, List.set_cons_zero, List.set_cons_succ]
   rfl
 refine one_ (i := 7) (N := none) #[true, true, true, true, true, true, true, true, false] rfl rfl (one_of HT_.out (by kernel_rfl)) (by decide) (fun K hK => ?_)
 have hs38 : w37.cell? ⟨gb316, 0, none⟩ = some (.int .i64 0) := (blk_cell BK316.out 0).trans rfl
 have hfs38 := blk_frozen BK316.out 0
 have hns38_0 := NB284_316.out
 have hns38_1 := NB300_316.out
 have hms38_0 := NB316_284.out
 have hms38_1 := NB316_300.out
 have hs40 : w37.cell? ⟨gb316, 1, none⟩ = some (.slice none 0 0) := (blk_cell BK316.out 1).trans rfl
 have hfs40 := blk_frozen BK316.out 1
 have hns40_0 := NB284_316.out
 have hns40_1 := NB300_316.out
 have hms40_0 := NB316_284.out
 have hms40_1 := NB316_300.out
 refine skip_ (w1 := ?_) (by rfl) rfl ?_ ?_
 rotate_left
 · go_simp
   rfl
 refine hK.out _ _ ⟨((cell_far (p := ⟨gb316, _, none⟩) NB300_316.out _).trans (((cell_far (p := ⟨gb316, _, none⟩) NB300_316.out _).trans (hHeld.1)))), ((cell_far (p := ⟨gb316, _, none⟩) NB300_316.out _).trans (((cell_far (p := ⟨gb316, _, none⟩) NB300_316.out _).trans (hHeld.2))))⟩ (fun hHeld => ?_)
 clear hK K
 refine pure_ (i := 8) (N := some 6) (v := ?_) (a' := ?_) #[true, true, true, true, true, true, true, true, true] rfl rfl (any_of HT_.out (by kernel_rfl)) (fun _ _ _ h => h) (Or.inl ⟨by rfl, ?_⟩) ?_ ?_
 rotate_left
 · intro w'
   go_simp
   with_reducible rfl
 rotate_left
 · simp only [Act.put, List.setIfInBounds_toArray, List.set_cons_zero, List.set_cons_succ, i64_w, i32_w]
   rfl
 refine done_ (done_of HT_.out (by kernel_rfl)) ?_
 try go_wp2
 have n0_ : Aside0 (Kd.R k35 35 ((w37.setCell ⟨gb316, 0, none⟩ (.int .i64 t311)).setCell ⟨gb316, 1, none⟩ (.slice Ao39 t312.length co39)) w.heap.size (fun k_ => some k_ ≠ (.slice Ao30 t296.length co30 : Value).ownBlock ∧ some k_ ≠ (.slice Ao39 t312.length co39 : Value).ownBlock) (.slice Ao22 t280.length co22) t280) := ⟨by (with_reducible repeat (first | apply Kd.R_alloc | apply Kd.R_drewN | apply Kd.R_drew)); exact Kd.R_mono (Kd.R_far (p := ⟨gb316, 1, none⟩) (Kd.R_far (p := ⟨gb316, 0, none⟩) (Kd.R_types HO282.out BK316.out (by decide)) (fun _ hk => hk.2) (.int .i64 t311)) (fun _ hk => hk.2) (.slice Ao39 t312.length co39)) (fun _ hk => ⟨hk.1.1, hk.1.2⟩)⟩
 have n1_ : Aside0 (Kd.R k35 35 ((w37.setCell ⟨gb316, 0, none⟩ (.int .i64 t311)).setCell ⟨gb316, 1, none⟩ (.slice Ao39 t312.length co39)) w.heap.size (fun k_ => some k_ ≠ (.slice Ao22 t280.length co22 : Value).ownBlock ∧ some k_ ≠ (.slice Ao39 t312.length co39 : Value).ownBlock) (.slice Ao30 t296.length co30) t296) := ⟨by (with_reducible repeat (first | apply Kd.R_alloc | apply Kd.R_drewN | apply Kd.R_drew)); exact Kd.R_mono (Kd.R_far (p := ⟨gb316, 1, none⟩) (Kd.R_far (p := ⟨gb316, 0, none⟩) (Kd.R_types HO298.out BK316.out (by decide)) (fun _ hk => hk.2) (.int .i64 t311)) (fun _ hk => hk.2) (.slice Ao39 t312.length co39)) (fun _ hk => ⟨hk.1.1, hk.1.2⟩)⟩
 have n2_ : Aside0 (Kd.R k35 35 ((w37.setCell ⟨gb316, 0, none⟩ (.int .i64 t311)).setCell ⟨gb316, 1, none⟩ (.slice Ao39 t312.length co39)) w.heap.size (fun k_ => some k_ ≠ (.slice Ao22 t280.length co22 : Value).ownBlock ∧ some k_ ≠ (.slice Ao30 t296.length co30 : Value).ownBlock) (.slice Ao39 t312.length co39) t312) := ⟨by (with_reducible repeat (first | apply Kd.R_alloc | apply Kd.R_drewN | apply Kd.R_drew)); exact Kd.R_mono (Kd.R_far (p := ⟨gb316, 1, none⟩) (Kd.R_far (p := ⟨gb316, 0, none⟩) (Kd.R_types HO314.out BK316.out (by decide)) (fun _ hk => hk.2) (.int .i64 t311)) (fun _ hk => hk.2) (.slice Ao39 t312.length co39)) (fun _ hk => ⟨hk.1.1, hk.1.2⟩)⟩
 have n3_ : Aside0 (((w37.setCell ⟨gb316, 0, none⟩ (.int .i64 t311)).setCell ⟨gb316, 1, none⟩ (.slice Ao39 t312.length co39)).heap[gb284]? = some (.cells #[.int .i64 t279, .slice Ao22 t280.length co22] 24 (0, 0))) := ⟨by (with_reducible repeat (first | refine blk_drewN ?_ _ | refine blk_drew ?_ | refine blk_alloc ?_ _)); refine blk_far ?_ NB284_316.out _; (with_reducible repeat (first | refine blk_drewN ?_ _ | refine blk_drew ?_ | refine blk_alloc ?_ _)); refine blk_far ?_ NB284_316.out _; (with_reducible repeat (first | refine blk_drewN ?_ _ | refine blk_drew ?_ | refine blk_alloc ?_ _)); exact BK284.out⟩
 have n4_ : Aside0 (((w37.setCell ⟨gb316, 0, none⟩ (.int .i64 t311)).setCell ⟨gb316, 1, none⟩ (.slice Ao39 t312.length co39)).heap[gb300]? = some (.cells #[.int .i64 t295, .slice Ao30 t296.length co30] 24 (0, 0))) := ⟨by (with_reducible repeat (first | refine blk_drewN ?_ _ | refine blk_drew ?_ | refine blk_alloc ?_ _)); refine blk_far ?_ NB300_316.out _; (with_reducible repeat (first | refine blk_drewN ?_ _ | refine blk_drew ?_ | refine blk_alloc ?_ _)); refine blk_far ?_ NB300_316.out _; (with_reducible repeat (first | refine blk_drewN ?_ _ | refine blk_drew ?_ | refine blk_alloc ?_ _)); exact BK300.out⟩
 have n5_ : Aside0 (((w37.setCell ⟨gb316, 0, none⟩ (.int .i64 t311)).setCell ⟨gb316, 1, none⟩ (.slice Ao39 t312.length co39)).heap[gb316]? = some (.cells #[.int .i64 t311, .slice Ao39 t312.length co39] 24 (0, 0))) := ⟨by (with_reducible repeat (first | refine blk_drewN ?_ _ | refine blk_drew ?_ | refine blk_alloc ?_ _)); refine blk_put (cs := #[.int .i64 t311, .slice none 0 0]) ?_ 1 _ rfl; (with_reducible repeat (first | refine blk_drewN ?_ _ | refine blk_drew ?_ | refine blk_alloc ?_ _)); refine blk_put (cs := #[.int .i64 0, .slice none 0 0]) ?_ 0 _ rfl; (with_reducible repeat (first | refine blk_drewN ?_ _ | refine blk_drew ?_ | refine blk_alloc ?_ _)); exact BK316.out⟩
 have n6_ : Aside0 (Below w.heap.size w ((w37.setCell ⟨gb316, 0, none⟩ (.int .i64 t311)).setCell ⟨gb316, 1, none⟩ (.slice Ao39 t312.length co39))) := ⟨by repeat (first | (with_reducible first | exact HB.out | apply below_alloc | apply pw_below_drewN | apply below_drew1 | refine below_set ?_ GE284.out | refine below_set ?_ GE300.out | refine below_set ?_ GE316.out) | exact HB.out)⟩
 (try clear HO282)
 (try clear HO298)
 (try clear HO314)
 (try clear BK284)
 (try clear BK300)
 (try clear BK316)
 (try clear HB)
 generalize ((w37.setCell ⟨gb316, 0, none⟩ (.int .i64 t311)).setCell ⟨gb316, 1, none⟩ (.slice Ao39 t312.length co39)) = w41 at n0_ n1_ n2_ n3_ n4_ n5_ n6_ ⊢
 have HO282 := n0_
 have HO298 := n1_
 have HO314 := n2_
 have BK284 := n3_
 have BK300 := n4_
 have BK316 := n5_
 have HB := n6_
 clear n0_ n1_ n2_ n3_ n4_ n5_ n6_
 have n0_ := Aside0.mk (Kd.R_drew HO282.out)
 have n1_ := Aside0.mk (Kd.R_drew HO298.out)
 have n2_ := Aside0.mk (Kd.R_drew HO314.out)
 have n3_ := Aside0.mk (blk_drew BK284.out)
 have n4_ := Aside0.mk (blk_drew BK300.out)
 have n5_ := Aside0.mk (blk_drew BK316.out)
 have n6_ := Aside0.mk (below_drew1 HB.out)
 clear HO282
 clear HO298
 clear HO314
 clear BK284
 clear BK300
 clear BK316
 clear HB
 have HO282 := n0_
 have HO298 := n1_
 have HO314 := n2_
 have BK284 := n3_
 have BK300 := n4_
 have BK316 := n5_
 have HB := n6_
 clear n0_ n1_ n2_ n3_ n4_ n5_ n6_
 refine start_ (n := 9) (S := fun w' => w'.cell? ⟨gb316, 0, none⟩ = some (.int .i64 t311) ∧ w'.cell? ⟨gb316, 1, none⟩ = some (.slice Ao39 t312.length co39)) (ds := []) #[false, false, false, false, false, false, false, false, false] (by kernel_rfl) rfl rfl ⟨(blk_cell BK316.out 0).trans rfl, (blk_cell BK316.out 1).trans rfl⟩ (fun hHeld => ?_); refine with_tabW tailwaterlaw26_alive.tab4 tailwaterlaw26_alive.bits4 (fun HT_ HW_ => ?_)
 generalize w41.drew = w42 at HO282 HO298 HO314 BK284 BK300 BK316 HB hHeld ⊢
 refine take_ (i := 0) (N := some 31) (v := ?_) (a' := ?_) #[true, false, false, false, false, false, false, false, false] rfl rfl (take_ofW HT_.out HW_.out (by kernel_rfl)) (fun _ _ _ h => h) (Or.inl ⟨by rfl, ?_⟩) hHeld ?_ ?_
 rotate_left
 · rintro w' ⟨s0, s1⟩
   go_simp
   with_reducible rfl
 rotate_left
 · simp only [Act.put, List.setIfInBounds_toArray, List.set_cons_zero, List.set_cons_succ, i64_w, i32_w]
   rfl
 refine join_ (σ := Value × Nat) 2 #[true, true, true, true, true, true, true, false, false] (fun s_ => [(32, .agg #[.int .u8 t317, .int .i64 t318, .int .i64 t319, .int .i64 t320, .int .i64 t321, .int .i64 t322, .int .i64 t323, .int .i64 t324, .int .i64 t325, .int .i64 t326]), (33, .tuple #[.agg #[.int .i64 t327, s_.1], .int .i64 t331]), (7, .pointer (some ⟨s_.2, 0, none⟩)), (30, .tuple #[.agg #[.int .i64 t327, s_.1], .int .i64 t331]), (34, .agg #[.int .i64 t327, s_.1]), (35, .int .i64 t331)]) (fun s_ w' => (w'.cell? ⟨gb316, 0, none⟩ = some (.int .i64 t311) ∧ w'.cell? ⟨gb316, 1, none⟩ = some (.slice Ao39 t312.length co39)) ∧ (Kd.R k35 35 w' w.heap.size (fun k_ => some k_ ≠ (.slice Ao30 t296.length co30 : Value).ownBlock ∧ some k_ ≠ (.slice Ao39 t312.length co39 : Value).ownBlock ∧ some k_ ≠ (s_.1 : Value).ownBlock) (.slice Ao22 t280.length co22) t280) ∧ (Kd.R k35 35 w' w.heap.size (fun k_ => some k_ ≠ (.slice Ao22 t280.length co22 : Value).ownBlock ∧ some k_ ≠ (.slice Ao39 t312.length co39 : Value).ownBlock ∧ some k_ ≠ (s_.1 : Value).ownBlock) (.slice Ao30 t296.length co30) t296) ∧ (Kd.R k35 35 w' w.heap.size (fun k_ => some k_ ≠ (.slice Ao22 t280.length co22 : Value).ownBlock ∧ some k_ ≠ (.slice Ao30 t296.length co30 : Value).ownBlock ∧ some k_ ≠ (s_.1 : Value).ownBlock) (.slice Ao39 t312.length co39) t312) ∧ (Kd.R k35 35 w' w.heap.size (fun k_ => some k_ ≠ (.slice Ao22 t280.length co22 : Value).ownBlock ∧ some k_ ≠ (.slice Ao30 t296.length co30 : Value).ownBlock ∧ some k_ ≠ (.slice Ao39 t312.length co39 : Value).ownBlock) s_.1 t328) ∧ (w'.heap[gb284]? = some (.cells #[.int .i64 t279, .slice Ao22 t280.length co22] 24 (0, 0))) ∧ (w'.heap[gb300]? = some (.cells #[.int .i64 t295, .slice Ao30 t296.length co30] 24 (0, 0))) ∧ (w'.heap[gb316]? = some (.cells #[.int .i64 t311, .slice Ao39 t312.length co39] 24 (0, 0))) ∧ (w'.heap[s_.2]? = some (.cells #[.int .i64 0, .slice none 0 0] 24 (0, 0))) ∧ (w.heap.size ≤ s_.2) ∧ (w.heap.size ≤ s_.2) ∧ (gb284 ≠ s_.2) ∧ (s_.2 ≠ gb284) ∧ (gb300 ≠ s_.2) ∧ (s_.2 ≠ gb300) ∧ (gb316 ≠ s_.2) ∧ (s_.2 ≠ gb316) ∧ (Below w.heap.size w w')) ?_ ?_
 rotate_left
 · intro hCont
   refine two_ (i := 1) (j := 6) (Ni := some 32) (Nj := some 7) #[true, true, false, false, false, false, false, false, false] #[true, false, false, false, false, false, true, false, false] rfl rfl rfl rfl (two_of HT_.out (by kernel_rfl)) (by decide) (by decide) (fun K hK => ?_) (fun K hK => ?_)
   · skip
     refine goes_ Try.func25 (by kernel_rfl) rfl #[.int .i64 3] (by rfl) rfl rfl (by (try simp only [List.map_toArray, List.map_cons, List.map_nil]); first | done | rfl | (simp only [List.length_drop, List.length_take]; rfl)) ?_
     with_reducible refine (tailwaterlaw26_mark.calls 3 t317 t318 t319 t320 t321 t322 t323 t324 t325 t326 _ A6.out).mono ?_
     rintro e w43 ⟨rfl, hb⟩
     refine ⟨_, rfl, ?_⟩
     have n0_ := Aside0.mk (Kd.R_below HO282.out hb)
     have n1_ := Aside0.mk (Kd.R_below HO298.out hb)
     have n2_ := Aside0.mk (Kd.R_below HO314.out hb)
     have n3_ := Aside0.mk (blk_below (g := gb284) (o := .cells #[.int .i64 t279, .slice Ao22 t280.length co22] 24 (0, 0)) BK284.out hb)
     have n4_ := Aside0.mk (blk_below (g := gb300) (o := .cells #[.int .i64 t295, .slice Ao30 t296.length co30] 24 (0, 0)) BK300.out hb)
     have n5_ := Aside0.mk (blk_below (g := gb316) (o := .cells #[.int .i64 t311, .slice Ao39 t312.length co39] 24 (0, 0)) BK316.out hb)
     have n6_ := Aside0.mk (below_step (by repeat (first | (with_reducible first | exact HB.out | apply below_alloc | apply pw_below_drewN | apply below_drew1 | refine below_set ?_ GE284.out | refine below_set ?_ GE300.out | refine below_set ?_ GE316.out) | exact HB.out)) hb)
     clear HO282
     clear HO298
     clear HO314
     clear BK284
     clear BK300
     clear BK316
     clear HB
     have HO282 := n0_
     have HO298 := n1_
     have HO314 := n2_
     have BK284 := n3_
     have BK300 := n4_
     have BK316 := n5_
     have HB := n6_
     clear n0_ n1_ n2_ n3_ n4_ n5_ n6_
     (try clear hb)
     (try clear hb2)
     (try clear hk)
     (try clear hi)
     refine hK.out _ _ ⟨(blk_cell BK316.out 0).trans rfl, (blk_cell BK316.out 1).trans rfl⟩ (fun hHeld => ?_)
     clear hK K
     refine norm_ (a' := ?_) ?_ ?_
     rotate_left
     · show Act.put _ (some 32) _ = _
       simp only [Act.put, List.setIfInBounds_toArray, List.set_cons_zero, List.set_cons_succ, i64_w, i32_w]
       rfl
     refine two_ (i := 2) (j := 6) (Ni := some 33) (Nj := some 7) #[true, true, true, false, false, false, false, false, false] #[true, true, false, false, false, false, true, false, false] rfl rfl rfl rfl (two_of HT_.out (by kernel_rfl)) (by decide) (by decide) (fun K hK => ?_) (fun K hK => ?_)
     · skip
       refine goes_ Try.func16 (by kernel_rfl) rfl #[.agg #[.int .i64 t311, .slice Ao39 t312.length co39], .agg #[.int .u8 t317, .int .i64 t318, .int .i64 t319, .int .i64 t320, .int .i64 t321, .int .i64 t322, .int .i64 t323, .int .i64 t324, .int .i64 t325, .int .i64 t326]] (by rfl) rfl rfl (by (try simp only [List.map_toArray, List.map_cons, List.map_nil]); first | done | rfl | (simp only [List.length_drop, List.length_take]; rfl)) ?_
       with_reducible refine (channel_Put.calls k t311 _ _ t312 t317 t318 t319 t320 t321 t322 t323 t324 t325 t326 t327 t328 t331 _ ?side1 ?side2 A7.out).mono ?_
       (case side1 => repeat (first | exact (Kd.R_reads' HO314.out).2.2 | (with_reducible refine Kd.C_alloc ?_ _) | (with_reducible refine Kd.C_drewN ?_ _) | (with_reducible refine Kd.C_drew ?_)))
       (case side2 => exact (Kd.R_reads' HO314.out).2.1)
       rintro e w44 ⟨v329, rfl, ho0, hb⟩
       refine ⟨_, rfl, ?_⟩
       have n0_ := Aside0.mk (Kd.R_elder' HO282.out (Kd.R_base ho0) hb)
       have n1_ := Aside0.mk (Kd.R_elder' HO298.out (Kd.R_base ho0) hb)
       have n2_ := Aside0.mk (Kd.R_elder' HO314.out (Kd.R_base ho0) hb)
       have n3_ := Aside0.mk (Kd.R_lower (Kd.R_new' (Kd.R_new' (Kd.R_new' ho0 (Kd.R_lt HO282.out)) (Kd.R_lt HO298.out)) (Kd.R_lt HO314.out)) (below_size (by repeat (first | (with_reducible first | exact HB.out | apply below_alloc | apply pw_below_drewN | apply below_drew1 | refine below_set ?_ GE284.out | refine below_set ?_ GE300.out | refine below_set ?_ GE316.out) | exact HB.out))))
       have n4_ := Aside0.mk (blk_below (g := gb284) (o := .cells #[.int .i64 t279, .slice Ao22 t280.length co22] 24 (0, 0)) BK284.out hb)
       have n5_ := Aside0.mk (blk_below (g := gb300) (o := .cells #[.int .i64 t295, .slice Ao30 t296.length co30] 24 (0, 0)) BK300.out hb)
       have n6_ := Aside0.mk (blk_below (g := gb316) (o := .cells #[.int .i64 t311, .slice Ao39 t312.length co39] 24 (0, 0)) BK316.out hb)
       have n7_ := Aside0.mk (below_step (by repeat (first | (with_reducible first | exact HB.out | apply below_alloc | apply pw_below_drewN | apply below_drew1 | refine below_set ?_ GE284.out | refine below_set ?_ GE300.out | refine below_set ?_ GE316.out) | exact HB.out)) hb)
       clear HO282
       clear HO298
       clear HO314
       clear BK284
       clear BK300
       clear BK316
       clear HB
       have HO282 := n0_
       have HO298 := n1_
       have HO314 := n2_
       have HO330 := n3_
       have BK284 := n4_
       have BK300 := n5_
       have BK316 := n6_
       have HB := n7_
       clear n0_ n1_ n2_ n3_ n4_ n5_ n6_ n7_
       (try clear hb)
       (try clear hb2)
       (try clear hk)
       (try clear hi)
       (try clear ho0)
       refine hK.out _ _ ⟨(blk_cell BK316.out 0).trans rfl, (blk_cell BK316.out 1).trans rfl⟩ (fun hHeld => ?_)
       clear hK K
       refine norm_ (a' := ?_) ?_ ?_
       rotate_left
       · show Act.put _ (some 33) _ = _
         simp only [Act.put, List.setIfInBounds_toArray, List.set_cons_zero, List.set_cons_succ, i64_w, i32_w]
         rfl
       refine pure_ (i := 3) (N := some 30) (v := ?_) (a' := ?_) #[true, true, true, true, false, false, false, false, false] rfl rfl (any_of HT_.out (by kernel_rfl)) (fun _ _ _ h => h) (Or.inl ⟨by rfl, ?_⟩) ?_ ?_
       rotate_left
       · intro w'
         go_simp
         with_reducible rfl
       rotate_left
       · simp only [Act.put, List.setIfInBounds_toArray, List.set_cons_zero, List.set_cons_succ, i64_w, i32_w]
         rfl
       refine pure_ (i := 4) (N := some 34) (v := ?_) (a' := ?_) #[true, true, true, true, true, false, false, false, false] rfl rfl (any_of HT_.out (by kernel_rfl)) (fun _ _ _ h => h) (Or.inl ⟨by rfl, ?_⟩) ?_ ?_
       rotate_left
       · intro w'
         go_simp
         with_reducible rfl
       rotate_left
       · simp only [Act.put, List.setIfInBounds_toArray, List.set_cons_zero, List.set_cons_succ, i64_w, i32_w]
         rfl
       refine pure_ (i := 5) (N := some 35) (v := ?_) (a' := ?_) #[true, true, true, true, true, true, false, false, false] rfl rfl (any_of HT_.out (by kernel_rfl)) (fun _ _ _ h => h) (Or.inl ⟨by rfl, ?_⟩) ?_ ?_
       rotate_left
       · intro w'
         go_simp
         with_reducible rfl
       rotate_left
       · simp only [Act.put, List.setIfInBounds_toArray, List.set_cons_zero, List.set_cons_succ, i64_w, i32_w]
         rfl
       refine one_ (i := 6) (N := some 7) #[true, true, true, true, true, true, true, false, false] rfl rfl (one_of HT_.out (by kernel_rfl)) (by decide) (fun K hK => ?_)
       refine box_step ?hg (N := 7) ?hd (cs := #[.int .i64 0, .slice none 0 0]) (t := 24) ?hr ?_; (case hd => rfl); (case hg => rfl); (case hr => first | (go_simp; done) | (go_simp; rfl))
       intro gb332 hg w45 hbox hb
       have n0_ := Aside0.mk (Kd.R_below HO282.out hb)
       have n1_ := Aside0.mk (Kd.R_below HO298.out hb)
       have n2_ := Aside0.mk (Kd.R_below HO314.out hb)
       have n3_ := Aside0.mk (Kd.R_below HO330.out hb)
       have n4_ := Aside0.mk (blk_below (g := gb284) (o := .cells #[.int .i64 t279, .slice Ao22 t280.length co22] 24 (0, 0)) BK284.out hb)
       have n5_ := Aside0.mk (blk_below (g := gb300) (o := .cells #[.int .i64 t295, .slice Ao30 t296.length co30] 24 (0, 0)) BK300.out hb)
       have n6_ := Aside0.mk (blk_below (g := gb316) (o := .cells #[.int .i64 t311, .slice Ao39 t312.length co39] 24 (0, 0)) BK316.out hb)
       have n7_ := Aside0.mk (below_step (by repeat (first | (with_reducible first | exact HB.out | apply below_alloc | apply pw_below_drewN | apply below_drew1 | refine below_set ?_ GE284.out | refine below_set ?_ GE300.out | refine below_set ?_ GE316.out) | exact HB.out)) hb)
       have n8_ := Aside0.mk (hbox)
       have n9_ := Aside0.mk ((by rw [hg]; exact (below_size (by repeat (first | (with_reducible first | exact HB.out | apply below_alloc | apply pw_below_drewN | apply below_drew1 | refine below_set ?_ GE284.out | refine below_set ?_ GE300.out | refine below_set ?_ GE316.out) | exact HB.out))) : w.heap.size ≤ gb332))
       have n10_ := Aside0.mk ((by rw [hg]; exact (below_size (by repeat (first | (with_reducible first | exact HB.out | apply below_alloc | apply pw_below_drewN | apply below_drew1 | refine below_set ?_ GE284.out | refine below_set ?_ GE300.out | refine below_set ?_ GE316.out) | exact HB.out))) : w.heap.size ≤ gb332))
       have n11_ := Aside0.mk ((by rw [hg]; exact Nat.ne_of_lt (blk_lt (g := gb284) (o := .cells #[.int .i64 t279, .slice Ao22 t280.length co22] 24 (0, 0)) BK284.out) : gb284 ≠ gb332))
       have n12_ := Aside0.mk ((by rw [hg]; exact Nat.ne_of_gt (blk_lt (g := gb284) (o := .cells #[.int .i64 t279, .slice Ao22 t280.length co22] 24 (0, 0)) BK284.out) : gb332 ≠ gb284))
       have n13_ := Aside0.mk ((by rw [hg]; exact Nat.ne_of_lt (blk_lt (g := gb300) (o := .cells #[.int .i64 t295, .slice Ao30 t296.length co30] 24 (0, 0)) BK300.out) : gb300 ≠ gb332))
       have n14_ := Aside0.mk ((by rw [hg]; exact Nat.ne_of_gt (blk_lt (g := gb300) (o := .cells #[.int .i64 t295, .slice Ao30 t296.length co30] 24 (0, 0)) BK300.out) : gb332 ≠ gb300))
       have n15_ := Aside0.mk ((by rw [hg]; exact Nat.ne_of_lt (blk_lt (g := gb316) (o := .cells #[.int .i64 t311, .slice Ao39 t312.length co39] 24 (0, 0)) BK316.out) : gb316 ≠ gb332))
       have n16_ := Aside0.mk ((by rw [hg]; exact Nat.ne_of_gt (blk_lt (g := gb316) (o := .cells #[.int .i64 t311, .slice Ao39 t312.length co39] 24 (0, 0)) BK316.out) : gb332 ≠ gb316))
       clear HO282
       clear HO298
       clear HO314
       clear HO330
       clear BK284
       clear BK300
       clear BK316
       clear HB
       have HO282 := n0_
       have HO298 := n1_
       have HO314 := n2_
       have HO330 := n3_
       have BK284 := n4_
       have BK300 := n5_
       have BK316 := n6_
       have HB := n7_
       have BK332 := n8_
       have GW332 := n9_
       have GE332 := n10_
       have NB284_332 := n11_
       have NB332_284 := n12_
       have NB300_332 := n13_
       have NB332_300 := n14_
       have NB316_332 := n15_
       have NB332_316 := n16_
       clear n0_ n1_ n2_ n3_ n4_ n5_ n6_ n7_ n8_ n9_ n10_ n11_ n12_ n13_ n14_ n15_ n16_
       clear hb hbox hg
       refine hK.out _ _ ⟨(blk_cell BK316.out 0).trans rfl, (blk_cell BK316.out 1).trans rfl⟩ (fun hHeld => ?_)
       clear hK K
       refine norm_ (a' := ?_) ?_ ?_
       rotate_left
       · show Act.put _ (some 7) _ = _
         simp only [Act.put, List.setIfInBounds_toArray, List.set_cons_zero, List.set_cons_succ, i64_w, i32_w]
         rfl
       exact norm_ (by simp only [putAll, Act.put, List.setIfInBounds_toArray, List.set_cons_zero, List.set_cons_succ]) (hCont (v329, gb332) _ ⟨hHeld, (by (with_reducible repeat (first | apply Kd.R_alloc | apply Kd.R_drewN | apply Kd.R_drew)); exact Kd.R_mono HO282.out (fun _ hk => ⟨hk.1.1, ⟨hk.1.2, hk.2⟩⟩)), (by (with_reducible repeat (first | apply Kd.R_alloc | apply Kd.R_drewN | apply Kd.R_drew)); exact Kd.R_mono HO298.out (fun _ hk => ⟨hk.1.1, ⟨hk.1.2, hk.2⟩⟩)), (by (with_reducible repeat (first | apply Kd.R_alloc | apply Kd.R_drewN | apply Kd.R_drew)); exact Kd.R_mono HO314.out (fun _ hk => ⟨hk.1.1, ⟨hk.1.2, hk.2⟩⟩)), (by (with_reducible repeat (first | apply Kd.R_alloc | apply Kd.R_drewN | apply Kd.R_drew)); exact Kd.R_mono HO330.out (fun _ hk => ⟨hk.1.1.2, ⟨hk.1.2, hk.2⟩⟩)), BK284.out, BK300.out, BK316.out, BK332.out, GW332.out, GE332.out, NB284_332.out, NB332_284.out, NB300_332.out, NB332_300.out, NB316_332.out, NB332_316.out, (by repeat (first | (with_reducible first | exact HB.out | apply below_alloc | apply pw_below_drewN | apply below_drew1 | refine below_set ?_ GE284.out | refine below_set ?_ GE300.out | refine below_set ?_ GE316.out | refine below_set ?_ GE332.out) | exact HB.out))⟩)
     · skip
       refine box_step ?hg (N := 7) ?hd (cs := #[.int .i64 0, .slice none 0 0]) (t := 24) ?hr ?_; (case hd => rfl); (case hg => rfl); (case hr => first | (go_simp; done) | (go_simp; rfl))
       intro gb332 hg w44 hbox hb
       have n0_ := Aside0.mk (Kd.R_below HO282.out hb)
       have n1_ := Aside0.mk (Kd.R_below HO298.out hb)
       have n2_ := Aside0.mk (Kd.R_below HO314.out hb)
       have n3_ := Aside0.mk (blk_below (g := gb284) (o := .cells #[.int .i64 t279, .slice Ao22 t280.length co22] 24 (0, 0)) BK284.out hb)
       have n4_ := Aside0.mk (blk_below (g := gb300) (o := .cells #[.int .i64 t295, .slice Ao30 t296.length co30] 24 (0, 0)) BK300.out hb)
       have n5_ := Aside0.mk (blk_below (g := gb316) (o := .cells #[.int .i64 t311, .slice Ao39 t312.length co39] 24 (0, 0)) BK316.out hb)
       have n6_ := Aside0.mk (below_step (by repeat (first | (with_reducible first | exact HB.out | apply below_alloc | apply pw_below_drewN | apply below_drew1 | refine below_set ?_ GE284.out | refine below_set ?_ GE300.out | refine below_set ?_ GE316.out) | exact HB.out)) hb)
       have n7_ := Aside0.mk (hbox)
       have n8_ := Aside0.mk ((by rw [hg]; exact (below_size (by repeat (first | (with_reducible first | exact HB.out | apply below_alloc | apply pw_below_drewN | apply below_drew1 | refine below_set ?_ GE284.out | refine below_set ?_ GE300.out | refine below_set ?_ GE316.out) | exact HB.out))) : w.heap.size ≤ gb332))
       have n9_ := Aside0.mk ((by rw [hg]; exact (below_size (by repeat (first | (with_reducible first | exact HB.out | apply below_alloc | apply pw_below_drewN | apply below_drew1 | refine below_set ?_ GE284.out | refine below_set ?_ GE300.out | refine below_set ?_ GE316.out) | exact HB.out))) : w.heap.size ≤ gb332))
       have n10_ := Aside0.mk ((by rw [hg]; exact Nat.ne_of_lt (blk_lt (g := gb284) (o := .cells #[.int .i64 t279, .slice Ao22 t280.length co22] 24 (0, 0)) BK284.out) : gb284 ≠ gb332))
       have n11_ := Aside0.mk ((by rw [hg]; exact Nat.ne_of_gt (blk_lt (g := gb284) (o := .cells #[.int .i64 t279, .slice Ao22 t280.length co22] 24 (0, 0)) BK284.out) : gb332 ≠ gb284))
       have n12_ := Aside0.mk ((by rw [hg]; exact Nat.ne_of_lt (blk_lt (g := gb300) (o := .cells #[.int .i64 t295, .slice Ao30 t296.length co30] 24 (0, 0)) BK300.out) : gb300 ≠ gb332))
       have n13_ := Aside0.mk ((by rw [hg]; exact Nat.ne_of_gt (blk_lt (g := gb300) (o := .cells #[.int .i64 t295, .slice Ao30 t296.length co30] 24 (0, 0)) BK300.out) : gb332 ≠ gb300))
       have n14_ := Aside0.mk ((by rw [hg]; exact Nat.ne_of_lt (blk_lt (g := gb316) (o := .cells #[.int .i64 t311, .slice Ao39 t312.length co39] 24 (0, 0)) BK316.out) : gb316 ≠ gb332))
       have n15_ := Aside0.mk ((by rw [hg]; exact Nat.ne_of_gt (blk_lt (g := gb316) (o := .cells #[.int .i64 t311, .slice Ao39 t312.length co39] 24 (0, 0)) BK316.out) : gb332 ≠ gb316))
       clear HO282
       clear HO298
       clear HO314
       clear BK284
       clear BK300
       clear BK316
       clear HB
       have HO282 := n0_
       have HO298 := n1_
       have HO314 := n2_
       have BK284 := n3_
       have BK300 := n4_
       have BK316 := n5_
       have HB := n6_
       have BK332 := n7_
       have GW332 := n8_
       have GE332 := n9_
       have NB284_332 := n10_
       have NB332_284 := n11_
       have NB300_332 := n12_
       have NB332_300 := n13_
       have NB316_332 := n14_
       have NB332_316 := n15_
       clear n0_ n1_ n2_ n3_ n4_ n5_ n6_ n7_ n8_ n9_ n10_ n11_ n12_ n13_ n14_ n15_
       clear hb hbox hg
       refine hK.out _ _ ⟨(blk_cell BK316.out 0).trans rfl, (blk_cell BK316.out 1).trans rfl⟩ (fun hHeld => ?_)
       clear hK K
       refine norm_ (a' := ?_) ?_ ?_
       rotate_left
       · show Act.put _ (some 7) _ = _
         simp only [Act.put, List.setIfInBounds_toArray, List.set_cons_zero, List.set_cons_succ, i64_w, i32_w]
         rfl
       refine one_ (i := 2) (N := some 33) #[true, true, true, false, false, false, true, false, false] rfl rfl (one_of HT_.out (by kernel_rfl)) (by decide) (fun K hK => ?_)
       refine goes_ Try.func16 (by kernel_rfl) rfl #[.agg #[.int .i64 t311, .slice Ao39 t312.length co39], .agg #[.int .u8 t317, .int .i64 t318, .int .i64 t319, .int .i64 t320, .int .i64 t321, .int .i64 t322, .int .i64 t323, .int .i64 t324, .int .i64 t325, .int .i64 t326]] (by rfl) rfl rfl (by (try simp only [List.map_toArray, List.map_cons, List.map_nil]); first | done | rfl | (simp only [List.length_drop, List.length_take]; rfl)) ?_
       with_reducible refine (channel_Put.calls k t311 _ _ t312 t317 t318 t319 t320 t321 t322 t323 t324 t325 t326 t327 t328 t331 _ ?side1 ?side2 A7.out).mono ?_
       (case side1 => repeat (first | exact (Kd.R_reads' HO314.out).2.2 | (with_reducible refine Kd.C_alloc ?_ _) | (with_reducible refine Kd.C_drewN ?_ _) | (with_reducible refine Kd.C_drew ?_)))
       (case side2 => exact (Kd.R_reads' HO314.out).2.1)
       rintro e w45 ⟨v329, rfl, ho0, hb⟩
       refine ⟨_, rfl, ?_⟩
       have n0_ := Aside0.mk (Kd.R_elder' HO282.out (Kd.R_base ho0) hb)
       have n1_ := Aside0.mk (Kd.R_elder' HO298.out (Kd.R_base ho0) hb)
       have n2_ := Aside0.mk (Kd.R_elder' HO314.out (Kd.R_base ho0) hb)
       have n3_ := Aside0.mk (Kd.R_lower (Kd.R_new' (Kd.R_new' (Kd.R_new' ho0 (Kd.R_lt HO282.out)) (Kd.R_lt HO298.out)) (Kd.R_lt HO314.out)) (below_size (by repeat (first | (with_reducible first | exact HB.out | apply below_alloc | apply pw_below_drewN | apply below_drew1 | refine below_set ?_ GE284.out | refine below_set ?_ GE300.out | refine below_set ?_ GE316.out | refine below_set ?_ GE332.out) | exact HB.out))))
       have n4_ := Aside0.mk (blk_below (g := gb284) (o := .cells #[.int .i64 t279, .slice Ao22 t280.length co22] 24 (0, 0)) BK284.out hb)
       have n5_ := Aside0.mk (blk_below (g := gb300) (o := .cells #[.int .i64 t295, .slice Ao30 t296.length co30] 24 (0, 0)) BK300.out hb)
       have n6_ := Aside0.mk (blk_below (g := gb316) (o := .cells #[.int .i64 t311, .slice Ao39 t312.length co39] 24 (0, 0)) BK316.out hb)
       have n7_ := Aside0.mk (blk_below (g := gb332) (o := .cells #[.int .i64 0, .slice none 0 0] 24 (0, 0)) BK332.out hb)
       have n8_ := Aside0.mk (below_step (by repeat (first | (with_reducible first | exact HB.out | apply below_alloc | apply pw_below_drewN | apply below_drew1 | refine below_set ?_ GE284.out | refine below_set ?_ GE300.out | refine below_set ?_ GE316.out | refine below_set ?_ GE332.out) | exact HB.out)) hb)
       clear HO282
       clear HO298
       clear HO314
       clear BK284
       clear BK300
       clear BK316
       clear BK332
       clear HB
       have HO282 := n0_
       have HO298 := n1_
       have HO314 := n2_
       have HO330 := n3_
       have BK284 := n4_
       have BK300 := n5_
       have BK316 := n6_
       have BK332 := n7_
       have HB := n8_
       clear n0_ n1_ n2_ n3_ n4_ n5_ n6_ n7_ n8_
       (try clear hb)
       (try clear hb2)
       (try clear hk)
       (try clear hi)
       (try clear ho0)
       refine hK.out _ _ ⟨(blk_cell BK316.out 0).trans rfl, (blk_cell BK316.out 1).trans rfl⟩ (fun hHeld => ?_)
       clear hK K
       refine norm_ (a' := ?_) ?_ ?_
       rotate_left
       · show Act.put _ (some 33) _ = _
         simp only [Act.put, List.setIfInBounds_toArray, List.set_cons_zero, List.set_cons_succ, i64_w, i32_w]
         rfl
       refine pure_ (i := 3) (N := some 30) (v := ?_) (a' := ?_) #[true, true, true, true, false, false, true, false, false] rfl rfl (any_of HT_.out (by kernel_rfl)) (fun _ _ _ h => h) (Or.inl ⟨by rfl, ?_⟩) ?_ ?_
       rotate_left
       · intro w'
         go_simp
         with_reducible rfl
       rotate_left
       · simp only [Act.put, List.setIfInBounds_toArray, List.set_cons_zero, List.set_cons_succ, i64_w, i32_w]
         rfl
       refine pure_ (i := 4) (N := some 34) (v := ?_) (a' := ?_) #[true, true, true, true, true, false, true, false, false] rfl rfl (any_of HT_.out (by kernel_rfl)) (fun _ _ _ h => h) (Or.inl ⟨by rfl, ?_⟩) ?_ ?_
       rotate_left
       · intro w'
         go_simp
         with_reducible rfl
       rotate_left
       · simp only [Act.put, List.setIfInBounds_toArray, List.set_cons_zero, List.set_cons_succ, i64_w, i32_w]
         rfl
       refine pure_ (i := 5) (N := some 35) (v := ?_) (a' := ?_) #[true, true, true, true, true, true, true, false, false] rfl rfl (any_of HT_.out (by kernel_rfl)) (fun _ _ _ h => h) (Or.inl ⟨by rfl, ?_⟩) ?_ ?_
       rotate_left
       · intro w'
         go_simp
         with_reducible rfl
       rotate_left
       · simp only [Act.put, List.setIfInBounds_toArray, List.set_cons_zero, List.set_cons_succ, i64_w, i32_w]
         rfl
       exact norm_ (by simp only [putAll, Act.put, List.setIfInBounds_toArray, List.set_cons_zero, List.set_cons_succ]) (hCont (v329, gb332) _ ⟨hHeld, (by (with_reducible repeat (first | apply Kd.R_alloc | apply Kd.R_drewN | apply Kd.R_drew)); exact Kd.R_mono HO282.out (fun _ hk => ⟨hk.1.1, ⟨hk.1.2, hk.2⟩⟩)), (by (with_reducible repeat (first | apply Kd.R_alloc | apply Kd.R_drewN | apply Kd.R_drew)); exact Kd.R_mono HO298.out (fun _ hk => ⟨hk.1.1, ⟨hk.1.2, hk.2⟩⟩)), (by (with_reducible repeat (first | apply Kd.R_alloc | apply Kd.R_drewN | apply Kd.R_drew)); exact Kd.R_mono HO314.out (fun _ hk => ⟨hk.1.1, ⟨hk.1.2, hk.2⟩⟩)), (by (with_reducible repeat (first | apply Kd.R_alloc | apply Kd.R_drewN | apply Kd.R_drew)); exact Kd.R_mono HO330.out (fun _ hk => ⟨hk.1.1.2, ⟨hk.1.2, hk.2⟩⟩)), BK284.out, BK300.out, BK316.out, BK332.out, GW332.out, GE332.out, NB284_332.out, NB332_284.out, NB300_332.out, NB332_300.out, NB316_332.out, NB332_316.out, (by repeat (first | (with_reducible first | exact HB.out | apply below_alloc | apply pw_below_drewN | apply below_drew1 | refine below_set ?_ GE284.out | refine below_set ?_ GE300.out | refine below_set ?_ GE316.out | refine below_set ?_ GE332.out) | exact HB.out))⟩)
   · skip
     refine box_step ?hg (N := 7) ?hd (cs := #[.int .i64 0, .slice none 0 0]) (t := 24) ?hr ?_; (case hd => rfl); (case hg => rfl); (case hr => first | (go_simp; done) | (go_simp; rfl))
     intro gb332 hg w43 hbox hb
     have n0_ := Aside0.mk (Kd.R_below HO282.out hb)
     have n1_ := Aside0.mk (Kd.R_below HO298.out hb)
     have n2_ := Aside0.mk (Kd.R_below HO314.out hb)
     have n3_ := Aside0.mk (blk_below (g := gb284) (o := .cells #[.int .i64 t279, .slice Ao22 t280.length co22] 24 (0, 0)) BK284.out hb)
     have n4_ := Aside0.mk (blk_below (g := gb300) (o := .cells #[.int .i64 t295, .slice Ao30 t296.length co30] 24 (0, 0)) BK300.out hb)
     have n5_ := Aside0.mk (blk_below (g := gb316) (o := .cells #[.int .i64 t311, .slice Ao39 t312.length co39] 24 (0, 0)) BK316.out hb)
     have n6_ := Aside0.mk (below_step (by repeat (first | (with_reducible first | exact HB.out | apply below_alloc | apply pw_below_drewN | apply below_drew1 | refine below_set ?_ GE284.out | refine below_set ?_ GE300.out | refine below_set ?_ GE316.out) | exact HB.out)) hb)
     have n7_ := Aside0.mk (hbox)
     have n8_ := Aside0.mk ((by rw [hg]; exact (below_size (by repeat (first | (with_reducible first | exact HB.out | apply below_alloc | apply pw_below_drewN | apply below_drew1 | refine below_set ?_ GE284.out | refine below_set ?_ GE300.out | refine below_set ?_ GE316.out) | exact HB.out))) : w.heap.size ≤ gb332))
     have n9_ := Aside0.mk ((by rw [hg]; exact (below_size (by repeat (first | (with_reducible first | exact HB.out | apply below_alloc | apply pw_below_drewN | apply below_drew1 | refine below_set ?_ GE284.out | refine below_set ?_ GE300.out | refine below_set ?_ GE316.out) | exact HB.out))) : w.heap.size ≤ gb332))
     have n10_ := Aside0.mk ((by rw [hg]; exact Nat.ne_of_lt (blk_lt (g := gb284) (o := .cells #[.int .i64 t279, .slice Ao22 t280.length co22] 24 (0, 0)) BK284.out) : gb284 ≠ gb332))
     have n11_ := Aside0.mk ((by rw [hg]; exact Nat.ne_of_gt (blk_lt (g := gb284) (o := .cells #[.int .i64 t279, .slice Ao22 t280.length co22] 24 (0, 0)) BK284.out) : gb332 ≠ gb284))
     have n12_ := Aside0.mk ((by rw [hg]; exact Nat.ne_of_lt (blk_lt (g := gb300) (o := .cells #[.int .i64 t295, .slice Ao30 t296.length co30] 24 (0, 0)) BK300.out) : gb300 ≠ gb332))
     have n13_ := Aside0.mk ((by rw [hg]; exact Nat.ne_of_gt (blk_lt (g := gb300) (o := .cells #[.int .i64 t295, .slice Ao30 t296.length co30] 24 (0, 0)) BK300.out) : gb332 ≠ gb300))
     have n14_ := Aside0.mk ((by rw [hg]; exact Nat.ne_of_lt (blk_lt (g := gb316) (o := .cells #[.int .i64 t311, .slice Ao39 t312.length co39] 24 (0, 0)) BK316.out) : gb316 ≠ gb332))
     have n15_ := Aside0.mk ((by rw [hg]; exact Nat.ne_of_gt (blk_lt (g := gb316) (o := .cells #[.int .i64 t311, .slice Ao39 t312.length co39] 24 (0, 0)) BK316.out) : gb332 ≠ gb316))
     clear HO282
     clear HO298
     clear HO314
     clear BK284
     clear BK300
     clear BK316
     clear HB
     have HO282 := n0_
     have HO298 := n1_
     have HO314 := n2_
     have BK284 := n3_
     have BK300 := n4_
     have BK316 := n5_
     have HB := n6_
     have BK332 := n7_
     have GW332 := n8_
     have GE332 := n9_
     have NB284_332 := n10_
     have NB332_284 := n11_
     have NB300_332 := n12_
     have NB332_300 := n13_
     have NB316_332 := n14_
     have NB332_316 := n15_
     clear n0_ n1_ n2_ n3_ n4_ n5_ n6_ n7_ n8_ n9_ n10_ n11_ n12_ n13_ n14_ n15_
     clear hb hbox hg
     refine hK.out _ _ ⟨(blk_cell BK316.out 0).trans rfl, (blk_cell BK316.out 1).trans rfl⟩ (fun hHeld => ?_)
     clear hK K
     refine norm_ (a' := ?_) ?_ ?_
     rotate_left
     · show Act.put _ (some 7) _ = _
       simp only [Act.put, List.setIfInBounds_toArray, List.set_cons_zero, List.set_cons_succ, i64_w, i32_w]
       rfl
     refine one_ (i := 1) (N := some 32) #[true, true, false, false, false, false, true, false, false] rfl rfl (one_of HT_.out (by kernel_rfl)) (by decide) (fun K hK => ?_)
     refine goes_ Try.func25 (by kernel_rfl) rfl #[.int .i64 3] (by rfl) rfl rfl (by (try simp only [List.map_toArray, List.map_cons, List.map_nil]); first | done | rfl | (simp only [List.length_drop, List.length_take]; rfl)) ?_
     with_reducible refine (tailwaterlaw26_mark.calls 3 t317 t318 t319 t320 t321 t322 t323 t324 t325 t326 _ A6.out).mono ?_
     rintro e w44 ⟨rfl, hb⟩
     refine ⟨_, rfl, ?_⟩
     have n0_ := Aside0.mk (Kd.R_below HO282.out hb)
     have n1_ := Aside0.mk (Kd.R_below HO298.out hb)
     have n2_ := Aside0.mk (Kd.R_below HO314.out hb)
     have n3_ := Aside0.mk (blk_below (g := gb284) (o := .cells #[.int .i64 t279, .slice Ao22 t280.length co22] 24 (0, 0)) BK284.out hb)
     have n4_ := Aside0.mk (blk_below (g := gb300) (o := .cells #[.int .i64 t295, .slice Ao30 t296.length co30] 24 (0, 0)) BK300.out hb)
     have n5_ := Aside0.mk (blk_below (g := gb316) (o := .cells #[.int .i64 t311, .slice Ao39 t312.length co39] 24 (0, 0)) BK316.out hb)
     have n6_ := Aside0.mk (blk_below (g := gb332) (o := .cells #[.int .i64 0, .slice none 0 0] 24 (0, 0)) BK332.out hb)
     have n7_ := Aside0.mk (below_step (by repeat (first | (with_reducible first | exact HB.out | apply below_alloc | apply pw_below_drewN | apply below_drew1 | refine below_set ?_ GE284.out | refine below_set ?_ GE300.out | refine below_set ?_ GE316.out | refine below_set ?_ GE332.out) | exact HB.out)) hb)
     clear HO282
     clear HO298
     clear HO314
     clear BK284
     clear BK300
     clear BK316
     clear BK332
     clear HB
     have HO282 := n0_
     have HO298 := n1_
     have HO314 := n2_
     have BK284 := n3_
     have BK300 := n4_
     have BK316 := n5_
     have BK332 := n6_
     have HB := n7_
     clear n0_ n1_ n2_ n3_ n4_ n5_ n6_ n7_
     (try clear hb)
     (try clear hb2)
     (try clear hk)
     (try clear hi)
     refine hK.out _ _ ⟨(blk_cell BK316.out 0).trans rfl, (blk_cell BK316.out 1).trans rfl⟩ (fun hHeld => ?_)
     clear hK K
     refine norm_ (a' := ?_) ?_ ?_
     rotate_left
     · show Act.put _ (some 32) _ = _
       simp only [Act.put, List.setIfInBounds_toArray, List.set_cons_zero, List.set_cons_succ, i64_w, i32_w]
       rfl
     refine one_ (i := 2) (N := some 33) #[true, true, true, false, false, false, true, false, false] rfl rfl (one_of HT_.out (by kernel_rfl)) (by decide) (fun K hK => ?_)
     refine goes_ Try.func16 (by kernel_rfl) rfl #[.agg #[.int .i64 t311, .slice Ao39 t312.length co39], .agg #[.int .u8 t317, .int .i64 t318, .int .i64 t319, .int .i64 t320, .int .i64 t321, .int .i64 t322, .int .i64 t323, .int .i64 t324, .int .i64 t325, .int .i64 t326]] (by rfl) rfl rfl (by (try simp only [List.map_toArray, List.map_cons, List.map_nil]); first | done | rfl | (simp only [List.length_drop, List.length_take]; rfl)) ?_
     with_reducible refine (channel_Put.calls k t311 _ _ t312 t317 t318 t319 t320 t321 t322 t323 t324 t325 t326 t327 t328 t331 _ ?side1 ?side2 A7.out).mono ?_
     (case side1 => repeat (first | exact (Kd.R_reads' HO314.out).2.2 | (with_reducible refine Kd.C_alloc ?_ _) | (with_reducible refine Kd.C_drewN ?_ _) | (with_reducible refine Kd.C_drew ?_)))
     (case side2 => exact (Kd.R_reads' HO314.out).2.1)
     rintro e w45 ⟨v329, rfl, ho0, hb⟩
     refine ⟨_, rfl, ?_⟩
     have n0_ := Aside0.mk (Kd.R_elder' HO282.out (Kd.R_base ho0) hb)
     have n1_ := Aside0.mk (Kd.R_elder' HO298.out (Kd.R_base ho0) hb)
     have n2_ := Aside0.mk (Kd.R_elder' HO314.out (Kd.R_base ho0) hb)
     have n3_ := Aside0.mk (Kd.R_lower (Kd.R_new' (Kd.R_new' (Kd.R_new' ho0 (Kd.R_lt HO282.out)) (Kd.R_lt HO298.out)) (Kd.R_lt HO314.out)) (below_size (by repeat (first | (with_reducible first | exact HB.out | apply below_alloc | apply pw_below_drewN | apply below_drew1 | refine below_set ?_ GE284.out | refine below_set ?_ GE300.out | refine below_set ?_ GE316.out | refine below_set ?_ GE332.out) | exact HB.out))))
     have n4_ := Aside0.mk (blk_below (g := gb284) (o := .cells #[.int .i64 t279, .slice Ao22 t280.length co22] 24 (0, 0)) BK284.out hb)
     have n5_ := Aside0.mk (blk_below (g := gb300) (o := .cells #[.int .i64 t295, .slice Ao30 t296.length co30] 24 (0, 0)) BK300.out hb)
     have n6_ := Aside0.mk (blk_below (g := gb316) (o := .cells #[.int .i64 t311, .slice Ao39 t312.length co39] 24 (0, 0)) BK316.out hb)
     have n7_ := Aside0.mk (blk_below (g := gb332) (o := .cells #[.int .i64 0, .slice none 0 0] 24 (0, 0)) BK332.out hb)
     have n8_ := Aside0.mk (below_step (by repeat (first | (with_reducible first | exact HB.out | apply below_alloc | apply pw_below_drewN | apply below_drew1 | refine below_set ?_ GE284.out | refine below_set ?_ GE300.out | refine below_set ?_ GE316.out | refine below_set ?_ GE332.out) | exact HB.out)) hb)
     clear HO282
     clear HO298
     clear HO314
     clear BK284
     clear BK300
     clear BK316
     clear BK332
     clear HB
     have HO282 := n0_
     have HO298 := n1_
     have HO314 := n2_
     have HO330 := n3_
     have BK284 := n4_
     have BK300 := n5_
     have BK316 := n6_
     have BK332 := n7_
     have HB := n8_
     clear n0_ n1_ n2_ n3_ n4_ n5_ n6_ n7_ n8_
     (try clear hb)
     (try clear hb2)
     (try clear hk)
     (try clear hi)
     (try clear ho0)
     refine hK.out _ _ ⟨(blk_cell BK316.out 0).trans rfl, (blk_cell BK316.out 1).trans rfl⟩ (fun hHeld => ?_)
     clear hK K
     refine norm_ (a' := ?_) ?_ ?_
     rotate_left
     · show Act.put _ (some 33) _ = _
       simp only [Act.put, List.setIfInBounds_toArray, List.set_cons_zero, List.set_cons_succ, i64_w, i32_w]
       rfl
     refine pure_ (i := 3) (N := some 30) (v := ?_) (a' := ?_) #[true, true, true, true, false, false, true, false, false] rfl rfl (any_of HT_.out (by kernel_rfl)) (fun _ _ _ h => h) (Or.inl ⟨by rfl, ?_⟩) ?_ ?_
     rotate_left
     · intro w'
       go_simp
       with_reducible rfl
     rotate_left
     · simp only [Act.put, List.setIfInBounds_toArray, List.set_cons_zero, List.set_cons_succ, i64_w, i32_w]
       rfl
     refine pure_ (i := 4) (N := some 34) (v := ?_) (a' := ?_) #[true, true, true, true, true, false, true, false, false] rfl rfl (any_of HT_.out (by kernel_rfl)) (fun _ _ _ h => h) (Or.inl ⟨by rfl, ?_⟩) ?_ ?_
     rotate_left
     · intro w'
       go_simp
       with_reducible rfl
     rotate_left
     · simp only [Act.put, List.setIfInBounds_toArray, List.set_cons_zero, List.set_cons_succ, i64_w, i32_w]
       rfl
     refine pure_ (i := 5) (N := some 35) (v := ?_) (a' := ?_) #[true, true, true, true, true, true, true, false, false] rfl rfl (any_of HT_.out (by kernel_rfl)) (fun _ _ _ h => h) (Or.inl ⟨by rfl, ?_⟩) ?_ ?_
     rotate_left
     · intro w'
       go_simp
       with_reducible rfl
     rotate_left
     · simp only [Act.put, List.setIfInBounds_toArray, List.set_cons_zero, List.set_cons_succ, i64_w, i32_w]
       rfl
     exact norm_ (by simp only [putAll, Act.put, List.setIfInBounds_toArray, List.set_cons_zero, List.set_cons_succ]) (hCont (v329, gb332) _ ⟨hHeld, (by (with_reducible repeat (first | apply Kd.R_alloc | apply Kd.R_drewN | apply Kd.R_drew)); exact Kd.R_mono HO282.out (fun _ hk => ⟨hk.1.1, ⟨hk.1.2, hk.2⟩⟩)), (by (with_reducible repeat (first | apply Kd.R_alloc | apply Kd.R_drewN | apply Kd.R_drew)); exact Kd.R_mono HO298.out (fun _ hk => ⟨hk.1.1, ⟨hk.1.2, hk.2⟩⟩)), (by (with_reducible repeat (first | apply Kd.R_alloc | apply Kd.R_drewN | apply Kd.R_drew)); exact Kd.R_mono HO314.out (fun _ hk => ⟨hk.1.1, ⟨hk.1.2, hk.2⟩⟩)), (by (with_reducible repeat (first | apply Kd.R_alloc | apply Kd.R_drewN | apply Kd.R_drew)); exact Kd.R_mono HO330.out (fun _ hk => ⟨hk.1.1.2, ⟨hk.1.2, hk.2⟩⟩)), BK284.out, BK300.out, BK316.out, BK332.out, GW332.out, GE332.out, NB284_332.out, NB332_284.out, NB300_332.out, NB332_300.out, NB316_332.out, NB332_316.out, (by repeat (first | (with_reducible first | exact HB.out | apply below_alloc | apply pw_below_drewN | apply below_drew1 | refine below_set ?_ GE284.out | refine below_set ?_ GE300.out | refine below_set ?_ GE316.out | refine below_set ?_ GE332.out) | exact HB.out))⟩)
 rintro ⟨v329, gb332⟩ w46 ⟨hS_, h0_, h1_, h2_, h3_, h4_, h5_, h6_, h7_, h8_, h9_, h10_, h11_, h12_, h13_, h14_, h15_, h16_⟩
 have n0_ : Aside0 (Kd.R k35 35 w46 w.heap.size (fun k_ => some k_ ≠ (.slice Ao30 t296.length co30 : Value).ownBlock ∧ some k_ ≠ (.slice Ao39 t312.length co39 : Value).ownBlock ∧ some k_ ≠ (v329 : Value).ownBlock) (.slice Ao22 t280.length co22) t280) := ⟨h0_⟩
 have n1_ : Aside0 (Kd.R k35 35 w46 w.heap.size (fun k_ => some k_ ≠ (.slice Ao22 t280.length co22 : Value).ownBlock ∧ some k_ ≠ (.slice Ao39 t312.length co39 : Value).ownBlock ∧ some k_ ≠ (v329 : Value).ownBlock) (.slice Ao30 t296.length co30) t296) := ⟨h1_⟩
 have n2_ : Aside0 (Kd.R k35 35 w46 w.heap.size (fun k_ => some k_ ≠ (.slice Ao22 t280.length co22 : Value).ownBlock ∧ some k_ ≠ (.slice Ao30 t296.length co30 : Value).ownBlock ∧ some k_ ≠ (v329 : Value).ownBlock) (.slice Ao39 t312.length co39) t312) := ⟨h2_⟩
 have n3_ : Aside0 (Kd.R k35 35 w46 w.heap.size (fun k_ => some k_ ≠ (.slice Ao22 t280.length co22 : Value).ownBlock ∧ some k_ ≠ (.slice Ao30 t296.length co30 : Value).ownBlock ∧ some k_ ≠ (.slice Ao39 t312.length co39 : Value).ownBlock) v329 t328) := ⟨h3_⟩
 have n4_ : Aside0 (w46.heap[gb284]? = some (.cells #[.int .i64 t279, .slice Ao22 t280.length co22] 24 (0, 0))) := ⟨h4_⟩
 have n5_ : Aside0 (w46.heap[gb300]? = some (.cells #[.int .i64 t295, .slice Ao30 t296.length co30] 24 (0, 0))) := ⟨h5_⟩
 have n6_ : Aside0 (w46.heap[gb316]? = some (.cells #[.int .i64 t311, .slice Ao39 t312.length co39] 24 (0, 0))) := ⟨h6_⟩
 have n7_ : Aside0 (w46.heap[gb332]? = some (.cells #[.int .i64 0, .slice none 0 0] 24 (0, 0))) := ⟨h7_⟩
 have n8_ : Aside0 (w.heap.size ≤ gb332) := ⟨h8_⟩
 have n9_ : Aside0 (w.heap.size ≤ gb332) := ⟨h9_⟩
 have n10_ : Aside0 (gb284 ≠ gb332) := ⟨h10_⟩
 have n11_ : Aside0 (gb332 ≠ gb284) := ⟨h11_⟩
 have n12_ : Aside0 (gb300 ≠ gb332) := ⟨h12_⟩
 have n13_ : Aside0 (gb332 ≠ gb300) := ⟨h13_⟩
 have n14_ : Aside0 (gb316 ≠ gb332) := ⟨h14_⟩
 have n15_ : Aside0 (gb332 ≠ gb316) := ⟨h15_⟩
 have n16_ : Aside0 (Below w.heap.size w w46) := ⟨h16_⟩
 clear HO282
 clear HO298
 clear HO314
 clear BK284
 clear BK300
 clear BK316
 clear HB
 clear h0_ h1_ h2_ h3_ h4_ h5_ h6_ h7_ h8_ h9_ h10_ h11_ h12_ h13_ h14_ h15_ h16_
 have HO282 := n0_
 have HO298 := n1_
 have HO314 := n2_
 have HO330 := n3_
 have BK284 := n4_
 have BK300 := n5_
 have BK316 := n6_
 have BK332 := n7_
 have GW332 := n8_
 have GE332 := n9_
 have NB284_332 := n10_
 have NB332_284 := n11_
 have NB300_332 := n12_
 have NB332_300 := n13_
 have NB316_332 := n14_
 have NB332_316 := n15_
 have HB := n16_
 clear n0_ n1_ n2_ n3_ n4_ n5_ n6_ n7_ n8_ n9_ n10_ n11_ n12_ n13_ n14_ n15_ n16_
 have hHeld : w46.cell? ⟨gb316, 0, none⟩ = some (.int .i64 t311) ∧ w46.cell? ⟨gb316, 1, none⟩ = some (.slice Ao39 t312.length co39) := hS_
 obtain ⟨Ao48, co48, eo48⟩ := Kd.R_slice HO330.out
 (first | subst eo48 | (injection eo48 with f1_ f2_ f3_; have f4_ := f1_.symm; have f5_ := f3_.symm; clear f1_ f2_ f3_; subst f4_; subst f5_))
 refine norm_ (a' := ?_) ?_ ?_
 rotate_left
 · simp only [putAll, Act.put, List.setIfInBounds_toArray, List.set_cons_zero, List.set_cons_succ]
   rfl
 refine one_ (i := 7) (N := none) #[true, true, true, true, true, true, true, true, false] rfl rfl (one_of HT_.out (by kernel_rfl)) (by decide) (fun K hK => ?_)
 have hs47 : w46.cell? ⟨gb332, 0, none⟩ = some (.int .i64 0) := (blk_cell BK332.out 0).trans rfl
 have hfs47 := blk_frozen BK332.out 0
 have hns47_0 := NB284_332.out
 have hns47_1 := NB300_332.out
 have hns47_2 := NB316_332.out
 have hms47_0 := NB332_284.out
 have hms47_1 := NB332_300.out
 have hms47_2 := NB332_316.out
 have hs49 : w46.cell? ⟨gb332, 1, none⟩ = some (.slice none 0 0) := (blk_cell BK332.out 1).trans rfl
 have hfs49 := blk_frozen BK332.out 1
 have hns49_0 := NB284_332.out
 have hns49_1 := NB300_332.out
 have hns49_2 := NB316_332.out
 have hms49_0 := NB332_284.out
 have hms49_1 := NB332_300.out
 have hms49_2 := NB332_316.out
 refine skip_ (w1 := ?_) (by rfl) rfl ?_ ?_
 rotate_left
 · go_simp
   rfl
 refine hK.out _ _ ⟨((cell_far (p := ⟨gb332, _, none⟩) NB316_332.out _).trans (((cell_far (p := ⟨gb332, _, none⟩) NB316_332.out _).trans (hHeld.1)))), ((cell_far (p := ⟨gb332, _, none⟩) NB316_332.out _).trans (((cell_far (p := ⟨gb332, _, none⟩) NB316_332.out _).trans (hHeld.2))))⟩ (fun hHeld => ?_)
 clear hK K
 refine pure_ (i := 8) (N := some 8) (v := ?_) (a' := ?_) #[true, true, true, true, true, true, true, true, true] rfl rfl (any_of HT_.out (by kernel_rfl)) (fun _ _ _ h => h) (Or.inl ⟨by rfl, ?_⟩) ?_ ?_
 rotate_left
 · intro w'
   go_simp
   with_reducible rfl
 rotate_left
 · simp only [Act.put, List.setIfInBounds_toArray, List.set_cons_zero, List.set_cons_succ, i64_w, i32_w]
   rfl
 refine done_ (done_of HT_.out (by kernel_rfl)) ?_
 have hnb50 := NB316_284.out
 have hnc50 := NB284_316.out
 have hnb51 := NB316_300.out
 have hnc51 := NB300_316.out
 have hnb52 := NB316_332.out
 have hnc52 := NB332_316.out
 have hcz53_0 : w46.cell? ⟨gb316, 0, none⟩ = some (.int .i64 t311) := (blk_cell BK316.out 0).trans rfl
 have hcz53_1 : w46.cell? ⟨gb316, 1, none⟩ = some (.slice Ao39 t312.length co39) := (blk_cell BK316.out 1).trans rfl
 have hfz53_0 := blk_frozen BK316.out 0
 have hfz53_1 := blk_frozen BK316.out 1
 try go_wp2_with (first | ((with_reducible refine gate_callee (f := 11) rfl ?_); refine goesL_ (some 38) rfl rfl Try.func11 (by kernel_rfl) rfl #[.agg #[.int .i64 t311, .slice Ao39 t312.length co39]] rfl (by (try simp only [List.map_toArray, List.map_cons, List.map_nil]); first | done | rfl | (simp only [List.length_drop, List.length_take]; rfl)) ?_; (with_reducible refine (channel_Take.calls k t311 _ _ t312 t333 t334 t335 t336 t337 t338 t339 t340 t341 t342 t343 t344 t347 _ ?side1 ?side2 A8.out).mono ?_); (case side1 => refine (Kd.R_reads' (e := 35) (base := w.heap.size) (ok := fun k_ => (some k_ ≠ (.slice Ao22 t280.length co22 : Value).ownBlock ∧ (some k_ ≠ (.slice Ao30 t296.length co30 : Value).ownBlock ∧ some k_ ≠ (.slice Ao48 t328.length co48 : Value).ownBlock))) (n := t312.length) (c := co39) ?_).2.2; exact (by (with_reducible repeat (first | apply Kd.R_alloc | apply Kd.R_drewN | apply Kd.R_drew)); exact (Kd.R_mono (Kd.R_far (p := ⟨gb332, 1, none⟩) (Kd.R_far (p := ⟨gb332, 0, none⟩) (Kd.R_types HO314.out BK332.out (by decide)) (fun _ hk => hk.2) (.int .i64 t327)) (fun _ hk => hk.2) (.slice Ao48 t328.length co48)) (fun _ h_ => h_.1)))); (case side2 => exact (Kd.R_reads' HO314.out).2.1); rintro e w54 ⟨v345, rfl, ho0, hb⟩; refine ⟨_, rfl, ?_⟩; have n0_ := Aside0.mk (Kd.R_elder' (by (with_reducible repeat (first | apply Kd.R_alloc | apply Kd.R_drewN | apply Kd.R_drew)); exact (Kd.R_mono (Kd.R_far (p := ⟨gb332, 1, none⟩) (Kd.R_far (p := ⟨gb332, 0, none⟩) (Kd.R_types HO282.out BK332.out (by decide)) (fun _ hk => hk.2) (.int .i64 t327)) (fun _ hk => hk.2) (.slice Ao48 t328.length co48)) (fun _ h_ => h_.1))) (Kd.Q_base ho0) hb); have n1_ := Aside0.mk (Kd.R_elder' (by (with_reducible repeat (first | apply Kd.R_alloc | apply Kd.R_drewN | apply Kd.R_drew)); exact (Kd.R_mono (Kd.R_far (p := ⟨gb332, 1, none⟩) (Kd.R_far (p := ⟨gb332, 0, none⟩) (Kd.R_types HO298.out BK332.out (by decide)) (fun _ hk => hk.2) (.int .i64 t327)) (fun _ hk => hk.2) (.slice Ao48 t328.length co48)) (fun _ h_ => h_.1))) (Kd.Q_base ho0) hb); have n2_ := Aside0.mk (Kd.R_elder' (by (with_reducible repeat (first | apply Kd.R_alloc | apply Kd.R_drewN | apply Kd.R_drew)); exact (Kd.R_mono (Kd.R_far (p := ⟨gb332, 1, none⟩) (Kd.R_far (p := ⟨gb332, 0, none⟩) (Kd.R_types HO314.out BK332.out (by decide)) (fun _ hk => hk.2) (.int .i64 t327)) (fun _ hk => hk.2) (.slice Ao48 t328.length co48)) (fun _ h_ => h_.1))) (Kd.Q_base ho0) hb); have n3_ := Aside0.mk (Kd.R_elder' (by (with_reducible repeat (first | apply Kd.R_alloc | apply Kd.R_drewN | apply Kd.R_drew)); exact (Kd.R_mono (Kd.R_far (p := ⟨gb332, 1, none⟩) (Kd.R_far (p := ⟨gb332, 0, none⟩) (Kd.R_types HO330.out BK332.out (by decide)) (fun _ hk => hk.2) (.int .i64 t327)) (fun _ hk => hk.2) (.slice Ao48 t328.length co48)) (fun _ h_ => h_.1))) (Kd.Q_base ho0) hb); have n4_ := Aside0.mk (Kd.Q_lower (Kd.Q_new' (Kd.Q_new' (Kd.Q_new' (Kd.Q_new' ho0 (Kd.R_lt (by (with_reducible repeat (first | apply Kd.R_alloc | apply Kd.R_drewN | apply Kd.R_drew)); exact (Kd.R_mono (Kd.R_far (p := ⟨gb332, 1, none⟩) (Kd.R_far (p := ⟨gb332, 0, none⟩) (Kd.R_types HO282.out BK332.out (by decide)) (fun _ hk => hk.2) (.int .i64 t327)) (fun _ hk => hk.2) (.slice Ao48 t328.length co48)) (fun _ h_ => h_.1))))) (Kd.R_lt (by (with_reducible repeat (first | apply Kd.R_alloc | apply Kd.R_drewN | apply Kd.R_drew)); exact (Kd.R_mono (Kd.R_far (p := ⟨gb332, 1, none⟩) (Kd.R_far (p := ⟨gb332, 0, none⟩) (Kd.R_types HO298.out BK332.out (by decide)) (fun _ hk => hk.2) (.int .i64 t327)) (fun _ hk => hk.2) (.slice Ao48 t328.length co48)) (fun _ h_ => h_.1))))) (Kd.R_lt (by (with_reducible repeat (first | apply Kd.R_alloc | apply Kd.R_drewN | apply Kd.R_drew)); exact (Kd.R_mono (Kd.R_far (p := ⟨gb332, 1, none⟩) (Kd.R_far (p := ⟨gb332, 0, none⟩) (Kd.R_types HO314.out BK332.out (by decide)) (fun _ hk => hk.2) (.int .i64 t327)) (fun _ hk => hk.2) (.slice Ao48 t328.length co48)) (fun _ h_ => h_.1))))) (Kd.R_lt (by (with_reducible repeat (first | apply Kd.R_alloc | apply Kd.R_drewN | apply Kd.R_drew)); exact (Kd.R_mono (Kd.R_far (p := ⟨gb332, 1, none⟩) (Kd.R_far (p := ⟨gb332, 0, none⟩) (Kd.R_types HO330.out BK332.out (by decide)) (fun _ hk => hk.2) (.int .i64 t327)) (fun _ hk => hk.2) (.slice Ao48 t328.length co48)) (fun _ h_ => h_.1))))) (below_size (by repeat (first | (with_reducible first | exact HB.out | apply below_alloc | apply pw_below_drewN | apply below_drew1 | refine below_set ?_ GE284.out | refine below_set ?_ GE300.out | refine below_set ?_ GE316.out | refine below_set ?_ GE332.out) | exact HB.out)))); have n5_ := Aside0.mk (blk_below (g := gb284) (o := .cells #[.int .i64 t279, .slice Ao22 t280.length co22] 24 (0, 0)) (by (with_reducible repeat (first | refine blk_drewN ?_ _ | refine blk_drew ?_ | refine blk_alloc ?_ _)); refine blk_far ?_ NB284_332.out _; (with_reducible repeat (first | refine blk_drewN ?_ _ | refine blk_drew ?_ | refine blk_alloc ?_ _)); refine blk_far ?_ NB284_332.out _; (with_reducible repeat (first | refine blk_drewN ?_ _ | refine blk_drew ?_ | refine blk_alloc ?_ _)); exact BK284.out) hb); have n6_ := Aside0.mk (blk_below (g := gb300) (o := .cells #[.int .i64 t295, .slice Ao30 t296.length co30] 24 (0, 0)) (by (with_reducible repeat (first | refine blk_drewN ?_ _ | refine blk_drew ?_ | refine blk_alloc ?_ _)); refine blk_far ?_ NB300_332.out _; (with_reducible repeat (first | refine blk_drewN ?_ _ | refine blk_drew ?_ | refine blk_alloc ?_ _)); refine blk_far ?_ NB300_332.out _; (with_reducible repeat (first | refine blk_drewN ?_ _ | refine blk_drew ?_ | refine blk_alloc ?_ _)); exact BK300.out) hb); have n7_ := Aside0.mk (blk_below (g := gb316) (o := .cells #[.int .i64 t311, .slice Ao39 t312.length co39] 24 (0, 0)) (by (with_reducible repeat (first | refine blk_drewN ?_ _ | refine blk_drew ?_ | refine blk_alloc ?_ _)); refine blk_far ?_ NB316_332.out _; (with_reducible repeat (first | refine blk_drewN ?_ _ | refine blk_drew ?_ | refine blk_alloc ?_ _)); refine blk_far ?_ NB316_332.out _; (with_reducible repeat (first | refine blk_drewN ?_ _ | refine blk_drew ?_ | refine blk_alloc ?_ _)); exact BK316.out) hb); have n8_ := Aside0.mk (blk_below (g := gb332) (o := .cells #[.int .i64 t327, .slice Ao48 t328.length co48] 24 (0, 0)) (by (with_reducible repeat (first | refine blk_drewN ?_ _ | refine blk_drew ?_ | refine blk_alloc ?_ _)); refine blk_put (cs := #[.int .i64 t327, .slice none 0 0]) ?_ 1 _ rfl; (with_reducible repeat (first | refine blk_drewN ?_ _ | refine blk_drew ?_ | refine blk_alloc ?_ _)); refine blk_put (cs := #[.int .i64 0, .slice none 0 0]) ?_ 0 _ rfl; (with_reducible repeat (first | refine blk_drewN ?_ _ | refine blk_drew ?_ | refine blk_alloc ?_ _)); exact BK332.out) hb); have n9_ := Aside0.mk (below_step (by repeat (first | (with_reducible first | exact HB.out | apply below_alloc | apply pw_below_drewN | apply below_drew1 | refine below_set ?_ GE284.out | refine below_set ?_ GE300.out | refine below_set ?_ GE316.out | refine below_set ?_ GE332.out) | exact HB.out)) hb); clear HO282; clear HO298; clear HO314; clear HO330; clear BK284; clear BK300; clear BK316; clear BK332; clear HB; have HO282 := n0_; have HO298 := n1_; have HO314 := n2_; have HO330 := n3_; have HO346 := n4_; have BK284 := n5_; have BK300 := n6_; have BK316 := n7_; have BK332 := n8_; have HB := n9_; clear n0_ n1_ n2_ n3_ n4_ n5_ n6_ n7_ n8_ n9_; (try clear hb); (try clear hb2); (try clear hk); (try clear hi); (try clear ho0)) | ((with_reducible refine gate_dst (N := 9) rfl ?_); (try (refine gate_guard (by rfl) ?_; dsimp only)); refine box_event ?hg (N := 9) ?hd (cs := #[.int .u8 0, .int .i64 0, .int .i64 0, .int .i64 0, .int .i64 0, .int .i64 0, .int .i64 0, .int .i64 0, .int .i64 0, .int .i64 0]) (t := 35) ?hr ?_; (case hd => rfl); (case hg => rfl); (case hr => first | (go_simp; done) | (go_simp; rfl)); intro gb348 hg w55 hbox hb; have n0_ := Aside0.mk (Kd.R_below (Kd.R_elderB HO282.out gb348 (Nat.le_of_eq hg.symm)) hb); have n1_ := Aside0.mk (Kd.R_below (Kd.R_elderB HO298.out gb348 (Nat.le_of_eq hg.symm)) hb); have n2_ := Aside0.mk (Kd.R_below (Kd.R_elderB HO314.out gb348 (Nat.le_of_eq hg.symm)) hb); have n3_ := Aside0.mk (Kd.R_below (Kd.R_elderB HO330.out gb348 (Nat.le_of_eq hg.symm)) hb); have n4_ := Aside0.mk (Kd.Q_below (Kd.Q_elderB (by (with_reducible repeat (first | apply Kd.Q_alloc | apply Kd.Q_drewN | apply Kd.Q_drew)); exact HO346.out) gb348 (Nat.le_of_eq hg.symm)) hb); have n5_ := Aside0.mk (blk_below (g := gb284) (o := .cells #[.int .i64 t279, .slice Ao22 t280.length co22] 24 (0, 0)) BK284.out hb); have n6_ := Aside0.mk (blk_below (g := gb300) (o := .cells #[.int .i64 t295, .slice Ao30 t296.length co30] 24 (0, 0)) BK300.out hb); have n7_ := Aside0.mk (blk_below (g := gb316) (o := .cells #[.int .i64 t311, .slice Ao39 t312.length co39] 24 (0, 0)) BK316.out hb); have n8_ := Aside0.mk (blk_below (g := gb332) (o := .cells #[.int .i64 t327, .slice Ao48 t328.length co48] 24 (0, 0)) BK332.out hb); have n9_ := Aside0.mk (below_step (by repeat (first | (with_reducible first | exact HB.out | apply below_alloc | apply pw_below_drewN | apply below_drew1 | refine below_set ?_ GE284.out | refine below_set ?_ GE300.out | refine below_set ?_ GE316.out | refine below_set ?_ GE332.out) | exact HB.out)) hb); have n10_ := Aside0.mk (hbox); have n11_ := Aside0.mk ((by rw [hg]; exact (below_size (by repeat (first | (with_reducible first | exact HB.out | apply below_alloc | apply pw_below_drewN | apply below_drew1 | refine below_set ?_ GE284.out | refine below_set ?_ GE300.out | refine below_set ?_ GE316.out | refine below_set ?_ GE332.out) | exact HB.out))) : w.heap.size ≤ gb348)); have n12_ := Aside0.mk ((by rw [hg]; exact (below_size (by repeat (first | (with_reducible first | exact HB.out | apply below_alloc | apply pw_below_drewN | apply below_drew1 | refine below_set ?_ GE284.out | refine below_set ?_ GE300.out | refine below_set ?_ GE316.out | refine below_set ?_ GE332.out) | exact HB.out))) : w.heap.size ≤ gb348)); have n13_ := Aside0.mk ((by rw [hg]; exact Nat.ne_of_lt (blk_lt (g := gb284) (o := .cells #[.int .i64 t279, .slice Ao22 t280.length co22] 24 (0, 0)) BK284.out) : gb284 ≠ gb348)); have n14_ := Aside0.mk ((by rw [hg]; exact Nat.ne_of_gt (blk_lt (g := gb284) (o := .cells #[.int .i64 t279, .slice Ao22 t280.length co22] 24 (0, 0)) BK284.out) : gb348 ≠ gb284)); have n15_ := Aside0.mk ((by rw [hg]; exact Nat.ne_of_lt (blk_lt (g := gb300) (o := .cells #[.int .i64 t295, .slice Ao30 t296.length co30] 24 (0, 0)) BK300.out) : gb300 ≠ gb348)); have n16_ := Aside0.mk ((by rw [hg]; exact Nat.ne_of_gt (blk_lt (g := gb300) (o := .cells #[.int .i64 t295, .slice Ao30 t296.length co30] 24 (0, 0)) BK300.out) : gb348 ≠ gb300)); have n17_ := Aside0.mk ((by rw [hg]; exact Nat.ne_of_lt (blk_lt (g := gb316) (o := .cells #[.int .i64 t311, .slice Ao39 t312.length co39] 24 (0, 0)) BK316.out) : gb316 ≠ gb348)); have n18_ := Aside0.mk ((by rw [hg]; exact Nat.ne_of_gt (blk_lt (g := gb316) (o := .cells #[.int .i64 t311, .slice Ao39 t312.length co39] 24 (0, 0)) BK316.out) : gb348 ≠ gb316)); have n19_ := Aside0.mk ((by rw [hg]; exact Nat.ne_of_lt (blk_lt (g := gb332) (o := .cells #[.int .i64 t327, .slice Ao48 t328.length co48] 24 (0, 0)) BK332.out) : gb332 ≠ gb348)); have n20_ := Aside0.mk ((by rw [hg]; exact Nat.ne_of_gt (blk_lt (g := gb332) (o := .cells #[.int .i64 t327, .slice Ao48 t328.length co48] 24 (0, 0)) BK332.out) : gb348 ≠ gb332)); clear HO282; clear HO298; clear HO314; clear HO330; clear HO346; clear BK284; clear BK300; clear BK316; clear BK332; clear HB; have HO282 := n0_; have HO298 := n1_; have HO314 := n2_; have HO330 := n3_; have HO346 := n4_; have BK284 := n5_; have BK300 := n6_; have BK316 := n7_; have BK332 := n8_; have HB := n9_; have BK348 := n10_; have GW348 := n11_; have GE348 := n12_; have NB284_348 := n13_; have NB348_284 := n14_; have NB300_348 := n15_; have NB348_300 := n16_; have NB316_348 := n17_; have NB348_316 := n18_; have NB332_348 := n19_; have NB348_332 := n20_; clear n0_ n1_ n2_ n3_ n4_ n5_ n6_ n7_ n8_ n9_ n10_ n11_ n12_ n13_ n14_ n15_ n16_ n17_ n18_ n19_ n20_; clear hb hbox hg) | ((with_reducible refine gate_dst (N := 10) rfl ?_); (try (refine gate_guard (by rfl) ?_; dsimp only)); refine box_event ?hg (N := 10) ?hd (cs := #[.int .i64 0, .slice none 0 0]) (t := 24) ?hr ?_; (case hd => rfl); (case hg => rfl); (case hr => first | (go_simp; done) | (go_simp; rfl)); intro gb349 hg w56 hbox hb; have n0_ := Aside0.mk (Kd.R_below HO282.out hb); have n1_ := Aside0.mk (Kd.R_below HO298.out hb); have n2_ := Aside0.mk (Kd.R_below HO314.out hb); have n3_ := Aside0.mk (Kd.R_below HO330.out hb); have n4_ := Aside0.mk (Kd.Q_below (by (with_reducible repeat (first | apply Kd.Q_alloc | apply Kd.Q_drewN | apply Kd.Q_drew)); exact HO346.out) hb); have n5_ := Aside0.mk (blk_below (g := gb284) (o := .cells #[.int .i64 t279, .slice Ao22 t280.length co22] 24 (0, 0)) BK284.out hb); have n6_ := Aside0.mk (blk_below (g := gb300) (o := .cells #[.int .i64 t295, .slice Ao30 t296.length co30] 24 (0, 0)) BK300.out hb); have n7_ := Aside0.mk (blk_below (g := gb316) (o := .cells #[.int .i64 t311, .slice Ao39 t312.length co39] 24 (0, 0)) BK316.out hb); have n8_ := Aside0.mk (blk_below (g := gb332) (o := .cells #[.int .i64 t327, .slice Ao48 t328.length co48] 24 (0, 0)) BK332.out hb); have n9_ := Aside0.mk (blk_below (g := gb348) (o := .cells #[.int .u8 0, .int .i64 0, .int .i64 0, .int .i64 0, .int .i64 0, .int .i64 0, .int .i64 0, .int .i64 0, .int .i64 0, .int .i64 0] 35 (0, 0)) BK348.out hb); have n10_ := Aside0.mk (below_step (by repeat (first | (with_reducible first | exact HB.out | apply below_alloc | apply pw_below_drewN | apply below_drew1 | refine below_set ?_ GE284.out | refine below_set ?_ GE300.out | refine below_set ?_ GE316.out | refine below_set ?_ GE332.out | refine below_set ?_ GE348.out) | exact HB.out)) hb); have n11_ := Aside0.mk (hbox); have n12_ := Aside0.mk ((by rw [hg]; exact (below_size (by repeat (first | (with_reducible first | exact HB.out | apply below_alloc | apply pw_below_drewN | apply below_drew1 | refine below_set ?_ GE284.out | refine below_set ?_ GE300.out | refine below_set ?_ GE316.out | refine below_set ?_ GE332.out | refine below_set ?_ GE348.out) | exact HB.out))) : w.heap.size ≤ gb349)); have n13_ := Aside0.mk ((by rw [hg]; exact (below_size (by repeat (first | (with_reducible first | exact HB.out | apply below_alloc | apply pw_below_drewN | apply below_drew1 | refine below_set ?_ GE284.out | refine below_set ?_ GE300.out | refine below_set ?_ GE316.out | refine below_set ?_ GE332.out | refine below_set ?_ GE348.out) | exact HB.out))) : w.heap.size ≤ gb349)); have n14_ := Aside0.mk ((by rw [hg]; exact Nat.ne_of_lt (blk_lt (g := gb284) (o := .cells #[.int .i64 t279, .slice Ao22 t280.length co22] 24 (0, 0)) BK284.out) : gb284 ≠ gb349)); have n15_ := Aside0.mk ((by rw [hg]; exact Nat.ne_of_gt (blk_lt (g := gb284) (o := .cells #[.int .i64 t279, .slice Ao22 t280.length co22] 24 (0, 0)) BK284.out) : gb349 ≠ gb284)); have n16_ := Aside0.mk ((by rw [hg]; exact Nat.ne_of_lt (blk_lt (g := gb300) (o := .cells #[.int .i64 t295, .slice Ao30 t296.length co30] 24 (0, 0)) BK300.out) : gb300 ≠ gb349)); have n17_ := Aside0.mk ((by rw [hg]; exact Nat.ne_of_gt (blk_lt (g := gb300) (o := .cells #[.int .i64 t295, .slice Ao30 t296.length co30] 24 (0, 0)) BK300.out) : gb349 ≠ gb300)); have n18_ := Aside0.mk ((by rw [hg]; exact Nat.ne_of_lt (blk_lt (g := gb316) (o := .cells #[.int .i64 t311, .slice Ao39 t312.length co39] 24 (0, 0)) BK316.out) : gb316 ≠ gb349)); have n19_ := Aside0.mk ((by rw [hg]; exact Nat.ne_of_gt (blk_lt (g := gb316) (o := .cells #[.int .i64 t311, .slice Ao39 t312.length co39] 24 (0, 0)) BK316.out) : gb349 ≠ gb316)); have n20_ := Aside0.mk ((by rw [hg]; exact Nat.ne_of_lt (blk_lt (g := gb332) (o := .cells #[.int .i64 t327, .slice Ao48 t328.length co48] 24 (0, 0)) BK332.out) : gb332 ≠ gb349)); have n21_ := Aside0.mk ((by rw [hg]; exact Nat.ne_of_gt (blk_lt (g := gb332) (o := .cells #[.int .i64 t327, .slice Ao48 t328.length co48] 24 (0, 0)) BK332.out) : gb349 ≠ gb332)); have n22_ := Aside0.mk ((by rw [hg]; exact Nat.ne_of_lt (blk_lt (g := gb348) (o := .cells #[.int .u8 0, .int .i64 0, .int .i64 0, .int .i64 0, .int .i64 0, .int .i64 0, .int .i64 0, .int .i64 0, .int .i64 0, .int .i64 0] 35 (0, 0)) BK348.out) : gb348 ≠ gb349)); have n23_ := Aside0.mk ((by rw [hg]; exact Nat.ne_of_gt (blk_lt (g := gb348) (o := .cells #[.int .u8 0, .int .i64 0, .int .i64 0, .int .i64 0, .int .i64 0, .int .i64 0, .int .i64 0, .int .i64 0, .int .i64 0, .int .i64 0] 35 (0, 0)) BK348.out) : gb349 ≠ gb348)); clear HO282; clear HO298; clear HO314; clear HO330; clear HO346; clear BK284; clear BK300; clear BK316; clear BK332; clear BK348; clear HB; have HO282 := n0_; have HO298 := n1_; have HO314 := n2_; have HO330 := n3_; have HO346 := n4_; have BK284 := n5_; have BK300 := n6_; have BK316 := n7_; have BK332 := n8_; have BK348 := n9_; have HB := n10_; have BK349 := n11_; have GW349 := n12_; have GE349 := n13_; have NB284_349 := n14_; have NB349_284 := n15_; have NB300_349 := n16_; have NB349_300 := n17_; have NB316_349 := n18_; have NB349_316 := n19_; have NB332_349 := n20_; have NB349_332 := n21_; have NB348_349 := n22_; have NB349_348 := n23_; clear n0_ n1_ n2_ n3_ n4_ n5_ n6_ n7_ n8_ n9_ n10_ n11_ n12_ n13_ n14_ n15_ n16_ n17_ n18_ n19_ n20_ n21_ n22_ n23_; clear hb hbox hg; have hnb57 := NB348_284.out; have hnc57 := NB284_348.out; have hnb58 := NB348_300.out; have hnc58 := NB300_348.out; have hnb59 := NB348_316.out; have hnc59 := NB316_348.out; have hnb60 := NB348_332.out; have hnc60 := NB332_348.out; have hnb61 := NB348_349.out; have hnc61 := NB349_348.out; have hcz62_0 : w56.cell? ⟨gb348, 0, none⟩ = some (.int .u8 0) := (blk_cell BK348.out 0).trans rfl; have hcz62_1 : w56.cell? ⟨gb348, 1, none⟩ = some (.int .i64 0) := (blk_cell BK348.out 1).trans rfl; have hcz62_2 : w56.cell? ⟨gb348, 2, none⟩ = some (.int .i64 0) := (blk_cell BK348.out 2).trans rfl; have hcz62_3 : w56.cell? ⟨gb348, 3, none⟩ = some (.int .i64 0) := (blk_cell BK348.out 3).trans rfl; have hcz62_4 : w56.cell? ⟨gb348, 4, none⟩ = some (.int .i64 0) := (blk_cell BK348.out 4).trans rfl; have hcz62_5 : w56.cell? ⟨gb348, 5, none⟩ = some (.int .i64 0) := (blk_cell BK348.out 5).trans rfl; have hcz62_6 : w56.cell? ⟨gb348, 6, none⟩ = some (.int .i64 0) := (blk_cell BK348.out 6).trans rfl; have hcz62_7 : w56.cell? ⟨gb348, 7, none⟩ = some (.int .i64 0) := (blk_cell BK348.out 7).trans rfl; have hcz62_8 : w56.cell? ⟨gb348, 8, none⟩ = some (.int .i64 0) := (blk_cell BK348.out 8).trans rfl; have hcz62_9 : w56.cell? ⟨gb348, 9, none⟩ = some (.int .i64 0) := (blk_cell BK348.out 9).trans rfl; have hfz62_0 := blk_frozen BK348.out 0; have hfz62_1 := blk_frozen BK348.out 1; have hfz62_2 := blk_frozen BK348.out 2; have hfz62_3 := blk_frozen BK348.out 3; have hfz62_4 := blk_frozen BK348.out 4; have hfz62_5 := blk_frozen BK348.out 5; have hfz62_6 := blk_frozen BK348.out 6; have hfz62_7 := blk_frozen BK348.out 7; have hfz62_8 := blk_frozen BK348.out 8; have hfz62_9 := blk_frozen BK348.out 9; have hnb63 := NB349_284.out; have hnc63 := NB284_349.out; have hnb64 := NB349_300.out; have hnc64 := NB300_349.out; have hnb65 := NB349_316.out; have hnc65 := NB316_349.out; have hnb66 := NB349_332.out; have hnc66 := NB332_349.out; have hcz67_0 : w56.cell? ⟨gb349, 0, none⟩ = some (.int .i64 0) := (blk_cell BK349.out 0).trans rfl; have hcz67_1 : w56.cell? ⟨gb349, 1, none⟩ = some (.slice none 0 0) := (blk_cell BK349.out 1).trans rfl; have hfz67_0 := blk_frozen BK349.out 0; have hfz67_1 := blk_frozen BK349.out 1; obtain ⟨Ao68, co68, eo68, _⟩ := Kd.Q_slice HO346.out; subst eo68))
 have n0_ : Aside0 (Kd.R k35 35 ((((((((((((w56.setCell ⟨gb348, 0, none⟩ (.int .u8 t333)).setCell ⟨gb348, 1, none⟩ (.int .i64 t334)).setCell ⟨gb348, 2, none⟩ (.int .i64 t335)).setCell ⟨gb348, 3, none⟩ (.int .i64 t336)).setCell ⟨gb348, 4, none⟩ (.int .i64 t337)).setCell ⟨gb348, 5, none⟩ (.int .i64 t338)).setCell ⟨gb348, 6, none⟩ (.int .i64 t339)).setCell ⟨gb348, 7, none⟩ (.int .i64 t340)).setCell ⟨gb348, 8, none⟩ (.int .i64 t341)).setCell ⟨gb348, 9, none⟩ (.int .i64 t342)).setCell ⟨gb349, 0, none⟩ (.int .i64 t343)).setCell ⟨gb349, 1, none⟩ (.slice Ao68 t344.length co68)) w.heap.size (fun k_ => some k_ ≠ (.slice Ao30 t296.length co30 : Value).ownBlock ∧ some k_ ≠ (.slice Ao39 t312.length co39 : Value).ownBlock ∧ some k_ ≠ (.slice Ao48 t328.length co48 : Value).ownBlock ∧ some k_ ≠ (.slice Ao68 t344.length co68 : Value).ownBlock ∧ k_ ≠ gb348) (.slice Ao22 t280.length co22) t280) := ⟨by (with_reducible repeat (first | apply Kd.R_alloc | apply Kd.R_drewN | apply Kd.R_drew)); exact Kd.R_mono (Kd.R_far (p := ⟨gb349, 1, none⟩) (Kd.R_far (p := ⟨gb349, 0, none⟩) (Kd.R_far (p := ⟨gb348, 9, none⟩) (Kd.R_far (p := ⟨gb348, 8, none⟩) (Kd.R_far (p := ⟨gb348, 7, none⟩) (Kd.R_far (p := ⟨gb348, 6, none⟩) (Kd.R_far (p := ⟨gb348, 5, none⟩) (Kd.R_far (p := ⟨gb348, 4, none⟩) (Kd.R_far (p := ⟨gb348, 3, none⟩) (Kd.R_far (p := ⟨gb348, 2, none⟩) (Kd.R_far (p := ⟨gb348, 1, none⟩) (Kd.R_far (p := ⟨gb348, 0, none⟩) (Kd.R_types (Kd.R_mono HO282.out (fun k_ hk => (⟨hk, hk.2⟩ : _ ∧ k_ ≠ gb348))) BK349.out (by decide)) (fun _ hk => hk.1.2) (.int .u8 t333)) (fun _ hk => hk.1.2) (.int .i64 t334)) (fun _ hk => hk.1.2) (.int .i64 t335)) (fun _ hk => hk.1.2) (.int .i64 t336)) (fun _ hk => hk.1.2) (.int .i64 t337)) (fun _ hk => hk.1.2) (.int .i64 t338)) (fun _ hk => hk.1.2) (.int .i64 t339)) (fun _ hk => hk.1.2) (.int .i64 t340)) (fun _ hk => hk.1.2) (.int .i64 t341)) (fun _ hk => hk.1.2) (.int .i64 t342)) (fun _ hk => hk.2) (.int .i64 t343)) (fun _ hk => hk.2) (.slice Ao68 t344.length co68)) (fun _ hk => ⟨hk.1.1.1.1.1, ⟨hk.1.1.1.1.2.1, ⟨hk.1.1.1.1.2.2, ⟨hk.1.1.1.2, hk.1.1.2⟩⟩⟩⟩)⟩
 have n1_ : Aside0 (Kd.R k35 35 ((((((((((((w56.setCell ⟨gb348, 0, none⟩ (.int .u8 t333)).setCell ⟨gb348, 1, none⟩ (.int .i64 t334)).setCell ⟨gb348, 2, none⟩ (.int .i64 t335)).setCell ⟨gb348, 3, none⟩ (.int .i64 t336)).setCell ⟨gb348, 4, none⟩ (.int .i64 t337)).setCell ⟨gb348, 5, none⟩ (.int .i64 t338)).setCell ⟨gb348, 6, none⟩ (.int .i64 t339)).setCell ⟨gb348, 7, none⟩ (.int .i64 t340)).setCell ⟨gb348, 8, none⟩ (.int .i64 t341)).setCell ⟨gb348, 9, none⟩ (.int .i64 t342)).setCell ⟨gb349, 0, none⟩ (.int .i64 t343)).setCell ⟨gb349, 1, none⟩ (.slice Ao68 t344.length co68)) w.heap.size (fun k_ => some k_ ≠ (.slice Ao22 t280.length co22 : Value).ownBlock ∧ some k_ ≠ (.slice Ao39 t312.length co39 : Value).ownBlock ∧ some k_ ≠ (.slice Ao48 t328.length co48 : Value).ownBlock ∧ some k_ ≠ (.slice Ao68 t344.length co68 : Value).ownBlock ∧ k_ ≠ gb348) (.slice Ao30 t296.length co30) t296) := ⟨by (with_reducible repeat (first | apply Kd.R_alloc | apply Kd.R_drewN | apply Kd.R_drew)); exact Kd.R_mono (Kd.R_far (p := ⟨gb349, 1, none⟩) (Kd.R_far (p := ⟨gb349, 0, none⟩) (Kd.R_far (p := ⟨gb348, 9, none⟩) (Kd.R_far (p := ⟨gb348, 8, none⟩) (Kd.R_far (p := ⟨gb348, 7, none⟩) (Kd.R_far (p := ⟨gb348, 6, none⟩) (Kd.R_far (p := ⟨gb348, 5, none⟩) (Kd.R_far (p := ⟨gb348, 4, none⟩) (Kd.R_far (p := ⟨gb348, 3, none⟩) (Kd.R_far (p := ⟨gb348, 2, none⟩) (Kd.R_far (p := ⟨gb348, 1, none⟩) (Kd.R_far (p := ⟨gb348, 0, none⟩) (Kd.R_types (Kd.R_mono HO298.out (fun k_ hk => (⟨hk, hk.2⟩ : _ ∧ k_ ≠ gb348))) BK349.out (by decide)) (fun _ hk => hk.1.2) (.int .u8 t333)) (fun _ hk => hk.1.2) (.int .i64 t334)) (fun _ hk => hk.1.2) (.int .i64 t335)) (fun _ hk => hk.1.2) (.int .i64 t336)) (fun _ hk => hk.1.2) (.int .i64 t337)) (fun _ hk => hk.1.2) (.int .i64 t338)) (fun _ hk => hk.1.2) (.int .i64 t339)) (fun _ hk => hk.1.2) (.int .i64 t340)) (fun _ hk => hk.1.2) (.int .i64 t341)) (fun _ hk => hk.1.2) (.int .i64 t342)) (fun _ hk => hk.2) (.int .i64 t343)) (fun _ hk => hk.2) (.slice Ao68 t344.length co68)) (fun _ hk => ⟨hk.1.1.1.1.1, ⟨hk.1.1.1.1.2.1, ⟨hk.1.1.1.1.2.2, ⟨hk.1.1.1.2, hk.1.1.2⟩⟩⟩⟩)⟩
 have n2_ : Aside0 (Kd.R k35 35 ((((((((((((w56.setCell ⟨gb348, 0, none⟩ (.int .u8 t333)).setCell ⟨gb348, 1, none⟩ (.int .i64 t334)).setCell ⟨gb348, 2, none⟩ (.int .i64 t335)).setCell ⟨gb348, 3, none⟩ (.int .i64 t336)).setCell ⟨gb348, 4, none⟩ (.int .i64 t337)).setCell ⟨gb348, 5, none⟩ (.int .i64 t338)).setCell ⟨gb348, 6, none⟩ (.int .i64 t339)).setCell ⟨gb348, 7, none⟩ (.int .i64 t340)).setCell ⟨gb348, 8, none⟩ (.int .i64 t341)).setCell ⟨gb348, 9, none⟩ (.int .i64 t342)).setCell ⟨gb349, 0, none⟩ (.int .i64 t343)).setCell ⟨gb349, 1, none⟩ (.slice Ao68 t344.length co68)) w.heap.size (fun k_ => some k_ ≠ (.slice Ao22 t280.length co22 : Value).ownBlock ∧ some k_ ≠ (.slice Ao30 t296.length co30 : Value).ownBlock ∧ some k_ ≠ (.slice Ao48 t328.length co48 : Value).ownBlock ∧ some k_ ≠ (.slice Ao68 t344.length co68 : Value).ownBlock ∧ k_ ≠ gb348) (.slice Ao39 t312.length co39) t312) := ⟨by (with_reducible repeat (first | apply Kd.R_alloc | apply Kd.R_drewN | apply Kd.R_drew)); exact Kd.R_mono (Kd.R_far (p := ⟨gb349, 1, none⟩) (Kd.R_far (p := ⟨gb349, 0, none⟩) (Kd.R_far (p := ⟨gb348, 9, none⟩) (Kd.R_far (p := ⟨gb348, 8, none⟩) (Kd.R_far (p := ⟨gb348, 7, none⟩) (Kd.R_far (p := ⟨gb348, 6, none⟩) (Kd.R_far (p := ⟨gb348, 5, none⟩) (Kd.R_far (p := ⟨gb348, 4, none⟩) (Kd.R_far (p := ⟨gb348, 3, none⟩) (Kd.R_far (p := ⟨gb348, 2, none⟩) (Kd.R_far (p := ⟨gb348, 1, none⟩) (Kd.R_far (p := ⟨gb348, 0, none⟩) (Kd.R_types (Kd.R_mono HO314.out (fun k_ hk => (⟨hk, hk.2⟩ : _ ∧ k_ ≠ gb348))) BK349.out (by decide)) (fun _ hk => hk.1.2) (.int .u8 t333)) (fun _ hk => hk.1.2) (.int .i64 t334)) (fun _ hk => hk.1.2) (.int .i64 t335)) (fun _ hk => hk.1.2) (.int .i64 t336)) (fun _ hk => hk.1.2) (.int .i64 t337)) (fun _ hk => hk.1.2) (.int .i64 t338)) (fun _ hk => hk.1.2) (.int .i64 t339)) (fun _ hk => hk.1.2) (.int .i64 t340)) (fun _ hk => hk.1.2) (.int .i64 t341)) (fun _ hk => hk.1.2) (.int .i64 t342)) (fun _ hk => hk.2) (.int .i64 t343)) (fun _ hk => hk.2) (.slice Ao68 t344.length co68)) (fun _ hk => ⟨hk.1.1.1.1.1, ⟨hk.1.1.1.1.2.1, ⟨hk.1.1.1.1.2.2, ⟨hk.1.1.1.2, hk.1.1.2⟩⟩⟩⟩)⟩
 have n3_ : Aside0 (Kd.R k35 35 ((((((((((((w56.setCell ⟨gb348, 0, none⟩ (.int .u8 t333)).setCell ⟨gb348, 1, none⟩ (.int .i64 t334)).setCell ⟨gb348, 2, none⟩ (.int .i64 t335)).setCell ⟨gb348, 3, none⟩ (.int .i64 t336)).setCell ⟨gb348, 4, none⟩ (.int .i64 t337)).setCell ⟨gb348, 5, none⟩ (.int .i64 t338)).setCell ⟨gb348, 6, none⟩ (.int .i64 t339)).setCell ⟨gb348, 7, none⟩ (.int .i64 t340)).setCell ⟨gb348, 8, none⟩ (.int .i64 t341)).setCell ⟨gb348, 9, none⟩ (.int .i64 t342)).setCell ⟨gb349, 0, none⟩ (.int .i64 t343)).setCell ⟨gb349, 1, none⟩ (.slice Ao68 t344.length co68)) w.heap.size (fun k_ => some k_ ≠ (.slice Ao22 t280.length co22 : Value).ownBlock ∧ some k_ ≠ (.slice Ao30 t296.length co30 : Value).ownBlock ∧ some k_ ≠ (.slice Ao39 t312.length co39 : Value).ownBlock ∧ some k_ ≠ (.slice Ao68 t344.length co68 : Value).ownBlock ∧ k_ ≠ gb348) (.slice Ao48 t328.length co48) t328) := ⟨by (with_reducible repeat (first | apply Kd.R_alloc | apply Kd.R_drewN | apply Kd.R_drew)); exact Kd.R_mono (Kd.R_far (p := ⟨gb349, 1, none⟩) (Kd.R_far (p := ⟨gb349, 0, none⟩) (Kd.R_far (p := ⟨gb348, 9, none⟩) (Kd.R_far (p := ⟨gb348, 8, none⟩) (Kd.R_far (p := ⟨gb348, 7, none⟩) (Kd.R_far (p := ⟨gb348, 6, none⟩) (Kd.R_far (p := ⟨gb348, 5, none⟩) (Kd.R_far (p := ⟨gb348, 4, none⟩) (Kd.R_far (p := ⟨gb348, 3, none⟩) (Kd.R_far (p := ⟨gb348, 2, none⟩) (Kd.R_far (p := ⟨gb348, 1, none⟩) (Kd.R_far (p := ⟨gb348, 0, none⟩) (Kd.R_types (Kd.R_mono HO330.out (fun k_ hk => (⟨hk, hk.2⟩ : _ ∧ k_ ≠ gb348))) BK349.out (by decide)) (fun _ hk => hk.1.2) (.int .u8 t333)) (fun _ hk => hk.1.2) (.int .i64 t334)) (fun _ hk => hk.1.2) (.int .i64 t335)) (fun _ hk => hk.1.2) (.int .i64 t336)) (fun _ hk => hk.1.2) (.int .i64 t337)) (fun _ hk => hk.1.2) (.int .i64 t338)) (fun _ hk => hk.1.2) (.int .i64 t339)) (fun _ hk => hk.1.2) (.int .i64 t340)) (fun _ hk => hk.1.2) (.int .i64 t341)) (fun _ hk => hk.1.2) (.int .i64 t342)) (fun _ hk => hk.2) (.int .i64 t343)) (fun _ hk => hk.2) (.slice Ao68 t344.length co68)) (fun _ hk => ⟨hk.1.1.1.1.1, ⟨hk.1.1.1.1.2.1, ⟨hk.1.1.1.1.2.2, ⟨hk.1.1.1.2, hk.1.1.2⟩⟩⟩⟩)⟩
 have n4_ : Aside0 (Kd.Q k35 35 ((((((((((((w56.setCell ⟨gb348, 0, none⟩ (.int .u8 t333)).setCell ⟨gb348, 1, none⟩ (.int .i64 t334)).setCell ⟨gb348, 2, none⟩ (.int .i64 t335)).setCell ⟨gb348, 3, none⟩ (.int .i64 t336)).setCell ⟨gb348, 4, none⟩ (.int .i64 t337)).setCell ⟨gb348, 5, none⟩ (.int .i64 t338)).setCell ⟨gb348, 6, none⟩ (.int .i64 t339)).setCell ⟨gb348, 7, none⟩ (.int .i64 t340)).setCell ⟨gb348, 8, none⟩ (.int .i64 t341)).setCell ⟨gb348, 9, none⟩ (.int .i64 t342)).setCell ⟨gb349, 0, none⟩ (.int .i64 t343)).setCell ⟨gb349, 1, none⟩ (.slice Ao68 t344.length co68)) w.heap.size (fun k_ => some k_ ≠ (.slice Ao22 t280.length co22 : Value).ownBlock ∧ some k_ ≠ (.slice Ao30 t296.length co30 : Value).ownBlock ∧ some k_ ≠ (.slice Ao39 t312.length co39 : Value).ownBlock ∧ some k_ ≠ (.slice Ao48 t328.length co48 : Value).ownBlock ∧ k_ ≠ gb348) (.slice Ao68 t344.length co68) t344) := ⟨by (with_reducible repeat (first | apply Kd.Q_alloc | apply Kd.Q_drewN | apply Kd.Q_drew)); exact Kd.Q_mono (Kd.Q_far (p := ⟨gb349, 1, none⟩) (Kd.Q_far (p := ⟨gb349, 0, none⟩) (Kd.Q_far (p := ⟨gb348, 9, none⟩) (Kd.Q_far (p := ⟨gb348, 8, none⟩) (Kd.Q_far (p := ⟨gb348, 7, none⟩) (Kd.Q_far (p := ⟨gb348, 6, none⟩) (Kd.Q_far (p := ⟨gb348, 5, none⟩) (Kd.Q_far (p := ⟨gb348, 4, none⟩) (Kd.Q_far (p := ⟨gb348, 3, none⟩) (Kd.Q_far (p := ⟨gb348, 2, none⟩) (Kd.Q_far (p := ⟨gb348, 1, none⟩) (Kd.Q_far (p := ⟨gb348, 0, none⟩) (Kd.Q_types (Kd.Q_mono HO346.out (fun k_ hk => (⟨hk, hk.2⟩ : _ ∧ k_ ≠ gb348))) BK349.out (by decide)) (fun _ hk => hk.1.2) (.int .u8 t333)) (fun _ hk => hk.1.2) (.int .i64 t334)) (fun _ hk => hk.1.2) (.int .i64 t335)) (fun _ hk => hk.1.2) (.int .i64 t336)) (fun _ hk => hk.1.2) (.int .i64 t337)) (fun _ hk => hk.1.2) (.int .i64 t338)) (fun _ hk => hk.1.2) (.int .i64 t339)) (fun _ hk => hk.1.2) (.int .i64 t340)) (fun _ hk => hk.1.2) (.int .i64 t341)) (fun _ hk => hk.1.2) (.int .i64 t342)) (fun _ hk => hk.2) (.int .i64 t343)) (fun _ hk => hk.2) (.slice Ao68 t344.length co68)) (fun _ hk => ⟨hk.1.1.1.1.1.1.2, ⟨hk.1.1.1.1.1.2, ⟨hk.1.1.1.1.2, ⟨hk.1.1.1.2, hk.1.1.2⟩⟩⟩⟩)⟩
 have n5_ : Aside0 (((((((((((((w56.setCell ⟨gb348, 0, none⟩ (.int .u8 t333)).setCell ⟨gb348, 1, none⟩ (.int .i64 t334)).setCell ⟨gb348, 2, none⟩ (.int .i64 t335)).setCell ⟨gb348, 3, none⟩ (.int .i64 t336)).setCell ⟨gb348, 4, none⟩ (.int .i64 t337)).setCell ⟨gb348, 5, none⟩ (.int .i64 t338)).setCell ⟨gb348, 6, none⟩ (.int .i64 t339)).setCell ⟨gb348, 7, none⟩ (.int .i64 t340)).setCell ⟨gb348, 8, none⟩ (.int .i64 t341)).setCell ⟨gb348, 9, none⟩ (.int .i64 t342)).setCell ⟨gb349, 0, none⟩ (.int .i64 t343)).setCell ⟨gb349, 1, none⟩ (.slice Ao68 t344.length co68)).heap[gb284]? = some (.cells #[.int .i64 t279, .slice Ao22 t280.length co22] 24 (0, 0))) := ⟨by (with_reducible repeat (first | refine blk_drewN ?_ _ | refine blk_drew ?_ | refine blk_alloc ?_ _)); refine blk_far ?_ NB284_349.out _; (with_reducible repeat (first | refine blk_drewN ?_ _ | refine blk_drew ?_ | refine blk_alloc ?_ _)); refine blk_far ?_ NB284_349.out _; (with_reducible repeat (first | refine blk_drewN ?_ _ | refine blk_drew ?_ | refine blk_alloc ?_ _)); refine blk_far ?_ NB284_348.out _; (with_reducible repeat (first | refine blk_drewN ?_ _ | refine blk_drew ?_ | refine blk_alloc ?_ _)); refine blk_far ?_ NB284_348.out _; (with_reducible repeat (first | refine blk_drewN ?_ _ | refine blk_drew ?_ | refine blk_alloc ?_ _)); refine blk_far ?_ NB284_348.out _; (with_reducible repeat (first | refine blk_drewN ?_ _ | refine blk_drew ?_ | refine blk_alloc ?_ _)); refine blk_far ?_ NB284_348.out _; (with_reducible repeat (first | refine blk_drewN ?_ _ | refine blk_drew ?_ | refine blk_alloc ?_ _)); refine blk_far ?_ NB284_348.out _; (with_reducible repeat (first | refine blk_drewN ?_ _ | refine blk_drew ?_ | refine blk_alloc ?_ _)); refine blk_far ?_ NB284_348.out _; (with_reducible repeat (first | refine blk_drewN ?_ _ | refine blk_drew ?_ | refine blk_alloc ?_ _)); refine blk_far ?_ NB284_348.out _; (with_reducible repeat (first | refine blk_drewN ?_ _ | refine blk_drew ?_ | refine blk_alloc ?_ _)); refine blk_far ?_ NB284_348.out _; (with_reducible repeat (first | refine blk_drewN ?_ _ | refine blk_drew ?_ | refine blk_alloc ?_ _)); refine blk_far ?_ NB284_348.out _; (with_reducible repeat (first | refine blk_drewN ?_ _ | refine blk_drew ?_ | refine blk_alloc ?_ _)); refine blk_far ?_ NB284_348.out _; (with_reducible repeat (first | refine blk_drewN ?_ _ | refine blk_drew ?_ | refine blk_alloc ?_ _)); exact BK284.out⟩
 have n6_ : Aside0 (((((((((((((w56.setCell ⟨gb348, 0, none⟩ (.int .u8 t333)).setCell ⟨gb348, 1, none⟩ (.int .i64 t334)).setCell ⟨gb348, 2, none⟩ (.int .i64 t335)).setCell ⟨gb348, 3, none⟩ (.int .i64 t336)).setCell ⟨gb348, 4, none⟩ (.int .i64 t337)).setCell ⟨gb348, 5, none⟩ (.int .i64 t338)).setCell ⟨gb348, 6, none⟩ (.int .i64 t339)).setCell ⟨gb348, 7, none⟩ (.int .i64 t340)).setCell ⟨gb348, 8, none⟩ (.int .i64 t341)).setCell ⟨gb348, 9, none⟩ (.int .i64 t342)).setCell ⟨gb349, 0, none⟩ (.int .i64 t343)).setCell ⟨gb349, 1, none⟩ (.slice Ao68 t344.length co68)).heap[gb300]? = some (.cells #[.int .i64 t295, .slice Ao30 t296.length co30] 24 (0, 0))) := ⟨by (with_reducible repeat (first | refine blk_drewN ?_ _ | refine blk_drew ?_ | refine blk_alloc ?_ _)); refine blk_far ?_ NB300_349.out _; (with_reducible repeat (first | refine blk_drewN ?_ _ | refine blk_drew ?_ | refine blk_alloc ?_ _)); refine blk_far ?_ NB300_349.out _; (with_reducible repeat (first | refine blk_drewN ?_ _ | refine blk_drew ?_ | refine blk_alloc ?_ _)); refine blk_far ?_ NB300_348.out _; (with_reducible repeat (first | refine blk_drewN ?_ _ | refine blk_drew ?_ | refine blk_alloc ?_ _)); refine blk_far ?_ NB300_348.out _; (with_reducible repeat (first | refine blk_drewN ?_ _ | refine blk_drew ?_ | refine blk_alloc ?_ _)); refine blk_far ?_ NB300_348.out _; (with_reducible repeat (first | refine blk_drewN ?_ _ | refine blk_drew ?_ | refine blk_alloc ?_ _)); refine blk_far ?_ NB300_348.out _; (with_reducible repeat (first | refine blk_drewN ?_ _ | refine blk_drew ?_ | refine blk_alloc ?_ _)); refine blk_far ?_ NB300_348.out _; (with_reducible repeat (first | refine blk_drewN ?_ _ | refine blk_drew ?_ | refine blk_alloc ?_ _)); refine blk_far ?_ NB300_348.out _; (with_reducible repeat (first | refine blk_drewN ?_ _ | refine blk_drew ?_ | refine blk_alloc ?_ _)); refine blk_far ?_ NB300_348.out _; (with_reducible repeat (first | refine blk_drewN ?_ _ | refine blk_drew ?_ | refine blk_alloc ?_ _)); refine blk_far ?_ NB300_348.out _; (with_reducible repeat (first | refine blk_drewN ?_ _ | refine blk_drew ?_ | refine blk_alloc ?_ _)); refine blk_far ?_ NB300_348.out _; (with_reducible repeat (first | refine blk_drewN ?_ _ | refine blk_drew ?_ | refine blk_alloc ?_ _)); refine blk_far ?_ NB300_348.out _; (with_reducible repeat (first | refine blk_drewN ?_ _ | refine blk_drew ?_ | refine blk_alloc ?_ _)); exact BK300.out⟩
 have n7_ : Aside0 (((((((((((((w56.setCell ⟨gb348, 0, none⟩ (.int .u8 t333)).setCell ⟨gb348, 1, none⟩ (.int .i64 t334)).setCell ⟨gb348, 2, none⟩ (.int .i64 t335)).setCell ⟨gb348, 3, none⟩ (.int .i64 t336)).setCell ⟨gb348, 4, none⟩ (.int .i64 t337)).setCell ⟨gb348, 5, none⟩ (.int .i64 t338)).setCell ⟨gb348, 6, none⟩ (.int .i64 t339)).setCell ⟨gb348, 7, none⟩ (.int .i64 t340)).setCell ⟨gb348, 8, none⟩ (.int .i64 t341)).setCell ⟨gb348, 9, none⟩ (.int .i64 t342)).setCell ⟨gb349, 0, none⟩ (.int .i64 t343)).setCell ⟨gb349, 1, none⟩ (.slice Ao68 t344.length co68)).heap[gb316]? = some (.cells #[.int .i64 t311, .slice Ao39 t312.length co39] 24 (0, 0))) := ⟨by (with_reducible repeat (first | refine blk_drewN ?_ _ | refine blk_drew ?_ | refine blk_alloc ?_ _)); refine blk_far ?_ NB316_349.out _; (with_reducible repeat (first | refine blk_drewN ?_ _ | refine blk_drew ?_ | refine blk_alloc ?_ _)); refine blk_far ?_ NB316_349.out _; (with_reducible repeat (first | refine blk_drewN ?_ _ | refine blk_drew ?_ | refine blk_alloc ?_ _)); refine blk_far ?_ NB316_348.out _; (with_reducible repeat (first | refine blk_drewN ?_ _ | refine blk_drew ?_ | refine blk_alloc ?_ _)); refine blk_far ?_ NB316_348.out _; (with_reducible repeat (first | refine blk_drewN ?_ _ | refine blk_drew ?_ | refine blk_alloc ?_ _)); refine blk_far ?_ NB316_348.out _; (with_reducible repeat (first | refine blk_drewN ?_ _ | refine blk_drew ?_ | refine blk_alloc ?_ _)); refine blk_far ?_ NB316_348.out _; (with_reducible repeat (first | refine blk_drewN ?_ _ | refine blk_drew ?_ | refine blk_alloc ?_ _)); refine blk_far ?_ NB316_348.out _; (with_reducible repeat (first | refine blk_drewN ?_ _ | refine blk_drew ?_ | refine blk_alloc ?_ _)); refine blk_far ?_ NB316_348.out _; (with_reducible repeat (first | refine blk_drewN ?_ _ | refine blk_drew ?_ | refine blk_alloc ?_ _)); refine blk_far ?_ NB316_348.out _; (with_reducible repeat (first | refine blk_drewN ?_ _ | refine blk_drew ?_ | refine blk_alloc ?_ _)); refine blk_far ?_ NB316_348.out _; (with_reducible repeat (first | refine blk_drewN ?_ _ | refine blk_drew ?_ | refine blk_alloc ?_ _)); refine blk_far ?_ NB316_348.out _; (with_reducible repeat (first | refine blk_drewN ?_ _ | refine blk_drew ?_ | refine blk_alloc ?_ _)); refine blk_far ?_ NB316_348.out _; (with_reducible repeat (first | refine blk_drewN ?_ _ | refine blk_drew ?_ | refine blk_alloc ?_ _)); exact BK316.out⟩
 have n8_ : Aside0 (((((((((((((w56.setCell ⟨gb348, 0, none⟩ (.int .u8 t333)).setCell ⟨gb348, 1, none⟩ (.int .i64 t334)).setCell ⟨gb348, 2, none⟩ (.int .i64 t335)).setCell ⟨gb348, 3, none⟩ (.int .i64 t336)).setCell ⟨gb348, 4, none⟩ (.int .i64 t337)).setCell ⟨gb348, 5, none⟩ (.int .i64 t338)).setCell ⟨gb348, 6, none⟩ (.int .i64 t339)).setCell ⟨gb348, 7, none⟩ (.int .i64 t340)).setCell ⟨gb348, 8, none⟩ (.int .i64 t341)).setCell ⟨gb348, 9, none⟩ (.int .i64 t342)).setCell ⟨gb349, 0, none⟩ (.int .i64 t343)).setCell ⟨gb349, 1, none⟩ (.slice Ao68 t344.length co68)).heap[gb332]? = some (.cells #[.int .i64 t327, .slice Ao48 t328.length co48] 24 (0, 0))) := ⟨by (with_reducible repeat (first | refine blk_drewN ?_ _ | refine blk_drew ?_ | refine blk_alloc ?_ _)); refine blk_far ?_ NB332_349.out _; (with_reducible repeat (first | refine blk_drewN ?_ _ | refine blk_drew ?_ | refine blk_alloc ?_ _)); refine blk_far ?_ NB332_349.out _; (with_reducible repeat (first | refine blk_drewN ?_ _ | refine blk_drew ?_ | refine blk_alloc ?_ _)); refine blk_far ?_ NB332_348.out _; (with_reducible repeat (first | refine blk_drewN ?_ _ | refine blk_drew ?_ | refine blk_alloc ?_ _)); refine blk_far ?_ NB332_348.out _; (with_reducible repeat (first | refine blk_drewN ?_ _ | refine blk_drew ?_ | refine blk_alloc ?_ _)); refine blk_far ?_ NB332_348.out _; (with_reducible repeat (first | refine blk_drewN ?_ _ | refine blk_drew ?_ | refine blk_alloc ?_ _)); refine blk_far ?_ NB332_348.out _; (with_reducible repeat (first | refine blk_drewN ?_ _ | refine blk_drew ?_ | refine blk_alloc ?_ _)); refine blk_far ?_ NB332_348.out _; (with_reducible repeat (first | refine blk_drewN ?_ _ | refine blk_drew ?_ | refine blk_alloc ?_ _)); refine blk_far ?_ NB332_348.out _; (with_reducible repeat (first | refine blk_drewN ?_ _ | refine blk_drew ?_ | refine blk_alloc ?_ _)); refine blk_far ?_ NB332_348.out _; (with_reducible repeat (first | refine blk_drewN ?_ _ | refine blk_drew ?_ | refine blk_alloc ?_ _)); refine blk_far ?_ NB332_348.out _; (with_reducible repeat (first | refine blk_drewN ?_ _ | refine blk_drew ?_ | refine blk_alloc ?_ _)); refine blk_far ?_ NB332_348.out _; (with_reducible repeat (first | refine blk_drewN ?_ _ | refine blk_drew ?_ | refine blk_alloc ?_ _)); refine blk_far ?_ NB332_348.out _; (with_reducible repeat (first | refine blk_drewN ?_ _ | refine blk_drew ?_ | refine blk_alloc ?_ _)); exact BK332.out⟩
 have n9_ : Aside0 (((((((((((((w56.setCell ⟨gb348, 0, none⟩ (.int .u8 t333)).setCell ⟨gb348, 1, none⟩ (.int .i64 t334)).setCell ⟨gb348, 2, none⟩ (.int .i64 t335)).setCell ⟨gb348, 3, none⟩ (.int .i64 t336)).setCell ⟨gb348, 4, none⟩ (.int .i64 t337)).setCell ⟨gb348, 5, none⟩ (.int .i64 t338)).setCell ⟨gb348, 6, none⟩ (.int .i64 t339)).setCell ⟨gb348, 7, none⟩ (.int .i64 t340)).setCell ⟨gb348, 8, none⟩ (.int .i64 t341)).setCell ⟨gb348, 9, none⟩ (.int .i64 t342)).setCell ⟨gb349, 0, none⟩ (.int .i64 t343)).setCell ⟨gb349, 1, none⟩ (.slice Ao68 t344.length co68)).heap[gb348]? = some (.cells #[.int .u8 t333, .int .i64 t334, .int .i64 t335, .int .i64 t336, .int .i64 t337, .int .i64 t338, .int .i64 t339, .int .i64 t340, .int .i64 t341, .int .i64 t342] 35 (0, 0))) := ⟨by (with_reducible repeat (first | refine blk_drewN ?_ _ | refine blk_drew ?_ | refine blk_alloc ?_ _)); refine blk_far ?_ NB348_349.out _; (with_reducible repeat (first | refine blk_drewN ?_ _ | refine blk_drew ?_ | refine blk_alloc ?_ _)); refine blk_far ?_ NB348_349.out _; (with_reducible repeat (first | refine blk_drewN ?_ _ | refine blk_drew ?_ | refine blk_alloc ?_ _)); refine blk_put (cs := #[.int .u8 t333, .int .i64 t334, .int .i64 t335, .int .i64 t336, .int .i64 t337, .int .i64 t338, .int .i64 t339, .int .i64 t340, .int .i64 t341, .int .i64 0]) ?_ 9 _ rfl; (with_reducible repeat (first | refine blk_drewN ?_ _ | refine blk_drew ?_ | refine blk_alloc ?_ _)); refine blk_put (cs := #[.int .u8 t333, .int .i64 t334, .int .i64 t335, .int .i64 t336, .int .i64 t337, .int .i64 t338, .int .i64 t339, .int .i64 t340, .int .i64 0, .int .i64 0]) ?_ 8 _ rfl; (with_reducible repeat (first | refine blk_drewN ?_ _ | refine blk_drew ?_ | refine blk_alloc ?_ _)); refine blk_put (cs := #[.int .u8 t333, .int .i64 t334, .int .i64 t335, .int .i64 t336, .int .i64 t337, .int .i64 t338, .int .i64 t339, .int .i64 0, .int .i64 0, .int .i64 0]) ?_ 7 _ rfl; (with_reducible repeat (first | refine blk_drewN ?_ _ | refine blk_drew ?_ | refine blk_alloc ?_ _)); refine blk_put (cs := #[.int .u8 t333, .int .i64 t334, .int .i64 t335, .int .i64 t336, .int .i64 t337, .int .i64 t338, .int .i64 0, .int .i64 0, .int .i64 0, .int .i64 0]) ?_ 6 _ rfl; (with_reducible repeat (first | refine blk_drewN ?_ _ | refine blk_drew ?_ | refine blk_alloc ?_ _)); refine blk_put (cs := #[.int .u8 t333, .int .i64 t334, .int .i64 t335, .int .i64 t336, .int .i64 t337, .int .i64 0, .int .i64 0, .int .i64 0, .int .i64 0, .int .i64 0]) ?_ 5 _ rfl; (with_reducible repeat (first | refine blk_drewN ?_ _ | refine blk_drew ?_ | refine blk_alloc ?_ _)); refine blk_put (cs := #[.int .u8 t333, .int .i64 t334, .int .i64 t335, .int .i64 t336, .int .i64 0, .int .i64 0, .int .i64 0, .int .i64 0, .int .i64 0, .int .i64 0]) ?_ 4 _ rfl; (with_reducible repeat (first | refine blk_drewN ?_ _ | refine blk_drew ?_ | refine blk_alloc ?_ _)); refine blk_put (cs := #[.int .u8 t333, .int .i64 t334, .int .i64 t335, .int .i64 0, .int .i64 0, .int .i64 0, .int .i64 0, .int .i64 0, .int .i64 0, .int .i64 0]) ?_ 3 _ rfl; (with_reducible repeat (first | refine blk_drewN ?_ _ | refine blk_drew ?_ | refine blk_alloc ?_ _)); refine blk_put (cs := #[.int .u8 t333, .int .i64 t334, .int .i64 0, .int .i64 0, .int .i64 0, .int .i64 0, .int .i64 0, .int .i64 0, .int .i64 0, .int .i64 0]) ?_ 2 _ rfl; (with_reducible repeat (first | refine blk_drewN ?_ _ | refine blk_drew ?_ | refine blk_alloc ?_ _)); refine blk_put (cs := #[.int .u8 t333, .int .i64 0, .int .i64 0, .int .i64 0, .int .i64 0, .int .i64 0, .int .i64 0, .int .i64 0, .int .i64 0, .int .i64 0]) ?_ 1 _ rfl; (with_reducible repeat (first | refine blk_drewN ?_ _ | refine blk_drew ?_ | refine blk_alloc ?_ _)); refine blk_put (cs := #[.int .u8 0, .int .i64 0, .int .i64 0, .int .i64 0, .int .i64 0, .int .i64 0, .int .i64 0, .int .i64 0, .int .i64 0, .int .i64 0]) ?_ 0 _ rfl; (with_reducible repeat (first | refine blk_drewN ?_ _ | refine blk_drew ?_ | refine blk_alloc ?_ _)); exact BK348.out⟩
 have n10_ : Aside0 (((((((((((((w56.setCell ⟨gb348, 0, none⟩ (.int .u8 t333)).setCell ⟨gb348, 1, none⟩ (.int .i64 t334)).setCell ⟨gb348, 2, none⟩ (.int .i64 t335)).setCell ⟨gb348, 3, none⟩ (.int .i64 t336)).setCell ⟨gb348, 4, none⟩ (.int .i64 t337)).setCell ⟨gb348, 5, none⟩ (.int .i64 t338)).setCell ⟨gb348, 6, none⟩ (.int .i64 t339)).setCell ⟨gb348, 7, none⟩ (.int .i64 t340)).setCell ⟨gb348, 8, none⟩ (.int .i64 t341)).setCell ⟨gb348, 9, none⟩ (.int .i64 t342)).setCell ⟨gb349, 0, none⟩ (.int .i64 t343)).setCell ⟨gb349, 1, none⟩ (.slice Ao68 t344.length co68)).heap[gb349]? = some (.cells #[.int .i64 t343, .slice Ao68 t344.length co68] 24 (0, 0))) := ⟨by (with_reducible repeat (first | refine blk_drewN ?_ _ | refine blk_drew ?_ | refine blk_alloc ?_ _)); refine blk_put (cs := #[.int .i64 t343, .slice none 0 0]) ?_ 1 _ rfl; (with_reducible repeat (first | refine blk_drewN ?_ _ | refine blk_drew ?_ | refine blk_alloc ?_ _)); refine blk_put (cs := #[.int .i64 0, .slice none 0 0]) ?_ 0 _ rfl; (with_reducible repeat (first | refine blk_drewN ?_ _ | refine blk_drew ?_ | refine blk_alloc ?_ _)); refine blk_far ?_ NB349_348.out _; (with_reducible repeat (first | refine blk_drewN ?_ _ | refine blk_drew ?_ | refine blk_alloc ?_ _)); refine blk_far ?_ NB349_348.out _; (with_reducible repeat (first | refine blk_drewN ?_ _ | refine blk_drew ?_ | refine blk_alloc ?_ _)); refine blk_far ?_ NB349_348.out _; (with_reducible repeat (first | refine blk_drewN ?_ _ | refine blk_drew ?_ | refine blk_alloc ?_ _)); refine blk_far ?_ NB349_348.out _; (with_reducible repeat (first | refine blk_drewN ?_ _ | refine blk_drew ?_ | refine blk_alloc ?_ _)); refine blk_far ?_ NB349_348.out _; (with_reducible repeat (first | refine blk_drewN ?_ _ | refine blk_drew ?_ | refine blk_alloc ?_ _)); refine blk_far ?_ NB349_348.out _; (with_reducible repeat (first | refine blk_drewN ?_ _ | refine blk_drew ?_ | refine blk_alloc ?_ _)); refine blk_far ?_ NB349_348.out _; (with_reducible repeat (first | refine blk_drewN ?_ _ | refine blk_drew ?_ | refine blk_alloc ?_ _)); refine blk_far ?_ NB349_348.out _; (with_reducible repeat (first | refine blk_drewN ?_ _ | refine blk_drew ?_ | refine blk_alloc ?_ _)); refine blk_far ?_ NB349_348.out _; (with_reducible repeat (first | refine blk_drewN ?_ _ | refine blk_drew ?_ | refine blk_alloc ?_ _)); refine blk_far ?_ NB349_348.out _; (with_reducible repeat (first | refine blk_drewN ?_ _ | refine blk_drew ?_ | refine blk_alloc ?_ _)); exact BK349.out⟩
 have n11_ : Aside0 (Below w.heap.size w ((((((((((((w56.setCell ⟨gb348, 0, none⟩ (.int .u8 t333)).setCell ⟨gb348, 1, none⟩ (.int .i64 t334)).setCell ⟨gb348, 2, none⟩ (.int .i64 t335)).setCell ⟨gb348, 3, none⟩ (.int .i64 t336)).setCell ⟨gb348, 4, none⟩ (.int .i64 t337)).setCell ⟨gb348, 5, none⟩ (.int .i64 t338)).setCell ⟨gb348, 6, none⟩ (.int .i64 t339)).setCell ⟨gb348, 7, none⟩ (.int .i64 t340)).setCell ⟨gb348, 8, none⟩ (.int .i64 t341)).setCell ⟨gb348, 9, none⟩ (.int .i64 t342)).setCell ⟨gb349, 0, none⟩ (.int .i64 t343)).setCell ⟨gb349, 1, none⟩ (.slice Ao68 t344.length co68))) := ⟨by repeat (first | (with_reducible first | exact HB.out | apply below_alloc | apply pw_below_drewN | apply below_drew1 | refine below_set ?_ GE284.out | refine below_set ?_ GE300.out | refine below_set ?_ GE316.out | refine below_set ?_ GE332.out | refine below_set ?_ GE348.out | refine below_set ?_ GE349.out) | exact HB.out)⟩
 (try clear HO282)
 (try clear HO298)
 (try clear HO314)
 (try clear HO330)
 (try clear HO346)
 (try clear BK284)
 (try clear BK300)
 (try clear BK316)
 (try clear BK332)
 (try clear BK348)
 (try clear BK349)
 (try clear HB)
 generalize ((((((((((((w56.setCell ⟨gb348, 0, none⟩ (.int .u8 t333)).setCell ⟨gb348, 1, none⟩ (.int .i64 t334)).setCell ⟨gb348, 2, none⟩ (.int .i64 t335)).setCell ⟨gb348, 3, none⟩ (.int .i64 t336)).setCell ⟨gb348, 4, none⟩ (.int .i64 t337)).setCell ⟨gb348, 5, none⟩ (.int .i64 t338)).setCell ⟨gb348, 6, none⟩ (.int .i64 t339)).setCell ⟨gb348, 7, none⟩ (.int .i64 t340)).setCell ⟨gb348, 8, none⟩ (.int .i64 t341)).setCell ⟨gb348, 9, none⟩ (.int .i64 t342)).setCell ⟨gb349, 0, none⟩ (.int .i64 t343)).setCell ⟨gb349, 1, none⟩ (.slice Ao68 t344.length co68)) = w69 at n0_ n1_ n2_ n3_ n4_ n5_ n6_ n7_ n8_ n9_ n10_ n11_ ⊢
 have HO282 := n0_
 have HO298 := n1_
 have HO314 := n2_
 have HO330 := n3_
 have HO346 := n4_
 have BK284 := n5_
 have BK300 := n6_
 have BK316 := n7_
 have BK332 := n8_
 have BK348 := n9_
 have BK349 := n10_
 have HB := n11_
 clear n0_ n1_ n2_ n3_ n4_ n5_ n6_ n7_ n8_ n9_ n10_ n11_
 have n0_ := Aside0.mk (Kd.R_drew HO282.out)
 have n1_ := Aside0.mk (Kd.R_drew HO298.out)
 have n2_ := Aside0.mk (Kd.R_drew HO314.out)
 have n3_ := Aside0.mk (Kd.R_drew HO330.out)
 have n4_ := Aside0.mk (Kd.Q_drew HO346.out)
 have n5_ := Aside0.mk (blk_drew BK284.out)
 have n6_ := Aside0.mk (blk_drew BK300.out)
 have n7_ := Aside0.mk (blk_drew BK316.out)
 have n8_ := Aside0.mk (blk_drew BK332.out)
 have n9_ := Aside0.mk (blk_drew BK348.out)
 have n10_ := Aside0.mk (blk_drew BK349.out)
 have n11_ := Aside0.mk (below_drew1 HB.out)
 clear HO282
 clear HO298
 clear HO314
 clear HO330
 clear HO346
 clear BK284
 clear BK300
 clear BK316
 clear BK332
 clear BK348
 clear BK349
 clear HB
 have HO282 := n0_
 have HO298 := n1_
 have HO314 := n2_
 have HO330 := n3_
 have HO346 := n4_
 have BK284 := n5_
 have BK300 := n6_
 have BK316 := n7_
 have BK332 := n8_
 have BK348 := n9_
 have BK349 := n10_
 have HB := n11_
 clear n0_ n1_ n2_ n3_ n4_ n5_ n6_ n7_ n8_ n9_ n10_ n11_
 refine start_ (n := 9) (S := fun w' => w'.cell? ⟨gb349, 0, none⟩ = some (.int .i64 t343) ∧ w'.cell? ⟨gb349, 1, none⟩ = some (.slice Ao68 t344.length co68)) (ds := []) #[false, false, false, false, false, false, false, false, false] (by kernel_rfl) rfl rfl ⟨(blk_cell BK349.out 0).trans rfl, (blk_cell BK349.out 1).trans rfl⟩ (fun hHeld => ?_); refine with_tabW tailwaterlaw26_alive.tab6 tailwaterlaw26_alive.bits6 (fun HT_ HW_ => ?_)
 generalize w69.drew = w70 at HO282 HO298 HO314 HO330 HO346 BK284 BK300 BK316 BK332 BK348 BK349 HB hHeld ⊢
 refine take_ (i := 0) (N := some 43) (v := ?_) (a' := ?_) #[true, false, false, false, false, false, false, false, false] rfl rfl (take_ofW HT_.out HW_.out (by kernel_rfl)) (fun _ _ _ h => h) (Or.inl ⟨by rfl, ?_⟩) hHeld ?_ ?_
 rotate_left
 · rintro w' ⟨s0, s1⟩
   go_simp
   with_reducible rfl
 rotate_left
 · simp only [Act.put, List.setIfInBounds_toArray, List.set_cons_zero, List.set_cons_succ, i64_w, i32_w]
   rfl
 refine join_ (σ := Value × Nat) 2 #[true, true, true, true, true, true, true, false, false] (fun s_ => [(44, .agg #[.int .u8 t350, .int .i64 t351, .int .i64 t352, .int .i64 t353, .int .i64 t354, .int .i64 t355, .int .i64 t356, .int .i64 t357, .int .i64 t358, .int .i64 t359]), (45, .tuple #[.agg #[.int .i64 t360, s_.1], .int .i64 t364]), (12, .pointer (some ⟨s_.2, 0, none⟩)), (42, .tuple #[.agg #[.int .i64 t360, s_.1], .int .i64 t364]), (46, .agg #[.int .i64 t360, s_.1]), (47, .int .i64 t364)]) (fun s_ w' => (w'.cell? ⟨gb349, 0, none⟩ = some (.int .i64 t343) ∧ w'.cell? ⟨gb349, 1, none⟩ = some (.slice Ao68 t344.length co68)) ∧ (Kd.R k35 35 w' w.heap.size (fun k_ => some k_ ≠ (.slice Ao30 t296.length co30 : Value).ownBlock ∧ some k_ ≠ (.slice Ao39 t312.length co39 : Value).ownBlock ∧ some k_ ≠ (.slice Ao48 t328.length co48 : Value).ownBlock ∧ some k_ ≠ (.slice Ao68 t344.length co68 : Value).ownBlock ∧ some k_ ≠ (s_.1 : Value).ownBlock ∧ k_ ≠ gb348) (.slice Ao22 t280.length co22) t280) ∧ (Kd.R k35 35 w' w.heap.size (fun k_ => some k_ ≠ (.slice Ao22 t280.length co22 : Value).ownBlock ∧ some k_ ≠ (.slice Ao39 t312.length co39 : Value).ownBlock ∧ some k_ ≠ (.slice Ao48 t328.length co48 : Value).ownBlock ∧ some k_ ≠ (.slice Ao68 t344.length co68 : Value).ownBlock ∧ some k_ ≠ (s_.1 : Value).ownBlock ∧ k_ ≠ gb348) (.slice Ao30 t296.length co30) t296) ∧ (Kd.R k35 35 w' w.heap.size (fun k_ => some k_ ≠ (.slice Ao22 t280.length co22 : Value).ownBlock ∧ some k_ ≠ (.slice Ao30 t296.length co30 : Value).ownBlock ∧ some k_ ≠ (.slice Ao48 t328.length co48 : Value).ownBlock ∧ some k_ ≠ (.slice Ao68 t344.length co68 : Value).ownBlock ∧ some k_ ≠ (s_.1 : Value).ownBlock ∧ k_ ≠ gb348) (.slice Ao39 t312.length co39) t312) ∧ (Kd.R k35 35 w' w.heap.size (fun k_ => some k_ ≠ (.slice Ao22 t280.length co22 : Value).ownBlock ∧ some k_ ≠ (.slice Ao30 t296.length co30 : Value).ownBlock ∧ some k_ ≠ (.slice Ao39 t312.length co39 : Value).ownBlock ∧ some k_ ≠ (.slice Ao68 t344.length co68 : Value).ownBlock ∧ some k_ ≠ (s_.1 : Value).ownBlock ∧ k_ ≠ gb348) (.slice Ao48 t328.length co48) t328) ∧ (Kd.Q k35 35 w' w.heap.size (fun k_ => some k_ ≠ (.slice Ao22 t280.length co22 : Value).ownBlock ∧ some k_ ≠ (.slice Ao30 t296.length co30 : Value).ownBlock ∧ some k_ ≠ (.slice Ao39 t312.length co39 : Value).ownBlock ∧ some k_ ≠ (.slice Ao48 t328.length co48 : Value).ownBlock ∧ some k_ ≠ (s_.1 : Value).ownBlock ∧ k_ ≠ gb348) (.slice Ao68 t344.length co68) t344) ∧ (Kd.R k35 35 w' w.heap.size (fun k_ => some k_ ≠ (.slice Ao22 t280.length co22 : Value).ownBlock ∧ some k_ ≠ (.slice Ao30 t296.length co30 : Value).ownBlock ∧ some k_ ≠ (.slice Ao39 t312.length co39 : Value).ownBlock ∧ some k_ ≠ (.slice Ao48 t328.length co48 : Value).ownBlock ∧ some k_ ≠ (.slice Ao68 t344.length co68 : Value).ownBlock ∧ k_ ≠ gb348) s_.1 t361) ∧ (w'.heap[gb284]? = some (.cells #[.int .i64 t279, .slice Ao22 t280.length co22] 24 (0, 0))) ∧ (w'.heap[gb300]? = some (.cells #[.int .i64 t295, .slice Ao30 t296.length co30] 24 (0, 0))) ∧ (w'.heap[gb316]? = some (.cells #[.int .i64 t311, .slice Ao39 t312.length co39] 24 (0, 0))) ∧ (w'.heap[gb332]? = some (.cells #[.int .i64 t327, .slice Ao48 t328.length co48] 24 (0, 0))) ∧ (w'.heap[gb348]? = some (.cells #[.int .u8 t333, .int .i64 t334, .int .i64 t335, .int .i64 t336, .int .i64 t337, .int .i64 t338, .int .i64 t339, .int .i64 t340, .int .i64 t341, .int .i64 t342] 35 (0, 0))) ∧ (w'.heap[gb349]? = some (.cells #[.int .i64 t343, .slice Ao68 t344.length co68] 24 (0, 0))) ∧ (w'.heap[s_.2]? = some (.cells #[.int .i64 0, .slice none 0 0] 24 (0, 0))) ∧ (w.heap.size ≤ s_.2) ∧ (w.heap.size ≤ s_.2) ∧ (gb284 ≠ s_.2) ∧ (s_.2 ≠ gb284) ∧ (gb300 ≠ s_.2) ∧ (s_.2 ≠ gb300) ∧ (gb316 ≠ s_.2) ∧ (s_.2 ≠ gb316) ∧ (gb332 ≠ s_.2) ∧ (s_.2 ≠ gb332) ∧ (gb348 ≠ s_.2) ∧ (s_.2 ≠ gb348) ∧ (gb349 ≠ s_.2) ∧ (s_.2 ≠ gb349) ∧ (Below w.heap.size w w')) ?_ ?_
 rotate_left
 · intro hCont
   refine two_ (i := 1) (j := 6) (Ni := some 44) (Nj := some 12) #[true, true, false, false, false, false, false, false, false] #[true, false, false, false, false, false, true, false, false] rfl rfl rfl rfl (two_of HT_.out (by kernel_rfl)) (by decide) (by decide) (fun K hK => ?_) (fun K hK => ?_)
   · skip
     refine goes_ Try.func25 (by kernel_rfl) rfl #[.int .i64 3] (by rfl) rfl rfl (by (try simp only [List.map_toArray, List.map_cons, List.map_nil]); first | done | rfl | (simp only [List.length_drop, List.length_take]; rfl)) ?_
     with_reducible refine (tailwaterlaw26_mark.calls 3 t350 t351 t352 t353 t354 t355 t356 t357 t358 t359 _ A9.out).mono ?_
     rintro e w71 ⟨rfl, hb⟩
     refine ⟨_, rfl, ?_⟩
     have n0_ := Aside0.mk (Kd.R_below HO282.out hb)
     have n1_ := Aside0.mk (Kd.R_below HO298.out hb)
     have n2_ := Aside0.mk (Kd.R_below HO314.out hb)
     have n3_ := Aside0.mk (Kd.R_below HO330.out hb)
     have n4_ := Aside0.mk (Kd.Q_below (by (with_reducible repeat (first | apply Kd.Q_alloc | apply Kd.Q_drewN | apply Kd.Q_drew)); exact HO346.out) hb)
     have n5_ := Aside0.mk (blk_below (g := gb284) (o := .cells #[.int .i64 t279, .slice Ao22 t280.length co22] 24 (0, 0)) BK284.out hb)
     have n6_ := Aside0.mk (blk_below (g := gb300) (o := .cells #[.int .i64 t295, .slice Ao30 t296.length co30] 24 (0, 0)) BK300.out hb)
     have n7_ := Aside0.mk (blk_below (g := gb316) (o := .cells #[.int .i64 t311, .slice Ao39 t312.length co39] 24 (0, 0)) BK316.out hb)
     have n8_ := Aside0.mk (blk_below (g := gb332) (o := .cells #[.int .i64 t327, .slice Ao48 t328.length co48] 24 (0, 0)) BK332.out hb)
     have n9_ := Aside0.mk (blk_below (g := gb348) (o := .cells #[.int .u8 t333, .int .i64 t334, .int .i64 t335, .int .i64 t336, .int .i64 t337, .int .i64 t338, .int .i64 t339, .int .i64 t340, .int .i64 t341, .int .i64 t342] 35 (0, 0)) BK348.out hb)
     have n10_ := Aside0.mk (blk_below (g := gb349) (o := .cells #[.int .i64 t343, .slice Ao68 t344.length co68] 24 (0, 0)) BK349.out hb)
     have n11_ := Aside0.mk (below_step (by repeat (first | (with_reducible first | exact HB.out | apply below_alloc | apply pw_below_drewN | apply below_drew1 | refine below_set ?_ GE284.out | refine below_set ?_ GE300.out | refine below_set ?_ GE316.out | refine below_set ?_ GE332.out | refine below_set ?_ GE348.out | refine below_set ?_ GE349.out) | exact HB.out)) hb)
     clear HO282
     clear HO298
     clear HO314
     clear HO330
     clear HO346
     clear BK284
     clear BK300
     clear BK316
     clear BK332
     clear BK348
     clear BK349
     clear HB
     have HO282 := n0_
     have HO298 := n1_
     have HO314 := n2_
     have HO330 := n3_
     have HO346 := n4_
     have BK284 := n5_
     have BK300 := n6_
     have BK316 := n7_
     have BK332 := n8_
     have BK348 := n9_
     have BK349 := n10_
     have HB := n11_
     clear n0_ n1_ n2_ n3_ n4_ n5_ n6_ n7_ n8_ n9_ n10_ n11_
     (try clear hb)
     (try clear hb2)
     (try clear hk)
     (try clear hi)
     refine hK.out _ _ ⟨(blk_cell BK349.out 0).trans rfl, (blk_cell BK349.out 1).trans rfl⟩ (fun hHeld => ?_)
     clear hK K
     refine norm_ (a' := ?_) ?_ ?_
     rotate_left
     · show Act.put _ (some 44) _ = _
       simp only [Act.put, List.setIfInBounds_toArray, List.set_cons_zero, List.set_cons_succ, i64_w, i32_w]
       rfl
     refine two_ (i := 2) (j := 6) (Ni := some 45) (Nj := some 12) #[true, true, true, false, false, false, false, false, false] #[true, true, false, false, false, false, true, false, false] rfl rfl rfl rfl (two_of HT_.out (by kernel_rfl)) (by decide) (by decide) (fun K hK => ?_) (fun K hK => ?_)
     · skip
       refine goes_ Try.func16 (by kernel_rfl) rfl #[.agg #[.int .i64 t343, .slice Ao68 t344.length co68], .agg #[.int .u8 t350, .int .i64 t351, .int .i64 t352, .int .i64 t353, .int .i64 t354, .int .i64 t355, .int .i64 t356, .int .i64 t357, .int .i64 t358, .int .i64 t359]] (by rfl) rfl rfl (by (try simp only [List.map_toArray, List.map_cons, List.map_nil]); first | done | rfl | (simp only [List.length_drop, List.length_take]; rfl)) ?_
       with_reducible refine (channel_Put.calls k t343 _ _ t344 t350 t351 t352 t353 t354 t355 t356 t357 t358 t359 t360 t361 t364 _ ?side1 ?side2 A10.out).mono ?_
       (case side1 => repeat (first | exact (Kd.Q_reads' HO346.out).2.2 | (with_reducible refine Kd.C_alloc ?_ _) | (with_reducible refine Kd.C_drewN ?_ _) | (with_reducible refine Kd.C_drew ?_)))
       (case side2 => exact (Kd.Q_reads' HO346.out).2.1)
       rintro e w72 ⟨v362, rfl, ho0, hb⟩
       refine ⟨_, rfl, ?_⟩
       have n0_ := Aside0.mk (Kd.R_elder' HO282.out (Kd.R_base ho0) hb)
       have n1_ := Aside0.mk (Kd.R_elder' HO298.out (Kd.R_base ho0) hb)
       have n2_ := Aside0.mk (Kd.R_elder' HO314.out (Kd.R_base ho0) hb)
       have n3_ := Aside0.mk (Kd.R_elder' HO330.out (Kd.R_base ho0) hb)
       have n4_ := Aside0.mk (Kd.Q_elder' (by (with_reducible repeat (first | apply Kd.Q_alloc | apply Kd.Q_drewN | apply Kd.Q_drew)); exact HO346.out) (Kd.R_base ho0) hb)
       have n5_ := Aside0.mk (Kd.R_lower (Kd.R_newB (Kd.R_new' (Kd.R_new' (Kd.R_new' (Kd.R_new' (Kd.R_new' ho0 (Kd.R_lt HO282.out)) (Kd.R_lt HO298.out)) (Kd.R_lt HO314.out)) (Kd.R_lt HO330.out)) (Kd.Q_lt (by (with_reducible repeat (first | apply Kd.Q_alloc | apply Kd.Q_drewN | apply Kd.Q_drew)); exact HO346.out))) (g := gb348) (o := .cells #[.int .u8 t333, .int .i64 t334, .int .i64 t335, .int .i64 t336, .int .i64 t337, .int .i64 t338, .int .i64 t339, .int .i64 t340, .int .i64 t341, .int .i64 t342] 35 (0, 0)) BK348.out) (below_size (by repeat (first | (with_reducible first | exact HB.out | apply below_alloc | apply pw_below_drewN | apply below_drew1 | refine below_set ?_ GE284.out | refine below_set ?_ GE300.out | refine below_set ?_ GE316.out | refine below_set ?_ GE332.out | refine below_set ?_ GE348.out | refine below_set ?_ GE349.out) | exact HB.out))))
       have n6_ := Aside0.mk (blk_below (g := gb284) (o := .cells #[.int .i64 t279, .slice Ao22 t280.length co22] 24 (0, 0)) BK284.out hb)
       have n7_ := Aside0.mk (blk_below (g := gb300) (o := .cells #[.int .i64 t295, .slice Ao30 t296.length co30] 24 (0, 0)) BK300.out hb)
       have n8_ := Aside0.mk (blk_below (g := gb316) (o := .cells #[.int .i64 t311, .slice Ao39 t312.length co39] 24 (0, 0)) BK316.out hb)
       have n9_ := Aside0.mk (blk_below (g := gb332) (o := .cells #[.int .i64 t327, .slice Ao48 t328.length co48] 24 (0, 0)) BK332.out hb)
       have n10_ := Aside0.mk (blk_below (g := gb348) (o := .cells #[.int .u8 t333, .int .i64 t334, .int .i64 t335, .int .i64 t336, .int .i64 t337, .int .i64 t338, .int .i64 t339, .int .i64 t340, .int .i64 t341, .int .i64 t342] 35 (0, 0)) BK348.out hb)
       have n11_ := Aside0.mk (blk_below (g := gb349) (o := .cells #[.int .i64 t343, .slice Ao68 t344.length co68] 24 (0, 0)) BK349.out hb)
       have n12_ := Aside0.mk (below_step (by repeat (first | (with_reducible first | exact HB.out | apply below_alloc | apply pw_below_drewN | apply below_drew1 | refine below_set ?_ GE284.out | refine below_set ?_ GE300.out | refine below_set ?_ GE316.out | refine below_set ?_ GE332.out | refine below_set ?_ GE348.out | refine below_set ?_ GE349.out) | exact HB.out)) hb)
       clear HO282
       clear HO298
       clear HO314
       clear HO330
       clear HO346
       clear BK284
       clear BK300
       clear BK316
       clear BK332
       clear BK348
       clear BK349
       clear HB
       have HO282 := n0_
       have HO298 := n1_
       have HO314 := n2_
       have HO330 := n3_
       have HO346 := n4_
       have HO363 := n5_
       have BK284 := n6_
       have BK300 := n7_
       have BK316 := n8_
       have BK332 := n9_
       have BK348 := n10_
       have BK349 := n11_
       have HB := n12_
       clear n0_ n1_ n2_ n3_ n4_ n5_ n6_ n7_ n8_ n9_ n10_ n11_ n12_
       (try clear hb)
       (try clear hb2)
       (try clear hk)
       (try clear hi)
       (try clear ho0)
       refine hK.out _ _ ⟨(blk_cell BK349.out 0).trans rfl, (blk_cell BK349.out 1).trans rfl⟩ (fun hHeld => ?_)
       clear hK K
       refine norm_ (a' := ?_) ?_ ?_
       rotate_left
       · show Act.put _ (some 45) _ = _
         simp only [Act.put, List.setIfInBounds_toArray, List.set_cons_zero, List.set_cons_succ, i64_w, i32_w]
         rfl
       refine pure_ (i := 3) (N := some 42) (v := ?_) (a' := ?_) #[true, true, true, true, false, false, false, false, false] rfl rfl (any_of HT_.out (by kernel_rfl)) (fun _ _ _ h => h) (Or.inl ⟨by rfl, ?_⟩) ?_ ?_
       rotate_left
       · intro w'
         go_simp
         with_reducible rfl
       rotate_left
       · simp only [Act.put, List.setIfInBounds_toArray, List.set_cons_zero, List.set_cons_succ, i64_w, i32_w]
         rfl
       refine pure_ (i := 4) (N := some 46) (v := ?_) (a' := ?_) #[true, true, true, true, true, false, false, false, false] rfl rfl (any_of HT_.out (by kernel_rfl)) (fun _ _ _ h => h) (Or.inl ⟨by rfl, ?_⟩) ?_ ?_
       rotate_left
       · intro w'
         go_simp
         with_reducible rfl
       rotate_left
       · simp only [Act.put, List.setIfInBounds_toArray, List.set_cons_zero, List.set_cons_succ, i64_w, i32_w]
         rfl
       refine pure_ (i := 5) (N := some 47) (v := ?_) (a' := ?_) #[true, true, true, true, true, true, false, false, false] rfl rfl (any_of HT_.out (by kernel_rfl)) (fun _ _ _ h => h) (Or.inl ⟨by rfl, ?_⟩) ?_ ?_
       rotate_left
       · intro w'
         go_simp
         with_reducible rfl
       rotate_left
       · simp only [Act.put, List.setIfInBounds_toArray, List.set_cons_zero, List.set_cons_succ, i64_w, i32_w]
         rfl
       refine one_ (i := 6) (N := some 12) #[true, true, true, true, true, true, true, false, false] rfl rfl (one_of HT_.out (by kernel_rfl)) (by decide) (fun K hK => ?_)
       refine box_step ?hg (N := 12) ?hd (cs := #[.int .i64 0, .slice none 0 0]) (t := 24) ?hr ?_; (case hd => rfl); (case hg => rfl); (case hr => first | (go_simp; done) | (go_simp; rfl))
       intro gb365 hg w73 hbox hb
       have n0_ := Aside0.mk (Kd.R_below HO282.out hb)
       have n1_ := Aside0.mk (Kd.R_below HO298.out hb)
       have n2_ := Aside0.mk (Kd.R_below HO314.out hb)
       have n3_ := Aside0.mk (Kd.R_below HO330.out hb)
       have n4_ := Aside0.mk (Kd.Q_below (by (with_reducible repeat (first | apply Kd.Q_alloc | apply Kd.Q_drewN | apply Kd.Q_drew)); exact HO346.out) hb)
       have n5_ := Aside0.mk (Kd.R_below HO363.out hb)
       have n6_ := Aside0.mk (blk_below (g := gb284) (o := .cells #[.int .i64 t279, .slice Ao22 t280.length co22] 24 (0, 0)) BK284.out hb)
       have n7_ := Aside0.mk (blk_below (g := gb300) (o := .cells #[.int .i64 t295, .slice Ao30 t296.length co30] 24 (0, 0)) BK300.out hb)
       have n8_ := Aside0.mk (blk_below (g := gb316) (o := .cells #[.int .i64 t311, .slice Ao39 t312.length co39] 24 (0, 0)) BK316.out hb)
       have n9_ := Aside0.mk (blk_below (g := gb332) (o := .cells #[.int .i64 t327, .slice Ao48 t328.length co48] 24 (0, 0)) BK332.out hb)
       have n10_ := Aside0.mk (blk_below (g := gb348) (o := .cells #[.int .u8 t333, .int .i64 t334, .int .i64 t335, .int .i64 t336, .int .i64 t337, .int .i64 t338, .int .i64 t339, .int .i64 t340, .int .i64 t341, .int .i64 t342] 35 (0, 0)) BK348.out hb)
       have n11_ := Aside0.mk (blk_below (g := gb349) (o := .cells #[.int .i64 t343, .slice Ao68 t344.length co68] 24 (0, 0)) BK349.out hb)
       have n12_ := Aside0.mk (below_step (by repeat (first | (with_reducible first | exact HB.out | apply below_alloc | apply pw_below_drewN | apply below_drew1 | refine below_set ?_ GE284.out | refine below_set ?_ GE300.out | refine below_set ?_ GE316.out | refine below_set ?_ GE332.out | refine below_set ?_ GE348.out | refine below_set ?_ GE349.out) | exact HB.out)) hb)
       have n13_ := Aside0.mk (hbox)
       have n14_ := Aside0.mk ((by rw [hg]; exact (below_size (by repeat (first | (with_reducible first | exact HB.out | apply below_alloc | apply pw_below_drewN | apply below_drew1 | refine below_set ?_ GE284.out | refine below_set ?_ GE300.out | refine below_set ?_ GE316.out | refine below_set ?_ GE332.out | refine below_set ?_ GE348.out | refine below_set ?_ GE349.out) | exact HB.out))) : w.heap.size ≤ gb365))
       have n15_ := Aside0.mk ((by rw [hg]; exact (below_size (by repeat (first | (with_reducible first | exact HB.out | apply below_alloc | apply pw_below_drewN | apply below_drew1 | refine below_set ?_ GE284.out | refine below_set ?_ GE300.out | refine below_set ?_ GE316.out | refine below_set ?_ GE332.out | refine below_set ?_ GE348.out | refine below_set ?_ GE349.out) | exact HB.out))) : w.heap.size ≤ gb365))
       have n16_ := Aside0.mk ((by rw [hg]; exact Nat.ne_of_lt (blk_lt (g := gb284) (o := .cells #[.int .i64 t279, .slice Ao22 t280.length co22] 24 (0, 0)) BK284.out) : gb284 ≠ gb365))
       have n17_ := Aside0.mk ((by rw [hg]; exact Nat.ne_of_gt (blk_lt (g := gb284) (o := .cells #[.int .i64 t279, .slice Ao22 t280.length co22] 24 (0, 0)) BK284.out) : gb365 ≠ gb284))
       have n18_ := Aside0.mk ((by rw [hg]; exact Nat.ne_of_lt (blk_lt (g := gb300) (o := .cells #[.int .i64 t295, .slice Ao30 t296.length co30] 24 (0, 0)) BK300.out) : gb300 ≠ gb365))
       have n19_ := Aside0.mk ((by rw [hg]; exact Nat.ne_of_gt (blk_lt (g := gb300) (o := .cells #[.int .i64 t295, .slice Ao30 t296.length co30] 24 (0, 0)) BK300.out) : gb365 ≠ gb300))
       have n20_ := Aside0.mk ((by rw [hg]; exact Nat.ne_of_lt (blk_lt (g := gb316) (o := .cells #[.int .i64 t311, .slice Ao39 t312.length co39] 24 (0, 0)) BK316.out) : gb316 ≠ gb365))
       have n21_ := Aside0.mk ((by rw [hg]; exact Nat.ne_of_gt (blk_lt (g := gb316) (o := .cells #[.int .i64 t311, .slice Ao39 t312.length co39] 24 (0, 0)) BK316.out) : gb365 ≠ gb316))
       have n22_ := Aside0.mk ((by rw [hg]; exact Nat.ne_of_lt (blk_lt (g := gb332) (o := .cells #[.int .i64 t327, .slice Ao48 t328.length co48] 24 (0, 0)) BK332.out) : gb332 ≠ gb365))
       have n23_ := Aside0.mk ((by rw [hg]; exact Nat.ne_of_gt (blk_lt (g := gb332) (o := .cells #[.int .i64 t327, .slice Ao48 t328.length co48] 24 (0, 0)) BK332.out) : gb365 ≠ gb332))
       have n24_ := Aside0.mk ((by rw [hg]; exact Nat.ne_of_lt (blk_lt (g := gb348) (o := .cells #[.int .u8 t333, .int .i64 t334, .int .i64 t335, .int .i64 t336, .int .i64 t337, .int .i64 t338, .int .i64 t339, .int .i64 t340, .int .i64 t341, .int .i64 t342] 35 (0, 0)) BK348.out) : gb348 ≠ gb365))
       have n25_ := Aside0.mk ((by rw [hg]; exact Nat.ne_of_gt (blk_lt (g := gb348) (o := .cells #[.int .u8 t333, .int .i64 t334, .int .i64 t335, .int .i64 t336, .int .i64 t337, .int .i64 t338, .int .i64 t339, .int .i64 t340, .int .i64 t341, .int .i64 t342] 35 (0, 0)) BK348.out) : gb365 ≠ gb348))
       have n26_ := Aside0.mk ((by rw [hg]; exact Nat.ne_of_lt (blk_lt (g := gb349) (o := .cells #[.int .i64 t343, .slice Ao68 t344.length co68] 24 (0, 0)) BK349.out) : gb349 ≠ gb365))
       have n27_ := Aside0.mk ((by rw [hg]; exact Nat.ne_of_gt (blk_lt (g := gb349) (o := .cells #[.int .i64 t343, .slice Ao68 t344.length co68] 24 (0, 0)) BK349.out) : gb365 ≠ gb349))
       clear HO282
       clear HO298
       clear HO314
       clear HO330
       clear HO346
       clear HO363
       clear BK284
       clear BK300
       clear BK316
       clear BK332
       clear BK348
       clear BK349
       clear HB
       have HO282 := n0_
       have HO298 := n1_
       have HO314 := n2_
       have HO330 := n3_
       have HO346 := n4_
       have HO363 := n5_
       have BK284 := n6_
       have BK300 := n7_
       have BK316 := n8_
       have BK332 := n9_
       have BK348 := n10_
       have BK349 := n11_
       have HB := n12_
       have BK365 := n13_
       have GW365 := n14_
       have GE365 := n15_
       have NB284_365 := n16_
       have NB365_284 := n17_
       have NB300_365 := n18_
       have NB365_300 := n19_
       have NB316_365 := n20_
       have NB365_316 := n21_
       have NB332_365 := n22_
       have NB365_332 := n23_
       have NB348_365 := n24_
       have NB365_348 := n25_
       have NB349_365 := n26_
       have NB365_349 := n27_
       clear n0_ n1_ n2_ n3_ n4_ n5_ n6_ n7_ n8_ n9_ n10_ n11_ n12_ n13_ n14_ n15_ n16_ n17_ n18_ n19_ n20_ n21_ n22_ n23_ n24_ n25_ n26_ n27_
       clear hb hbox hg
       refine hK.out _ _ ⟨(blk_cell BK349.out 0).trans rfl, (blk_cell BK349.out 1).trans rfl⟩ (fun hHeld => ?_)
       clear hK K
       refine norm_ (a' := ?_) ?_ ?_
       rotate_left
       · show Act.put _ (some 12) _ = _
         simp only [Act.put, List.setIfInBounds_toArray, List.set_cons_zero, List.set_cons_succ, i64_w, i32_w]
         rfl
       exact norm_ (by simp only [putAll, Act.put, List.setIfInBounds_toArray, List.set_cons_zero, List.set_cons_succ]) (hCont (v362, gb365) _ ⟨hHeld, (by (with_reducible repeat (first | apply Kd.R_alloc | apply Kd.R_drewN | apply Kd.R_drew)); exact Kd.R_mono HO282.out (fun _ hk => ⟨hk.1.1, ⟨hk.1.2.1, ⟨hk.1.2.2.1, ⟨hk.1.2.2.2.1, ⟨hk.2, hk.1.2.2.2.2⟩⟩⟩⟩⟩)), (by (with_reducible repeat (first | apply Kd.R_alloc | apply Kd.R_drewN | apply Kd.R_drew)); exact Kd.R_mono HO298.out (fun _ hk => ⟨hk.1.1, ⟨hk.1.2.1, ⟨hk.1.2.2.1, ⟨hk.1.2.2.2.1, ⟨hk.2, hk.1.2.2.2.2⟩⟩⟩⟩⟩)), (by (with_reducible repeat (first | apply Kd.R_alloc | apply Kd.R_drewN | apply Kd.R_drew)); exact Kd.R_mono HO314.out (fun _ hk => ⟨hk.1.1, ⟨hk.1.2.1, ⟨hk.1.2.2.1, ⟨hk.1.2.2.2.1, ⟨hk.2, hk.1.2.2.2.2⟩⟩⟩⟩⟩)), (by (with_reducible repeat (first | apply Kd.R_alloc | apply Kd.R_drewN | apply Kd.R_drew)); exact Kd.R_mono HO330.out (fun _ hk => ⟨hk.1.1, ⟨hk.1.2.1, ⟨hk.1.2.2.1, ⟨hk.1.2.2.2.1, ⟨hk.2, hk.1.2.2.2.2⟩⟩⟩⟩⟩)), (by (with_reducible repeat (first | apply Kd.Q_alloc | apply Kd.Q_drewN | apply Kd.Q_drew)); exact Kd.Q_mono HO346.out (fun _ hk => ⟨hk.1.1, ⟨hk.1.2.1, ⟨hk.1.2.2.1, ⟨hk.1.2.2.2.1, ⟨hk.2, hk.1.2.2.2.2⟩⟩⟩⟩⟩)), (by (with_reducible repeat (first | apply Kd.R_alloc | apply Kd.R_drewN | apply Kd.R_drew)); exact Kd.R_mono HO363.out (fun _ hk => ⟨hk.1.1.1.1.1.2, ⟨hk.1.1.1.1.2, ⟨hk.1.1.1.2, ⟨hk.1.1.2, ⟨hk.1.2, hk.2⟩⟩⟩⟩⟩)), BK284.out, BK300.out, BK316.out, BK332.out, BK348.out, BK349.out, BK365.out, GW365.out, GE365.out, NB284_365.out, NB365_284.out, NB300_365.out, NB365_300.out, NB316_365.out, NB365_316.out, NB332_365.out, NB365_332.out, NB348_365.out, NB365_348.out, NB349_365.out, NB365_349.out, (by repeat (first | (with_reducible first | exact HB.out | apply below_alloc | apply pw_below_drewN | apply below_drew1 | refine below_set ?_ GE284.out | refine below_set ?_ GE300.out | refine below_set ?_ GE316.out | refine below_set ?_ GE332.out | refine below_set ?_ GE348.out | refine below_set ?_ GE349.out | refine below_set ?_ GE365.out) | exact HB.out))⟩)
     · skip
       refine box_step ?hg (N := 12) ?hd (cs := #[.int .i64 0, .slice none 0 0]) (t := 24) ?hr ?_; (case hd => rfl); (case hg => rfl); (case hr => first | (go_simp; done) | (go_simp; rfl))
       intro gb365 hg w72 hbox hb
       have n0_ := Aside0.mk (Kd.R_below HO282.out hb)
       have n1_ := Aside0.mk (Kd.R_below HO298.out hb)
       have n2_ := Aside0.mk (Kd.R_below HO314.out hb)
       have n3_ := Aside0.mk (Kd.R_below HO330.out hb)
       have n4_ := Aside0.mk (Kd.Q_below (by (with_reducible repeat (first | apply Kd.Q_alloc | apply Kd.Q_drewN | apply Kd.Q_drew)); exact HO346.out) hb)
       have n5_ := Aside0.mk (blk_below (g := gb284) (o := .cells #[.int .i64 t279, .slice Ao22 t280.length co22] 24 (0, 0)) BK284.out hb)
       have n6_ := Aside0.mk (blk_below (g := gb300) (o := .cells #[.int .i64 t295, .slice Ao30 t296.length co30] 24 (0, 0)) BK300.out hb)
       have n7_ := Aside0.mk (blk_below (g := gb316) (o := .cells #[.int .i64 t311, .slice Ao39 t312.length co39] 24 (0, 0)) BK316.out hb)
       have n8_ := Aside0.mk (blk_below (g := gb332) (o := .cells #[.int .i64 t327, .slice Ao48 t328.length co48] 24 (0, 0)) BK332.out hb)
       have n9_ := Aside0.mk (blk_below (g := gb348) (o := .cells #[.int .u8 t333, .int .i64 t334, .int .i64 t335, .int .i64 t336, .int .i64 t337, .int .i64 t338, .int .i64 t339, .int .i64 t340, .int .i64 t341, .int .i64 t342] 35 (0, 0)) BK348.out hb)
       have n10_ := Aside0.mk (blk_below (g := gb349) (o := .cells #[.int .i64 t343, .slice Ao68 t344.length co68] 24 (0, 0)) BK349.out hb)
       have n11_ := Aside0.mk (below_step (by repeat (first | (with_reducible first | exact HB.out | apply below_alloc | apply pw_below_drewN | apply below_drew1 | refine below_set ?_ GE284.out | refine below_set ?_ GE300.out | refine below_set ?_ GE316.out | refine below_set ?_ GE332.out | refine below_set ?_ GE348.out | refine below_set ?_ GE349.out) | exact HB.out)) hb)
       have n12_ := Aside0.mk (hbox)
       have n13_ := Aside0.mk ((by rw [hg]; exact (below_size (by repeat (first | (with_reducible first | exact HB.out | apply below_alloc | apply pw_below_drewN | apply below_drew1 | refine below_set ?_ GE284.out | refine below_set ?_ GE300.out | refine below_set ?_ GE316.out | refine below_set ?_ GE332.out | refine below_set ?_ GE348.out | refine below_set ?_ GE349.out) | exact HB.out))) : w.heap.size ≤ gb365))
       have n14_ := Aside0.mk ((by rw [hg]; exact (below_size (by repeat (first | (with_reducible first | exact HB.out | apply below_alloc | apply pw_below_drewN | apply below_drew1 | refine below_set ?_ GE284.out | refine below_set ?_ GE300.out | refine below_set ?_ GE316.out | refine below_set ?_ GE332.out | refine below_set ?_ GE348.out | refine below_set ?_ GE349.out) | exact HB.out))) : w.heap.size ≤ gb365))
       have n15_ := Aside0.mk ((by rw [hg]; exact Nat.ne_of_lt (blk_lt (g := gb284) (o := .cells #[.int .i64 t279, .slice Ao22 t280.length co22] 24 (0, 0)) BK284.out) : gb284 ≠ gb365))
       have n16_ := Aside0.mk ((by rw [hg]; exact Nat.ne_of_gt (blk_lt (g := gb284) (o := .cells #[.int .i64 t279, .slice Ao22 t280.length co22] 24 (0, 0)) BK284.out) : gb365 ≠ gb284))
       have n17_ := Aside0.mk ((by rw [hg]; exact Nat.ne_of_lt (blk_lt (g := gb300) (o := .cells #[.int .i64 t295, .slice Ao30 t296.length co30] 24 (0, 0)) BK300.out) : gb300 ≠ gb365))
       have n18_ := Aside0.mk ((by rw [hg]; exact Nat.ne_of_gt (blk_lt (g := gb300) (o := .cells #[.int .i64 t295, .slice Ao30 t296.length co30] 24 (0, 0)) BK300.out) : gb365 ≠ gb300))
       have n19_ := Aside0.mk ((by rw [hg]; exact Nat.ne_of_lt (blk_lt (g := gb316) (o := .cells #[.int .i64 t311, .slice Ao39 t312.length co39] 24 (0, 0)) BK316.out) : gb316 ≠ gb365))
       have n20_ := Aside0.mk ((by rw [hg]; exact Nat.ne_of_gt (blk_lt (g := gb316) (o := .cells #[.int .i64 t311, .slice Ao39 t312.length co39] 24 (0, 0)) BK316.out) : gb365 ≠ gb316))
       have n21_ := Aside0.mk ((by rw [hg]; exact Nat.ne_of_lt (blk_lt (g := gb332) (o := .cells #[.int .i64 t327, .slice Ao48 t328.length co48] 24 (0, 0)) BK332.out) : gb332 ≠ gb365))
       have n22_ := Aside0.mk ((by rw [hg]; exact Nat.ne_of_gt (blk_lt (g := gb332) (o := .cells #[.int .i64 t327, .slice Ao48 t328.length co48] 24 (0, 0)) BK332.out) : gb365 ≠ gb332))
       have n23_ := Aside0.mk ((by rw [hg]; exact Nat.ne_of_lt (blk_lt (g := gb348) (o := .cells #[.int .u8 t333, .int .i64 t334, .int .i64 t335, .int .i64 t336, .int .i64 t337, .int .i64 t338, .int .i64 t339, .int .i64 t340, .int .i64 t341, .int .i64 t342] 35 (0, 0)) BK348.out) : gb348 ≠ gb365))
       have n24_ := Aside0.mk ((by rw [hg]; exact Nat.ne_of_gt (blk_lt (g := gb348) (o := .cells #[.int .u8 t333, .int .i64 t334, .int .i64 t335, .int .i64 t336, .int .i64 t337, .int .i64 t338, .int .i64 t339, .int .i64 t340, .int .i64 t341, .int .i64 t342] 35 (0, 0)) BK348.out) : gb365 ≠ gb348))
       have n25_ := Aside0.mk ((by rw [hg]; exact Nat.ne_of_lt (blk_lt (g := gb349) (o := .cells #[.int .i64 t343, .slice Ao68 t344.length co68] 24 (0, 0)) BK349.out) : gb349 ≠ gb365))
       have n26_ := Aside0.mk ((by rw [hg]; exact Nat.ne_of_gt (blk_lt (g := gb349) (o := .cells #[.int .i64 t343, .slice Ao68 t344.length co68] 24 (0, 0)) BK349.out) : gb365 ≠ gb349))
       clear HO282
       clear HO298
       clear HO314
       clear HO330
       clear HO346
       clear BK284
       clear BK300
       clear BK316
       clear BK332
       clear BK348
       clear BK349
       clear HB
       have HO282 := n0_
       have HO298 := n1_
       have HO314 := n2_
       have HO330 := n3_
       have HO346 := n4_
       have BK284 := n5_
       have BK300 := n6_
       have BK316 := n7_
       have BK332 := n8_
       have BK348 := n9_
       have BK349 := n10_
       have HB := n11_
       have BK365 := n12_
       have GW365 := n13_
       have GE365 := n14_
       have NB284_365 := n15_
       have NB365_284 := n16_
       have NB300_365 := n17_
       have NB365_300 := n18_
       have NB316_365 := n19_
       have NB365_316 := n20_
       have NB332_365 := n21_
       have NB365_332 := n22_
       have NB348_365 := n23_
       have NB365_348 := n24_
       have NB349_365 := n25_
       have NB365_349 := n26_
       clear n0_ n1_ n2_ n3_ n4_ n5_ n6_ n7_ n8_ n9_ n10_ n11_ n12_ n13_ n14_ n15_ n16_ n17_ n18_ n19_ n20_ n21_ n22_ n23_ n24_ n25_ n26_
       clear hb hbox hg
       refine hK.out _ _ ⟨(blk_cell BK349.out 0).trans rfl, (blk_cell BK349.out 1).trans rfl⟩ (fun hHeld => ?_)
       clear hK K
       refine norm_ (a' := ?_) ?_ ?_
       rotate_left
       · show Act.put _ (some 12) _ = _
         simp only [Act.put, List.setIfInBounds_toArray, List.set_cons_zero, List.set_cons_succ, i64_w, i32_w]
         rfl
       refine one_ (i := 2) (N := some 45) #[true, true, true, false, false, false, true, false, false] rfl rfl (one_of HT_.out (by kernel_rfl)) (by decide) (fun K hK => ?_)
       refine goes_ Try.func16 (by kernel_rfl) rfl #[.agg #[.int .i64 t343, .slice Ao68 t344.length co68], .agg #[.int .u8 t350, .int .i64 t351, .int .i64 t352, .int .i64 t353, .int .i64 t354, .int .i64 t355, .int .i64 t356, .int .i64 t357, .int .i64 t358, .int .i64 t359]] (by rfl) rfl rfl (by (try simp only [List.map_toArray, List.map_cons, List.map_nil]); first | done | rfl | (simp only [List.length_drop, List.length_take]; rfl)) ?_
       with_reducible refine (channel_Put.calls k t343 _ _ t344 t350 t351 t352 t353 t354 t355 t356 t357 t358 t359 t360 t361 t364 _ ?side1 ?side2 A10.out).mono ?_
       (case side1 => repeat (first | exact (Kd.Q_reads' HO346.out).2.2 | (with_reducible refine Kd.C_alloc ?_ _) | (with_reducible refine Kd.C_drewN ?_ _) | (with_reducible refine Kd.C_drew ?_)))
       (case side2 => exact (Kd.Q_reads' HO346.out).2.1)
       rintro e w73 ⟨v362, rfl, ho0, hb⟩
       refine ⟨_, rfl, ?_⟩
       have n0_ := Aside0.mk (Kd.R_elder' HO282.out (Kd.R_base ho0) hb)
       have n1_ := Aside0.mk (Kd.R_elder' HO298.out (Kd.R_base ho0) hb)
       have n2_ := Aside0.mk (Kd.R_elder' HO314.out (Kd.R_base ho0) hb)
       have n3_ := Aside0.mk (Kd.R_elder' HO330.out (Kd.R_base ho0) hb)
       have n4_ := Aside0.mk (Kd.Q_elder' (by (with_reducible repeat (first | apply Kd.Q_alloc | apply Kd.Q_drewN | apply Kd.Q_drew)); exact HO346.out) (Kd.R_base ho0) hb)
       have n5_ := Aside0.mk (Kd.R_lower (Kd.R_newB (Kd.R_new' (Kd.R_new' (Kd.R_new' (Kd.R_new' (Kd.R_new' ho0 (Kd.R_lt HO282.out)) (Kd.R_lt HO298.out)) (Kd.R_lt HO314.out)) (Kd.R_lt HO330.out)) (Kd.Q_lt (by (with_reducible repeat (first | apply Kd.Q_alloc | apply Kd.Q_drewN | apply Kd.Q_drew)); exact HO346.out))) (g := gb348) (o := .cells #[.int .u8 t333, .int .i64 t334, .int .i64 t335, .int .i64 t336, .int .i64 t337, .int .i64 t338, .int .i64 t339, .int .i64 t340, .int .i64 t341, .int .i64 t342] 35 (0, 0)) BK348.out) (below_size (by repeat (first | (with_reducible first | exact HB.out | apply below_alloc | apply pw_below_drewN | apply below_drew1 | refine below_set ?_ GE284.out | refine below_set ?_ GE300.out | refine below_set ?_ GE316.out | refine below_set ?_ GE332.out | refine below_set ?_ GE348.out | refine below_set ?_ GE349.out | refine below_set ?_ GE365.out) | exact HB.out))))
       have n6_ := Aside0.mk (blk_below (g := gb284) (o := .cells #[.int .i64 t279, .slice Ao22 t280.length co22] 24 (0, 0)) BK284.out hb)
       have n7_ := Aside0.mk (blk_below (g := gb300) (o := .cells #[.int .i64 t295, .slice Ao30 t296.length co30] 24 (0, 0)) BK300.out hb)
       have n8_ := Aside0.mk (blk_below (g := gb316) (o := .cells #[.int .i64 t311, .slice Ao39 t312.length co39] 24 (0, 0)) BK316.out hb)
       have n9_ := Aside0.mk (blk_below (g := gb332) (o := .cells #[.int .i64 t327, .slice Ao48 t328.length co48] 24 (0, 0)) BK332.out hb)
       have n10_ := Aside0.mk (blk_below (g := gb348) (o := .cells #[.int .u8 t333, .int .i64 t334, .int .i64 t335, .int .i64 t336, .int .i64 t337, .int .i64 t338, .int .i64 t339, .int .i64 t340, .int .i64 t341, .int .i64 t342] 35 (0, 0)) BK348.out hb)
       have n11_ := Aside0.mk (blk_below (g := gb349) (o := .cells #[.int .i64 t343, .slice Ao68 t344.length co68] 24 (0, 0)) BK349.out hb)
       have n12_ := Aside0.mk (blk_below (g := gb365) (o := .cells #[.int .i64 0, .slice none 0 0] 24 (0, 0)) BK365.out hb)
       have n13_ := Aside0.mk (below_step (by repeat (first | (with_reducible first | exact HB.out | apply below_alloc | apply pw_below_drewN | apply below_drew1 | refine below_set ?_ GE284.out | refine below_set ?_ GE300.out | refine below_set ?_ GE316.out | refine below_set ?_ GE332.out | refine below_set ?_ GE348.out | refine below_set ?_ GE349.out | refine below_set ?_ GE365.out) | exact HB.out)) hb)
       clear HO282
       clear HO298
       clear HO314
       clear HO330
       clear HO346
       clear BK284
       clear BK300
       clear BK316
       clear BK332
       clear BK348
       clear BK349
       clear BK365
       clear HB
       have HO282 := n0_
       have HO298 := n1_
       have HO314 := n2_
       have HO330 := n3_
       have HO346 := n4_
       have HO363 := n5_
       have BK284 := n6_
       have BK300 := n7_
       have BK316 := n8_
       have BK332 := n9_
       have BK348 := n10_
       have BK349 := n11_
       have BK365 := n12_
       have HB := n13_
       clear n0_ n1_ n2_ n3_ n4_ n5_ n6_ n7_ n8_ n9_ n10_ n11_ n12_ n13_
       (try clear hb)
       (try clear hb2)
       (try clear hk)
       (try clear hi)
       (try clear ho0)
       refine hK.out _ _ ⟨(blk_cell BK349.out 0).trans rfl, (blk_cell BK349.out 1).trans rfl⟩ (fun hHeld => ?_)
       clear hK K
       refine norm_ (a' := ?_) ?_ ?_
       rotate_left
       · show Act.put _ (some 45) _ = _
         simp only [Act.put, List.setIfInBounds_toArray, List.set_cons_zero, List.set_cons_succ, i64_w, i32_w]
         rfl
       refine pure_ (i := 3) (N := some 42) (v := ?_) (a' := ?_) #[true, true, true, true, false, false, true, false, false] rfl rfl (any_of HT_.out (by kernel_rfl)) (fun _ _ _ h => h) (Or.inl ⟨by rfl, ?_⟩) ?_ ?_
       rotate_left
       · intro w'
         go_simp
         with_reducible rfl
       rotate_left
       · simp only [Act.put, List.setIfInBounds_toArray, List.set_cons_zero, List.set_cons_succ, i64_w, i32_w]
         rfl
       refine pure_ (i := 4) (N := some 46) (v := ?_) (a' := ?_) #[true, true, true, true, true, false, true, false, false] rfl rfl (any_of HT_.out (by kernel_rfl)) (fun _ _ _ h => h) (Or.inl ⟨by rfl, ?_⟩) ?_ ?_
       rotate_left
       · intro w'
         go_simp
         with_reducible rfl
       rotate_left
       · simp only [Act.put, List.setIfInBounds_toArray, List.set_cons_zero, List.set_cons_succ, i64_w, i32_w]
         rfl
       refine pure_ (i := 5) (N := some 47) (v := ?_) (a' := ?_) #[true, true, true, true, true, true, true, false, false] rfl rfl (any_of HT_.out (by kernel_rfl)) (fun _ _ _ h => h) (Or.inl ⟨by rfl, ?_⟩) ?_ ?_
       rotate_left
       · intro w'
         go_simp
         with_reducible rfl
       rotate_left
       · simp only [Act.put, List.setIfInBounds_toArray, List.set_cons_zero, List.set_cons_succ, i64_w, i32_w]
         rfl
       exact norm_ (by simp only [putAll, Act.put, List.setIfInBounds_toArray, List.set_cons_zero, List.set_cons_succ]) (hCont (v362, gb365) _ ⟨hHeld, (by (with_reducible repeat (first | apply Kd.R_alloc | apply Kd.R_drewN | apply Kd.R_drew)); exact Kd.R_mono HO282.out (fun _ hk => ⟨hk.1.1, ⟨hk.1.2.1, ⟨hk.1.2.2.1, ⟨hk.1.2.2.2.1, ⟨hk.2, hk.1.2.2.2.2⟩⟩⟩⟩⟩)), (by (with_reducible repeat (first | apply Kd.R_alloc | apply Kd.R_drewN | apply Kd.R_drew)); exact Kd.R_mono HO298.out (fun _ hk => ⟨hk.1.1, ⟨hk.1.2.1, ⟨hk.1.2.2.1, ⟨hk.1.2.2.2.1, ⟨hk.2, hk.1.2.2.2.2⟩⟩⟩⟩⟩)), (by (with_reducible repeat (first | apply Kd.R_alloc | apply Kd.R_drewN | apply Kd.R_drew)); exact Kd.R_mono HO314.out (fun _ hk => ⟨hk.1.1, ⟨hk.1.2.1, ⟨hk.1.2.2.1, ⟨hk.1.2.2.2.1, ⟨hk.2, hk.1.2.2.2.2⟩⟩⟩⟩⟩)), (by (with_reducible repeat (first | apply Kd.R_alloc | apply Kd.R_drewN | apply Kd.R_drew)); exact Kd.R_mono HO330.out (fun _ hk => ⟨hk.1.1, ⟨hk.1.2.1, ⟨hk.1.2.2.1, ⟨hk.1.2.2.2.1, ⟨hk.2, hk.1.2.2.2.2⟩⟩⟩⟩⟩)), (by (with_reducible repeat (first | apply Kd.Q_alloc | apply Kd.Q_drewN | apply Kd.Q_drew)); exact Kd.Q_mono HO346.out (fun _ hk => ⟨hk.1.1, ⟨hk.1.2.1, ⟨hk.1.2.2.1, ⟨hk.1.2.2.2.1, ⟨hk.2, hk.1.2.2.2.2⟩⟩⟩⟩⟩)), (by (with_reducible repeat (first | apply Kd.R_alloc | apply Kd.R_drewN | apply Kd.R_drew)); exact Kd.R_mono HO363.out (fun _ hk => ⟨hk.1.1.1.1.1.2, ⟨hk.1.1.1.1.2, ⟨hk.1.1.1.2, ⟨hk.1.1.2, ⟨hk.1.2, hk.2⟩⟩⟩⟩⟩)), BK284.out, BK300.out, BK316.out, BK332.out, BK348.out, BK349.out, BK365.out, GW365.out, GE365.out, NB284_365.out, NB365_284.out, NB300_365.out, NB365_300.out, NB316_365.out, NB365_316.out, NB332_365.out, NB365_332.out, NB348_365.out, NB365_348.out, NB349_365.out, NB365_349.out, (by repeat (first | (with_reducible first | exact HB.out | apply below_alloc | apply pw_below_drewN | apply below_drew1 | refine below_set ?_ GE284.out | refine below_set ?_ GE300.out | refine below_set ?_ GE316.out | refine below_set ?_ GE332.out | refine below_set ?_ GE348.out | refine below_set ?_ GE349.out | refine below_set ?_ GE365.out) | exact HB.out))⟩)
   · skip
     refine box_step ?hg (N := 12) ?hd (cs := #[.int .i64 0, .slice none 0 0]) (t := 24) ?hr ?_; (case hd => rfl); (case hg => rfl); (case hr => first | (go_simp; done) | (go_simp; rfl))
     intro gb365 hg w71 hbox hb
     have n0_ := Aside0.mk (Kd.R_below HO282.out hb)
     have n1_ := Aside0.mk (Kd.R_below HO298.out hb)
     have n2_ := Aside0.mk (Kd.R_below HO314.out hb)
     have n3_ := Aside0.mk (Kd.R_below HO330.out hb)
     have n4_ := Aside0.mk (Kd.Q_below (by (with_reducible repeat (first | apply Kd.Q_alloc | apply Kd.Q_drewN | apply Kd.Q_drew)); exact HO346.out) hb)
     have n5_ := Aside0.mk (blk_below (g := gb284) (o := .cells #[.int .i64 t279, .slice Ao22 t280.length co22] 24 (0, 0)) BK284.out hb)
     have n6_ := Aside0.mk (blk_below (g := gb300) (o := .cells #[.int .i64 t295, .slice Ao30 t296.length co30] 24 (0, 0)) BK300.out hb)
     have n7_ := Aside0.mk (blk_below (g := gb316) (o := .cells #[.int .i64 t311, .slice Ao39 t312.length co39] 24 (0, 0)) BK316.out hb)
     have n8_ := Aside0.mk (blk_below (g := gb332) (o := .cells #[.int .i64 t327, .slice Ao48 t328.length co48] 24 (0, 0)) BK332.out hb)
     have n9_ := Aside0.mk (blk_below (g := gb348) (o := .cells #[.int .u8 t333, .int .i64 t334, .int .i64 t335, .int .i64 t336, .int .i64 t337, .int .i64 t338, .int .i64 t339, .int .i64 t340, .int .i64 t341, .int .i64 t342] 35 (0, 0)) BK348.out hb)
     have n10_ := Aside0.mk (blk_below (g := gb349) (o := .cells #[.int .i64 t343, .slice Ao68 t344.length co68] 24 (0, 0)) BK349.out hb)
     have n11_ := Aside0.mk (below_step (by repeat (first | (with_reducible first | exact HB.out | apply below_alloc | apply pw_below_drewN | apply below_drew1 | refine below_set ?_ GE284.out | refine below_set ?_ GE300.out | refine below_set ?_ GE316.out | refine below_set ?_ GE332.out | refine below_set ?_ GE348.out | refine below_set ?_ GE349.out) | exact HB.out)) hb)
     have n12_ := Aside0.mk (hbox)
     have n13_ := Aside0.mk ((by rw [hg]; exact (below_size (by repeat (first | (with_reducible first | exact HB.out | apply below_alloc | apply pw_below_drewN | apply below_drew1 | refine below_set ?_ GE284.out | refine below_set ?_ GE300.out | refine below_set ?_ GE316.out | refine below_set ?_ GE332.out | refine below_set ?_ GE348.out | refine below_set ?_ GE349.out) | exact HB.out))) : w.heap.size ≤ gb365))
     have n14_ := Aside0.mk ((by rw [hg]; exact (below_size (by repeat (first | (with_reducible first | exact HB.out | apply below_alloc | apply pw_below_drewN | apply below_drew1 | refine below_set ?_ GE284.out | refine below_set ?_ GE300.out | refine below_set ?_ GE316.out | refine below_set ?_ GE332.out | refine below_set ?_ GE348.out | refine below_set ?_ GE349.out) | exact HB.out))) : w.heap.size ≤ gb365))
     have n15_ := Aside0.mk ((by rw [hg]; exact Nat.ne_of_lt (blk_lt (g := gb284) (o := .cells #[.int .i64 t279, .slice Ao22 t280.length co22] 24 (0, 0)) BK284.out) : gb284 ≠ gb365))
     have n16_ := Aside0.mk ((by rw [hg]; exact Nat.ne_of_gt (blk_lt (g := gb284) (o := .cells #[.int .i64 t279, .slice Ao22 t280.length co22] 24 (0, 0)) BK284.out) : gb365 ≠ gb284))
     have n17_ := Aside0.mk ((by rw [hg]; exact Nat.ne_of_lt (blk_lt (g := gb300) (o := .cells #[.int .i64 t295, .slice Ao30 t296.length co30] 24 (0, 0)) BK300.out) : gb300 ≠ gb365))
     have n18_ := Aside0.mk ((by rw [hg]; exact Nat.ne_of_gt (blk_lt (g := gb300) (o := .cells #[.int .i64 t295, .slice Ao30 t296.length co30] 24 (0, 0)) BK300.out) : gb365 ≠ gb300))
     have n19_ := Aside0.mk ((by rw [hg]; exact Nat.ne_of_lt (blk_lt (g := gb316) (o := .cells #[.int .i64 t311, .slice Ao39 t312.length co39] 24 (0, 0)) BK316.out) : gb316 ≠ gb365))
     have n20_ := Aside0.mk ((by rw [hg]; exact Nat.ne_of_gt (blk_lt (g := gb316) (o := .cells #[.int .i64 t311, .slice Ao39 t312.length co39] 24 (0, 0)) BK316.out) : gb365 ≠ gb316))
     have n21_ := Aside0.mk ((by rw [hg]; exact Nat.ne_of_lt (blk_lt (g := gb332) (o := .cells #[.int .i64 t327, .slice Ao48 t328.length co48] 24 (0, 0)) BK332.out) : gb332 ≠ gb365))
     have n22_ := Aside0.mk ((by rw [hg]; exact Nat.ne_of_gt (blk_lt (g := gb332) (o := .cells #[.int .i64 t327, .slice Ao48 t328.length co48] 24 (0, 0)) BK332.out) : gb365 ≠ gb332))
     have n23_ := Aside0.mk ((by rw [hg]; exact Nat.ne_of_lt (blk_lt (g := gb348) (o := .cells #[.int .u8 t333, .int .i64 t334, .int .i64 t335, .int .i64 t336, .int .i64 t337, .int .i64 t338, .int .i64 t339, .int .i64 t340, .int .i64 t341, .int .i64 t342] 35 (0, 0)) BK348.out) : gb348 ≠ gb365))
     have n24_ := Aside0.mk ((by rw [hg]; exact Nat.ne_of_gt (blk_lt (g := gb348) (o := .cells #[.int .u8 t333, .int .i64 t334, .int .i64 t335, .int .i64 t336, .int .i64 t337, .int .i64 t338, .int .i64 t339, .int .i64 t340, .int .i64 t341, .int .i64 t342] 35 (0, 0)) BK348.out) : gb365 ≠ gb348))
     have n25_ := Aside0.mk ((by rw [hg]; exact Nat.ne_of_lt (blk_lt (g := gb349) (o := .cells #[.int .i64 t343, .slice Ao68 t344.length co68] 24 (0, 0)) BK349.out) : gb349 ≠ gb365))
     have n26_ := Aside0.mk ((by rw [hg]; exact Nat.ne_of_gt (blk_lt (g := gb349) (o := .cells #[.int .i64 t343, .slice Ao68 t344.length co68] 24 (0, 0)) BK349.out) : gb365 ≠ gb349))
     clear HO282
     clear HO298
     clear HO314
     clear HO330
     clear HO346
     clear BK284
     clear BK300
     clear BK316
     clear BK332
     clear BK348
     clear BK349
     clear HB
     have HO282 := n0_
     have HO298 := n1_
     have HO314 := n2_
     have HO330 := n3_
     have HO346 := n4_
     have BK284 := n5_
     have BK300 := n6_
     have BK316 := n7_
     have BK332 := n8_
     have BK348 := n9_
     have BK349 := n10_
     have HB := n11_
     have BK365 := n12_
     have GW365 := n13_
     have GE365 := n14_
     have NB284_365 := n15_
     have NB365_284 := n16_
     have NB300_365 := n17_
     have NB365_300 := n18_
     have NB316_365 := n19_
     have NB365_316 := n20_
     have NB332_365 := n21_
     have NB365_332 := n22_
     have NB348_365 := n23_
     have NB365_348 := n24_
     have NB349_365 := n25_
     have NB365_349 := n26_
     clear n0_ n1_ n2_ n3_ n4_ n5_ n6_ n7_ n8_ n9_ n10_ n11_ n12_ n13_ n14_ n15_ n16_ n17_ n18_ n19_ n20_ n21_ n22_ n23_ n24_ n25_ n26_
     clear hb hbox hg
     refine hK.out _ _ ⟨(blk_cell BK349.out 0).trans rfl, (blk_cell BK349.out 1).trans rfl⟩ (fun hHeld => ?_)
     clear hK K
     refine norm_ (a' := ?_) ?_ ?_
     rotate_left
     · show Act.put _ (some 12) _ = _
       simp only [Act.put, List.setIfInBounds_toArray, List.set_cons_zero, List.set_cons_succ, i64_w, i32_w]
       rfl
     refine one_ (i := 1) (N := some 44) #[true, true, false, false, false, false, true, false, false] rfl rfl (one_of HT_.out (by kernel_rfl)) (by decide) (fun K hK => ?_)
     refine goes_ Try.func25 (by kernel_rfl) rfl #[.int .i64 3] (by rfl) rfl rfl (by (try simp only [List.map_toArray, List.map_cons, List.map_nil]); first | done | rfl | (simp only [List.length_drop, List.length_take]; rfl)) ?_
     with_reducible refine (tailwaterlaw26_mark.calls 3 t350 t351 t352 t353 t354 t355 t356 t357 t358 t359 _ A9.out).mono ?_
     rintro e w72 ⟨rfl, hb⟩
     refine ⟨_, rfl, ?_⟩
     have n0_ := Aside0.mk (Kd.R_below HO282.out hb)
     have n1_ := Aside0.mk (Kd.R_below HO298.out hb)
     have n2_ := Aside0.mk (Kd.R_below HO314.out hb)
     have n3_ := Aside0.mk (Kd.R_below HO330.out hb)
     have n4_ := Aside0.mk (Kd.Q_below (by (with_reducible repeat (first | apply Kd.Q_alloc | apply Kd.Q_drewN | apply Kd.Q_drew)); exact HO346.out) hb)
     have n5_ := Aside0.mk (blk_below (g := gb284) (o := .cells #[.int .i64 t279, .slice Ao22 t280.length co22] 24 (0, 0)) BK284.out hb)
     have n6_ := Aside0.mk (blk_below (g := gb300) (o := .cells #[.int .i64 t295, .slice Ao30 t296.length co30] 24 (0, 0)) BK300.out hb)
     have n7_ := Aside0.mk (blk_below (g := gb316) (o := .cells #[.int .i64 t311, .slice Ao39 t312.length co39] 24 (0, 0)) BK316.out hb)
     have n8_ := Aside0.mk (blk_below (g := gb332) (o := .cells #[.int .i64 t327, .slice Ao48 t328.length co48] 24 (0, 0)) BK332.out hb)
     have n9_ := Aside0.mk (blk_below (g := gb348) (o := .cells #[.int .u8 t333, .int .i64 t334, .int .i64 t335, .int .i64 t336, .int .i64 t337, .int .i64 t338, .int .i64 t339, .int .i64 t340, .int .i64 t341, .int .i64 t342] 35 (0, 0)) BK348.out hb)
     have n10_ := Aside0.mk (blk_below (g := gb349) (o := .cells #[.int .i64 t343, .slice Ao68 t344.length co68] 24 (0, 0)) BK349.out hb)
     have n11_ := Aside0.mk (blk_below (g := gb365) (o := .cells #[.int .i64 0, .slice none 0 0] 24 (0, 0)) BK365.out hb)
     have n12_ := Aside0.mk (below_step (by repeat (first | (with_reducible first | exact HB.out | apply below_alloc | apply pw_below_drewN | apply below_drew1 | refine below_set ?_ GE284.out | refine below_set ?_ GE300.out | refine below_set ?_ GE316.out | refine below_set ?_ GE332.out | refine below_set ?_ GE348.out | refine below_set ?_ GE349.out | refine below_set ?_ GE365.out) | exact HB.out)) hb)
     clear HO282
     clear HO298
     clear HO314
     clear HO330
     clear HO346
     clear BK284
     clear BK300
     clear BK316
     clear BK332
     clear BK348
     clear BK349
     clear BK365
     clear HB
     have HO282 := n0_
     have HO298 := n1_
     have HO314 := n2_
     have HO330 := n3_
     have HO346 := n4_
     have BK284 := n5_
     have BK300 := n6_
     have BK316 := n7_
     have BK332 := n8_
     have BK348 := n9_
     have BK349 := n10_
     have BK365 := n11_
     have HB := n12_
     clear n0_ n1_ n2_ n3_ n4_ n5_ n6_ n7_ n8_ n9_ n10_ n11_ n12_
     (try clear hb)
     (try clear hb2)
     (try clear hk)
     (try clear hi)
     refine hK.out _ _ ⟨(blk_cell BK349.out 0).trans rfl, (blk_cell BK349.out 1).trans rfl⟩ (fun hHeld => ?_)
     clear hK K
     refine norm_ (a' := ?_) ?_ ?_
     rotate_left
     · show Act.put _ (some 44) _ = _
       simp only [Act.put, List.setIfInBounds_toArray, List.set_cons_zero, List.set_cons_succ, i64_w, i32_w]
       rfl
     refine one_ (i := 2) (N := some 45) #[true, true, true, false, false, false, true, false, false] rfl rfl (one_of HT_.out (by kernel_rfl)) (by decide) (fun K hK => ?_)
     refine goes_ Try.func16 (by kernel_rfl) rfl #[.agg #[.int .i64 t343, .slice Ao68 t344.length co68], .agg #[.int .u8 t350, .int .i64 t351, .int .i64 t352, .int .i64 t353, .int .i64 t354, .int .i64 t355, .int .i64 t356, .int .i64 t357, .int .i64 t358, .int .i64 t359]] (by rfl) rfl rfl (by (try simp only [List.map_toArray, List.map_cons, List.map_nil]); first | done | rfl | (simp only [List.length_drop, List.length_take]; rfl)) ?_
     with_reducible refine (channel_Put.calls k t343 _ _ t344 t350 t351 t352 t353 t354 t355 t356 t357 t358 t359 t360 t361 t364 _ ?side1 ?side2 A10.out).mono ?_
     (case side1 => repeat (first | exact (Kd.Q_reads' HO346.out).2.2 | (with_reducible refine Kd.C_alloc ?_ _) | (with_reducible refine Kd.C_drewN ?_ _) | (with_reducible refine Kd.C_drew ?_)))
     (case side2 => exact (Kd.Q_reads' HO346.out).2.1)
     rintro e w73 ⟨v362, rfl, ho0, hb⟩
     refine ⟨_, rfl, ?_⟩
     have n0_ := Aside0.mk (Kd.R_elder' HO282.out (Kd.R_base ho0) hb)
     have n1_ := Aside0.mk (Kd.R_elder' HO298.out (Kd.R_base ho0) hb)
     have n2_ := Aside0.mk (Kd.R_elder' HO314.out (Kd.R_base ho0) hb)
     have n3_ := Aside0.mk (Kd.R_elder' HO330.out (Kd.R_base ho0) hb)
     have n4_ := Aside0.mk (Kd.Q_elder' (by (with_reducible repeat (first | apply Kd.Q_alloc | apply Kd.Q_drewN | apply Kd.Q_drew)); exact HO346.out) (Kd.R_base ho0) hb)
     have n5_ := Aside0.mk (Kd.R_lower (Kd.R_newB (Kd.R_new' (Kd.R_new' (Kd.R_new' (Kd.R_new' (Kd.R_new' ho0 (Kd.R_lt HO282.out)) (Kd.R_lt HO298.out)) (Kd.R_lt HO314.out)) (Kd.R_lt HO330.out)) (Kd.Q_lt (by (with_reducible repeat (first | apply Kd.Q_alloc | apply Kd.Q_drewN | apply Kd.Q_drew)); exact HO346.out))) (g := gb348) (o := .cells #[.int .u8 t333, .int .i64 t334, .int .i64 t335, .int .i64 t336, .int .i64 t337, .int .i64 t338, .int .i64 t339, .int .i64 t340, .int .i64 t341, .int .i64 t342] 35 (0, 0)) BK348.out) (below_size (by repeat (first | (with_reducible first | exact HB.out | apply below_alloc | apply pw_below_drewN | apply below_drew1 | refine below_set ?_ GE284.out | refine below_set ?_ GE300.out | refine below_set ?_ GE316.out | refine below_set ?_ GE332.out | refine below_set ?_ GE348.out | refine below_set ?_ GE349.out | refine below_set ?_ GE365.out) | exact HB.out))))
     have n6_ := Aside0.mk (blk_below (g := gb284) (o := .cells #[.int .i64 t279, .slice Ao22 t280.length co22] 24 (0, 0)) BK284.out hb)
     have n7_ := Aside0.mk (blk_below (g := gb300) (o := .cells #[.int .i64 t295, .slice Ao30 t296.length co30] 24 (0, 0)) BK300.out hb)
     have n8_ := Aside0.mk (blk_below (g := gb316) (o := .cells #[.int .i64 t311, .slice Ao39 t312.length co39] 24 (0, 0)) BK316.out hb)
     have n9_ := Aside0.mk (blk_below (g := gb332) (o := .cells #[.int .i64 t327, .slice Ao48 t328.length co48] 24 (0, 0)) BK332.out hb)
     have n10_ := Aside0.mk (blk_below (g := gb348) (o := .cells #[.int .u8 t333, .int .i64 t334, .int .i64 t335, .int .i64 t336, .int .i64 t337, .int .i64 t338, .int .i64 t339, .int .i64 t340, .int .i64 t341, .int .i64 t342] 35 (0, 0)) BK348.out hb)
     have n11_ := Aside0.mk (blk_below (g := gb349) (o := .cells #[.int .i64 t343, .slice Ao68 t344.length co68] 24 (0, 0)) BK349.out hb)
     have n12_ := Aside0.mk (blk_below (g := gb365) (o := .cells #[.int .i64 0, .slice none 0 0] 24 (0, 0)) BK365.out hb)
     have n13_ := Aside0.mk (below_step (by repeat (first | (with_reducible first | exact HB.out | apply below_alloc | apply pw_below_drewN | apply below_drew1 | refine below_set ?_ GE284.out | refine below_set ?_ GE300.out | refine below_set ?_ GE316.out | refine below_set ?_ GE332.out | refine below_set ?_ GE348.out | refine below_set ?_ GE349.out | refine below_set ?_ GE365.out) | exact HB.out)) hb)
     clear HO282
     clear HO298
     clear HO314
     clear HO330
     clear HO346
     clear BK284
     clear BK300
     clear BK316
     clear BK332
     clear BK348
     clear BK349
     clear BK365
     clear HB
     have HO282 := n0_
     have HO298 := n1_
     have HO314 := n2_
     have HO330 := n3_
     have HO346 := n4_
     have HO363 := n5_
     have BK284 := n6_
     have BK300 := n7_
     have BK316 := n8_
     have BK332 := n9_
     have BK348 := n10_
     have BK349 := n11_
     have BK365 := n12_
     have HB := n13_
     clear n0_ n1_ n2_ n3_ n4_ n5_ n6_ n7_ n8_ n9_ n10_ n11_ n12_ n13_
     (try clear hb)
     (try clear hb2)
     (try clear hk)
     (try clear hi)
     (try clear ho0)
     refine hK.out _ _ ⟨(blk_cell BK349.out 0).trans rfl, (blk_cell BK349.out 1).trans rfl⟩ (fun hHeld => ?_)
     clear hK K
     refine norm_ (a' := ?_) ?_ ?_
     rotate_left
     · show Act.put _ (some 45) _ = _
       simp only [Act.put, List.setIfInBounds_toArray, List.set_cons_zero, List.set_cons_succ, i64_w, i32_w]
       rfl
     refine pure_ (i := 3) (N := some 42) (v := ?_) (a' := ?_) #[true, true, true, true, false, false, true, false, false] rfl rfl (any_of HT_.out (by kernel_rfl)) (fun _ _ _ h => h) (Or.inl ⟨by rfl, ?_⟩) ?_ ?_
     rotate_left
     · intro w'
       go_simp
       with_reducible rfl
     rotate_left
     · simp only [Act.put, List.setIfInBounds_toArray, List.set_cons_zero, List.set_cons_succ, i64_w, i32_w]
       rfl
     refine pure_ (i := 4) (N := some 46) (v := ?_) (a' := ?_) #[true, true, true, true, true, false, true, false, false] rfl rfl (any_of HT_.out (by kernel_rfl)) (fun _ _ _ h => h) (Or.inl ⟨by rfl, ?_⟩) ?_ ?_
     rotate_left
     · intro w'
       go_simp
       with_reducible rfl
     rotate_left
     · simp only [Act.put, List.setIfInBounds_toArray, List.set_cons_zero, List.set_cons_succ, i64_w, i32_w]
       rfl
     refine pure_ (i := 5) (N := some 47) (v := ?_) (a' := ?_) #[true, true, true, true, true, true, true, false, false] rfl rfl (any_of HT_.out (by kernel_rfl)) (fun _ _ _ h => h) (Or.inl ⟨by rfl, ?_⟩) ?_ ?_
     rotate_left
     · intro w'
       go_simp
       with_reducible rfl
     rotate_left
     · simp only [Act.put, List.setIfInBounds_toArray, List.set_cons_zero, List.set_cons_succ, i64_w, i32_w]
       rfl
     exact norm_ (by simp only [putAll, Act.put, List.setIfInBounds_toArray, List.set_cons_zero, List.set_cons_succ]) (hCont (v362, gb365) _ ⟨hHeld, (by (with_reducible repeat (first | apply Kd.R_alloc | apply Kd.R_drewN | apply Kd.R_drew)); exact Kd.R_mono HO282.out (fun _ hk => ⟨hk.1.1, ⟨hk.1.2.1, ⟨hk.1.2.2.1, ⟨hk.1.2.2.2.1, ⟨hk.2, hk.1.2.2.2.2⟩⟩⟩⟩⟩)), (by (with_reducible repeat (first | apply Kd.R_alloc | apply Kd.R_drewN | apply Kd.R_drew)); exact Kd.R_mono HO298.out (fun _ hk => ⟨hk.1.1, ⟨hk.1.2.1, ⟨hk.1.2.2.1, ⟨hk.1.2.2.2.1, ⟨hk.2, hk.1.2.2.2.2⟩⟩⟩⟩⟩)), (by (with_reducible repeat (first | apply Kd.R_alloc | apply Kd.R_drewN | apply Kd.R_drew)); exact Kd.R_mono HO314.out (fun _ hk => ⟨hk.1.1, ⟨hk.1.2.1, ⟨hk.1.2.2.1, ⟨hk.1.2.2.2.1, ⟨hk.2, hk.1.2.2.2.2⟩⟩⟩⟩⟩)), (by (with_reducible repeat (first | apply Kd.R_alloc | apply Kd.R_drewN | apply Kd.R_drew)); exact Kd.R_mono HO330.out (fun _ hk => ⟨hk.1.1, ⟨hk.1.2.1, ⟨hk.1.2.2.1, ⟨hk.1.2.2.2.1, ⟨hk.2, hk.1.2.2.2.2⟩⟩⟩⟩⟩)), (by (with_reducible repeat (first | apply Kd.Q_alloc | apply Kd.Q_drewN | apply Kd.Q_drew)); exact Kd.Q_mono HO346.out (fun _ hk => ⟨hk.1.1, ⟨hk.1.2.1, ⟨hk.1.2.2.1, ⟨hk.1.2.2.2.1, ⟨hk.2, hk.1.2.2.2.2⟩⟩⟩⟩⟩)), (by (with_reducible repeat (first | apply Kd.R_alloc | apply Kd.R_drewN | apply Kd.R_drew)); exact Kd.R_mono HO363.out (fun _ hk => ⟨hk.1.1.1.1.1.2, ⟨hk.1.1.1.1.2, ⟨hk.1.1.1.2, ⟨hk.1.1.2, ⟨hk.1.2, hk.2⟩⟩⟩⟩⟩)), BK284.out, BK300.out, BK316.out, BK332.out, BK348.out, BK349.out, BK365.out, GW365.out, GE365.out, NB284_365.out, NB365_284.out, NB300_365.out, NB365_300.out, NB316_365.out, NB365_316.out, NB332_365.out, NB365_332.out, NB348_365.out, NB365_348.out, NB349_365.out, NB365_349.out, (by repeat (first | (with_reducible first | exact HB.out | apply below_alloc | apply pw_below_drewN | apply below_drew1 | refine below_set ?_ GE284.out | refine below_set ?_ GE300.out | refine below_set ?_ GE316.out | refine below_set ?_ GE332.out | refine below_set ?_ GE348.out | refine below_set ?_ GE349.out | refine below_set ?_ GE365.out) | exact HB.out))⟩)
 rintro ⟨v362, gb365⟩ w74 ⟨hS_, h0_, h1_, h2_, h3_, h4_, h5_, h6_, h7_, h8_, h9_, h10_, h11_, h12_, h13_, h14_, h15_, h16_, h17_, h18_, h19_, h20_, h21_, h22_, h23_, h24_, h25_, h26_, h27_⟩
 have n0_ : Aside0 (Kd.R k35 35 w74 w.heap.size (fun k_ => some k_ ≠ (.slice Ao30 t296.length co30 : Value).ownBlock ∧ some k_ ≠ (.slice Ao39 t312.length co39 : Value).ownBlock ∧ some k_ ≠ (.slice Ao48 t328.length co48 : Value).ownBlock ∧ some k_ ≠ (.slice Ao68 t344.length co68 : Value).ownBlock ∧ some k_ ≠ (v362 : Value).ownBlock ∧ k_ ≠ gb348) (.slice Ao22 t280.length co22) t280) := ⟨h0_⟩
 have n1_ : Aside0 (Kd.R k35 35 w74 w.heap.size (fun k_ => some k_ ≠ (.slice Ao22 t280.length co22 : Value).ownBlock ∧ some k_ ≠ (.slice Ao39 t312.length co39 : Value).ownBlock ∧ some k_ ≠ (.slice Ao48 t328.length co48 : Value).ownBlock ∧ some k_ ≠ (.slice Ao68 t344.length co68 : Value).ownBlock ∧ some k_ ≠ (v362 : Value).ownBlock ∧ k_ ≠ gb348) (.slice Ao30 t296.length co30) t296) := ⟨h1_⟩
 have n2_ : Aside0 (Kd.R k35 35 w74 w.heap.size (fun k_ => some k_ ≠ (.slice Ao22 t280.length co22 : Value).ownBlock ∧ some k_ ≠ (.slice Ao30 t296.length co30 : Value).ownBlock ∧ some k_ ≠ (.slice Ao48 t328.length co48 : Value).ownBlock ∧ some k_ ≠ (.slice Ao68 t344.length co68 : Value).ownBlock ∧ some k_ ≠ (v362 : Value).ownBlock ∧ k_ ≠ gb348) (.slice Ao39 t312.length co39) t312) := ⟨h2_⟩
 have n3_ : Aside0 (Kd.R k35 35 w74 w.heap.size (fun k_ => some k_ ≠ (.slice Ao22 t280.length co22 : Value).ownBlock ∧ some k_ ≠ (.slice Ao30 t296.length co30 : Value).ownBlock ∧ some k_ ≠ (.slice Ao39 t312.length co39 : Value).ownBlock ∧ some k_ ≠ (.slice Ao68 t344.length co68 : Value).ownBlock ∧ some k_ ≠ (v362 : Value).ownBlock ∧ k_ ≠ gb348) (.slice Ao48 t328.length co48) t328) := ⟨h3_⟩
 have n4_ : Aside0 (Kd.Q k35 35 w74 w.heap.size (fun k_ => some k_ ≠ (.slice Ao22 t280.length co22 : Value).ownBlock ∧ some k_ ≠ (.slice Ao30 t296.length co30 : Value).ownBlock ∧ some k_ ≠ (.slice Ao39 t312.length co39 : Value).ownBlock ∧ some k_ ≠ (.slice Ao48 t328.length co48 : Value).ownBlock ∧ some k_ ≠ (v362 : Value).ownBlock ∧ k_ ≠ gb348) (.slice Ao68 t344.length co68) t344) := ⟨h4_⟩
 have n5_ : Aside0 (Kd.R k35 35 w74 w.heap.size (fun k_ => some k_ ≠ (.slice Ao22 t280.length co22 : Value).ownBlock ∧ some k_ ≠ (.slice Ao30 t296.length co30 : Value).ownBlock ∧ some k_ ≠ (.slice Ao39 t312.length co39 : Value).ownBlock ∧ some k_ ≠ (.slice Ao48 t328.length co48 : Value).ownBlock ∧ some k_ ≠ (.slice Ao68 t344.length co68 : Value).ownBlock ∧ k_ ≠ gb348) v362 t361) := ⟨h5_⟩
 have n6_ : Aside0 (w74.heap[gb284]? = some (.cells #[.int .i64 t279, .slice Ao22 t280.length co22] 24 (0, 0))) := ⟨h6_⟩
 have n7_ : Aside0 (w74.heap[gb300]? = some (.cells #[.int .i64 t295, .slice Ao30 t296.length co30] 24 (0, 0))) := ⟨h7_⟩
 have n8_ : Aside0 (w74.heap[gb316]? = some (.cells #[.int .i64 t311, .slice Ao39 t312.length co39] 24 (0, 0))) := ⟨h8_⟩
 have n9_ : Aside0 (w74.heap[gb332]? = some (.cells #[.int .i64 t327, .slice Ao48 t328.length co48] 24 (0, 0))) := ⟨h9_⟩
 have n10_ : Aside0 (w74.heap[gb348]? = some (.cells #[.int .u8 t333, .int .i64 t334, .int .i64 t335, .int .i64 t336, .int .i64 t337, .int .i64 t338, .int .i64 t339, .int .i64 t340, .int .i64 t341, .int .i64 t342] 35 (0, 0))) := ⟨h10_⟩
 have n11_ : Aside0 (w74.heap[gb349]? = some (.cells #[.int .i64 t343, .slice Ao68 t344.length co68] 24 (0, 0))) := ⟨h11_⟩
 have n12_ : Aside0 (w74.heap[gb365]? = some (.cells #[.int .i64 0, .slice none 0 0] 24 (0, 0))) := ⟨h12_⟩
 have n13_ : Aside0 (w.heap.size ≤ gb365) := ⟨h13_⟩
 have n14_ : Aside0 (w.heap.size ≤ gb365) := ⟨h14_⟩
 have n15_ : Aside0 (gb284 ≠ gb365) := ⟨h15_⟩
 have n16_ : Aside0 (gb365 ≠ gb284) := ⟨h16_⟩
 have n17_ : Aside0 (gb300 ≠ gb365) := ⟨h17_⟩
 have n18_ : Aside0 (gb365 ≠ gb300) := ⟨h18_⟩
 have n19_ : Aside0 (gb316 ≠ gb365) := ⟨h19_⟩
 have n20_ : Aside0 (gb365 ≠ gb316) := ⟨h20_⟩
 have n21_ : Aside0 (gb332 ≠ gb365) := ⟨h21_⟩
 have n22_ : Aside0 (gb365 ≠ gb332) := ⟨h22_⟩
 have n23_ : Aside0 (gb348 ≠ gb365) := ⟨h23_⟩
 have n24_ : Aside0 (gb365 ≠ gb348) := ⟨h24_⟩
 have n25_ : Aside0 (gb349 ≠ gb365) := ⟨h25_⟩
 have n26_ : Aside0 (gb365 ≠ gb349) := ⟨h26_⟩
 have n27_ : Aside0 (Below w.heap.size w w74) := ⟨h27_⟩
 clear HO282
 clear HO298
 clear HO314
 clear HO330
 clear HO346
 clear BK284
 clear BK300
 clear BK316
 clear BK332
 clear BK348
 clear BK349
 clear HB
 clear h0_ h1_ h2_ h3_ h4_ h5_ h6_ h7_ h8_ h9_ h10_ h11_ h12_ h13_ h14_ h15_ h16_ h17_ h18_ h19_ h20_ h21_ h22_ h23_ h24_ h25_ h26_ h27_
 have HO282 := n0_
 have HO298 := n1_
 have HO314 := n2_
 have HO330 := n3_
 have HO346 := n4_
 have HO363 := n5_
 have BK284 := n6_
 have BK300 := n7_
 have BK316 := n8_
 have BK332 := n9_
 have BK348 := n10_
 have BK349 := n11_
 have BK365 := n12_
 have GW365 := n13_
 have GE365 := n14_
 have NB284_365 := n15_
 have NB365_284 := n16_
 have NB300_365 := n17_
 have NB365_300 := n18_
 have NB316_365 := n19_
 have NB365_316 := n20_
 have NB332_365 := n21_
 have NB365_332 := n22_
 have NB348_365 := n23_
 have NB365_348 := n24_
 have NB349_365 := n25_
 have NB365_349 := n26_
 have HB := n27_
 clear n0_ n1_ n2_ n3_ n4_ n5_ n6_ n7_ n8_ n9_ n10_ n11_ n12_ n13_ n14_ n15_ n16_ n17_ n18_ n19_ n20_ n21_ n22_ n23_ n24_ n25_ n26_ n27_
 have hHeld : w74.cell? ⟨gb349, 0, none⟩ = some (.int .i64 t343) ∧ w74.cell? ⟨gb349, 1, none⟩ = some (.slice Ao68 t344.length co68) := hS_
 obtain ⟨Ao76, co76, eo76⟩ := Kd.R_slice HO363.out
 (first | subst eo76 | (injection eo76 with f1_ f2_ f3_; have f4_ := f1_.symm; have f5_ := f3_.symm; clear f1_ f2_ f3_; subst f4_; subst f5_))
 refine norm_ (a' := ?_) ?_ ?_
 rotate_left
 · simp only [putAll, Act.put, List.setIfInBounds_toArray, List.set_cons_zero, List.set_cons_succ]
   rfl
 refine one_ (i := 7) (N := none) #[true, true, true, true, true, true, true, true, false] rfl rfl (one_of HT_.out (by kernel_rfl)) (by decide) (fun K hK => ?_)
 have hs75 : w74.cell? ⟨gb365, 0, none⟩ = some (.int .i64 0) := (blk_cell BK365.out 0).trans rfl
 have hfs75 := blk_frozen BK365.out 0
 have hns75_0 := NB284_365.out
 have hns75_1 := NB300_365.out
 have hns75_2 := NB316_365.out
 have hns75_3 := NB332_365.out
 have hns75_4 := NB348_365.out
 have hns75_5 := NB349_365.out
 have hms75_0 := NB365_284.out
 have hms75_1 := NB365_300.out
 have hms75_2 := NB365_316.out
 have hms75_3 := NB365_332.out
 have hms75_4 := NB365_348.out
 have hms75_5 := NB365_349.out
 have hs77 : w74.cell? ⟨gb365, 1, none⟩ = some (.slice none 0 0) := (blk_cell BK365.out 1).trans rfl
 have hfs77 := blk_frozen BK365.out 1
 have hns77_0 := NB284_365.out
 have hns77_1 := NB300_365.out
 have hns77_2 := NB316_365.out
 have hns77_3 := NB332_365.out
 have hns77_4 := NB348_365.out
 have hns77_5 := NB349_365.out
 have hms77_0 := NB365_284.out
 have hms77_1 := NB365_300.out
 have hms77_2 := NB365_316.out
 have hms77_3 := NB365_332.out
 have hms77_4 := NB365_348.out
 have hms77_5 := NB365_349.out
 refine skip_ (w1 := ?_) (by rfl) rfl ?_ ?_
 rotate_left
 · go_simp
   rfl
 refine hK.out _ _ ⟨((cell_far (p := ⟨gb365, _, none⟩) NB349_365.out _).trans (((cell_far (p := ⟨gb365, _, none⟩) NB349_365.out _).trans (hHeld.1)))), ((cell_far (p := ⟨gb365, _, none⟩) NB349_365.out _).trans (((cell_far (p := ⟨gb365, _, none⟩) NB349_365.out _).trans (hHeld.2))))⟩ (fun hHeld => ?_)
 clear hK K
 refine pure_ (i := 8) (N := some 13) (v := ?_) (a' := ?_) #[true, true, true, true, true, true, true, true, true] rfl rfl (any_of HT_.out (by kernel_rfl)) (fun _ _ _ h => h) (Or.inl ⟨by rfl, ?_⟩) ?_ ?_
 rotate_left
 · intro w'
   go_simp
   with_reducible rfl
 rotate_left
 · simp only [Act.put, List.setIfInBounds_toArray, List.set_cons_zero, List.set_cons_succ, i64_w, i32_w]
   rfl
 refine done_ (done_of HT_.out (by kernel_rfl)) ?_
 try go_wp2
 have n0_ : Aside0 (Kd.R k35 35 ((w74.setCell ⟨gb365, 0, none⟩ (.int .i64 t360)).setCell ⟨gb365, 1, none⟩ (.slice Ao76 t361.length co76)) w.heap.size (fun k_ => some k_ ≠ (.slice Ao30 t296.length co30 : Value).ownBlock ∧ some k_ ≠ (.slice Ao39 t312.length co39 : Value).ownBlock ∧ some k_ ≠ (.slice Ao48 t328.length co48 : Value).ownBlock ∧ some k_ ≠ (.slice Ao68 t344.length co68 : Value).ownBlock ∧ some k_ ≠ (.slice Ao76 t361.length co76 : Value).ownBlock ∧ k_ ≠ gb348) (.slice Ao22 t280.length co22) t280) := ⟨by (with_reducible repeat (first | apply Kd.R_alloc | apply Kd.R_drewN | apply Kd.R_drew)); exact Kd.R_mono (Kd.R_far (p := ⟨gb365, 1, none⟩) (Kd.R_far (p := ⟨gb365, 0, none⟩) (Kd.R_types HO282.out BK365.out (by decide)) (fun _ hk => hk.2) (.int .i64 t360)) (fun _ hk => hk.2) (.slice Ao76 t361.length co76)) (fun _ hk => ⟨hk.1.1, ⟨hk.1.2.1, ⟨hk.1.2.2.1, ⟨hk.1.2.2.2.1, ⟨hk.1.2.2.2.2.1, hk.1.2.2.2.2.2⟩⟩⟩⟩⟩)⟩
 have n1_ : Aside0 (Kd.R k35 35 ((w74.setCell ⟨gb365, 0, none⟩ (.int .i64 t360)).setCell ⟨gb365, 1, none⟩ (.slice Ao76 t361.length co76)) w.heap.size (fun k_ => some k_ ≠ (.slice Ao22 t280.length co22 : Value).ownBlock ∧ some k_ ≠ (.slice Ao39 t312.length co39 : Value).ownBlock ∧ some k_ ≠ (.slice Ao48 t328.length co48 : Value).ownBlock ∧ some k_ ≠ (.slice Ao68 t344.length co68 : Value).ownBlock ∧ some k_ ≠ (.slice Ao76 t361.length co76 : Value).ownBlock ∧ k_ ≠ gb348) (.slice Ao30 t296.length co30) t296) := ⟨by (with_reducible repeat (first | apply Kd.R_alloc | apply Kd.R_drewN | apply Kd.R_drew)); exact Kd.R_mono (Kd.R_far (p := ⟨gb365, 1, none⟩) (Kd.R_far (p := ⟨gb365, 0, none⟩) (Kd.R_types HO298.out BK365.out (by decide)) (fun _ hk => hk.2) (.int .i64 t360)) (fun _ hk => hk.2) (.slice Ao76 t361.length co76)) (fun _ hk => ⟨hk.1.1, ⟨hk.1.2.1, ⟨hk.1.2.2.1, ⟨hk.1.2.2.2.1, ⟨hk.1.2.2.2.2.1, hk.1.2.2.2.2.2⟩⟩⟩⟩⟩)⟩
 have n2_ : Aside0 (Kd.R k35 35 ((w74.setCell ⟨gb365, 0, none⟩ (.int .i64 t360)).setCell ⟨gb365, 1, none⟩ (.slice Ao76 t361.length co76)) w.heap.size (fun k_ => some k_ ≠ (.slice Ao22 t280.length co22 : Value).ownBlock ∧ some k_ ≠ (.slice Ao30 t296.length co30 : Value).ownBlock ∧ some k_ ≠ (.slice Ao48 t328.length co48 : Value).ownBlock ∧ some k_ ≠ (.slice Ao68 t344.length co68 : Value).ownBlock ∧ some k_ ≠ (.slice Ao76 t361.length co76 : Value).ownBlock ∧ k_ ≠ gb348) (.slice Ao39 t312.length co39) t312) := ⟨by (with_reducible repeat (first | apply Kd.R_alloc | apply Kd.R_drewN | apply Kd.R_drew)); exact Kd.R_mono (Kd.R_far (p := ⟨gb365, 1, none⟩) (Kd.R_far (p := ⟨gb365, 0, none⟩) (Kd.R_types HO314.out BK365.out (by decide)) (fun _ hk => hk.2) (.int .i64 t360)) (fun _ hk => hk.2) (.slice Ao76 t361.length co76)) (fun _ hk => ⟨hk.1.1, ⟨hk.1.2.1, ⟨hk.1.2.2.1, ⟨hk.1.2.2.2.1, ⟨hk.1.2.2.2.2.1, hk.1.2.2.2.2.2⟩⟩⟩⟩⟩)⟩
 have n3_ : Aside0 (Kd.R k35 35 ((w74.setCell ⟨gb365, 0, none⟩ (.int .i64 t360)).setCell ⟨gb365, 1, none⟩ (.slice Ao76 t361.length co76)) w.heap.size (fun k_ => some k_ ≠ (.slice Ao22 t280.length co22 : Value).ownBlock ∧ some k_ ≠ (.slice Ao30 t296.length co30 : Value).ownBlock ∧ some k_ ≠ (.slice Ao39 t312.length co39 : Value).ownBlock ∧ some k_ ≠ (.slice Ao68 t344.length co68 : Value).ownBlock ∧ some k_ ≠ (.slice Ao76 t361.length co76 : Value).ownBlock ∧ k_ ≠ gb348) (.slice Ao48 t328.length co48) t328) := ⟨by (with_reducible repeat (first | apply Kd.R_alloc | apply Kd.R_drewN | apply Kd.R_drew)); exact Kd.R_mono (Kd.R_far (p := ⟨gb365, 1, none⟩) (Kd.R_far (p := ⟨gb365, 0, none⟩) (Kd.R_types HO330.out BK365.out (by decide)) (fun _ hk => hk.2) (.int .i64 t360)) (fun _ hk => hk.2) (.slice Ao76 t361.length co76)) (fun _ hk => ⟨hk.1.1, ⟨hk.1.2.1, ⟨hk.1.2.2.1, ⟨hk.1.2.2.2.1, ⟨hk.1.2.2.2.2.1, hk.1.2.2.2.2.2⟩⟩⟩⟩⟩)⟩
 have n4_ : Aside0 (Kd.Q k35 35 ((w74.setCell ⟨gb365, 0, none⟩ (.int .i64 t360)).setCell ⟨gb365, 1, none⟩ (.slice Ao76 t361.length co76)) w.heap.size (fun k_ => some k_ ≠ (.slice Ao22 t280.length co22 : Value).ownBlock ∧ some k_ ≠ (.slice Ao30 t296.length co30 : Value).ownBlock ∧ some k_ ≠ (.slice Ao39 t312.length co39 : Value).ownBlock ∧ some k_ ≠ (.slice Ao48 t328.length co48 : Value).ownBlock ∧ some k_ ≠ (.slice Ao76 t361.length co76 : Value).ownBlock ∧ k_ ≠ gb348) (.slice Ao68 t344.length co68) t344) := ⟨by (with_reducible repeat (first | apply Kd.Q_alloc | apply Kd.Q_drewN | apply Kd.Q_drew)); exact Kd.Q_mono (Kd.Q_far (p := ⟨gb365, 1, none⟩) (Kd.Q_far (p := ⟨gb365, 0, none⟩) (Kd.Q_types HO346.out BK365.out (by decide)) (fun _ hk => hk.2) (.int .i64 t360)) (fun _ hk => hk.2) (.slice Ao76 t361.length co76)) (fun _ hk => ⟨hk.1.1, ⟨hk.1.2.1, ⟨hk.1.2.2.1, ⟨hk.1.2.2.2.1, ⟨hk.1.2.2.2.2.1, hk.1.2.2.2.2.2⟩⟩⟩⟩⟩)⟩
 have n5_ : Aside0 (Kd.R k35 35 ((w74.setCell ⟨gb365, 0, none⟩ (.int .i64 t360)).setCell ⟨gb365, 1, none⟩ (.slice Ao76 t361.length co76)) w.heap.size (fun k_ => some k_ ≠ (.slice Ao22 t280.length co22 : Value).ownBlock ∧ some k_ ≠ (.slice Ao30 t296.length co30 : Value).ownBlock ∧ some k_ ≠ (.slice Ao39 t312.length co39 : Value).ownBlock ∧ some k_ ≠ (.slice Ao48 t328.length co48 : Value).ownBlock ∧ some k_ ≠ (.slice Ao68 t344.length co68 : Value).ownBlock ∧ k_ ≠ gb348) (.slice Ao76 t361.length co76) t361) := ⟨by (with_reducible repeat (first | apply Kd.R_alloc | apply Kd.R_drewN | apply Kd.R_drew)); exact Kd.R_mono (Kd.R_far (p := ⟨gb365, 1, none⟩) (Kd.R_far (p := ⟨gb365, 0, none⟩) (Kd.R_types HO363.out BK365.out (by decide)) (fun _ hk => hk.2) (.int .i64 t360)) (fun _ hk => hk.2) (.slice Ao76 t361.length co76)) (fun _ hk => ⟨hk.1.1, ⟨hk.1.2.1, ⟨hk.1.2.2.1, ⟨hk.1.2.2.2.1, ⟨hk.1.2.2.2.2.1, hk.1.2.2.2.2.2⟩⟩⟩⟩⟩)⟩
 have n6_ : Aside0 (((w74.setCell ⟨gb365, 0, none⟩ (.int .i64 t360)).setCell ⟨gb365, 1, none⟩ (.slice Ao76 t361.length co76)).heap[gb284]? = some (.cells #[.int .i64 t279, .slice Ao22 t280.length co22] 24 (0, 0))) := ⟨by (with_reducible repeat (first | refine blk_drewN ?_ _ | refine blk_drew ?_ | refine blk_alloc ?_ _)); refine blk_far ?_ NB284_365.out _; (with_reducible repeat (first | refine blk_drewN ?_ _ | refine blk_drew ?_ | refine blk_alloc ?_ _)); refine blk_far ?_ NB284_365.out _; (with_reducible repeat (first | refine blk_drewN ?_ _ | refine blk_drew ?_ | refine blk_alloc ?_ _)); exact BK284.out⟩
 have n7_ : Aside0 (((w74.setCell ⟨gb365, 0, none⟩ (.int .i64 t360)).setCell ⟨gb365, 1, none⟩ (.slice Ao76 t361.length co76)).heap[gb300]? = some (.cells #[.int .i64 t295, .slice Ao30 t296.length co30] 24 (0, 0))) := ⟨by (with_reducible repeat (first | refine blk_drewN ?_ _ | refine blk_drew ?_ | refine blk_alloc ?_ _)); refine blk_far ?_ NB300_365.out _; (with_reducible repeat (first | refine blk_drewN ?_ _ | refine blk_drew ?_ | refine blk_alloc ?_ _)); refine blk_far ?_ NB300_365.out _; (with_reducible repeat (first | refine blk_drewN ?_ _ | refine blk_drew ?_ | refine blk_alloc ?_ _)); exact BK300.out⟩
 have n8_ : Aside0 (((w74.setCell ⟨gb365, 0, none⟩ (.int .i64 t360)).setCell ⟨gb365, 1, none⟩ (.slice Ao76 t361.length co76)).heap[gb316]? = some (.cells #[.int .i64 t311, .slice Ao39 t312.length co39] 24 (0, 0))) := ⟨by (with_reducible repeat (first | refine blk_drewN ?_ _ | refine blk_drew ?_ | refine blk_alloc ?_ _)); refine blk_far ?_ NB316_365.out _; (with_reducible repeat (first | refine blk_drewN ?_ _ | refine blk_drew ?_ | refine blk_alloc ?_ _)); refine blk_far ?_ NB316_365.out _; (with_reducible repeat (first | refine blk_drewN ?_ _ | refine blk_drew ?_ | refine blk_alloc ?_ _)); exact BK316.out⟩
 have n9_ : Aside0 (((w74.setCell ⟨gb365, 0, none⟩ (.int .i64 t360)).setCell ⟨gb365, 1, none⟩ (.slice Ao76 t361.length co76)).heap[gb332]? = some (.cells #[.int .i64 t327, .slice Ao48 t328.length co48] 24 (0, 0))) := ⟨by (with_reducible repeat (first | refine blk_drewN ?_ _ | refine blk_drew ?_ | refine blk_alloc ?_ _)); refine blk_far ?_ NB332_365.out _; (with_reducible repeat (first | refine blk_drewN ?_ _ | refine blk_drew ?_ | refine blk_alloc ?_ _)); refine blk_far ?_ NB332_365.out _; (with_reducible repeat (first | refine blk_drewN ?_ _ | refine blk_drew ?_ | refine blk_alloc ?_ _)); exact BK332.out⟩
 have n10_ : Aside0 (((w74.setCell ⟨gb365, 0, none⟩ (.int .i64 t360)).setCell ⟨gb365, 1, none⟩ (.slice Ao76 t361.length co76)).heap[gb348]? = some (.cells #[.int .u8 t333, .int .i64 t334, .int .i64 t335, .int .i64 t336, .int .i64 t337, .int .i64 t338, .int .i64 t339, .int .i64 t340, .int .i64 t341, .int .i64 t342] 35 (0, 0))) := ⟨by (with_reducible repeat (first | refine blk_drewN ?_ _ | refine blk_drew ?_ | refine blk_alloc ?_ _)); refine blk_far ?_ NB348_365.out _; (with_reducible repeat (first | refine blk_drewN ?_ _ | refine blk_drew ?_ | refine blk_alloc ?_ _)); refine blk_far ?_ NB348_365.out _; (with_reducible repeat (first | refine blk_drewN ?_ _ | refine blk_drew ?_ | refine blk_alloc ?_ _)); exact BK348.out⟩
 have n11_ : Aside0 (((w74.setCell ⟨gb365, 0, none⟩ (.int .i64 t360)).setCell ⟨gb365, 1, none⟩ (.slice Ao76 t361.length co76)).heap[gb349]? = some (.cells #[.int .i64 t343, .slice Ao68 t344.length co68] 24 (0, 0))) := ⟨by (with_reducible repeat (first | refine blk_drewN ?_ _ | refine blk_drew ?_ | refine blk_alloc ?_ _)); refine blk_far ?_ NB349_365.out _; (with_reducible repeat (first | refine blk_drewN ?_ _ | refine blk_drew ?_ | refine blk_alloc ?_ _)); refine blk_far ?_ NB349_365.out _; (with_reducible repeat (first | refine blk_drewN ?_ _ | refine blk_drew ?_ | refine blk_alloc ?_ _)); exact BK349.out⟩
 have n12_ : Aside0 (((w74.setCell ⟨gb365, 0, none⟩ (.int .i64 t360)).setCell ⟨gb365, 1, none⟩ (.slice Ao76 t361.length co76)).heap[gb365]? = some (.cells #[.int .i64 t360, .slice Ao76 t361.length co76] 24 (0, 0))) := ⟨by (with_reducible repeat (first | refine blk_drewN ?_ _ | refine blk_drew ?_ | refine blk_alloc ?_ _)); refine blk_put (cs := #[.int .i64 t360, .slice none 0 0]) ?_ 1 _ rfl; (with_reducible repeat (first | refine blk_drewN ?_ _ | refine blk_drew ?_ | refine blk_alloc ?_ _)); refine blk_put (cs := #[.int .i64 0, .slice none 0 0]) ?_ 0 _ rfl; (with_reducible repeat (first | refine blk_drewN ?_ _ | refine blk_drew ?_ | refine blk_alloc ?_ _)); exact BK365.out⟩
 have n13_ : Aside0 (Below w.heap.size w ((w74.setCell ⟨gb365, 0, none⟩ (.int .i64 t360)).setCell ⟨gb365, 1, none⟩ (.slice Ao76 t361.length co76))) := ⟨by repeat (first | (with_reducible first | exact HB.out | apply below_alloc | apply pw_below_drewN | apply below_drew1 | refine below_set ?_ GE284.out | refine below_set ?_ GE300.out | refine below_set ?_ GE316.out | refine below_set ?_ GE332.out | refine below_set ?_ GE348.out | refine below_set ?_ GE349.out | refine below_set ?_ GE365.out) | exact HB.out)⟩
 (try clear HO282)
 (try clear HO298)
 (try clear HO314)
 (try clear HO330)
 (try clear HO346)
 (try clear HO363)
 (try clear BK284)
 (try clear BK300)
 (try clear BK316)
 (try clear BK332)
 (try clear BK348)
 (try clear BK349)
 (try clear BK365)
 (try clear HB)
 generalize ((w74.setCell ⟨gb365, 0, none⟩ (.int .i64 t360)).setCell ⟨gb365, 1, none⟩ (.slice Ao76 t361.length co76)) = w78 at n0_ n1_ n2_ n3_ n4_ n5_ n6_ n7_ n8_ n9_ n10_ n11_ n12_ n13_ ⊢
 have HO282 := n0_
 have HO298 := n1_
 have HO314 := n2_
 have HO330 := n3_
 have HO346 := n4_
 have HO363 := n5_
 have BK284 := n6_
 have BK300 := n7_
 have BK316 := n8_
 have BK332 := n9_
 have BK348 := n10_
 have BK349 := n11_
 have BK365 := n12_
 have HB := n13_
 clear n0_ n1_ n2_ n3_ n4_ n5_ n6_ n7_ n8_ n9_ n10_ n11_ n12_ n13_
 have n0_ := Aside0.mk (Kd.R_drew HO282.out)
 have n1_ := Aside0.mk (Kd.R_drew HO298.out)
 have n2_ := Aside0.mk (Kd.R_drew HO314.out)
 have n3_ := Aside0.mk (Kd.R_drew HO330.out)
 have n4_ := Aside0.mk (Kd.Q_drew HO346.out)
 have n5_ := Aside0.mk (Kd.R_drew HO363.out)
 have n6_ := Aside0.mk (blk_drew BK284.out)
 have n7_ := Aside0.mk (blk_drew BK300.out)
 have n8_ := Aside0.mk (blk_drew BK316.out)
 have n9_ := Aside0.mk (blk_drew BK332.out)
 have n10_ := Aside0.mk (blk_drew BK348.out)
 have n11_ := Aside0.mk (blk_drew BK349.out)
 have n12_ := Aside0.mk (blk_drew BK365.out)
 have n13_ := Aside0.mk (below_drew1 HB.out)
 clear HO282
 clear HO298
 clear HO314
 clear HO330
 clear HO346
 clear HO363
 clear BK284
 clear BK300
 clear BK316
 clear BK332
 clear BK348
 clear BK349
 clear BK365
 clear HB
 have HO282 := n0_
 have HO298 := n1_
 have HO314 := n2_
 have HO330 := n3_
 have HO346 := n4_
 have HO363 := n5_
 have BK284 := n6_
 have BK300 := n7_
 have BK316 := n8_
 have BK332 := n9_
 have BK348 := n10_
 have BK349 := n11_
 have BK365 := n12_
 have HB := n13_
 clear n0_ n1_ n2_ n3_ n4_ n5_ n6_ n7_ n8_ n9_ n10_ n11_ n12_ n13_
 refine start_ (n := 34) (S := fun w' => w'.cell? ⟨gb348, 0, none⟩ = some (.int .u8 t333) ∧ w'.cell? ⟨gb348, 1, none⟩ = some (.int .i64 t334) ∧ w'.cell? ⟨gb348, 2, none⟩ = some (.int .i64 t335) ∧ w'.cell? ⟨gb348, 3, none⟩ = some (.int .i64 t336) ∧ w'.cell? ⟨gb348, 4, none⟩ = some (.int .i64 t337) ∧ w'.cell? ⟨gb348, 5, none⟩ = some (.int .i64 t338) ∧ w'.cell? ⟨gb348, 6, none⟩ = some (.int .i64 t339) ∧ w'.cell? ⟨gb348, 7, none⟩ = some (.int .i64 t340) ∧ w'.cell? ⟨gb348, 8, none⟩ = some (.int .i64 t341) ∧ w'.cell? ⟨gb348, 9, none⟩ = some (.int .i64 t342) ∧ w'.cell? ⟨gb365, 0, none⟩ = some (.int .i64 t360) ∧ w'.cell? ⟨gb365, 1, none⟩ = some (.slice Ao76 t361.length co76)) (ds := []) #[false, false, false, false, false, false, false, false, false, false, false, false, false, false, false, false, false, false, false, false, false, false, false, false, false, false, false, false, false, false, false, false, false, false] (by kernel_rfl) rfl rfl ⟨(blk_cell BK348.out 0).trans rfl, (blk_cell BK348.out 1).trans rfl, (blk_cell BK348.out 2).trans rfl, (blk_cell BK348.out 3).trans rfl, (blk_cell BK348.out 4).trans rfl, (blk_cell BK348.out 5).trans rfl, (blk_cell BK348.out 6).trans rfl, (blk_cell BK348.out 7).trans rfl, (blk_cell BK348.out 8).trans rfl, (blk_cell BK348.out 9).trans rfl, (blk_cell BK365.out 0).trans rfl, (blk_cell BK365.out 1).trans rfl⟩ (fun hHeld => ?_); refine with_tabW tailwaterlaw26_alive.tab7 tailwaterlaw26_alive.bits7 (fun HT_ HW_ => ?_)
 generalize w78.drew = w79 at HO282 HO298 HO314 HO330 HO346 HO363 BK284 BK300 BK316 BK332 BK348 BK349 BK365 HB hHeld ⊢
 refine pure_ (i := 0) (N := some 48) (v := ?_) (a' := ?_) #[true, false, false, false, false, false, false, false, false, false, false, false, false, false, false, false, false, false, false, false, false, false, false, false, false, false, false, false, false, false, false, false, false, false] rfl rfl (any_of HT_.out (by kernel_rfl)) (fun _ _ _ h => h) (Or.inl ⟨by rfl, ?_⟩) ?_ ?_
 rotate_left
 · intro w'
   go_simp
   with_reducible rfl
 rotate_left
 · simp only [Act.put, List.setIfInBounds_toArray, List.set_cons_zero, List.set_cons_succ, i64_w, i32_w]
   rfl
 refine pure_ (i := 1) (N := some 49) (v := ?_) (a' := ?_) #[true, true, false, false, false, false, false, false, false, false, false, false, false, false, false, false, false, false, false, false, false, false, false, false, false, false, false, false, false, false, false, false, false, false] rfl rfl (any_of HT_.out (by kernel_rfl)) (fun _ _ _ h => h) (Or.inl ⟨by rfl, ?_⟩) ?_ ?_
 rotate_left
 · intro w'
   go_simp
   with_reducible rfl
 rotate_left
 · simp only [Act.put, List.setIfInBounds_toArray, List.set_cons_zero, List.set_cons_succ, i64_w, i32_w]
   rfl
 refine pure_ (i := 2) (N := some 50) (v := ?_) (a' := ?_) #[true, true, true, false, false, false, false, false, false, false, false, false, false, false, false, false, false, false, false, false, false, false, false, false, false, false, false, false, false, false, false, false, false, false] rfl rfl (any_of HT_.out (by kernel_rfl)) (fun _ _ _ h => h) (Or.inl ⟨by rfl, ?_⟩) ?_ ?_
 rotate_left
 · intro w'
   go_simp
   with_reducible rfl
 rotate_left
 · simp only [Act.put, List.setIfInBounds_toArray, List.set_cons_zero, List.set_cons_succ, i64_w, i32_w]
   rfl
 refine pure_ (i := 3) (N := some 51) (v := ?_) (a' := ?_) #[true, true, true, true, false, false, false, false, false, false, false, false, false, false, false, false, false, false, false, false, false, false, false, false, false, false, false, false, false, false, false, false, false, false] rfl rfl (any_of HT_.out (by kernel_rfl)) (fun _ _ _ h => h) (Or.inl ⟨by rfl, ?_⟩) ?_ ?_
 rotate_left
 · intro w'
   go_simp
   with_reducible rfl
 rotate_left
 · simp only [Act.put, List.setIfInBounds_toArray, List.set_cons_zero, List.set_cons_succ, i64_w, i32_w]
   rfl
 refine pure_ (i := 4) (N := some 52) (v := ?_) (a' := ?_) #[true, true, true, true, true, false, false, false, false, false, false, false, false, false, false, false, false, false, false, false, false, false, false, false, false, false, false, false, false, false, false, false, false, false] rfl rfl (any_of HT_.out (by kernel_rfl)) (fun _ _ _ h => h) (Or.inl ⟨by rfl, ?_⟩) ?_ ?_
 rotate_left
 · intro w'
   go_simp
   with_reducible rfl
 rotate_left
 · simp only [Act.put, List.setIfInBounds_toArray, List.set_cons_zero, List.set_cons_succ, i64_w, i32_w]
   rfl
 refine pure_ (i := 5) (N := some 53) (v := ?_) (a' := ?_) #[true, true, true, true, true, true, false, false, false, false, false, false, false, false, false, false, false, false, false, false, false, false, false, false, false, false, false, false, false, false, false, false, false, false] rfl rfl (any_of HT_.out (by kernel_rfl)) (fun _ _ _ h => h) (Or.inl ⟨by rfl, ?_⟩) ?_ ?_
 rotate_left
 · intro w'
   go_simp
   with_reducible rfl
 rotate_left
 · simp only [Act.put, List.setIfInBounds_toArray, List.set_cons_zero, List.set_cons_succ, i64_w, i32_w]
   rfl
 refine pure_ (i := 6) (N := some 54) (v := ?_) (a' := ?_) #[true, true, true, true, true, true, true, false, false, false, false, false, false, false, false, false, false, false, false, false, false, false, false, false, false, false, false, false, false, false, false, false, false, false] rfl rfl (any_of HT_.out (by kernel_rfl)) (fun _ _ _ h => h) (Or.inl ⟨by rfl, ?_⟩) ?_ ?_
 rotate_left
 · intro w'
   go_simp
   with_reducible rfl
 rotate_left
 · simp only [Act.put, List.setIfInBounds_toArray, List.set_cons_zero, List.set_cons_succ, i64_w, i32_w]
   rfl
 refine pure_ (i := 7) (N := some 55) (v := ?_) (a' := ?_) #[true, true, true, true, true, true, true, true, false, false, false, false, false, false, false, false, false, false, false, false, false, false, false, false, false, false, false, false, false, false, false, false, false, false] rfl rfl (any_of HT_.out (by kernel_rfl)) (fun _ _ _ h => h) (Or.inl ⟨by rfl, ?_⟩) ?_ ?_
 rotate_left
 · intro w'
   go_simp
   with_reducible rfl
 rotate_left
 · simp only [Act.put, List.setIfInBounds_toArray, List.set_cons_zero, List.set_cons_succ, i64_w, i32_w]
   rfl
 refine pure_ (i := 8) (N := some 56) (v := ?_) (a' := ?_) #[true, true, true, true, true, true, true, true, true, false, false, false, false, false, false, false, false, false, false, false, false, false, false, false, false, false, false, false, false, false, false, false, false, false] rfl rfl (any_of HT_.out (by kernel_rfl)) (fun _ _ _ h => h) (Or.inl ⟨by rfl, ?_⟩) ?_ ?_
 rotate_left
 · intro w'
   go_simp
   with_reducible rfl
 rotate_left
 · simp only [Act.put, List.setIfInBounds_toArray, List.set_cons_zero, List.set_cons_succ, i64_w, i32_w]
   rfl
 refine pure_ (i := 9) (N := some 57) (v := ?_) (a' := ?_) #[true, true, true, true, true, true, true, true, true, true, false, false, false, false, false, false, false, false, false, false, false, false, false, false, false, false, false, false, false, false, false, false, false, false] rfl rfl (any_of HT_.out (by kernel_rfl)) (fun _ _ _ h => h) (Or.inl ⟨by rfl, ?_⟩) ?_ ?_
 rotate_left
 · intro w'
   go_simp
   with_reducible rfl
 rotate_left
 · simp only [Act.put, List.setIfInBounds_toArray, List.set_cons_zero, List.set_cons_succ, i64_w, i32_w]
   rfl
 refine pure_ (i := 10) (N := some 58) (v := ?_) (a' := ?_) #[true, true, true, true, true, true, true, true, true, true, true, false, false, false, false, false, false, false, false, false, false, false, false, false, false, false, false, false, false, false, false, false, false, false] rfl rfl (any_of HT_.out (by kernel_rfl)) (fun _ _ _ h => h) (Or.inl ⟨by rfl, ?_⟩) ?_ ?_
 rotate_left
 · intro w'
   go_simp
   with_reducible rfl
 rotate_left
 · simp only [Act.put, List.setIfInBounds_toArray, List.set_cons_zero, List.set_cons_succ, i64_w, i32_w]
   rfl
 refine pure_ (i := 11) (N := some 59) (v := ?_) (a' := ?_) #[true, true, true, true, true, true, true, true, true, true, true, true, false, false, false, false, false, false, false, false, false, false, false, false, false, false, false, false, false, false, false, false, false, false] rfl rfl (any_of HT_.out (by kernel_rfl)) (fun _ _ _ h => h) (Or.inl ⟨by rfl, ?_⟩) ?_ ?_
 rotate_left
 · intro w'
   go_simp
   with_reducible rfl
 rotate_left
 · simp only [Act.put, List.setIfInBounds_toArray, List.set_cons_zero, List.set_cons_succ, i64_w, i32_w]
   rfl
 refine pure_ (i := 12) (N := some 60) (v := ?_) (a' := ?_) #[true, true, true, true, true, true, true, true, true, true, true, true, true, false, false, false, false, false, false, false, false, false, false, false, false, false, false, false, false, false, false, false, false, false] rfl rfl (any_of HT_.out (by kernel_rfl)) (fun _ _ _ h => h) (Or.inl ⟨by rfl, ?_⟩) ?_ ?_
 rotate_left
 · intro w'
   go_simp
   with_reducible rfl
 rotate_left
 · simp only [Act.put, List.setIfInBounds_toArray, List.set_cons_zero, List.set_cons_succ, i64_w, i32_w]
   rfl
 refine pure_ (i := 13) (N := some 61) (v := ?_) (a' := ?_) #[true, true, true, true, true, true, true, true, true, true, true, true, true, true, false, false, false, false, false, false, false, false, false, false, false, false, false, false, false, false, false, false, false, false] rfl rfl (any_of HT_.out (by kernel_rfl)) (fun _ _ _ h => h) (Or.inl ⟨by rfl, ?_⟩) ?_ ?_
 rotate_left
 · intro w'
   go_simp
   with_reducible rfl
 rotate_left
 · simp only [Act.put, List.setIfInBounds_toArray, List.set_cons_zero, List.set_cons_succ, i64_w, i32_w]
   rfl
 refine pure_ (i := 14) (N := some 62) (v := ?_) (a' := ?_) #[true, true, true, true, true, true, true, true, true, true, true, true, true, true, true, false, false, false, false, false, false, false, false, false, false, false, false, false, false, false, false, false, false, false] rfl rfl (any_of HT_.out (by kernel_rfl)) (fun _ _ _ h => h) (Or.inl ⟨by rfl, ?_⟩) ?_ ?_
 rotate_left
 · intro w'
   go_simp
   with_reducible rfl
 rotate_left
 · simp only [Act.put, List.setIfInBounds_toArray, List.set_cons_zero, List.set_cons_succ, i64_w, i32_w]
   rfl
 refine pure_ (i := 15) (N := some 63) (v := ?_) (a' := ?_) #[true, true, true, true, true, true, true, true, true, true, true, true, true, true, true, true, false, false, false, false, false, false, false, false, false, false, false, false, false, false, false, false, false, false] rfl rfl (any_of HT_.out (by kernel_rfl)) (fun _ _ _ h => h) (Or.inl ⟨by rfl, ?_⟩) ?_ ?_
 rotate_left
 · intro w'
   go_simp
   with_reducible rfl
 rotate_left
 · simp only [Act.put, List.setIfInBounds_toArray, List.set_cons_zero, List.set_cons_succ, i64_w, i32_w]
   rfl
 refine pure_ (i := 16) (N := some 64) (v := ?_) (a' := ?_) #[true, true, true, true, true, true, true, true, true, true, true, true, true, true, true, true, true, false, false, false, false, false, false, false, false, false, false, false, false, false, false, false, false, false] rfl rfl (any_of HT_.out (by kernel_rfl)) (fun _ _ _ h => h) (Or.inl ⟨by rfl, ?_⟩) ?_ ?_
 rotate_left
 · intro w'
   go_simp
   with_reducible rfl
 rotate_left
 · simp only [Act.put, List.setIfInBounds_toArray, List.set_cons_zero, List.set_cons_succ, i64_w, i32_w]
   rfl
 refine pure_ (i := 17) (N := some 65) (v := ?_) (a' := ?_) #[true, true, true, true, true, true, true, true, true, true, true, true, true, true, true, true, true, true, false, false, false, false, false, false, false, false, false, false, false, false, false, false, false, false] rfl rfl (any_of HT_.out (by kernel_rfl)) (fun _ _ _ h => h) (Or.inl ⟨by rfl, ?_⟩) ?_ ?_
 rotate_left
 · intro w'
   go_simp
   with_reducible rfl
 rotate_left
 · simp only [Act.put, List.setIfInBounds_toArray, List.set_cons_zero, List.set_cons_succ, i64_w, i32_w]
   rfl
 refine pure_ (i := 18) (N := some 66) (v := ?_) (a' := ?_) #[true, true, true, true, true, true, true, true, true, true, true, true, true, true, true, true, true, true, true, false, false, false, false, false, false, false, false, false, false, false, false, false, false, false] rfl rfl (any_of HT_.out (by kernel_rfl)) (fun _ _ _ h => h) (Or.inl ⟨by rfl, ?_⟩) ?_ ?_
 rotate_left
 · intro w'
   go_simp
   with_reducible rfl
 rotate_left
 · simp only [Act.put, List.setIfInBounds_toArray, List.set_cons_zero, List.set_cons_succ, i64_w, i32_w]
   rfl
 refine take_ (i := 19) (N := some 67) (v := ?_) (a' := ?_) #[true, true, true, true, true, true, true, true, true, true, true, true, true, true, true, true, true, true, true, true, false, false, false, false, false, false, false, false, false, false, false, false, false, false] rfl rfl (take_ofW HT_.out HW_.out (by kernel_rfl)) (fun _ _ _ h => h) (Or.inl ⟨by rfl, ?_⟩) hHeld ?_ ?_
 rotate_left
 · rintro w' ⟨s0, s1, s2, s3, s4, s5, s6, s7, s8, s9, s10, s11⟩
   go_simp
   with_reducible rfl
 rotate_left
 · simp only [Act.put, List.setIfInBounds_toArray, List.set_cons_zero, List.set_cons_succ, i64_w, i32_w]
   rfl
 refine one_ (i := 20) (N := some 68) #[true, true, true, true, true, true, true, true, true, true, true, true, true, true, true, true, true, true, true, true, true, false, false, false, false, false, false, false, false, false, false, false, false, false] rfl rfl (one_of HT_.out (by kernel_rfl)) (by decide) (fun K hK => ?_)
 refine goes_ Try.func25 (by kernel_rfl) rfl #[.int .i64 1] (by rfl) rfl rfl (by (try simp only [List.map_toArray, List.map_cons, List.map_nil]); first | done | rfl | (simp only [List.length_drop, List.length_take]; rfl)) ?_
 with_reducible refine (tailwaterlaw26_mark.calls 1 t366 t367 t368 t369 t370 t371 t372 t373 t374 t375 _ A16.out).mono ?_
 rintro e w80 ⟨rfl, hb⟩
 refine ⟨_, rfl, ?_⟩
 have n0_ := Aside0.mk (Kd.R_below HO282.out hb)
 have n1_ := Aside0.mk (Kd.R_below HO298.out hb)
 have n2_ := Aside0.mk (Kd.R_below HO314.out hb)
 have n3_ := Aside0.mk (Kd.R_below HO330.out hb)
 have n4_ := Aside0.mk (Kd.Q_below (by (with_reducible repeat (first | apply Kd.Q_alloc | apply Kd.Q_drewN | apply Kd.Q_drew)); exact HO346.out) hb)
 have n5_ := Aside0.mk (Kd.R_below HO363.out hb)
 have n6_ := Aside0.mk (blk_below (g := gb284) (o := .cells #[.int .i64 t279, .slice Ao22 t280.length co22] 24 (0, 0)) BK284.out hb)
 have n7_ := Aside0.mk (blk_below (g := gb300) (o := .cells #[.int .i64 t295, .slice Ao30 t296.length co30] 24 (0, 0)) BK300.out hb)
 have n8_ := Aside0.mk (blk_below (g := gb316) (o := .cells #[.int .i64 t311, .slice Ao39 t312.length co39] 24 (0, 0)) BK316.out hb)
 have n9_ := Aside0.mk (blk_below (g := gb332) (o := .cells #[.int .i64 t327, .slice Ao48 t328.length co48] 24 (0, 0)) BK332.out hb)
 have n10_ := Aside0.mk (blk_below (g := gb348) (o := .cells #[.int .u8 t333, .int .i64 t334, .int .i64 t335, .int .i64 t336, .int .i64 t337, .int .i64 t338, .int .i64 t339, .int .i64 t340, .int .i64 t341, .int .i64 t342] 35 (0, 0)) BK348.out hb)
 have n11_ := Aside0.mk (blk_below (g := gb349) (o := .cells #[.int .i64 t343, .slice Ao68 t344.length co68] 24 (0, 0)) BK349.out hb)
 have n12_ := Aside0.mk (blk_below (g := gb365) (o := .cells #[.int .i64 t360, .slice Ao76 t361.length co76] 24 (0, 0)) BK365.out hb)
 have n13_ := Aside0.mk (below_step (by repeat (first | (with_reducible first | exact HB.out | apply below_alloc | apply pw_below_drewN | apply below_drew1 | refine below_set ?_ GE284.out | refine below_set ?_ GE300.out | refine below_set ?_ GE316.out | refine below_set ?_ GE332.out | refine below_set ?_ GE348.out | refine below_set ?_ GE349.out | refine below_set ?_ GE365.out) | exact HB.out)) hb)
 clear HO282
 clear HO298
 clear HO314
 clear HO330
 clear HO346
 clear HO363
 clear BK284
 clear BK300
 clear BK316
 clear BK332
 clear BK348
 clear BK349
 clear BK365
 clear HB
 have HO282 := n0_
 have HO298 := n1_
 have HO314 := n2_
 have HO330 := n3_
 have HO346 := n4_
 have HO363 := n5_
 have BK284 := n6_
 have BK300 := n7_
 have BK316 := n8_
 have BK332 := n9_
 have BK348 := n10_
 have BK349 := n11_
 have BK365 := n12_
 have HB := n13_
 clear n0_ n1_ n2_ n3_ n4_ n5_ n6_ n7_ n8_ n9_ n10_ n11_ n12_ n13_
 (try clear hb)
 (try clear hb2)
 (try clear hk)
 (try clear hi)
 refine hK.out _ _ ⟨(blk_cell BK348.out 0).trans rfl, (blk_cell BK348.out 1).trans rfl, (blk_cell BK348.out 2).trans rfl, (blk_cell BK348.out 3).trans rfl, (blk_cell BK348.out 4).trans rfl, (blk_cell BK348.out 5).trans rfl, (blk_cell BK348.out 6).trans rfl, (blk_cell BK348.out 7).trans rfl, (blk_cell BK348.out 8).trans rfl, (blk_cell BK348.out 9).trans rfl, (blk_cell BK365.out 0).trans rfl, (blk_cell BK365.out 1).trans rfl⟩ (fun hHeld => ?_)
 clear hK K
 refine norm_ (a' := ?_) ?_ ?_
 rotate_left
 · show Act.put _ (some 68) _ = _
   simp only [Act.put, List.setIfInBounds_toArray, List.set_cons_zero, List.set_cons_succ, i64_w, i32_w]
   rfl
 refine pure_ (i := 21) (N := some 69) (v := ?_) (a' := ?_) #[true, true, true, true, true, true, true, true, true, true, true, true, true, true, true, true, true, true, true, true, true, true, false, false, false, false, false, false, false, false, false, false, false, false] rfl rfl (any_of HT_.out (by kernel_rfl)) (fun _ _ _ h => h) (Or.inl ⟨by rfl, ?_⟩) ?_ ?_
 rotate_left
 · intro w'
   go_simp
   with_reducible rfl
 rotate_left
 · simp only [Act.put, List.setIfInBounds_toArray, List.set_cons_zero, List.set_cons_succ, i64_w, i32_w]
   rfl
 refine pure_ (i := 22) (N := some 70) (v := ?_) (a' := ?_) #[true, true, true, true, true, true, true, true, true, true, true, true, true, true, true, true, true, true, true, true, true, true, true, false, false, false, false, false, false, false, false, false, false, false] rfl rfl (any_of HT_.out (by kernel_rfl)) (fun _ _ _ h => h) (Or.inl ⟨by rfl, ?_⟩) ?_ ?_
 rotate_left
 · intro w'
   go_simp
   with_reducible rfl
 rotate_left
 · simp only [Act.put, List.setIfInBounds_toArray, List.set_cons_zero, List.set_cons_succ, i64_w, i32_w]
   rfl
 refine pure_ (i := 23) (N := some 71) (v := ?_) (a' := ?_) #[true, true, true, true, true, true, true, true, true, true, true, true, true, true, true, true, true, true, true, true, true, true, true, true, false, false, false, false, false, false, false, false, false, false] rfl rfl (any_of HT_.out (by kernel_rfl)) (fun _ _ _ h => h) (Or.inl ⟨by rfl, ?_⟩) ?_ ?_
 rotate_left
 · intro w'
   go_simp
   with_reducible rfl
 rotate_left
 · simp only [Act.put, List.setIfInBounds_toArray, List.set_cons_zero, List.set_cons_succ, i64_w, i32_w]
   rfl
 refine pure_ (i := 24) (N := some 72) (v := ?_) (a' := ?_) #[true, true, true, true, true, true, true, true, true, true, true, true, true, true, true, true, true, true, true, true, true, true, true, true, true, false, false, false, false, false, false, false, false, false] rfl rfl (any_of HT_.out (by kernel_rfl)) (fun _ _ _ h => h) (Or.inl ⟨by rfl, ?_⟩) ?_ ?_
 rotate_left
 · intro w'
   go_simp
   with_reducible rfl
 rotate_left
 · simp only [Act.put, List.setIfInBounds_toArray, List.set_cons_zero, List.set_cons_succ, i64_w, i32_w]
   rfl
 refine pure_ (i := 25) (N := some 73) (v := ?_) (a' := ?_) #[true, true, true, true, true, true, true, true, true, true, true, true, true, true, true, true, true, true, true, true, true, true, true, true, true, true, false, false, false, false, false, false, false, false] rfl rfl (any_of HT_.out (by kernel_rfl)) (fun _ _ _ h => h) (Or.inl ⟨by rfl, ?_⟩) ?_ ?_
 rotate_left
 · intro w'
   go_simp
   with_reducible rfl
 rotate_left
 · simp only [Act.put, List.setIfInBounds_toArray, List.set_cons_zero, List.set_cons_succ, i64_w, i32_w]
   rfl
 refine pure_ (i := 26) (N := some 74) (v := ?_) (a' := ?_) #[true, true, true, true, true, true, true, true, true, true, true, true, true, true, true, true, true, true, true, true, true, true, true, true, true, true, true, false, false, false, false, false, false, false] rfl rfl (any_of HT_.out (by kernel_rfl)) (fun _ _ _ h => h) (Or.inl ⟨by rfl, ?_⟩) ?_ ?_
 rotate_left
 · intro w'
   go_simp
   with_reducible rfl
 rotate_left
 · simp only [Act.put, List.setIfInBounds_toArray, List.set_cons_zero, List.set_cons_succ, i64_w, i32_w]
   rfl
 refine pure_ (i := 27) (N := some 75) (v := ?_) (a' := ?_) #[true, true, true, true, true, true, true, true, true, true, true, true, true, true, true, true, true, true, true, true, true, true, true, true, true, true, true, true, false, false, false, false, false, false] rfl rfl (any_of HT_.out (by kernel_rfl)) (fun _ _ _ h => h) (Or.inl ⟨by rfl, ?_⟩) ?_ ?_
 rotate_left
 · intro w'
   go_simp
   with_reducible rfl
 rotate_left
 · simp only [Act.put, List.setIfInBounds_toArray, List.set_cons_zero, List.set_cons_succ, i64_w, i32_w]
   rfl
 refine pure_ (i := 28) (N := some 76) (v := ?_) (a' := ?_) #[true, true, true, true, true, true, true, true, true, true, true, true, true, true, true, true, true, true, true, true, true, true, true, true, true, true, true, true, true, false, false, false, false, false] rfl rfl (any_of HT_.out (by kernel_rfl)) (fun _ _ _ h => h) (Or.inl ⟨by rfl, ?_⟩) ?_ ?_
 rotate_left
 · intro w'
   go_simp
   with_reducible rfl
 rotate_left
 · simp only [Act.put, List.setIfInBounds_toArray, List.set_cons_zero, List.set_cons_succ, i64_w, i32_w]
   rfl
 refine take_ (i := 29) (N := some 77) (v := ?_) (a' := ?_) #[true, true, true, true, true, true, true, true, true, true, true, true, true, true, true, true, true, true, true, true, true, true, true, true, true, true, true, true, true, true, false, false, false, false] rfl rfl (take_ofW HT_.out HW_.out (by kernel_rfl)) (fun _ _ _ h => h) (Or.inl ⟨by rfl, ?_⟩) hHeld ?_ ?_
 rotate_left
 · rintro w' ⟨s0, s1, s2, s3, s4, s5, s6, s7, s8, s9, s10, s11⟩
   go_simp
   with_reducible rfl
 rotate_left
 · simp only [Act.put, List.setIfInBounds_toArray, List.set_cons_zero, List.set_cons_succ, i64_w, i32_w]
   rfl
 refine pure_ (i := 30) (N := some 78) (v := ?_) (a' := ?_) #[true, true, true, true, true, true, true, true, true, true, true, true, true, true, true, true, true, true, true, true, true, true, true, true, true, true, true, true, true, true, true, false, false, false] rfl rfl (any_of HT_.out (by kernel_rfl)) (fun _ _ _ h => h) (Or.inl ⟨by rfl, ?_⟩) ?_ ?_
 rotate_left
 · intro w'
   go_simp
   with_reducible rfl
 rotate_left
 · simp only [Act.put, List.setIfInBounds_toArray, List.set_cons_zero, List.set_cons_succ, i64_w, i32_w]
   rfl
 refine pure_ (i := 31) (N := some 79) (v := ?_) (a' := ?_) #[true, true, true, true, true, true, true, true, true, true, true, true, true, true, true, true, true, true, true, true, true, true, true, true, true, true, true, true, true, true, true, true, false, false] rfl rfl (any_of HT_.out (by kernel_rfl)) (fun _ _ _ h => h) (Or.inl ⟨by rfl, ?_⟩) ?_ ?_
 rotate_left
 · intro w'
   go_simp
   with_reducible rfl
 rotate_left
 · simp only [Act.put, List.setIfInBounds_toArray, List.set_cons_zero, List.set_cons_succ, i64_w, i32_w]
   rfl
 refine pure_ (i := 32) (N := some 80) (v := ?_) (a' := ?_) #[true, true, true, true, true, true, true, true, true, true, true, true, true, true, true, true, true, true, true, true, true, true, true, true, true, true, true, true, true, true, true, true, true, false] rfl rfl (any_of HT_.out (by kernel_rfl)) (fun _ _ _ h => h) (Or.inl ⟨by rfl, ?_⟩) ?_ ?_
 rotate_left
 · intro w'
   go_simp
   with_reducible rfl
 rotate_left
 · simp only [Act.put, List.setIfInBounds_toArray, List.set_cons_zero, List.set_cons_succ, i64_w, i32_w]
   rfl
 refine pure_ (i := 33) (N := some 0) (v := ?_) (a' := ?_) #[true, true, true, true, true, true, true, true, true, true, true, true, true, true, true, true, true, true, true, true, true, true, true, true, true, true, true, true, true, true, true, true, true, true] rfl rfl (any_of HT_.out (by kernel_rfl)) (fun _ _ _ h => h) (Or.inl ⟨by rfl, ?_⟩) ?_ ?_
 rotate_left
 · intro w'
   go_simp
   with_reducible rfl
 rotate_left
 · simp only [Act.put, List.setIfInBounds_toArray, List.set_cons_zero, List.set_cons_succ, i64_w, i32_w]
   rfl
 refine done_ (done_of HT_.out (by kernel_rfl)) ?_
 try go_wp2
 go_ret
 exact ⟨by first | rfl | (simp [errW_none, errW_some] <;> rfl) | (simp [*, errW_none, errW_some] <;> rfl), by repeat (first | (with_reducible first | exact HB.out | apply below_alloc | apply pw_below_drewN | apply below_drew1 | refine below_set ?_ GE284.out | refine below_set ?_ GE300.out | refine below_set ?_ GE316.out | refine below_set ?_ GE332.out | refine below_set ?_ GE348.out | refine below_set ?_ GE349.out | refine below_set ?_ GE365.out) | exact HB.out)⟩
end Go.Proofs.Ytiilljmhddjmeaa.Q
