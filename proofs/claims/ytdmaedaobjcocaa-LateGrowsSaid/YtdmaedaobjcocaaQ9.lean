/- Functions of the program as plain Lean functions, each with a proof that the Go code computes just that; written by a turned copy of the kit's printer, not by hand. No condition but what each theorem names. -/
import Derived.Test.YtdmaedaobjcocaaQ0
import Derived.Test.YtdmaedaobjcocaaQ2
import Derived.Test.YtdmaedaobjcocaaQ3
import Derived.Test.YtdmaedaobjcocaaQ4
import Derived.Test.YtdmaedaobjcocaaQ6
import Derived.Test.YtdmaedaobjcocaaHMark
import Derived.Test.YtdmaedaobjcocaaHSplit
namespace Go.Proofs.Ytdmaedaobjcocaa.Q
open Go.RowKit Go.Proofs.YtdmaedaobjcocaaW.PrintWords Go.Proofs.YtdmaedaobjcocaaW.PrintLast Go.Proofs.YtdmaedaobjcocaaW.PrintMore
attribute [local go_sem] max2_int min2_int max_two min_two max_three min_three max_four min_four   -- for this text's walks alone
set_option linter.unusedVariables false
set_option linter.unusedSimpArgs false

/-! ### tailwaterlaw20_LateGrows: function 6 -/
mutual
def tailwaterlaw20_LateGrows.j0 : Nat → List (S40) → Int → Int → Bool → Bool → Option (Bool)
  | 0, _, _, _, _, _ => none
  | k + 1, x0, x1, x2, x7, x45 => if x45 = true then (some x7) else (tailwaterlaw20_LateGrows.l0 k x0 x1 x2 x7 (-9223372036854775808) 0)
def tailwaterlaw20_LateGrows.l0 : Nat → List (S40) → Int → Int → Bool → Int → Int → Option (Bool)
  | 0, _, _, _, _, _, _ => none
  | k + 1, x0, x1, x2, x7, x8, x9 => if x9 ≤ (x0.length : Int) then (if 0 ≤ x9 then ((late_Mark.f k (x0.take (x9 : Int).toNat)).bind fun bt399 => (if bt399.2 = 0 then (if bt399.1 < x8 then (some false) else (tailwaterlaw20_LateGrows.l0 k x0 x1 x2 x7 bt399.1 (wrap64 (x9 + 1)))) else (some false))) else (none)) else (if 0 ≤ x1 then (if x1 ≤ (x0.length : Int) then ((late_Mark.f k (x0.take (x1 : Int).toNat)).bind fun bt405 => (if bt405.2 = 0 then (if x2 > bt405.1 then (tailwaterlaw20_LateGrows.j2 k x0 x1 x2 x7 x8 bt405.2 true) else ((tailwaterlaw20_mark.f x2).bind fun bt407 => ((tailwaterref20_Valid.f k bt407.1 bt407.2.1 bt407.2.2.1 bt407.2.2.2.1 bt407.2.2.2.2).bind fun t412 => (tailwaterlaw20_LateGrows.j2 k x0 x1 x2 x7 x8 bt405.2 (!t412))))) else (tailwaterlaw20_LateGrows.j2 k x0 x1 x2 x7 x8 bt405.2 true))) else (none)) else (none))
def tailwaterlaw20_LateGrows.j2 : Nat → List (S40) → Int → Int → Bool → Int → Int → Bool → Option (Bool)
  | 0, _, _, _, _, _, _, _ => none
  | k + 1, x0, x1, x2, x7, x8, x13, x87 => if x87 = true then (if x7 = true then (some (x13 == 0)) else (some false)) else ((some (([] : List (S40)) : List (S40))).bind fun y413 => (if 0 ≤ x1 then (if x1 ≤ (x0.length : Int) then ((some (x0.take (x1 : Int).toNat : List (S40))).bind fun y416 => (if y413.length + y416.length < 3518437208883 then ((some (y413 ++ y416 : List (S40))).bind fun y420 => ((tailwaterlaw20_mark.f x2).bind fun bt423 => (if y420.length < 3518437208883 then ((some (y420 ++ [(⟨bt423.1, bt423.2.1, (⟨bt423.2.2.1, bt423.2.2.2.1, bt423.2.2.2.2⟩ : S38)⟩ : S40)] : List (S40))).bind fun y428 => ((some (x0.drop (x1 : Int).toNat : List (S40))).bind fun y431 => (if y428.length + y431.length < 3518437208883 then ((some (y428 ++ y431 : List (S40))).bind fun y435 => ((late_Mark.f k y435).bind fun bt438 => ((late_Split.f k x0).bind fun bt440 => ((late_Split.f k y435).bind fun bt447 => (if x7 = true then (if bt438.2 = 0 then (if bt438.1 = x8 then (if bt440.2.2 = 0 then (if bt447.2.2 = 0 then ((tailwaterref20_Same.f k bt440.1 bt447.1).bind fun t454 => (if t454 = true then ((tailwaterref20_Same.f k bt440.2.1 bt447.2.1).bind fun t455 => (some t455)) else (some false))) else (some false)) else (some false)) else (some false)) else (some false)) else (some false)))))) else (none)))) else (none)))) else (none))) else (none)) else (none)))
end
def tailwaterlaw20_LateGrows.f (k : Nat) (l0 : List (S40)) (a1 : Int) (a2 : Int) : Option (Bool) := (tailwaterlaw20_alive.f k).bind fun t393 => ((tailwaterref20_Check.f k l0).bind fun t394 => (if t394 = 0 then (if (l0.length : Int) ≥ 60 then (tailwaterlaw20_LateGrows.j0 k l0 a1 a2 t393 true) else (if a1 < 0 then (tailwaterlaw20_LateGrows.j0 k l0 a1 a2 t393 true) else (if a1 > (l0.length : Int) then (tailwaterlaw20_LateGrows.j0 k l0 a1 a2 t393 true) else (tailwaterlaw20_LateGrows.j0 k l0 a1 a2 t393 (!t393))))) else (tailwaterlaw20_LateGrows.j0 k l0 a1 a2 t393 true)))
theorem tailwaterlaw20_LateGrows.mono_l : ∀ k, (∀ y0 y1 y2 y3 y4, LeO (tailwaterlaw20_LateGrows.j0 k y0 y1 y2 y3 y4) (tailwaterlaw20_LateGrows.j0 (k + 1) y0 y1 y2 y3 y4)) ∧ (∀ y0 y1 y2 y3 y4 y5, LeO (tailwaterlaw20_LateGrows.l0 k y0 y1 y2 y3 y4 y5) (tailwaterlaw20_LateGrows.l0 (k + 1) y0 y1 y2 y3 y4 y5)) ∧ (∀ y0 y1 y2 y3 y4 y5 y6, LeO (tailwaterlaw20_LateGrows.j2 k y0 y1 y2 y3 y4 y5 y6) (tailwaterlaw20_LateGrows.j2 (k + 1) y0 y1 y2 y3 y4 y5 y6))
  | 0 => ⟨fun _ _ _ _ _ r h => by simp [tailwaterlaw20_LateGrows.j0] at h, fun _ _ _ _ _ _ r h => by simp [tailwaterlaw20_LateGrows.l0] at h, fun _ _ _ _ _ _ _ r h => by simp [tailwaterlaw20_LateGrows.j2] at h⟩
  | k + 1 => by
    obtain ⟨ih0, ih1, ih2⟩ := tailwaterlaw20_LateGrows.mono_l k
    refine ⟨?_, ?_, ?_⟩
    · intro y0 y1 y2 y3 y4
      unfold tailwaterlaw20_LateGrows.j0
      repeat' first
      | (with_reducible exact ih0 _ _ _ _ _)
      | (with_reducible exact ih1 _ _ _ _ _ _)
      | (with_reducible exact ih2 _ _ _ _ _ _ _)
      | (with_reducible exact late_Mark.mono _ _)
      | (with_reducible exact late_Split.mono _ _)
      | (with_reducible exact tailwaterlaw20_alive.mono _)
      | (with_reducible exact tailwaterref20_Check.mono _ _)
      | (with_reducible exact tailwaterref20_Same.mono _ _ _)
      | (with_reducible exact tailwaterref20_Valid.mono _ _ _ _ _ _)
      | (with_reducible exact LeO.refl _)
      | (with_reducible exact LeO.none _)
      | (with_reducible refine LeO.ite ?_ ?_)
      | (with_reducible refine LeO.bind ?_ (fun _ => ?_))
      | exact ih0 _ _ _ _ _
      | exact ih1 _ _ _ _ _ _
      | exact ih2 _ _ _ _ _ _ _
      | exact late_Mark.mono _ _
      | exact late_Split.mono _ _
      | exact tailwaterlaw20_alive.mono _
      | exact tailwaterref20_Check.mono _ _
      | exact tailwaterref20_Same.mono _ _ _
      | exact tailwaterref20_Valid.mono _ _ _ _ _ _
      | exact LeO.none _
      | refine LeO.ite ?_ ?_
      | refine LeO.bind ?_ (fun _ => ?_)
    · intro y0 y1 y2 y3 y4 y5
      unfold tailwaterlaw20_LateGrows.l0
      repeat' first
      | (with_reducible exact ih0 _ _ _ _ _)
      | (with_reducible exact ih1 _ _ _ _ _ _)
      | (with_reducible exact ih2 _ _ _ _ _ _ _)
      | (with_reducible exact late_Mark.mono _ _)
      | (with_reducible exact late_Split.mono _ _)
      | (with_reducible exact tailwaterlaw20_alive.mono _)
      | (with_reducible exact tailwaterref20_Check.mono _ _)
      | (with_reducible exact tailwaterref20_Same.mono _ _ _)
      | (with_reducible exact tailwaterref20_Valid.mono _ _ _ _ _ _)
      | (with_reducible exact LeO.refl _)
      | (with_reducible exact LeO.none _)
      | (with_reducible refine LeO.ite ?_ ?_)
      | (with_reducible refine LeO.bind ?_ (fun _ => ?_))
      | exact ih0 _ _ _ _ _
      | exact ih1 _ _ _ _ _ _
      | exact ih2 _ _ _ _ _ _ _
      | exact late_Mark.mono _ _
      | exact late_Split.mono _ _
      | exact tailwaterlaw20_alive.mono _
      | exact tailwaterref20_Check.mono _ _
      | exact tailwaterref20_Same.mono _ _ _
      | exact tailwaterref20_Valid.mono _ _ _ _ _ _
      | exact LeO.none _
      | refine LeO.ite ?_ ?_
      | refine LeO.bind ?_ (fun _ => ?_)
    · intro y0 y1 y2 y3 y4 y5 y6
      unfold tailwaterlaw20_LateGrows.j2
      repeat' first
      | (with_reducible exact ih0 _ _ _ _ _)
      | (with_reducible exact ih1 _ _ _ _ _ _)
      | (with_reducible exact ih2 _ _ _ _ _ _ _)
      | (with_reducible exact late_Mark.mono _ _)
      | (with_reducible exact late_Split.mono _ _)
      | (with_reducible exact tailwaterlaw20_alive.mono _)
      | (with_reducible exact tailwaterref20_Check.mono _ _)
      | (with_reducible exact tailwaterref20_Same.mono _ _ _)
      | (with_reducible exact tailwaterref20_Valid.mono _ _ _ _ _ _)
      | (with_reducible exact LeO.refl _)
      | (with_reducible exact LeO.none _)
      | (with_reducible refine LeO.ite ?_ ?_)
      | (with_reducible refine LeO.bind ?_ (fun _ => ?_))
      | exact ih0 _ _ _ _ _
      | exact ih1 _ _ _ _ _ _
      | exact ih2 _ _ _ _ _ _ _
      | exact late_Mark.mono _ _
      | exact late_Split.mono _ _
      | exact tailwaterlaw20_alive.mono _
      | exact tailwaterref20_Check.mono _ _
      | exact tailwaterref20_Same.mono _ _ _
      | exact tailwaterref20_Valid.mono _ _ _ _ _ _
      | exact LeO.none _
      | refine LeO.ite ?_ ?_
      | refine LeO.bind ?_ (fun _ => ?_)
theorem tailwaterlaw20_LateGrows.mono : ∀ a0 a1 a2 k, LeO (tailwaterlaw20_LateGrows.f k a0 a1 a2) (tailwaterlaw20_LateGrows.f (k + 1) a0 a1 a2) := by
  intro a0 a1 a2 k
  obtain ⟨ih0, ih1, ih2⟩ := tailwaterlaw20_LateGrows.mono_l k
  unfold tailwaterlaw20_LateGrows.f
  repeat' first
      | (with_reducible exact ih0 _ _ _ _ _)
      | (with_reducible exact ih1 _ _ _ _ _ _)
      | (with_reducible exact ih2 _ _ _ _ _ _ _)
      | (with_reducible exact late_Mark.mono _ _)
      | (with_reducible exact late_Split.mono _ _)
      | (with_reducible exact tailwaterlaw20_alive.mono _)
      | (with_reducible exact tailwaterref20_Check.mono _ _)
      | (with_reducible exact tailwaterref20_Same.mono _ _ _)
      | (with_reducible exact tailwaterref20_Valid.mono _ _ _ _ _ _)
      | (with_reducible exact LeO.refl _)
      | (with_reducible exact LeO.none _)
      | (with_reducible refine LeO.ite ?_ ?_)
      | (with_reducible refine LeO.bind ?_ (fun _ => ?_))
      | exact ih0 _ _ _ _ _
      | exact ih1 _ _ _ _ _ _
      | exact ih2 _ _ _ _ _ _ _
      | exact late_Mark.mono _ _
      | exact late_Split.mono _ _
      | exact tailwaterlaw20_alive.mono _
      | exact tailwaterref20_Check.mono _ _
      | exact tailwaterref20_Same.mono _ _ _
      | exact tailwaterref20_Valid.mono _ _ _ _ _ _
      | exact LeO.none _
      | refine LeO.ite ?_ ?_
      | refine LeO.bind ?_ (fun _ => ?_)
def tailwaterlaw20_LateGrows.T15 : Bool × List (List Nat × List Nat) := (true, [([], []), ([], []), ([], []), ([1, 2], [1, 2]), ([0, 3], [0, 3]), ([], []), ([5, 4], [5]), ([6], [6]), ([4, 7, 6], [4, 7]), ([], []), ([], []), ([9, 10], [9, 10]), ([8, 11, 8], [8, 11]), ([12, 12, 0, 1, 2, 3, 4, 5, 6, 7, 8, 9, 10, 11, 12], [12])])
def tailwaterlaw20_LateGrows.B15 : List Nat := [0, 0, 0, 6, 15, 0, 63, 127, 255, 0, 0, 1536, 4095, 8191]
theorem tailwaterlaw20_LateGrows.tab15 : rtab .any (opsOf Try.f6 15) = tailwaterlaw20_LateGrows.T15 := by kernel_rfl
theorem tailwaterlaw20_LateGrows.bits15 : waitsOk tailwaterlaw20_LateGrows.T15.2 tailwaterlaw20_LateGrows.B15 = true := by kernel_rfl
set_option maxHeartbeats 8000000 in
set_option maxRecDepth 100000 in
theorem tailwaterlaw20_LateGrows.calls (k : Nat) (A0 : Option Addr) (c0 : Nat) (l0 : List (S40)) (a1 : Int) (a2 : Int) (w : World) (hr0 : Kd.C k40 w A0 l0.length l0) (hc0 : l0.length ≤ c0) (h : tailwaterlaw20_LateGrows.f k l0 a1 a2 = some true) :
    Calls Try.prog 6 #[.slice A0 l0.length c0, .int .i64 a1, .int .i64 a2] w fun e w' => e = .returned (.bool true) ∧ Below w.heap.size w w' := by
  have HR0 := Aside0.mk hr0
  have HC0 := Aside0.mk hc0
  clear hr0 hc0
  have HB := Aside0.mk (Below.refl w.heap.size w)
  have H : ((tailwaterlaw20_alive.f k).bind fun t393 => ((tailwaterref20_Check.f k l0).bind fun t394 => (if t394 = 0 then (if (l0.length : Int) ≥ 60 then (tailwaterlaw20_LateGrows.j0 k l0 a1 a2 t393 true) else (if a1 < 0 then (tailwaterlaw20_LateGrows.j0 k l0 a1 a2 t393 true) else (if a1 > (l0.length : Int) then (tailwaterlaw20_LateGrows.j0 k l0 a1 a2 t393 true) else (tailwaterlaw20_LateGrows.j0 k l0 a1 a2 t393 (!t393))))) else (tailwaterlaw20_LateGrows.j0 k l0 a1 a2 t393 true)))) = some true := h
  clear h
  replace H := Option.bind_eq_some_iff.mp H
  obtain ⟨t393, A40, H⟩ := H
  try dsimp only at H
  have A4 := Aside0.mk A40
  clear A40
  have HC5 := Aside0.mk H
  clear H
  go_enter Try.func6, Try.ntmps6
  go_upto_region 2 with (first | ((with_reducible refine gate_callee (f := 18) rfl ?_); refine goesL_ (some 23) rfl rfl Try.func18 (by kernel_rfl) rfl #[] rfl (by (try simp only [List.map_toArray, List.map_cons, List.map_nil]); first | done | rfl | (simp only [List.length_drop, List.length_take]; rfl)) ?_; (with_reducible refine (tailwaterlaw20_alive.calls k  t393 _ A4.out).mono ?_); rintro e w6 ⟨rfl, hb⟩; refine ⟨_, rfl, ?_⟩; have n0_ := Aside0.mk (below_step (by repeat (first | (with_reducible first | exact HB.out | apply below_alloc | apply pw_below_drewN | apply below_drew1) | exact HB.out)) hb); clear HB; have HB := n0_; clear n0_; (try clear hb); (try clear hb2); (try clear hk); (try clear hi)))
  (try simp only [Act.put, List.setIfInBounds_toArray, List.set_cons_zero, List.set_cons_succ])
  go_cut [45] (fun v45 wc => ∃ (kq : Nat) (x45_4 : Bool), v45 = .bool x45_4 ∧ Aside0 (tailwaterlaw20_LateGrows.j0 kq l0 a1 a2 t393 x45_4 = some true) ∧ Aside0 (kq ≤ k) ∧ Aside0 (Below w.heap.size w wc))
  case first =>
    have H := HC5.out
    clear HC5
    replace H := Option.bind_eq_some_iff.mp H
    obtain ⟨t394, A70, H⟩ := H
    try dsimp only at H
    have A7 := Aside0.mk A70
    clear A70
    by_cases c8 : t394 = 0
    · rw [if_pos c8] at H
      have c8b0 : (t394 == 0) = true := beq_iff_eq.mpr c8
      have c8b1 : (t394 != 0) = false := bne_eq_false_iff_eq.mpr c8
      clear c8
      (first | rw [c8b0] | (simp only [i64_w, i32_w]; rw [c8b0]) | skip)
      by_cases c9 : (l0.length : Int) ≥ 60
      · rw [if_pos c9] at H
        have c9b0 : decide (60 ≤ (l0.length : Int)) = true := decide_eq_true c9
        have c9b1 : decide (60 ≤ l0.length) = true := decide_eq_true (by omega)
        clear c9
        have H' := Aside0.mk H
        clear H
        go_wp2_with (first | ((with_reducible refine gate_callee (f := 15) rfl ?_); refine goesL_ (some 25) rfl rfl Try.func15 (by kernel_rfl) rfl #[.slice A0 l0.length c0] rfl (by (try simp only [List.map_toArray, List.map_cons, List.map_nil]); first | done | rfl | (simp only [List.length_drop, List.length_take]; rfl)) ?_; (with_reducible refine (tailwaterref20_Check.calls k _ _ l0 t394 _ ?side1 ?side2 A7.out).mono ?_); (case side1 => repeat (first | exact (Kd.C_below HR0.out HB.out) | (with_reducible refine Kd.C_alloc ?_ _) | (with_reducible refine Kd.C_drewN ?_ _) | (with_reducible refine Kd.C_drew ?_))); (case side2 => exact HC0.out); rintro e w10 ⟨rfl, hb⟩; refine ⟨_, rfl, ?_⟩; have n0_ := Aside0.mk (below_step (by repeat (first | (with_reducible first | exact HB.out | apply below_alloc | apply pw_below_drewN | apply below_drew1) | exact HB.out)) hb); clear HB; have HB := n0_; clear n0_; (try clear hb); (try clear hb2); (try clear hk); (try clear hi)))
        go_meet
        case rel => exact ⟨_, (true), (by first | rfl | (simp; done) | (simp [*]; done)), H', ⟨by first | omega | exact Nat.le_refl _⟩, ⟨by repeat (first | (with_reducible first | exact HB.out | apply below_alloc | apply pw_below_drewN | apply below_drew1) | exact HB.out)⟩⟩
      · rw [if_neg c9] at H
        have c9b0 : decide (60 ≤ (l0.length : Int)) = false := decide_eq_false c9
        have c9b1 : decide (60 ≤ l0.length) = false := decide_eq_false (by omega)
        clear c9
        by_cases c11 : a1 < 0
        · rw [if_pos c11] at H
          have c11b0 : decide (a1 < 0) = true := decide_eq_true c11
          clear c11
          have H' := Aside0.mk H
          clear H
          go_wp2_with (first | ((with_reducible refine gate_callee (f := 15) rfl ?_); refine goesL_ (some 25) rfl rfl Try.func15 (by kernel_rfl) rfl #[.slice A0 l0.length c0] rfl (by (try simp only [List.map_toArray, List.map_cons, List.map_nil]); first | done | rfl | (simp only [List.length_drop, List.length_take]; rfl)) ?_; (with_reducible refine (tailwaterref20_Check.calls k _ _ l0 t394 _ ?side1 ?side2 A7.out).mono ?_); (case side1 => repeat (first | exact (Kd.C_below HR0.out HB.out) | (with_reducible refine Kd.C_alloc ?_ _) | (with_reducible refine Kd.C_drewN ?_ _) | (with_reducible refine Kd.C_drew ?_))); (case side2 => exact HC0.out); rintro e w12 ⟨rfl, hb⟩; refine ⟨_, rfl, ?_⟩; have n0_ := Aside0.mk (below_step (by repeat (first | (with_reducible first | exact HB.out | apply below_alloc | apply pw_below_drewN | apply below_drew1) | exact HB.out)) hb); clear HB; have HB := n0_; clear n0_; (try clear hb); (try clear hb2); (try clear hk); (try clear hi)))
          go_meet
          case rel => exact ⟨_, (true), (by first | rfl | (simp; done) | (simp [*]; done)), H', ⟨by first | omega | exact Nat.le_refl _⟩, ⟨by repeat (first | (with_reducible first | exact HB.out | apply below_alloc | apply pw_below_drewN | apply below_drew1) | exact HB.out)⟩⟩
        · rw [if_neg c11] at H
          have c11b0 : decide (a1 < 0) = false := decide_eq_false c11
          clear c11
          by_cases c13 : a1 > (l0.length : Int)
          · rw [if_pos c13] at H
            have c13b0 : decide ((l0.length : Int) < a1) = true := decide_eq_true c13
            clear c13
            have H' := Aside0.mk H
            clear H
            go_wp2_with (first | ((with_reducible refine gate_callee (f := 15) rfl ?_); refine goesL_ (some 25) rfl rfl Try.func15 (by kernel_rfl) rfl #[.slice A0 l0.length c0] rfl (by (try simp only [List.map_toArray, List.map_cons, List.map_nil]); first | done | rfl | (simp only [List.length_drop, List.length_take]; rfl)) ?_; (with_reducible refine (tailwaterref20_Check.calls k _ _ l0 t394 _ ?side1 ?side2 A7.out).mono ?_); (case side1 => repeat (first | exact (Kd.C_below HR0.out HB.out) | (with_reducible refine Kd.C_alloc ?_ _) | (with_reducible refine Kd.C_drewN ?_ _) | (with_reducible refine Kd.C_drew ?_))); (case side2 => exact HC0.out); rintro e w14 ⟨rfl, hb⟩; refine ⟨_, rfl, ?_⟩; have n0_ := Aside0.mk (below_step (by repeat (first | (with_reducible first | exact HB.out | apply below_alloc | apply pw_below_drewN | apply below_drew1) | exact HB.out)) hb); clear HB; have HB := n0_; clear n0_; (try clear hb); (try clear hb2); (try clear hk); (try clear hi)))
            go_meet
            case rel => exact ⟨_, (true), (by first | rfl | (simp; done) | (simp [*]; done)), H', ⟨by first | omega | exact Nat.le_refl _⟩, ⟨by repeat (first | (with_reducible first | exact HB.out | apply below_alloc | apply pw_below_drewN | apply below_drew1) | exact HB.out)⟩⟩
          · rw [if_neg c13] at H
            have c13b0 : decide ((l0.length : Int) < a1) = false := decide_eq_false c13
            clear c13
            have H' := Aside0.mk H
            clear H
            go_wp2_with (first | ((with_reducible refine gate_callee (f := 15) rfl ?_); refine goesL_ (some 25) rfl rfl Try.func15 (by kernel_rfl) rfl #[.slice A0 l0.length c0] rfl (by (try simp only [List.map_toArray, List.map_cons, List.map_nil]); first | done | rfl | (simp only [List.length_drop, List.length_take]; rfl)) ?_; (with_reducible refine (tailwaterref20_Check.calls k _ _ l0 t394 _ ?side1 ?side2 A7.out).mono ?_); (case side1 => repeat (first | exact (Kd.C_below HR0.out HB.out) | (with_reducible refine Kd.C_alloc ?_ _) | (with_reducible refine Kd.C_drewN ?_ _) | (with_reducible refine Kd.C_drew ?_))); (case side2 => exact HC0.out); rintro e w15 ⟨rfl, hb⟩; refine ⟨_, rfl, ?_⟩; have n0_ := Aside0.mk (below_step (by repeat (first | (with_reducible first | exact HB.out | apply below_alloc | apply pw_below_drewN | apply below_drew1) | exact HB.out)) hb); clear HB; have HB := n0_; clear n0_; (try clear hb); (try clear hb2); (try clear hk); (try clear hi)))
            go_meet
            case rel => exact ⟨_, (!t393), (by first | rfl | (simp; done) | (simp [*]; done)), H', ⟨by first | omega | exact Nat.le_refl _⟩, ⟨by repeat (first | (with_reducible first | exact HB.out | apply below_alloc | apply pw_below_drewN | apply below_drew1) | exact HB.out)⟩⟩
    · rw [if_neg c8] at H
      have c8b0 : (t394 == 0) = false := beq_eq_false_iff_ne.mpr c8
      have c8b1 : (t394 != 0) = true := bne_iff_ne.mpr c8
      (first | rw [c8b0] | (simp only [i64_w, i32_w]; rw [c8b0]) | skip)
      have H' := Aside0.mk H
      clear H
      go_wp2_with (first | ((with_reducible refine gate_callee (f := 15) rfl ?_); refine goesL_ (some 25) rfl rfl Try.func15 (by kernel_rfl) rfl #[.slice A0 l0.length c0] rfl (by (try simp only [List.map_toArray, List.map_cons, List.map_nil]); first | done | rfl | (simp only [List.length_drop, List.length_take]; rfl)) ?_; (with_reducible refine (tailwaterref20_Check.calls k _ _ l0 t394 _ ?side1 ?side2 A7.out).mono ?_); (case side1 => repeat (first | exact (Kd.C_below HR0.out HB.out) | (with_reducible refine Kd.C_alloc ?_ _) | (with_reducible refine Kd.C_drewN ?_ _) | (with_reducible refine Kd.C_drew ?_))); (case side2 => exact HC0.out); rintro e w16 ⟨rfl, hb⟩; refine ⟨_, rfl, ?_⟩; have n0_ := Aside0.mk (below_step (by repeat (first | (with_reducible first | exact HB.out | apply below_alloc | apply pw_below_drewN | apply below_drew1) | exact HB.out)) hb); clear HB; have HB := n0_; clear n0_; (try clear hb); (try clear hb2); (try clear hk); (try clear hi)))
      go_meet
      case rel => exact ⟨_, (true), (by first | rfl | (simp; done) | (simp [*]; done)), H', ⟨by first | omega | exact Nat.le_refl _⟩, ⟨by repeat (first | (with_reducible first | exact HB.out | apply below_alloc | apply pw_below_drewN | apply below_drew1) | exact HB.out)⟩⟩
  case rest =>
    clear HC5
    try clear c1
    try clear p2
    try clear c6
    try clear c8
    try clear c8b0
    try clear c8b1
    try clear c9
    try clear c9b0
    try clear c9b1
    try clear c11
    try clear c11b0
    try clear c13
    try clear c13b0
    try clear c15
    obtain ⟨kq, x45_4, rfl, HA, HJ4, HB⟩ := hcut
    cases kq with
    | zero => exact absurd HA.out (by simp [tailwaterlaw20_LateGrows.j0])
    | succ kj4 =>
      have H := HA.out
      clear HA
      simp only [tailwaterlaw20_LateGrows.j0] at H
      by_cases c17 : x45_4 = true
      · subst c17
        have H1 := H
        rw [if_pos rfl] at H1
        clear H
        have H := H1
        clear H1
        have HV_ := Option.some.inj H
        clear H
        go_wp2
        go_ret
        exact ⟨by first | rfl | (simp [errW_none, errW_some] <;> rfl) | (simp [*, errW_none, errW_some] <;> rfl), by repeat (first | (with_reducible first | exact HB.out | apply below_alloc | apply pw_below_drewN | apply below_drew1) | exact HB.out)⟩
      · replace c17 := Bool.eq_false_iff.mpr c17
        subst c17
        have H1 := H
        rw [if_neg (show ¬ (false = true) by decide)] at H1
        clear H
        have H := H1
        clear H1
        have H' := Aside0.mk H
        clear H
        go_wp2
        go_loopg [8, 9] kj4 (fun kq v8 v9 w' => ∃ (x8_2 : Int) (x9_2 : Int), v8 = .int .i64 x8_2 ∧ v9 = .int .i64 x9_2 ∧ Aside0 (tailwaterlaw20_LateGrows.l0 kq l0 a1 a2 t393 x8_2 x9_2 = some true) ∧ Aside0 (kq ≤ kj4) ∧ Aside0 (Below w.heap.size w w'))
        case atStart => exact ⟨((-9223372036854775808)), (0), (by first | rfl | (simp; done) | (simp [*]; done)), (by first | rfl | (simp; done) | (simp [*]; done)), H', ⟨Nat.le_refl _⟩, ⟨by repeat (first | (with_reducible first | exact HB.out | apply below_alloc | apply pw_below_drewN | apply below_drew1) | exact HB.out)⟩⟩
        case round =>
          clear H'
          try clear c1
          try clear p2
          try clear c6
          try clear c8
          try clear c8b0
          try clear c8b1
          try clear c9
          try clear c9b0
          try clear c9b1
          try clear c11
          try clear c11b0
          try clear c13
          try clear c13b0
          try clear c15
          try clear c17
          try clear p2
          obtain ⟨x8_2, x9_2, rfl, rfl, HA, HK2, HB⟩ := hrel
          cases gk with
          | zero => exact absurd HA.out (by simp [tailwaterlaw20_LateGrows.l0])
          | succ k2 =>
            have H := HA.out
            clear HA
            simp only [tailwaterlaw20_LateGrows.l0] at H
            by_cases c18 : x9_2 ≤ (l0.length : Int)
            · rw [if_pos c18] at H
              have c18b0 : decide (x9_2 ≤ (l0.length : Int)) = true := decide_eq_true c18
              clear c18
              by_cases c19 : 0 ≤ x9_2
              · rw [if_pos c19] at H
                have c19b0 := eq_true c19
                have c19b1 : decide (0 ≤ x9_2) = true := decide_eq_true c19
                clear c19
                have c20b0 := eq_true (of_decide_eq_true (by first | (with_reducible assumption) | assumption) : x9_2 ≤ (l0.length : Int))
                obtain ⟨y395, hy395⟩ : ∃ y_ : List (S40), y_ = (l0.take (x9_2 : Int).toNat) := ⟨_, rfl⟩
                replace H : ((late_Mark.f k2 y395).bind fun bt399 => (if bt399.2 = 0 then (if bt399.1 < x8_2 then (some false) else (tailwaterlaw20_LateGrows.l0 k2 l0 a1 a2 t393 bt399.1 (wrap64 (x9_2 + 1)))) else (some false))) = some true := by first | (rw [hy395]; with_reducible exact H) | (have H2_ := (Option.bind_some _ _).symm.trans H; rw [hy395]; with_reducible exact H2_) | (have H2_ := (Option.bind_some _ _).symm.trans H; with_reducible exact H2_) | with_reducible exact H | (rw [hy395]; exact H) | exact H
                have Ny395 := Aside0.mk hy395
                clear hy395
                replace H := Option.bind_eq_some_iff.mp H
                obtain ⟨⟨t399, t400⟩, A210, H⟩ := H
                try dsimp only at H
                have A21 := Aside0.mk A210
                clear A210
                by_cases c22 : t400 = 0
                · rw [if_pos c22] at H
                  have c22b0 : (t400 == 0) = true := beq_iff_eq.mpr c22
                  have c22b1 : (t400 != 0) = false := bne_eq_false_iff_eq.mpr c22
                  clear c22
                  by_cases c23 : t399 < x8_2
                  · rw [if_pos c23] at H
                    have c23b0 : decide (t399 < x8_2) = true := decide_eq_true c23
                    clear c23
                    exact absurd H (by decide)
                  · rw [if_neg c23] at H
                    have c23b0 : decide (t399 < x8_2) = false := decide_eq_false c23
                    clear c23
                    have H' := Aside0.mk H
                    clear H
                    have q24 : (x9_2 : Int) ≤ ((l0.length : Int) : Int) := of_decide_eq_true (by first | (with_reducible assumption) | assumption)
                    obtain ⟨i024, hi024, _, hsz24, _⟩ := info_parts info40
                    have hroom24 : l0.length ≤ c0 := HC0.out
                    have hC24 : Kd.C k40 _ A0 l0.length l0 := HR0.out
                    have hcut24 := cut_to (P := Try.prog) 22 40 .i64 Try.underlying22 hi024 A0 l0.length c0 x9_2 (of_decide_eq_true (by first | (with_reducible assumption) | assumption)) q24 hroom24
                    have hr24 := Kd.C_take (m := (x9_2 : Int).toNat) hC24 (by omega)
                    have hy24 : y395.length = (x9_2 : Int).toNat := (by rw [Ny395.out, List.length_take]; omega)
                    rw [← Ny395.out] at hr24
                    rw [← hy24] at hcut24
                    have HR398 := Aside0.mk hr24
                    have HC398 := Aside0.mk (show y395.length ≤ c0 from by omega)
                    clear hr24 hC24 hroom24 hi024 hsz24
                    have KY24 := Aside0.mk hy24
                    clear hy24
                    replace q24 := eq_true q24
                    go_wp2_with (first | ((with_reducible refine gate_callee (f := 9) rfl ?_); refine goesL_ (some 57) rfl rfl Try.func9 (by kernel_rfl) rfl #[.slice A0 y395.length c0] rfl (by (try simp only [List.map_toArray, List.map_cons, List.map_nil]); first | done | rfl | (simp only [List.length_drop, List.length_take]; rfl)) ?_; (with_reducible refine (late_Mark.calls k2 _ _ y395 t399 t400 _ ?side1 ?side2 A21.out).mono ?_); (case side1 => repeat (first | exact (Kd.C_below HR398.out HB.out) | (with_reducible refine Kd.C_alloc ?_ _) | (with_reducible refine Kd.C_drewN ?_ _) | (with_reducible refine Kd.C_drew ?_))); (case side2 => exact HC398.out); rintro e w25 ⟨rfl, hb⟩; refine ⟨_, rfl, ?_⟩; have n0_ := Aside0.mk (below_step (by repeat (first | (with_reducible first | exact HB.out | apply below_alloc | apply pw_below_drewN | apply below_drew1) | exact HB.out)) hb); clear HB; have HB := n0_; clear n0_; (try clear hb); (try clear hb2); (try clear hk); (try clear hi)))
                    go_roundg k2
                    case measure => have := HJ4.out; have := HK2.out; omega
                    case rel => exact ⟨(t399), (wrap64 (x9_2 + 1)), (by first | rfl | (simp; done) | (simp [*]; done)), (by first | rfl | (simp; done) | (simp [*]; done)), H', ⟨by have := HJ4.out; have := HK2.out; omega⟩, ⟨by repeat (first | (with_reducible first | exact HB.out | apply below_alloc | apply pw_below_drewN | apply below_drew1) | exact HB.out)⟩⟩
                · rw [if_neg c22] at H
                  have c22b0 : (t400 == 0) = false := beq_eq_false_iff_ne.mpr c22
                  have c22b1 : (t400 != 0) = true := bne_iff_ne.mpr c22
                  exact absurd H (by decide)
              · rw [if_neg c19] at H
                exact absurd H (by simp)
            · rw [if_neg c18] at H
              have c18b0 : decide (x9_2 ≤ (l0.length : Int)) = false := decide_eq_false c18
              clear c18
              by_cases c26 : 0 ≤ a1
              · rw [if_pos c26] at H
                have c26b0 := eq_true c26
                have c26b1 : decide (0 ≤ a1) = true := decide_eq_true c26
                clear c26
                by_cases c27 : a1 ≤ (l0.length : Int)
                · rw [if_pos c27] at H
                  have c27b0 := eq_true c27
                  have c27b1 : decide (a1 ≤ (l0.length : Int)) = true := decide_eq_true c27
                  clear c27
                  obtain ⟨y401, hy401⟩ : ∃ y_ : List (S40), y_ = (l0.take (a1 : Int).toNat) := ⟨_, rfl⟩
                  replace H : ((late_Mark.f k2 y401).bind fun bt405 => (if bt405.2 = 0 then (if a2 > bt405.1 then (tailwaterlaw20_LateGrows.j2 k2 l0 a1 a2 t393 x8_2 bt405.2 true) else ((tailwaterlaw20_mark.f a2).bind fun bt407 => ((tailwaterref20_Valid.f k2 bt407.1 bt407.2.1 bt407.2.2.1 bt407.2.2.2.1 bt407.2.2.2.2).bind fun t412 => (tailwaterlaw20_LateGrows.j2 k2 l0 a1 a2 t393 x8_2 bt405.2 (!t412))))) else (tailwaterlaw20_LateGrows.j2 k2 l0 a1 a2 t393 x8_2 bt405.2 true))) = some true := by first | (rw [hy401]; with_reducible exact H) | (have H2_ := (Option.bind_some _ _).symm.trans H; rw [hy401]; with_reducible exact H2_) | (have H2_ := (Option.bind_some _ _).symm.trans H; with_reducible exact H2_) | with_reducible exact H | (rw [hy401]; exact H) | exact H
                  have Ny401 := Aside0.mk hy401
                  clear hy401
                  replace H := Option.bind_eq_some_iff.mp H
                  obtain ⟨⟨t405, t406⟩, A280, H⟩ := H
                  try dsimp only at H
                  have A28 := Aside0.mk A280
                  clear A280
                  have HC29 := Aside0.mk H
                  clear H
                  have q30 : (a1 : Int) ≤ ((l0.length : Int) : Int) := of_decide_eq_true (by first | (with_reducible assumption) | assumption)
                  obtain ⟨i030, hi030, _, hsz30, _⟩ := info_parts info40
                  have hroom30 : l0.length ≤ c0 := HC0.out
                  have hC30 : Kd.C k40 _ A0 l0.length l0 := HR0.out
                  have hcut30 := cut_to (P := Try.prog) 22 40 .i64 Try.underlying22 hi030 A0 l0.length c0 a1 (of_decide_eq_true (by first | (with_reducible assumption) | assumption)) q30 hroom30
                  have hr30 := Kd.C_take (m := (a1 : Int).toNat) hC30 (by omega)
                  have hy30 : y401.length = (a1 : Int).toNat := (by rw [Ny401.out, List.length_take]; omega)
                  rw [← Ny401.out] at hr30
                  rw [← hy30] at hcut30
                  have HR404 := Aside0.mk hr30
                  have HC404 := Aside0.mk (show y401.length ≤ c0 from by omega)
                  clear hr30 hC30 hroom30 hi030 hsz30
                  have KY30 := Aside0.mk hy30
                  clear hy30
                  replace q30 := eq_true q30
                  go_upto_region 13 with (first | ((with_reducible refine gate_callee (f := 9) rfl ?_); refine goesL_ (some 72) rfl rfl Try.func9 (by kernel_rfl) rfl #[.slice A0 y401.length c0] rfl (by (try simp only [List.map_toArray, List.map_cons, List.map_nil]); first | done | rfl | (simp only [List.length_drop, List.length_take]; rfl)) ?_; (with_reducible refine (late_Mark.calls k2 _ _ y401 t405 t406 _ ?side1 ?side2 A28.out).mono ?_); (case side1 => repeat (first | exact (Kd.C_below HR404.out HB.out) | (with_reducible refine Kd.C_alloc ?_ _) | (with_reducible refine Kd.C_drewN ?_ _) | (with_reducible refine Kd.C_drew ?_))); (case side2 => exact HC404.out); rintro e w31 ⟨rfl, hb⟩; refine ⟨_, rfl, ?_⟩; have n0_ := Aside0.mk (below_step (by repeat (first | (with_reducible first | exact HB.out | apply below_alloc | apply pw_below_drewN | apply below_drew1) | exact HB.out)) hb); clear HB; have HB := n0_; clear n0_; (try clear hb); (try clear hb2); (try clear hk); (try clear hi)))
                  (try simp only [Act.put, List.setIfInBounds_toArray, List.set_cons_zero, List.set_cons_succ])
                  go_cut [87] (fun v87 wc => ∃ (kq : Nat) (x87_28 : Bool), v87 = .bool x87_28 ∧ Aside0 (tailwaterlaw20_LateGrows.j2 kq l0 a1 a2 t393 x8_2 t406 x87_28 = some true) ∧ Aside0 (kq ≤ k2) ∧ Aside0 (Below w.heap.size w wc))
                  case first =>
                    have H := HC29.out
                    clear HC29
                    by_cases c32 : t406 = 0
                    · rw [if_pos c32] at H
                      have c32b0 : (t406 == 0) = true := beq_iff_eq.mpr c32
                      have c32b1 : (t406 != 0) = false := bne_eq_false_iff_eq.mpr c32
                      clear c32
                      (first | rw [c32b0] | (simp only [i64_w, i32_w]; rw [c32b0]) | skip)
                      by_cases c33 : a2 > t405
                      · rw [if_pos c33] at H
                        have c33b0 : decide (t405 < a2) = true := decide_eq_true c33
                        clear c33
                        have H' := Aside0.mk H
                        clear H
                        go_wp2
                        go_meet
                        case rel => exact ⟨_, (true), (by first | rfl | (simp; done) | (simp [*]; done)), H', ⟨by have := HJ4.out; have := HK2.out; first | omega | exact Nat.le_refl _⟩, ⟨by repeat (first | (with_reducible first | exact HB.out | apply below_alloc | apply pw_below_drewN | apply below_drew1) | exact HB.out)⟩⟩
                      · rw [if_neg c33] at H
                        have c33b0 : decide (t405 < a2) = false := decide_eq_false c33
                        clear c33
                        replace H := Option.bind_eq_some_iff.mp H
                        obtain ⟨⟨t407, t408, t409, t410, t411⟩, A340, H⟩ := H
                        try dsimp only at H
                        have A34 := Aside0.mk A340
                        clear A340
                        replace H := Option.bind_eq_some_iff.mp H
                        obtain ⟨t412, A350, H⟩ := H
                        try dsimp only at H
                        have A35 := Aside0.mk A350
                        clear A350
                        have H' := Aside0.mk H
                        clear H
                        go_wp2_with (first | (go_at_call 17; (with_reducible refine (tailwaterlaw20_mark.calls a2 t407 t408 t409 t410 t411 _ A34.out).mono ?_); rintro e w36 ⟨rfl, hb⟩; have n0_ := Aside0.mk (below_step (by repeat (first | (with_reducible first | exact HB.out | apply below_alloc | apply pw_below_drewN | apply below_drew1) | exact HB.out)) hb); clear HB; have HB := n0_; clear n0_; (try clear hb); (try clear hb2); (try clear hk); (try clear hi)) | (go_at_call 20; (with_reducible refine (tailwaterref20_Valid.calls k2 t407 t408 t409 t410 t411 t412 _ A35.out).mono ?_); rintro e w37 ⟨rfl, hb⟩; have n0_ := Aside0.mk (below_step (by repeat (first | (with_reducible first | exact HB.out | apply below_alloc | apply pw_below_drewN | apply below_drew1) | exact HB.out)) hb); clear HB; have HB := n0_; clear n0_; (try clear hb); (try clear hb2); (try clear hk); (try clear hi)))
                        go_meet
                        case rel => exact ⟨_, (!t412), (by first | rfl | (simp; done) | (simp [*]; done)), H', ⟨by have := HJ4.out; have := HK2.out; first | omega | exact Nat.le_refl _⟩, ⟨by repeat (first | (with_reducible first | exact HB.out | apply below_alloc | apply pw_below_drewN | apply below_drew1) | exact HB.out)⟩⟩
                    · rw [if_neg c32] at H
                      have c32b0 : (t406 == 0) = false := beq_eq_false_iff_ne.mpr c32
                      have c32b1 : (t406 != 0) = true := bne_iff_ne.mpr c32
                      (first | rw [c32b0] | (simp only [i64_w, i32_w]; rw [c32b0]) | skip)
                      have H' := Aside0.mk H
                      clear H
                      go_wp2
                      go_meet
                      case rel => exact ⟨_, (true), (by first | rfl | (simp; done) | (simp [*]; done)), H', ⟨by have := HJ4.out; have := HK2.out; first | omega | exact Nat.le_refl _⟩, ⟨by repeat (first | (with_reducible first | exact HB.out | apply below_alloc | apply pw_below_drewN | apply below_drew1) | exact HB.out)⟩⟩
                  case rest =>
                    clear HC29
                    try clear c1
                    try clear c2
                    try clear p2
                    try clear q2
                    try clear c3
                    try clear q3
                    try clear c6
                    try clear p6
                    try clear c8
                    try clear c8b0
                    try clear c8b1
                    try clear c9
                    try clear c9b0
                    try clear c9b1
                    try clear c11
                    try clear c11b0
                    try clear c13
                    try clear c13b0
                    try clear c15
                    try clear c17
                    try clear c18
                    try clear c18b0
                    try clear c19
                    try clear c19b0
                    try clear c19b1
                    try clear c20
                    try clear c20b0
                    try clear c22
                    try clear c22b0
                    try clear c22b1
                    try clear c23
                    try clear c23b0
                    try clear q24
                    try clear c26
                    try clear c26b0
                    try clear c26b1
                    try clear c27
                    try clear c27b0
                    try clear c27b1
                    try clear q30
                    try clear c32
                    try clear c32b0
                    try clear c32b1
                    try clear c33
                    try clear c33b0
                    try clear p2
                    try clear q24
                    try clear q30
                    obtain ⟨kq, x87_28, rfl, HA, HJ28, HB⟩ := hcut
                    cases kq with
                    | zero => exact absurd HA.out (by simp [tailwaterlaw20_LateGrows.j2])
                    | succ kj28 =>
                      have H := HA.out
                      clear HA
                      simp only [tailwaterlaw20_LateGrows.j2] at H
                      by_cases c38 : x87_28 = true
                      · subst c38
                        have H1 := H
                        rw [if_pos rfl] at H1
                        clear H
                        have H := H1
                        clear H1
                        by_cases c39 : t393 = true
                        · subst c39
                          have H1 := H
                          rw [if_pos rfl] at H1
                          clear H
                          have H := H1
                          clear H1
                          have HV_ := Option.some.inj H
                          clear H
                          go_wp2
                          go_ret
                          exact ⟨by first | rfl | (simp [errW_none, errW_some] <;> rfl) | (simp [*, errW_none, errW_some] <;> rfl), by repeat (first | (with_reducible first | exact HB.out | apply below_alloc | apply pw_below_drewN | apply below_drew1) | exact HB.out)⟩
                        · replace c39 := Bool.eq_false_iff.mpr c39
                          subst c39
                          have H1 := H
                          rw [if_neg (show ¬ (false = true) by decide)] at H1
                          clear H
                          have H := H1
                          clear H1
                          exact absurd H (by decide)
                      · replace c38 := Bool.eq_false_iff.mpr c38
                        subst c38
                        have H1 := H
                        rw [if_neg (show ¬ (false = true) by decide)] at H1
                        clear H
                        have H := H1
                        clear H1
                        obtain ⟨y413, hy413⟩ : ∃ y_ : List (S40), y_ = (([] : List (S40))) := ⟨_, rfl⟩
                        replace H : (if 0 ≤ a1 then (if a1 ≤ (l0.length : Int) then ((some (l0.take (a1 : Int).toNat : List (S40))).bind fun y416 => (if y413.length + y416.length < 3518437208883 then ((some (y413 ++ y416 : List (S40))).bind fun y420 => ((tailwaterlaw20_mark.f a2).bind fun bt423 => (if y420.length < 3518437208883 then ((some (y420 ++ [(⟨bt423.1, bt423.2.1, (⟨bt423.2.2.1, bt423.2.2.2.1, bt423.2.2.2.2⟩ : S38)⟩ : S40)] : List (S40))).bind fun y428 => ((some (l0.drop (a1 : Int).toNat : List (S40))).bind fun y431 => (if y428.length + y431.length < 3518437208883 then ((some (y428 ++ y431 : List (S40))).bind fun y435 => ((late_Mark.f kj28 y435).bind fun bt438 => ((late_Split.f kj28 l0).bind fun bt440 => ((late_Split.f kj28 y435).bind fun bt447 => (if t393 = true then (if bt438.2 = 0 then (if bt438.1 = x8_2 then (if bt440.2.2 = 0 then (if bt447.2.2 = 0 then ((tailwaterref20_Same.f kj28 bt440.1 bt447.1).bind fun t454 => (if t454 = true then ((tailwaterref20_Same.f kj28 bt440.2.1 bt447.2.1).bind fun t455 => (some t455)) else (some false))) else (some false)) else (some false)) else (some false)) else (some false)) else (some false)))))) else (none)))) else (none)))) else (none))) else (none)) else (none)) = some true := by first | (rw [hy413]; with_reducible exact H) | (have H2_ := (Option.bind_some _ _).symm.trans H; rw [hy413]; with_reducible exact H2_) | (have H2_ := (Option.bind_some _ _).symm.trans H; with_reducible exact H2_) | with_reducible exact H | (rw [hy413]; exact H) | exact H
                        have Ny413 := Aside0.mk hy413
                        clear hy413
                        by_cases c40 : 0 ≤ a1
                        · rw [if_pos c40] at H
                          have c40b0 := eq_true c40
                          have c40b1 : decide (0 ≤ a1) = true := decide_eq_true c40
                          clear c40
                          by_cases c41 : a1 ≤ (l0.length : Int)
                          · rw [if_pos c41] at H
                            have c41b0 := eq_true c41
                            have c41b1 : decide (a1 ≤ (l0.length : Int)) = true := decide_eq_true c41
                            clear c41
                            obtain ⟨y416, hy416⟩ : ∃ y_ : List (S40), y_ = (l0.take (a1 : Int).toNat) := ⟨_, rfl⟩
                            replace H : (if y413.length + y416.length < 3518437208883 then ((some (y413 ++ y416 : List (S40))).bind fun y420 => ((tailwaterlaw20_mark.f a2).bind fun bt423 => (if y420.length < 3518437208883 then ((some (y420 ++ [(⟨bt423.1, bt423.2.1, (⟨bt423.2.2.1, bt423.2.2.2.1, bt423.2.2.2.2⟩ : S38)⟩ : S40)] : List (S40))).bind fun y428 => ((some (l0.drop (a1 : Int).toNat : List (S40))).bind fun y431 => (if y428.length + y431.length < 3518437208883 then ((some (y428 ++ y431 : List (S40))).bind fun y435 => ((late_Mark.f kj28 y435).bind fun bt438 => ((late_Split.f kj28 l0).bind fun bt440 => ((late_Split.f kj28 y435).bind fun bt447 => (if t393 = true then (if bt438.2 = 0 then (if bt438.1 = x8_2 then (if bt440.2.2 = 0 then (if bt447.2.2 = 0 then ((tailwaterref20_Same.f kj28 bt440.1 bt447.1).bind fun t454 => (if t454 = true then ((tailwaterref20_Same.f kj28 bt440.2.1 bt447.2.1).bind fun t455 => (some t455)) else (some false))) else (some false)) else (some false)) else (some false)) else (some false)) else (some false)))))) else (none)))) else (none)))) else (none)) = some true := by first | (rw [hy416]; with_reducible exact H) | (have H2_ := (Option.bind_some _ _).symm.trans H; rw [hy416]; with_reducible exact H2_) | (have H2_ := (Option.bind_some _ _).symm.trans H; with_reducible exact H2_) | with_reducible exact H | (rw [hy416]; exact H) | exact H
                            have Ny416 := Aside0.mk hy416
                            have e_y416 : y401 = y416 := Ny401.out.trans Ny416.out.symm
                            subst y401
                            clear hy416
                            by_cases c42 : y413.length + y416.length < 3518437208883
                            · rw [if_pos c42] at H
                              have LMc42 := Aside0.mk c42
                              clear c42
                              obtain ⟨y420, hy420⟩ : ∃ y_ : List (S40), y_ = (y413 ++ y416) := ⟨_, rfl⟩
                              replace H : ((tailwaterlaw20_mark.f a2).bind fun bt423 => (if y420.length < 3518437208883 then ((some (y420 ++ [(⟨bt423.1, bt423.2.1, (⟨bt423.2.2.1, bt423.2.2.2.1, bt423.2.2.2.2⟩ : S38)⟩ : S40)] : List (S40))).bind fun y428 => ((some (l0.drop (a1 : Int).toNat : List (S40))).bind fun y431 => (if y428.length + y431.length < 3518437208883 then ((some (y428 ++ y431 : List (S40))).bind fun y435 => ((late_Mark.f kj28 y435).bind fun bt438 => ((late_Split.f kj28 l0).bind fun bt440 => ((late_Split.f kj28 y435).bind fun bt447 => (if t393 = true then (if bt438.2 = 0 then (if bt438.1 = x8_2 then (if bt440.2.2 = 0 then (if bt447.2.2 = 0 then ((tailwaterref20_Same.f kj28 bt440.1 bt447.1).bind fun t454 => (if t454 = true then ((tailwaterref20_Same.f kj28 bt440.2.1 bt447.2.1).bind fun t455 => (some t455)) else (some false))) else (some false)) else (some false)) else (some false)) else (some false)) else (some false)))))) else (none)))) else (none))) = some true := by first | (rw [hy420]; with_reducible exact H) | (have H2_ := (Option.bind_some _ _).symm.trans H; rw [hy420]; with_reducible exact H2_) | (have H2_ := (Option.bind_some _ _).symm.trans H; with_reducible exact H2_) | with_reducible exact H | (rw [hy420]; exact H) | exact H
                              have Ny420 := Aside0.mk hy420
                              clear hy420
                              replace H := Option.bind_eq_some_iff.mp H
                              obtain ⟨⟨t423, t424, t425, t426, t427⟩, A430, H⟩ := H
                              try dsimp only at H
                              have A43 := Aside0.mk A430
                              clear A430
                              by_cases c44 : y420.length < 3518437208883
                              · rw [if_pos c44] at H
                                have LMc44 := Aside0.mk c44
                                clear c44
                                obtain ⟨y428, hy428⟩ : ∃ y_ : List (S40), y_ = (y420 ++ [(⟨t423, t424, (⟨t425, t426, t427⟩ : S38)⟩ : S40)]) := ⟨_, rfl⟩
                                replace H : ((some (l0.drop (a1 : Int).toNat : List (S40))).bind fun y431 => (if y428.length + y431.length < 3518437208883 then ((some (y428 ++ y431 : List (S40))).bind fun y435 => ((late_Mark.f kj28 y435).bind fun bt438 => ((late_Split.f kj28 l0).bind fun bt440 => ((late_Split.f kj28 y435).bind fun bt447 => (if t393 = true then (if bt438.2 = 0 then (if bt438.1 = x8_2 then (if bt440.2.2 = 0 then (if bt447.2.2 = 0 then ((tailwaterref20_Same.f kj28 bt440.1 bt447.1).bind fun t454 => (if t454 = true then ((tailwaterref20_Same.f kj28 bt440.2.1 bt447.2.1).bind fun t455 => (some t455)) else (some false))) else (some false)) else (some false)) else (some false)) else (some false)) else (some false)))))) else (none))) = some true := by first | (rw [hy428]; with_reducible exact H) | (have H2_ := (Option.bind_some _ _).symm.trans H; rw [hy428]; with_reducible exact H2_) | (have H2_ := (Option.bind_some _ _).symm.trans H; with_reducible exact H2_) | with_reducible exact H | (rw [hy428]; exact H) | exact H
                                have Ny428 := Aside0.mk hy428
                                clear hy428
                                have c45b0 := eq_true (of_decide_eq_true (by first | (with_reducible assumption) | assumption) : 0 ≤ a1)
                                have c46b0 := eq_true (of_decide_eq_true (by first | (with_reducible assumption) | assumption) : a1 ≤ (l0.length : Int))
                                obtain ⟨y431, hy431⟩ : ∃ y_ : List (S40), y_ = (l0.drop (a1 : Int).toNat) := ⟨_, rfl⟩
                                replace H : (if y428.length + y431.length < 3518437208883 then ((some (y428 ++ y431 : List (S40))).bind fun y435 => ((late_Mark.f kj28 y435).bind fun bt438 => ((late_Split.f kj28 l0).bind fun bt440 => ((late_Split.f kj28 y435).bind fun bt447 => (if t393 = true then (if bt438.2 = 0 then (if bt438.1 = x8_2 then (if bt440.2.2 = 0 then (if bt447.2.2 = 0 then ((tailwaterref20_Same.f kj28 bt440.1 bt447.1).bind fun t454 => (if t454 = true then ((tailwaterref20_Same.f kj28 bt440.2.1 bt447.2.1).bind fun t455 => (some t455)) else (some false))) else (some false)) else (some false)) else (some false)) else (some false)) else (some false)))))) else (none)) = some true := by first | (rw [hy431]; with_reducible exact H) | (have H2_ := (Option.bind_some _ _).symm.trans H; rw [hy431]; with_reducible exact H2_) | (have H2_ := (Option.bind_some _ _).symm.trans H; with_reducible exact H2_) | with_reducible exact H | (rw [hy431]; exact H) | exact H
                                have Ny431 := Aside0.mk hy431
                                clear hy431
                                by_cases c47 : y428.length + y431.length < 3518437208883
                                · rw [if_pos c47] at H
                                  have LMc47 := Aside0.mk c47
                                  clear c47
                                  obtain ⟨y435, hy435⟩ : ∃ y_ : List (S40), y_ = (y428 ++ y431) := ⟨_, rfl⟩
                                  replace H : ((late_Mark.f kj28 y435).bind fun bt438 => ((late_Split.f kj28 l0).bind fun bt440 => ((late_Split.f kj28 y435).bind fun bt447 => (if t393 = true then (if bt438.2 = 0 then (if bt438.1 = x8_2 then (if bt440.2.2 = 0 then (if bt447.2.2 = 0 then ((tailwaterref20_Same.f kj28 bt440.1 bt447.1).bind fun t454 => (if t454 = true then ((tailwaterref20_Same.f kj28 bt440.2.1 bt447.2.1).bind fun t455 => (some t455)) else (some false))) else (some false)) else (some false)) else (some false)) else (some false)) else (some false))))) = some true := by first | (rw [hy435]; with_reducible exact H) | (have H2_ := (Option.bind_some _ _).symm.trans H; rw [hy435]; with_reducible exact H2_) | (have H2_ := (Option.bind_some _ _).symm.trans H; with_reducible exact H2_) | with_reducible exact H | (rw [hy435]; exact H) | exact H
                                  have Ny435 := Aside0.mk hy435
                                  clear hy435
                                  replace H := Option.bind_eq_some_iff.mp H
                                  obtain ⟨⟨t438, t439⟩, A480, H⟩ := H
                                  try dsimp only at H
                                  have A48 := Aside0.mk A480
                                  clear A480
                                  replace H := Option.bind_eq_some_iff.mp H
                                  obtain ⟨⟨t440, t441, t442⟩, A490, H⟩ := H
                                  try dsimp only at H
                                  have A49 := Aside0.mk A490
                                  clear A490
                                  replace H := Option.bind_eq_some_iff.mp H
                                  obtain ⟨⟨t447, t448, t449⟩, A500, H⟩ := H
                                  try dsimp only at H
                                  have A50 := Aside0.mk A500
                                  clear A500
                                  by_cases c51 : t393 = true
                                  · subst c51
                                    have H1 := H
                                    rw [if_pos rfl] at H1
                                    clear H
                                    have H := H1
                                    clear H1
                                    by_cases c52 : t439 = 0
                                    · rw [if_pos c52] at H
                                      have c52b0 : (t439 == 0) = true := beq_iff_eq.mpr c52
                                      have c52b1 : (t439 != 0) = false := bne_eq_false_iff_eq.mpr c52
                                      clear c52
                                      by_cases c53 : t438 = x8_2
                                      · rw [if_pos c53] at H
                                        have c53b0 : (t438 == x8_2) = true := beq_iff_eq.mpr c53
                                        have c53b1 : (t438 != x8_2) = false := bne_eq_false_iff_eq.mpr c53
                                        clear c53
                                        by_cases c54 : t442 = 0
                                        · rw [if_pos c54] at H
                                          have c54b0 : (t442 == 0) = true := beq_iff_eq.mpr c54
                                          have c54b1 : (t442 != 0) = false := bne_eq_false_iff_eq.mpr c54
                                          clear c54
                                          by_cases c55 : t449 = 0
                                          · rw [if_pos c55] at H
                                            have c55b0 : (t449 == 0) = true := beq_iff_eq.mpr c55
                                            have c55b1 : (t449 != 0) = false := bne_eq_false_iff_eq.mpr c55
                                            clear c55
                                            replace H := Option.bind_eq_some_iff.mp H
                                            obtain ⟨t454, A560, H⟩ := H
                                            try dsimp only at H
                                            have A56 := Aside0.mk A560
                                            clear A560
                                            by_cases c57 : t454 = true
                                            · subst c57
                                              have H1 := H
                                              rw [if_pos rfl] at H1
                                              clear H
                                              have H := H1
                                              clear H1
                                              replace H := Option.bind_eq_some_iff.mp H
                                              obtain ⟨t455, A580, H⟩ := H
                                              try dsimp only at H
                                              have A58 := Aside0.mk A580
                                              clear A580
                                              have HV_ := Option.some.inj H
                                              clear H
                                              try go_wp2
                                              have n0_ := Aside0.mk (below_drew1 HB.out)
                                              clear HB
                                              have HB := n0_
                                              clear n0_
                                              have q60 : (a1 : Int) ≤ ((l0.length : Int) : Int) := of_decide_eq_true (by first | (with_reducible assumption) | assumption)
                                              obtain ⟨i060, hi060, _, hsz60, _⟩ := info_parts info40
                                              have hroom60 : l0.length ≤ c0 := HC0.out
                                              have hC60 : Kd.C k40 _ A0 l0.length l0 := HR0.out
                                              have hcut60 := cut_to (P := Try.prog) 22 40 .i64 Try.underlying22 hi060 A0 l0.length c0 a1 (of_decide_eq_true (by first | (with_reducible assumption) | assumption)) q60 hroom60
                                              have hr60 := Kd.C_take (m := (a1 : Int).toNat) hC60 (by omega)
                                              have hy60 : y416.length = (a1 : Int).toNat := (by rw [Ny416.out, List.length_take]; omega)
                                              rw [← Ny416.out] at hr60
                                              rw [← hy60] at hcut60
                                              have HR419 := Aside0.mk hr60
                                              have HC419 := Aside0.mk (show y416.length ≤ c0 from by omega)
                                              clear hr60 hC60 hroom60 hi060 hsz60
                                              have KY60 := Aside0.mk hy60
                                              clear hy60
                                              replace q60 := eq_true q60
                                              have q61 : (a1 : Int) ≤ ((l0.length : Int) : Int) := of_decide_eq_true (by first | (with_reducible assumption) | assumption)
                                              obtain ⟨i061, hi061, _, hsz61, _⟩ := info_parts info40
                                              have hroom61 : l0.length ≤ c0 := HC0.out
                                              have hC61 : Kd.C k40 _ A0 l0.length l0 := HR0.out
                                              have q061 : (0 : Int) ≤ (a1 : Int) := of_decide_eq_true (by first | (with_reducible assumption) | assumption)
                                              have hcut61 := cut_from (P := Try.prog) 22 40 .i64 Try.underlying22 hi061 5 hsz61 A0 l0.length c0 a1 q061 q61
                                              have hr61 := Kd.C_drop (m := (a1 : Int).toNat) (c := c0) hC61 (by omega) hroom61
                                              obtain ⟨A61, hA61⟩ : ∃ A1, A1 = (if c0 = (a1 : Int).toNat then A0 else (A0 : Option Addr).map (·.add ((a1 : Int).toNat * 5))) := ⟨_, rfl⟩
                                              obtain ⟨c61, hc61⟩ : ∃ c1, c1 = c0 - (a1 : Int).toNat := ⟨_, rfl⟩
                                              have hy61 : y431.length = l0.length - (a1 : Int).toNat := (by rw [Ny431.out, List.length_drop] <;> omega)
                                              rw [show (l0).drop (a1 : Int).toNat = y431 from Ny431.out.symm] at hr61
                                              replace hr61 : Kd.C k40 _ A61 y431.length y431 := (by rw [hA61]; exact hr61)
                                              rw [← hy61, ← hA61, ← hc61] at hcut61
                                              have HR434 := Aside0.mk hr61
                                              have HC434 := Aside0.mk (show y431.length ≤ c61 from by rw [hy61, hc61]; exact Nat.sub_le_sub_right hroom61 _)
                                              clear hr61 hC61 hroom61 hi061 hsz61 hc61
                                              have KY61 := Aside0.mk hy61
                                              have KA61 := Aside0.mk hA61
                                              clear hy61 hA61
                                              replace q61 := eq_true q61
                                              refine start_ (n := 14) (S := fun w' => True) (ds := []) #[false, false, false, false, false, false, false, false, false, false, false, false, false, false] (by kernel_rfl) rfl rfl trivial (fun hHeld => ?_); refine with_tabW tailwaterlaw20_LateGrows.tab15 tailwaterlaw20_LateGrows.bits15 (fun HT_ HW_ => ?_)
                                              generalize wc.drew = w59 at HB HR419 HR434 hHeld ⊢
                                              refine pure_ (i := 1) (N := some 94) (v := ?_) (a' := ?_) #[false, true, false, false, false, false, false, false, false, false, false, false, false, false] rfl rfl (any_of HT_.out (by kernel_rfl)) (fun _ _ _ h => h) (Or.inl ⟨by rfl, ?_⟩) ?_ ?_
                                              rotate_left
                                              · intro w'
                                                go_simp
                                                with_reducible rfl
                                              rotate_left
                                              · simp only [Act.put, List.setIfInBounds_toArray, List.set_cons_zero, List.set_cons_succ, i64_w, i32_w]
                                                rfl
                                              refine pure_ (i := 2) (N := some 95) (v := ?_) (a' := ?_) #[false, true, true, false, false, false, false, false, false, false, false, false, false, false] rfl rfl (any_of HT_.out (by kernel_rfl)) (fun _ _ _ h => h) (Or.inl ⟨by rfl, ?_⟩) ?_ ?_
                                              rotate_left
                                              · intro w'
                                                go_simp
                                                with_reducible rfl
                                              rotate_left
                                              · simp only [Act.put, List.setIfInBounds_toArray, List.set_cons_zero, List.set_cons_succ, i64_w, i32_w]
                                                rfl
                                              refine pure_ (i := 3) (N := some 96) (v := ?_) (a' := ?_) #[false, true, true, true, false, false, false, false, false, false, false, false, false, false] rfl rfl (any_of HT_.out (by kernel_rfl)) (fun _ _ _ h => h) (Or.inl ⟨by rfl, ?_⟩) ?_ ?_
                                              rotate_left
                                              · intro w'
                                                go_simp
                                                with_reducible rfl
                                              rotate_left
                                              · simp only [Act.put, List.setIfInBounds_toArray, List.set_cons_zero, List.set_cons_succ, i64_w, i32_w]
                                                rfl
                                              refine pure_ (i := 5) (N := some 98) (v := ?_) (a' := ?_) #[false, true, true, true, false, true, false, false, false, false, false, false, false, false] rfl rfl (any_of HT_.out (by kernel_rfl)) (fun _ _ _ h => h) (Or.inl ⟨by rfl, ?_⟩) ?_ ?_
                                              rotate_left
                                              · intro w'
                                                go_simp
                                                with_reducible rfl
                                              rotate_left
                                              · simp only [Act.put, List.setIfInBounds_toArray, List.set_cons_zero, List.set_cons_succ, i64_w, i32_w]
                                                rfl
                                              refine pure_ (i := 9) (N := some 102) (v := ?_) (a' := ?_) #[false, true, true, true, false, true, false, false, false, true, false, false, false, false] rfl rfl (any_of HT_.out (by kernel_rfl)) (fun _ _ _ h => h) (Or.inl ⟨by rfl, ?_⟩) ?_ ?_
                                              rotate_left
                                              · intro w'
                                                go_simp
                                                with_reducible rfl
                                              rotate_left
                                              · simp only [Act.put, List.setIfInBounds_toArray, List.set_cons_zero, List.set_cons_succ, i64_w, i32_w]
                                                rfl
                                              refine pure_ (i := 10) (N := some 103) (v := ?_) (a' := ?_) #[false, true, true, true, false, true, false, false, false, true, true, false, false, false] rfl rfl (any_of HT_.out (by kernel_rfl)) (fun _ _ _ h => h) (Or.inl ⟨by rfl, ?_⟩) ?_ ?_
                                              rotate_left
                                              · intro w'
                                                go_simp
                                                with_reducible rfl
                                              rotate_left
                                              · simp only [Act.put, List.setIfInBounds_toArray, List.set_cons_zero, List.set_cons_succ, i64_w, i32_w]
                                                rfl
                                              refine pure_ (i := 11) (N := some 104) (v := ?_) (a' := ?_) #[false, true, true, true, false, true, false, false, false, true, true, true, false, false] rfl rfl (any_of HT_.out (by kernel_rfl)) (fun _ _ _ h => h) (Or.inl ⟨by rfl, ?_⟩) ?_ ?_
                                              rotate_left
                                              · intro w'
                                                go_simp
                                                with_reducible rfl
                                              rotate_left
                                              · simp only [Act.put, List.setIfInBounds_toArray, List.set_cons_zero, List.set_cons_succ, i64_w, i32_w]
                                                rfl
                                              refine one_ (i := 0) (N := some 93) #[true, true, true, true, false, true, false, false, false, true, true, true, false, false] rfl rfl (one_of HT_.out (by kernel_rfl)) (by decide) (fun K hK => ?_)
                                              refine Kd.R_lit_step k40 _ 40 ?hg (N := 93) ?hd (xs := ([] : List (S40))) (inner := []) (ok := fun _ => True) (okp := fun _ => True) ?hr ?hp (fun _ hk => hk) trivial (Below.refl _ _) (Nat.le_refl _) (by simp) ?_; (case hd => rfl); (case hg => rfl); (case hr => first | (go_simp; done) | (go_simp; rfl)); (case hp => exact (Reps.none _ _))
                                              intro v414 w62 ho63 hb hg_ hnew_
                                              clear hg_ hnew_
                                              (first | rw [← Ny413.out] at ho63 | (simp only [Int.reduceToNat] at ho63; rw [← Ny413.out] at ho63))
                                              have n0_ := Aside0.mk (Kd.R_lower ho63 (below_size (by repeat (first | (with_reducible first | exact HB.out | apply below_alloc | apply pw_below_drewN | apply below_drew1) | exact HB.out))))
                                              have n1_ := Aside0.mk (below_step (by repeat (first | (with_reducible first | exact HB.out | apply below_alloc | apply pw_below_drewN | apply below_drew1) | exact HB.out)) hb)
                                              clear HB
                                              have HO415 := n0_
                                              have HB := n1_
                                              clear n0_ n1_
                                              clear hb ho63
                                              refine hK.out _ _ trivial (fun hHeld => ?_)
                                              clear hK K
                                              refine norm_ (a' := ?_) ?_ ?_
                                              rotate_left
                                              · show Act.put _ (some 93) _ = _
                                                simp only [Act.put, List.setIfInBounds_toArray, List.set_cons_zero, List.set_cons_succ, i64_w, i32_w]
                                                rfl
                                              refine one_ (i := 4) (N := some 97) #[true, true, true, true, true, true, false, false, false, true, true, true, false, false] rfl rfl (one_of HT_.out (by kernel_rfl)) (by decide) (fun K hK => ?_)
                                              refine Kd.R_append_rows_step k40 (w0 := w) w.heap.size (by rfl) (.tmp 93) (.tmp 96) 22 40 (.agg #[(.bool false), (.int .i64 0), (.int .i64 0), (.int .i64 0), (.int .i64 0)]) 40 rfl Try.underlying22 info40 rfl (by decide) (by omega) v414 y413 y416 _ _ _ (fun _ => True) (fun _ => False) rfl rfl ?aO ?aR (fun _ _ h => h) (fun _ h => h.elim) ?aF ?aB ?aS ?aL ?_
                                              (case aR => repeat (first | exact (Kd.C_below HR419.out HB.out) | (with_reducible refine Kd.C_alloc ?_ _) | (with_reducible refine Kd.C_drewN ?_ _) | (with_reducible refine Kd.C_drew ?_)))
                                              (case aB => exact (by repeat (first | (with_reducible first | exact HB.out | apply below_alloc | apply pw_below_drewN | apply below_drew1) | exact HB.out)))
                                              (case aF => exact (fun _ _ => trivial))
                                              (case aO => exact (by (with_reducible repeat (first | apply Kd.R_alloc | apply Kd.R_drewN | apply Kd.R_drew)); exact HO415.out))
                                              (case aS => exact (below_size (by repeat (first | (with_reducible first | exact HB.out | apply below_alloc | apply pw_below_drewN | apply below_drew1) | exact HB.out))))
                                              (case aL => have := LMc42.out; omega)
                                              intro v421 w64 ho hb hg hat
                                              rw [← Ny420.out] at ho
                                              have n0_ := Aside0.mk (hb)
                                              have n1_ := Aside0.mk (ho)
                                              clear HB
                                              clear HO415
                                              have HB := n0_
                                              have HO422 := n1_
                                              clear n0_ n1_
                                              clear ho hb hg hat
                                              refine hK.out _ _ trivial (fun hHeld => ?_)
                                              clear hK K
                                              refine norm_ (a' := ?_) ?_ ?_
                                              rotate_left
                                              · show Act.put _ (some 97) _ = _
                                                simp only [Act.put, List.setIfInBounds_toArray, List.set_cons_zero, List.set_cons_succ, i64_w, i32_w]
                                                rfl
                                              refine one_ (i := 6) (N := some 99) #[true, true, true, true, true, true, true, false, false, true, true, true, false, false] rfl rfl (one_of HT_.out (by kernel_rfl)) (by decide) (fun K hK => ?_)
                                              refine goes_ Try.func17 (by kernel_rfl) rfl #[.int .i64 a2] (by rfl) rfl rfl (by (try simp only [List.map_toArray, List.map_cons, List.map_nil]); first | done | rfl | (simp only [List.length_drop, List.length_take]; rfl)) ?_
                                              with_reducible refine (tailwaterlaw20_mark.calls a2 t423 t424 t425 t426 t427 _ A43.out).mono ?_
                                              rintro e w65 ⟨rfl, hb⟩
                                              refine ⟨_, rfl, ?_⟩
                                              have n0_ := Aside0.mk (Kd.R_below (by (with_reducible repeat (first | apply Kd.R_alloc | apply Kd.R_drewN | apply Kd.R_drew)); exact HO422.out) hb)
                                              have n1_ := Aside0.mk (below_step (by repeat (first | (with_reducible first | exact HB.out | apply below_alloc | apply pw_below_drewN | apply below_drew1) | exact HB.out)) hb)
                                              clear HO422
                                              clear HB
                                              have HO422 := n0_
                                              have HB := n1_
                                              clear n0_ n1_
                                              (try clear hb)
                                              (try clear hb2)
                                              (try clear hk)
                                              (try clear hi)
                                              refine hK.out _ _ trivial (fun hHeld => ?_)
                                              clear hK K
                                              refine norm_ (a' := ?_) ?_ ?_
                                              rotate_left
                                              · show Act.put _ (some 99) _ = _
                                                simp only [Act.put, List.setIfInBounds_toArray, List.set_cons_zero, List.set_cons_succ, i64_w, i32_w]
                                                rfl
                                              refine one_ (i := 7) (N := some 100) #[true, true, true, true, true, true, true, true, false, true, true, true, false, false] rfl rfl (one_of HT_.out (by kernel_rfl)) (by decide) (fun K hK => ?_)
                                              refine value_ (w1 := ?_) (v := ?_) (by rfl) rfl ?_ ?_
                                              rotate_left 2
                                              · go_simp
                                                constructor
                                                · rfl
                                                · rfl
                                              refine hK.out _ _ trivial (fun hHeld => ?_)
                                              clear hK K
                                              refine norm_ (a' := ?_) ?_ ?_
                                              rotate_left
                                              · show Act.put _ (some 100) _ = _
                                                simp only [Act.put, List.setIfInBounds_toArray, List.set_cons_zero, List.set_cons_succ, i64_w, i32_w]
                                                rfl
                                              refine one_ (i := 8) (N := some 101) #[true, true, true, true, true, true, true, true, true, true, true, true, false, false] rfl rfl (one_of HT_.out (by kernel_rfl)) (by decide) (fun K hK => ?_)
                                              refine Kd.R_append_step k40 (w0 := w) w.heap.size (by rfl) (.tmp 97) (.tmp 100) 22 40 (.agg #[(.bool false), (.int .i64 0), (.int .i64 0), (.int .i64 0), (.int .i64 0)]) 40 rfl Try.underlying22 info40 rfl (by decide) (by omega) v421 y420 (⟨t423, t424, (⟨t425, t426, t427⟩ : S38)⟩ : S40) [.bool t423, .int .i64 t424, .int .i64 t425, .int .i64 t426, .int .i64 t427] (fun _ => True) (fun _ => False) rfl rfl ?aP (fun _ hk => hk.elim) ?aF ?aO ?aB ?aS ?aL ?_
                                              (case aP => exact k40_mkM _ _ _ (⟨t423, t424, (⟨t425, t426, t427⟩ : S38)⟩ : S40))
                                              (case aB => exact (by repeat (first | (with_reducible first | exact HB.out | apply below_alloc | apply pw_below_drewN | apply below_drew1) | exact HB.out)))
                                              (case aF => exact (fun _ _ => trivial))
                                              (case aO => exact (by (with_reducible repeat (first | apply Kd.R_alloc | apply Kd.R_drewN | apply Kd.R_drew)); exact HO422.out))
                                              (case aS => exact (below_size (by repeat (first | (with_reducible first | exact HB.out | apply below_alloc | apply pw_below_drewN | apply below_drew1) | exact HB.out))))
                                              (case aL => have := LMc44.out; omega)
                                              intro v429 w66 ho hb hg hat
                                              rw [← Ny428.out] at ho
                                              have n0_ := Aside0.mk (hb)
                                              have n1_ := Aside0.mk (ho)
                                              clear HB
                                              clear HO422
                                              have HB := n0_
                                              have HO430 := n1_
                                              clear n0_ n1_
                                              clear ho hb hg hat
                                              refine hK.out _ _ trivial (fun hHeld => ?_)
                                              clear hK K
                                              refine norm_ (a' := ?_) ?_ ?_
                                              rotate_left
                                              · show Act.put _ (some 101) _ = _
                                                simp only [Act.put, List.setIfInBounds_toArray, List.set_cons_zero, List.set_cons_succ, i64_w, i32_w]
                                                rfl
                                              refine one_ (i := 12) (N := some 105) #[true, true, true, true, true, true, true, true, true, true, true, true, true, false] rfl rfl (one_of HT_.out (by kernel_rfl)) (by decide) (fun K hK => ?_)
                                              refine Kd.R_append_rows_step k40 (w0 := w) w.heap.size (by rfl) (.tmp 101) (.tmp 104) 22 40 (.agg #[(.bool false), (.int .i64 0), (.int .i64 0), (.int .i64 0), (.int .i64 0)]) 40 rfl Try.underlying22 info40 rfl (by decide) (by omega) v429 y428 y431 _ _ _ (fun _ => True) (fun _ => False) rfl rfl ?aO ?aR (fun _ _ h => h) (fun _ h => h.elim) ?aF ?aB ?aS ?aL ?_
                                              (case aR => repeat (first | exact (Kd.C_below HR434.out HB.out) | (with_reducible refine Kd.C_alloc ?_ _) | (with_reducible refine Kd.C_drewN ?_ _) | (with_reducible refine Kd.C_drew ?_)))
                                              (case aB => exact (by repeat (first | (with_reducible first | exact HB.out | apply below_alloc | apply pw_below_drewN | apply below_drew1) | exact HB.out)))
                                              (case aF => exact (fun _ _ => trivial))
                                              (case aO => exact (by (with_reducible repeat (first | apply Kd.R_alloc | apply Kd.R_drewN | apply Kd.R_drew)); exact HO430.out))
                                              (case aS => exact (below_size (by repeat (first | (with_reducible first | exact HB.out | apply below_alloc | apply pw_below_drewN | apply below_drew1) | exact HB.out))))
                                              (case aL => have := LMc47.out; omega)
                                              intro v436 w67 ho hb hg hat
                                              rw [← Ny435.out] at ho
                                              have n0_ := Aside0.mk (hb)
                                              have n1_ := Aside0.mk (ho)
                                              clear HB
                                              clear HO430
                                              have HB := n0_
                                              have HO437 := n1_
                                              clear n0_ n1_
                                              clear ho hb hg hat
                                              refine hK.out _ _ trivial (fun hHeld => ?_)
                                              clear hK K
                                              refine norm_ (a' := ?_) ?_ ?_
                                              rotate_left
                                              · show Act.put _ (some 105) _ = _
                                                simp only [Act.put, List.setIfInBounds_toArray, List.set_cons_zero, List.set_cons_succ, i64_w, i32_w]
                                                rfl
                                              refine pure_ (i := 13) (N := some 14) (v := ?_) (a' := ?_) #[true, true, true, true, true, true, true, true, true, true, true, true, true, true] rfl rfl (any_of HT_.out (by kernel_rfl)) (fun _ _ _ h => h) (Or.inl ⟨by rfl, ?_⟩) ?_ ?_
                                              rotate_left
                                              · intro w'
                                                go_simp
                                                with_reducible rfl
                                              rotate_left
                                              · simp only [Act.put, List.setIfInBounds_toArray, List.set_cons_zero, List.set_cons_succ, i64_w, i32_w]
                                                rfl
                                              refine done_ (done_of HT_.out (by kernel_rfl)) ?_
                                              obtain ⟨Ao68, co68, eo68⟩ := Kd.R_slice HO437.out
                                              subst eo68
                                              try go_wp2_with (first | ((with_reducible refine gate_callee (f := 9) rfl ?_); refine goesL_ (some 108) rfl rfl Try.func9 (by kernel_rfl) rfl #[.slice Ao68 y435.length co68] rfl (by (try simp only [List.map_toArray, List.map_cons, List.map_nil]); first | done | rfl | (simp only [List.length_drop, List.length_take]; rfl)) ?_; (with_reducible refine (late_Mark.calls kj28 _ _ y435 t438 t439 _ ?side1 ?side2 A48.out).mono ?_); (case side1 => repeat (first | exact (Kd.R_reads' HO437.out).2.2 | (with_reducible refine Kd.C_alloc ?_ _) | (with_reducible refine Kd.C_drewN ?_ _) | (with_reducible refine Kd.C_drew ?_))); (case side2 => exact (Kd.R_reads' HO437.out).2.1); rintro e w69 ⟨rfl, hb⟩; refine ⟨_, rfl, ?_⟩; have n0_ := Aside0.mk (Kd.R_below (by (with_reducible repeat (first | apply Kd.R_alloc | apply Kd.R_drewN | apply Kd.R_drew)); exact HO437.out) hb); have n1_ := Aside0.mk (below_step (by repeat (first | (with_reducible first | exact HB.out | apply below_alloc | apply pw_below_drewN | apply below_drew1) | exact HB.out)) hb); clear HO437; clear HB; have HO437 := n0_; have HB := n1_; clear n0_ n1_; (try clear hb); (try clear hb2); (try clear hk); (try clear hi)) | ((with_reducible refine gate_callee (f := 11) rfl ?_); refine goesL_ (some 113) rfl rfl Try.func11 (by kernel_rfl) rfl #[.slice A0 l0.length c0] rfl (by (try simp only [List.map_toArray, List.map_cons, List.map_nil]); first | done | rfl | (simp only [List.length_drop, List.length_take]; rfl)) ?_; (with_reducible refine (late_Split.calls kj28 _ _ l0 t440 t441 t442 _ ?side1 ?side2 A49.out).mono ?_); (case side1 => repeat (first | exact (Kd.C_below HR0.out HB.out) | (with_reducible refine Kd.C_alloc ?_ _) | (with_reducible refine Kd.C_drewN ?_ _) | (with_reducible refine Kd.C_drew ?_))); (case side2 => exact HC0.out); rintro e w70 ⟨v443, v445, rfl, ho0, ho1, hb⟩; refine ⟨_, rfl, ?_⟩; have n0_ := Aside0.mk (Kd.R_below (by (with_reducible repeat (first | apply Kd.R_alloc | apply Kd.R_drewN | apply Kd.R_drew)); exact HO437.out) hb); have n1_ := Aside0.mk (Kd.R_lower ho0 (below_size (by repeat (first | (with_reducible first | exact HB.out | apply below_alloc | apply pw_below_drewN | apply below_drew1) | exact HB.out)))); have n2_ := Aside0.mk (Kd.R_lower ho1 (below_size (by repeat (first | (with_reducible first | exact HB.out | apply below_alloc | apply pw_below_drewN | apply below_drew1) | exact HB.out)))); have n3_ := Aside0.mk (below_step (by repeat (first | (with_reducible first | exact HB.out | apply below_alloc | apply pw_below_drewN | apply below_drew1) | exact HB.out)) hb); clear HO437; clear HB; have HO437 := n0_; have HO444 := n1_; have HO446 := n2_; have HB := n3_; clear n0_ n1_ n2_ n3_; (try clear hb); (try clear hb2); (try clear hk); (try clear hi); (try clear ho0); (try clear ho1)) | ((with_reducible refine gate_callee (f := 11) rfl ?_); refine goesL_ (some 119) rfl rfl Try.func11 (by kernel_rfl) rfl #[.slice Ao68 y435.length co68] rfl (by (try simp only [List.map_toArray, List.map_cons, List.map_nil]); first | done | rfl | (simp only [List.length_drop, List.length_take]; rfl)) ?_; (with_reducible refine (late_Split.calls kj28 _ _ y435 t447 t448 t449 _ ?side1 ?side2 A50.out).mono ?_); (case side1 => repeat (first | exact (Kd.R_reads' HO437.out).2.2 | (with_reducible refine Kd.C_alloc ?_ _) | (with_reducible refine Kd.C_drewN ?_ _) | (with_reducible refine Kd.C_drew ?_))); (case side2 => exact (Kd.R_reads' HO437.out).2.1); rintro e w71 ⟨v450, v452, rfl, ho0, ho1, hb⟩; refine ⟨_, rfl, ?_⟩; have n0_ := Aside0.mk (Kd.R_below (by (with_reducible repeat (first | apply Kd.R_alloc | apply Kd.R_drewN | apply Kd.R_drew)); exact HO437.out) hb); have n1_ := Aside0.mk (Kd.R_mono (Kd.R_told (Kd.R_told (Kd.R_old (by (with_reducible repeat (first | apply Kd.R_alloc | apply Kd.R_drewN | apply Kd.R_drew)); exact HO444.out) hb) (Kd.R_base ho0)) (Kd.R_base ho1)) (fun _ h_ => h_.1)); have n2_ := Aside0.mk (Kd.R_mono (Kd.R_told (Kd.R_told (Kd.R_old (by (with_reducible repeat (first | apply Kd.R_alloc | apply Kd.R_drewN | apply Kd.R_drew)); exact HO446.out) hb) (Kd.R_base ho0)) (Kd.R_base ho1)) (fun _ h_ => h_.1)); have n3_ := Aside0.mk (Kd.R_lower (Kd.R_new' (Kd.R_new' ho0 (Kd.R_lt (by (with_reducible repeat (first | apply Kd.R_alloc | apply Kd.R_drewN | apply Kd.R_drew)); exact HO444.out))) (Kd.R_lt (by (with_reducible repeat (first | apply Kd.R_alloc | apply Kd.R_drewN | apply Kd.R_drew)); exact HO446.out))) (below_size (by repeat (first | (with_reducible first | exact HB.out | apply below_alloc | apply pw_below_drewN | apply below_drew1) | exact HB.out)))); have n4_ := Aside0.mk (Kd.R_lower (Kd.R_new' (Kd.R_new' ho1 (Kd.R_lt (by (with_reducible repeat (first | apply Kd.R_alloc | apply Kd.R_drewN | apply Kd.R_drew)); exact HO444.out))) (Kd.R_lt (by (with_reducible repeat (first | apply Kd.R_alloc | apply Kd.R_drewN | apply Kd.R_drew)); exact HO446.out))) (below_size (by repeat (first | (with_reducible first | exact HB.out | apply below_alloc | apply pw_below_drewN | apply below_drew1) | exact HB.out)))); have n5_ := Aside0.mk (below_step (by repeat (first | (with_reducible first | exact HB.out | apply below_alloc | apply pw_below_drewN | apply below_drew1) | exact HB.out)) hb); clear HO437; clear HO444; clear HO446; clear HB; have HO437 := n0_; have HO444 := n1_; have HO446 := n2_; have HO451 := n3_; have HO453 := n4_; have HB := n5_; clear n0_ n1_ n2_ n3_ n4_ n5_; (try clear hb); (try clear hb2); (try clear hk); (try clear hi); (try clear ho0); (try clear ho1); obtain ⟨Ao72, co72, eo72⟩ := Kd.R_slice HO444.out; subst eo72; obtain ⟨Ao73, co73, eo73⟩ := Kd.R_slice HO451.out; subst eo73) | (go_at_call 13; (with_reducible refine (tailwaterref20_Same.calls kj28 _ _ t440 _ _ t447 true _ ?side1 ?side2 ?side3 ?side4 A56.out).mono ?_); (case side1 => repeat (first | exact (Kd.R_reads' HO444.out).2.2 | (with_reducible refine Kd.C_alloc ?_ _) | (with_reducible refine Kd.C_drewN ?_ _) | (with_reducible refine Kd.C_drew ?_))); (case side2 => exact (Kd.R_reads' HO444.out).2.1); (case side3 => repeat (first | exact (Kd.R_reads' HO451.out).2.2 | (with_reducible refine Kd.C_alloc ?_ _) | (with_reducible refine Kd.C_drewN ?_ _) | (with_reducible refine Kd.C_drew ?_))); (case side4 => exact (Kd.R_reads' HO451.out).2.1); rintro e w' ⟨rfl, ⟨nd, rfl⟩⟩; obtain ⟨Ao74, co74, eo74⟩ := Kd.R_slice HO446.out; subst eo74; obtain ⟨Ao75, co75, eo75⟩ := Kd.R_slice HO453.out; subst eo75) | (go_at_call 13; (with_reducible refine (tailwaterref20_Same.calls kj28 _ _ t441 _ _ t448 t455 _ ?side1 ?side2 ?side3 ?side4 A58.out).mono ?_); (case side1 => repeat (first | exact (Kd.R_reads' HO446.out).2.2 | (with_reducible refine Kd.C_alloc ?_ _) | (with_reducible refine Kd.C_drewN ?_ _) | (with_reducible refine Kd.C_drew ?_))); (case side2 => exact (Kd.R_reads' HO446.out).2.1); (case side3 => repeat (first | exact (Kd.R_reads' HO453.out).2.2 | (with_reducible refine Kd.C_alloc ?_ _) | (with_reducible refine Kd.C_drewN ?_ _) | (with_reducible refine Kd.C_drew ?_))); (case side4 => exact (Kd.R_reads' HO453.out).2.1); rintro e w' ⟨rfl, ⟨nd, rfl⟩⟩))
                                              go_ret
                                              exact ⟨by first | rfl | (simp [errW_none, errW_some] <;> rfl) | (simp [*, errW_none, errW_some] <;> rfl), by repeat (first | (with_reducible first | exact HB.out | apply below_alloc | apply pw_below_drewN | apply below_drew1) | exact HB.out)⟩
                                            · replace c57 := Bool.eq_false_iff.mpr c57
                                              subst c57
                                              have H1 := H
                                              rw [if_neg (show ¬ (false = true) by decide)] at H1
                                              clear H
                                              have H := H1
                                              clear H1
                                              exact absurd H (by decide)
                                          · rw [if_neg c55] at H
                                            have c55b0 : (t449 == 0) = false := beq_eq_false_iff_ne.mpr c55
                                            have c55b1 : (t449 != 0) = true := bne_iff_ne.mpr c55
                                            exact absurd H (by decide)
                                        · rw [if_neg c54] at H
                                          have c54b0 : (t442 == 0) = false := beq_eq_false_iff_ne.mpr c54
                                          have c54b1 : (t442 != 0) = true := bne_iff_ne.mpr c54
                                          exact absurd H (by decide)
                                      · rw [if_neg c53] at H
                                        have c53b0 : (t438 == x8_2) = false := beq_eq_false_iff_ne.mpr c53
                                        have c53b1 : (t438 != x8_2) = true := bne_iff_ne.mpr c53
                                        exact absurd H (by decide)
                                    · rw [if_neg c52] at H
                                      have c52b0 : (t439 == 0) = false := beq_eq_false_iff_ne.mpr c52
                                      have c52b1 : (t439 != 0) = true := bne_iff_ne.mpr c52
                                      exact absurd H (by decide)
                                  · replace c51 := Bool.eq_false_iff.mpr c51
                                    subst c51
                                    have H1 := H
                                    rw [if_neg (show ¬ (false = true) by decide)] at H1
                                    clear H
                                    have H := H1
                                    clear H1
                                    exact absurd H (by decide)
                                · rw [if_neg c47] at H
                                  exact absurd H (by simp)
                              · rw [if_neg c44] at H
                                exact absurd H (by simp)
                            · rw [if_neg c42] at H
                              exact absurd H (by simp)
                          · rw [if_neg c41] at H
                            exact absurd H (by simp)
                        · rw [if_neg c40] at H
                          exact absurd H (by simp)
                · rw [if_neg c27] at H
                  exact absurd H (by simp)
              · rw [if_neg c26] at H
                exact absurd H (by simp)

end Go.Proofs.Ytdmaedaobjcocaa.Q
