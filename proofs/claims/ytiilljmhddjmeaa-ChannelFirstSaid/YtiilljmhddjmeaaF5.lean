/- Functions of the program as plain Lean functions, each with a proof that the Go code computes just that; written by a turned copy of the kit's printer, not by hand. No condition but what each theorem names. -/
import Derived.Test.YtiilljmhddjmeaaQ0
import Derived.Test.YtiilljmhddjmeaaQ1
import Derived.Test.YtiilljmhddjmeaaF11
import Derived.Test.YtiilljmhddjmeaaF16
import Derived.Test.YtiilljmhddjmeaaF20
import Derived.Test.YtiilljmhddjmeaaF21
import Derived.Test.YtiilljmhddjmeaaF22
import Derived.Test.YtiilljmhddjmeaaF24
import Derived.Test.YtiilljmhddjmeaaF23
import Derived.Test.YtiilljmhddjmeaaHAlive
import Derived.Test.YtiilljmhddjmeaaHPut
import Derived.Test.YtiilljmhddjmeaaHTake
import Derived.Test.YtiilljmhddjmeaaWMore
import Derived.Test.YtiilljmhddjmeaaFill
import Derived.Test.YtiilljmhddjmeaaWRepsOne
namespace Go.Proofs.Ytiilljmhddjmeaa.Q
open Go.RowKit Go.Proofs.YtiilljmhddjmeaaW.PrintWords Go.Proofs.YtiilljmhddjmeaaW.PrintLast
set_option linter.unusedVariables false
set_option linter.unusedSimpArgs false

attribute [local go_sem high] eqA35
/-! ### tailwaterlaw26_ChannelFirst: function 5 -/
mutual
def tailwaterlaw26_ChannelFirst.j0 : Nat → List (S35) → List Bool → Bool → Bool → Int → List (S35) → Option (Bool)
  | 0, _, _, _, _, _, _ => none
  | k + 1, x1, x2, x7, x35, x250000, x250001 => if x35 = true then (some x7) else ((some (([] : List (S35)) : List (S35))).bind fun y252 => (if y252.length + x250001.length < 1759218604441 then (tailwaterlaw26_ChannelFirst.l0 k x1 x2 x7 (y252 ++ x250001) 0 0 0 x250000 x250001) else (none)))
def tailwaterlaw26_ChannelFirst.l0 : Nat → List (S35) → List Bool → Bool → List (S35) → Int → Int → Int → Int → List (S35) → Option (Bool)
  | 0, _, _, _, _, _, _, _, _, _ => none
  | k + 1, x1, x2, x7, x8, x9, x10, x11, x250000, x250001 => if x11 < (x2.length : Int) then (if 0 ≤ x11 then (if rdOf false x2 x11 = true then ((channel_Take.f k x250000 x250001).bind fun bt265 => (if bt265.2.2.2.2.2.2.2.2.2.2.2.2 = 6 then (if x10 = (x8.length : Int) then (tailwaterlaw26_ChannelFirst.j2 k x1 x2 x7 x8 x9 x10 x11 ((x250001.length : Int) != 0) x250000 x250001) else (tailwaterlaw26_ChannelFirst.j2 k x1 x2 x7 x8 x9 x10 x11 true x250000 x250001)) else (if bt265.2.2.2.2.2.2.2.2.2.2.2.2 = 0 then (if x10 ≥ (x8.length : Int) then (some false) else (if 0 ≤ x10 then (if x10 < (x8.length : Int) then (if (!(bt265.1 == ((rd_T35 x8 x10).f0)) || ((!(bt265.2.1 == ((rd_T35 x8 x10).f1.f0)) || (!(bt265.2.2.1 == ((rd_T35 x8 x10).f1.f1)) || (!(bt265.2.2.2.1 == ((rd_T35 x8 x10).f1.f2))))) || (!(bt265.2.2.2.2.1 == ((rd_T35 x8 x10).f2)) || ((!(bt265.2.2.2.2.2.1 == ((rd_T35 x8 x10).f3.f0)) || ((!(bt265.2.2.2.2.2.2.1 == ((rd_T35 x8 x10).f3.f1.f0)) || (!(bt265.2.2.2.2.2.2.2.1 == ((rd_T35 x8 x10).f3.f1.f1)))) || ((!(bt265.2.2.2.2.2.2.2.2.1 == ((rd_T35 x8 x10).f3.f2.f0)) || (!(bt265.2.2.2.2.2.2.2.2.2.1 == ((rd_T35 x8 x10).f3.f2.f1))))))))))) = true then (some false) else (tailwaterlaw26_ChannelFirst.l0 k x1 x2 x7 x8 x9 (wrap64 (x10 + 1)) (wrap64 (x11 + 1)) bt265.2.2.2.2.2.2.2.2.2.2.1 bt265.2.2.2.2.2.2.2.2.2.2.2.1)) else (none)) else (none))) else (some false)))) else (if x9 = (x1.length : Int) then (tailwaterlaw26_ChannelFirst.l0 k x1 x2 x7 x8 x9 x10 (wrap64 (x11 + 1)) x250000 x250001) else (if 0 ≤ x9 then (if x9 < (x1.length : Int) then ((channel_Put.f k x250000 x250001 ((rd_T35 x1 x9).f0) ((rd_T35 x1 x9).f1.f0) ((rd_T35 x1 x9).f1.f1) ((rd_T35 x1 x9).f1.f2) ((rd_T35 x1 x9).f2) ((rd_T35 x1 x9).f3.f0) ((rd_T35 x1 x9).f3.f1.f0) ((rd_T35 x1 x9).f3.f1.f1) ((rd_T35 x1 x9).f3.f2.f0) ((rd_T35 x1 x9).f3.f2.f1)).bind fun bt285 => (if bt285.2.2 = 0 then (if x8.length < 1759218604441 then (tailwaterlaw26_ChannelFirst.l0 k x1 x2 x7 (x8 ++ [(⟨(rd_T35 x1 x9).f0, (⟨(rd_T35 x1 x9).f1.f0, (rd_T35 x1 x9).f1.f1, (rd_T35 x1 x9).f1.f2⟩ : S28), (rd_T35 x1 x9).f2, (⟨(rd_T35 x1 x9).f3.f0, (⟨(rd_T35 x1 x9).f3.f1.f0, (rd_T35 x1 x9).f3.f1.f1⟩ : S30), (⟨(rd_T35 x1 x9).f3.f2.f0, (rd_T35 x1 x9).f3.f2.f1⟩ : S31)⟩ : S33)⟩ : S35)]) (wrap64 (x9 + 1)) x10 (wrap64 (x11 + 1)) bt285.1 bt285.2.1) else (none)) else (if bt285.2.2 = 18 then (if (wrap64 ((x8.length : Int) - x10)) = x250000 then (tailwaterlaw26_ChannelFirst.l0 k x1 x2 x7 x8 (wrap64 (x9 + 1)) x10 (wrap64 (x11 + 1)) x250000 x250001) else (some false)) else (if bt285.2.2 = 8 then ((tailwaterref25_Valid.f k ((rd_T35 x1 x9).f0) ((rd_T35 x1 x9).f1.f0) ((rd_T35 x1 x9).f1.f1) ((rd_T35 x1 x9).f1.f2) ((rd_T35 x1 x9).f2) ((rd_T35 x1 x9).f3.f0) ((rd_T35 x1 x9).f3.f1.f0) ((rd_T35 x1 x9).f3.f1.f1) ((rd_T35 x1 x9).f3.f2.f0) ((rd_T35 x1 x9).f3.f2.f1)).bind fun t294 => (if t294 = true then (some false) else (tailwaterlaw26_ChannelFirst.l0 k x1 x2 x7 x8 (wrap64 (x9 + 1)) x10 (wrap64 (x11 + 1)) x250000 x250001))) else (some false))))) else (none)) else (none)))) else (none)) else (if x7 = true then ((channel_Check.f k x250000 x250001).bind fun t258 => (if t258 = 0 then (if x10 ≤ (x8.length : Int) then (if 0 ≤ x10 then ((tailwaterref26_SameList.f k x250001 (x8.drop (x10 : Int).toNat)).bind fun t263 => (some t263)) else (none)) else (some false)) else (some false))) else (some false))
def tailwaterlaw26_ChannelFirst.j2 : Nat → List (S35) → List Bool → Bool → List (S35) → Int → Int → Int → Bool → Int → List (S35) → Option (Bool)
  | 0, _, _, _, _, _, _, _, _, _, _ => none
  | k + 1, x1, x2, x7, x8, x9, x10, x11, x68, x250000, x250001 => if x68 = true then (some false) else (tailwaterlaw26_ChannelFirst.l0 k x1 x2 x7 x8 x9 x10 (wrap64 (x11 + 1)) x250000 x250001)
end
def tailwaterlaw26_ChannelFirst.f (k : Nat) (a0_0 : Int) (l0_1 : List (S35)) (l1 : List (S35)) (l2 : List Bool) : Option (Bool) := (tailwaterlaw26_alive.f k).bind fun t250 => ((tailwaterref26_Check.f k a0_0 l0_1).bind fun t251 => (if t251 = 0 then (if (l1.length : Int) > 30 then (tailwaterlaw26_ChannelFirst.j0 k l1 l2 t250 true a0_0 l0_1) else (if (l2.length : Int) > 60 then (tailwaterlaw26_ChannelFirst.j0 k l1 l2 t250 true a0_0 l0_1) else (tailwaterlaw26_ChannelFirst.j0 k l1 l2 t250 (!t250) a0_0 l0_1))) else (tailwaterlaw26_ChannelFirst.j0 k l1 l2 t250 true a0_0 l0_1)))
theorem tailwaterlaw26_ChannelFirst.mono_l : ∀ k, (∀ y0 y1 y2 y3 y4 y5, LeO (tailwaterlaw26_ChannelFirst.j0 k y0 y1 y2 y3 y4 y5) (tailwaterlaw26_ChannelFirst.j0 (k + 1) y0 y1 y2 y3 y4 y5)) ∧ (∀ y0 y1 y2 y3 y4 y5 y6 y7 y8, LeO (tailwaterlaw26_ChannelFirst.l0 k y0 y1 y2 y3 y4 y5 y6 y7 y8) (tailwaterlaw26_ChannelFirst.l0 (k + 1) y0 y1 y2 y3 y4 y5 y6 y7 y8)) ∧ (∀ y0 y1 y2 y3 y4 y5 y6 y7 y8 y9, LeO (tailwaterlaw26_ChannelFirst.j2 k y0 y1 y2 y3 y4 y5 y6 y7 y8 y9) (tailwaterlaw26_ChannelFirst.j2 (k + 1) y0 y1 y2 y3 y4 y5 y6 y7 y8 y9))
  | 0 => ⟨fun _ _ _ _ _ _ r h => by simp [tailwaterlaw26_ChannelFirst.j0] at h, fun _ _ _ _ _ _ _ _ _ r h => by simp [tailwaterlaw26_ChannelFirst.l0] at h, fun _ _ _ _ _ _ _ _ _ _ r h => by simp [tailwaterlaw26_ChannelFirst.j2] at h⟩
  | k + 1 => by
    obtain ⟨ih0, ih1, ih2⟩ := tailwaterlaw26_ChannelFirst.mono_l k
    refine ⟨?_, ?_, ?_⟩
    · intro y0 y1 y2 y3 y4 y5
      unfold tailwaterlaw26_ChannelFirst.j0
      repeat' first
      | (with_reducible exact ih0 _ _ _ _ _ _)
      | (with_reducible exact ih1 _ _ _ _ _ _ _ _ _)
      | (with_reducible exact ih2 _ _ _ _ _ _ _ _ _ _)
      | (with_reducible exact channel_Check.mono _ _ _)
      | (with_reducible exact channel_Put.mono _ _ _ _ _ _ _ _ _ _ _ _ _)
      | (with_reducible exact channel_Take.mono _ _ _)
      | (with_reducible exact tailwaterlaw26_alive.mono _)
      | (with_reducible exact tailwaterref25_Valid.mono _ _ _ _ _ _ _ _ _ _ _)
      | (with_reducible exact tailwaterref26_Check.mono _ _ _)
      | (with_reducible exact tailwaterref26_SameList.mono _ _ _)
      | (with_reducible exact LeO.refl _)
      | (with_reducible exact LeO.none _)
      | (with_reducible refine LeO.ite ?_ ?_)
      | (with_reducible refine LeO.bind ?_ (fun _ => ?_))
      | exact ih0 _ _ _ _ _ _
      | exact ih1 _ _ _ _ _ _ _ _ _
      | exact ih2 _ _ _ _ _ _ _ _ _ _
      | exact channel_Check.mono _ _ _
      | exact channel_Put.mono _ _ _ _ _ _ _ _ _ _ _ _ _
      | exact channel_Take.mono _ _ _
      | exact tailwaterlaw26_alive.mono _
      | exact tailwaterref25_Valid.mono _ _ _ _ _ _ _ _ _ _ _
      | exact tailwaterref26_Check.mono _ _ _
      | exact tailwaterref26_SameList.mono _ _ _
      | exact LeO.none _
      | refine LeO.ite ?_ ?_
      | refine LeO.bind ?_ (fun _ => ?_)
    · intro y0 y1 y2 y3 y4 y5 y6 y7 y8
      unfold tailwaterlaw26_ChannelFirst.l0
      repeat' first
      | (with_reducible exact ih0 _ _ _ _ _ _)
      | (with_reducible exact ih1 _ _ _ _ _ _ _ _ _)
      | (with_reducible exact ih2 _ _ _ _ _ _ _ _ _ _)
      | (with_reducible exact channel_Check.mono _ _ _)
      | (with_reducible exact channel_Put.mono _ _ _ _ _ _ _ _ _ _ _ _ _)
      | (with_reducible exact channel_Take.mono _ _ _)
      | (with_reducible exact tailwaterlaw26_alive.mono _)
      | (with_reducible exact tailwaterref25_Valid.mono _ _ _ _ _ _ _ _ _ _ _)
      | (with_reducible exact tailwaterref26_Check.mono _ _ _)
      | (with_reducible exact tailwaterref26_SameList.mono _ _ _)
      | (with_reducible exact LeO.refl _)
      | (with_reducible exact LeO.none _)
      | (with_reducible refine LeO.ite ?_ ?_)
      | (with_reducible refine LeO.bind ?_ (fun _ => ?_))
      | exact ih0 _ _ _ _ _ _
      | exact ih1 _ _ _ _ _ _ _ _ _
      | exact ih2 _ _ _ _ _ _ _ _ _ _
      | exact channel_Check.mono _ _ _
      | exact channel_Put.mono _ _ _ _ _ _ _ _ _ _ _ _ _
      | exact channel_Take.mono _ _ _
      | exact tailwaterlaw26_alive.mono _
      | exact tailwaterref25_Valid.mono _ _ _ _ _ _ _ _ _ _ _
      | exact tailwaterref26_Check.mono _ _ _
      | exact tailwaterref26_SameList.mono _ _ _
      | exact LeO.none _
      | refine LeO.ite ?_ ?_
      | refine LeO.bind ?_ (fun _ => ?_)
    · intro y0 y1 y2 y3 y4 y5 y6 y7 y8 y9
      unfold tailwaterlaw26_ChannelFirst.j2
      repeat' first
      | (with_reducible exact ih0 _ _ _ _ _ _)
      | (with_reducible exact ih1 _ _ _ _ _ _ _ _ _)
      | (with_reducible exact ih2 _ _ _ _ _ _ _ _ _ _)
      | (with_reducible exact channel_Check.mono _ _ _)
      | (with_reducible exact channel_Put.mono _ _ _ _ _ _ _ _ _ _ _ _ _)
      | (with_reducible exact channel_Take.mono _ _ _)
      | (with_reducible exact tailwaterlaw26_alive.mono _)
      | (with_reducible exact tailwaterref25_Valid.mono _ _ _ _ _ _ _ _ _ _ _)
      | (with_reducible exact tailwaterref26_Check.mono _ _ _)
      | (with_reducible exact tailwaterref26_SameList.mono _ _ _)
      | (with_reducible exact LeO.refl _)
      | (with_reducible exact LeO.none _)
      | (with_reducible refine LeO.ite ?_ ?_)
      | (with_reducible refine LeO.bind ?_ (fun _ => ?_))
      | exact ih0 _ _ _ _ _ _
      | exact ih1 _ _ _ _ _ _ _ _ _
      | exact ih2 _ _ _ _ _ _ _ _ _ _
      | exact channel_Check.mono _ _ _
      | exact channel_Put.mono _ _ _ _ _ _ _ _ _ _ _ _ _
      | exact channel_Take.mono _ _ _
      | exact tailwaterlaw26_alive.mono _
      | exact tailwaterref25_Valid.mono _ _ _ _ _ _ _ _ _ _ _
      | exact tailwaterref26_Check.mono _ _ _
      | exact tailwaterref26_SameList.mono _ _ _
      | exact LeO.none _
      | refine LeO.ite ?_ ?_
      | refine LeO.bind ?_ (fun _ => ?_)
theorem tailwaterlaw26_ChannelFirst.mono : ∀ a0 a1 a2 a3 k, LeO (tailwaterlaw26_ChannelFirst.f k a0 a1 a2 a3) (tailwaterlaw26_ChannelFirst.f (k + 1) a0 a1 a2 a3) := by
  intro a0 a1 a2 a3 k
  obtain ⟨ih0, ih1, ih2⟩ := tailwaterlaw26_ChannelFirst.mono_l k
  unfold tailwaterlaw26_ChannelFirst.f
  repeat' first
      | (with_reducible exact ih0 _ _ _ _ _ _)
      | (with_reducible exact ih1 _ _ _ _ _ _ _ _ _)
      | (with_reducible exact ih2 _ _ _ _ _ _ _ _ _ _)
      | (with_reducible exact channel_Check.mono _ _ _)
      | (with_reducible exact channel_Put.mono _ _ _ _ _ _ _ _ _ _ _ _ _)
      | (with_reducible exact channel_Take.mono _ _ _)
      | (with_reducible exact tailwaterlaw26_alive.mono _)
      | (with_reducible exact tailwaterref25_Valid.mono _ _ _ _ _ _ _ _ _ _ _)
      | (with_reducible exact tailwaterref26_Check.mono _ _ _)
      | (with_reducible exact tailwaterref26_SameList.mono _ _ _)
      | (with_reducible exact LeO.refl _)
      | (with_reducible exact LeO.none _)
      | (with_reducible refine LeO.ite ?_ ?_)
      | (with_reducible refine LeO.bind ?_ (fun _ => ?_))
      | exact ih0 _ _ _ _ _ _
      | exact ih1 _ _ _ _ _ _ _ _ _
      | exact ih2 _ _ _ _ _ _ _ _ _ _
      | exact channel_Check.mono _ _ _
      | exact channel_Put.mono _ _ _ _ _ _ _ _ _ _ _ _ _
      | exact channel_Take.mono _ _ _
      | exact tailwaterlaw26_alive.mono _
      | exact tailwaterref25_Valid.mono _ _ _ _ _ _ _ _ _ _ _
      | exact tailwaterref26_Check.mono _ _ _
      | exact tailwaterref26_SameList.mono _ _ _
      | exact LeO.none _
      | refine LeO.ite ?_ ?_
      | refine LeO.bind ?_ (fun _ => ?_)
def tailwaterlaw26_ChannelFirst.T14 : Bool × List (List Nat × List Nat) := (true, [([], []), ([0], [0]), ([1], [1]), ([2], [2]), ([2], [2]), ([4, 2], [2, 4]), ([3, 5, 2], [2, 3, 5]), ([2, 6], [2, 6]), ([7, 2], [7]), ([8], [8]), ([8], [8]), ([8], [8]), ([10, 11, 8], [8, 10, 11]), ([12, 8], [8, 12]), ([9, 13, 8], [8, 9, 13]), ([8, 14], [8, 14])])
def tailwaterlaw26_ChannelFirst.B14 : List Nat := [0, 1, 3, 7, 7, 23, 63, 127, 255, 511, 511, 511, 3583, 7679, 16383, 32767]
theorem tailwaterlaw26_ChannelFirst.tab14 : rtab .any (opsOf Try.f5 14) = tailwaterlaw26_ChannelFirst.T14 := by kernel_rfl
theorem tailwaterlaw26_ChannelFirst.bits14 : waitsOk tailwaterlaw26_ChannelFirst.T14.2 tailwaterlaw26_ChannelFirst.B14 = true := by kernel_rfl
def tailwaterlaw26_ChannelFirst.T27 : Bool × List (List Nat × List Nat) := (true, [([], []), ([0], [0]), ([1], [1]), ([2, 1, 1], [1, 2]), ([3, 1], [1, 3]), ([1, 4], [1, 4]), ([5, 3], [5]), ([6], [6]), ([6], [6]), ([8, 6], [6, 8]), ([7, 9, 6], [6, 7, 9]), ([6, 10], [6, 10]), ([11, 6], [11]), ([12], [12]), ([13, 12], [12, 13]), ([12], [12]), ([12], [12]), ([15, 16, 12], [12, 15, 16]), ([14, 17, 12, 12], [12, 14, 17]), ([12, 18], [12, 18]), ([19, 18, 0, 1, 2, 3, 4, 5, 6, 7, 8, 9, 10, 11, 12, 13, 14, 15, 16, 17, 18, 19], [19])])
def tailwaterlaw26_ChannelFirst.B27 : List Nat := [0, 1, 3, 7, 15, 31, 63, 127, 127, 383, 1023, 2047, 4095, 8191, 16383, 8191, 8191, 106495, 262143, 524287, 1048575]
theorem tailwaterlaw26_ChannelFirst.tab27 : rtab .any (opsOf Try.f5 27) = tailwaterlaw26_ChannelFirst.T27 := by kernel_rfl
theorem tailwaterlaw26_ChannelFirst.bits27 : waitsOk tailwaterlaw26_ChannelFirst.T27.2 tailwaterlaw26_ChannelFirst.B27 = true := by kernel_rfl
set_option maxHeartbeats 8000000 in
set_option maxRecDepth 100000 in
theorem tailwaterlaw26_ChannelFirst.calls (k : Nat) (a0_0 : Int) (P0_1_ : Nat → Prop) (A0_1 : Option Addr) (c0_1 : Nat) (l0_1 : List (S35)) (A1 : Option Addr) (c1 : Nat) (l1 : List (S35)) (A2 : Option Addr) (c2 : Nat) (l2 : List Bool) (w : World) (hs0_1 : Kd.V k35 35 w w.heap.size (fun k_ => P0_1_ k_) (.slice A0_1 l0_1.length c0_1) l0_1) (hr1 : Kd.C k35 w A1 l1.length l1) (hc1 : l1.length ≤ c1) (hr2 : Kd.C Kd.bool w A2 l2.length l2) (hc2 : l2.length ≤ c2) (h : tailwaterlaw26_ChannelFirst.f k a0_0 l0_1 l1 l2 = some true) :
    Calls Try.prog 5 #[.agg #[.int .i64 a0_0, .slice A0_1 l0_1.length c0_1], .slice A1 l1.length c1, .slice A2 l2.length c2] w fun e w' => e = .returned (.bool true) ∧ Below w.heap.size w w' := by
 have hu24 := Try.underlying24
 have hu35 := Try.underlying35
 have HO0_1 := Aside0.mk (show Kd.V k35 35 w w.heap.size (fun k_ => (P0_1_ k_ ∨ w.heap.size ≤ k_)) (.slice A0_1 l0_1.length c0_1) l0_1 from Kd.V_mono hs0_1 (fun k_ hk => .inl hk))
 have HR1 := Aside0.mk hr1
 have HC1 := Aside0.mk hc1
 clear hr1 hc1
 have HR2 := Aside0.mk hr2
 have HC2 := Aside0.mk hc2
 clear hr2 hc2
 have HB := Aside0.mk (Below.refl w.heap.size w)
 have H : ((tailwaterlaw26_alive.f k).bind fun t250 => ((tailwaterref26_Check.f k a0_0 l0_1).bind fun t251 => (if t251 = 0 then (if (l1.length : Int) > 30 then (tailwaterlaw26_ChannelFirst.j0 k l1 l2 t250 true a0_0 l0_1) else (if (l2.length : Int) > 60 then (tailwaterlaw26_ChannelFirst.j0 k l1 l2 t250 true a0_0 l0_1) else (tailwaterlaw26_ChannelFirst.j0 k l1 l2 t250 (!t250) a0_0 l0_1))) else (tailwaterlaw26_ChannelFirst.j0 k l1 l2 t250 true a0_0 l0_1)))) = some true := h
 clear h
 replace H := Option.bind_eq_some_iff.mp H
 obtain ⟨t250, A40, H⟩ := H
 try dsimp only at H
 have A4 := Aside0.mk A40
 clear A40
 have HC5 := Aside0.mk H
 clear H
 go_enter Try.func5, Try.ntmps5
 go_upto_region 2 with (first | ((with_reducible refine gate_dst (N := 3) rfl ?_); (try (refine gate_guard (by rfl) ?_; dsimp only)); refine box_event ?hg (N := 3) ?hd (cs := #[.int .i64 a0_0, .slice A0_1 l0_1.length c0_1]) (t := 24) ?hr ?_; (case hd => rfl); (case hg => rfl); (case hr => first | (go_simp; done) | (go_simp; rfl)); intro gb249 hg w6 hbox hb; have n0_ := Aside0.mk (Kd.V_below (Kd.V_elderB (by (with_reducible repeat (first | apply Kd.V_alloc | apply Kd.V_drewN | apply Kd.V_drew)); exact HO0_1.out) gb249 (Nat.le_of_eq hg.symm)) hb); have n1_ := Aside0.mk (below_step (by repeat (first | (with_reducible first | exact HB.out | apply below_alloc | apply pw_below_drewN | apply below_drew1) | exact HB.out)) hb); have n2_ := Aside0.mk (hbox); have n3_ := Aside0.mk ((by rw [hg]; exact (below_size (by repeat (first | (with_reducible first | exact HB.out | apply below_alloc | apply pw_below_drewN | apply below_drew1) | exact HB.out))) : w.heap.size ≤ gb249)); have n4_ := Aside0.mk ((by rw [hg]; exact (below_size (by repeat (first | (with_reducible first | exact HB.out | apply below_alloc | apply pw_below_drewN | apply below_drew1) | exact HB.out))) : w.heap.size ≤ gb249)); clear HO0_1; clear HB; have HO0_1 := n0_; have HB := n1_; have BK249 := n2_; have GW249 := n3_; have GE249 := n4_; clear n0_ n1_ n2_ n3_ n4_; clear hb hbox hg) | ((with_reducible refine gate_callee (f := 22) rfl ?_); refine goesL_ (some 18) rfl rfl Try.func22 (by kernel_rfl) rfl #[] rfl (by (try simp only [List.map_toArray, List.map_cons, List.map_nil]); first | done | rfl | (simp only [List.length_drop, List.length_take]; rfl)) ?_; (with_reducible refine (tailwaterlaw26_alive.calls k  t250 _ A4.out).mono ?_); rintro e w7 ⟨rfl, hb⟩; refine ⟨_, rfl, ?_⟩; have n0_ := Aside0.mk (Kd.V_below (by (with_reducible repeat (first | apply Kd.V_alloc | apply Kd.V_drewN | apply Kd.V_drew)); exact HO0_1.out) hb); have n1_ := Aside0.mk (blk_below (g := gb249) (o := .cells #[.int .i64 a0_0, .slice A0_1 l0_1.length c0_1] 24 (0, 0)) BK249.out hb); have n2_ := Aside0.mk (below_step (by repeat (first | (with_reducible first | exact HB.out | apply below_alloc | apply pw_below_drewN | apply below_drew1 | refine below_set ?_ GE249.out) | exact HB.out)) hb); clear HO0_1; clear BK249; clear HB; have HO0_1 := n0_; have BK249 := n1_; have HB := n2_; clear n0_ n1_ n2_; (try clear hb); (try clear hb2); (try clear hk); (try clear hi)))
 (try simp only [Act.put, List.setIfInBounds_toArray, List.set_cons_zero, List.set_cons_succ])
 go_cut [35] (fun v35 wc => ∃ (kq : Nat) (x35_4 : Bool), v35 = .bool x35_4 ∧ Aside0 (tailwaterlaw26_ChannelFirst.j0 kq l1 l2 t250 x35_4 a0_0 l0_1 = some true) ∧ Aside0 (kq ≤ k) ∧ Aside0 (Kd.V k35 35 wc w.heap.size (fun k_ => (P0_1_ k_ ∨ w.heap.size ≤ k_) ∧ k_ ≠ gb249) (.slice A0_1 l0_1.length c0_1) l0_1) ∧ Aside0 (wc.heap[gb249]? = some (.cells #[.int .i64 a0_0, (.slice A0_1 l0_1.length c0_1)] 24 (0, 0))) ∧ Aside0 (Below w.heap.size w wc))
 case first =>
  have H := HC5.out
  clear HC5
  replace H := Option.bind_eq_some_iff.mp H
  obtain ⟨t251, A80, H⟩ := H
  try dsimp only at H
  have A8 := Aside0.mk A80
  clear A80
  by_cases c9 : t251 = 0
  case neg =>
   rw [if_neg c9] at H
   have c9b0 : (t251 == 0) = false := beq_eq_false_iff_ne.mpr c9
   have c9b1 : (t251 != 0) = true := bne_iff_ne.mpr c9
   (first | rw [c9b0] | (simp only [i64_w, i32_w]; rw [c9b0]) | skip)
   have H' := Aside0.mk H
   clear H
   have hcz18_0 : w7.cell? ⟨gb249, 0, none⟩ = some (.int .i64 a0_0) := (blk_cell BK249.out 0).trans rfl
   have hcz18_1 : w7.cell? ⟨gb249, 1, none⟩ = some (.slice A0_1 l0_1.length c0_1) := (blk_cell BK249.out 1).trans rfl
   have hfz18_0 := blk_frozen BK249.out 0
   have hfz18_1 := blk_frozen BK249.out 1
   go_wp2_with (first | ((with_reducible refine gate_callee (f := 21) rfl ?_); refine goesL_ (some 20) rfl rfl Try.func21 (by kernel_rfl) rfl #[.agg #[.int .i64 a0_0, .slice A0_1 l0_1.length c0_1]] rfl (by (try simp only [List.map_toArray, List.map_cons, List.map_nil]); first | done | rfl | (simp only [List.length_drop, List.length_take]; rfl)) ?_; (with_reducible refine (tailwaterref26_Check.calls k a0_0 _ _ l0_1 t251 _ ?side1 ?side2 A8.out).mono ?_); (case side1 => repeat (first | exact (Kd.V_reads' HO0_1.out).2.2 | (with_reducible refine Kd.C_alloc ?_ _) | (with_reducible refine Kd.C_drewN ?_ _) | (with_reducible refine Kd.C_drew ?_))); (case side2 => exact (Kd.V_reads' HO0_1.out).2.1); rintro e w19 ⟨rfl, hb⟩; refine ⟨_, rfl, ?_⟩; have n0_ := Aside0.mk (Kd.V_below (by (with_reducible repeat (first | apply Kd.V_alloc | apply Kd.V_drewN | apply Kd.V_drew)); exact HO0_1.out) hb); have n1_ := Aside0.mk (blk_below (g := gb249) (o := .cells #[.int .i64 a0_0, .slice A0_1 l0_1.length c0_1] 24 (0, 0)) BK249.out hb); have n2_ := Aside0.mk (below_step (by repeat (first | (with_reducible first | exact HB.out | apply below_alloc | apply pw_below_drewN | apply below_drew1 | refine below_set ?_ GE249.out) | exact HB.out)) hb); clear HO0_1; clear BK249; clear HB; have HO0_1 := n0_; have BK249 := n1_; have HB := n2_; clear n0_ n1_ n2_; (try clear hb); (try clear hb2); (try clear hk); (try clear hi)))
   go_meet
   case rel => exact ⟨_, (true), (by first | rfl | (simp; done) | (simp [*]; done)), H', ⟨by first | omega | exact Nat.le_refl _⟩, ⟨by (with_reducible repeat (first | apply Kd.V_alloc | apply Kd.V_drewN | apply Kd.V_drew)); exact HO0_1.out⟩, ⟨by (with_reducible repeat (first | refine blk_drewN ?_ _ | refine blk_drew ?_ | refine blk_alloc ?_ _)); exact BK249.out⟩, ⟨by repeat (first | (with_reducible first | exact HB.out | apply below_alloc | apply pw_below_drewN | apply below_drew1 | refine below_set ?_ GE249.out) | exact HB.out)⟩⟩
  rw [if_pos c9] at H
  have c9b0 : (t251 == 0) = true := beq_iff_eq.mpr c9
  have c9b1 : (t251 != 0) = false := bne_eq_false_iff_eq.mpr c9
  clear c9
  (first | rw [c9b0] | (simp only [i64_w, i32_w]; rw [c9b0]) | skip)
  by_cases c10 : (l1.length : Int) > 30
  case pos =>
   rw [if_pos c10] at H
   have c10b0 : decide (30 < (l1.length : Int)) = true := decide_eq_true c10
   have c10b1 : decide (30 < l1.length) = true := decide_eq_true (by omega)
   clear c10
   have H' := Aside0.mk H
   clear H
   have hcz11_0 : w7.cell? ⟨gb249, 0, none⟩ = some (.int .i64 a0_0) := (blk_cell BK249.out 0).trans rfl
   have hcz11_1 : w7.cell? ⟨gb249, 1, none⟩ = some (.slice A0_1 l0_1.length c0_1) := (blk_cell BK249.out 1).trans rfl
   have hfz11_0 := blk_frozen BK249.out 0
   have hfz11_1 := blk_frozen BK249.out 1
   go_wp2_with (first | ((with_reducible refine gate_callee (f := 21) rfl ?_); refine goesL_ (some 20) rfl rfl Try.func21 (by kernel_rfl) rfl #[.agg #[.int .i64 a0_0, .slice A0_1 l0_1.length c0_1]] rfl (by (try simp only [List.map_toArray, List.map_cons, List.map_nil]); first | done | rfl | (simp only [List.length_drop, List.length_take]; rfl)) ?_; (with_reducible refine (tailwaterref26_Check.calls k a0_0 _ _ l0_1 t251 _ ?side1 ?side2 A8.out).mono ?_); (case side1 => repeat (first | exact (Kd.V_reads' HO0_1.out).2.2 | (with_reducible refine Kd.C_alloc ?_ _) | (with_reducible refine Kd.C_drewN ?_ _) | (with_reducible refine Kd.C_drew ?_))); (case side2 => exact (Kd.V_reads' HO0_1.out).2.1); rintro e w12 ⟨rfl, hb⟩; refine ⟨_, rfl, ?_⟩; have n0_ := Aside0.mk (Kd.V_below (by (with_reducible repeat (first | apply Kd.V_alloc | apply Kd.V_drewN | apply Kd.V_drew)); exact HO0_1.out) hb); have n1_ := Aside0.mk (blk_below (g := gb249) (o := .cells #[.int .i64 a0_0, .slice A0_1 l0_1.length c0_1] 24 (0, 0)) BK249.out hb); have n2_ := Aside0.mk (below_step (by repeat (first | (with_reducible first | exact HB.out | apply below_alloc | apply pw_below_drewN | apply below_drew1 | refine below_set ?_ GE249.out) | exact HB.out)) hb); clear HO0_1; clear BK249; clear HB; have HO0_1 := n0_; have BK249 := n1_; have HB := n2_; clear n0_ n1_ n2_; (try clear hb); (try clear hb2); (try clear hk); (try clear hi)))
   go_meet
   case rel => exact ⟨_, (true), (by first | rfl | (simp; done) | (simp [*]; done)), H', ⟨by first | omega | exact Nat.le_refl _⟩, ⟨by (with_reducible repeat (first | apply Kd.V_alloc | apply Kd.V_drewN | apply Kd.V_drew)); exact HO0_1.out⟩, ⟨by (with_reducible repeat (first | refine blk_drewN ?_ _ | refine blk_drew ?_ | refine blk_alloc ?_ _)); exact BK249.out⟩, ⟨by repeat (first | (with_reducible first | exact HB.out | apply below_alloc | apply pw_below_drewN | apply below_drew1 | refine below_set ?_ GE249.out) | exact HB.out)⟩⟩
  rw [if_neg c10] at H
  have c10b0 : decide (30 < (l1.length : Int)) = false := decide_eq_false c10
  have c10b1 : decide (30 < l1.length) = false := decide_eq_false (by omega)
  clear c10
  by_cases c13 : (l2.length : Int) > 60
  case pos =>
   rw [if_pos c13] at H
   have c13b0 : decide (60 < (l2.length : Int)) = true := decide_eq_true c13
   have c13b1 : decide (60 < l2.length) = true := decide_eq_true (by omega)
   clear c13
   have H' := Aside0.mk H
   clear H
   have hcz14_0 : w7.cell? ⟨gb249, 0, none⟩ = some (.int .i64 a0_0) := (blk_cell BK249.out 0).trans rfl
   have hcz14_1 : w7.cell? ⟨gb249, 1, none⟩ = some (.slice A0_1 l0_1.length c0_1) := (blk_cell BK249.out 1).trans rfl
   have hfz14_0 := blk_frozen BK249.out 0
   have hfz14_1 := blk_frozen BK249.out 1
   go_wp2_with (first | ((with_reducible refine gate_callee (f := 21) rfl ?_); refine goesL_ (some 20) rfl rfl Try.func21 (by kernel_rfl) rfl #[.agg #[.int .i64 a0_0, .slice A0_1 l0_1.length c0_1]] rfl (by (try simp only [List.map_toArray, List.map_cons, List.map_nil]); first | done | rfl | (simp only [List.length_drop, List.length_take]; rfl)) ?_; (with_reducible refine (tailwaterref26_Check.calls k a0_0 _ _ l0_1 t251 _ ?side1 ?side2 A8.out).mono ?_); (case side1 => repeat (first | exact (Kd.V_reads' HO0_1.out).2.2 | (with_reducible refine Kd.C_alloc ?_ _) | (with_reducible refine Kd.C_drewN ?_ _) | (with_reducible refine Kd.C_drew ?_))); (case side2 => exact (Kd.V_reads' HO0_1.out).2.1); rintro e w15 ⟨rfl, hb⟩; refine ⟨_, rfl, ?_⟩; have n0_ := Aside0.mk (Kd.V_below (by (with_reducible repeat (first | apply Kd.V_alloc | apply Kd.V_drewN | apply Kd.V_drew)); exact HO0_1.out) hb); have n1_ := Aside0.mk (blk_below (g := gb249) (o := .cells #[.int .i64 a0_0, .slice A0_1 l0_1.length c0_1] 24 (0, 0)) BK249.out hb); have n2_ := Aside0.mk (below_step (by repeat (first | (with_reducible first | exact HB.out | apply below_alloc | apply pw_below_drewN | apply below_drew1 | refine below_set ?_ GE249.out) | exact HB.out)) hb); clear HO0_1; clear BK249; clear HB; have HO0_1 := n0_; have BK249 := n1_; have HB := n2_; clear n0_ n1_ n2_; (try clear hb); (try clear hb2); (try clear hk); (try clear hi)))
   go_meet
   case rel => exact ⟨_, (true), (by first | rfl | (simp; done) | (simp [*]; done)), H', ⟨by first | omega | exact Nat.le_refl _⟩, ⟨by (with_reducible repeat (first | apply Kd.V_alloc | apply Kd.V_drewN | apply Kd.V_drew)); exact HO0_1.out⟩, ⟨by (with_reducible repeat (first | refine blk_drewN ?_ _ | refine blk_drew ?_ | refine blk_alloc ?_ _)); exact BK249.out⟩, ⟨by repeat (first | (with_reducible first | exact HB.out | apply below_alloc | apply pw_below_drewN | apply below_drew1 | refine below_set ?_ GE249.out) | exact HB.out)⟩⟩
  rw [if_neg c13] at H
  have c13b0 : decide (60 < (l2.length : Int)) = false := decide_eq_false c13
  have c13b1 : decide (60 < l2.length) = false := decide_eq_false (by omega)
  clear c13
  have H' := Aside0.mk H
  clear H
  have hcz16_0 : w7.cell? ⟨gb249, 0, none⟩ = some (.int .i64 a0_0) := (blk_cell BK249.out 0).trans rfl
  have hcz16_1 : w7.cell? ⟨gb249, 1, none⟩ = some (.slice A0_1 l0_1.length c0_1) := (blk_cell BK249.out 1).trans rfl
  have hfz16_0 := blk_frozen BK249.out 0
  have hfz16_1 := blk_frozen BK249.out 1
  go_wp2_with (first | ((with_reducible refine gate_callee (f := 21) rfl ?_); refine goesL_ (some 20) rfl rfl Try.func21 (by kernel_rfl) rfl #[.agg #[.int .i64 a0_0, .slice A0_1 l0_1.length c0_1]] rfl (by (try simp only [List.map_toArray, List.map_cons, List.map_nil]); first | done | rfl | (simp only [List.length_drop, List.length_take]; rfl)) ?_; (with_reducible refine (tailwaterref26_Check.calls k a0_0 _ _ l0_1 t251 _ ?side1 ?side2 A8.out).mono ?_); (case side1 => repeat (first | exact (Kd.V_reads' HO0_1.out).2.2 | (with_reducible refine Kd.C_alloc ?_ _) | (with_reducible refine Kd.C_drewN ?_ _) | (with_reducible refine Kd.C_drew ?_))); (case side2 => exact (Kd.V_reads' HO0_1.out).2.1); rintro e w17 ⟨rfl, hb⟩; refine ⟨_, rfl, ?_⟩; have n0_ := Aside0.mk (Kd.V_below (by (with_reducible repeat (first | apply Kd.V_alloc | apply Kd.V_drewN | apply Kd.V_drew)); exact HO0_1.out) hb); have n1_ := Aside0.mk (blk_below (g := gb249) (o := .cells #[.int .i64 a0_0, .slice A0_1 l0_1.length c0_1] 24 (0, 0)) BK249.out hb); have n2_ := Aside0.mk (below_step (by repeat (first | (with_reducible first | exact HB.out | apply below_alloc | apply pw_below_drewN | apply below_drew1 | refine below_set ?_ GE249.out) | exact HB.out)) hb); clear HO0_1; clear BK249; clear HB; have HO0_1 := n0_; have BK249 := n1_; have HB := n2_; clear n0_ n1_ n2_; (try clear hb); (try clear hb2); (try clear hk); (try clear hi)))
  go_meet
  case rel => exact ⟨_, (!t250), (by first | rfl | (simp; done) | (simp [*]; done)), H', ⟨by first | omega | exact Nat.le_refl _⟩, ⟨by (with_reducible repeat (first | apply Kd.V_alloc | apply Kd.V_drewN | apply Kd.V_drew)); exact HO0_1.out⟩, ⟨by (with_reducible repeat (first | refine blk_drewN ?_ _ | refine blk_drew ?_ | refine blk_alloc ?_ _)); exact BK249.out⟩, ⟨by repeat (first | (with_reducible first | exact HB.out | apply below_alloc | apply pw_below_drewN | apply below_drew1 | refine below_set ?_ GE249.out) | exact HB.out)⟩⟩
 case rest =>
  clear HC5
  try clear c1
  try clear c2
  try clear p2
  try clear c5
  try clear c9
  try clear c9b0
  try clear c9b1
  try clear c10
  try clear c10b0
  try clear c10b1
  try clear c13
  try clear c13b0
  try clear c13b1
  try clear hcz11_0
  try clear hcz11_1
  try clear hcz14_0
  try clear hcz14_1
  try clear hcz16_0
  try clear hcz16_1
  try clear hcz18_0
  try clear hcz18_1
  try clear hfz11_0
  try clear hfz11_1
  try clear hfz14_0
  try clear hfz14_1
  try clear hfz16_0
  try clear hfz16_1
  try clear hfz18_0
  try clear hfz18_1
  obtain ⟨kq, x35_4, rfl, HA, HJ4, HO_250001, BK249, HB⟩ := hcut
  cases kq with
  | zero => exact absurd HA.out (by simp [tailwaterlaw26_ChannelFirst.j0])
  | succ kj4 =>
   have H := HA.out
   clear HA
   simp only [tailwaterlaw26_ChannelFirst.j0] at H
   by_cases c20 : x35_4 = true
   case pos =>
    subst c20
    have H1 := H
    rw [if_pos rfl] at H1
    clear H
    have H := H1
    clear H1
    have HV_ := Option.some.inj H
    clear H
    go_wp2
    go_ret
    exact ⟨by first | rfl | (simp [errW_none, errW_some] <;> rfl) | (simp [*, errW_none, errW_some] <;> rfl), by repeat (first | (with_reducible first | exact HB.out | apply below_alloc | apply pw_below_drewN | apply below_drew1 | refine below_set ?_ GE249.out) | exact HB.out)⟩
   replace c20 := Bool.eq_false_iff.mpr c20
   subst c20
   have H1 := H
   rw [if_neg (show ¬ (false = true) by decide)] at H1
   clear H
   have H := H1
   clear H1
   obtain ⟨y252, hy252⟩ : ∃ y_ : List (S35), y_ = (([] : List (S35))) := ⟨_, rfl⟩
   replace H : (if y252.length + l0_1.length < 1759218604441 then (tailwaterlaw26_ChannelFirst.l0 kj4 l1 l2 t250 (y252 ++ l0_1) 0 0 0 a0_0 l0_1) else (none)) = some true := by first | (rw [hy252]; with_reducible exact H) | (have H2_ := (Option.bind_some _ _).symm.trans H; rw [hy252]; with_reducible exact H2_) | (have H2_ := (Option.bind_some _ _).symm.trans H; with_reducible exact H2_) | with_reducible exact H | (rw [hy252]; exact H) | exact H
   have Ny252 := Aside0.mk hy252
   clear hy252
   by_cases c21 : y252.length + l0_1.length < 1759218604441
   case neg =>
    rw [if_neg c21] at H
    exact absurd H (by simp)
   rw [if_pos c21] at H
   have LMc21 := Aside0.mk c21
   clear c21
   obtain ⟨y255, hy255⟩ : ∃ y_ : List (S35), y_ = (y252 ++ l0_1) := ⟨_, rfl⟩
   replace H : (tailwaterlaw26_ChannelFirst.l0 kj4 l1 l2 t250 y255 0 0 0 a0_0 l0_1) = some true := by first | (rw [hy255]; with_reducible exact H) | (have H2_ := (Option.bind_some _ _).symm.trans H; rw [hy255]; with_reducible exact H2_) | (have H2_ := (Option.bind_some _ _).symm.trans H; with_reducible exact H2_) | with_reducible exact H | (rw [hy255]; exact H) | exact H
   have Ny255 := Aside0.mk hy255
   clear hy255
   have H' := Aside0.mk H
   clear H
   go_wp2_with (first | ((with_reducible refine gate_dst (N := 37) rfl ?_); (try (refine gate_guard (by rfl) ?_; dsimp only)); refine Kd.R_lit k35 _ 35 ?hg (N := 37) ?hd (xs := ([] : List (S35))) (inner := []) (ok := fun _ => True) (okp := fun _ => True) ?hr ?hp (fun _ hk => hk) trivial (Below.refl _ _) (Nat.le_refl _) (by simp) ?_; (case hd => rfl); (case hg => rfl); (case hr => first | (go_simp; done) | (go_simp; rfl)); (case hp => exact (Reps.none _ _)); intro v253 w22 ho23 hb hg_ hnew_; clear hg_ hnew_; (first | rw [← Ny252.out] at ho23 | (simp only [Int.reduceToNat] at ho23; rw [← Ny252.out] at ho23)); have n0_ := Aside0.mk (Kd.V_elder' (by (with_reducible repeat (first | apply Kd.V_alloc | apply Kd.V_drewN | apply Kd.V_drew)); exact HO_250001.out) (Kd.R_base ho23) hb); have n1_ := Aside0.mk (Kd.R_lower (Kd.R_newM (M := fun k_ => (w.heap.size ≤ k_)) ho23 (below_size (by repeat (first | (with_reducible first | exact HB.out | apply below_alloc | apply pw_below_drewN | apply below_drew1 | refine below_set ?_ GE249.out) | exact HB.out))) (fun k_ h_ => h_)) (below_size (by repeat (first | (with_reducible first | exact HB.out | apply below_alloc | apply pw_below_drewN | apply below_drew1 | refine below_set ?_ GE249.out) | exact HB.out)))); have n2_ := Aside0.mk (blk_below (g := gb249) (o := .cells #[.int .i64 a0_0, .slice A0_1 l0_1.length c0_1] 24 (0, 0)) BK249.out hb); have n3_ := Aside0.mk (below_step (by repeat (first | (with_reducible first | exact HB.out | apply below_alloc | apply pw_below_drewN | apply below_drew1 | refine below_set ?_ GE249.out) | exact HB.out)) hb); clear HO_250001; clear BK249; clear HB; have HO_250001 := n0_; have HO254 := n1_; have BK249 := n2_; have HB := n3_; clear n0_ n1_ n2_ n3_; clear hb ho23; have hcz24_0 : w22.cell? ⟨gb249, 0, none⟩ = some (.int .i64 a0_0) := (blk_cell BK249.out 0).trans rfl; have hcz24_1 : w22.cell? ⟨gb249, 1, none⟩ = some (.slice A0_1 l0_1.length c0_1) := (blk_cell BK249.out 1).trans rfl; have hfz24_0 := blk_frozen BK249.out 0; have hfz24_1 := blk_frozen BK249.out 1) | ((with_reducible refine gate_builtin (b := .append) (xs := #[.tmp 37, .tmp 39]) rfl ?_); (try (refine gate_guard (by rfl) ?_; dsimp only)); at_builtin; refine Kd.R_append_rows k35 (w0 := w) w.heap.size rfl (.tmp 37) (.tmp 39) 22 35 (.agg #[(.int .u8 0), (.int .i64 0), (.int .i64 0), (.int .i64 0), (.int .i64 0), (.int .i64 0), (.int .i64 0), (.int .i64 0), (.int .i64 0), (.int .i64 0)]) 80 rfl Try.underlying22 info35 rfl (by decide) (by omega) v253 y252 l0_1 _ _ _ (fun k_ => (w.heap.size ≤ k_)) (fun _ => False) rfl rfl ?aO ?aR (fun _ _ h => h) (fun _ h => h.elim) ?aF ?aB ?aS ?aL ?_; (case aR => repeat (first | exact (Kd.V_reads' HO_250001.out).2.2 | (with_reducible refine Kd.C_alloc ?_ _) | (with_reducible refine Kd.C_drewN ?_ _) | (with_reducible refine Kd.C_drew ?_))); (case aB => exact (by repeat (first | (with_reducible first | exact HB.out | apply below_alloc | apply pw_below_drewN | apply below_drew1 | refine below_set ?_ GE249.out) | exact HB.out))); (case aF => exact (fun k_ hk => (Nat.le_trans (below_size (by repeat (first | (with_reducible first | exact HB.out | apply below_alloc | apply pw_below_drewN | apply below_drew1 | refine below_set ?_ GE249.out) | exact HB.out))) hk))); (case aO => exact (by (with_reducible repeat (first | apply Kd.R_alloc | apply Kd.R_drewN | apply Kd.R_drew)); exact Kd.R_mono HO254.out (fun _ hk => hk.1))); (case aS => exact (below_size (by repeat (first | (with_reducible first | exact HB.out | apply below_alloc | apply pw_below_drewN | apply below_drew1 | refine below_set ?_ GE249.out) | exact HB.out)))); (case aL => have := LMc21.out; omega); intro v256 w25 ho hb hg hat; rw [← Ny255.out] at ho; have n0_ := Aside0.mk (Kd.V_afterv (ok := (fun k_ => (P0_1_ k_ ∨ w.heap.size ≤ k_) ∧ k_ ≠ gb249)) (by (with_reducible repeat (first | apply Kd.V_alloc | apply Kd.V_drewN | apply Kd.V_drew)); exact HO_250001.out) hg hat); have n1_ := Aside0.mk (blk_grown (g := gb249) (o := .cells #[.int .i64 a0_0, .slice A0_1 l0_1.length c0_1] 24 (0, 0)) BK249.out hg (Kd.R_ne HO254.out BK249.out (by decide))); have n2_ := Aside0.mk (hb); have n3_ := Aside0.mk (ho); clear HO_250001; clear BK249; clear HB; clear HO254; have HO_250001 := n0_; have BK249 := n1_; have HB := n2_; have HO257 := n3_; clear n0_ n1_ n2_ n3_; clear ho hb hg hat))
   go_loopg [8, 9, 10, 11] kj4 (fun kq v8 v9 v10 v11 w' => ∃ (x8_2 : List (S35)) (x9_2 : Int) (x10_2 : Int) (x11_2 : Int) (x250000_2 : Int) (x250001_2 : List (S35)) (u250001 : Value), v9 = .int .i64 x9_2 ∧ v10 = .int .i64 x10_2 ∧ v11 = .int .i64 x11_2 ∧ Aside0 (tailwaterlaw26_ChannelFirst.l0 kq l1 l2 t250 x8_2 x9_2 x10_2 x11_2 x250000_2 x250001_2 = some true) ∧ Aside0 (kq ≤ kj4) ∧ Aside0 (Kd.R k35 35 w' w.heap.size (fun k_ => (w.heap.size ≤ k_)) v8 x8_2) ∧ Aside0 (Kd.V k35 35 w' w.heap.size (fun k_ => (P0_1_ k_ ∨ w.heap.size ≤ k_) ∧ some k_ ≠ (v8 : Value).ownBlock ∧ k_ ≠ gb249) u250001 x250001_2) ∧ Aside0 (w'.heap[gb249]? = some (.cells #[.int .i64 x250000_2, u250001] 24 (0, 0))) ∧ Aside0 (Below w.heap.size w w'))
   case atStart => exact ⟨(y255), (0), (0), (0), (a0_0), (l0_1), (.slice A0_1 l0_1.length c0_1), (by first | rfl | (simp; done) | (simp [*]; done)), (by first | rfl | (simp; done) | (simp [*]; done)), (by first | rfl | (simp; done) | (simp [*]; done)), H', ⟨Nat.le_refl _⟩, ⟨by (with_reducible repeat (first | apply Kd.R_alloc | apply Kd.R_drewN | apply Kd.R_drew)); exact HO257.out⟩, ⟨by (with_reducible repeat (first | apply Kd.V_alloc | apply Kd.V_drewN | apply Kd.V_drew)); exact Kd.V_mono HO_250001.out (fun _ hk => ⟨hk.1.1, ⟨hk.2, hk.1.2⟩⟩)⟩, ⟨by (with_reducible repeat (first | refine blk_drewN ?_ _ | refine blk_drew ?_ | refine blk_alloc ?_ _)); exact BK249.out⟩, ⟨by repeat (first | (with_reducible first | exact HB.out | apply below_alloc | apply pw_below_drewN | apply below_drew1 | refine below_set ?_ GE249.out) | exact HB.out)⟩⟩
   case round =>
    clear H'
    try clear c1
    try clear c2
    try clear p2
    try clear c5
    try clear c9
    try clear c9b0
    try clear c9b1
    try clear c10
    try clear c10b0
    try clear c10b1
    try clear c13
    try clear c13b0
    try clear c13b1
    try clear c20
    try clear c21
    try clear c22
    try clear hcz11_0
    try clear hcz11_1
    try clear hcz14_0
    try clear hcz14_1
    try clear hcz16_0
    try clear hcz16_1
    try clear hcz18_0
    try clear hcz18_1
    try clear hcz24_0
    try clear hcz24_1
    try clear hfz11_0
    try clear hfz11_1
    try clear hfz14_0
    try clear hfz14_1
    try clear hfz16_0
    try clear hfz16_1
    try clear hfz18_0
    try clear hfz18_1
    try clear hfz24_0
    try clear hfz24_1
    try clear p2
    obtain ⟨x8_2, x9_2, x10_2, x11_2, x250000_2, x250001_2, u250001, rfl, rfl, rfl, HA, HK2, HO_8, HO_250001, BK249, HB⟩ := hrel
    cases gk with
    | zero => exact absurd HA.out (by simp [tailwaterlaw26_ChannelFirst.l0])
    | succ k2 =>
     have H := HA.out
     clear HA
     simp only [tailwaterlaw26_ChannelFirst.l0] at H
     by_cases c26 : x11_2 < (l2.length : Int)
     case neg =>
      rw [if_neg c26] at H
      have c26b0 : decide (x11_2 < (l2.length : Int)) = false := decide_eq_false c26
      clear c26
      by_cases c123 : t250 = true
      case neg =>
       replace c123 := Bool.eq_false_iff.mpr c123
       subst c123
       have H1 := H
       rw [if_neg (show ¬ (false = true) by decide)] at H1
       clear H
       have H := H1
       clear H1
       exact absurd H (by decide)
      subst c123
      have H1 := H
      rw [if_pos rfl] at H1
      clear H
      have H := H1
      clear H1
      replace H := Option.bind_eq_some_iff.mp H
      obtain ⟨t258, A1240, H⟩ := H
      try dsimp only at H
      have A124 := Aside0.mk A1240
      clear A1240
      by_cases c125 : t258 = 0
      case neg =>
       rw [if_neg c125] at H
       have c125b0 : (t258 == 0) = false := beq_eq_false_iff_ne.mpr c125
       have c125b1 : (t258 != 0) = true := bne_iff_ne.mpr c125
       exact absurd H (by decide)
      rw [if_pos c125] at H
      have c125b0 : (t258 == 0) = true := beq_iff_eq.mpr c125
      have c125b1 : (t258 != 0) = false := bne_eq_false_iff_eq.mpr c125
      clear c125
      by_cases c126 : x10_2 ≤ (x8_2.length : Int)
      case neg =>
       rw [if_neg c126] at H
       have c126b0 : decide (x10_2 ≤ (x8_2.length : Int)) = false := decide_eq_false c126
       clear c126
       exact absurd H (by decide)
      rw [if_pos c126] at H
      have c126b0 : decide (x10_2 ≤ (x8_2.length : Int)) = true := decide_eq_true c126
      clear c126
      by_cases c127 : 0 ≤ x10_2
      case neg =>
       rw [if_neg c127] at H
       exact absurd H (by simp)
      rw [if_pos c127] at H
      have c127b0 := eq_true c127
      have c127b1 : decide (0 ≤ x10_2) = true := decide_eq_true c127
      clear c127
      have c128b0 := eq_true (of_decide_eq_true (by first | (with_reducible assumption) | assumption) : x10_2 ≤ (x8_2.length : Int))
      obtain ⟨y259, hy259⟩ : ∃ y_ : List (S35), y_ = (x8_2.drop (x10_2 : Int).toNat) := ⟨_, rfl⟩
      replace H : ((tailwaterref26_SameList.f k2 x250001_2 y259).bind fun t263 => (some t263)) = some true := by first | (rw [hy259]; with_reducible exact H) | (have H2_ := (Option.bind_some _ _).symm.trans H; rw [hy259]; with_reducible exact H2_) | (have H2_ := (Option.bind_some _ _).symm.trans H; with_reducible exact H2_) | with_reducible exact H | (rw [hy259]; exact H) | exact H
      have Ny259 := Aside0.mk hy259
      clear hy259
      replace H := Option.bind_eq_some_iff.mp H
      obtain ⟨t263, A1290, H⟩ := H
      try dsimp only at H
      have A129 := Aside0.mk A1290
      clear A1290
      have HV_ := Option.some.inj H
      clear H
      try go_wp2
      have n0_ := Aside0.mk (Kd.R_drew HO_8.out)
      have n1_ := Aside0.mk (Kd.V_drew HO_250001.out)
      have n2_ := Aside0.mk (blk_drew BK249.out)
      have n3_ := Aside0.mk (below_drew1 HB.out)
      clear HO_8
      clear HO_250001
      clear BK249
      clear HB
      have HO_8 := n0_
      have HO_250001 := n1_
      have BK249 := n2_
      have HB := n3_
      clear n0_ n1_ n2_ n3_
      obtain ⟨Ao131, co131, eo131⟩ := Kd.V_slice HO_250001.out
      (first | subst eo131 | (injection eo131 with f1_ f2_ f3_; have f4_ := f1_.symm; have f5_ := f3_.symm; clear f1_ f2_ f3_; subst f4_; subst f5_))
      refine start_ (n := 21) (S := fun w' => w'.cell? ⟨gb249, 0, none⟩ = some (.int .i64 x250000_2) ∧ w'.cell? ⟨gb249, 1, none⟩ = some (.slice Ao131 x250001_2.length co131)) (ds := []) #[false, false, false, false, false, false, false, false, false, false, false, false, false, false, false, false, false, false, false, false, false] (by kernel_rfl) rfl rfl ⟨(blk_cell BK249.out 0).trans rfl, (blk_cell BK249.out 1).trans rfl⟩ (fun hHeld => ?_); refine with_tabW tailwaterlaw26_ChannelFirst.tab27 tailwaterlaw26_ChannelFirst.bits27 (fun HT_ HW_ => ?_)
      generalize wr.drew = w130 at HO_8 HO_250001 BK249 HB hHeld ⊢
      refine pure_ (i := 0) (N := some 134) (v := ?_) (a' := ?_) #[true, false, false, false, false, false, false, false, false, false, false, false, false, false, false, false, false, false, false, false, false] rfl rfl (any_of HT_.out (by kernel_rfl)) (fun _ _ _ h => h) (Or.inl ⟨by rfl, ?_⟩) ?_ ?_
      rotate_left
      · intro w'
        go_simp
        with_reducible rfl
      rotate_left
      · simp only [Act.put, List.setIfInBounds_toArray, List.set_cons_zero, List.set_cons_succ, i64_w, i32_w]
        rfl
      refine pure_ (i := 1) (N := some 135) (v := ?_) (a' := ?_) #[true, true, false, false, false, false, false, false, false, false, false, false, false, false, false, false, false, false, false, false, false] rfl rfl (any_of HT_.out (by kernel_rfl)) (fun _ _ _ h => h) (Or.inl ⟨by rfl, ?_⟩) ?_ ?_
      rotate_left
      · intro w'
        go_simp
        with_reducible rfl
      rotate_left
      · simp only [Act.put, List.setIfInBounds_toArray, List.set_cons_zero, List.set_cons_succ, i64_w, i32_w]
        rfl
      refine take_ (i := 2) (N := some 136) (v := ?_) (a' := ?_) #[true, true, true, false, false, false, false, false, false, false, false, false, false, false, false, false, false, false, false, false, false] rfl rfl (take_ofW HT_.out HW_.out (by kernel_rfl)) (fun _ _ _ h => h) (Or.inl ⟨by rfl, ?_⟩) hHeld ?_ ?_
      rotate_left
      · rintro w' ⟨s0, s1⟩
        go_simp
        with_reducible rfl
      rotate_left
      · simp only [Act.put, List.setIfInBounds_toArray, List.set_cons_zero, List.set_cons_succ, i64_w, i32_w]
        rfl
      refine one_ (i := 3) (N := some 137) #[true, true, true, true, false, false, false, false, false, false, false, false, false, false, false, false, false, false, false, false, false] rfl rfl (one_of HT_.out (by kernel_rfl)) (by decide) (fun K hK => ?_)
      refine goes_ Try.func20 (by kernel_rfl) rfl #[.agg #[.int .i64 x250000_2, .slice Ao131 x250001_2.length co131]] (by rfl) rfl rfl (by (try simp only [List.map_toArray, List.map_cons, List.map_nil]); first | done | rfl | (simp only [List.length_drop, List.length_take]; rfl)) ?_
      with_reducible refine (channel_Check.calls k2 x250000_2 _ _ x250001_2 t258 _ ?side1 ?side2 A124.out).mono ?_
      (case side1 => repeat (first | exact (Kd.V_reads' HO_250001.out).2.2 | (with_reducible refine Kd.C_alloc ?_ _) | (with_reducible refine Kd.C_drewN ?_ _) | (with_reducible refine Kd.C_drew ?_)))
      (case side2 => exact (Kd.V_reads' HO_250001.out).2.1)
      rintro e w132 ⟨rfl, hb⟩
      refine ⟨_, rfl, ?_⟩
      have n0_ := Aside0.mk (Kd.R_below HO_8.out hb)
      have n1_ := Aside0.mk (Kd.V_below (by (with_reducible repeat (first | apply Kd.V_alloc | apply Kd.V_drewN | apply Kd.V_drew)); exact HO_250001.out) hb)
      have n2_ := Aside0.mk (blk_below (g := gb249) (o := .cells #[.int .i64 x250000_2, .slice Ao131 x250001_2.length co131] 24 (0, 0)) BK249.out hb)
      have n3_ := Aside0.mk (below_step (by repeat (first | (with_reducible first | exact HB.out | apply below_alloc | apply pw_below_drewN | apply below_drew1 | refine below_set ?_ GE249.out) | exact HB.out)) hb)
      clear HO_8
      clear HO_250001
      clear BK249
      clear HB
      have HO_8 := n0_
      have HO_250001 := n1_
      have BK249 := n2_
      have HB := n3_
      clear n0_ n1_ n2_ n3_
      (try clear hb)
      (try clear hb2)
      (try clear hk)
      (try clear hi)
      obtain ⟨Ao133, co133, eo133⟩ := Kd.R_slice HO_8.out
      (first | subst eo133 | (injection eo133 with f1_ f2_ f3_; have f4_ := f1_.symm; have f5_ := f3_.symm; clear f1_ f2_ f3_; subst f4_; subst f5_))
      have q134 : (x10_2 : Int) ≤ ((x8_2.length : Int) : Int) := of_decide_eq_true (by first | (with_reducible assumption) | assumption)
      obtain ⟨i0134, hi0134, _, hsz134, _⟩ := info_parts info35
      have hroom134 : x8_2.length ≤ co133 := (Kd.R_reads' HO_8.out).2.1
      have hC134 : Kd.C k35 _ Ao133 x8_2.length x8_2 := (Kd.R_reads' HO_8.out).2.2
      have q0134 : (0 : Int) ≤ (x10_2 : Int) := of_decide_eq_true (by first | (with_reducible assumption) | assumption)
      have hcut134 := cut_from (P := Try.prog) 22 35 .i64 Try.underlying22 hi0134 10 hsz134 Ao133 x8_2.length co133 x10_2 q0134 q134
      have hr134 := Kd.C_drop (m := (x10_2 : Int).toNat) (c := co133) hC134 (by omega) hroom134
      obtain ⟨A134, hA134⟩ : ∃ A1, A1 = (if co133 = (x10_2 : Int).toNat then Ao133 else (Ao133 : Option Addr).map (·.add ((x10_2 : Int).toNat * 10))) := ⟨_, rfl⟩
      obtain ⟨c134, hc134⟩ : ∃ c1, c1 = co133 - (x10_2 : Int).toNat := ⟨_, rfl⟩
      have hy134 : y259.length = x8_2.length - (x10_2 : Int).toNat := (by rw [Ny259.out, List.length_drop] <;> omega)
      rw [show (x8_2).drop (x10_2 : Int).toNat = y259 from Ny259.out.symm] at hr134
      replace hr134 : Kd.C k35 _ A134 y259.length y259 := (by rw [hA134]; exact hr134)
      rw [← hy134, ← hA134, ← hc134] at hcut134
      have HR262 := Aside0.mk hr134
      have HC262 := Aside0.mk (show y259.length ≤ c134 from by rw [hy134, hc134]; exact Nat.sub_le_sub_right hroom134 _)
      clear hr134 hC134 hroom134 hi0134 hsz134 hc134
      have KY134 := Aside0.mk hy134
      have KA134 := Aside0.mk hA134
      clear hy134 hA134
      have KL134 := Aside0.mk (show (x10_2 : Int).toNat ≤ x8_2.length from by omega)
      replace q134 := eq_true q134
      refine hK.out _ _ ⟨(blk_cell BK249.out 0).trans rfl, (blk_cell BK249.out 1).trans rfl⟩ (fun hHeld => ?_)
      clear hK K
      refine norm_ (a' := ?_) ?_ ?_
      rotate_left
      · show Act.put _ (some 137) _ = _
        simp only [Act.put, List.setIfInBounds_toArray, List.set_cons_zero, List.set_cons_succ, i64_w, i32_w]
        rfl
      refine pure_ (i := 4) (N := some 138) (v := ?_) (a' := ?_) #[true, true, true, true, true, false, false, false, false, false, false, false, false, false, false, false, false, false, false, false, false] rfl rfl (any_of HT_.out (by kernel_rfl)) (fun _ _ _ h => h) (Or.inl ⟨by rfl, ?_⟩) ?_ ?_
      rotate_left
      · intro w'
        go_simp
        with_reducible rfl
      rotate_left
      · simp only [Act.put, List.setIfInBounds_toArray, List.set_cons_zero, List.set_cons_succ, i64_w, i32_w]
        rfl
      refine pure_ (i := 5) (N := some 139) (v := ?_) (a' := ?_) #[true, true, true, true, true, true, false, false, false, false, false, false, false, false, false, false, false, false, false, false, false] rfl rfl (any_of HT_.out (by kernel_rfl)) (fun _ _ _ h => h) (Or.inl ⟨by rfl, ?_⟩) ?_ ?_
      rotate_left
      · intro w'
        go_simp
        with_reducible rfl
      rotate_left
      · simp only [Act.put, List.setIfInBounds_toArray, List.set_cons_zero, List.set_cons_succ, i64_w, i32_w]
        rfl
      refine pure_ (i := 6) (N := some 140) (v := ?_) (a' := ?_) #[true, true, true, true, true, true, true, false, false, false, false, false, false, false, false, false, false, false, false, false, false] rfl rfl (any_of HT_.out (by kernel_rfl)) (fun _ _ _ h => h) (Or.inl ⟨by rfl, ?_⟩) ?_ ?_
      rotate_left
      · intro w'
        go_simp
        with_reducible rfl
      rotate_left
      · simp only [Act.put, List.setIfInBounds_toArray, List.set_cons_zero, List.set_cons_succ, i64_w, i32_w]
        rfl
      refine pure_ (i := 7) (N := some 141) (v := ?_) (a' := ?_) #[true, true, true, true, true, true, true, true, false, false, false, false, false, false, false, false, false, false, false, false, false] rfl rfl (any_of HT_.out (by kernel_rfl)) (fun _ _ _ h => h) (Or.inl ⟨by rfl, ?_⟩) ?_ ?_
      rotate_left
      · intro w'
        go_simp
        with_reducible rfl
      rotate_left
      · simp only [Act.put, List.setIfInBounds_toArray, List.set_cons_zero, List.set_cons_succ, i64_w, i32_w]
        rfl
      refine pure_ (i := 8) (N := some 142) (v := ?_) (a' := ?_) #[true, true, true, true, true, true, true, true, true, false, false, false, false, false, false, false, false, false, false, false, false] rfl rfl (any_of HT_.out (by kernel_rfl)) (fun _ _ _ h => h) (Or.inl ⟨by rfl, ?_⟩) ?_ ?_
      rotate_left
      · intro w'
        go_simp
        with_reducible rfl
      rotate_left
      · simp only [Act.put, List.setIfInBounds_toArray, List.set_cons_zero, List.set_cons_succ, i64_w, i32_w]
        rfl
      refine pure_ (i := 9) (N := some 143) (v := ?_) (a' := ?_) #[true, true, true, true, true, true, true, true, true, true, false, false, false, false, false, false, false, false, false, false, false] rfl rfl (any_of HT_.out (by kernel_rfl)) (fun _ _ _ h => h) (Or.inl ⟨by rfl, ?_⟩) ?_ ?_
      rotate_left
      · intro w'
        go_simp
        with_reducible rfl
      rotate_left
      · simp only [Act.put, List.setIfInBounds_toArray, List.set_cons_zero, List.set_cons_succ, i64_w, i32_w]
        rfl
      refine pure_ (i := 10) (N := some 144) (v := ?_) (a' := ?_) #[true, true, true, true, true, true, true, true, true, true, true, false, false, false, false, false, false, false, false, false, false] rfl rfl (any_of HT_.out (by kernel_rfl)) (fun _ _ _ h => h) (Or.inl ⟨by rfl, ?_⟩) ?_ ?_
      rotate_left
      · intro w'
        go_simp
        with_reducible rfl
      rotate_left
      · simp only [Act.put, List.setIfInBounds_toArray, List.set_cons_zero, List.set_cons_succ, i64_w, i32_w]
        rfl
      refine pure_ (i := 11) (N := some 145) (v := ?_) (a' := ?_) #[true, true, true, true, true, true, true, true, true, true, true, true, false, false, false, false, false, false, false, false, false] rfl rfl (any_of HT_.out (by kernel_rfl)) (fun _ _ _ h => h) (Or.inl ⟨by rfl, ?_⟩) ?_ ?_
      rotate_left
      · intro w'
        go_simp
        with_reducible rfl
      rotate_left
      · simp only [Act.put, List.setIfInBounds_toArray, List.set_cons_zero, List.set_cons_succ, i64_w, i32_w]
        rfl
      refine pure_ (i := 12) (N := some 146) (v := ?_) (a' := ?_) #[true, true, true, true, true, true, true, true, true, true, true, true, true, false, false, false, false, false, false, false, false] rfl rfl (any_of HT_.out (by kernel_rfl)) (fun _ _ _ h => h) (Or.inl ⟨by rfl, ?_⟩) ?_ ?_
      rotate_left
      · intro w'
        go_simp
        with_reducible rfl
      rotate_left
      · simp only [Act.put, List.setIfInBounds_toArray, List.set_cons_zero, List.set_cons_succ, i64_w, i32_w]
        rfl
      refine pure_ (i := 13) (N := some 147) (v := ?_) (a' := ?_) #[true, true, true, true, true, true, true, true, true, true, true, true, true, true, false, false, false, false, false, false, false] rfl rfl (any_of HT_.out (by kernel_rfl)) (fun _ _ _ h => h) (Or.inl ⟨by rfl, ?_⟩) ?_ ?_
      rotate_left
      · intro w'
        go_simp
        with_reducible rfl
      rotate_left
      · simp only [Act.put, List.setIfInBounds_toArray, List.set_cons_zero, List.set_cons_succ, i64_w, i32_w]
        rfl
      refine pure_ (i := 15) (N := some 149) (v := ?_) (a' := ?_) #[true, true, true, true, true, true, true, true, true, true, true, true, true, true, false, true, false, false, false, false, false] rfl rfl (any_of HT_.out (by kernel_rfl)) (fun _ _ _ h => h) (Or.inl ⟨by rfl, ?_⟩) ?_ ?_
      rotate_left
      · intro w'
        go_simp
        with_reducible rfl
      rotate_left
      · simp only [Act.put, List.setIfInBounds_toArray, List.set_cons_zero, List.set_cons_succ, i64_w, i32_w]
        rfl
      refine pure_ (i := 16) (N := some 150) (v := ?_) (a' := ?_) #[true, true, true, true, true, true, true, true, true, true, true, true, true, true, false, true, true, false, false, false, false] rfl rfl (any_of HT_.out (by kernel_rfl)) (fun _ _ _ h => h) (Or.inl ⟨by rfl, ?_⟩) ?_ ?_
      rotate_left
      · intro w'
        go_simp
        with_reducible rfl
      rotate_left
      · simp only [Act.put, List.setIfInBounds_toArray, List.set_cons_zero, List.set_cons_succ, i64_w, i32_w]
        rfl
      refine pure_ (i := 17) (N := some 151) (v := ?_) (a' := ?_) #[true, true, true, true, true, true, true, true, true, true, true, true, true, true, false, true, true, true, false, false, false] rfl rfl (any_of HT_.out (by kernel_rfl)) (fun _ _ _ h => h) (Or.inl ⟨by rfl, ?_⟩) ?_ ?_
      rotate_left
      · intro w'
        go_simp
        with_reducible rfl
      rotate_left
      · simp only [Act.put, List.setIfInBounds_toArray, List.set_cons_zero, List.set_cons_succ, i64_w, i32_w]
        rfl
      refine take_ (i := 14) (N := some 148) (v := ?_) (a' := ?_) #[true, true, true, true, true, true, true, true, true, true, true, true, true, true, true, true, true, true, false, false, false] rfl rfl (take_ofW HT_.out HW_.out (by kernel_rfl)) (fun _ _ _ h => h) (Or.inl ⟨by rfl, ?_⟩) hHeld ?_ ?_
      rotate_left
      · rintro w' ⟨s0, s1⟩
        go_simp
        with_reducible rfl
      rotate_left
      · simp only [Act.put, List.setIfInBounds_toArray, List.set_cons_zero, List.set_cons_succ, i64_w, i32_w]
        rfl
      refine one_ (i := 18) (N := some 152) #[true, true, true, true, true, true, true, true, true, true, true, true, true, true, true, true, true, true, true, false, false] rfl rfl (one_of HT_.out (by kernel_rfl)) (by decide) (fun K hK => ?_)
      refine goes_ Try.func24 (by kernel_rfl) rfl #[.slice Ao131 x250001_2.length co131, .slice A134 y259.length c134] (by rfl) rfl rfl (by (try simp only [List.map_toArray, List.map_cons, List.map_nil]); first | done | rfl | (simp only [List.length_drop, List.length_take]; rfl)) ?_
      with_reducible refine (tailwaterref26_SameList.calls k2 _ _ x250001_2 _ _ y259 t263 _ ?side1 ?side2 ?side3 ?side4 A129.out).mono ?_
      (case side1 => repeat (first | exact (Kd.V_reads' HO_250001.out).2.2 | (with_reducible refine Kd.C_alloc ?_ _) | (with_reducible refine Kd.C_drewN ?_ _) | (with_reducible refine Kd.C_drew ?_)))
      (case side2 => exact (Kd.V_reads' HO_250001.out).2.1)
      (case side3 => repeat (first | exact (by repeat (first | (with_reducible exact HR262.out) | (with_reducible refine Kd.C_alloc ?_ _) | (with_reducible refine Kd.C_drewN ?_ _) | (with_reducible refine Kd.C_drew ?_) | exact HR262.out)) | (with_reducible refine Kd.C_alloc ?_ _) | (with_reducible refine Kd.C_drewN ?_ _) | (with_reducible refine Kd.C_drew ?_)))
      (case side4 => exact HC262.out)
      rintro e w' ⟨rfl, ⟨nd, rfl⟩⟩
      refine ⟨_, rfl, ?_⟩
      refine hK.out _ _ ⟨(blk_cell BK249.out 0).trans rfl, (blk_cell BK249.out 1).trans rfl⟩ (fun hHeld => ?_)
      clear hK K
      refine norm_ (a' := ?_) ?_ ?_
      rotate_left
      · show Act.put _ (some 152) _ = _
        simp only [Act.put, List.setIfInBounds_toArray, List.set_cons_zero, List.set_cons_succ, i64_w, i32_w]
        rfl
      refine pure_ (i := 19) (N := some 153) (v := ?_) (a' := ?_) #[true, true, true, true, true, true, true, true, true, true, true, true, true, true, true, true, true, true, true, true, false] rfl rfl (any_of HT_.out (by kernel_rfl)) (fun _ _ _ h => h) (Or.inl ⟨by rfl, ?_⟩) ?_ ?_
      rotate_left
      · intro w'
        go_simp
        with_reducible rfl
      rotate_left
      · simp only [Act.put, List.setIfInBounds_toArray, List.set_cons_zero, List.set_cons_succ, i64_w, i32_w]
        rfl
      refine pure_ (i := 20) (N := some 6) (v := ?_) (a' := ?_) #[true, true, true, true, true, true, true, true, true, true, true, true, true, true, true, true, true, true, true, true, true] rfl rfl (any_of HT_.out (by kernel_rfl)) (fun _ _ _ h => h) (Or.inl ⟨by rfl, ?_⟩) ?_ ?_
      rotate_left
      · intro w'
        go_simp
        with_reducible rfl
      rotate_left
      · simp only [Act.put, List.setIfInBounds_toArray, List.set_cons_zero, List.set_cons_succ, i64_w, i32_w]
        rfl
      refine done_ (done_of HT_.out (by kernel_rfl)) ?_
      try go_wp2
      go_ret
      exact ⟨by first | rfl | (simp [errW_none, errW_some] <;> rfl) | (simp [*, errW_none, errW_some] <;> rfl), by repeat (first | (with_reducible first | exact HB.out | apply below_alloc | apply pw_below_drewN | apply below_drew1 | refine below_set ?_ GE249.out) | exact HB.out)⟩
     rw [if_pos c26] at H
     have c26b0 : decide (x11_2 < (l2.length : Int)) = true := decide_eq_true c26
     clear c26
     by_cases c27 : 0 ≤ x11_2
     case neg =>
      rw [if_neg c27] at H
      exact absurd H (by simp)
     rw [if_pos c27] at H
     have c27b0 : decide (0 ≤ x11_2) = true := decide_eq_true c27
     clear c27
     obtain ⟨bq28, hbq28⟩ : ∃ b_ : Bool, b_ = (rdOf false l2 x11_2) := ⟨_, rfl⟩
     replace H : (if bq28 = true then ((channel_Take.f k2 x250000_2 x250001_2).bind fun bt265 => (if bt265.2.2.2.2.2.2.2.2.2.2.2.2 = 6 then (if x10_2 = (x8_2.length : Int) then (tailwaterlaw26_ChannelFirst.j2 k2 l1 l2 t250 x8_2 x9_2 x10_2 x11_2 ((x250001_2.length : Int) != 0) x250000_2 x250001_2) else (tailwaterlaw26_ChannelFirst.j2 k2 l1 l2 t250 x8_2 x9_2 x10_2 x11_2 true x250000_2 x250001_2)) else (if bt265.2.2.2.2.2.2.2.2.2.2.2.2 = 0 then (if x10_2 ≥ (x8_2.length : Int) then (some false) else (if 0 ≤ x10_2 then (if x10_2 < (x8_2.length : Int) then (if (!(bt265.1 == ((rd_T35 x8_2 x10_2).f0)) || ((!(bt265.2.1 == ((rd_T35 x8_2 x10_2).f1.f0)) || (!(bt265.2.2.1 == ((rd_T35 x8_2 x10_2).f1.f1)) || (!(bt265.2.2.2.1 == ((rd_T35 x8_2 x10_2).f1.f2))))) || (!(bt265.2.2.2.2.1 == ((rd_T35 x8_2 x10_2).f2)) || ((!(bt265.2.2.2.2.2.1 == ((rd_T35 x8_2 x10_2).f3.f0)) || ((!(bt265.2.2.2.2.2.2.1 == ((rd_T35 x8_2 x10_2).f3.f1.f0)) || (!(bt265.2.2.2.2.2.2.2.1 == ((rd_T35 x8_2 x10_2).f3.f1.f1)))) || ((!(bt265.2.2.2.2.2.2.2.2.1 == ((rd_T35 x8_2 x10_2).f3.f2.f0)) || (!(bt265.2.2.2.2.2.2.2.2.2.1 == ((rd_T35 x8_2 x10_2).f3.f2.f1))))))))))) = true then (some false) else (tailwaterlaw26_ChannelFirst.l0 k2 l1 l2 t250 x8_2 x9_2 (wrap64 (x10_2 + 1)) (wrap64 (x11_2 + 1)) bt265.2.2.2.2.2.2.2.2.2.2.1 bt265.2.2.2.2.2.2.2.2.2.2.2.1)) else (none)) else (none))) else (some false)))) else (if x9_2 = (l1.length : Int) then (tailwaterlaw26_ChannelFirst.l0 k2 l1 l2 t250 x8_2 x9_2 x10_2 (wrap64 (x11_2 + 1)) x250000_2 x250001_2) else (if 0 ≤ x9_2 then (if x9_2 < (l1.length : Int) then ((channel_Put.f k2 x250000_2 x250001_2 ((rd_T35 l1 x9_2).f0) ((rd_T35 l1 x9_2).f1.f0) ((rd_T35 l1 x9_2).f1.f1) ((rd_T35 l1 x9_2).f1.f2) ((rd_T35 l1 x9_2).f2) ((rd_T35 l1 x9_2).f3.f0) ((rd_T35 l1 x9_2).f3.f1.f0) ((rd_T35 l1 x9_2).f3.f1.f1) ((rd_T35 l1 x9_2).f3.f2.f0) ((rd_T35 l1 x9_2).f3.f2.f1)).bind fun bt285 => (if bt285.2.2 = 0 then (if x8_2.length < 1759218604441 then (tailwaterlaw26_ChannelFirst.l0 k2 l1 l2 t250 (x8_2 ++ [(⟨(rd_T35 l1 x9_2).f0, (⟨(rd_T35 l1 x9_2).f1.f0, (rd_T35 l1 x9_2).f1.f1, (rd_T35 l1 x9_2).f1.f2⟩ : S28), (rd_T35 l1 x9_2).f2, (⟨(rd_T35 l1 x9_2).f3.f0, (⟨(rd_T35 l1 x9_2).f3.f1.f0, (rd_T35 l1 x9_2).f3.f1.f1⟩ : S30), (⟨(rd_T35 l1 x9_2).f3.f2.f0, (rd_T35 l1 x9_2).f3.f2.f1⟩ : S31)⟩ : S33)⟩ : S35)]) (wrap64 (x9_2 + 1)) x10_2 (wrap64 (x11_2 + 1)) bt285.1 bt285.2.1) else (none)) else (if bt285.2.2 = 18 then (if (wrap64 ((x8_2.length : Int) - x10_2)) = x250000_2 then (tailwaterlaw26_ChannelFirst.l0 k2 l1 l2 t250 x8_2 (wrap64 (x9_2 + 1)) x10_2 (wrap64 (x11_2 + 1)) x250000_2 x250001_2) else (some false)) else (if bt285.2.2 = 8 then ((tailwaterref25_Valid.f k2 ((rd_T35 l1 x9_2).f0) ((rd_T35 l1 x9_2).f1.f0) ((rd_T35 l1 x9_2).f1.f1) ((rd_T35 l1 x9_2).f1.f2) ((rd_T35 l1 x9_2).f2) ((rd_T35 l1 x9_2).f3.f0) ((rd_T35 l1 x9_2).f3.f1.f0) ((rd_T35 l1 x9_2).f3.f1.f1) ((rd_T35 l1 x9_2).f3.f2.f0) ((rd_T35 l1 x9_2).f3.f2.f1)).bind fun t294 => (if t294 = true then (some false) else (tailwaterlaw26_ChannelFirst.l0 k2 l1 l2 t250 x8_2 (wrap64 (x9_2 + 1)) x10_2 (wrap64 (x11_2 + 1)) x250000_2 x250001_2))) else (some false))))) else (none)) else (none)))) = some true := by rw [← hbq28] at H; exact H
     have Nbq28 := Aside0.mk hbq28
     clear hbq28
     by_cases c29 : bq28 = true
     case neg =>
      replace c29 := Bool.eq_false_iff.mpr c29
      subst c29
      have H1 := H
      rw [if_neg (show ¬ (false = true) by decide)] at H1
      clear H
      have H := H1
      clear H1
      by_cases c72 : x9_2 = (l1.length : Int)
      case pos =>
       rw [if_pos c72] at H
       have c72b0 : (x9_2 == (l1.length : Int)) = true := beq_iff_eq.mpr c72
       have c72b1 : (x9_2 != (l1.length : Int)) = false := bne_eq_false_iff_eq.mpr c72
       clear c72
       have H' := Aside0.mk H
       clear H
       have p264 : 0 ≤ (x11_2 : Int) := of_decide_eq_true (by first | (with_reducible assumption) | assumption)
       have q264 : x11_2 < (l2.length : Int) := of_decide_eq_true (by first | (with_reducible assumption) | assumption)
       obtain ⟨ad264, e264, hx264_0⟩ := Kd.at_bool HR2.out x11_2 p264 q264
       (try rw [← Nbq28.out] at hx264_0)
       cases e264
       replace hx264_0 := (HB.out.cell (World.block_lt_of_cell? w _ hx264_0)).trans hx264_0
       replace p264 := eq_true p264
       replace q264 := eq_true q264
       go_wp2
       go_roundg k2
       case measure => have := HJ4.out; have := HK2.out; omega
       case rel => exact ⟨(x8_2), (x9_2), (x10_2), (wrap64 (x11_2 + 1)), (x250000_2), (x250001_2), (u250001), (by first | rfl | (simp; done) | (simp [*]; done)), (by first | rfl | (simp; done) | (simp [*]; done)), (by first | rfl | (simp; done) | (simp [*]; done)), H', ⟨by have := HJ4.out; have := HK2.out; omega⟩, ⟨by (with_reducible repeat (first | apply Kd.R_alloc | apply Kd.R_drewN | apply Kd.R_drew)); exact HO_8.out⟩, ⟨by (with_reducible repeat (first | apply Kd.V_alloc | apply Kd.V_drewN | apply Kd.V_drew)); exact HO_250001.out⟩, ⟨by (with_reducible repeat (first | refine blk_drewN ?_ _ | refine blk_drew ?_ | refine blk_alloc ?_ _)); exact BK249.out⟩, ⟨by repeat (first | (with_reducible first | exact HB.out | apply below_alloc | apply pw_below_drewN | apply below_drew1 | refine below_set ?_ GE249.out) | exact HB.out)⟩⟩
      rw [if_neg c72] at H
      have c72b0 : (x9_2 == (l1.length : Int)) = false := beq_eq_false_iff_ne.mpr c72
      have c72b1 : (x9_2 != (l1.length : Int)) = true := bne_iff_ne.mpr c72
      by_cases c73 : 0 ≤ x9_2
      case neg =>
       rw [if_neg c73] at H
       exact absurd H (by simp)
      rw [if_pos c73] at H
      have c73b0 : decide (0 ≤ x9_2) = true := decide_eq_true c73
      clear c73
      by_cases c74 : x9_2 < (l1.length : Int)
      case neg =>
       rw [if_neg c74] at H
       exact absurd H (by simp)
      rw [if_pos c74] at H
      have c74b0 : decide (x9_2 < (l1.length : Int)) = true := decide_eq_true c74
      clear c74
      replace H := Option.bind_eq_some_iff.mp H
      obtain ⟨⟨t285, t286, t289⟩, A750, H⟩ := H
      try dsimp only at H
      have A75 := Aside0.mk A750
      clear A750
      have HC75 := Aside0.mk H
      clear H
      have p264 : 0 ≤ (x11_2 : Int) := of_decide_eq_true (by first | (with_reducible assumption) | assumption)
      have q264 : x11_2 < (l2.length : Int) := of_decide_eq_true (by first | (with_reducible assumption) | assumption)
      obtain ⟨ad264, e264, hx264_0⟩ := Kd.at_bool HR2.out x11_2 p264 q264
      (try rw [← Nbq28.out] at hx264_0)
      cases e264
      replace hx264_0 := (HB.out.cell (World.block_lt_of_cell? w _ hx264_0)).trans hx264_0
      replace p264 := eq_true p264
      replace q264 := eq_true q264
      have p283 : 0 ≤ (x9_2 : Int) := of_decide_eq_true (by first | (with_reducible assumption) | assumption)
      have q283 : x9_2 < (l1.length : Int) := of_decide_eq_true (by first | (with_reducible assumption) | assumption)
      obtain ⟨ad283, e283, hx283_0, hx283_1, hx283_2, hx283_3, hx283_4, hx283_5, hx283_6, hx283_7, hx283_8, hx283_9⟩ := at_T35 HR1.out x9_2 p283 q283
      cases e283
      replace hx283_0 := (HB.out.cell (World.block_lt_of_cell? w _ hx283_0)).trans hx283_0
      replace hx283_1 := (HB.out.cell (World.block_lt_of_cell? w _ hx283_1)).trans hx283_1
      replace hx283_2 := (HB.out.cell (World.block_lt_of_cell? w _ hx283_2)).trans hx283_2
      replace hx283_3 := (HB.out.cell (World.block_lt_of_cell? w _ hx283_3)).trans hx283_3
      replace hx283_4 := (HB.out.cell (World.block_lt_of_cell? w _ hx283_4)).trans hx283_4
      replace hx283_5 := (HB.out.cell (World.block_lt_of_cell? w _ hx283_5)).trans hx283_5
      replace hx283_6 := (HB.out.cell (World.block_lt_of_cell? w _ hx283_6)).trans hx283_6
      replace hx283_7 := (HB.out.cell (World.block_lt_of_cell? w _ hx283_7)).trans hx283_7
      replace hx283_8 := (HB.out.cell (World.block_lt_of_cell? w _ hx283_8)).trans hx283_8
      replace hx283_9 := (HB.out.cell (World.block_lt_of_cell? w _ hx283_9)).trans hx283_9
      replace p283 := eq_true p283
      replace q283 := eq_true q283
      obtain ⟨Ao82, co82, eo82⟩ := Kd.V_slice HO_250001.out
      subst eo82
      go_upto_region 21 with (first | ((with_reducible refine gate_dst (N := 15) rfl ?_); (try (refine gate_guard (by rfl) ?_; dsimp only)); refine box_event ?hg (N := 15) ?hd (cs := #[.int .u8 0, .int .i64 0, .int .i64 0, .int .i64 0, .int .i64 0, .int .i64 0, .int .i64 0, .int .i64 0, .int .i64 0, .int .i64 0]) (t := 35) ?hr ?_; (case hd => rfl); (case hg => rfl); (case hr => first | (go_simp; done) | (go_simp; rfl)); intro gb284 hg w78 hbox hb; have n0_ := Aside0.mk (Kd.R_below (Kd.R_elderB HO_8.out gb284 (Nat.le_of_eq hg.symm)) hb); have n1_ := Aside0.mk (Kd.V_below (Kd.V_elderB HO_250001.out gb284 (Nat.le_of_eq hg.symm)) hb); have n2_ := Aside0.mk ((by rw [hg]; exact Nat.ne_of_lt (blk_lt BK249.out) : gb249 ≠ gb284)); have n3_ := Aside0.mk (blk_below BK249.out hb); have n4_ := Aside0.mk ((by rw [hg]; exact below_size HB.out : w.heap.size ≤ gb284)); have n5_ := Aside0.mk (below_step HB.out hb); have n6_ := Aside0.mk (hbox); clear HO_8 HO_250001 BK249 HB; have HO_8 := n0_; have HO_250001 := n1_; have NB249_284 := n2_; have BK249 := n3_; have GE284 := n4_; have HB := n5_; have BK284 := n6_; clear n0_ n1_ n2_ n3_ n4_ n5_ n6_; clear hb hbox hg; have z284_0 : w78.cell? ⟨gb284, 0, none⟩ = some (.int .u8 0) := (blk_cell BK284.out 0).trans rfl; have z284_1 : w78.cell? ⟨gb284, 1, none⟩ = some (.int .i64 0) := (blk_cell BK284.out 1).trans rfl; have z284_2 : w78.cell? ⟨gb284, 2, none⟩ = some (.int .i64 0) := (blk_cell BK284.out 2).trans rfl; have z284_3 : w78.cell? ⟨gb284, 3, none⟩ = some (.int .i64 0) := (blk_cell BK284.out 3).trans rfl; have z284_4 : w78.cell? ⟨gb284, 4, none⟩ = some (.int .i64 0) := (blk_cell BK284.out 4).trans rfl; have z284_5 : w78.cell? ⟨gb284, 5, none⟩ = some (.int .i64 0) := (blk_cell BK284.out 5).trans rfl; have z284_6 : w78.cell? ⟨gb284, 6, none⟩ = some (.int .i64 0) := (blk_cell BK284.out 6).trans rfl; have z284_7 : w78.cell? ⟨gb284, 7, none⟩ = some (.int .i64 0) := (blk_cell BK284.out 7).trans rfl; have z284_8 : w78.cell? ⟨gb284, 8, none⟩ = some (.int .i64 0) := (blk_cell BK284.out 8).trans rfl; have z284_9 : w78.cell? ⟨gb284, 9, none⟩ = some (.int .i64 0) := (blk_cell BK284.out 9).trans rfl; have zf284_0 := blk_frozen BK284.out 0; have zf284_1 := blk_frozen BK284.out 1; have zf284_2 := blk_frozen BK284.out 2; have zf284_3 := blk_frozen BK284.out 3; have zf284_4 := blk_frozen BK284.out 4; have zf284_5 := blk_frozen BK284.out 5; have zf284_6 := blk_frozen BK284.out 6; have zf284_7 := blk_frozen BK284.out 7; have zf284_8 := blk_frozen BK284.out 8; have zf284_9 := blk_frozen BK284.out 9))
      (try simp only [Act.put, List.setIfInBounds_toArray, List.set_cons_zero, List.set_cons_succ])
      refine fill10 BK284.out (fun w79 fb_ fk_ fB_ => ?_)
      have n0_ := Aside0.mk (Kd.R_keep HO_8.out fk_ (fun _ hk => hk.2))
      have n1_ := Aside0.mk (Kd.V_keep HO_250001.out fk_ (fun _ hk => hk.2))
      have n2_ := Aside0.mk (fk_.blk BK249.out NB249_284.out (by simp))
      have n3_ := Aside0.mk (fb_)
      have n4_ := Aside0.mk (fB_ w HB.out GE284.out)
      clear HO_8 HO_250001 BK249 BK284 HB
      have HO_8 := n0_
      have HO_250001 := n1_
      have BK249 := n2_
      have BK284 := n3_
      have HB := n4_
      clear n0_ n1_ n2_ n3_ n4_
      clear fb_ fk_ fB_
      clear z284_0 zf284_0
      clear z284_1 zf284_1
      clear z284_2 zf284_2
      clear z284_3 zf284_3
      clear z284_4 zf284_4
      clear z284_5 zf284_5
      clear z284_6 zf284_6
      clear z284_7 zf284_7
      clear z284_8 zf284_8
      clear z284_9 zf284_9
      have y249_0 : w79.cell? ⟨gb249, 0, none⟩ = some (.int .i64 x250000_2) := (blk_cell BK249.out 0).trans rfl
      have y249_1 : w79.cell? ⟨gb249, 1, none⟩ = some (.slice Ao82 x250001_2.length co82) := (blk_cell BK249.out 1).trans rfl
      have fy249_0 := blk_frozen BK249.out 0
      have fy249_1 := blk_frozen BK249.out 1
      have y284_0 : w79.cell? ⟨gb284, 0, none⟩ = some (.int .u8 ((rd_T35 l1 x9_2).f0)) := (blk_cell BK284.out 0).trans rfl
      have y284_1 : w79.cell? ⟨gb284, 1, none⟩ = some (.int .i64 ((rd_T35 l1 x9_2).f1.f0)) := (blk_cell BK284.out 1).trans rfl
      have y284_2 : w79.cell? ⟨gb284, 2, none⟩ = some (.int .i64 ((rd_T35 l1 x9_2).f1.f1)) := (blk_cell BK284.out 2).trans rfl
      have y284_3 : w79.cell? ⟨gb284, 3, none⟩ = some (.int .i64 ((rd_T35 l1 x9_2).f1.f2)) := (blk_cell BK284.out 3).trans rfl
      have y284_4 : w79.cell? ⟨gb284, 4, none⟩ = some (.int .i64 ((rd_T35 l1 x9_2).f2)) := (blk_cell BK284.out 4).trans rfl
      have y284_5 : w79.cell? ⟨gb284, 5, none⟩ = some (.int .i64 ((rd_T35 l1 x9_2).f3.f0)) := (blk_cell BK284.out 5).trans rfl
      have y284_6 : w79.cell? ⟨gb284, 6, none⟩ = some (.int .i64 ((rd_T35 l1 x9_2).f3.f1.f0)) := (blk_cell BK284.out 6).trans rfl
      have y284_7 : w79.cell? ⟨gb284, 7, none⟩ = some (.int .i64 ((rd_T35 l1 x9_2).f3.f1.f1)) := (blk_cell BK284.out 7).trans rfl
      have y284_8 : w79.cell? ⟨gb284, 8, none⟩ = some (.int .i64 ((rd_T35 l1 x9_2).f3.f2.f0)) := (blk_cell BK284.out 8).trans rfl
      have y284_9 : w79.cell? ⟨gb284, 9, none⟩ = some (.int .i64 ((rd_T35 l1 x9_2).f3.f2.f1)) := (blk_cell BK284.out 9).trans rfl
      have fy284_0 := blk_frozen BK284.out 0
      have fy284_1 := blk_frozen BK284.out 1
      have fy284_2 := blk_frozen BK284.out 2
      have fy284_3 := blk_frozen BK284.out 3
      have fy284_4 := blk_frozen BK284.out 4
      have fy284_5 := blk_frozen BK284.out 5
      have fy284_6 := blk_frozen BK284.out 6
      have fy284_7 := blk_frozen BK284.out 7
      have fy284_8 := blk_frozen BK284.out 8
      have fy284_9 := blk_frozen BK284.out 9
      go_upto_region 22 with (first | ((with_reducible refine gate_callee (f := 16) rfl ?_); refine goesL_ (some 101) rfl rfl Try.func16 (by kernel_rfl) rfl #[.agg #[.int .i64 x250000_2, .slice Ao82 x250001_2.length co82], .agg #[.int .u8 ((rd_T35 l1 x9_2).f0), .int .i64 ((rd_T35 l1 x9_2).f1.f0), .int .i64 ((rd_T35 l1 x9_2).f1.f1), .int .i64 ((rd_T35 l1 x9_2).f1.f2), .int .i64 ((rd_T35 l1 x9_2).f2), .int .i64 ((rd_T35 l1 x9_2).f3.f0), .int .i64 ((rd_T35 l1 x9_2).f3.f1.f0), .int .i64 ((rd_T35 l1 x9_2).f3.f1.f1), .int .i64 ((rd_T35 l1 x9_2).f3.f2.f0), .int .i64 ((rd_T35 l1 x9_2).f3.f2.f1)]] rfl (by (try simp only [List.map_toArray, List.map_cons, List.map_nil]); first | done | rfl | (simp only [List.length_drop, List.length_take]; rfl)) ?_; (with_reducible refine (channel_Put.calls k2 x250000_2 _ _ x250001_2 ((rd_T35 l1 x9_2).f0) ((rd_T35 l1 x9_2).f1.f0) ((rd_T35 l1 x9_2).f1.f1) ((rd_T35 l1 x9_2).f1.f2) ((rd_T35 l1 x9_2).f2) ((rd_T35 l1 x9_2).f3.f0) ((rd_T35 l1 x9_2).f3.f1.f0) ((rd_T35 l1 x9_2).f3.f1.f1) ((rd_T35 l1 x9_2).f3.f2.f0) ((rd_T35 l1 x9_2).f3.f2.f1) t285 t286 t289 _ ?side1 ?side2 A75.out).mono ?_); (case side1 => exact (Kd.V_reads' HO_250001.out).2.2); (case side2 => exact (Kd.V_reads' HO_250001.out).2.1); rintro e w83 ⟨v287, rfl, ho0, hb⟩; refine ⟨_, rfl, ?_⟩; have n0_ := Aside0.mk (Kd.R_lower (Kd.R_newB (Kd.R_newB (Kd.R_new' (Kd.R_newM (M := fun k_ => (w.heap.size ≤ k_)) ho0 (below_size HB.out) (fun k_ h_ => h_)) (Kd.R_lt HO_8.out)) BK284.out) BK249.out) (below_size HB.out)); have n1_ := Aside0.mk (Kd.R_elder' HO_8.out (Kd.R_base ho0) hb); have n2_ := Aside0.mk (Kd.V_elder' HO_250001.out (Kd.R_base ho0) hb); have n3_ := Aside0.mk (blk_below BK249.out hb); have n4_ := Aside0.mk (blk_below BK284.out hb); have n5_ := Aside0.mk (below_step HB.out hb); clear HO_8 HO_250001 BK249 BK284 HB; have HO288 := n0_; have HO_8 := n1_; have HO_250001 := n2_; have BK249 := n3_; have BK284 := n4_; have HB := n5_; clear n0_ n1_ n2_ n3_ n4_ n5_; (try clear hb); (try clear hb2); (try clear hk); (try clear hi); (try clear ho0)) | ((with_reducible refine gate_dst (N := 16) rfl ?_); (try (refine gate_guard (by rfl) ?_; dsimp only)); refine box_event ?hg (N := 16) ?hd (cs := #[.int .i64 0, .slice none 0 0]) (t := 24) ?hr ?_; (case hd => rfl); (case hg => rfl); (case hr => first | (go_simp; done) | (go_simp; rfl)); intro gb290 hg w84 hbox hb; have n0_ := Aside0.mk (Kd.R_below (Kd.R_elderB HO_8.out gb290 (Nat.le_of_eq hg.symm)) hb); have n1_ := Aside0.mk (Kd.V_below (Kd.V_elderB HO_250001.out gb290 (Nat.le_of_eq hg.symm)) hb); have n2_ := Aside0.mk (Kd.R_below (Kd.R_elderB HO288.out gb290 (Nat.le_of_eq hg.symm)) hb); have n3_ := Aside0.mk ((by rw [hg]; exact Nat.ne_of_lt (blk_lt BK249.out) : gb249 ≠ gb290)); have n4_ := Aside0.mk ((by rw [hg]; exact Nat.ne_of_lt (blk_lt BK284.out) : gb284 ≠ gb290)); have n5_ := Aside0.mk (blk_below BK249.out hb); have n6_ := Aside0.mk (blk_below BK284.out hb); have n7_ := Aside0.mk ((by rw [hg]; exact below_size HB.out : w.heap.size ≤ gb290)); have n8_ := Aside0.mk (below_step HB.out hb); have n9_ := Aside0.mk (hbox); clear HO_8 HO_250001 HO288 BK249 BK284 HB; have HO_8 := n0_; have HO_250001 := n1_; have HO288 := n2_; have NB249_290 := n3_; have NB284_290 := n4_; have BK249 := n5_; have BK284 := n6_; have GE290 := n7_; have HB := n8_; have BK290 := n9_; clear n0_ n1_ n2_ n3_ n4_ n5_ n6_ n7_ n8_ n9_; clear hb hbox hg; have z290_0 : w84.cell? ⟨gb290, 0, none⟩ = some (.int .i64 0) := (blk_cell BK290.out 0).trans rfl; have z290_1 : w84.cell? ⟨gb290, 1, none⟩ = some (.slice none 0 0) := (blk_cell BK290.out 1).trans rfl; have zf290_0 := blk_frozen BK290.out 0; have zf290_1 := blk_frozen BK290.out 1; obtain ⟨Ao88, co88, eo88⟩ := Kd.R_slice HO288.out; subst eo88))
      (try simp only [Act.put, List.setIfInBounds_toArray, List.set_cons_zero, List.set_cons_succ])
      refine fill2 BK290.out (fun w85 fb_ fk_ fB_ => ?_)
      have n0_ := Aside0.mk (Kd.R_keep HO_8.out fk_ (fun _ hk => hk.2))
      have n1_ := Aside0.mk (Kd.V_keep HO_250001.out fk_ (fun _ hk => hk.2))
      have n2_ := Aside0.mk (Kd.R_keep HO288.out fk_ (fun _ hk => hk.2))
      have n3_ := Aside0.mk (fk_.blk BK249.out NB249_290.out (by simp))
      have n4_ := Aside0.mk (fk_.blk BK284.out NB284_290.out (by simp))
      have n5_ := Aside0.mk (fb_)
      have n6_ := Aside0.mk (fB_ w HB.out GE290.out)
      clear HO_8 HO_250001 HO288 BK249 BK284 BK290 HB
      have HO_8 := n0_
      have HO_250001 := n1_
      have HO288 := n2_
      have BK249 := n3_
      have BK284 := n4_
      have BK290 := n5_
      have HB := n6_
      clear n0_ n1_ n2_ n3_ n4_ n5_ n6_
      clear fb_ fk_ fB_ z290_0 z290_1 zf290_0 zf290_1
      have x249_0 : w85.cell? ⟨gb249, 0, none⟩ = some (.int .i64 x250000_2) := (blk_cell BK249.out 0).trans rfl
      have x249_1 : w85.cell? ⟨gb249, 1, none⟩ = some (.slice Ao82 x250001_2.length co82) := (blk_cell BK249.out 1).trans rfl
      have fx249_0 := blk_frozen BK249.out 0
      have fx249_1 := blk_frozen BK249.out 1
      have x284_0 : w85.cell? ⟨gb284, 0, none⟩ = some (.int .u8 ((rd_T35 l1 x9_2).f0)) := (blk_cell BK284.out 0).trans rfl
      have x284_1 : w85.cell? ⟨gb284, 1, none⟩ = some (.int .i64 ((rd_T35 l1 x9_2).f1.f0)) := (blk_cell BK284.out 1).trans rfl
      have x284_2 : w85.cell? ⟨gb284, 2, none⟩ = some (.int .i64 ((rd_T35 l1 x9_2).f1.f1)) := (blk_cell BK284.out 2).trans rfl
      have x284_3 : w85.cell? ⟨gb284, 3, none⟩ = some (.int .i64 ((rd_T35 l1 x9_2).f1.f2)) := (blk_cell BK284.out 3).trans rfl
      have x284_4 : w85.cell? ⟨gb284, 4, none⟩ = some (.int .i64 ((rd_T35 l1 x9_2).f2)) := (blk_cell BK284.out 4).trans rfl
      have x284_5 : w85.cell? ⟨gb284, 5, none⟩ = some (.int .i64 ((rd_T35 l1 x9_2).f3.f0)) := (blk_cell BK284.out 5).trans rfl
      have x284_6 : w85.cell? ⟨gb284, 6, none⟩ = some (.int .i64 ((rd_T35 l1 x9_2).f3.f1.f0)) := (blk_cell BK284.out 6).trans rfl
      have x284_7 : w85.cell? ⟨gb284, 7, none⟩ = some (.int .i64 ((rd_T35 l1 x9_2).f3.f1.f1)) := (blk_cell BK284.out 7).trans rfl
      have x284_8 : w85.cell? ⟨gb284, 8, none⟩ = some (.int .i64 ((rd_T35 l1 x9_2).f3.f2.f0)) := (blk_cell BK284.out 8).trans rfl
      have x284_9 : w85.cell? ⟨gb284, 9, none⟩ = some (.int .i64 ((rd_T35 l1 x9_2).f3.f2.f1)) := (blk_cell BK284.out 9).trans rfl
      have fx284_0 := blk_frozen BK284.out 0
      have fx284_1 := blk_frozen BK284.out 1
      have fx284_2 := blk_frozen BK284.out 2
      have fx284_3 := blk_frozen BK284.out 3
      have fx284_4 := blk_frozen BK284.out 4
      have fx284_5 := blk_frozen BK284.out 5
      have fx284_6 := blk_frozen BK284.out 6
      have fx284_7 := blk_frozen BK284.out 7
      have fx284_8 := blk_frozen BK284.out 8
      have fx284_9 := blk_frozen BK284.out 9
      have x290_0 : w85.cell? ⟨gb290, 0, none⟩ = some (.int .i64 t285) := (blk_cell BK290.out 0).trans rfl
      have x290_1 : w85.cell? ⟨gb290, 1, none⟩ = some (.slice Ao88 t286.length co88) := (blk_cell BK290.out 1).trans rfl
      have fx290_0 := blk_frozen BK290.out 0
      have fx290_1 := blk_frozen BK290.out 1
      have H := HC75.out
      clear HC75
      by_cases c76 : t289 = 0
      case neg =>
       rw [if_neg c76] at H
       have c76b0 : (t289 == 0) = false := beq_eq_false_iff_ne.mpr c76
       have c76b1 : (t289 != 0) = true := bne_iff_ne.mpr c76
       by_cases c92 : t289 = 18
       case pos =>
        rw [if_pos c92] at H
        have c92b0 : (t289 == 18) = true := beq_iff_eq.mpr c92
        have c92b1 : (t289 != 18) = false := bne_eq_false_iff_eq.mpr c92
        clear c92
        by_cases c93 : (wrap64 ((x8_2.length : Int) - x10_2)) = x250000_2
        case neg =>
         rw [if_neg c93] at H
         have c93b0 : ((wrap64 ((x8_2.length : Int) - x10_2)) == x250000_2) = false := beq_eq_false_iff_ne.mpr c93
         have c93b1 : ((wrap64 ((x8_2.length : Int) - x10_2)) != x250000_2) = true := bne_iff_ne.mpr c93
         exact absurd H (by decide)
        rw [if_pos c93] at H
        have c93b0 : ((wrap64 ((x8_2.length : Int) - x10_2)) == x250000_2) = true := beq_iff_eq.mpr c93
        have c93b1 : ((wrap64 ((x8_2.length : Int) - x10_2)) != x250000_2) = false := bne_eq_false_iff_eq.mpr c93
        clear c93
        have H' := Aside0.mk H
        clear H
        obtain ⟨Ao105, co105, eo105⟩ := Kd.R_slice HO_8.out
        subst eo105
        go_wp2
        go_roundg k2
        case measure => have := HJ4.out; have := HK2.out; omega
        case rel => exact ⟨(x8_2), (wrap64 (x9_2 + 1)), (x10_2), (wrap64 (x11_2 + 1)), (x250000_2), (x250001_2), (.slice Ao82 x250001_2.length co82), (by first | rfl | (simp; done) | (simp [*]; done)), (by first | rfl | (simp; done) | (simp [*]; done)), (by first | rfl | (simp; done) | (simp [*]; done)), H', ⟨by have := HJ4.out; have := HK2.out; omega⟩, ⟨Kd.R_mono HO_8.out (fun _ hk => hk.1.1.1)⟩, ⟨Kd.V_mono HO_250001.out (fun _ hk => hk.1.1.1)⟩, ⟨BK249.out⟩, ⟨HB.out⟩⟩
       rw [if_neg c92] at H
       have c92b0 : (t289 == 18) = false := beq_eq_false_iff_ne.mpr c92
       have c92b1 : (t289 != 18) = true := bne_iff_ne.mpr c92
       by_cases c107 : t289 = 8
       case neg =>
        rw [if_neg c107] at H
        have c107b0 : (t289 == 8) = false := beq_eq_false_iff_ne.mpr c107
        have c107b1 : (t289 != 8) = true := bne_iff_ne.mpr c107
        exact absurd H (by decide)
       rw [if_pos c107] at H
       have c107b0 : (t289 == 8) = true := beq_iff_eq.mpr c107
       have c107b1 : (t289 != 8) = false := bne_eq_false_iff_eq.mpr c107
       clear c107
       replace H := Option.bind_eq_some_iff.mp H
       obtain ⟨t294, A1080, H⟩ := H
       try dsimp only at H
       have A108 := Aside0.mk A1080
       clear A1080
       by_cases c109 : t294 = true
       case pos =>
        subst c109
        have H1 := H
        rw [if_pos rfl] at H1
        clear H
        have H := H1
        clear H1
        exact absurd H (by decide)
       replace c109 := Bool.eq_false_iff.mpr c109
       subst c109
       have H1 := H
       rw [if_neg (show ¬ (false = true) by decide)] at H1
       clear H
       have H := H1
       clear H1
       have H' := Aside0.mk H
       clear H
       go_wp2_with (first | (go_at_call 23; (with_reducible refine (tailwaterref25_Valid.calls k2 ((rd_T35 l1 x9_2).f0) ((rd_T35 l1 x9_2).f1.f0) ((rd_T35 l1 x9_2).f1.f1) ((rd_T35 l1 x9_2).f1.f2) ((rd_T35 l1 x9_2).f2) ((rd_T35 l1 x9_2).f3.f0) ((rd_T35 l1 x9_2).f3.f1.f0) ((rd_T35 l1 x9_2).f3.f1.f1) ((rd_T35 l1 x9_2).f3.f2.f0) ((rd_T35 l1 x9_2).f3.f2.f1) false _ A108.out).mono ?_); rintro e w122 ⟨rfl, hb⟩; have n0_ := Aside0.mk (Kd.R_below HO_8.out hb); have n1_ := Aside0.mk (Kd.V_below HO_250001.out hb); have n2_ := Aside0.mk (blk_below BK249.out hb); have n3_ := Aside0.mk (below_step HB.out hb); clear HO_8 HO_250001 BK249 HB; have HO_8 := n0_; have HO_250001 := n1_; have BK249 := n2_; have HB := n3_; clear n0_ n1_ n2_ n3_; (try clear hb); (try clear hb2); (try clear hk); (try clear hi)))
       go_roundg k2
       case measure => have := HJ4.out; have := HK2.out; omega
       case rel => exact ⟨(x8_2), (wrap64 (x9_2 + 1)), (x10_2), (wrap64 (x11_2 + 1)), (x250000_2), (x250001_2), (.slice Ao82 x250001_2.length co82), (by first | rfl | (simp; done) | (simp [*]; done)), (by first | rfl | (simp; done) | (simp [*]; done)), (by first | rfl | (simp; done) | (simp [*]; done)), H', ⟨by have := HJ4.out; have := HK2.out; omega⟩, ⟨Kd.R_mono HO_8.out (fun _ hk => hk.1.1.1)⟩, ⟨Kd.V_mono HO_250001.out (fun _ hk => hk.1.1.1)⟩, ⟨BK249.out⟩, ⟨HB.out⟩⟩
      rw [if_pos c76] at H
      have c76b0 : (t289 == 0) = true := beq_iff_eq.mpr c76
      have c76b1 : (t289 != 0) = false := bne_eq_false_iff_eq.mpr c76
      clear c76
      by_cases c77 : x8_2.length < 1759218604441
      case neg =>
       rw [if_neg c77] at H
       exact absurd H (by simp)
      rw [if_pos c77] at H
      have LMc77 := Aside0.mk c77
      clear c77
      obtain ⟨y291, hy291⟩ : ∃ y_ : List (S35), y_ = (x8_2 ++ [(⟨(rd_T35 l1 x9_2).f0, (⟨(rd_T35 l1 x9_2).f1.f0, (rd_T35 l1 x9_2).f1.f1, (rd_T35 l1 x9_2).f1.f2⟩ : S28), (rd_T35 l1 x9_2).f2, (⟨(rd_T35 l1 x9_2).f3.f0, (⟨(rd_T35 l1 x9_2).f3.f1.f0, (rd_T35 l1 x9_2).f3.f1.f1⟩ : S30), (⟨(rd_T35 l1 x9_2).f3.f2.f0, (rd_T35 l1 x9_2).f3.f2.f1⟩ : S31)⟩ : S33)⟩ : S35)]) := ⟨_, rfl⟩
      replace H : (tailwaterlaw26_ChannelFirst.l0 k2 l1 l2 t250 y291 (wrap64 (x9_2 + 1)) x10_2 (wrap64 (x11_2 + 1)) t285 t286) = some true := by first | (rw [hy291]; with_reducible exact H) | (have H2_ := (Option.bind_some _ _).symm.trans H; rw [hy291]; with_reducible exact H2_) | (have H2_ := (Option.bind_some _ _).symm.trans H; with_reducible exact H2_) | with_reducible exact H | (rw [hy291]; exact H) | exact H
      have Ny291 := Aside0.mk hy291
      clear hy291
      have H' := Aside0.mk H
      clear H
      go_upto_region 26 with (fail)
      (try simp only [Act.put, List.setIfInBounds_toArray, List.set_cons_zero, List.set_cons_succ])
      refine fill2 BK249.out (fun w86 fb_ fk_ fB_ => ?_)
      have n0_ := Aside0.mk (Kd.R_keep (Kd.R_types HO_8.out BK249.out (by decide)) fk_ (fun _ hk => hk.2))
      have n1_ := Aside0.mk (Kd.R_keep (Kd.R_types HO288.out BK249.out (by decide)) fk_ (fun _ hk => hk.2))
      have n2_ := Aside0.mk (fk_.blk BK284.out (Ne.symm NB249_284.out) (by simp))
      have n3_ := Aside0.mk (fb_)
      have n4_ := Aside0.mk (fB_ w HB.out GE249.out)
      clear HO_8 HO288 BK284 BK249 HB
      have HO_8 := n0_
      have HO288 := n1_
      have BK284 := n2_
      have BK249 := n3_
      have HB := n4_
      clear n0_ n1_ n2_ n3_ n4_
      clear fb_ fk_ fB_
      have v284_0 : w86.cell? ⟨gb284, 0, none⟩ = some (.int .u8 ((rd_T35 l1 x9_2).f0)) := (blk_cell BK284.out 0).trans rfl
      have v284_1 : w86.cell? ⟨gb284, 1, none⟩ = some (.int .i64 ((rd_T35 l1 x9_2).f1.f0)) := (blk_cell BK284.out 1).trans rfl
      have v284_2 : w86.cell? ⟨gb284, 2, none⟩ = some (.int .i64 ((rd_T35 l1 x9_2).f1.f1)) := (blk_cell BK284.out 2).trans rfl
      have v284_3 : w86.cell? ⟨gb284, 3, none⟩ = some (.int .i64 ((rd_T35 l1 x9_2).f1.f2)) := (blk_cell BK284.out 3).trans rfl
      have v284_4 : w86.cell? ⟨gb284, 4, none⟩ = some (.int .i64 ((rd_T35 l1 x9_2).f2)) := (blk_cell BK284.out 4).trans rfl
      have v284_5 : w86.cell? ⟨gb284, 5, none⟩ = some (.int .i64 ((rd_T35 l1 x9_2).f3.f0)) := (blk_cell BK284.out 5).trans rfl
      have v284_6 : w86.cell? ⟨gb284, 6, none⟩ = some (.int .i64 ((rd_T35 l1 x9_2).f3.f1.f0)) := (blk_cell BK284.out 6).trans rfl
      have v284_7 : w86.cell? ⟨gb284, 7, none⟩ = some (.int .i64 ((rd_T35 l1 x9_2).f3.f1.f1)) := (blk_cell BK284.out 7).trans rfl
      have v284_8 : w86.cell? ⟨gb284, 8, none⟩ = some (.int .i64 ((rd_T35 l1 x9_2).f3.f2.f0)) := (blk_cell BK284.out 8).trans rfl
      have v284_9 : w86.cell? ⟨gb284, 9, none⟩ = some (.int .i64 ((rd_T35 l1 x9_2).f3.f2.f1)) := (blk_cell BK284.out 9).trans rfl
      have fv284_0 := blk_frozen BK284.out 0
      have fv284_1 := blk_frozen BK284.out 1
      have fv284_2 := blk_frozen BK284.out 2
      have fv284_3 := blk_frozen BK284.out 3
      have fv284_4 := blk_frozen BK284.out 4
      have fv284_5 := blk_frozen BK284.out 5
      have fv284_6 := blk_frozen BK284.out 6
      have fv284_7 := blk_frozen BK284.out 7
      have fv284_8 := blk_frozen BK284.out 8
      have fv284_9 := blk_frozen BK284.out 9
      go_wp2_with (first | ((with_reducible refine gate_builtin (b := .append) (xs := #[.tmp 130, .tmp 132]) rfl ?_); (try (refine gate_guard (by rfl) ?_; dsimp only)); at_builtin; refine Kd.R_append k35 (w0 := w) w.heap.size rfl (.tmp 130) (.tmp 132) 22 35 (.agg #[(.int .u8 0), (.int .i64 0), (.int .i64 0), (.int .i64 0), (.int .i64 0), (.int .i64 0), (.int .i64 0), (.int .i64 0), (.int .i64 0), (.int .i64 0)]) 80 rfl Try.underlying22 info35 rfl (by decide) (by omega) u8 x8_2 (⟨(rd_T35 l1 x9_2).f0, (⟨(rd_T35 l1 x9_2).f1.f0, (rd_T35 l1 x9_2).f1.f1, (rd_T35 l1 x9_2).f1.f2⟩ : S28), (rd_T35 l1 x9_2).f2, (⟨(rd_T35 l1 x9_2).f3.f0, (⟨(rd_T35 l1 x9_2).f3.f1.f0, (rd_T35 l1 x9_2).f3.f1.f1⟩ : S30), (⟨(rd_T35 l1 x9_2).f3.f2.f0, (rd_T35 l1 x9_2).f3.f2.f1⟩ : S31)⟩ : S33)⟩ : S35) [.int .u8 ((rd_T35 l1 x9_2).f0), .int .i64 ((rd_T35 l1 x9_2).f1.f0), .int .i64 ((rd_T35 l1 x9_2).f1.f1), .int .i64 ((rd_T35 l1 x9_2).f1.f2), .int .i64 ((rd_T35 l1 x9_2).f2), .int .i64 ((rd_T35 l1 x9_2).f3.f0), .int .i64 ((rd_T35 l1 x9_2).f3.f1.f0), .int .i64 ((rd_T35 l1 x9_2).f3.f1.f1), .int .i64 ((rd_T35 l1 x9_2).f3.f2.f0), .int .i64 ((rd_T35 l1 x9_2).f3.f2.f1)] (fun k_ => w.heap.size ≤ k_) (fun _ => False) rfl (by first | (go_simp; done) | (go_simp; rfl)) ?aP (fun _ hk => hk.elim) ?aF ?aO ?aB ?aS ?aL ?_; (case aP => exact k35_mkM _ _ _ (⟨(rd_T35 l1 x9_2).f0, (⟨(rd_T35 l1 x9_2).f1.f0, (rd_T35 l1 x9_2).f1.f1, (rd_T35 l1 x9_2).f1.f2⟩ : S28), (rd_T35 l1 x9_2).f2, (⟨(rd_T35 l1 x9_2).f3.f0, (⟨(rd_T35 l1 x9_2).f3.f1.f0, (rd_T35 l1 x9_2).f3.f1.f1⟩ : S30), (⟨(rd_T35 l1 x9_2).f3.f2.f0, (rd_T35 l1 x9_2).f3.f2.f1⟩ : S31)⟩ : S33)⟩ : S35)); (case aB => exact (by repeat (first | (with_reducible first | exact HB.out | apply below_alloc | apply pw_below_drewN | apply below_drew1) | exact HB.out))); (case aF => exact (fun k_ hk => Nat.le_trans (below_size (by repeat (first | (with_reducible first | exact HB.out | apply below_alloc | apply pw_below_drewN | apply below_drew1) | exact HB.out))) hk)); (case aO => exact (by (with_reducible repeat (first | apply Kd.R_alloc | apply Kd.R_drewN | apply Kd.R_drew)); exact Kd.R_mono HO_8.out (fun _ hk => hk.1.1.1.1))); (case aS => exact (below_size (by repeat (first | (with_reducible first | exact HB.out | apply below_alloc | apply pw_below_drewN | apply below_drew1) | exact HB.out)))); (case aL => have := LMc77.out; omega); intro v292 w91 ho hb hg hat; rw [← Ny291.out] at ho; have n0_ := Aside0.mk (blk_grown BK249.out hg (Kd.R_ne HO_8.out BK249.out (by decide))); have n1_ := Aside0.mk (Kd.R_after (ok := fun k_ => w.heap.size ≤ k_ ∧ k_ ≠ gb249) (by (with_reducible repeat (first | apply Kd.R_alloc | apply Kd.R_drewN | apply Kd.R_drew)); exact Kd.R_mono HO288.out (fun _ hk => ⟨⟨hk.1.1.1.1.1.1, hk.2⟩, hk.1.1.1.1.2⟩)) hg hat); have n2_ := Aside0.mk (hb); have n3_ := Aside0.mk (ho); clear BK249 HO288 HB; have BK249 := n0_; have HO288 := n1_; have HB := n2_; have HO293 := n3_; clear n0_ n1_ n2_ n3_; clear ho hb hg hat HO_8))
      go_roundg k2
      case measure => have := HJ4.out; have := HK2.out; omega
      case rel => exact ⟨(y291), (wrap64 (x9_2 + 1)), (x10_2), (wrap64 (x11_2 + 1)), (t285), (t286), (.slice Ao88 t286.length co88), (by first | rfl | (simp; done) | (simp [*]; done)), (by first | rfl | (simp; done) | (simp [*]; done)), (by first | rfl | (simp; done) | (simp [*]; done)), H', ⟨by have := HJ4.out; have := HK2.out; omega⟩, ⟨Kd.R_mono HO293.out (fun _ hk => hk)⟩, ⟨Kd.V_mono (Kd.R_V HO288.out) (fun k_ hk => ⟨.inr hk.1.1, ⟨hk.2, hk.1.2⟩⟩)⟩, ⟨BK249.out⟩, ⟨HB.out⟩⟩
     subst c29
     have H1 := H
     rw [if_pos rfl] at H1
     clear H
     have H := H1
     clear H1
     replace H := Option.bind_eq_some_iff.mp H
     obtain ⟨⟨t265, t266, t267, t268, t269, t270, t271, t272, t273, t274, t275, t276, t279⟩, A300, H⟩ := H
     try dsimp only at H
     have A30 := Aside0.mk A300
     clear A300
     by_cases c31 : t279 = 6
     case pos =>
      rw [if_pos c31] at H
      have c31b0 : (t279 == 6) = true := beq_iff_eq.mpr c31
      have c31b1 : (t279 != 6) = false := bne_eq_false_iff_eq.mpr c31
      clear c31
      have HC32 := Aside0.mk H
      clear H
      have p264 : 0 ≤ (x11_2 : Int) := of_decide_eq_true (by first | (with_reducible assumption) | assumption)
      have q264 : x11_2 < (l2.length : Int) := of_decide_eq_true (by first | (with_reducible assumption) | assumption)
      obtain ⟨ad264, e264, hx264_0⟩ := Kd.at_bool HR2.out x11_2 p264 q264
      (try rw [← Nbq28.out] at hx264_0)
      cases e264
      replace hx264_0 := (HB.out.cell (World.block_lt_of_cell? w _ hx264_0)).trans hx264_0
      replace p264 := eq_true p264
      replace q264 := eq_true q264
      have hcz33_0 : wr.cell? ⟨gb249, 0, none⟩ = some (.int .i64 x250000_2) := (blk_cell BK249.out 0).trans rfl
      have hcz33_1 : wr.cell? ⟨gb249, 1, none⟩ = some (u250001) := (blk_cell BK249.out 1).trans rfl
      have hfz33_0 := blk_frozen BK249.out 0
      have hfz33_1 := blk_frozen BK249.out 1
      obtain ⟨Ao34, co34, eo34⟩ := Kd.V_slice HO_250001.out
      subst eo34
      go_upto_region 12 with (first | ((with_reducible refine gate_callee (f := 11) rfl ?_); refine goesL_ (some 53) rfl rfl Try.func11 (by kernel_rfl) rfl #[.agg #[.int .i64 x250000_2, .slice Ao34 x250001_2.length co34]] rfl (by (try simp only [List.map_toArray, List.map_cons, List.map_nil]); first | done | rfl | (simp only [List.length_drop, List.length_take]; rfl)) ?_; (with_reducible refine (channel_Take.calls k2 x250000_2 _ _ x250001_2 t265 t266 t267 t268 t269 t270 t271 t272 t273 t274 t275 t276 t279 _ ?side1 ?side2 A30.out).mono ?_); (case side1 => repeat (first | exact (Kd.V_reads' HO_250001.out).2.2 | (with_reducible refine Kd.C_alloc ?_ _) | (with_reducible refine Kd.C_drewN ?_ _) | (with_reducible refine Kd.C_drew ?_))); (case side2 => exact (Kd.V_reads' HO_250001.out).2.1); rintro e w35 ⟨v277, rfl, ho0, hb⟩; refine ⟨_, rfl, ?_⟩; have n0_ := Aside0.mk (Kd.R_elder' HO_8.out (Kd.Q_base ho0) hb); have n1_ := Aside0.mk (Kd.V_elder' (by (with_reducible repeat (first | apply Kd.V_alloc | apply Kd.V_drewN | apply Kd.V_drew)); exact HO_250001.out) (Kd.Q_base ho0) hb); have n2_ := Aside0.mk (Kd.Q_lower (Kd.Q_new' (Kd.Q_newM (M := fun k_ => (w.heap.size ≤ k_)) ho0 (below_size (by repeat (first | (with_reducible first | exact HB.out | apply below_alloc | apply pw_below_drewN | apply below_drew1 | refine below_set ?_ GE249.out) | exact HB.out))) (fun k_ h_ => h_)) (Kd.R_lt HO_8.out)) (below_size (by repeat (first | (with_reducible first | exact HB.out | apply below_alloc | apply pw_below_drewN | apply below_drew1 | refine below_set ?_ GE249.out) | exact HB.out)))); have n3_ := Aside0.mk (blk_below (g := gb249) (o := .cells #[.int .i64 x250000_2, .slice Ao34 x250001_2.length co34] 24 (0, 0)) BK249.out hb); have n4_ := Aside0.mk (below_step (by repeat (first | (with_reducible first | exact HB.out | apply below_alloc | apply pw_below_drewN | apply below_drew1 | refine below_set ?_ GE249.out) | exact HB.out)) hb); clear HO_8; clear HO_250001; clear BK249; clear HB; have HO_8 := n0_; have HO_250001 := n1_; have HO278 := n2_; have BK249 := n3_; have HB := n4_; clear n0_ n1_ n2_ n3_ n4_; (try clear hb); (try clear hb2); (try clear hk); (try clear hi); (try clear ho0)) | ((with_reducible refine gate_dst (N := 12) rfl ?_); (try (refine gate_guard (by rfl) ?_; dsimp only)); refine box_event ?hg (N := 12) ?hd (cs := #[.int .u8 0, .int .i64 0, .int .i64 0, .int .i64 0, .int .i64 0, .int .i64 0, .int .i64 0, .int .i64 0, .int .i64 0, .int .i64 0]) (t := 35) ?hr ?_; (case hd => rfl); (case hg => rfl); (case hr => first | (go_simp; done) | (go_simp; rfl)); intro gb280 hg w36 hbox hb; have n0_ := Aside0.mk (Kd.R_below (Kd.R_elderB HO_8.out gb280 (Nat.le_of_eq hg.symm)) hb); have n1_ := Aside0.mk (Kd.V_below (Kd.V_elderB (by (with_reducible repeat (first | apply Kd.V_alloc | apply Kd.V_drewN | apply Kd.V_drew)); exact HO_250001.out) gb280 (Nat.le_of_eq hg.symm)) hb); have n2_ := Aside0.mk (Kd.Q_below (Kd.Q_elderB (by (with_reducible repeat (first | apply Kd.Q_alloc | apply Kd.Q_drewN | apply Kd.Q_drew)); exact HO278.out) gb280 (Nat.le_of_eq hg.symm)) hb); have n3_ := Aside0.mk (blk_below (g := gb249) (o := .cells #[.int .i64 x250000_2, .slice Ao34 x250001_2.length co34] 24 (0, 0)) BK249.out hb); have n4_ := Aside0.mk (below_step (by repeat (first | (with_reducible first | exact HB.out | apply below_alloc | apply pw_below_drewN | apply below_drew1 | refine below_set ?_ GE249.out) | exact HB.out)) hb); have n5_ := Aside0.mk (hbox); have n6_ := Aside0.mk ((by rw [hg]; exact (below_size (by repeat (first | (with_reducible first | exact HB.out | apply below_alloc | apply pw_below_drewN | apply below_drew1 | refine below_set ?_ GE249.out) | exact HB.out))) : w.heap.size ≤ gb280)); have n7_ := Aside0.mk ((by rw [hg]; exact (below_size (by repeat (first | (with_reducible first | exact HB.out | apply below_alloc | apply pw_below_drewN | apply below_drew1 | refine below_set ?_ GE249.out) | exact HB.out))) : w.heap.size ≤ gb280)); have n8_ := Aside0.mk ((by rw [hg]; exact Nat.ne_of_lt (blk_lt (g := gb249) (o := .cells #[.int .i64 x250000_2, .slice Ao34 x250001_2.length co34] 24 (0, 0)) BK249.out) : gb249 ≠ gb280)); have n9_ := Aside0.mk ((by rw [hg]; exact Nat.ne_of_gt (blk_lt (g := gb249) (o := .cells #[.int .i64 x250000_2, .slice Ao34 x250001_2.length co34] 24 (0, 0)) BK249.out) : gb280 ≠ gb249)); clear HO_8; clear HO_250001; clear HO278; clear BK249; clear HB; have HO_8 := n0_; have HO_250001 := n1_; have HO278 := n2_; have BK249 := n3_; have HB := n4_; have BK280 := n5_; have GW280 := n6_; have GE280 := n7_; have NB249_280 := n8_; have NB280_249 := n9_; clear n0_ n1_ n2_ n3_ n4_ n5_ n6_ n7_ n8_ n9_; clear hb hbox hg) | ((with_reducible refine gate_dst (N := 13) rfl ?_); (try (refine gate_guard (by rfl) ?_; dsimp only)); refine box_event ?hg (N := 13) ?hd (cs := #[.int .i64 0, .slice none 0 0]) (t := 24) ?hr ?_; (case hd => rfl); (case hg => rfl); (case hr => first | (go_simp; done) | (go_simp; rfl)); intro gb281 hg w37 hbox hb; have n0_ := Aside0.mk (Kd.R_below HO_8.out hb); have n1_ := Aside0.mk (Kd.V_below (Kd.V_elderB (by (with_reducible repeat (first | apply Kd.V_alloc | apply Kd.V_drewN | apply Kd.V_drew)); exact HO_250001.out) gb281 (Nat.le_of_eq hg.symm)) hb); have n2_ := Aside0.mk (Kd.Q_below (by (with_reducible repeat (first | apply Kd.Q_alloc | apply Kd.Q_drewN | apply Kd.Q_drew)); exact HO278.out) hb); have n3_ := Aside0.mk (blk_below (g := gb249) (o := .cells #[.int .i64 x250000_2, .slice Ao34 x250001_2.length co34] 24 (0, 0)) BK249.out hb); have n4_ := Aside0.mk (blk_below (g := gb280) (o := .cells #[.int .u8 0, .int .i64 0, .int .i64 0, .int .i64 0, .int .i64 0, .int .i64 0, .int .i64 0, .int .i64 0, .int .i64 0, .int .i64 0] 35 (0, 0)) BK280.out hb); have n5_ := Aside0.mk (below_step (by repeat (first | (with_reducible first | exact HB.out | apply below_alloc | apply pw_below_drewN | apply below_drew1 | refine below_set ?_ GE249.out | refine below_set ?_ GE280.out) | exact HB.out)) hb); have n6_ := Aside0.mk (hbox); have n7_ := Aside0.mk ((by rw [hg]; exact (below_size (by repeat (first | (with_reducible first | exact HB.out | apply below_alloc | apply pw_below_drewN | apply below_drew1 | refine below_set ?_ GE249.out | refine below_set ?_ GE280.out) | exact HB.out))) : w.heap.size ≤ gb281)); have n8_ := Aside0.mk ((by rw [hg]; exact (below_size (by repeat (first | (with_reducible first | exact HB.out | apply below_alloc | apply pw_below_drewN | apply below_drew1 | refine below_set ?_ GE249.out | refine below_set ?_ GE280.out) | exact HB.out))) : w.heap.size ≤ gb281)); have n9_ := Aside0.mk ((by rw [hg]; exact Nat.ne_of_lt (blk_lt (g := gb249) (o := .cells #[.int .i64 x250000_2, .slice Ao34 x250001_2.length co34] 24 (0, 0)) BK249.out) : gb249 ≠ gb281)); have n10_ := Aside0.mk ((by rw [hg]; exact Nat.ne_of_gt (blk_lt (g := gb249) (o := .cells #[.int .i64 x250000_2, .slice Ao34 x250001_2.length co34] 24 (0, 0)) BK249.out) : gb281 ≠ gb249)); have n11_ := Aside0.mk ((by rw [hg]; exact Nat.ne_of_lt (blk_lt (g := gb280) (o := .cells #[.int .u8 0, .int .i64 0, .int .i64 0, .int .i64 0, .int .i64 0, .int .i64 0, .int .i64 0, .int .i64 0, .int .i64 0, .int .i64 0] 35 (0, 0)) BK280.out) : gb280 ≠ gb281)); have n12_ := Aside0.mk ((by rw [hg]; exact Nat.ne_of_gt (blk_lt (g := gb280) (o := .cells #[.int .u8 0, .int .i64 0, .int .i64 0, .int .i64 0, .int .i64 0, .int .i64 0, .int .i64 0, .int .i64 0, .int .i64 0, .int .i64 0] 35 (0, 0)) BK280.out) : gb281 ≠ gb280)); clear HO_8; clear HO_250001; clear HO278; clear BK249; clear BK280; clear HB; have HO_8 := n0_; have HO_250001 := n1_; have HO278 := n2_; have BK249 := n3_; have BK280 := n4_; have HB := n5_; have BK281 := n6_; have GW281 := n7_; have GE281 := n8_; have NB249_281 := n9_; have NB281_249 := n10_; have NB280_281 := n11_; have NB281_280 := n12_; clear n0_ n1_ n2_ n3_ n4_ n5_ n6_ n7_ n8_ n9_ n10_ n11_ n12_; clear hb hbox hg; have hnb38 := NB280_249.out; have hnc38 := NB249_280.out; have hnb39 := NB280_281.out; have hnc39 := NB281_280.out; have hcz40_0 : w37.cell? ⟨gb280, 0, none⟩ = some (.int .u8 0) := (blk_cell BK280.out 0).trans rfl; have hcz40_1 : w37.cell? ⟨gb280, 1, none⟩ = some (.int .i64 0) := (blk_cell BK280.out 1).trans rfl; have hcz40_2 : w37.cell? ⟨gb280, 2, none⟩ = some (.int .i64 0) := (blk_cell BK280.out 2).trans rfl; have hcz40_3 : w37.cell? ⟨gb280, 3, none⟩ = some (.int .i64 0) := (blk_cell BK280.out 3).trans rfl; have hcz40_4 : w37.cell? ⟨gb280, 4, none⟩ = some (.int .i64 0) := (blk_cell BK280.out 4).trans rfl; have hcz40_5 : w37.cell? ⟨gb280, 5, none⟩ = some (.int .i64 0) := (blk_cell BK280.out 5).trans rfl; have hcz40_6 : w37.cell? ⟨gb280, 6, none⟩ = some (.int .i64 0) := (blk_cell BK280.out 6).trans rfl; have hcz40_7 : w37.cell? ⟨gb280, 7, none⟩ = some (.int .i64 0) := (blk_cell BK280.out 7).trans rfl; have hcz40_8 : w37.cell? ⟨gb280, 8, none⟩ = some (.int .i64 0) := (blk_cell BK280.out 8).trans rfl; have hcz40_9 : w37.cell? ⟨gb280, 9, none⟩ = some (.int .i64 0) := (blk_cell BK280.out 9).trans rfl; have hfz40_0 := blk_frozen BK280.out 0; have hfz40_1 := blk_frozen BK280.out 1; have hfz40_2 := blk_frozen BK280.out 2; have hfz40_3 := blk_frozen BK280.out 3; have hfz40_4 := blk_frozen BK280.out 4; have hfz40_5 := blk_frozen BK280.out 5; have hfz40_6 := blk_frozen BK280.out 6; have hfz40_7 := blk_frozen BK280.out 7; have hfz40_8 := blk_frozen BK280.out 8; have hfz40_9 := blk_frozen BK280.out 9; have hnb41 := NB281_249.out; have hnc41 := NB249_281.out; have hcz42_0 : w37.cell? ⟨gb281, 0, none⟩ = some (.int .i64 0) := (blk_cell BK281.out 0).trans rfl; have hcz42_1 : w37.cell? ⟨gb281, 1, none⟩ = some (.slice none 0 0) := (blk_cell BK281.out 1).trans rfl; have hfz42_0 := blk_frozen BK281.out 0; have hfz42_1 := blk_frozen BK281.out 1; obtain ⟨Ao43, co43, eo43, _⟩ := Kd.Q_slice HO278.out; subst eo43))
      (try simp only [Act.put, List.setIfInBounds_toArray, List.set_cons_zero, List.set_cons_succ])
      go_cut [68] (fun v68 wc => ∃ (kq : Nat) (x68_31 : Bool), v68 = .bool x68_31 ∧ Aside0 (tailwaterlaw26_ChannelFirst.j2 kq l1 l2 t250 x8_2 x9_2 x10_2 x11_2 x68_31 x250000_2 x250001_2 = some true) ∧ Aside0 (kq ≤ k2) ∧ Aside0 (Kd.R k35 35 wc w.heap.size (fun k_ => (w.heap.size ≤ k_) ∧ some k_ ≠ ((.slice Ao43 t276.length co43) : Value).ownBlock ∧ k_ ≠ gb280) u8 x8_2) ∧ Aside0 (Kd.V k35 35 wc w.heap.size (fun k_ => (P0_1_ k_ ∨ w.heap.size ≤ k_) ∧ some k_ ≠ (u8 : Value).ownBlock ∧ some k_ ≠ ((.slice Ao43 t276.length co43) : Value).ownBlock ∧ k_ ≠ gb249 ∧ k_ ≠ gb280 ∧ k_ ≠ gb281) (.slice Ao34 x250001_2.length co34) x250001_2) ∧ Aside0 (Kd.Q k35 35 wc w.heap.size (fun k_ => (w.heap.size ≤ k_) ∧ some k_ ≠ (u8 : Value).ownBlock ∧ k_ ≠ gb280) (.slice Ao43 t276.length co43) t276) ∧ Aside0 (wc.heap[gb249]? = some (.cells #[.int .i64 x250000_2, (.slice Ao34 x250001_2.length co34)] 24 (0, 0))) ∧ Aside0 (wc.heap[gb280]? = some (.cells #[.int .u8 t265, .int .i64 t266, .int .i64 t267, .int .i64 t268, .int .i64 t269, .int .i64 t270, .int .i64 t271, .int .i64 t272, .int .i64 t273, .int .i64 t274] 35 (0, 0))) ∧ Aside0 (wc.heap[gb281]? = some (.cells #[.int .i64 t275, (.slice Ao43 t276.length co43)] 24 (0, 0))) ∧ Aside0 (Below w.heap.size w wc))
      case first =>
       have H := HC32.out
       clear HC32
       by_cases c44 : x10_2 = (x8_2.length : Int)
       case neg =>
        rw [if_neg c44] at H
        have c44b0 : (x10_2 == (x8_2.length : Int)) = false := beq_eq_false_iff_ne.mpr c44
        have c44b1 : (x10_2 != (x8_2.length : Int)) = true := bne_iff_ne.mpr c44
        (first | rw [c44b0] | (simp only [i64_w, i32_w]; rw [c44b0]) | skip)
        have H' := Aside0.mk H
        clear H
        obtain ⟨Ao49, co49, eo49⟩ := Kd.R_slice HO_8.out
        subst eo49
        go_wp2
        go_meet
        case rel => exact ⟨_, (true), (by first | rfl | (simp; done) | (simp [*]; done)), H', ⟨by have := HJ4.out; have := HK2.out; first | omega | exact Nat.le_refl _⟩, ⟨by (with_reducible repeat (first | apply Kd.R_alloc | apply Kd.R_drewN | apply Kd.R_drew)); exact Kd.R_mono (Kd.R_far (p := ⟨gb281, 1, none⟩) (Kd.R_far (p := ⟨gb281, 0, none⟩) (Kd.R_far (p := ⟨gb280, 9, none⟩) (Kd.R_far (p := ⟨gb280, 8, none⟩) (Kd.R_far (p := ⟨gb280, 7, none⟩) (Kd.R_far (p := ⟨gb280, 6, none⟩) (Kd.R_far (p := ⟨gb280, 5, none⟩) (Kd.R_far (p := ⟨gb280, 4, none⟩) (Kd.R_far (p := ⟨gb280, 3, none⟩) (Kd.R_far (p := ⟨gb280, 2, none⟩) (Kd.R_far (p := ⟨gb280, 1, none⟩) (Kd.R_far (p := ⟨gb280, 0, none⟩) (Kd.R_types (Kd.R_mono HO_8.out (fun k_ hk => (⟨hk, hk.2⟩ : _ ∧ k_ ≠ gb280))) BK281.out (by decide)) (fun _ hk => hk.1.2) (.int .u8 t265)) (fun _ hk => hk.1.2) (.int .i64 t266)) (fun _ hk => hk.1.2) (.int .i64 t267)) (fun _ hk => hk.1.2) (.int .i64 t268)) (fun _ hk => hk.1.2) (.int .i64 t269)) (fun _ hk => hk.1.2) (.int .i64 t270)) (fun _ hk => hk.1.2) (.int .i64 t271)) (fun _ hk => hk.1.2) (.int .i64 t272)) (fun _ hk => hk.1.2) (.int .i64 t273)) (fun _ hk => hk.1.2) (.int .i64 t274)) (fun _ hk => hk.2) (.int .i64 t275)) (fun _ hk => hk.2) (.slice Ao43 t276.length co43)) (fun _ hk => ⟨hk.1.1.1.1, ⟨hk.1.1.1.2, hk.1.1.2⟩⟩)⟩, ⟨by (with_reducible repeat (first | apply Kd.V_alloc | apply Kd.V_drewN | apply Kd.V_drew)); exact Kd.V_mono (Kd.V_far (p := ⟨gb281, 1, none⟩) (Kd.V_far (p := ⟨gb281, 0, none⟩) (Kd.V_far (p := ⟨gb280, 9, none⟩) (Kd.V_far (p := ⟨gb280, 8, none⟩) (Kd.V_far (p := ⟨gb280, 7, none⟩) (Kd.V_far (p := ⟨gb280, 6, none⟩) (Kd.V_far (p := ⟨gb280, 5, none⟩) (Kd.V_far (p := ⟨gb280, 4, none⟩) (Kd.V_far (p := ⟨gb280, 3, none⟩) (Kd.V_far (p := ⟨gb280, 2, none⟩) (Kd.V_far (p := ⟨gb280, 1, none⟩) (Kd.V_far (p := ⟨gb280, 0, none⟩) (Kd.V_mono (Kd.V_mono HO_250001.out (fun k_ hk => (⟨hk, hk.1.2⟩ : _ ∧ k_ ≠ gb280))) (fun k_ hk => (⟨hk, hk.1.2⟩ : _ ∧ k_ ≠ gb281))) (fun _ hk => hk.1.2) (.int .u8 t265)) (fun _ hk => hk.1.2) (.int .i64 t266)) (fun _ hk => hk.1.2) (.int .i64 t267)) (fun _ hk => hk.1.2) (.int .i64 t268)) (fun _ hk => hk.1.2) (.int .i64 t269)) (fun _ hk => hk.1.2) (.int .i64 t270)) (fun _ hk => hk.1.2) (.int .i64 t271)) (fun _ hk => hk.1.2) (.int .i64 t272)) (fun _ hk => hk.1.2) (.int .i64 t273)) (fun _ hk => hk.1.2) (.int .i64 t274)) (fun _ hk => hk.2) (.int .i64 t275)) (fun _ hk => hk.2) (.slice Ao43 t276.length co43)) (fun _ hk => ⟨hk.1.1.1.1.1.1, ⟨hk.1.1.1.1.1.2.1, ⟨hk.1.1.1.1.2, ⟨hk.1.1.1.1.1.2.2, ⟨hk.1.1.1.2, hk.1.1.2⟩⟩⟩⟩⟩)⟩, ⟨by (with_reducible repeat (first | apply Kd.Q_alloc | apply Kd.Q_drewN | apply Kd.Q_drew)); exact Kd.Q_mono (Kd.Q_far (p := ⟨gb281, 1, none⟩) (Kd.Q_far (p := ⟨gb281, 0, none⟩) (Kd.Q_far (p := ⟨gb280, 9, none⟩) (Kd.Q_far (p := ⟨gb280, 8, none⟩) (Kd.Q_far (p := ⟨gb280, 7, none⟩) (Kd.Q_far (p := ⟨gb280, 6, none⟩) (Kd.Q_far (p := ⟨gb280, 5, none⟩) (Kd.Q_far (p := ⟨gb280, 4, none⟩) (Kd.Q_far (p := ⟨gb280, 3, none⟩) (Kd.Q_far (p := ⟨gb280, 2, none⟩) (Kd.Q_far (p := ⟨gb280, 1, none⟩) (Kd.Q_far (p := ⟨gb280, 0, none⟩) (Kd.Q_types (Kd.Q_mono HO278.out (fun k_ hk => (⟨hk, hk.2⟩ : _ ∧ k_ ≠ gb280))) BK281.out (by decide)) (fun _ hk => hk.1.2) (.int .u8 t265)) (fun _ hk => hk.1.2) (.int .i64 t266)) (fun _ hk => hk.1.2) (.int .i64 t267)) (fun _ hk => hk.1.2) (.int .i64 t268)) (fun _ hk => hk.1.2) (.int .i64 t269)) (fun _ hk => hk.1.2) (.int .i64 t270)) (fun _ hk => hk.1.2) (.int .i64 t271)) (fun _ hk => hk.1.2) (.int .i64 t272)) (fun _ hk => hk.1.2) (.int .i64 t273)) (fun _ hk => hk.1.2) (.int .i64 t274)) (fun _ hk => hk.2) (.int .i64 t275)) (fun _ hk => hk.2) (.slice Ao43 t276.length co43)) (fun _ hk => ⟨hk.1.1.1.1.1, ⟨hk.1.1.1.2, hk.1.1.2⟩⟩)⟩, ⟨by (with_reducible repeat (first | refine blk_drewN ?_ _ | refine blk_drew ?_ | refine blk_alloc ?_ _)); refine blk_far ?_ NB249_281.out _; (with_reducible repeat (first | refine blk_drewN ?_ _ | refine blk_drew ?_ | refine blk_alloc ?_ _)); refine blk_far ?_ NB249_281.out _; (with_reducible repeat (first | refine blk_drewN ?_ _ | refine blk_drew ?_ | refine blk_alloc ?_ _)); refine blk_far ?_ NB249_280.out _; (with_reducible repeat (first | refine blk_drewN ?_ _ | refine blk_drew ?_ | refine blk_alloc ?_ _)); refine blk_far ?_ NB249_280.out _; (with_reducible repeat (first | refine blk_drewN ?_ _ | refine blk_drew ?_ | refine blk_alloc ?_ _)); refine blk_far ?_ NB249_280.out _; (with_reducible repeat (first | refine blk_drewN ?_ _ | refine blk_drew ?_ | refine blk_alloc ?_ _)); refine blk_far ?_ NB249_280.out _; (with_reducible repeat (first | refine blk_drewN ?_ _ | refine blk_drew ?_ | refine blk_alloc ?_ _)); refine blk_far ?_ NB249_280.out _; (with_reducible repeat (first | refine blk_drewN ?_ _ | refine blk_drew ?_ | refine blk_alloc ?_ _)); refine blk_far ?_ NB249_280.out _; (with_reducible repeat (first | refine blk_drewN ?_ _ | refine blk_drew ?_ | refine blk_alloc ?_ _)); refine blk_far ?_ NB249_280.out _; (with_reducible repeat (first | refine blk_drewN ?_ _ | refine blk_drew ?_ | refine blk_alloc ?_ _)); refine blk_far ?_ NB249_280.out _; (with_reducible repeat (first | refine blk_drewN ?_ _ | refine blk_drew ?_ | refine blk_alloc ?_ _)); refine blk_far ?_ NB249_280.out _; (with_reducible repeat (first | refine blk_drewN ?_ _ | refine blk_drew ?_ | refine blk_alloc ?_ _)); refine blk_far ?_ NB249_280.out _; (with_reducible repeat (first | refine blk_drewN ?_ _ | refine blk_drew ?_ | refine blk_alloc ?_ _)); exact BK249.out⟩, ⟨by (with_reducible repeat (first | refine blk_drewN ?_ _ | refine blk_drew ?_ | refine blk_alloc ?_ _)); refine blk_far ?_ NB280_281.out _; (with_reducible repeat (first | refine blk_drewN ?_ _ | refine blk_drew ?_ | refine blk_alloc ?_ _)); refine blk_far ?_ NB280_281.out _; (with_reducible repeat (first | refine blk_drewN ?_ _ | refine blk_drew ?_ | refine blk_alloc ?_ _)); refine blk_put (cs := #[.int .u8 t265, .int .i64 t266, .int .i64 t267, .int .i64 t268, .int .i64 t269, .int .i64 t270, .int .i64 t271, .int .i64 t272, .int .i64 t273, .int .i64 0]) ?_ 9 _ rfl; (with_reducible repeat (first | refine blk_drewN ?_ _ | refine blk_drew ?_ | refine blk_alloc ?_ _)); refine blk_put (cs := #[.int .u8 t265, .int .i64 t266, .int .i64 t267, .int .i64 t268, .int .i64 t269, .int .i64 t270, .int .i64 t271, .int .i64 t272, .int .i64 0, .int .i64 0]) ?_ 8 _ rfl; (with_reducible repeat (first | refine blk_drewN ?_ _ | refine blk_drew ?_ | refine blk_alloc ?_ _)); refine blk_put (cs := #[.int .u8 t265, .int .i64 t266, .int .i64 t267, .int .i64 t268, .int .i64 t269, .int .i64 t270, .int .i64 t271, .int .i64 0, .int .i64 0, .int .i64 0]) ?_ 7 _ rfl; (with_reducible repeat (first | refine blk_drewN ?_ _ | refine blk_drew ?_ | refine blk_alloc ?_ _)); refine blk_put (cs := #[.int .u8 t265, .int .i64 t266, .int .i64 t267, .int .i64 t268, .int .i64 t269, .int .i64 t270, .int .i64 0, .int .i64 0, .int .i64 0, .int .i64 0]) ?_ 6 _ rfl; (with_reducible repeat (first | refine blk_drewN ?_ _ | refine blk_drew ?_ | refine blk_alloc ?_ _)); refine blk_put (cs := #[.int .u8 t265, .int .i64 t266, .int .i64 t267, .int .i64 t268, .int .i64 t269, .int .i64 0, .int .i64 0, .int .i64 0, .int .i64 0, .int .i64 0]) ?_ 5 _ rfl; (with_reducible repeat (first | refine blk_drewN ?_ _ | refine blk_drew ?_ | refine blk_alloc ?_ _)); refine blk_put (cs := #[.int .u8 t265, .int .i64 t266, .int .i64 t267, .int .i64 t268, .int .i64 0, .int .i64 0, .int .i64 0, .int .i64 0, .int .i64 0, .int .i64 0]) ?_ 4 _ rfl; (with_reducible repeat (first | refine blk_drewN ?_ _ | refine blk_drew ?_ | refine blk_alloc ?_ _)); refine blk_put (cs := #[.int .u8 t265, .int .i64 t266, .int .i64 t267, .int .i64 0, .int .i64 0, .int .i64 0, .int .i64 0, .int .i64 0, .int .i64 0, .int .i64 0]) ?_ 3 _ rfl; (with_reducible repeat (first | refine blk_drewN ?_ _ | refine blk_drew ?_ | refine blk_alloc ?_ _)); refine blk_put (cs := #[.int .u8 t265, .int .i64 t266, .int .i64 0, .int .i64 0, .int .i64 0, .int .i64 0, .int .i64 0, .int .i64 0, .int .i64 0, .int .i64 0]) ?_ 2 _ rfl; (with_reducible repeat (first | refine blk_drewN ?_ _ | refine blk_drew ?_ | refine blk_alloc ?_ _)); refine blk_put (cs := #[.int .u8 t265, .int .i64 0, .int .i64 0, .int .i64 0, .int .i64 0, .int .i64 0, .int .i64 0, .int .i64 0, .int .i64 0, .int .i64 0]) ?_ 1 _ rfl; (with_reducible repeat (first | refine blk_drewN ?_ _ | refine blk_drew ?_ | refine blk_alloc ?_ _)); refine blk_put (cs := #[.int .u8 0, .int .i64 0, .int .i64 0, .int .i64 0, .int .i64 0, .int .i64 0, .int .i64 0, .int .i64 0, .int .i64 0, .int .i64 0]) ?_ 0 _ rfl; (with_reducible repeat (first | refine blk_drewN ?_ _ | refine blk_drew ?_ | refine blk_alloc ?_ _)); exact BK280.out⟩, ⟨by (with_reducible repeat (first | refine blk_drewN ?_ _ | refine blk_drew ?_ | refine blk_alloc ?_ _)); refine blk_put (cs := #[.int .i64 t275, .slice none 0 0]) ?_ 1 _ rfl; (with_reducible repeat (first | refine blk_drewN ?_ _ | refine blk_drew ?_ | refine blk_alloc ?_ _)); refine blk_put (cs := #[.int .i64 0, .slice none 0 0]) ?_ 0 _ rfl; (with_reducible repeat (first | refine blk_drewN ?_ _ | refine blk_drew ?_ | refine blk_alloc ?_ _)); refine blk_far ?_ NB281_280.out _; (with_reducible repeat (first | refine blk_drewN ?_ _ | refine blk_drew ?_ | refine blk_alloc ?_ _)); refine blk_far ?_ NB281_280.out _; (with_reducible repeat (first | refine blk_drewN ?_ _ | refine blk_drew ?_ | refine blk_alloc ?_ _)); refine blk_far ?_ NB281_280.out _; (with_reducible repeat (first | refine blk_drewN ?_ _ | refine blk_drew ?_ | refine blk_alloc ?_ _)); refine blk_far ?_ NB281_280.out _; (with_reducible repeat (first | refine blk_drewN ?_ _ | refine blk_drew ?_ | refine blk_alloc ?_ _)); refine blk_far ?_ NB281_280.out _; (with_reducible repeat (first | refine blk_drewN ?_ _ | refine blk_drew ?_ | refine blk_alloc ?_ _)); refine blk_far ?_ NB281_280.out _; (with_reducible repeat (first | refine blk_drewN ?_ _ | refine blk_drew ?_ | refine blk_alloc ?_ _)); refine blk_far ?_ NB281_280.out _; (with_reducible repeat (first | refine blk_drewN ?_ _ | refine blk_drew ?_ | refine blk_alloc ?_ _)); refine blk_far ?_ NB281_280.out _; (with_reducible repeat (first | refine blk_drewN ?_ _ | refine blk_drew ?_ | refine blk_alloc ?_ _)); refine blk_far ?_ NB281_280.out _; (with_reducible repeat (first | refine blk_drewN ?_ _ | refine blk_drew ?_ | refine blk_alloc ?_ _)); refine blk_far ?_ NB281_280.out _; (with_reducible repeat (first | refine blk_drewN ?_ _ | refine blk_drew ?_ | refine blk_alloc ?_ _)); exact BK281.out⟩, ⟨by repeat (first | (with_reducible first | exact HB.out | apply below_alloc | apply pw_below_drewN | apply below_drew1 | refine below_set ?_ GE249.out | refine below_set ?_ GE280.out | refine below_set ?_ GE281.out) | exact HB.out)⟩⟩
       rw [if_pos c44] at H
       have c44b0 : (x10_2 == (x8_2.length : Int)) = true := beq_iff_eq.mpr c44
       have c44b1 : (x10_2 != (x8_2.length : Int)) = false := bne_eq_false_iff_eq.mpr c44
       clear c44
       (first | rw [c44b0] | (simp only [i64_w, i32_w]; rw [c44b0]) | skip)
       have H' := Aside0.mk H
       clear H
       obtain ⟨Ao45, co45, eo45⟩ := Kd.R_slice HO_8.out
       subst eo45
       have hnb46 := NB249_280.out
       have hnc46 := NB280_249.out
       have hnb47 := NB249_281.out
       have hnc47 := NB281_249.out
       have hcz48_0 : w37.cell? ⟨gb249, 0, none⟩ = some (.int .i64 x250000_2) := (blk_cell BK249.out 0).trans rfl
       have hcz48_1 : w37.cell? ⟨gb249, 1, none⟩ = some (.slice Ao34 x250001_2.length co34) := (blk_cell BK249.out 1).trans rfl
       have hfz48_0 := blk_frozen BK249.out 0
       have hfz48_1 := blk_frozen BK249.out 1
       go_wp2
       go_meet
       case rel => exact ⟨_, (((x250001_2.length : Int) != 0)), (by first | rfl | (simp; done) | (simp [*]; done)), H', ⟨by have := HJ4.out; have := HK2.out; first | omega | exact Nat.le_refl _⟩, ⟨by (with_reducible repeat (first | apply Kd.R_alloc | apply Kd.R_drewN | apply Kd.R_drew)); exact Kd.R_mono (Kd.R_far (p := ⟨gb281, 1, none⟩) (Kd.R_far (p := ⟨gb281, 0, none⟩) (Kd.R_far (p := ⟨gb280, 9, none⟩) (Kd.R_far (p := ⟨gb280, 8, none⟩) (Kd.R_far (p := ⟨gb280, 7, none⟩) (Kd.R_far (p := ⟨gb280, 6, none⟩) (Kd.R_far (p := ⟨gb280, 5, none⟩) (Kd.R_far (p := ⟨gb280, 4, none⟩) (Kd.R_far (p := ⟨gb280, 3, none⟩) (Kd.R_far (p := ⟨gb280, 2, none⟩) (Kd.R_far (p := ⟨gb280, 1, none⟩) (Kd.R_far (p := ⟨gb280, 0, none⟩) (Kd.R_types (Kd.R_mono HO_8.out (fun k_ hk => (⟨hk, hk.2⟩ : _ ∧ k_ ≠ gb280))) BK281.out (by decide)) (fun _ hk => hk.1.2) (.int .u8 t265)) (fun _ hk => hk.1.2) (.int .i64 t266)) (fun _ hk => hk.1.2) (.int .i64 t267)) (fun _ hk => hk.1.2) (.int .i64 t268)) (fun _ hk => hk.1.2) (.int .i64 t269)) (fun _ hk => hk.1.2) (.int .i64 t270)) (fun _ hk => hk.1.2) (.int .i64 t271)) (fun _ hk => hk.1.2) (.int .i64 t272)) (fun _ hk => hk.1.2) (.int .i64 t273)) (fun _ hk => hk.1.2) (.int .i64 t274)) (fun _ hk => hk.2) (.int .i64 t275)) (fun _ hk => hk.2) (.slice Ao43 t276.length co43)) (fun _ hk => ⟨hk.1.1.1.1, ⟨hk.1.1.1.2, hk.1.1.2⟩⟩)⟩, ⟨by (with_reducible repeat (first | apply Kd.V_alloc | apply Kd.V_drewN | apply Kd.V_drew)); exact Kd.V_mono (Kd.V_far (p := ⟨gb281, 1, none⟩) (Kd.V_far (p := ⟨gb281, 0, none⟩) (Kd.V_far (p := ⟨gb280, 9, none⟩) (Kd.V_far (p := ⟨gb280, 8, none⟩) (Kd.V_far (p := ⟨gb280, 7, none⟩) (Kd.V_far (p := ⟨gb280, 6, none⟩) (Kd.V_far (p := ⟨gb280, 5, none⟩) (Kd.V_far (p := ⟨gb280, 4, none⟩) (Kd.V_far (p := ⟨gb280, 3, none⟩) (Kd.V_far (p := ⟨gb280, 2, none⟩) (Kd.V_far (p := ⟨gb280, 1, none⟩) (Kd.V_far (p := ⟨gb280, 0, none⟩) (Kd.V_mono (Kd.V_mono HO_250001.out (fun k_ hk => (⟨hk, hk.1.2⟩ : _ ∧ k_ ≠ gb280))) (fun k_ hk => (⟨hk, hk.1.2⟩ : _ ∧ k_ ≠ gb281))) (fun _ hk => hk.1.2) (.int .u8 t265)) (fun _ hk => hk.1.2) (.int .i64 t266)) (fun _ hk => hk.1.2) (.int .i64 t267)) (fun _ hk => hk.1.2) (.int .i64 t268)) (fun _ hk => hk.1.2) (.int .i64 t269)) (fun _ hk => hk.1.2) (.int .i64 t270)) (fun _ hk => hk.1.2) (.int .i64 t271)) (fun _ hk => hk.1.2) (.int .i64 t272)) (fun _ hk => hk.1.2) (.int .i64 t273)) (fun _ hk => hk.1.2) (.int .i64 t274)) (fun _ hk => hk.2) (.int .i64 t275)) (fun _ hk => hk.2) (.slice Ao43 t276.length co43)) (fun _ hk => ⟨hk.1.1.1.1.1.1, ⟨hk.1.1.1.1.1.2.1, ⟨hk.1.1.1.1.2, ⟨hk.1.1.1.1.1.2.2, ⟨hk.1.1.1.2, hk.1.1.2⟩⟩⟩⟩⟩)⟩, ⟨by (with_reducible repeat (first | apply Kd.Q_alloc | apply Kd.Q_drewN | apply Kd.Q_drew)); exact Kd.Q_mono (Kd.Q_far (p := ⟨gb281, 1, none⟩) (Kd.Q_far (p := ⟨gb281, 0, none⟩) (Kd.Q_far (p := ⟨gb280, 9, none⟩) (Kd.Q_far (p := ⟨gb280, 8, none⟩) (Kd.Q_far (p := ⟨gb280, 7, none⟩) (Kd.Q_far (p := ⟨gb280, 6, none⟩) (Kd.Q_far (p := ⟨gb280, 5, none⟩) (Kd.Q_far (p := ⟨gb280, 4, none⟩) (Kd.Q_far (p := ⟨gb280, 3, none⟩) (Kd.Q_far (p := ⟨gb280, 2, none⟩) (Kd.Q_far (p := ⟨gb280, 1, none⟩) (Kd.Q_far (p := ⟨gb280, 0, none⟩) (Kd.Q_types (Kd.Q_mono HO278.out (fun k_ hk => (⟨hk, hk.2⟩ : _ ∧ k_ ≠ gb280))) BK281.out (by decide)) (fun _ hk => hk.1.2) (.int .u8 t265)) (fun _ hk => hk.1.2) (.int .i64 t266)) (fun _ hk => hk.1.2) (.int .i64 t267)) (fun _ hk => hk.1.2) (.int .i64 t268)) (fun _ hk => hk.1.2) (.int .i64 t269)) (fun _ hk => hk.1.2) (.int .i64 t270)) (fun _ hk => hk.1.2) (.int .i64 t271)) (fun _ hk => hk.1.2) (.int .i64 t272)) (fun _ hk => hk.1.2) (.int .i64 t273)) (fun _ hk => hk.1.2) (.int .i64 t274)) (fun _ hk => hk.2) (.int .i64 t275)) (fun _ hk => hk.2) (.slice Ao43 t276.length co43)) (fun _ hk => ⟨hk.1.1.1.1.1, ⟨hk.1.1.1.2, hk.1.1.2⟩⟩)⟩, ⟨by (with_reducible repeat (first | refine blk_drewN ?_ _ | refine blk_drew ?_ | refine blk_alloc ?_ _)); refine blk_far ?_ NB249_281.out _; (with_reducible repeat (first | refine blk_drewN ?_ _ | refine blk_drew ?_ | refine blk_alloc ?_ _)); refine blk_far ?_ NB249_281.out _; (with_reducible repeat (first | refine blk_drewN ?_ _ | refine blk_drew ?_ | refine blk_alloc ?_ _)); refine blk_far ?_ NB249_280.out _; (with_reducible repeat (first | refine blk_drewN ?_ _ | refine blk_drew ?_ | refine blk_alloc ?_ _)); refine blk_far ?_ NB249_280.out _; (with_reducible repeat (first | refine blk_drewN ?_ _ | refine blk_drew ?_ | refine blk_alloc ?_ _)); refine blk_far ?_ NB249_280.out _; (with_reducible repeat (first | refine blk_drewN ?_ _ | refine blk_drew ?_ | refine blk_alloc ?_ _)); refine blk_far ?_ NB249_280.out _; (with_reducible repeat (first | refine blk_drewN ?_ _ | refine blk_drew ?_ | refine blk_alloc ?_ _)); refine blk_far ?_ NB249_280.out _; (with_reducible repeat (first | refine blk_drewN ?_ _ | refine blk_drew ?_ | refine blk_alloc ?_ _)); refine blk_far ?_ NB249_280.out _; (with_reducible repeat (first | refine blk_drewN ?_ _ | refine blk_drew ?_ | refine blk_alloc ?_ _)); refine blk_far ?_ NB249_280.out _; (with_reducible repeat (first | refine blk_drewN ?_ _ | refine blk_drew ?_ | refine blk_alloc ?_ _)); refine blk_far ?_ NB249_280.out _; (with_reducible repeat (first | refine blk_drewN ?_ _ | refine blk_drew ?_ | refine blk_alloc ?_ _)); refine blk_far ?_ NB249_280.out _; (with_reducible repeat (first | refine blk_drewN ?_ _ | refine blk_drew ?_ | refine blk_alloc ?_ _)); refine blk_far ?_ NB249_280.out _; (with_reducible repeat (first | refine blk_drewN ?_ _ | refine blk_drew ?_ | refine blk_alloc ?_ _)); exact BK249.out⟩, ⟨by (with_reducible repeat (first | refine blk_drewN ?_ _ | refine blk_drew ?_ | refine blk_alloc ?_ _)); refine blk_far ?_ NB280_281.out _; (with_reducible repeat (first | refine blk_drewN ?_ _ | refine blk_drew ?_ | refine blk_alloc ?_ _)); refine blk_far ?_ NB280_281.out _; (with_reducible repeat (first | refine blk_drewN ?_ _ | refine blk_drew ?_ | refine blk_alloc ?_ _)); refine blk_put (cs := #[.int .u8 t265, .int .i64 t266, .int .i64 t267, .int .i64 t268, .int .i64 t269, .int .i64 t270, .int .i64 t271, .int .i64 t272, .int .i64 t273, .int .i64 0]) ?_ 9 _ rfl; (with_reducible repeat (first | refine blk_drewN ?_ _ | refine blk_drew ?_ | refine blk_alloc ?_ _)); refine blk_put (cs := #[.int .u8 t265, .int .i64 t266, .int .i64 t267, .int .i64 t268, .int .i64 t269, .int .i64 t270, .int .i64 t271, .int .i64 t272, .int .i64 0, .int .i64 0]) ?_ 8 _ rfl; (with_reducible repeat (first | refine blk_drewN ?_ _ | refine blk_drew ?_ | refine blk_alloc ?_ _)); refine blk_put (cs := #[.int .u8 t265, .int .i64 t266, .int .i64 t267, .int .i64 t268, .int .i64 t269, .int .i64 t270, .int .i64 t271, .int .i64 0, .int .i64 0, .int .i64 0]) ?_ 7 _ rfl; (with_reducible repeat (first | refine blk_drewN ?_ _ | refine blk_drew ?_ | refine blk_alloc ?_ _)); refine blk_put (cs := #[.int .u8 t265, .int .i64 t266, .int .i64 t267, .int .i64 t268, .int .i64 t269, .int .i64 t270, .int .i64 0, .int .i64 0, .int .i64 0, .int .i64 0]) ?_ 6 _ rfl; (with_reducible repeat (first | refine blk_drewN ?_ _ | refine blk_drew ?_ | refine blk_alloc ?_ _)); refine blk_put (cs := #[.int .u8 t265, .int .i64 t266, .int .i64 t267, .int .i64 t268, .int .i64 t269, .int .i64 0, .int .i64 0, .int .i64 0, .int .i64 0, .int .i64 0]) ?_ 5 _ rfl; (with_reducible repeat (first | refine blk_drewN ?_ _ | refine blk_drew ?_ | refine blk_alloc ?_ _)); refine blk_put (cs := #[.int .u8 t265, .int .i64 t266, .int .i64 t267, .int .i64 t268, .int .i64 0, .int .i64 0, .int .i64 0, .int .i64 0, .int .i64 0, .int .i64 0]) ?_ 4 _ rfl; (with_reducible repeat (first | refine blk_drewN ?_ _ | refine blk_drew ?_ | refine blk_alloc ?_ _)); refine blk_put (cs := #[.int .u8 t265, .int .i64 t266, .int .i64 t267, .int .i64 0, .int .i64 0, .int .i64 0, .int .i64 0, .int .i64 0, .int .i64 0, .int .i64 0]) ?_ 3 _ rfl; (with_reducible repeat (first | refine blk_drewN ?_ _ | refine blk_drew ?_ | refine blk_alloc ?_ _)); refine blk_put (cs := #[.int .u8 t265, .int .i64 t266, .int .i64 0, .int .i64 0, .int .i64 0, .int .i64 0, .int .i64 0, .int .i64 0, .int .i64 0, .int .i64 0]) ?_ 2 _ rfl; (with_reducible repeat (first | refine blk_drewN ?_ _ | refine blk_drew ?_ | refine blk_alloc ?_ _)); refine blk_put (cs := #[.int .u8 t265, .int .i64 0, .int .i64 0, .int .i64 0, .int .i64 0, .int .i64 0, .int .i64 0, .int .i64 0, .int .i64 0, .int .i64 0]) ?_ 1 _ rfl; (with_reducible repeat (first | refine blk_drewN ?_ _ | refine blk_drew ?_ | refine blk_alloc ?_ _)); refine blk_put (cs := #[.int .u8 0, .int .i64 0, .int .i64 0, .int .i64 0, .int .i64 0, .int .i64 0, .int .i64 0, .int .i64 0, .int .i64 0, .int .i64 0]) ?_ 0 _ rfl; (with_reducible repeat (first | refine blk_drewN ?_ _ | refine blk_drew ?_ | refine blk_alloc ?_ _)); exact BK280.out⟩, ⟨by (with_reducible repeat (first | refine blk_drewN ?_ _ | refine blk_drew ?_ | refine blk_alloc ?_ _)); refine blk_put (cs := #[.int .i64 t275, .slice none 0 0]) ?_ 1 _ rfl; (with_reducible repeat (first | refine blk_drewN ?_ _ | refine blk_drew ?_ | refine blk_alloc ?_ _)); refine blk_put (cs := #[.int .i64 0, .slice none 0 0]) ?_ 0 _ rfl; (with_reducible repeat (first | refine blk_drewN ?_ _ | refine blk_drew ?_ | refine blk_alloc ?_ _)); refine blk_far ?_ NB281_280.out _; (with_reducible repeat (first | refine blk_drewN ?_ _ | refine blk_drew ?_ | refine blk_alloc ?_ _)); refine blk_far ?_ NB281_280.out _; (with_reducible repeat (first | refine blk_drewN ?_ _ | refine blk_drew ?_ | refine blk_alloc ?_ _)); refine blk_far ?_ NB281_280.out _; (with_reducible repeat (first | refine blk_drewN ?_ _ | refine blk_drew ?_ | refine blk_alloc ?_ _)); refine blk_far ?_ NB281_280.out _; (with_reducible repeat (first | refine blk_drewN ?_ _ | refine blk_drew ?_ | refine blk_alloc ?_ _)); refine blk_far ?_ NB281_280.out _; (with_reducible repeat (first | refine blk_drewN ?_ _ | refine blk_drew ?_ | refine blk_alloc ?_ _)); refine blk_far ?_ NB281_280.out _; (with_reducible repeat (first | refine blk_drewN ?_ _ | refine blk_drew ?_ | refine blk_alloc ?_ _)); refine blk_far ?_ NB281_280.out _; (with_reducible repeat (first | refine blk_drewN ?_ _ | refine blk_drew ?_ | refine blk_alloc ?_ _)); refine blk_far ?_ NB281_280.out _; (with_reducible repeat (first | refine blk_drewN ?_ _ | refine blk_drew ?_ | refine blk_alloc ?_ _)); refine blk_far ?_ NB281_280.out _; (with_reducible repeat (first | refine blk_drewN ?_ _ | refine blk_drew ?_ | refine blk_alloc ?_ _)); refine blk_far ?_ NB281_280.out _; (with_reducible repeat (first | refine blk_drewN ?_ _ | refine blk_drew ?_ | refine blk_alloc ?_ _)); exact BK281.out⟩, ⟨by repeat (first | (with_reducible first | exact HB.out | apply below_alloc | apply pw_below_drewN | apply below_drew1 | refine below_set ?_ GE249.out | refine below_set ?_ GE280.out | refine below_set ?_ GE281.out) | exact HB.out)⟩⟩
      case rest =>
       clear HC32
       try clear c1
       try clear c2
       try clear p2
       try clear q2
       try clear hx2
       try clear c3
       try clear c4
       try clear c5
       try clear p6
       try clear c9
       try clear c9b0
       try clear c9b1
       try clear c10
       try clear c10b0
       try clear c10b1
       try clear c11
       try clear c13
       try clear c13b0
       try clear c13b1
       try clear c20
       try clear c21
       try clear c22
       try clear c26
       try clear c26b0
       try clear p26
       try clear q26
       try clear hx26
       try clear c27
       try clear c27b0
       try clear q28
       try clear c29
       try clear c31
       try clear c31b0
       try clear c31b1
       try clear c38
       try clear c39
       try clear c41
       try clear c44
       try clear c44b0
       try clear c44b1
       try clear c46
       try clear c47
       try clear hcz11_0
       try clear hcz11_1
       try clear hcz14_0
       try clear hcz14_1
       try clear hcz16_0
       try clear hcz16_1
       try clear hcz18_0
       try clear hcz18_1
       try clear hcz24_0
       try clear hcz24_1
       try clear hcz33_0
       try clear hcz33_1
       try clear hcz40_0
       try clear hcz40_1
       try clear hcz40_2
       try clear hcz40_3
       try clear hcz40_4
       try clear hcz40_5
       try clear hcz40_6
       try clear hcz40_7
       try clear hcz40_8
       try clear hcz40_9
       try clear hcz42_0
       try clear hcz42_1
       try clear hcz48_0
       try clear hcz48_1
       try clear hfz11_0
       try clear hfz11_1
       try clear hfz14_0
       try clear hfz14_1
       try clear hfz16_0
       try clear hfz16_1
       try clear hfz18_0
       try clear hfz18_1
       try clear hfz24_0
       try clear hfz24_1
       try clear hfz33_0
       try clear hfz33_1
       try clear hfz40_0
       try clear hfz40_1
       try clear hfz40_2
       try clear hfz40_3
       try clear hfz40_4
       try clear hfz40_5
       try clear hfz40_6
       try clear hfz40_7
       try clear hfz40_8
       try clear hfz40_9
       try clear hfz42_0
       try clear hfz42_1
       try clear hfz48_0
       try clear hfz48_1
       try clear hx264_0
       try clear p2
       try clear p264
       try clear q264
       obtain ⟨kq, x68_31, rfl, HA, HJ31, HO_8, HO_250001, HO_282001, BK249, BK280, BK281, HB⟩ := hcut
       cases kq with
       | zero => exact absurd HA.out (by simp [tailwaterlaw26_ChannelFirst.j2])
       | succ kj31 =>
        have H := HA.out
        clear HA
        simp only [tailwaterlaw26_ChannelFirst.j2] at H
        by_cases c50 : x68_31 = true
        case pos =>
         subst c50
         have H1 := H
         rw [if_pos rfl] at H1
         clear H
         have H := H1
         clear H1
         exact absurd H (by decide)
        replace c50 := Bool.eq_false_iff.mpr c50
        subst c50
        have H1 := H
        rw [if_neg (show ¬ (false = true) by decide)] at H1
        clear H
        have H := H1
        clear H1
        have H' := Aside0.mk H
        clear H
        go_wp2
        go_roundg kj31
        case measure => have := HJ4.out; have := HK2.out; have := HJ31.out; omega
        case rel => exact ⟨(x8_2), (x9_2), (x10_2), (wrap64 (x11_2 + 1)), (x250000_2), (x250001_2), (.slice Ao34 x250001_2.length co34), (by first | rfl | (simp; done) | (simp [*]; done)), (by first | rfl | (simp; done) | (simp [*]; done)), (by first | rfl | (simp; done) | (simp [*]; done)), H', ⟨by have := HJ4.out; have := HK2.out; have := HJ31.out; omega⟩, ⟨by (with_reducible repeat (first | apply Kd.R_alloc | apply Kd.R_drewN | apply Kd.R_drew)); exact Kd.R_mono HO_8.out (fun _ hk => hk.1)⟩, ⟨by (with_reducible repeat (first | apply Kd.V_alloc | apply Kd.V_drewN | apply Kd.V_drew)); exact Kd.V_mono HO_250001.out (fun _ hk => ⟨hk.1, ⟨hk.2.1, hk.2.2.2.1⟩⟩)⟩, ⟨by (with_reducible repeat (first | refine blk_drewN ?_ _ | refine blk_drew ?_ | refine blk_alloc ?_ _)); exact BK249.out⟩, ⟨by repeat (first | (with_reducible first | exact HB.out | apply below_alloc | apply pw_below_drewN | apply below_drew1 | refine below_set ?_ GE249.out | refine below_set ?_ GE280.out | refine below_set ?_ GE281.out) | exact HB.out)⟩⟩
     rw [if_neg c31] at H
     have c31b0 : (t279 == 6) = false := beq_eq_false_iff_ne.mpr c31
     have c31b1 : (t279 != 6) = true := bne_iff_ne.mpr c31
     by_cases c51 : t279 = 0
     case neg =>
      rw [if_neg c51] at H
      have c51b0 : (t279 == 0) = false := beq_eq_false_iff_ne.mpr c51
      have c51b1 : (t279 != 0) = true := bne_iff_ne.mpr c51
      exact absurd H (by decide)
     rw [if_pos c51] at H
     have c51b0 : (t279 == 0) = true := beq_iff_eq.mpr c51
     have c51b1 : (t279 != 0) = false := bne_eq_false_iff_eq.mpr c51
     clear c51
     by_cases c52 : x10_2 ≥ (x8_2.length : Int)
     case pos =>
      rw [if_pos c52] at H
      have c52b0 : decide ((x8_2.length : Int) ≤ x10_2) = true := decide_eq_true c52
      clear c52
      exact absurd H (by decide)
     rw [if_neg c52] at H
     have c52b0 : decide ((x8_2.length : Int) ≤ x10_2) = false := decide_eq_false c52
     clear c52
     by_cases c53 : 0 ≤ x10_2
     case neg =>
      rw [if_neg c53] at H
      exact absurd H (by simp)
     rw [if_pos c53] at H
     have c53b0 : decide (0 ≤ x10_2) = true := decide_eq_true c53
     clear c53
     by_cases c54 : x10_2 < (x8_2.length : Int)
     case neg =>
      rw [if_neg c54] at H
      exact absurd H (by simp)
     rw [if_pos c54] at H
     have c54b0 : decide (x10_2 < (x8_2.length : Int)) = true := decide_eq_true c54
     clear c54
     by_cases c55 : (!(t265 == ((rd_T35 x8_2 x10_2).f0)) || ((!(t266 == ((rd_T35 x8_2 x10_2).f1.f0)) || (!(t267 == ((rd_T35 x8_2 x10_2).f1.f1)) || (!(t268 == ((rd_T35 x8_2 x10_2).f1.f2))))) || (!(t269 == ((rd_T35 x8_2 x10_2).f2)) || ((!(t270 == ((rd_T35 x8_2 x10_2).f3.f0)) || ((!(t271 == ((rd_T35 x8_2 x10_2).f3.f1.f0)) || (!(t272 == ((rd_T35 x8_2 x10_2).f3.f1.f1)))) || ((!(t273 == ((rd_T35 x8_2 x10_2).f3.f2.f0)) || (!(t274 == ((rd_T35 x8_2 x10_2).f3.f2.f1))))))))))) = true
     case pos =>
      rw [if_pos c55] at H
      have c55b0 : (!(t265 == ((rd_T35 x8_2 x10_2).f0)) || ((!(t266 == ((rd_T35 x8_2 x10_2).f1.f0)) || (!(t267 == ((rd_T35 x8_2 x10_2).f1.f1)) || (!(t268 == ((rd_T35 x8_2 x10_2).f1.f2))))) || (!(t269 == ((rd_T35 x8_2 x10_2).f2)) || ((!(t270 == ((rd_T35 x8_2 x10_2).f3.f0)) || ((!(t271 == ((rd_T35 x8_2 x10_2).f3.f1.f0)) || (!(t272 == ((rd_T35 x8_2 x10_2).f3.f1.f1)))) || ((!(t273 == ((rd_T35 x8_2 x10_2).f3.f2.f0)) || (!(t274 == ((rd_T35 x8_2 x10_2).f3.f2.f1))))))))))) = true := c55
      have c55b1 : (!(t265 == ((rd_T35 x8_2 x10_2).f0)) || (((!(t266 == ((rd_T35 x8_2 x10_2).f1.f0)) || ((!(t267 == ((rd_T35 x8_2 x10_2).f1.f1)) || (!(t268 == ((rd_T35 x8_2 x10_2).f1.f2)))))) || ((!(t269 == ((rd_T35 x8_2 x10_2).f2)) || ((!(t270 == ((rd_T35 x8_2 x10_2).f3.f0)) || (((!(t271 == ((rd_T35 x8_2 x10_2).f3.f1.f0)) || (!(t272 == ((rd_T35 x8_2 x10_2).f3.f1.f1)))) || ((!(t273 == ((rd_T35 x8_2 x10_2).f3.f2.f0)) || (!(t274 == ((rd_T35 x8_2 x10_2).f3.f2.f1)))))))))))))) = true := by simpa using c55
      clear c55
      exact absurd H (by decide)
     rw [if_neg c55] at H
     have c55b0 : (!(t265 == ((rd_T35 x8_2 x10_2).f0)) || ((!(t266 == ((rd_T35 x8_2 x10_2).f1.f0)) || (!(t267 == ((rd_T35 x8_2 x10_2).f1.f1)) || (!(t268 == ((rd_T35 x8_2 x10_2).f1.f2))))) || (!(t269 == ((rd_T35 x8_2 x10_2).f2)) || ((!(t270 == ((rd_T35 x8_2 x10_2).f3.f0)) || ((!(t271 == ((rd_T35 x8_2 x10_2).f3.f1.f0)) || (!(t272 == ((rd_T35 x8_2 x10_2).f3.f1.f1)))) || ((!(t273 == ((rd_T35 x8_2 x10_2).f3.f2.f0)) || (!(t274 == ((rd_T35 x8_2 x10_2).f3.f2.f1))))))))))) = false := by simpa using c55
     have c55b1 : (!(t265 == ((rd_T35 x8_2 x10_2).f0)) || (((!(t266 == ((rd_T35 x8_2 x10_2).f1.f0)) || ((!(t267 == ((rd_T35 x8_2 x10_2).f1.f1)) || (!(t268 == ((rd_T35 x8_2 x10_2).f1.f2)))))) || ((!(t269 == ((rd_T35 x8_2 x10_2).f2)) || ((!(t270 == ((rd_T35 x8_2 x10_2).f3.f0)) || (((!(t271 == ((rd_T35 x8_2 x10_2).f3.f1.f0)) || (!(t272 == ((rd_T35 x8_2 x10_2).f3.f1.f1)))) || ((!(t273 == ((rd_T35 x8_2 x10_2).f3.f2.f0)) || (!(t274 == ((rd_T35 x8_2 x10_2).f3.f2.f1)))))))))))))) = false := by simpa using c55
     clear c55
     have H' := Aside0.mk H
     clear H
     have p264 : 0 ≤ (x11_2 : Int) := of_decide_eq_true (by first | (with_reducible assumption) | assumption)
     have q264 : x11_2 < (l2.length : Int) := of_decide_eq_true (by first | (with_reducible assumption) | assumption)
     obtain ⟨ad264, e264, hx264_0⟩ := Kd.at_bool HR2.out x11_2 p264 q264
     (try rw [← Nbq28.out] at hx264_0)
     cases e264
     replace hx264_0 := (HB.out.cell (World.block_lt_of_cell? w _ hx264_0)).trans hx264_0
     replace p264 := eq_true p264
     replace q264 := eq_true q264
     have hcz56_0 : wr.cell? ⟨gb249, 0, none⟩ = some (.int .i64 x250000_2) := (blk_cell BK249.out 0).trans rfl
     have hcz56_1 : wr.cell? ⟨gb249, 1, none⟩ = some (u250001) := (blk_cell BK249.out 1).trans rfl
     have hfz56_0 := blk_frozen BK249.out 0
     have hfz56_1 := blk_frozen BK249.out 1
     obtain ⟨Ao57, co57, eo57⟩ := Kd.V_slice HO_250001.out
     subst eo57
     try go_wp2_with (first | ((with_reducible refine gate_callee (f := 11) rfl ?_); refine goesL_ (some 53) rfl rfl Try.func11 (by kernel_rfl) rfl #[.agg #[.int .i64 x250000_2, .slice Ao57 x250001_2.length co57]] rfl (by (try simp only [List.map_toArray, List.map_cons, List.map_nil]); first | done | rfl | (simp only [List.length_drop, List.length_take]; rfl)) ?_; (with_reducible refine (channel_Take.calls k2 x250000_2 _ _ x250001_2 t265 t266 t267 t268 t269 t270 t271 t272 t273 t274 t275 t276 t279 _ ?side1 ?side2 A30.out).mono ?_); (case side1 => repeat (first | exact (Kd.V_reads' HO_250001.out).2.2 | (with_reducible refine Kd.C_alloc ?_ _) | (with_reducible refine Kd.C_drewN ?_ _) | (with_reducible refine Kd.C_drew ?_))); (case side2 => exact (Kd.V_reads' HO_250001.out).2.1); rintro e w58 ⟨v277, rfl, ho0, hb⟩; refine ⟨_, rfl, ?_⟩; have n0_ := Aside0.mk (Kd.R_elder' HO_8.out (Kd.Q_base ho0) hb); have n1_ := Aside0.mk (Kd.V_elder' (by (with_reducible repeat (first | apply Kd.V_alloc | apply Kd.V_drewN | apply Kd.V_drew)); exact HO_250001.out) (Kd.Q_base ho0) hb); have n2_ := Aside0.mk (Kd.Q_lower (Kd.Q_new' (Kd.Q_newM (M := fun k_ => (w.heap.size ≤ k_)) ho0 (below_size (by repeat (first | (with_reducible first | exact HB.out | apply below_alloc | apply pw_below_drewN | apply below_drew1 | refine below_set ?_ GE249.out) | exact HB.out))) (fun k_ h_ => h_)) (Kd.R_lt HO_8.out)) (below_size (by repeat (first | (with_reducible first | exact HB.out | apply below_alloc | apply pw_below_drewN | apply below_drew1 | refine below_set ?_ GE249.out) | exact HB.out)))); have n3_ := Aside0.mk (blk_below (g := gb249) (o := .cells #[.int .i64 x250000_2, .slice Ao57 x250001_2.length co57] 24 (0, 0)) BK249.out hb); have n4_ := Aside0.mk (below_step (by repeat (first | (with_reducible first | exact HB.out | apply below_alloc | apply pw_below_drewN | apply below_drew1 | refine below_set ?_ GE249.out) | exact HB.out)) hb); clear HO_8; clear HO_250001; clear BK249; clear HB; have HO_8 := n0_; have HO_250001 := n1_; have HO278 := n2_; have BK249 := n3_; have HB := n4_; clear n0_ n1_ n2_ n3_ n4_; (try clear hb); (try clear hb2); (try clear hk); (try clear hi); (try clear ho0)) | ((with_reducible refine gate_dst (N := 12) rfl ?_); (try (refine gate_guard (by rfl) ?_; dsimp only)); refine box_event ?hg (N := 12) ?hd (cs := #[.int .u8 0, .int .i64 0, .int .i64 0, .int .i64 0, .int .i64 0, .int .i64 0, .int .i64 0, .int .i64 0, .int .i64 0, .int .i64 0]) (t := 35) ?hr ?_; (case hd => rfl); (case hg => rfl); (case hr => first | (go_simp; done) | (go_simp; rfl)); intro gb280 hg w59 hbox hb; have n0_ := Aside0.mk (Kd.R_below (Kd.R_elderB HO_8.out gb280 (Nat.le_of_eq hg.symm)) hb); have n1_ := Aside0.mk (Kd.V_below (Kd.V_elderB (by (with_reducible repeat (first | apply Kd.V_alloc | apply Kd.V_drewN | apply Kd.V_drew)); exact HO_250001.out) gb280 (Nat.le_of_eq hg.symm)) hb); have n2_ := Aside0.mk (Kd.Q_below (Kd.Q_elderB (by (with_reducible repeat (first | apply Kd.Q_alloc | apply Kd.Q_drewN | apply Kd.Q_drew)); exact HO278.out) gb280 (Nat.le_of_eq hg.symm)) hb); have n3_ := Aside0.mk (blk_below (g := gb249) (o := .cells #[.int .i64 x250000_2, .slice Ao57 x250001_2.length co57] 24 (0, 0)) BK249.out hb); have n4_ := Aside0.mk (below_step (by repeat (first | (with_reducible first | exact HB.out | apply below_alloc | apply pw_below_drewN | apply below_drew1 | refine below_set ?_ GE249.out) | exact HB.out)) hb); have n5_ := Aside0.mk (hbox); have n6_ := Aside0.mk ((by rw [hg]; exact (below_size (by repeat (first | (with_reducible first | exact HB.out | apply below_alloc | apply pw_below_drewN | apply below_drew1 | refine below_set ?_ GE249.out) | exact HB.out))) : w.heap.size ≤ gb280)); have n7_ := Aside0.mk ((by rw [hg]; exact (below_size (by repeat (first | (with_reducible first | exact HB.out | apply below_alloc | apply pw_below_drewN | apply below_drew1 | refine below_set ?_ GE249.out) | exact HB.out))) : w.heap.size ≤ gb280)); have n8_ := Aside0.mk ((by rw [hg]; exact Nat.ne_of_lt (blk_lt (g := gb249) (o := .cells #[.int .i64 x250000_2, .slice Ao57 x250001_2.length co57] 24 (0, 0)) BK249.out) : gb249 ≠ gb280)); have n9_ := Aside0.mk ((by rw [hg]; exact Nat.ne_of_gt (blk_lt (g := gb249) (o := .cells #[.int .i64 x250000_2, .slice Ao57 x250001_2.length co57] 24 (0, 0)) BK249.out) : gb280 ≠ gb249)); clear HO_8; clear HO_250001; clear HO278; clear BK249; clear HB; have HO_8 := n0_; have HO_250001 := n1_; have HO278 := n2_; have BK249 := n3_; have HB := n4_; have BK280 := n5_; have GW280 := n6_; have GE280 := n7_; have NB249_280 := n8_; have NB280_249 := n9_; clear n0_ n1_ n2_ n3_ n4_ n5_ n6_ n7_ n8_ n9_; clear hb hbox hg) | ((with_reducible refine gate_dst (N := 13) rfl ?_); (try (refine gate_guard (by rfl) ?_; dsimp only)); refine box_event ?hg (N := 13) ?hd (cs := #[.int .i64 0, .slice none 0 0]) (t := 24) ?hr ?_; (case hd => rfl); (case hg => rfl); (case hr => first | (go_simp; done) | (go_simp; rfl)); intro gb281 hg w60 hbox hb; have n0_ := Aside0.mk (Kd.R_below HO_8.out hb); have n1_ := Aside0.mk (Kd.V_below (Kd.V_elderB (by (with_reducible repeat (first | apply Kd.V_alloc | apply Kd.V_drewN | apply Kd.V_drew)); exact HO_250001.out) gb281 (Nat.le_of_eq hg.symm)) hb); have n2_ := Aside0.mk (Kd.Q_below (by (with_reducible repeat (first | apply Kd.Q_alloc | apply Kd.Q_drewN | apply Kd.Q_drew)); exact HO278.out) hb); have n3_ := Aside0.mk (blk_below (g := gb249) (o := .cells #[.int .i64 x250000_2, .slice Ao57 x250001_2.length co57] 24 (0, 0)) BK249.out hb); have n4_ := Aside0.mk (blk_below (g := gb280) (o := .cells #[.int .u8 0, .int .i64 0, .int .i64 0, .int .i64 0, .int .i64 0, .int .i64 0, .int .i64 0, .int .i64 0, .int .i64 0, .int .i64 0] 35 (0, 0)) BK280.out hb); have n5_ := Aside0.mk (below_step (by repeat (first | (with_reducible first | exact HB.out | apply below_alloc | apply pw_below_drewN | apply below_drew1 | refine below_set ?_ GE249.out | refine below_set ?_ GE280.out) | exact HB.out)) hb); have n6_ := Aside0.mk (hbox); have n7_ := Aside0.mk ((by rw [hg]; exact (below_size (by repeat (first | (with_reducible first | exact HB.out | apply below_alloc | apply pw_below_drewN | apply below_drew1 | refine below_set ?_ GE249.out | refine below_set ?_ GE280.out) | exact HB.out))) : w.heap.size ≤ gb281)); have n8_ := Aside0.mk ((by rw [hg]; exact (below_size (by repeat (first | (with_reducible first | exact HB.out | apply below_alloc | apply pw_below_drewN | apply below_drew1 | refine below_set ?_ GE249.out | refine below_set ?_ GE280.out) | exact HB.out))) : w.heap.size ≤ gb281)); have n9_ := Aside0.mk ((by rw [hg]; exact Nat.ne_of_lt (blk_lt (g := gb249) (o := .cells #[.int .i64 x250000_2, .slice Ao57 x250001_2.length co57] 24 (0, 0)) BK249.out) : gb249 ≠ gb281)); have n10_ := Aside0.mk ((by rw [hg]; exact Nat.ne_of_gt (blk_lt (g := gb249) (o := .cells #[.int .i64 x250000_2, .slice Ao57 x250001_2.length co57] 24 (0, 0)) BK249.out) : gb281 ≠ gb249)); have n11_ := Aside0.mk ((by rw [hg]; exact Nat.ne_of_lt (blk_lt (g := gb280) (o := .cells #[.int .u8 0, .int .i64 0, .int .i64 0, .int .i64 0, .int .i64 0, .int .i64 0, .int .i64 0, .int .i64 0, .int .i64 0, .int .i64 0] 35 (0, 0)) BK280.out) : gb280 ≠ gb281)); have n12_ := Aside0.mk ((by rw [hg]; exact Nat.ne_of_gt (blk_lt (g := gb280) (o := .cells #[.int .u8 0, .int .i64 0, .int .i64 0, .int .i64 0, .int .i64 0, .int .i64 0, .int .i64 0, .int .i64 0, .int .i64 0, .int .i64 0] 35 (0, 0)) BK280.out) : gb281 ≠ gb280)); clear HO_8; clear HO_250001; clear HO278; clear BK249; clear BK280; clear HB; have HO_8 := n0_; have HO_250001 := n1_; have HO278 := n2_; have BK249 := n3_; have BK280 := n4_; have HB := n5_; have BK281 := n6_; have GW281 := n7_; have GE281 := n8_; have NB249_281 := n9_; have NB281_249 := n10_; have NB280_281 := n11_; have NB281_280 := n12_; clear n0_ n1_ n2_ n3_ n4_ n5_ n6_ n7_ n8_ n9_ n10_ n11_ n12_; clear hb hbox hg; have hnb61 := NB280_249.out; have hnc61 := NB249_280.out; have hnb62 := NB280_281.out; have hnc62 := NB281_280.out; have hcz63_0 : w60.cell? ⟨gb280, 0, none⟩ = some (.int .u8 0) := (blk_cell BK280.out 0).trans rfl; have hcz63_1 : w60.cell? ⟨gb280, 1, none⟩ = some (.int .i64 0) := (blk_cell BK280.out 1).trans rfl; have hcz63_2 : w60.cell? ⟨gb280, 2, none⟩ = some (.int .i64 0) := (blk_cell BK280.out 2).trans rfl; have hcz63_3 : w60.cell? ⟨gb280, 3, none⟩ = some (.int .i64 0) := (blk_cell BK280.out 3).trans rfl; have hcz63_4 : w60.cell? ⟨gb280, 4, none⟩ = some (.int .i64 0) := (blk_cell BK280.out 4).trans rfl; have hcz63_5 : w60.cell? ⟨gb280, 5, none⟩ = some (.int .i64 0) := (blk_cell BK280.out 5).trans rfl; have hcz63_6 : w60.cell? ⟨gb280, 6, none⟩ = some (.int .i64 0) := (blk_cell BK280.out 6).trans rfl; have hcz63_7 : w60.cell? ⟨gb280, 7, none⟩ = some (.int .i64 0) := (blk_cell BK280.out 7).trans rfl; have hcz63_8 : w60.cell? ⟨gb280, 8, none⟩ = some (.int .i64 0) := (blk_cell BK280.out 8).trans rfl; have hcz63_9 : w60.cell? ⟨gb280, 9, none⟩ = some (.int .i64 0) := (blk_cell BK280.out 9).trans rfl; have hfz63_0 := blk_frozen BK280.out 0; have hfz63_1 := blk_frozen BK280.out 1; have hfz63_2 := blk_frozen BK280.out 2; have hfz63_3 := blk_frozen BK280.out 3; have hfz63_4 := blk_frozen BK280.out 4; have hfz63_5 := blk_frozen BK280.out 5; have hfz63_6 := blk_frozen BK280.out 6; have hfz63_7 := blk_frozen BK280.out 7; have hfz63_8 := blk_frozen BK280.out 8; have hfz63_9 := blk_frozen BK280.out 9; have hnb64 := NB281_249.out; have hnc64 := NB249_281.out; have hcz65_0 : w60.cell? ⟨gb281, 0, none⟩ = some (.int .i64 0) := (blk_cell BK281.out 0).trans rfl; have hcz65_1 : w60.cell? ⟨gb281, 1, none⟩ = some (.slice none 0 0) := (blk_cell BK281.out 1).trans rfl; have hfz65_0 := blk_frozen BK281.out 0; have hfz65_1 := blk_frozen BK281.out 1; obtain ⟨Ao66, co66, eo66, _⟩ := Kd.Q_slice HO278.out; subst eo66))
     have n0_ : Aside0 (Kd.R k35 35 ((((((((((((w60.setCell ⟨gb280, 0, none⟩ (.int .u8 t265)).setCell ⟨gb280, 1, none⟩ (.int .i64 t266)).setCell ⟨gb280, 2, none⟩ (.int .i64 t267)).setCell ⟨gb280, 3, none⟩ (.int .i64 t268)).setCell ⟨gb280, 4, none⟩ (.int .i64 t269)).setCell ⟨gb280, 5, none⟩ (.int .i64 t270)).setCell ⟨gb280, 6, none⟩ (.int .i64 t271)).setCell ⟨gb280, 7, none⟩ (.int .i64 t272)).setCell ⟨gb280, 8, none⟩ (.int .i64 t273)).setCell ⟨gb280, 9, none⟩ (.int .i64 t274)).setCell ⟨gb281, 0, none⟩ (.int .i64 t275)).setCell ⟨gb281, 1, none⟩ (.slice Ao66 t276.length co66)) w.heap.size (fun k_ => (w.heap.size ≤ k_) ∧ some k_ ≠ (.slice Ao66 t276.length co66 : Value).ownBlock ∧ k_ ≠ gb280) u8 x8_2) := ⟨by (with_reducible repeat (first | apply Kd.R_alloc | apply Kd.R_drewN | apply Kd.R_drew)); exact Kd.R_mono (Kd.R_far (p := ⟨gb281, 1, none⟩) (Kd.R_far (p := ⟨gb281, 0, none⟩) (Kd.R_far (p := ⟨gb280, 9, none⟩) (Kd.R_far (p := ⟨gb280, 8, none⟩) (Kd.R_far (p := ⟨gb280, 7, none⟩) (Kd.R_far (p := ⟨gb280, 6, none⟩) (Kd.R_far (p := ⟨gb280, 5, none⟩) (Kd.R_far (p := ⟨gb280, 4, none⟩) (Kd.R_far (p := ⟨gb280, 3, none⟩) (Kd.R_far (p := ⟨gb280, 2, none⟩) (Kd.R_far (p := ⟨gb280, 1, none⟩) (Kd.R_far (p := ⟨gb280, 0, none⟩) (Kd.R_types (Kd.R_mono HO_8.out (fun k_ hk => (⟨hk, hk.2⟩ : _ ∧ k_ ≠ gb280))) BK281.out (by decide)) (fun _ hk => hk.1.2) (.int .u8 t265)) (fun _ hk => hk.1.2) (.int .i64 t266)) (fun _ hk => hk.1.2) (.int .i64 t267)) (fun _ hk => hk.1.2) (.int .i64 t268)) (fun _ hk => hk.1.2) (.int .i64 t269)) (fun _ hk => hk.1.2) (.int .i64 t270)) (fun _ hk => hk.1.2) (.int .i64 t271)) (fun _ hk => hk.1.2) (.int .i64 t272)) (fun _ hk => hk.1.2) (.int .i64 t273)) (fun _ hk => hk.1.2) (.int .i64 t274)) (fun _ hk => hk.2) (.int .i64 t275)) (fun _ hk => hk.2) (.slice Ao66 t276.length co66)) (fun _ hk => ⟨hk.1.1.1.1, ⟨hk.1.1.1.2, hk.1.1.2⟩⟩)⟩
     have n1_ : Aside0 (Kd.V k35 35 ((((((((((((w60.setCell ⟨gb280, 0, none⟩ (.int .u8 t265)).setCell ⟨gb280, 1, none⟩ (.int .i64 t266)).setCell ⟨gb280, 2, none⟩ (.int .i64 t267)).setCell ⟨gb280, 3, none⟩ (.int .i64 t268)).setCell ⟨gb280, 4, none⟩ (.int .i64 t269)).setCell ⟨gb280, 5, none⟩ (.int .i64 t270)).setCell ⟨gb280, 6, none⟩ (.int .i64 t271)).setCell ⟨gb280, 7, none⟩ (.int .i64 t272)).setCell ⟨gb280, 8, none⟩ (.int .i64 t273)).setCell ⟨gb280, 9, none⟩ (.int .i64 t274)).setCell ⟨gb281, 0, none⟩ (.int .i64 t275)).setCell ⟨gb281, 1, none⟩ (.slice Ao66 t276.length co66)) w.heap.size (fun k_ => (P0_1_ k_ ∨ w.heap.size ≤ k_) ∧ some k_ ≠ (u8 : Value).ownBlock ∧ some k_ ≠ (.slice Ao66 t276.length co66 : Value).ownBlock ∧ k_ ≠ gb249 ∧ k_ ≠ gb280 ∧ k_ ≠ gb281) (.slice Ao57 x250001_2.length co57) x250001_2) := ⟨by (with_reducible repeat (first | apply Kd.V_alloc | apply Kd.V_drewN | apply Kd.V_drew)); exact Kd.V_mono (Kd.V_far (p := ⟨gb281, 1, none⟩) (Kd.V_far (p := ⟨gb281, 0, none⟩) (Kd.V_far (p := ⟨gb280, 9, none⟩) (Kd.V_far (p := ⟨gb280, 8, none⟩) (Kd.V_far (p := ⟨gb280, 7, none⟩) (Kd.V_far (p := ⟨gb280, 6, none⟩) (Kd.V_far (p := ⟨gb280, 5, none⟩) (Kd.V_far (p := ⟨gb280, 4, none⟩) (Kd.V_far (p := ⟨gb280, 3, none⟩) (Kd.V_far (p := ⟨gb280, 2, none⟩) (Kd.V_far (p := ⟨gb280, 1, none⟩) (Kd.V_far (p := ⟨gb280, 0, none⟩) (Kd.V_mono (Kd.V_mono HO_250001.out (fun k_ hk => (⟨hk, hk.1.2⟩ : _ ∧ k_ ≠ gb280))) (fun k_ hk => (⟨hk, hk.1.2⟩ : _ ∧ k_ ≠ gb281))) (fun _ hk => hk.1.2) (.int .u8 t265)) (fun _ hk => hk.1.2) (.int .i64 t266)) (fun _ hk => hk.1.2) (.int .i64 t267)) (fun _ hk => hk.1.2) (.int .i64 t268)) (fun _ hk => hk.1.2) (.int .i64 t269)) (fun _ hk => hk.1.2) (.int .i64 t270)) (fun _ hk => hk.1.2) (.int .i64 t271)) (fun _ hk => hk.1.2) (.int .i64 t272)) (fun _ hk => hk.1.2) (.int .i64 t273)) (fun _ hk => hk.1.2) (.int .i64 t274)) (fun _ hk => hk.2) (.int .i64 t275)) (fun _ hk => hk.2) (.slice Ao66 t276.length co66)) (fun _ hk => ⟨hk.1.1.1.1.1.1, ⟨hk.1.1.1.1.1.2.1, ⟨hk.1.1.1.1.2, ⟨hk.1.1.1.1.1.2.2, ⟨hk.1.1.1.2, hk.1.1.2⟩⟩⟩⟩⟩)⟩
     have n2_ : Aside0 (Kd.Q k35 35 ((((((((((((w60.setCell ⟨gb280, 0, none⟩ (.int .u8 t265)).setCell ⟨gb280, 1, none⟩ (.int .i64 t266)).setCell ⟨gb280, 2, none⟩ (.int .i64 t267)).setCell ⟨gb280, 3, none⟩ (.int .i64 t268)).setCell ⟨gb280, 4, none⟩ (.int .i64 t269)).setCell ⟨gb280, 5, none⟩ (.int .i64 t270)).setCell ⟨gb280, 6, none⟩ (.int .i64 t271)).setCell ⟨gb280, 7, none⟩ (.int .i64 t272)).setCell ⟨gb280, 8, none⟩ (.int .i64 t273)).setCell ⟨gb280, 9, none⟩ (.int .i64 t274)).setCell ⟨gb281, 0, none⟩ (.int .i64 t275)).setCell ⟨gb281, 1, none⟩ (.slice Ao66 t276.length co66)) w.heap.size (fun k_ => (w.heap.size ≤ k_) ∧ some k_ ≠ (u8 : Value).ownBlock ∧ k_ ≠ gb280) (.slice Ao66 t276.length co66) t276) := ⟨by (with_reducible repeat (first | apply Kd.Q_alloc | apply Kd.Q_drewN | apply Kd.Q_drew)); exact Kd.Q_mono (Kd.Q_far (p := ⟨gb281, 1, none⟩) (Kd.Q_far (p := ⟨gb281, 0, none⟩) (Kd.Q_far (p := ⟨gb280, 9, none⟩) (Kd.Q_far (p := ⟨gb280, 8, none⟩) (Kd.Q_far (p := ⟨gb280, 7, none⟩) (Kd.Q_far (p := ⟨gb280, 6, none⟩) (Kd.Q_far (p := ⟨gb280, 5, none⟩) (Kd.Q_far (p := ⟨gb280, 4, none⟩) (Kd.Q_far (p := ⟨gb280, 3, none⟩) (Kd.Q_far (p := ⟨gb280, 2, none⟩) (Kd.Q_far (p := ⟨gb280, 1, none⟩) (Kd.Q_far (p := ⟨gb280, 0, none⟩) (Kd.Q_types (Kd.Q_mono HO278.out (fun k_ hk => (⟨hk, hk.2⟩ : _ ∧ k_ ≠ gb280))) BK281.out (by decide)) (fun _ hk => hk.1.2) (.int .u8 t265)) (fun _ hk => hk.1.2) (.int .i64 t266)) (fun _ hk => hk.1.2) (.int .i64 t267)) (fun _ hk => hk.1.2) (.int .i64 t268)) (fun _ hk => hk.1.2) (.int .i64 t269)) (fun _ hk => hk.1.2) (.int .i64 t270)) (fun _ hk => hk.1.2) (.int .i64 t271)) (fun _ hk => hk.1.2) (.int .i64 t272)) (fun _ hk => hk.1.2) (.int .i64 t273)) (fun _ hk => hk.1.2) (.int .i64 t274)) (fun _ hk => hk.2) (.int .i64 t275)) (fun _ hk => hk.2) (.slice Ao66 t276.length co66)) (fun _ hk => ⟨hk.1.1.1.1.1, ⟨hk.1.1.1.2, hk.1.1.2⟩⟩)⟩
     have n3_ : Aside0 (((((((((((((w60.setCell ⟨gb280, 0, none⟩ (.int .u8 t265)).setCell ⟨gb280, 1, none⟩ (.int .i64 t266)).setCell ⟨gb280, 2, none⟩ (.int .i64 t267)).setCell ⟨gb280, 3, none⟩ (.int .i64 t268)).setCell ⟨gb280, 4, none⟩ (.int .i64 t269)).setCell ⟨gb280, 5, none⟩ (.int .i64 t270)).setCell ⟨gb280, 6, none⟩ (.int .i64 t271)).setCell ⟨gb280, 7, none⟩ (.int .i64 t272)).setCell ⟨gb280, 8, none⟩ (.int .i64 t273)).setCell ⟨gb280, 9, none⟩ (.int .i64 t274)).setCell ⟨gb281, 0, none⟩ (.int .i64 t275)).setCell ⟨gb281, 1, none⟩ (.slice Ao66 t276.length co66)).heap[gb249]? = some (.cells #[.int .i64 x250000_2, .slice Ao57 x250001_2.length co57] 24 (0, 0))) := ⟨by (with_reducible repeat (first | refine blk_drewN ?_ _ | refine blk_drew ?_ | refine blk_alloc ?_ _)); refine blk_far ?_ NB249_281.out _; (with_reducible repeat (first | refine blk_drewN ?_ _ | refine blk_drew ?_ | refine blk_alloc ?_ _)); refine blk_far ?_ NB249_281.out _; (with_reducible repeat (first | refine blk_drewN ?_ _ | refine blk_drew ?_ | refine blk_alloc ?_ _)); refine blk_far ?_ NB249_280.out _; (with_reducible repeat (first | refine blk_drewN ?_ _ | refine blk_drew ?_ | refine blk_alloc ?_ _)); refine blk_far ?_ NB249_280.out _; (with_reducible repeat (first | refine blk_drewN ?_ _ | refine blk_drew ?_ | refine blk_alloc ?_ _)); refine blk_far ?_ NB249_280.out _; (with_reducible repeat (first | refine blk_drewN ?_ _ | refine blk_drew ?_ | refine blk_alloc ?_ _)); refine blk_far ?_ NB249_280.out _; (with_reducible repeat (first | refine blk_drewN ?_ _ | refine blk_drew ?_ | refine blk_alloc ?_ _)); refine blk_far ?_ NB249_280.out _; (with_reducible repeat (first | refine blk_drewN ?_ _ | refine blk_drew ?_ | refine blk_alloc ?_ _)); refine blk_far ?_ NB249_280.out _; (with_reducible repeat (first | refine blk_drewN ?_ _ | refine blk_drew ?_ | refine blk_alloc ?_ _)); refine blk_far ?_ NB249_280.out _; (with_reducible repeat (first | refine blk_drewN ?_ _ | refine blk_drew ?_ | refine blk_alloc ?_ _)); refine blk_far ?_ NB249_280.out _; (with_reducible repeat (first | refine blk_drewN ?_ _ | refine blk_drew ?_ | refine blk_alloc ?_ _)); refine blk_far ?_ NB249_280.out _; (with_reducible repeat (first | refine blk_drewN ?_ _ | refine blk_drew ?_ | refine blk_alloc ?_ _)); refine blk_far ?_ NB249_280.out _; (with_reducible repeat (first | refine blk_drewN ?_ _ | refine blk_drew ?_ | refine blk_alloc ?_ _)); exact BK249.out⟩
     have n4_ : Aside0 (((((((((((((w60.setCell ⟨gb280, 0, none⟩ (.int .u8 t265)).setCell ⟨gb280, 1, none⟩ (.int .i64 t266)).setCell ⟨gb280, 2, none⟩ (.int .i64 t267)).setCell ⟨gb280, 3, none⟩ (.int .i64 t268)).setCell ⟨gb280, 4, none⟩ (.int .i64 t269)).setCell ⟨gb280, 5, none⟩ (.int .i64 t270)).setCell ⟨gb280, 6, none⟩ (.int .i64 t271)).setCell ⟨gb280, 7, none⟩ (.int .i64 t272)).setCell ⟨gb280, 8, none⟩ (.int .i64 t273)).setCell ⟨gb280, 9, none⟩ (.int .i64 t274)).setCell ⟨gb281, 0, none⟩ (.int .i64 t275)).setCell ⟨gb281, 1, none⟩ (.slice Ao66 t276.length co66)).heap[gb280]? = some (.cells #[.int .u8 t265, .int .i64 t266, .int .i64 t267, .int .i64 t268, .int .i64 t269, .int .i64 t270, .int .i64 t271, .int .i64 t272, .int .i64 t273, .int .i64 t274] 35 (0, 0))) := ⟨by (with_reducible repeat (first | refine blk_drewN ?_ _ | refine blk_drew ?_ | refine blk_alloc ?_ _)); refine blk_far ?_ NB280_281.out _; (with_reducible repeat (first | refine blk_drewN ?_ _ | refine blk_drew ?_ | refine blk_alloc ?_ _)); refine blk_far ?_ NB280_281.out _; (with_reducible repeat (first | refine blk_drewN ?_ _ | refine blk_drew ?_ | refine blk_alloc ?_ _)); refine blk_put (cs := #[.int .u8 t265, .int .i64 t266, .int .i64 t267, .int .i64 t268, .int .i64 t269, .int .i64 t270, .int .i64 t271, .int .i64 t272, .int .i64 t273, .int .i64 0]) ?_ 9 _ rfl; (with_reducible repeat (first | refine blk_drewN ?_ _ | refine blk_drew ?_ | refine blk_alloc ?_ _)); refine blk_put (cs := #[.int .u8 t265, .int .i64 t266, .int .i64 t267, .int .i64 t268, .int .i64 t269, .int .i64 t270, .int .i64 t271, .int .i64 t272, .int .i64 0, .int .i64 0]) ?_ 8 _ rfl; (with_reducible repeat (first | refine blk_drewN ?_ _ | refine blk_drew ?_ | refine blk_alloc ?_ _)); refine blk_put (cs := #[.int .u8 t265, .int .i64 t266, .int .i64 t267, .int .i64 t268, .int .i64 t269, .int .i64 t270, .int .i64 t271, .int .i64 0, .int .i64 0, .int .i64 0]) ?_ 7 _ rfl; (with_reducible repeat (first | refine blk_drewN ?_ _ | refine blk_drew ?_ | refine blk_alloc ?_ _)); refine blk_put (cs := #[.int .u8 t265, .int .i64 t266, .int .i64 t267, .int .i64 t268, .int .i64 t269, .int .i64 t270, .int .i64 0, .int .i64 0, .int .i64 0, .int .i64 0]) ?_ 6 _ rfl; (with_reducible repeat (first | refine blk_drewN ?_ _ | refine blk_drew ?_ | refine blk_alloc ?_ _)); refine blk_put (cs := #[.int .u8 t265, .int .i64 t266, .int .i64 t267, .int .i64 t268, .int .i64 t269, .int .i64 0, .int .i64 0, .int .i64 0, .int .i64 0, .int .i64 0]) ?_ 5 _ rfl; (with_reducible repeat (first | refine blk_drewN ?_ _ | refine blk_drew ?_ | refine blk_alloc ?_ _)); refine blk_put (cs := #[.int .u8 t265, .int .i64 t266, .int .i64 t267, .int .i64 t268, .int .i64 0, .int .i64 0, .int .i64 0, .int .i64 0, .int .i64 0, .int .i64 0]) ?_ 4 _ rfl; (with_reducible repeat (first | refine blk_drewN ?_ _ | refine blk_drew ?_ | refine blk_alloc ?_ _)); refine blk_put (cs := #[.int .u8 t265, .int .i64 t266, .int .i64 t267, .int .i64 0, .int .i64 0, .int .i64 0, .int .i64 0, .int .i64 0, .int .i64 0, .int .i64 0]) ?_ 3 _ rfl; (with_reducible repeat (first | refine blk_drewN ?_ _ | refine blk_drew ?_ | refine blk_alloc ?_ _)); refine blk_put (cs := #[.int .u8 t265, .int .i64 t266, .int .i64 0, .int .i64 0, .int .i64 0, .int .i64 0, .int .i64 0, .int .i64 0, .int .i64 0, .int .i64 0]) ?_ 2 _ rfl; (with_reducible repeat (first | refine blk_drewN ?_ _ | refine blk_drew ?_ | refine blk_alloc ?_ _)); refine blk_put (cs := #[.int .u8 t265, .int .i64 0, .int .i64 0, .int .i64 0, .int .i64 0, .int .i64 0, .int .i64 0, .int .i64 0, .int .i64 0, .int .i64 0]) ?_ 1 _ rfl; (with_reducible repeat (first | refine blk_drewN ?_ _ | refine blk_drew ?_ | refine blk_alloc ?_ _)); refine blk_put (cs := #[.int .u8 0, .int .i64 0, .int .i64 0, .int .i64 0, .int .i64 0, .int .i64 0, .int .i64 0, .int .i64 0, .int .i64 0, .int .i64 0]) ?_ 0 _ rfl; (with_reducible repeat (first | refine blk_drewN ?_ _ | refine blk_drew ?_ | refine blk_alloc ?_ _)); exact BK280.out⟩
     have n5_ : Aside0 (((((((((((((w60.setCell ⟨gb280, 0, none⟩ (.int .u8 t265)).setCell ⟨gb280, 1, none⟩ (.int .i64 t266)).setCell ⟨gb280, 2, none⟩ (.int .i64 t267)).setCell ⟨gb280, 3, none⟩ (.int .i64 t268)).setCell ⟨gb280, 4, none⟩ (.int .i64 t269)).setCell ⟨gb280, 5, none⟩ (.int .i64 t270)).setCell ⟨gb280, 6, none⟩ (.int .i64 t271)).setCell ⟨gb280, 7, none⟩ (.int .i64 t272)).setCell ⟨gb280, 8, none⟩ (.int .i64 t273)).setCell ⟨gb280, 9, none⟩ (.int .i64 t274)).setCell ⟨gb281, 0, none⟩ (.int .i64 t275)).setCell ⟨gb281, 1, none⟩ (.slice Ao66 t276.length co66)).heap[gb281]? = some (.cells #[.int .i64 t275, .slice Ao66 t276.length co66] 24 (0, 0))) := ⟨by (with_reducible repeat (first | refine blk_drewN ?_ _ | refine blk_drew ?_ | refine blk_alloc ?_ _)); refine blk_put (cs := #[.int .i64 t275, .slice none 0 0]) ?_ 1 _ rfl; (with_reducible repeat (first | refine blk_drewN ?_ _ | refine blk_drew ?_ | refine blk_alloc ?_ _)); refine blk_put (cs := #[.int .i64 0, .slice none 0 0]) ?_ 0 _ rfl; (with_reducible repeat (first | refine blk_drewN ?_ _ | refine blk_drew ?_ | refine blk_alloc ?_ _)); refine blk_far ?_ NB281_280.out _; (with_reducible repeat (first | refine blk_drewN ?_ _ | refine blk_drew ?_ | refine blk_alloc ?_ _)); refine blk_far ?_ NB281_280.out _; (with_reducible repeat (first | refine blk_drewN ?_ _ | refine blk_drew ?_ | refine blk_alloc ?_ _)); refine blk_far ?_ NB281_280.out _; (with_reducible repeat (first | refine blk_drewN ?_ _ | refine blk_drew ?_ | refine blk_alloc ?_ _)); refine blk_far ?_ NB281_280.out _; (with_reducible repeat (first | refine blk_drewN ?_ _ | refine blk_drew ?_ | refine blk_alloc ?_ _)); refine blk_far ?_ NB281_280.out _; (with_reducible repeat (first | refine blk_drewN ?_ _ | refine blk_drew ?_ | refine blk_alloc ?_ _)); refine blk_far ?_ NB281_280.out _; (with_reducible repeat (first | refine blk_drewN ?_ _ | refine blk_drew ?_ | refine blk_alloc ?_ _)); refine blk_far ?_ NB281_280.out _; (with_reducible repeat (first | refine blk_drewN ?_ _ | refine blk_drew ?_ | refine blk_alloc ?_ _)); refine blk_far ?_ NB281_280.out _; (with_reducible repeat (first | refine blk_drewN ?_ _ | refine blk_drew ?_ | refine blk_alloc ?_ _)); refine blk_far ?_ NB281_280.out _; (with_reducible repeat (first | refine blk_drewN ?_ _ | refine blk_drew ?_ | refine blk_alloc ?_ _)); refine blk_far ?_ NB281_280.out _; (with_reducible repeat (first | refine blk_drewN ?_ _ | refine blk_drew ?_ | refine blk_alloc ?_ _)); exact BK281.out⟩
     have n6_ : Aside0 (Below w.heap.size w ((((((((((((w60.setCell ⟨gb280, 0, none⟩ (.int .u8 t265)).setCell ⟨gb280, 1, none⟩ (.int .i64 t266)).setCell ⟨gb280, 2, none⟩ (.int .i64 t267)).setCell ⟨gb280, 3, none⟩ (.int .i64 t268)).setCell ⟨gb280, 4, none⟩ (.int .i64 t269)).setCell ⟨gb280, 5, none⟩ (.int .i64 t270)).setCell ⟨gb280, 6, none⟩ (.int .i64 t271)).setCell ⟨gb280, 7, none⟩ (.int .i64 t272)).setCell ⟨gb280, 8, none⟩ (.int .i64 t273)).setCell ⟨gb280, 9, none⟩ (.int .i64 t274)).setCell ⟨gb281, 0, none⟩ (.int .i64 t275)).setCell ⟨gb281, 1, none⟩ (.slice Ao66 t276.length co66))) := ⟨by repeat (first | (with_reducible first | exact HB.out | apply below_alloc | apply pw_below_drewN | apply below_drew1 | refine below_set ?_ GE249.out | refine below_set ?_ GE280.out | refine below_set ?_ GE281.out) | exact HB.out)⟩
     (try clear HO_8)
     (try clear HO_250001)
     (try clear HO278)
     (try clear BK249)
     (try clear BK280)
     (try clear BK281)
     (try clear HB)
     generalize ((((((((((((w60.setCell ⟨gb280, 0, none⟩ (.int .u8 t265)).setCell ⟨gb280, 1, none⟩ (.int .i64 t266)).setCell ⟨gb280, 2, none⟩ (.int .i64 t267)).setCell ⟨gb280, 3, none⟩ (.int .i64 t268)).setCell ⟨gb280, 4, none⟩ (.int .i64 t269)).setCell ⟨gb280, 5, none⟩ (.int .i64 t270)).setCell ⟨gb280, 6, none⟩ (.int .i64 t271)).setCell ⟨gb280, 7, none⟩ (.int .i64 t272)).setCell ⟨gb280, 8, none⟩ (.int .i64 t273)).setCell ⟨gb280, 9, none⟩ (.int .i64 t274)).setCell ⟨gb281, 0, none⟩ (.int .i64 t275)).setCell ⟨gb281, 1, none⟩ (.slice Ao66 t276.length co66)) = w67 at n0_ n1_ n2_ n3_ n4_ n5_ n6_ ⊢
     have HO_8 := n0_
     have HO_250001 := n1_
     have HO278 := n2_
     have BK249 := n3_
     have BK280 := n4_
     have BK281 := n5_
     have HB := n6_
     clear n0_ n1_ n2_ n3_ n4_ n5_ n6_
     have n0_ := Aside0.mk (Kd.R_drew HO_8.out)
     have n1_ := Aside0.mk (Kd.V_drew HO_250001.out)
     have n2_ := Aside0.mk (Kd.Q_drew HO278.out)
     have n3_ := Aside0.mk (blk_drew BK249.out)
     have n4_ := Aside0.mk (blk_drew BK280.out)
     have n5_ := Aside0.mk (blk_drew BK281.out)
     have n6_ := Aside0.mk (below_drew1 HB.out)
     clear HO_8
     clear HO_250001
     clear HO278
     clear BK249
     clear BK280
     clear BK281
     clear HB
     have HO_8 := n0_
     have HO_250001 := n1_
     have HO278 := n2_
     have BK249 := n3_
     have BK280 := n4_
     have BK281 := n5_
     have HB := n6_
     clear n0_ n1_ n2_ n3_ n4_ n5_ n6_
     obtain ⟨Ao69, co69, eo69⟩ := Kd.R_slice HO_8.out
     (first | subst eo69 | (injection eo69 with f1_ f2_ f3_; have f4_ := f1_.symm; have f5_ := f3_.symm; clear f1_ f2_ f3_; subst f4_; subst f5_))
     have p282 : 0 ≤ (x10_2 : Int) := of_decide_eq_true (by first | (with_reducible assumption) | assumption)
     have q282 : x10_2 < (x8_2.length : Int) := of_decide_eq_true (by first | (with_reducible assumption) | assumption)
     obtain ⟨ad282, e282, hx282_0, hx282_1, hx282_2, hx282_3, hx282_4, hx282_5, hx282_6, hx282_7, hx282_8, hx282_9⟩ := at_T35 (Kd.R_reads' HO_8.out).2.2 x10_2 p282 q282
     cases e282
     replace p282 := eq_true p282
     replace q282 := eq_true q282
     refine start_ (n := 16) (S := fun w' => w'.cell? ⟨gb280, 0, none⟩ = some (.int .u8 t265) ∧ w'.cell? ⟨gb280, 1, none⟩ = some (.int .i64 t266) ∧ w'.cell? ⟨gb280, 2, none⟩ = some (.int .i64 t267) ∧ w'.cell? ⟨gb280, 3, none⟩ = some (.int .i64 t268) ∧ w'.cell? ⟨gb280, 4, none⟩ = some (.int .i64 t269) ∧ w'.cell? ⟨gb280, 5, none⟩ = some (.int .i64 t270) ∧ w'.cell? ⟨gb280, 6, none⟩ = some (.int .i64 t271) ∧ w'.cell? ⟨gb280, 7, none⟩ = some (.int .i64 t272) ∧ w'.cell? ⟨gb280, 8, none⟩ = some (.int .i64 t273) ∧ w'.cell? ⟨gb280, 9, none⟩ = some (.int .i64 t274) ∧ w'.cell? (ad282.add ((x10_2).toNat * 10)) = some (.int .u8 ((rd_T35 x8_2 x10_2).f0)) ∧ w'.cell? ⟨(ad282.add ((x10_2).toNat * 10)).block, (ad282.add ((x10_2).toNat * 10)).off + 1, none⟩ = some (.int .i64 ((rd_T35 x8_2 x10_2).f1.f0)) ∧ w'.cell? ⟨(ad282.add ((x10_2).toNat * 10)).block, (ad282.add ((x10_2).toNat * 10)).off + 2, none⟩ = some (.int .i64 ((rd_T35 x8_2 x10_2).f1.f1)) ∧ w'.cell? ⟨(ad282.add ((x10_2).toNat * 10)).block, (ad282.add ((x10_2).toNat * 10)).off + 3, none⟩ = some (.int .i64 ((rd_T35 x8_2 x10_2).f1.f2)) ∧ w'.cell? ⟨(ad282.add ((x10_2).toNat * 10)).block, (ad282.add ((x10_2).toNat * 10)).off + 4, none⟩ = some (.int .i64 ((rd_T35 x8_2 x10_2).f2)) ∧ w'.cell? ⟨(ad282.add ((x10_2).toNat * 10)).block, (ad282.add ((x10_2).toNat * 10)).off + 5, none⟩ = some (.int .i64 ((rd_T35 x8_2 x10_2).f3.f0)) ∧ w'.cell? ⟨(ad282.add ((x10_2).toNat * 10)).block, (ad282.add ((x10_2).toNat * 10)).off + 6, none⟩ = some (.int .i64 ((rd_T35 x8_2 x10_2).f3.f1.f0)) ∧ w'.cell? ⟨(ad282.add ((x10_2).toNat * 10)).block, (ad282.add ((x10_2).toNat * 10)).off + 7, none⟩ = some (.int .i64 ((rd_T35 x8_2 x10_2).f3.f1.f1)) ∧ w'.cell? ⟨(ad282.add ((x10_2).toNat * 10)).block, (ad282.add ((x10_2).toNat * 10)).off + 8, none⟩ = some (.int .i64 ((rd_T35 x8_2 x10_2).f3.f2.f0)) ∧ w'.cell? ⟨(ad282.add ((x10_2).toNat * 10)).block, (ad282.add ((x10_2).toNat * 10)).off + 9, none⟩ = some (.int .i64 ((rd_T35 x8_2 x10_2).f3.f2.f1))) (ds := []) #[false, false, false, false, false, false, false, false, false, false, false, false, false, false, false, false] (by kernel_rfl) rfl rfl ⟨(blk_cell BK280.out 0).trans rfl, (blk_cell BK280.out 1).trans rfl, (blk_cell BK280.out 2).trans rfl, (blk_cell BK280.out 3).trans rfl, (blk_cell BK280.out 4).trans rfl, (blk_cell BK280.out 5).trans rfl, (blk_cell BK280.out 6).trans rfl, (blk_cell BK280.out 7).trans rfl, (blk_cell BK280.out 8).trans rfl, (blk_cell BK280.out 9).trans rfl, hx282_0, hx282_1, hx282_2, hx282_3, hx282_4, hx282_5, hx282_6, hx282_7, hx282_8, hx282_9⟩ (fun hHeld => ?_); refine with_tabW tailwaterlaw26_ChannelFirst.tab14 tailwaterlaw26_ChannelFirst.bits14 (fun HT_ HW_ => ?_)
     generalize w67.drew = w68 at HO_8 HO_250001 HO278 BK249 BK280 BK281 HB hx282_0 hx282_1 hx282_2 hx282_3 hx282_4 hx282_5 hx282_6 hx282_7 hx282_8 hx282_9 hHeld ⊢
     refine pure_ (i := 0) (N := some 69) (v := ?_) (a' := ?_) #[true, false, false, false, false, false, false, false, false, false, false, false, false, false, false, false] rfl rfl (any_of HT_.out (by kernel_rfl)) (fun _ _ _ h => h) (Or.inl ⟨by rfl, ?_⟩) ?_ ?_
     rotate_left
     · intro w'
       go_simp
       with_reducible rfl
     rotate_left
     · simp only [Act.put, List.setIfInBounds_toArray, List.set_cons_zero, List.set_cons_succ, i64_w, i32_w]
       rfl
     refine pure_ (i := 1) (N := some 70) (v := ?_) (a' := ?_) #[true, true, false, false, false, false, false, false, false, false, false, false, false, false, false, false] rfl rfl (any_of HT_.out (by kernel_rfl)) (fun _ _ _ h => h) (Or.inl ⟨by rfl, ?_⟩) ?_ ?_
     rotate_left
     · intro w'
       go_simp
       with_reducible rfl
     rotate_left
     · simp only [Act.put, List.setIfInBounds_toArray, List.set_cons_zero, List.set_cons_succ, i64_w, i32_w]
       rfl
     refine pure_ (i := 2) (N := some 71) (v := ?_) (a' := ?_) #[true, true, true, false, false, false, false, false, false, false, false, false, false, false, false, false] rfl rfl (any_of HT_.out (by kernel_rfl)) (fun _ _ _ h => h) (Or.inl ⟨by rfl, ?_⟩) ?_ ?_
     rotate_left
     · intro w'
       go_simp
       with_reducible rfl
     rotate_left
     · simp only [Act.put, List.setIfInBounds_toArray, List.set_cons_zero, List.set_cons_succ, i64_w, i32_w]
       rfl
     refine pure_ (i := 3) (N := some 72) (v := ?_) (a' := ?_) #[true, true, true, true, false, false, false, false, false, false, false, false, false, false, false, false] rfl rfl (any_of HT_.out (by kernel_rfl)) (fun _ _ _ h => h) (Or.inl ⟨by rfl, ?_⟩) ?_ ?_
     rotate_left
     · intro w'
       go_simp
       with_reducible rfl
     rotate_left
     · simp only [Act.put, List.setIfInBounds_toArray, List.set_cons_zero, List.set_cons_succ, i64_w, i32_w]
       rfl
     refine pure_ (i := 4) (N := some 73) (v := ?_) (a' := ?_) #[true, true, true, true, true, false, false, false, false, false, false, false, false, false, false, false] rfl rfl (any_of HT_.out (by kernel_rfl)) (fun _ _ _ h => h) (Or.inl ⟨by rfl, ?_⟩) ?_ ?_
     rotate_left
     · intro w'
       go_simp
       with_reducible rfl
     rotate_left
     · simp only [Act.put, List.setIfInBounds_toArray, List.set_cons_zero, List.set_cons_succ, i64_w, i32_w]
       rfl
     refine pure_ (i := 5) (N := some 74) (v := ?_) (a' := ?_) #[true, true, true, true, true, true, false, false, false, false, false, false, false, false, false, false] rfl rfl (any_of HT_.out (by kernel_rfl)) (fun _ _ _ h => h) (Or.inl ⟨by rfl, ?_⟩) ?_ ?_
     rotate_left
     · intro w'
       go_simp
       with_reducible rfl
     rotate_left
     · simp only [Act.put, List.setIfInBounds_toArray, List.set_cons_zero, List.set_cons_succ, i64_w, i32_w]
       rfl
     refine pure_ (i := 6) (N := some 75) (v := ?_) (a' := ?_) #[true, true, true, true, true, true, true, false, false, false, false, false, false, false, false, false] rfl rfl (any_of HT_.out (by kernel_rfl)) (fun _ _ _ h => h) (Or.inl ⟨by rfl, ?_⟩) ?_ ?_
     rotate_left
     · intro w'
       go_simp
       with_reducible rfl
     rotate_left
     · simp only [Act.put, List.setIfInBounds_toArray, List.set_cons_zero, List.set_cons_succ, i64_w, i32_w]
       rfl
     refine pure_ (i := 7) (N := some 76) (v := ?_) (a' := ?_) #[true, true, true, true, true, true, true, true, false, false, false, false, false, false, false, false] rfl rfl (any_of HT_.out (by kernel_rfl)) (fun _ _ _ h => h) (Or.inl ⟨by rfl, ?_⟩) ?_ ?_
     rotate_left
     · intro w'
       go_simp
       with_reducible rfl
     rotate_left
     · simp only [Act.put, List.setIfInBounds_toArray, List.set_cons_zero, List.set_cons_succ, i64_w, i32_w]
       rfl
     refine pure_ (i := 8) (N := some 77) (v := ?_) (a' := ?_) #[true, true, true, true, true, true, true, true, true, false, false, false, false, false, false, false] rfl rfl (any_of HT_.out (by kernel_rfl)) (fun _ _ _ h => h) (Or.inl ⟨by rfl, ?_⟩) ?_ ?_
     rotate_left
     · intro w'
       go_simp
       with_reducible rfl
     rotate_left
     · simp only [Act.put, List.setIfInBounds_toArray, List.set_cons_zero, List.set_cons_succ, i64_w, i32_w]
       rfl
     refine pure_ (i := 10) (N := some 79) (v := ?_) (a' := ?_) #[true, true, true, true, true, true, true, true, true, false, true, false, false, false, false, false] rfl rfl (any_of HT_.out (by kernel_rfl)) (fun _ _ _ h => h) (Or.inl ⟨by rfl, ?_⟩) ?_ ?_
     rotate_left
     · intro w'
       go_simp
       with_reducible rfl
     rotate_left
     · simp only [Act.put, List.setIfInBounds_toArray, List.set_cons_zero, List.set_cons_succ, i64_w, i32_w]
       rfl
     refine pure_ (i := 11) (N := some 80) (v := ?_) (a' := ?_) #[true, true, true, true, true, true, true, true, true, false, true, true, false, false, false, false] rfl rfl (any_of HT_.out (by kernel_rfl)) (fun _ _ _ h => h) (Or.inl ⟨by rfl, ?_⟩) ?_ ?_
     rotate_left
     · intro w'
       go_simp
       with_reducible rfl
     rotate_left
     · simp only [Act.put, List.setIfInBounds_toArray, List.set_cons_zero, List.set_cons_succ, i64_w, i32_w]
       rfl
     refine pure_ (i := 12) (N := some 81) (v := ?_) (a' := ?_) #[true, true, true, true, true, true, true, true, true, false, true, true, true, false, false, false] rfl rfl (any_of HT_.out (by kernel_rfl)) (fun _ _ _ h => h) (Or.inl ⟨by rfl, ?_⟩) ?_ ?_
     rotate_left
     · intro w'
       go_simp
       with_reducible rfl
     rotate_left
     · simp only [Act.put, List.setIfInBounds_toArray, List.set_cons_zero, List.set_cons_succ, i64_w, i32_w]
       rfl
     refine take_ (i := 9) (N := some 78) (v := ?_) (a' := ?_) #[true, true, true, true, true, true, true, true, true, true, true, true, true, false, false, false] rfl rfl (take_ofW HT_.out HW_.out (by kernel_rfl)) (fun _ _ _ h => h) (Or.inl ⟨by rfl, ?_⟩) hHeld ?_ ?_
     rotate_left
     · rintro w' ⟨s0, s1, s2, s3, s4, s5, s6, s7, s8, s9, s10, s11, s12, s13, s14, s15, s16, s17, s18, s19⟩
       go_simp
       with_reducible rfl
     rotate_left
     · simp only [Act.put, List.setIfInBounds_toArray, List.set_cons_zero, List.set_cons_succ, i64_w, i32_w]
       rfl
     refine take_ (i := 13) (N := some 82) (v := ?_) (a' := ?_) #[true, true, true, true, true, true, true, true, true, true, true, true, true, true, false, false] rfl rfl (take_ofW HT_.out HW_.out (by kernel_rfl)) (fun _ _ _ h => h) (Or.inl ⟨by rfl, ?_⟩) hHeld ?_ ?_
     rotate_left
     · rintro w' ⟨s0, s1, s2, s3, s4, s5, s6, s7, s8, s9, s10, s11, s12, s13, s14, s15, s16, s17, s18, s19⟩
       go_simp
       with_reducible rfl
     rotate_left
     · simp only [Act.put, List.setIfInBounds_toArray, List.set_cons_zero, List.set_cons_succ, i64_w, i32_w]
       rfl
     refine pure_ (i := 14) (N := some 83) (v := ?_) (a' := ?_) #[true, true, true, true, true, true, true, true, true, true, true, true, true, true, true, false] rfl rfl (any_of HT_.out (by kernel_rfl)) (fun _ _ _ h => h) (Or.inl ⟨by rfl, ?_⟩) ?_ ?_
     rotate_left
     · intro w'
       go_simp
       with_reducible rfl
     rotate_left
     · simp only [Act.put, List.setIfInBounds_toArray, List.set_cons_zero, List.set_cons_succ, i64_w, i32_w]
       rfl
     refine pure_ (i := 15) (N := some 84) (v := ?_) (a' := ?_) #[true, true, true, true, true, true, true, true, true, true, true, true, true, true, true, true] rfl rfl (any_of HT_.out (by kernel_rfl)) (fun _ _ _ h => h) (Or.inl ⟨by rfl, ?_⟩) ?_ ?_
     rotate_left
     · intro w'
       go_simp
       with_reducible rfl
     rotate_left
     · simp only [Act.put, List.setIfInBounds_toArray, List.set_cons_zero, List.set_cons_succ, i64_w, i32_w]
       rfl
     refine done_ (done_of HT_.out (by kernel_rfl)) ?_
     have hcz70_0 : w68.cell? ⟨gb281, 0, none⟩ = some (.int .i64 t275) := (blk_cell BK281.out 0).trans rfl
     have hcz70_1 : w68.cell? ⟨gb281, 1, none⟩ = some (.slice Ao66 t276.length co66) := (blk_cell BK281.out 1).trans rfl
     have hfz70_0 := blk_frozen BK281.out 0
     have hfz70_1 := blk_frozen BK281.out 1
     have hcz71_0 : w68.cell? ⟨gb249, 0, none⟩ = some (.int .i64 x250000_2) := (blk_cell BK249.out 0).trans rfl
     have hcz71_1 : w68.cell? ⟨gb249, 1, none⟩ = some (.slice Ao57 x250001_2.length co57) := (blk_cell BK249.out 1).trans rfl
     have hfz71_0 := blk_frozen BK249.out 0
     have hfz71_1 := blk_frozen BK249.out 1
     try go_wp2
     go_roundg k2
     case measure => have := HJ4.out; have := HK2.out; omega
     case rel => exact ⟨(x8_2), (x9_2), (wrap64 (x10_2 + 1)), (wrap64 (x11_2 + 1)), (t275), (t276), (.slice Ao66 t276.length co66), (by first | rfl | (simp; done) | (simp [*]; done)), (by first | rfl | (simp; done) | (simp [*]; done)), (by first | rfl | (simp; done) | (simp [*]; done)), H', ⟨by have := HJ4.out; have := HK2.out; omega⟩, ⟨by (with_reducible repeat (first | apply Kd.R_alloc | apply Kd.R_drewN | apply Kd.R_drew)); exact Kd.R_mono (Kd.R_far (p := ⟨gb249, 1, none⟩) (Kd.R_far (p := ⟨gb249, 0, none⟩) (Kd.R_types HO_8.out BK249.out (by decide)) (fun _ hk => hk.2) (.int .i64 t275)) (fun _ hk => hk.2) (.slice Ao66 t276.length co66)) (fun _ hk => hk.1.1)⟩, ⟨Kd.V_mono (Kd.Q_V (Kd.Q_far (p := ⟨gb249, 1, none⟩) (Kd.Q_far (p := ⟨gb249, 0, none⟩) (Kd.Q_types (Kd.Q_types HO278.out BK249.out (by decide)) BK249.out (by decide)) (fun _ hk => hk.2) (.int .i64 t275)) (fun _ hk => hk.2) (.slice Ao66 t276.length co66))) (fun k_ hk => ⟨.inr hk.1.1.1, ⟨hk.1.1.2.1, hk.1.2⟩⟩)⟩, ⟨by (with_reducible repeat (first | refine blk_drewN ?_ _ | refine blk_drew ?_ | refine blk_alloc ?_ _)); refine blk_put (cs := #[.int .i64 t275, .slice Ao57 x250001_2.length co57]) ?_ 1 _ rfl; (with_reducible repeat (first | refine blk_drewN ?_ _ | refine blk_drew ?_ | refine blk_alloc ?_ _)); refine blk_put (cs := #[.int .i64 x250000_2, .slice Ao57 x250001_2.length co57]) ?_ 0 _ rfl; (with_reducible repeat (first | refine blk_drewN ?_ _ | refine blk_drew ?_ | refine blk_alloc ?_ _)); exact BK249.out⟩, ⟨by repeat (first | (with_reducible first | exact HB.out | apply below_alloc | apply pw_below_drewN | apply below_drew1 | refine below_set ?_ GE249.out | refine below_set ?_ GE280.out | refine below_set ?_ GE281.out) | exact HB.out)⟩⟩


end Go.Proofs.Ytiilljmhddjmeaa.Q
