/- Calls whose arguments are slices written down on the spot: each a row of its own, just made. No condition but that the row is short. -/
import Derived.Test.YtidpnehbmjfdlaaQ6
import Derived.Test.YtidpnehbmjfdlaaQ9
namespace Go.Proofs.Ytidpnehbmjfdlaa.Q
open Go.RowKit Go.Proofs.YtidpnehbmjfdlaaW.PrintWords Go.Proofs.YtidpnehbmjfdlaaW.PrintLast
set_option linter.unusedVariables false
set_option linter.unusedSimpArgs false
theorem drawn_below {w w' : World} (h : Drawn0 w w') : Below w.heap.size w w' := by
  obtain ⟨n, rfl⟩ := h
  exact pw_below_drewN (Below.refl w.heap.size w) n
theorem C_row {w : World} {g : Nat} {xs : List Int} (h : w.heap[g]? = some (.cells (xs.map (Value.int .i64)).toArray 2 (0, 0))) (hl : xs.length ≤ 1000) : Kd.C (Kd.int .i64) w (some ⟨g, 0, none⟩) xs.length xs :=
  Kd.C_of_reads (d := (0 : Int)) ⟨rfl, by omega, fun _ => ⟨⟨g, 0, none⟩, rfl, fun j hj => by
    have h1 := (blk_cell h j)
    have h2 : Addr.add ⟨g, 0, none⟩ j = ⟨g, j, none⟩ := by
      simp [Addr.add]
      try exact fun h => h.symm
    rw [h2, h1]
    simp [hj, List.getD_eq_getElem?_getD]⟩⟩
theorem refused_nil (k : Nat) (r : Bool) (w : World) (h : tailwaterlaw31_refused.f k [] = some r) : Calls Try.prog 18 #[.slice none 0 0] w fun e w' => e = .returned (.bool r) ∧ Below w.heap.size w w' := tailwaterlaw31_refused.calls k none 0 [] r w (Kd.C_nil _ _) (Nat.le_refl _) h
theorem refused_lit (k : Nat) (xs : List Int) (r : Bool) {n : Nat} {cs : Array Value} {w : World} (hc : cs = (xs.map (Value.int .i64)).toArray) (hn : n = xs.length) (hl : xs.length ≤ 1000) (h : tailwaterlaw31_refused.f k xs = some r) :
    Calls Try.prog 18 #[.slice (some ⟨w.heap.size, 0, none⟩) n n] (w.alloc (.cells cs 2)) fun e w' => e = .returned (.bool r) ∧ Below w.heap.size w w' := by
  subst hc hn
  refine (tailwaterlaw31_refused.calls k _ _ xs r _ (C_row (blk_new w _) hl) (Nat.le_refl _) h).mono ?_
  rintro e w' ⟨he, hb⟩
  exact ⟨he, below_step (below_alloc (Below.refl _ _) _) hb⟩
theorem same_lit (k : Nat) (ys xs : List Int) (r : Bool) {A : Option Addr} {c n : Nat} {cs : Array Value} {w : World} (hy : Kd.C (Kd.int .i64) w A ys.length ys) (hyc : ys.length ≤ c) (hc : cs = (xs.map (Value.int .i64)).toArray) (hn : n = xs.length) (hl : xs.length ≤ 1000) (h : tailwaterref31_Same.f k ys xs = some r) :
    Calls Try.prog 13 #[.slice A ys.length c, .slice (some ⟨w.heap.size, 0, none⟩) n n] (w.alloc (.cells cs 2)) fun e w' => e = .returned (.bool r) ∧ Below w.heap.size w w' := by
  subst hc hn
  refine (tailwaterref31_Same.calls k _ _ ys _ _ xs r _ (Kd.C_below hy (below_alloc (Below.refl _ _) _)) hyc (C_row (blk_new w _) hl) (Nat.le_refl _) h).mono ?_
  rintro e w' ⟨he, hd⟩
  exact ⟨he, below_step (below_alloc (Below.refl _ _) _) (drawn_below hd)⟩
theorem raises_lit (k : Nat) (xs : List Int) (a1 a2 : Int) (a3 : Bool) (ys : List Int) (r : Bool) {n m : Nat} {cs ds : Array Value} {w : World} (hc : cs = (xs.map (Value.int .i64)).toArray) (hn : n = xs.length) (hl : xs.length ≤ 1000) (hd : ds = (ys.map (Value.int .i64)).toArray) (hm : m = ys.length) (hk : ys.length ≤ 1000) (h : tailwaterlaw31_raises.f k xs a1 a2 a3 ys = some r) :
    Calls Try.prog 19 #[.slice (some ⟨w.heap.size, 0, none⟩) n n, .int .i64 a1, .int .i64 a2, .bool a3, .slice (some ⟨w.heap.size + 1, 0, none⟩) m m] ((w.alloc (.cells cs 2)).alloc (.cells ds 2)) fun e w' => e = .returned (.bool r) ∧ Below w.heap.size w w' := by
  subst hc hn hd hm
  have e : (w.alloc (.cells (xs.map (Value.int .i64)).toArray 2)).heap.size = w.heap.size + 1 := by simp only [World.alloc, Array.size_push]
  have h2 := blk_new (w.alloc (.cells (xs.map (Value.int .i64)).toArray 2)) (.cells (ys.map (Value.int .i64)).toArray 2)
  rewrite [e] at h2
  refine (tailwaterlaw31_raises.calls k _ _ xs a1 a2 a3 _ _ ys r _ (C_row (blk_alloc (blk_new w _) _) hl) (Nat.le_refl _) (C_row h2 hk) (Nat.le_refl _) h).mono ?_
  rintro e' w' ⟨he, hb⟩
  exact ⟨he, below_step (below_alloc (below_alloc (Below.refl _ _) _) _) hb⟩
end Go.Proofs.Ytidpnehbmjfdlaa.Q
