/- The closure of late.marker, by contracts: making it lays one cell that holds the lowest mark; a call of it hands back what the cell held, and raises it by a mark. No condition. -/
import Derived.Test.YtdmaedaobjcocaaQ0
import Derived.OneCell
namespace Go.Proofs.Ytdmaedaobjcocaa.Q
open Go.RowKit Go.Proofs.YtdmaedaobjcocaaW.PrintWords Go.Proofs.YtdmaedaobjcocaaW.PrintLast Go.Proofs.YtdmaedaobjcocaaW.PrintMore
attribute [local go_sem] max2_int min2_int max_two min_two max_three min_three max_four min_four   -- for this text's walks alone
set_option linter.unusedVariables false
set_option linter.unusedSimpArgs false

def Made (w : World) (e : Ending) (w' : World) : Prop :=
  ∃ g : Nat, e = .returned (.func (.func 26) #[] #[.pointer (some ⟨g, 0, none⟩)]) ∧ w.heap.size ≤ g ∧ w'.heap[g]? = some (.cells #[.int .i64 (-9223372036854775808)] 2 (0, 0)) ∧ Below w.heap.size w w'

theorem marker_calls (w : World) : Calls Try.prog 21 #[] w fun e w' => Made w e w' := by
  go_enter Try.func21, Try.ntmps21
  go_wp2
  go_ret
  exact ⟨w.heap.size, rfl, Nat.le_refl _, heap_alloc_new _ _, below_alloc (Below.refl _ _) _⟩

def Raised (m : Int) (x : S40) : Int := if x.f0 = true then mx m x.f1 else m
def Stepped (g : Nat) (m : Int) (x : S40) (w : World) (e : Ending) (w' : World) : Prop :=
  e = .returned (.int .i64 m) ∧ w'.heap[g]? = some (.cells #[.int .i64 (Raised m x)] 2 (0, 0)) ∧ KeepBut w w' g none ∧ Below g w w'

theorem stepped (g : Nat) (m n : Int) (x : S40) (w : World) (o : Obj) (hb : w.heap[g]? = some (.cells #[.int .i64 m] 2 (0, 0))) (hn : Raised m x = n) : Stepped g m x w (.returned (.int .i64 m)) ((w.setCell ⟨g, 0, none⟩ (.int .i64 n)).alloc o) := by
  subst hn
  exact ⟨rfl, blk_alloc (one_setCell hb) _, (KeepBut.set_ (KeepBut.refl w g none) 0 _).trans (KeepBut.of_below (below_alloc (Below.refl _ _) _) g none) (.inl rfl), Below.alloc (Below.setCell (p := ⟨g, 0, none⟩) (Below.refl g w) (Nat.le_refl g) _) (by have := blk_lt hb; simp; omega) _⟩

theorem step_calls (g : Nat) (m : Int) (x : S40) (w : World) (hb : w.heap[g]? = some (.cells #[.int .i64 m] 2 (0, 0))) :
    Calls Try.prog 26 #[.agg #[.bool x.f0, .int .i64 x.f1, .int .i64 x.f2.f0, .int .i64 x.f2.f1, .int .i64 x.f2.f2], .pointer (some ⟨g, 0, none⟩)] w fun e w' => Stepped g m x w e w' := by
  obtain ⟨b, t, ⟨k, v, u⟩⟩ := x
  have hu40 := Try.underlying40
  have hu38 := Try.underlying38
  have hc := cell_of_one hb
  have hf := free_of_one hb
  have hlt := blk_lt hb
  cases b with
  | true =>
    by_cases h : m < t
    · go_enter Try.func26, Try.ntmps26
      go_wp2
      go_ret
      exact stepped g m t _ w _ hb (by simp [Raised, mx, h])
    · have h' : t ≤ m := by omega
      clear h
      go_enter Try.func26, Try.ntmps26
      go_wp2
      go_ret
      exact stepped g m m _ w _ hb (by simp [Raised, mx]; omega)
  | false =>
    go_enter Try.func26, Try.ntmps26
    go_wp2
    go_ret
    exact ⟨rfl, blk_alloc hb _, KeepBut.of_below (below_alloc (Below.refl _ _) _) g none, (Below.refl _ _).alloc (by omega) _⟩

end Go.Proofs.Ytdmaedaobjcocaa.Q
