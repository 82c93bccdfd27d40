/- marks.New answers as its printed function says: so many lowest marks, or the error 2. No condition. -/
import Derived.Test.YtidpnehbmjfdlaaQ2
import Derived.WalkSpells
import Derived.WalkLawsBesides
import Derived.Laws.CopyOwn
import Derived.Deep.RegionLaw
namespace Go.Proofs.Ytidpnehbmjfdlaa.Q
open Go.RowKit Go.Proofs.YtidpnehbmjfdlaaW.PrintWords Go.Proofs.YtidpnehbmjfdlaaW.PrintLast Go.Proofs.YtidpnehbmjfdlaaW.PrintMore
attribute [local go_sem] max2_int min2_int max_two min_two max_three min_three max_four min_four   -- for this text's walks alone
set_option linter.unusedVariables false
set_option linter.unusedSimpArgs false
theorem one2 : (Try.prog.info? 2).map (·.size) = some 1 := by kernel_rfl
theorem block_cells {w : World} {g : Nat} {cs : List Value} {t : TypeId} (h : w.heap[g]? = some (.cells cs.toArray t (0, 0))) (j : Nat) : w.cell? ⟨g, j, none⟩ = cs[j]? := by rw [blk_cell h j]; simp
def Mul1 (n : Int) (w : World) (e : Ending) (w' : World) : Prop := e = .returned (.tuple #[.int .u64 0, .int .u64 n]) ∧ w = w'
def Rep (n : Nat) (w : World) (e : Ending) (w' : World) : Prop := ∃ g, e = .returned (.slice (some ⟨g, 0, none⟩) n n) ∧ w.heap.size ≤ g ∧ w'.heap[g]? = some (.cells (List.replicate n (Value.int .i64 (-9223372036854775808))).toArray 2 (0, 0)) ∧ Below w.heap.size w w'
def New1 (n : Nat) (w : World) (e : Ending) (w' : World) : Prop := ∃ v0_ : Value, e = .returned (.tuple #[v0_, .int .i64 0]) ∧ Kd.R (Kd.int .i64) 2 w' w.heap.size (fun _ => True) v0_ (List.replicate n (-9223372036854775808)) ∧ Below w.heap.size w w'

def Pos (w : World) (dp sp : Option Addr) (cs : List Value) (q : Option Addr) : Prop := 0 < cs.length → dp = q ∧ ∃ ad, sp = some ad ∧ ∀ j v, cs[j]? = some v → w.cell? (ad.add j) = some v
theorem pos_a {w : World} {g : Nat} {o : Obj} (hc : w.cell? ⟨g, 0, none⟩ = some (.int .i64 (-9223372036854775808))) (hg : g < w.heap.size) : Pos (w.alloc o) (some ⟨w.heap.size, 0, none⟩) (some ⟨g, 0, none⟩) [Value.int .i64 (-9223372036854775808)] (some ⟨w.heap.size, 0, none⟩) :=
  fun _ => ⟨rfl, _, rfl, fun j v hj => by
    match j, hj with
    | 0, hj =>
      have hj' : Value.int .i64 (-9223372036854775808) = v := Option.some.inj hj
      subst hj'
      exact (Below.cell (below_alloc (Below.refl _ _) _) (World.block_lt_of_cell? w _ hc)).trans hc⟩
theorem one_a : ∀ v ∈ [Value.int .i64 (-9223372036854775808)], v.oneCell' = true := by intro v hv; simp at hv; subst hv; rfl
theorem pos_b {w : World} {G : Nat} {cur : List Value} {t : TypeId} {m off : Nat} (h : w.heap[G]? = some (.cells cur.toArray t (0, 0))) (hcur : cur.take m = List.replicate m (Value.int .i64 (-9223372036854775808))) : Pos w (some ⟨G, off, none⟩) (some ⟨G, 0, none⟩) (List.replicate m (Value.int .i64 (-9223372036854775808))) (some ⟨G, off, none⟩) :=
  fun _ => ⟨rfl, _, rfl, fun j v hj => by
    have hj2 := (List.getElem?_eq_some_iff.1 hj).1
    rw [← hcur, List.getElem?_take] at hj
    rw [if_pos (by simpa using hj2)] at hj
    have := block_cells h j
    rw [hj] at this
    by_cases h0 : j = 0
    · subst h0; simpa [Addr.add] using this
    · simpa [Addr.add, h0] using this⟩
theorem one_b {m : Nat} : ∀ v ∈ List.replicate m (Value.int .i64 (-9223372036854775808)), v.oneCell' = true := by intro v hv; rw [List.eq_of_mem_replicate hv]; rfl
theorem new_row {w w1 : World} {o : Obj} {g n : Nat} (hn : n ≤ maxLen) (hge : (w.alloc o).heap.size ≤ g) (hg : w1.heap[g]? = some (.cells (List.replicate n (Value.int .i64 (-9223372036854775808))).toArray 2 (0, 0))) (hb : Below (w.alloc o).heap.size (w.alloc o) w1) :
    Kd.R (Kd.int .i64) 2 w1 w.heap.size (fun _ => True) (.slice (some ⟨g, 0, none⟩) n n) (List.replicate n (-9223372036854775808)) := by
  refine Kd.R_of_own (enc := Value.int .i64) (h1 := fun _ => rfl) ⟨by simp [encs], .inr ⟨g, n, _, by simp, ?_, hg, by simp, ?_, by simp, ?_⟩⟩ (fun _ _ => trivial)
  · exact Nat.le_trans (by simp) hge
  · simpa using hn
  · simp [encs]

set_option maxHeartbeats 2000000 in
set_option maxRecDepth 100000 in
theorem mul_1 (w : World) : Calls Try.prog 28 #[.int .u64 1, .int .u64 1] w fun e w' => Mul1 1 w e w' := by
  go_enter Try.func28, Try.ntmps28
  go_wp2
  go_ret2
  exact ⟨by kernel_rfl, rfl⟩
set_option maxHeartbeats 2000000 in
set_option maxRecDepth 100000 in
theorem rep_1 (g : Nat) (w : World) (hc : w.cell? ⟨g, 0, none⟩ = some (.int .i64 (-9223372036854775808))) (hg : g < w.heap.size) : Calls Try.prog 22 #[.slice (some ⟨g, 0, none⟩) 1 1, .int .i64 1] w fun e w' => Rep 1 w e w' := by
  have hmk : ∀ w : World, (Instr.makeSlice 22 (.int .i64 1) (.int .i64 1)).run Try.prog w = .ok (.slice (some ⟨w.heap.size, 0, none⟩) 1 1) (w.alloc (.cells #[.int .i64 0] 2)) := fun _ => by kernel_rfl
  have HGa := Aside0.mk (heap_alloc_new w (.cells ([.int .i64 0] : List Value).toArray 2))
  have HPa := (pos_a (w := w) (g := g) (o := .cells #[.int .i64 0] 2) hc hg)
  have HOa := Aside0.mk one_a
  have HBa := Aside0.mk (below_alloc (Below.refl w.heap.size w) (.cells #[.int .i64 0] 2))
  go_enter Try.func22, Try.ntmps22
  go_wp2_with (first | (go_at_call 28; refine (mul_1 _).mono ?_; rintro e w' ⟨rfl, rfl⟩) | ((with_reducible refine gate_builtin (b := .copy) (xs := #[.tmp 31, .tmp 32]) rfl ?_); refine wpList_copy_splice rfl (.tmp 31) (.tmp 32) 22 22 rfl 2 Try.underlying22 one2 (some ⟨w.heap.size, 0, none⟩) (some ⟨g, 0, none⟩) 1 1 1 1 rfl rfl w.heap.size 0 [.int .i64 0] 2 HGa.out [.int .i64 (-9223372036854775808)] rfl HPa (by simp) HOa.out w.heap.size w HBa.out (Nat.le_refl _) ?_))
  intro wa hha hba
  have hA : wa.heap[w.heap.size]? = some (.cells [.int .i64 (-9223372036854775808)].toArray 2 (0, 0)) := hha.out
  clear hha
  go_wp2
  refine wp_loop_rounds 1 ?_
  rw [rounds_succ]
  go_wp2
  go_ret
  exact ⟨w.heap.size, rfl, Nat.le_refl _, hA, hba⟩
set_option maxHeartbeats 2000000 in
set_option maxRecDepth 100000 in
theorem new_1 (w : World) : Calls Try.prog 9 #[.int .i64 1] w fun e w' => New1 1 w e w' := by
  have hb0 : Below w.heap.size w (w.alloc (.cells #[.int .i64 (-9223372036854775808)] 2)) := below_alloc (Below.refl _ _) _
  go_enter Try.func9, Try.ntmps9
  go_wp2_with (go_at_call 22; refine (rep_1 _ _ (by go_simp) (by simp)).mono ?_; rintro e w1 ⟨g, rfl, hge, hg, hb⟩)
  go_ret2
  exact ⟨_, rfl, new_row (by unfold maxLen; decide) hge hg hb, below_step hb0 hb⟩
set_option maxHeartbeats 2000000 in
set_option maxRecDepth 100000 in
theorem mul_2 (w : World) : Calls Try.prog 28 #[.int .u64 1, .int .u64 2] w fun e w' => Mul1 2 w e w' := by
  go_enter Try.func28, Try.ntmps28
  go_wp2
  go_ret2
  exact ⟨by kernel_rfl, rfl⟩
set_option maxHeartbeats 2000000 in
set_option maxRecDepth 100000 in
theorem rep_2 (g : Nat) (w : World) (hc : w.cell? ⟨g, 0, none⟩ = some (.int .i64 (-9223372036854775808))) (hg : g < w.heap.size) : Calls Try.prog 22 #[.slice (some ⟨g, 0, none⟩) 1 1, .int .i64 2] w fun e w' => Rep 2 w e w' := by
  have hmk : ∀ w : World, (Instr.makeSlice 22 (.int .i64 2) (.int .i64 2)).run Try.prog w = .ok (.slice (some ⟨w.heap.size, 0, none⟩) 2 2) (w.alloc (.cells #[.int .i64 0, .int .i64 0] 2)) := fun _ => by kernel_rfl
  have HGa := Aside0.mk (heap_alloc_new w (.cells ([.int .i64 0, .int .i64 0] : List Value).toArray 2))
  have HPa := (pos_a (w := w) (g := g) (o := .cells #[.int .i64 0, .int .i64 0] 2) hc hg)
  have HOa := Aside0.mk one_a
  have HBa := Aside0.mk (below_alloc (Below.refl w.heap.size w) (.cells #[.int .i64 0, .int .i64 0] 2))
  go_enter Try.func22, Try.ntmps22
  go_wp2_with (first | (go_at_call 28; refine (mul_2 _).mono ?_; rintro e w' ⟨rfl, rfl⟩) | ((with_reducible refine gate_builtin (b := .copy) (xs := #[.tmp 31, .tmp 32]) rfl ?_); refine wpList_copy_splice rfl (.tmp 31) (.tmp 32) 22 22 rfl 2 Try.underlying22 one2 (some ⟨w.heap.size, 0, none⟩) (some ⟨g, 0, none⟩) 2 2 1 1 rfl rfl w.heap.size 0 [.int .i64 0, .int .i64 0] 2 HGa.out [.int .i64 (-9223372036854775808)] rfl HPa (by simp) HOa.out w.heap.size w HBa.out (Nat.le_refl _) ?_))
  intro wa hha hba
  have hA : wa.heap[w.heap.size]? = some (.cells [.int .i64 (-9223372036854775808), .int .i64 0].toArray 2 (0, 0)) := hha.out
  clear hha
  go_wp2
  refine wp_loop_rounds 2 ?_
  have HGb0 := Aside0.mk hA
  have HPb0 := (pos_b (m := 1) (off := 1) hA rfl)
  have HOb0 := Aside0.mk (one_b (m := 1))
  have HBb0 := Aside0.mk hba
  clear hA
  rw [rounds_succ]
  go_wp2
  go_region_law (refine step_copy_splice rfl (.tmp 41) (.tmp 44) 22 22 rfl 2 Try.underlying22 one2 (some ⟨w.heap.size, 1, none⟩) (some ⟨w.heap.size, 0, none⟩) 1 1 1 2 (by simp [Act.eval, Act.put]) (by simp [Act.eval, Act.put]) w.heap.size 1 [.int .i64 (-9223372036854775808), .int .i64 0] 2 HGb0.out [.int .i64 (-9223372036854775808)] rfl HPb0 (by simp) HOb0.out w.heap.size w (Below.drew HBb0.out) (Nat.le_refl _) ?_; intro wb0 hhb0 hBb0)
  have hAb0 : wb0.heap[w.heap.size]? = some (.cells [.int .i64 (-9223372036854775808), .int .i64 (-9223372036854775808)].toArray 2 (0, 0)) := hhb0.out
  clear hhb0
  go_wp2
  rw [rounds_succ]
  go_wp2
  go_ret
  exact ⟨w.heap.size, rfl, Nat.le_refl _, hAb0, hBb0⟩
set_option maxHeartbeats 2000000 in
set_option maxRecDepth 100000 in
theorem new_2 (w : World) : Calls Try.prog 9 #[.int .i64 2] w fun e w' => New1 2 w e w' := by
  have hb0 : Below w.heap.size w (w.alloc (.cells #[.int .i64 (-9223372036854775808)] 2)) := below_alloc (Below.refl _ _) _
  go_enter Try.func9, Try.ntmps9
  go_wp2_with (go_at_call 22; refine (rep_2 _ _ (by go_simp) (by simp)).mono ?_; rintro e w1 ⟨g, rfl, hge, hg, hb⟩)
  go_ret2
  exact ⟨_, rfl, new_row (by unfold maxLen; decide) hge hg hb, below_step hb0 hb⟩
set_option maxHeartbeats 2000000 in
set_option maxRecDepth 100000 in
theorem mul_3 (w : World) : Calls Try.prog 28 #[.int .u64 1, .int .u64 3] w fun e w' => Mul1 3 w e w' := by
  go_enter Try.func28, Try.ntmps28
  go_wp2
  go_ret2
  exact ⟨by kernel_rfl, rfl⟩
set_option maxHeartbeats 2000000 in
set_option maxRecDepth 100000 in
theorem rep_3 (g : Nat) (w : World) (hc : w.cell? ⟨g, 0, none⟩ = some (.int .i64 (-9223372036854775808))) (hg : g < w.heap.size) : Calls Try.prog 22 #[.slice (some ⟨g, 0, none⟩) 1 1, .int .i64 3] w fun e w' => Rep 3 w e w' := by
  have hmk : ∀ w : World, (Instr.makeSlice 22 (.int .i64 3) (.int .i64 3)).run Try.prog w = .ok (.slice (some ⟨w.heap.size, 0, none⟩) 3 3) (w.alloc (.cells #[.int .i64 0, .int .i64 0, .int .i64 0] 2)) := fun _ => by kernel_rfl
  have HGa := Aside0.mk (heap_alloc_new w (.cells ([.int .i64 0, .int .i64 0, .int .i64 0] : List Value).toArray 2))
  have HPa := (pos_a (w := w) (g := g) (o := .cells #[.int .i64 0, .int .i64 0, .int .i64 0] 2) hc hg)
  have HOa := Aside0.mk one_a
  have HBa := Aside0.mk (below_alloc (Below.refl w.heap.size w) (.cells #[.int .i64 0, .int .i64 0, .int .i64 0] 2))
  go_enter Try.func22, Try.ntmps22
  go_wp2_with (first | (go_at_call 28; refine (mul_3 _).mono ?_; rintro e w' ⟨rfl, rfl⟩) | ((with_reducible refine gate_builtin (b := .copy) (xs := #[.tmp 31, .tmp 32]) rfl ?_); refine wpList_copy_splice rfl (.tmp 31) (.tmp 32) 22 22 rfl 2 Try.underlying22 one2 (some ⟨w.heap.size, 0, none⟩) (some ⟨g, 0, none⟩) 3 3 1 1 rfl rfl w.heap.size 0 [.int .i64 0, .int .i64 0, .int .i64 0] 2 HGa.out [.int .i64 (-9223372036854775808)] rfl HPa (by simp) HOa.out w.heap.size w HBa.out (Nat.le_refl _) ?_))
  intro wa hha hba
  have hA : wa.heap[w.heap.size]? = some (.cells [.int .i64 (-9223372036854775808), .int .i64 0, .int .i64 0].toArray 2 (0, 0)) := hha.out
  clear hha
  go_wp2
  refine wp_loop_rounds 3 ?_
  have HGb0 := Aside0.mk hA
  have HPb0 := (pos_b (m := 1) (off := 1) hA rfl)
  have HOb0 := Aside0.mk (one_b (m := 1))
  have HBb0 := Aside0.mk hba
  clear hA
  rw [rounds_succ]
  go_wp2
  go_region_law (refine step_copy_splice rfl (.tmp 41) (.tmp 44) 22 22 rfl 2 Try.underlying22 one2 (some ⟨w.heap.size, 1, none⟩) (some ⟨w.heap.size, 0, none⟩) 2 2 1 3 (by simp [Act.eval, Act.put]) (by simp [Act.eval, Act.put]) w.heap.size 1 [.int .i64 (-9223372036854775808), .int .i64 0, .int .i64 0] 2 HGb0.out [.int .i64 (-9223372036854775808)] rfl HPb0 (by simp) HOb0.out w.heap.size w (Below.drew HBb0.out) (Nat.le_refl _) ?_; intro wb0 hhb0 hBb0)
  have hAb0 : wb0.heap[w.heap.size]? = some (.cells [.int .i64 (-9223372036854775808), .int .i64 (-9223372036854775808), .int .i64 0].toArray 2 (0, 0)) := hhb0.out
  clear hhb0
  go_wp2
  have HGb1 := Aside0.mk hAb0
  have HPb1 := (pos_b (m := 1) (off := 2) hAb0 rfl)
  have HOb1 := Aside0.mk (one_b (m := 1))
  have HBb1 := Aside0.mk hBb0
  clear hAb0
  rw [rounds_succ]
  go_wp2
  go_region_law (refine step_copy_splice rfl (.tmp 41) (.tmp 44) 22 22 rfl 2 Try.underlying22 one2 (some ⟨w.heap.size, 2, none⟩) (some ⟨w.heap.size, 0, none⟩) 1 1 2 3 (by simp [Act.eval, Act.put]) (by simp [Act.eval, Act.put]) w.heap.size 2 [.int .i64 (-9223372036854775808), .int .i64 (-9223372036854775808), .int .i64 0] 2 HGb1.out [.int .i64 (-9223372036854775808)] rfl HPb1 (by simp) HOb1.out w.heap.size w (Below.drew HBb1.out) (Nat.le_refl _) ?_; intro wb1 hhb1 hBb1)
  have hAb1 : wb1.heap[w.heap.size]? = some (.cells [.int .i64 (-9223372036854775808), .int .i64 (-9223372036854775808), .int .i64 (-9223372036854775808)].toArray 2 (0, 0)) := hhb1.out
  clear hhb1
  go_wp2
  rw [rounds_succ]
  go_wp2
  go_ret
  exact ⟨w.heap.size, rfl, Nat.le_refl _, hAb1, hBb1⟩
set_option maxHeartbeats 2000000 in
set_option maxRecDepth 100000 in
theorem new_3 (w : World) : Calls Try.prog 9 #[.int .i64 3] w fun e w' => New1 3 w e w' := by
  have hb0 : Below w.heap.size w (w.alloc (.cells #[.int .i64 (-9223372036854775808)] 2)) := below_alloc (Below.refl _ _) _
  go_enter Try.func9, Try.ntmps9
  go_wp2_with (go_at_call 22; refine (rep_3 _ _ (by go_simp) (by simp)).mono ?_; rintro e w1 ⟨g, rfl, hge, hg, hb⟩)
  go_ret2
  exact ⟨_, rfl, new_row (by unfold maxLen; decide) hge hg hb, below_step hb0 hb⟩
set_option maxHeartbeats 2000000 in
set_option maxRecDepth 100000 in
theorem mul_4 (w : World) : Calls Try.prog 28 #[.int .u64 1, .int .u64 4] w fun e w' => Mul1 4 w e w' := by
  go_enter Try.func28, Try.ntmps28
  go_wp2
  go_ret2
  exact ⟨by kernel_rfl, rfl⟩
set_option maxHeartbeats 2000000 in
set_option maxRecDepth 100000 in
theorem rep_4 (g : Nat) (w : World) (hc : w.cell? ⟨g, 0, none⟩ = some (.int .i64 (-9223372036854775808))) (hg : g < w.heap.size) : Calls Try.prog 22 #[.slice (some ⟨g, 0, none⟩) 1 1, .int .i64 4] w fun e w' => Rep 4 w e w' := by
  have hmk : ∀ w : World, (Instr.makeSlice 22 (.int .i64 4) (.int .i64 4)).run Try.prog w = .ok (.slice (some ⟨w.heap.size, 0, none⟩) 4 4) (w.alloc (.cells #[.int .i64 0, .int .i64 0, .int .i64 0, .int .i64 0] 2)) := fun _ => by kernel_rfl
  have HGa := Aside0.mk (heap_alloc_new w (.cells ([.int .i64 0, .int .i64 0, .int .i64 0, .int .i64 0] : List Value).toArray 2))
  have HPa := (pos_a (w := w) (g := g) (o := .cells #[.int .i64 0, .int .i64 0, .int .i64 0, .int .i64 0] 2) hc hg)
  have HOa := Aside0.mk one_a
  have HBa := Aside0.mk (below_alloc (Below.refl w.heap.size w) (.cells #[.int .i64 0, .int .i64 0, .int .i64 0, .int .i64 0] 2))
  go_enter Try.func22, Try.ntmps22
  go_wp2_with (first | (go_at_call 28; refine (mul_4 _).mono ?_; rintro e w' ⟨rfl, rfl⟩) | ((with_reducible refine gate_builtin (b := .copy) (xs := #[.tmp 31, .tmp 32]) rfl ?_); refine wpList_copy_splice rfl (.tmp 31) (.tmp 32) 22 22 rfl 2 Try.underlying22 one2 (some ⟨w.heap.size, 0, none⟩) (some ⟨g, 0, none⟩) 4 4 1 1 rfl rfl w.heap.size 0 [.int .i64 0, .int .i64 0, .int .i64 0, .int .i64 0] 2 HGa.out [.int .i64 (-9223372036854775808)] rfl HPa (by simp) HOa.out w.heap.size w HBa.out (Nat.le_refl _) ?_))
  intro wa hha hba
  have hA : wa.heap[w.heap.size]? = some (.cells [.int .i64 (-9223372036854775808), .int .i64 0, .int .i64 0, .int .i64 0].toArray 2 (0, 0)) := hha.out
  clear hha
  go_wp2
  refine wp_loop_rounds 3 ?_
  have HGb0 := Aside0.mk hA
  have HPb0 := (pos_b (m := 1) (off := 1) hA rfl)
  have HOb0 := Aside0.mk (one_b (m := 1))
  have HBb0 := Aside0.mk hba
  clear hA
  rw [rounds_succ]
  go_wp2
  go_region_law (refine step_copy_splice rfl (.tmp 41) (.tmp 44) 22 22 rfl 2 Try.underlying22 one2 (some ⟨w.heap.size, 1, none⟩) (some ⟨w.heap.size, 0, none⟩) 3 3 1 4 (by simp [Act.eval, Act.put]) (by simp [Act.eval, Act.put]) w.heap.size 1 [.int .i64 (-9223372036854775808), .int .i64 0, .int .i64 0, .int .i64 0] 2 HGb0.out [.int .i64 (-9223372036854775808)] rfl HPb0 (by simp) HOb0.out w.heap.size w (Below.drew HBb0.out) (Nat.le_refl _) ?_; intro wb0 hhb0 hBb0)
  have hAb0 : wb0.heap[w.heap.size]? = some (.cells [.int .i64 (-9223372036854775808), .int .i64 (-9223372036854775808), .int .i64 0, .int .i64 0].toArray 2 (0, 0)) := hhb0.out
  clear hhb0
  go_wp2
  have HGb1 := Aside0.mk hAb0
  have HPb1 := (pos_b (m := 2) (off := 2) hAb0 rfl)
  have HOb1 := Aside0.mk (one_b (m := 2))
  have HBb1 := Aside0.mk hBb0
  clear hAb0
  rw [rounds_succ]
  go_wp2
  go_region_law (refine step_copy_splice rfl (.tmp 41) (.tmp 44) 22 22 rfl 2 Try.underlying22 one2 (some ⟨w.heap.size, 2, none⟩) (some ⟨w.heap.size, 0, none⟩) 2 2 2 4 (by simp [Act.eval, Act.put]) (by simp [Act.eval, Act.put]) w.heap.size 2 [.int .i64 (-9223372036854775808), .int .i64 (-9223372036854775808), .int .i64 0, .int .i64 0] 2 HGb1.out [.int .i64 (-9223372036854775808), .int .i64 (-9223372036854775808)] rfl HPb1 (by simp) HOb1.out w.heap.size w (Below.drew HBb1.out) (Nat.le_refl _) ?_; intro wb1 hhb1 hBb1)
  have hAb1 : wb1.heap[w.heap.size]? = some (.cells [.int .i64 (-9223372036854775808), .int .i64 (-9223372036854775808), .int .i64 (-9223372036854775808), .int .i64 (-9223372036854775808)].toArray 2 (0, 0)) := hhb1.out
  clear hhb1
  go_wp2
  rw [rounds_succ]
  go_wp2
  go_ret
  exact ⟨w.heap.size, rfl, Nat.le_refl _, hAb1, hBb1⟩
set_option maxHeartbeats 2000000 in
set_option maxRecDepth 100000 in
theorem new_4 (w : World) : Calls Try.prog 9 #[.int .i64 4] w fun e w' => New1 4 w e w' := by
  have hb0 : Below w.heap.size w (w.alloc (.cells #[.int .i64 (-9223372036854775808)] 2)) := below_alloc (Below.refl _ _) _
  go_enter Try.func9, Try.ntmps9
  go_wp2_with (go_at_call 22; refine (rep_4 _ _ (by go_simp) (by simp)).mono ?_; rintro e w1 ⟨g, rfl, hge, hg, hb⟩)
  go_ret2
  exact ⟨_, rfl, new_row (by unfold maxLen; decide) hge hg hb, below_step hb0 hb⟩
theorem l0_tells (n : Nat) (hn : n ≤ 4) (d : Nat) : ∀ (j k : Nat) (r : List Int × Int), n - j = d → j ≤ n → marks_New.l0 k (n : Int) (List.replicate j (-9223372036854775808)) (j : Int) = some r → r = (List.replicate n (-9223372036854775808), 0) := by
  induction d with
  | zero =>
    intro j k r hd hj h
    obtain rfl : j = n := by omega
    cases k with
    | zero => simp [marks_New.l0] at h
    | succ k => rw [marks_New.l0, if_neg (by omega)] at h; exact (Option.some.inj h).symm
  | succ d ih =>
    intro j k r hd hj h
    cases k with
    | zero => simp [marks_New.l0] at h
    | succ k =>
      rw [marks_New.l0, if_pos (by omega), if_pos (by simp; omega), show List.replicate j (-9223372036854775808 : Int) ++ [-9223372036854775808] = List.replicate (j + 1) (-9223372036854775808) from (List.replicate_succ').symm, show wrap64 ((j : Int) + 1) = ((j + 1 : Nat) : Int) by unfold wrap64; omega] at h
      exact ih (j + 1) k r (by omega) (by omega) h
theorem new_tells {k : Nat} {a : Int} {r1 : List Int} {r2 : Int} (h : marks_New.f k a = some (r1, r2)) : ((a < 1 ∨ 4 < a) ∧ r1 = [] ∧ r2 = 2) ∨ ∃ n : Nat, 1 ≤ n ∧ n ≤ 4 ∧ a = n ∧ r1 = List.replicate n (-9223372036854775808) ∧ r2 = 0 := by
  unfold marks_New.f at h
  by_cases h1 : a < 1
  · rw [if_pos h1] at h
    cases k with
    | zero => simp [marks_New.j0] at h
    | succ k => rw [marks_New.j0, if_pos rfl] at h; simp only [Option.some.injEq, Prod.mk.injEq] at h; exact .inl ⟨.inl h1, h.1.symm, h.2.symm⟩
  · rw [if_neg h1] at h
    cases k with
    | zero => simp [marks_New.j0] at h
    | succ k =>
      by_cases h4 : a > 4
      · rw [marks_New.j0, if_pos (by simpa using h4)] at h; simp only [Option.some.injEq, Prod.mk.injEq] at h; exact .inl ⟨.inr h4, h.1.symm, h.2.symm⟩
      · rw [marks_New.j0, if_neg (by simpa using h4)] at h
        obtain ⟨n, rfl⟩ := Int.eq_ofNat_of_zero_le (show 0 ≤ a by omega)
        have := l0_tells n (by omega) n 0 k _ rfl (by omega) h
        simp only [Prod.mk.injEq] at this
        exact .inr ⟨n, by omega, by omega, rfl, this.1, this.2⟩
def NewBad (w : World) (e : Ending) (w' : World) : Prop := e = .returned (.tuple #[.slice none 0 0, .int .i64 2]) ∧ w = w'
theorem new_bad (a : Int) (w : World) (h : a < 1 ∨ 4 < a) : Calls Try.prog 9 #[.int .i64 a] w fun e w' => NewBad w e w' := by
  rcases h with h | h
  · go_enter Try.func9, Try.ntmps9
    go_wp2
    go_ret2
    exact ⟨rfl, rfl⟩
  · have h' : 1 ≤ a := by omega
    go_enter Try.func9, Try.ntmps9
    go_wp2
    go_ret2
    exact ⟨rfl, rfl⟩
theorem marks_New.calls (k : Nat) (a0 : Int) (r1 : List Int) (r2 : Int) (w : World) (h : marks_New.f k a0 = some (r1, r2)) :
    Calls Try.prog 9 #[.int .i64 a0] w fun e w' => ∃ v0_ : Value, e = .returned (.tuple #[v0_, .int .i64 r2]) ∧ Kd.R (Kd.int .i64) 2 w' w.heap.size (fun _ => True) v0_ r1 ∧ Below w.heap.size w w' := by
  rcases new_tells h with ⟨hb, rfl, rfl⟩ | ⟨n, h1, h4, rfl, rfl, rfl⟩
  · refine (new_bad a0 w hb).mono ?_
    rintro e w' ⟨rfl, rfl⟩
    exact ⟨_, rfl, Kd.R_nil _ _ _ _ _, Below.refl _ _⟩
  · obtain rfl | rfl | rfl | rfl : n = 1 ∨ n = 2 ∨ n = 3 ∨ n = 4 := by omega
    · exact new_1 w
    · exact new_2 w
    · exact new_3 w
    · exact new_4 w
end Go.Proofs.Ytidpnehbmjfdlaa.Q
