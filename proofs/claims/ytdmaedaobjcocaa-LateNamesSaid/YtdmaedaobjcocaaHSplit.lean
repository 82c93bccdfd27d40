/- late.Split answers as its printed function says: the mark in the closure is the one of the loop. No condition but that the argument reads as a list of events. -/
import Derived.Test.YtdmaedaobjcocaaQ3
import Derived.Test.YtdmaedaobjcocaaHClos
namespace Go.Proofs.Ytdmaedaobjcocaa.Q
open Go.RowKit Go.Proofs.YtdmaedaobjcocaaW.PrintWords Go.Proofs.YtdmaedaobjcocaaW.PrintLast Go.Proofs.YtdmaedaobjcocaaW.PrintMore
attribute [local go_sem] max2_int min2_int max_two min_two max_three min_three max_four min_four   -- for this text's walks alone
set_option linter.unusedVariables false
set_option linter.unusedSimpArgs false

theorem blk_set5s {W : World} {g gb : Nat} {o : Obj} (h : W.heap[g]? = some o) (hne : g ≠ gb) (a b c d e : Value) :
    (((((W.setCell ⟨gb, 0, none⟩ a).setCell ⟨gb, 1, none⟩ b).setCell ⟨gb, 2, none⟩ c).setCell ⟨gb, 3, none⟩ d).setCell ⟨gb, 4, none⟩ e).heap[g]? = some o := by
  rw [Below.heap_setCell _ ⟨gb, 4, none⟩ _ g hne, Below.heap_setCell _ ⟨gb, 3, none⟩ _ g hne, Below.heap_setCell _ ⟨gb, 2, none⟩ _ g hne, Below.heap_setCell _ ⟨gb, 1, none⟩ _ g hne, Below.heap_setCell _ ⟨gb, 0, none⟩ _ g hne]
  exact h
theorem far5 {W : World} {g gb : Nat} (hne : g ≠ gb) (a b c d e : Value) :
    (((((W.setCell ⟨gb, 0, none⟩ a).setCell ⟨gb, 1, none⟩ b).setCell ⟨gb, 2, none⟩ c).setCell ⟨gb, 3, none⟩ d).setCell ⟨gb, 4, none⟩ e).heap[g]? = W.heap[g]? := by
  rw [Below.heap_setCell _ ⟨gb, 4, none⟩ _ g hne, Below.heap_setCell _ ⟨gb, 3, none⟩ _ g hne, Below.heap_setCell _ ⟨gb, 2, none⟩ _ g hne, Below.heap_setCell _ ⟨gb, 1, none⟩ _ g hne, Below.heap_setCell _ ⟨gb, 0, none⟩ _ g hne]
theorem split_keep {W w12 : World} {base g gb : Nat} {ok : Nat → Prop} {v : Value} {xs : List S38} {cs : Array Value} {m : Int} {a b c d e : Value} (h : Kd.R k38 38 W base ok v xs) (hb : W.heap[gb]? = some (.cells cs 40 (0, 0))) (hg : W.heap[g]? = some (.cells #[.int .i64 m] 2 (0, 0)))
    (hk : KeepBut (((((W.setCell ⟨gb, 0, none⟩ a).setCell ⟨gb, 1, none⟩ b).setCell ⟨gb, 2, none⟩ c).setCell ⟨gb, 3, none⟩ d).setCell ⟨gb, 4, none⟩ e) w12 g none) : Kd.R k38 38 w12 base ok v xs :=
  Kd.R_mono (Kd.R_step (Kd.R_types (Kd.R_types h hb (by decide)) hg (by decide)) (fun k ho hlt => (hk.2 k (by simpa using hlt) ho.2 (by simp)).trans (far5 ho.1.2 _ _ _ _ _))) (fun _ h => h.1.1)
theorem box5 {W w12 : World} {g gb : Nat} {a b c d e : Value} (h : W.heap[gb]? = some (.cells #[.bool false, .int .i64 0, .int .i64 0, .int .i64 0, .int .i64 0] 40 (0, 0)))
    (hk : KeepBut (((((W.setCell ⟨gb, 0, none⟩ a).setCell ⟨gb, 1, none⟩ b).setCell ⟨gb, 2, none⟩ c).setCell ⟨gb, 3, none⟩ d).setCell ⟨gb, 4, none⟩ e) w12 g none) (hne : g ≠ gb) : w12.heap[gb]? = some (.cells #[a, b, c, d, e] 40 (0, 0)) :=
  (hk.2 gb (by simpa using blk_lt h) (Ne.symm hne) (by simp)).trans (blk_put (blk_put (blk_put (blk_put (blk_put h 0 a rfl) 1 b rfl) 2 c rfl) 3 d rfl) 4 e rfl)

set_option maxHeartbeats 8000000 in
set_option maxRecDepth 100000 in
theorem late_Split.calls (k : Nat) (A0 : Option Addr) (c0 : Nat) (l0 : List (S40)) (r1 : List (S38)) (r2 : List (S38)) (r3 : Int) (w : World) (hr0 : Kd.C k40 w A0 l0.length l0) (hc0 : l0.length ≤ c0) (h : late_Split.f k l0 = some (r1, r2, r3)) :
    Calls Try.prog 11 #[.slice A0 l0.length c0] w fun e w' => ∃ v0_ v1_ : Value, e = .returned (.tuple #[v0_, v1_, .int .i64 r3]) ∧ Kd.R k38 38 w' w.heap.size (fun k_ => some k_ ≠ (v1_ : Value).ownBlock) v0_ r1 ∧ Kd.R k38 38 w' w.heap.size (fun k_ => some k_ ≠ (v0_ : Value).ownBlock) v1_ r2 ∧ Below w.heap.size w w' := by
  have hu40 := Try.underlying40
  have hu38 := Try.underlying38
  have HR0 := Aside0.mk hr0
  have HC0 := Aside0.mk hc0
  clear hr0 hc0
  have HB := Aside0.mk (Below.refl w.heap.size w)
  have H : ((late_Check.f k l0).bind fun t120 => (if t120 = 0 then (late_Split.l0 k ([] : List (S38)) ([] : List (S38)) (-9223372036854775808) l0 (l0.length : Int) 0) else (some (([] : List (S38)), ([] : List (S38)), t120)))) = some (r1, r2, r3) := h
  clear h
  replace H := Option.bind_eq_some_iff.mp H
  obtain ⟨t120, A20, H⟩ := H
  try dsimp only at H
  have A2 := Aside0.mk A20
  clear A20
  by_cases c3 : t120 = 0
  · rw [if_pos c3] at H
    have c3b0 : (t120 == 0) = true := beq_iff_eq.mpr c3
    have c3b1 : (t120 != 0) = false := bne_eq_false_iff_eq.mpr c3
    clear c3
    have H' := Aside0.mk H
    clear H
    go_enter Try.func11, Try.ntmps11
    go_wp2_with (first | ((with_reducible refine gate_callee (f := 14) rfl ?_); refine goesL_ (some 11) rfl rfl Try.func14 (by kernel_rfl) rfl #[.slice A0 l0.length c0] rfl (by (try simp only [List.map_toArray, List.map_cons, List.map_nil]); first | done | rfl | (simp only [List.length_drop, List.length_take]; rfl)) ?_; (with_reducible refine (late_Check.calls k _ _ l0 t120 _ ?side1 ?side2 A2.out).mono ?_); (case side1 => repeat (first | exact HR0.out | (with_reducible refine Kd.C_alloc ?_ _) | (with_reducible refine Kd.C_drewN ?_ _) | (with_reducible refine Kd.C_drew ?_))); (case side2 => exact HC0.out); rintro e w4 ⟨rfl, hb⟩; refine ⟨_, rfl, ?_⟩; have n0_ := Aside0.mk (below_step (by repeat (first | (with_reducible first | exact HB.out | apply below_alloc | apply pw_below_drewN | apply below_drew1) | exact HB.out)) hb); clear HB; have HB := n0_; clear n0_; (try clear hb); (try clear hb2); (try clear hk); (try clear hi)) | (go_at_call 21; refine (marker_calls _).mono ?_; rintro e w5 ⟨g, rfl, hge, hg0, hb⟩; have HG := Aside0.mk hg0; have GE := Aside0.mk (Nat.le_trans (below_size (by repeat (first | (with_reducible first | exact HB.out | apply below_alloc | apply pw_below_drewN | apply below_drew1) | exact HB.out))) hge); have n0_ := Aside0.mk (below_step (by repeat (first | (with_reducible first | exact HB.out | apply below_alloc | apply pw_below_drewN | apply below_drew1) | exact HB.out)) hb); clear HB; have HB := n0_; clear n0_ hb hge hg0))
    go_loopg [2, 3, 18] k (fun kq v2 v3 v18 w' => ∃ (x2_1 : List (S38)) (x3_1 : List (S38)) (x6_1 : Int) (x18_1 : Int), v18 = .int .i64 x18_1 ∧ Aside0 (late_Split.l0 kq x2_1 x3_1 x6_1 l0 (l0.length : Int) x18_1 = some (r1, r2, r3)) ∧ Aside0 (kq ≤ k) ∧ Aside0 (Kd.R k38 38 w' w.heap.size (fun k_ => some k_ ≠ (v3 : Value).ownBlock) v2 x2_1) ∧ Aside0 (Kd.R k38 38 w' w.heap.size (fun k_ => some k_ ≠ (v2 : Value).ownBlock) v3 x3_1) ∧ Aside0 (w'.heap[g]? = some (.cells #[.int .i64 x6_1] 2 (0, 0))) ∧ Aside0 (Below w.heap.size w w'))
    case atStart => exact ⟨(([] : List (S38))), (([] : List (S38))), ((-9223372036854775808)), (0), (by first | rfl | (simp; done) | (simp [*]; done)), H', ⟨Nat.le_refl _⟩, ⟨Kd.R_nil _ _ _ _ _⟩, ⟨Kd.R_nil _ _ _ _ _⟩, HG, HB⟩
    case round =>
      clear H' HG
      try clear c3b0
      try clear c3b1
      obtain ⟨x2_1, x3_1, x6_1, x18_1, rfl, HA, HK1, HO_2, HO_3, HG, HB⟩ := hrel
      cases gk with
      | zero => exact absurd HA.out (by simp [late_Split.l0])
      | succ k1 =>
        have H := HA.out
        clear HA
        simp only [late_Split.l0] at H
        by_cases c5 : x18_1 < (l0.length : Int)
        · rw [if_pos c5] at H
          have c5b0 : decide (x18_1 < (l0.length : Int)) = true := decide_eq_true c5
          by_cases c6 : 0 ≤ x18_1
          · rw [if_pos c6, if_pos c5] at H
            have c6b0 : decide (0 ≤ x18_1) = true := decide_eq_true c6
            clear c6 c5
            by_cases cF : (rd_T40 l0 x18_1).f0 = true
            · rw [if_pos cF] at H
              have NF := Aside0.mk cF
              clear cF
              have H' := Aside0.mk H
              clear H
              have p121 : 0 ≤ (x18_1 : Int) := of_decide_eq_true (by first | (with_reducible assumption) | assumption)
              have q121 : x18_1 < (l0.length : Int) := of_decide_eq_true (by first | (with_reducible assumption) | assumption)
              obtain ⟨ad121, e121, hx121_0, hx121_1, hx121_2, hx121_3, hx121_4⟩ := at_T40 HR0.out x18_1 p121 q121
              rw [NF.out] at hx121_0
              cases e121
              replace hx121_0 := (HB.out.cell (World.block_lt_of_cell? w _ hx121_0)).trans hx121_0
              replace hx121_1 := (HB.out.cell (World.block_lt_of_cell? w _ hx121_1)).trans hx121_1
              replace hx121_2 := (HB.out.cell (World.block_lt_of_cell? w _ hx121_2)).trans hx121_2
              replace hx121_3 := (HB.out.cell (World.block_lt_of_cell? w _ hx121_3)).trans hx121_3
              replace hx121_4 := (HB.out.cell (World.block_lt_of_cell? w _ hx121_4)).trans hx121_4
              replace p121 := eq_true p121
              replace q121 := eq_true q121
              go_wp2_with (first | ((with_reducible refine gate_dst (N := 8) rfl ?_); refine box_event ?hg (N := 8) ?hd (cs := #[.bool false, .int .i64 0, .int .i64 0, .int .i64 0, .int .i64 0]) (t := 40) ?hr ?_; (case hd => rfl); (case hg => rfl); (case hr => first | (go_simp; done) | (go_simp; rfl)); intro gb122 hg w11 hbox hb; have n0_ := Aside0.mk (Kd.R_below (by (with_reducible repeat (first | apply Kd.R_alloc | apply Kd.R_drewN | apply Kd.R_drew)); exact HO_2.out) hb); have n1_ := Aside0.mk (Kd.R_below (by (with_reducible repeat (first | apply Kd.R_alloc | apply Kd.R_drewN | apply Kd.R_drew)); exact HO_3.out) hb); have n2_ := Aside0.mk (below_step (by repeat (first | (with_reducible first | exact HB.out | apply below_alloc | apply pw_below_drewN | apply below_drew1) | exact HB.out)) hb); have n3_ := Aside0.mk (hbox); have n4_ := Aside0.mk ((by rw [hg]; exact (below_size (by repeat (first | (with_reducible first | exact HB.out | apply below_alloc | apply pw_below_drewN | apply below_drew1) | exact HB.out))) : w.heap.size ≤ gb122)); have n5_ := Aside0.mk ((by rw [hg]; exact (below_size (by repeat (first | (with_reducible first | exact HB.out | apply below_alloc | apply pw_below_drewN | apply below_drew1) | exact HB.out))) : w.heap.size ≤ gb122)); clear HO_2; clear HO_3; clear HB; have HO_2 := n0_; have HO_3 := n1_; have HB := n2_; have BK122 := n3_; have GW122 := n4_; have GE122 := n5_; clear n0_ n1_ n2_ n3_ n4_ n5_; have ng_ := Aside0.mk ((hb.block g (blk_lt HG.out)).trans HG.out); have GN := Aside0.mk (show g ≠ gb122 from by have := blk_lt HG.out; rw [hg]; omega); clear HG; have HG := ng_; clear ng_; clear hb hbox hg; have hcz12_0 : w11.cell? ⟨gb122, 0, none⟩ = some (.bool false) := (blk_cell BK122.out 0).trans rfl; have hcz12_1 : w11.cell? ⟨gb122, 1, none⟩ = some (.int .i64 0) := (blk_cell BK122.out 1).trans rfl; have hcz12_2 : w11.cell? ⟨gb122, 2, none⟩ = some (.int .i64 0) := (blk_cell BK122.out 2).trans rfl; have hcz12_3 : w11.cell? ⟨gb122, 3, none⟩ = some (.int .i64 0) := (blk_cell BK122.out 3).trans rfl; have hcz12_4 : w11.cell? ⟨gb122, 4, none⟩ = some (.int .i64 0) := (blk_cell BK122.out 4).trans rfl; have hfz12_0 := blk_frozen BK122.out 0; have hfz12_1 := blk_frozen BK122.out 1; have hfz12_2 := blk_frozen BK122.out 2; have hfz12_3 := blk_frozen BK122.out 3; have hfz12_4 := blk_frozen BK122.out 4) | (go_at_call 26; refine (step_calls g x6_1 ⟨true, (rd_T40 l0 x18_1).f1, (rd_T40 l0 x18_1).f2⟩ _ ?hG).mono ?_; (case hG => exact blk_set5s HG.out GN.out _ _ _ _ _); rintro e w12 ⟨rfl, hg', hk, hbl⟩; have n0_ := Aside0.mk (Below.trans (by repeat (first | (with_reducible first | exact HB.out | apply below_alloc | apply pw_below_drewN | apply below_drew1 | refine below_set ?_ GE122.out) | exact HB.out)) (hbl.mono GE.out)); have n1_ := Aside0.mk hg'; have n2_ := Aside0.mk (split_keep HO_2.out BK122.out HG.out hk); have n3_ := Aside0.mk (split_keep HO_3.out BK122.out HG.out hk); have n4_ := Aside0.mk (box5 BK122.out hk GN.out); clear HB HG HO_2 HO_3 BK122; have HB := n0_; have HG := n1_; have HO_2 := n2_; have HO_3 := n3_; have BK122 := n4_; clear n0_ n1_ n2_ n3_ n4_ hg' hk hbl; have hcy_0 : w12.cell? ⟨gb122, 0, none⟩ = some (.bool true) := (blk_cell BK122.out 0).trans rfl; have hcy_1 : w12.cell? ⟨gb122, 1, none⟩ = some (.int .i64 ((rd_T40 l0 x18_1).f1)) := (blk_cell BK122.out 1).trans rfl; have hcy_2 : w12.cell? ⟨gb122, 2, none⟩ = some (.int .i64 ((rd_T40 l0 x18_1).f2.f0)) := (blk_cell BK122.out 2).trans rfl; have hcy_3 : w12.cell? ⟨gb122, 3, none⟩ = some (.int .i64 ((rd_T40 l0 x18_1).f2.f1)) := (blk_cell BK122.out 3).trans rfl; have hcy_4 : w12.cell? ⟨gb122, 4, none⟩ = some (.int .i64 ((rd_T40 l0 x18_1).f2.f2)) := (blk_cell BK122.out 4).trans rfl))
              have hgm : Raised x6_1 ⟨true, (rd_T40 l0 x18_1).f1, (rd_T40 l0 x18_1).f2⟩ = mx x6_1 (rd_T40 l0 x18_1).f1 := by simp [Raised]
              have HGm := HG.out
              rw [hgm] at HGm
              have HG2 := Aside0.mk HGm
              clear HGm hgm HG
              go_roundg k1
              case measure => have := HK1.out; omega
              case rel => exact ⟨x2_1, x3_1, _, (wrap64 (x18_1 + 1)), (by first | rfl | (simp; done) | (simp [*]; done)), H', ⟨by have := HK1.out; omega⟩, ⟨(by (with_reducible repeat (first | apply Kd.R_alloc | apply Kd.R_drewN | apply Kd.R_drew)); exact HO_2.out)⟩, ⟨(by (with_reducible repeat (first | apply Kd.R_alloc | apply Kd.R_drewN | apply Kd.R_drew)); exact HO_3.out)⟩, HG2, ⟨by repeat (first | (with_reducible first | exact HB.out | apply below_alloc | apply pw_below_drewN | apply below_drew1) | exact HB.out)⟩⟩
            · rw [if_neg cF] at H
              have NF := Aside0.mk (Bool.eq_false_iff.mpr cF)
              clear cF
              by_cases c13 : ((rd_T40 l0 x18_1).f2.f1) < x6_1
              · rw [if_pos c13] at H
                have c13b0 : decide (((rd_T40 l0 x18_1).f2.f1) < x6_1) = true := decide_eq_true c13
                clear c13
                by_cases c14 : x3_1.length < 5864062014805
                · rw [if_pos c14] at H
                  have LMc14 := Aside0.mk c14
                  clear c14
                  obtain ⟨y123, hy123⟩ : ∃ y_ : List (S38), y_ = (x3_1 ++ [(⟨(rd_T40 l0 x18_1).f2.f0, (rd_T40 l0 x18_1).f2.f1, (rd_T40 l0 x18_1).f2.f2⟩ : S38)]) := ⟨_, rfl⟩
                  rw [← hy123] at H
                  have Ny123 := Aside0.mk hy123
                  clear hy123
                  have H' := Aside0.mk H
                  clear H
                  have p121 : 0 ≤ (x18_1 : Int) := of_decide_eq_true (by first | (with_reducible assumption) | assumption)
                  have q121 : x18_1 < (l0.length : Int) := of_decide_eq_true (by first | (with_reducible assumption) | assumption)
                  obtain ⟨ad121, e121, hx121_0, hx121_1, hx121_2, hx121_3, hx121_4⟩ := at_T40 HR0.out x18_1 p121 q121
                  rw [NF.out] at hx121_0
                  cases e121
                  replace hx121_0 := (HB.out.cell (World.block_lt_of_cell? w _ hx121_0)).trans hx121_0
                  replace hx121_1 := (HB.out.cell (World.block_lt_of_cell? w _ hx121_1)).trans hx121_1
                  replace hx121_2 := (HB.out.cell (World.block_lt_of_cell? w _ hx121_2)).trans hx121_2
                  replace hx121_3 := (HB.out.cell (World.block_lt_of_cell? w _ hx121_3)).trans hx121_3
                  replace hx121_4 := (HB.out.cell (World.block_lt_of_cell? w _ hx121_4)).trans hx121_4
                  replace p121 := eq_true p121
                  replace q121 := eq_true q121
                  go_wp2_with (first | ((with_reducible refine gate_dst (N := 8) rfl ?_); refine box_event ?hg (N := 8) ?hd (cs := #[.bool false, .int .i64 0, .int .i64 0, .int .i64 0, .int .i64 0]) (t := 40) ?hr ?_; (case hd => rfl); (case hg => rfl); (case hr => first | (go_simp; done) | (go_simp; rfl)); intro gb122 hg w11 hbox hb; have n0_ := Aside0.mk (Kd.R_below (by (with_reducible repeat (first | apply Kd.R_alloc | apply Kd.R_drewN | apply Kd.R_drew)); exact HO_2.out) hb); have n1_ := Aside0.mk (Kd.R_below (by (with_reducible repeat (first | apply Kd.R_alloc | apply Kd.R_drewN | apply Kd.R_drew)); exact HO_3.out) hb); have n2_ := Aside0.mk (below_step (by repeat (first | (with_reducible first | exact HB.out | apply below_alloc | apply pw_below_drewN | apply below_drew1) | exact HB.out)) hb); have n3_ := Aside0.mk (hbox); have n4_ := Aside0.mk ((by rw [hg]; exact (below_size (by repeat (first | (with_reducible first | exact HB.out | apply below_alloc | apply pw_below_drewN | apply below_drew1) | exact HB.out))) : w.heap.size ≤ gb122)); have n5_ := Aside0.mk ((by rw [hg]; exact (below_size (by repeat (first | (with_reducible first | exact HB.out | apply below_alloc | apply pw_below_drewN | apply below_drew1) | exact HB.out))) : w.heap.size ≤ gb122)); clear HO_2; clear HO_3; clear HB; have HO_2 := n0_; have HO_3 := n1_; have HB := n2_; have BK122 := n3_; have GW122 := n4_; have GE122 := n5_; clear n0_ n1_ n2_ n3_ n4_ n5_; have ng_ := Aside0.mk ((hb.block g (blk_lt HG.out)).trans HG.out); have GN := Aside0.mk (show g ≠ gb122 from by have := blk_lt HG.out; rw [hg]; omega); clear HG; have HG := ng_; clear ng_; clear hb hbox hg; have hcz12_0 : w11.cell? ⟨gb122, 0, none⟩ = some (.bool false) := (blk_cell BK122.out 0).trans rfl; have hcz12_1 : w11.cell? ⟨gb122, 1, none⟩ = some (.int .i64 0) := (blk_cell BK122.out 1).trans rfl; have hcz12_2 : w11.cell? ⟨gb122, 2, none⟩ = some (.int .i64 0) := (blk_cell BK122.out 2).trans rfl; have hcz12_3 : w11.cell? ⟨gb122, 3, none⟩ = some (.int .i64 0) := (blk_cell BK122.out 3).trans rfl; have hcz12_4 : w11.cell? ⟨gb122, 4, none⟩ = some (.int .i64 0) := (blk_cell BK122.out 4).trans rfl; have hfz12_0 := blk_frozen BK122.out 0; have hfz12_1 := blk_frozen BK122.out 1; have hfz12_2 := blk_frozen BK122.out 2; have hfz12_3 := blk_frozen BK122.out 3; have hfz12_4 := blk_frozen BK122.out 4) | (go_at_call 26; refine (step_calls g x6_1 ⟨false, (rd_T40 l0 x18_1).f1, (rd_T40 l0 x18_1).f2⟩ _ ?hG).mono ?_; (case hG => exact blk_set5s HG.out GN.out _ _ _ _ _); rintro e w12 ⟨rfl, hg', hk, hbl⟩; have n0_ := Aside0.mk (Below.trans (by repeat (first | (with_reducible first | exact HB.out | apply below_alloc | apply pw_below_drewN | apply below_drew1 | refine below_set ?_ GE122.out) | exact HB.out)) (hbl.mono GE.out)); have n1_ := Aside0.mk hg'; have n2_ := Aside0.mk (split_keep HO_2.out BK122.out HG.out hk); have n3_ := Aside0.mk (split_keep HO_3.out BK122.out HG.out hk); have n4_ := Aside0.mk (box5 BK122.out hk GN.out); clear HB HG HO_2 HO_3 BK122; have HB := n0_; have HG := n1_; have HO_2 := n2_; have HO_3 := n3_; have BK122 := n4_; clear n0_ n1_ n2_ n3_ n4_ hg' hk hbl; have hcy_0 : w12.cell? ⟨gb122, 0, none⟩ = some (.bool false) := (blk_cell BK122.out 0).trans rfl; have hcy_1 : w12.cell? ⟨gb122, 1, none⟩ = some (.int .i64 ((rd_T40 l0 x18_1).f1)) := (blk_cell BK122.out 1).trans rfl; have hcy_2 : w12.cell? ⟨gb122, 2, none⟩ = some (.int .i64 ((rd_T40 l0 x18_1).f2.f0)) := (blk_cell BK122.out 2).trans rfl; have hcy_3 : w12.cell? ⟨gb122, 3, none⟩ = some (.int .i64 ((rd_T40 l0 x18_1).f2.f1)) := (blk_cell BK122.out 3).trans rfl; have hcy_4 : w12.cell? ⟨gb122, 4, none⟩ = some (.int .i64 ((rd_T40 l0 x18_1).f2.f2)) := (blk_cell BK122.out 4).trans rfl) | ((with_reducible refine gate_builtin (b := .append) (xs := #[.tmp 39, .tmp 42]) rfl ?_); at_builtin; refine Kd.R_append k38 (w0 := w) w.heap.size rfl (.tmp 39) (.tmp 42) 28 38 (.agg #[(.int .i64 0), (.int .i64 0), (.int .i64 0)]) 24 rfl Try.underlying28 info38 rfl (by decide) (by omega) u3 x3_1 (⟨(rd_T40 l0 x18_1).f2.f0, (rd_T40 l0 x18_1).f2.f1, (rd_T40 l0 x18_1).f2.f2⟩ : S38) [.int .i64 ((rd_T40 l0 x18_1).f2.f0), .int .i64 ((rd_T40 l0 x18_1).f2.f1), .int .i64 ((rd_T40 l0 x18_1).f2.f2)] (fun k_ => some k_ ≠ (u2 : Value).ownBlock) (fun _ => False) rfl (by first | (go_simp; done) | (go_simp; rfl)) ?aP (fun _ hk => hk.elim) ?aF ?aO ?aB ?aS ?aL ?_; (case aP => exact k38_mkM _ _ _ (⟨(rd_T40 l0 x18_1).f2.f0, (rd_T40 l0 x18_1).f2.f1, (rd_T40 l0 x18_1).f2.f2⟩ : S38)); (case aB => exact (by repeat (first | (with_reducible first | exact HB.out | apply below_alloc | apply pw_below_drewN | apply below_drew1) | exact HB.out))); (case aF => exact (fun k_ hk => Kd.fresh' (Kd.R_lt (by (with_reducible repeat (first | apply Kd.R_alloc | apply Kd.R_drewN | apply Kd.R_drew)); exact HO_2.out)) k_ hk)); (case aO => exact (by (with_reducible repeat (first | apply Kd.R_alloc | apply Kd.R_drewN | apply Kd.R_drew)); exact HO_3.out)); (case aS => exact (below_size (by repeat (first | (with_reducible first | exact HB.out | apply below_alloc | apply pw_below_drewN | apply below_drew1) | exact HB.out)))); (case aL => have := LMc14.out; omega); intro v124 w17 ho hb hg hat; rw [← Ny123.out] at ho; have n0_ := Aside0.mk (Kd.R_after (ok := (fun _ => True)) (by (with_reducible repeat (first | apply Kd.R_alloc | apply Kd.R_drewN | apply Kd.R_drew)); exact Kd.R_mono HO_2.out (fun _ hk => ⟨trivial, hk⟩)) hg hat); have n2_ := Aside0.mk (hb); have n3_ := Aside0.mk (ho); have n4_ := Aside0.mk (blk_grown (g := g) (by (with_reducible repeat (first | refine blk_drewN ?_ _ | refine blk_drew ?_ | refine blk_alloc ?_ _)); exact HG.out) hg (Kd.R_ne HO_3.out HG.out (by decide))); clear HO_2 BK122 HB HO_3 HG; have HO_2 := n0_; have HB := n2_; have HO125 := n3_; have HG := n4_; clear n0_ n2_ n3_ n4_ ho hb hg hat))
                  go_roundg k1
                  case measure => have := HK1.out; omega
                  case rel => exact ⟨x2_1, y123, x6_1, (wrap64 (x18_1 + 1)), (by first | rfl | (simp; done) | (simp [*]; done)), H', ⟨by have := HK1.out; omega⟩, ⟨by (with_reducible repeat (first | apply Kd.R_alloc | apply Kd.R_drewN | apply Kd.R_drew)); exact Kd.R_mono HO_2.out (fun _ hk => hk.2)⟩, ⟨by (with_reducible repeat (first | apply Kd.R_alloc | apply Kd.R_drewN | apply Kd.R_drew)); exact HO125.out⟩, HG, ⟨by repeat (first | (with_reducible first | exact HB.out | apply below_alloc | apply pw_below_drewN | apply below_drew1) | exact HB.out)⟩⟩
                · rw [if_neg c14] at H
                  exact absurd H (by simp)
              · rw [if_neg c13] at H
                have c13b0 : decide (((rd_T40 l0 x18_1).f2.f1) < x6_1) = false := decide_eq_false c13
                clear c13
                by_cases c14 : x2_1.length < 5864062014805
                · rw [if_pos c14] at H
                  have LMc14 := Aside0.mk c14
                  clear c14
                  obtain ⟨y123, hy123⟩ : ∃ y_ : List (S38), y_ = (x2_1 ++ [(⟨(rd_T40 l0 x18_1).f2.f0, (rd_T40 l0 x18_1).f2.f1, (rd_T40 l0 x18_1).f2.f2⟩ : S38)]) := ⟨_, rfl⟩
                  rw [← hy123] at H
                  have Ny123 := Aside0.mk hy123
                  clear hy123
                  have H' := Aside0.mk H
                  clear H
                  have p121 : 0 ≤ (x18_1 : Int) := of_decide_eq_true (by first | (with_reducible assumption) | assumption)
                  have q121 : x18_1 < (l0.length : Int) := of_decide_eq_true (by first | (with_reducible assumption) | assumption)
                  obtain ⟨ad121, e121, hx121_0, hx121_1, hx121_2, hx121_3, hx121_4⟩ := at_T40 HR0.out x18_1 p121 q121
                  rw [NF.out] at hx121_0
                  cases e121
                  replace hx121_0 := (HB.out.cell (World.block_lt_of_cell? w _ hx121_0)).trans hx121_0
                  replace hx121_1 := (HB.out.cell (World.block_lt_of_cell? w _ hx121_1)).trans hx121_1
                  replace hx121_2 := (HB.out.cell (World.block_lt_of_cell? w _ hx121_2)).trans hx121_2
                  replace hx121_3 := (HB.out.cell (World.block_lt_of_cell? w _ hx121_3)).trans hx121_3
                  replace hx121_4 := (HB.out.cell (World.block_lt_of_cell? w _ hx121_4)).trans hx121_4
                  replace p121 := eq_true p121
                  replace q121 := eq_true q121
                  go_wp2_with (first | ((with_reducible refine gate_dst (N := 8) rfl ?_); refine box_event ?hg (N := 8) ?hd (cs := #[.bool false, .int .i64 0, .int .i64 0, .int .i64 0, .int .i64 0]) (t := 40) ?hr ?_; (case hd => rfl); (case hg => rfl); (case hr => first | (go_simp; done) | (go_simp; rfl)); intro gb122 hg w11 hbox hb; have n0_ := Aside0.mk (Kd.R_below (by (with_reducible repeat (first | apply Kd.R_alloc | apply Kd.R_drewN | apply Kd.R_drew)); exact HO_2.out) hb); have n1_ := Aside0.mk (Kd.R_below (by (with_reducible repeat (first | apply Kd.R_alloc | apply Kd.R_drewN | apply Kd.R_drew)); exact HO_3.out) hb); have n2_ := Aside0.mk (below_step (by repeat (first | (with_reducible first | exact HB.out | apply below_alloc | apply pw_below_drewN | apply below_drew1) | exact HB.out)) hb); have n3_ := Aside0.mk (hbox); have n4_ := Aside0.mk ((by rw [hg]; exact (below_size (by repeat (first | (with_reducible first | exact HB.out | apply below_alloc | apply pw_below_drewN | apply below_drew1) | exact HB.out))) : w.heap.size ≤ gb122)); have n5_ := Aside0.mk ((by rw [hg]; exact (below_size (by repeat (first | (with_reducible first | exact HB.out | apply below_alloc | apply pw_below_drewN | apply below_drew1) | exact HB.out))) : w.heap.size ≤ gb122)); clear HO_2; clear HO_3; clear HB; have HO_2 := n0_; have HO_3 := n1_; have HB := n2_; have BK122 := n3_; have GW122 := n4_; have GE122 := n5_; clear n0_ n1_ n2_ n3_ n4_ n5_; have ng_ := Aside0.mk ((hb.block g (blk_lt HG.out)).trans HG.out); have GN := Aside0.mk (show g ≠ gb122 from by have := blk_lt HG.out; rw [hg]; omega); clear HG; have HG := ng_; clear ng_; clear hb hbox hg; have hcz12_0 : w11.cell? ⟨gb122, 0, none⟩ = some (.bool false) := (blk_cell BK122.out 0).trans rfl; have hcz12_1 : w11.cell? ⟨gb122, 1, none⟩ = some (.int .i64 0) := (blk_cell BK122.out 1).trans rfl; have hcz12_2 : w11.cell? ⟨gb122, 2, none⟩ = some (.int .i64 0) := (blk_cell BK122.out 2).trans rfl; have hcz12_3 : w11.cell? ⟨gb122, 3, none⟩ = some (.int .i64 0) := (blk_cell BK122.out 3).trans rfl; have hcz12_4 : w11.cell? ⟨gb122, 4, none⟩ = some (.int .i64 0) := (blk_cell BK122.out 4).trans rfl; have hfz12_0 := blk_frozen BK122.out 0; have hfz12_1 := blk_frozen BK122.out 1; have hfz12_2 := blk_frozen BK122.out 2; have hfz12_3 := blk_frozen BK122.out 3; have hfz12_4 := blk_frozen BK122.out 4) | (go_at_call 26; refine (step_calls g x6_1 ⟨false, (rd_T40 l0 x18_1).f1, (rd_T40 l0 x18_1).f2⟩ _ ?hG).mono ?_; (case hG => exact blk_set5s HG.out GN.out _ _ _ _ _); rintro e w12 ⟨rfl, hg', hk, hbl⟩; have n0_ := Aside0.mk (Below.trans (by repeat (first | (with_reducible first | exact HB.out | apply below_alloc | apply pw_below_drewN | apply below_drew1 | refine below_set ?_ GE122.out) | exact HB.out)) (hbl.mono GE.out)); have n1_ := Aside0.mk hg'; have n2_ := Aside0.mk (split_keep HO_2.out BK122.out HG.out hk); have n3_ := Aside0.mk (split_keep HO_3.out BK122.out HG.out hk); have n4_ := Aside0.mk (box5 BK122.out hk GN.out); clear HB HG HO_2 HO_3 BK122; have HB := n0_; have HG := n1_; have HO_2 := n2_; have HO_3 := n3_; have BK122 := n4_; clear n0_ n1_ n2_ n3_ n4_ hg' hk hbl; have hcy_0 : w12.cell? ⟨gb122, 0, none⟩ = some (.bool false) := (blk_cell BK122.out 0).trans rfl; have hcy_1 : w12.cell? ⟨gb122, 1, none⟩ = some (.int .i64 ((rd_T40 l0 x18_1).f1)) := (blk_cell BK122.out 1).trans rfl; have hcy_2 : w12.cell? ⟨gb122, 2, none⟩ = some (.int .i64 ((rd_T40 l0 x18_1).f2.f0)) := (blk_cell BK122.out 2).trans rfl; have hcy_3 : w12.cell? ⟨gb122, 3, none⟩ = some (.int .i64 ((rd_T40 l0 x18_1).f2.f1)) := (blk_cell BK122.out 3).trans rfl; have hcy_4 : w12.cell? ⟨gb122, 4, none⟩ = some (.int .i64 ((rd_T40 l0 x18_1).f2.f2)) := (blk_cell BK122.out 4).trans rfl) | ((with_reducible refine gate_builtin (b := .append) (xs := #[.tmp 25, .tmp 28]) rfl ?_); at_builtin; refine Kd.R_append k38 (w0 := w) w.heap.size rfl (.tmp 25) (.tmp 28) 28 38 (.agg #[(.int .i64 0), (.int .i64 0), (.int .i64 0)]) 24 rfl Try.underlying28 info38 rfl (by decide) (by omega) u2 x2_1 (⟨(rd_T40 l0 x18_1).f2.f0, (rd_T40 l0 x18_1).f2.f1, (rd_T40 l0 x18_1).f2.f2⟩ : S38) [.int .i64 ((rd_T40 l0 x18_1).f2.f0), .int .i64 ((rd_T40 l0 x18_1).f2.f1), .int .i64 ((rd_T40 l0 x18_1).f2.f2)] (fun k_ => some k_ ≠ (u3 : Value).ownBlock) (fun _ => False) rfl (by first | (go_simp; done) | (go_simp; rfl)) ?aP (fun _ hk => hk.elim) ?aF ?aO ?aB ?aS ?aL ?_; (case aP => exact k38_mkM _ _ _ (⟨(rd_T40 l0 x18_1).f2.f0, (rd_T40 l0 x18_1).f2.f1, (rd_T40 l0 x18_1).f2.f2⟩ : S38)); (case aB => exact (by repeat (first | (with_reducible first | exact HB.out | apply below_alloc | apply pw_below_drewN | apply below_drew1) | exact HB.out))); (case aF => exact (fun k_ hk => Kd.fresh' (Kd.R_lt (by (with_reducible repeat (first | apply Kd.R_alloc | apply Kd.R_drewN | apply Kd.R_drew)); exact HO_3.out)) k_ hk)); (case aO => exact (by (with_reducible repeat (first | apply Kd.R_alloc | apply Kd.R_drewN | apply Kd.R_drew)); exact HO_2.out)); (case aS => exact (below_size (by repeat (first | (with_reducible first | exact HB.out | apply below_alloc | apply pw_below_drewN | apply below_drew1) | exact HB.out)))); (case aL => have := LMc14.out; omega); intro v124 w17 ho hb hg hat; rw [← Ny123.out] at ho; have n0_ := Aside0.mk (Kd.R_after (ok := (fun _ => True)) (by (with_reducible repeat (first | apply Kd.R_alloc | apply Kd.R_drewN | apply Kd.R_drew)); exact Kd.R_mono HO_3.out (fun _ hk => ⟨trivial, hk⟩)) hg hat); have n2_ := Aside0.mk (hb); have n3_ := Aside0.mk (ho); have n4_ := Aside0.mk (blk_grown (g := g) (by (with_reducible repeat (first | refine blk_drewN ?_ _ | refine blk_drew ?_ | refine blk_alloc ?_ _)); exact HG.out) hg (Kd.R_ne HO_2.out HG.out (by decide))); clear HO_3 BK122 HB HO_2 HG; have HO_3 := n0_; have HB := n2_; have HO125 := n3_; have HG := n4_; clear n0_ n2_ n3_ n4_ ho hb hg hat))
                  go_roundg k1
                  case measure => have := HK1.out; omega
                  case rel => exact ⟨y123, x3_1, x6_1, (wrap64 (x18_1 + 1)), (by first | rfl | (simp; done) | (simp [*]; done)), H', ⟨by have := HK1.out; omega⟩, ⟨by (with_reducible repeat (first | apply Kd.R_alloc | apply Kd.R_drewN | apply Kd.R_drew)); exact HO125.out⟩, ⟨by (with_reducible repeat (first | apply Kd.R_alloc | apply Kd.R_drewN | apply Kd.R_drew)); exact Kd.R_mono HO_3.out (fun _ hk => hk.2)⟩, HG, ⟨by repeat (first | (with_reducible first | exact HB.out | apply below_alloc | apply pw_below_drewN | apply below_drew1) | exact HB.out)⟩⟩
                · rw [if_neg c14] at H
                  exact absurd H (by simp)
          · rw [if_neg c6] at H
            exact absurd H (by simp)
        · rw [if_neg c5] at H
          have c5b0 : decide (x18_1 < (l0.length : Int)) = false := decide_eq_false c5
          clear c5
          simp only [Option.some.injEq, Prod.mk.injEq] at H
          obtain ⟨rfl, rfl, rfl⟩ := H
          go_wp2
          go_ret3
          exact ⟨_, _, rfl, (by (with_reducible repeat (first | apply Kd.R_alloc | apply Kd.R_drewN | apply Kd.R_drew)); exact HO_2.out), (by (with_reducible repeat (first | apply Kd.R_alloc | apply Kd.R_drewN | apply Kd.R_drew)); exact HO_3.out), by repeat (first | (with_reducible first | exact HB.out | apply below_alloc | apply pw_below_drewN | apply below_drew1) | exact HB.out)⟩
  · rw [if_neg c3] at H
    have c3b0 : (t120 == 0) = false := beq_eq_false_iff_ne.mpr c3
    have c3b1 : (t120 != 0) = true := bne_iff_ne.mpr c3
    simp only [Option.some.injEq, Prod.mk.injEq] at H
    obtain ⟨rfl, rfl, rfl⟩ := H
    go_enter Try.func11, Try.ntmps11
    go_wp2_with (first | ((with_reducible refine gate_callee (f := 14) rfl ?_); refine goesL_ (some 11) rfl rfl Try.func14 (by kernel_rfl) rfl #[.slice A0 l0.length c0] rfl (by (try simp only [List.map_toArray, List.map_cons, List.map_nil]); first | done | rfl | (simp only [List.length_drop, List.length_take]; rfl)) ?_; (with_reducible refine (late_Check.calls k _ _ l0 t120 _ ?side1 ?side2 A2.out).mono ?_); (case side1 => repeat (first | exact HR0.out | (with_reducible refine Kd.C_alloc ?_ _) | (with_reducible refine Kd.C_drewN ?_ _) | (with_reducible refine Kd.C_drew ?_))); (case side2 => exact HC0.out); rintro e w22 ⟨rfl, hb⟩; refine ⟨_, rfl, ?_⟩; have n0_ := Aside0.mk (below_step (by repeat (first | (with_reducible first | exact HB.out | apply below_alloc | apply pw_below_drewN | apply below_drew1) | exact HB.out)) hb); clear HB; have HB := n0_; clear n0_; (try clear hb); (try clear hb2); (try clear hk); (try clear hi)))
    go_ret3
    exact ⟨_, _, by first | rfl | (simp [errW_none, errW_some] <;> rfl) | (simp [*, errW_none, errW_some] <;> rfl), by first | exact Kd.R_nil _ _ _ _ _ | exact Kd.N_nil _ _ _ _ _ | exact Kd.V_nil _ _ _ _ _ | exact Kd.Q_nil _ _ _ _ _ | exact Kd.S_nil _ _ _ _ _, by first | exact Kd.R_nil _ _ _ _ _ | exact Kd.N_nil _ _ _ _ _ | exact Kd.V_nil _ _ _ _ _ | exact Kd.Q_nil _ _ _ _ _ | exact Kd.S_nil _ _ _ _ _, by repeat (first | (with_reducible first | exact HB.out | apply below_alloc | apply pw_below_drewN | apply below_drew1) | exact HB.out)⟩

end Go.Proofs.Ytdmaedaobjcocaa.Q
