/- The walk of ChannelNames: it takes no input, so each call's answer is known ahead; the law returns true. No condition. -/
import Derived.Test.YtiilljmhddjmeaaQ0
import Derived.Test.YtiilljmhddjmeaaQ1
import Derived.Test.YtiilljmhddjmeaaF26
import Derived.Test.YtiilljmhddjmeaaF25
import Derived.Test.YtiilljmhddjmeaaF18
import Derived.Test.YtiilljmhddjmeaaF11
import Derived.Test.YtiilljmhddjmeaaF13
import Derived.Test.YtiilljmhddjmeaaF15
import Derived.Test.YtiilljmhddjmeaaF16
import Derived.Test.YtiilljmhddjmeaaF20
import Derived.Test.YtiilljmhddjmeaaF22
import Derived.Test.YtiilljmhddjmeaaHAlive
import Derived.Test.YtiilljmhddjmeaaHPut
import Derived.Test.YtiilljmhddjmeaaHTake
import Derived.Test.YtiilljmhddjmeaaWRepsOne
import Derived.Test.YtiilljmhddjmeaaFill
namespace Go.Proofs.Ytiilljmhddjmeaa.Q
open Go.RowKit Go.Proofs.YtiilljmhddjmeaaW.PrintWords Go.Proofs.YtiilljmhddjmeaaW.PrintLast
set_option linter.unusedVariables false
set_option linter.unusedSimpArgs false

attribute [local go_sem high] eqA35
def markS (t : Int) : S35 := ⟨2, ⟨0, 0, 0⟩, t, ⟨0, ⟨0, 0⟩, ⟨0, 0⟩⟩⟩
def marks (n : Nat) : List S35 := (List.range n).map fun (i : Nat) => markS (i : Int)
theorem marks_succ (n : Nat) : marks n ++ [markS (n : Int)] = marks (n + 1) := by simp [marks, List.range_succ]
theorem C_nilA {w : World} (A : Option Addr) : Kd.C k35 w A ([] : List S35).length [] := ⟨rfl, by simp, fun h => absurd h (by simp)⟩
theorem C_nilB {w : World} {A : Option Addr} {l : List S35} (h : l = []) : Kd.C k35 w A l.length l := by subst h; exact C_nilA A
theorem le_nilB {l : List S35} {c : Nat} (h : l = []) : l.length ≤ c := by subst h; exact Nat.zero_le c
theorem C_cut {w : World} {A : Option Addr} {x y : List S35} {m : Nat} (h : Kd.C k35 w A x.length x) (hy : y = x.take m) (hm : m ≤ x.length) : Kd.C k35 w A y.length y := by subst hy; exact Kd.C_take h hm
theorem marks_wrap {n : Nat} (h : n ≤ 100) : wrap64 ((n : Int) + 1) = ((n + 1 : Nat) : Int) := by unfold wrap64; omega
def names_T10 : Bool × List (List Nat × List Nat) := (true, [([], []), ([0], [0]), ([1], [1]), ([], []), ([2, 3, 3], [2, 3]), ([4], [4]), ([5], [5]), ([5], [5]), ([], []), ([8, 6, 4, 0, 1, 2, 3, 4, 5, 6, 8], [6, 8]), ([7, 9, 0, 1, 2, 3, 4, 5, 6, 7, 8, 9], [7])])
def names_B10 : List Nat := [0, 1, 3, 0, 15, 31, 63, 63, 0, 383, 1023]
theorem names_tab10 : rtab .any (opsOf Try.f6 10) = names_T10 := by kernel_rfl
theorem names_bits10 : waitsOk names_T10.2 names_B10 = true := by kernel_rfl
def names_T12 : Bool × List (List Nat × List Nat) := (true, [([], []), ([0], [0]), ([1], [1]), ([], []), ([2, 3, 3], [2, 3]), ([4], [4]), ([5], [5]), ([5], [5]), ([], []), ([8, 6, 4, 0, 1, 2, 3, 4, 5, 6, 8], [6, 8]), ([7, 9, 0, 1, 2, 3, 4, 5, 6, 7, 8, 9], [7])])
def names_B12 : List Nat := [0, 1, 3, 0, 15, 31, 63, 63, 0, 383, 1023]
theorem names_tab12 : rtab .any (opsOf Try.f6 12) = names_T12 := by kernel_rfl
theorem names_bits12 : waitsOk names_T12.2 names_B12 = true := by kernel_rfl
theorem nv_ref0 : tailwaterlaw26_refused.f 40 0 [] = some true := by decide +kernel
theorem nv_ref9 : tailwaterlaw26_refused.f 40 9 [] = some true := by decide +kernel
theorem nv_refm : tailwaterlaw26_refused.f 40 (-1) [] = some true := by decide +kernel
theorem nv_ref8 : tailwaterlaw26_refused.f 40 8 (marks 9) = some true := by decide +kernel
theorem nv_ref2 : tailwaterlaw26_refused.f 40 2 ((marks 9).take 3) = some true := by decide +kernel
theorem nv_refz : tailwaterlaw26_refused.f 40 2 [(⟨0, ⟨0, 0, 0⟩, 0, ⟨0, ⟨0, 0⟩, ⟨0, 0⟩⟩⟩ : S35)] = some true := by decide +kernel
theorem nv_new0 : channel_New.f 0 = some (0, [], 2) := by kernel_rfl
theorem nv_new9 : channel_New.f 9 = some (0, [], 2) := by kernel_rfl
theorem nv_new8 : channel_New.f 8 = some (8, [], 0) := by kernel_rfl
theorem nv_put1 : channel_Put.f 40 8 ((marks 9).take 8) 2 0 0 0 1 0 0 0 0 0 = some (0, [], 18) := by kernel_rfl
theorem nv_put0 : channel_Put.f 40 8 ((marks 9).take 8) 0 0 0 0 0 0 0 0 0 0 = some (0, [], 8) := by kernel_rfl
theorem nv_putF : channel_Put.f 40 8 ((marks 9).take 7) 2 0 0 0 9223372036854775807 0 0 0 0 0 = some (8, (marks 9).take 7 ++ [markS 9223372036854775807], 0) := by kernel_rfl
theorem nv_take : channel_Take.f 40 8 [] = some (0, 0, 0, 0, 0, 0, 0, 0, 0, 0, 0, [], 6) := by kernel_rfl
theorem nv_left : channel_Left.f 40 8 ((marks 9).take 3) = some (5, 0) := by kernel_rfl
theorem nv_aliv : tailwaterlaw26_alive.f 40 = some true := by decide +kernel
theorem nv_same : tailwaterref26_Same.f 40 0 [] 0 [] = some true := by decide +kernel
theorem refused_nil (k : Nat) (a : Int) (r : Bool) (w : World) (h : tailwaterlaw26_refused.f k a [] = some r) : Calls Try.prog 26 #[.agg #[.int .i64 a, .slice none 0 0]] w fun e w' => e = .returned (.bool r) ∧ Below w.heap.size w w' := tailwaterlaw26_refused.calls k a none 0 [] r w (Kd.C_nil _ _) (Nat.le_refl _) h
theorem same_nil (k : Nat) (a b : Int) (A : Option Addr) (c : Nat) (l : List S35) (r : Bool) (w : World) (hl : l = []) (h : tailwaterref26_Same.f k a l b [] = some r) : Calls Try.prog 15 #[.agg #[.int .i64 a, .slice A l.length c], .agg #[.int .i64 b, .slice none 0 0]] w fun e w' => e = .returned (.bool r) ∧ Below w.heap.size w w' := by
  subst hl
  exact tailwaterref26_Same.calls k a A c [] b none 0 [] r w (C_nilA A) (Nat.zero_le _) (Kd.C_nil _ _) (Nat.le_refl _) h
theorem nv_len : (marks 9).length = 9 := by kernel_rfl
set_option maxHeartbeats 8000000 in
set_option maxRecDepth 100000 in
theorem names_walk (w : World) : Calls Try.prog 6 #[] w fun e w' => e = .returned (.bool true) ∧ Below w.heap.size w w' := by
 have hu24 := Try.underlying24
 have hu35 := Try.underlying35
 have HB := Aside0.mk (Below.refl w.heap.size w)
 go_enter Try.func6, Try.ntmps6
 go_wp2
 go_loopg [1, 2] 9 (fun kq v1 v2 w' => ∃ n : Nat, v2 = .int .i64 (n : Int) ∧ Aside0 (kq + n = 9) ∧ Aside0 (Kd.R k35 35 w' w.heap.size (fun _ => True) v1 (marks n)) ∧ Aside0 (Below w.heap.size w w'))
 case atStart => exact ⟨0, rfl, ⟨rfl⟩, ⟨Kd.R_nil _ _ _ _ _⟩, ⟨HB.out⟩⟩
 case round =>
  obtain ⟨n, rfl, HN, HO_1, HB⟩ := hrel
  have hn9 : n ≤ 9 := by have := HN.out; omega
  cases gk with
  | succ k1 =>
   have c1b0 : decide ((n : Int) < 9) = true := decide_eq_true (by have := HN.out; omega)
   go_wp2_with (first | ((with_reducible refine gate_callee (f := 25) rfl ?_); refine goesL_ (some 27) rfl rfl Try.func25 (by kernel_rfl) rfl #[.int .i64 (n : Int)] rfl (by (try simp only [List.map_toArray, List.map_cons, List.map_nil]); first | done | rfl | (simp only [List.length_drop, List.length_take]; rfl)) ?_; (with_reducible refine (tailwaterlaw26_mark.calls (n : Int) 2 0 0 0 (n : Int) 0 0 0 0 0 _ rfl).mono ?_); rintro e w4 ⟨rfl, hb⟩; refine ⟨_, rfl, ?_⟩; have n0_ := Aside0.mk (Kd.R_below HO_1.out hb); have n1_ := Aside0.mk (below_step HB.out hb); clear HO_1 HB; have HO_1 := n0_; have HB := n1_; clear n0_ n1_; (try clear hb); (try clear hb2); (try clear hk); (try clear hi); (try clear ho0)) | ((with_reducible refine gate_builtin (b := .append) (xs := #[.tmp 25, .tmp 28]) rfl ?_); (try (refine gate_guard (by rfl) ?_; dsimp only)); at_builtin; refine Kd.R_append k35 (w0 := w) w.heap.size rfl (.tmp 25) (.tmp 28) 22 35 (.agg #[(.int .u8 0), (.int .i64 0), (.int .i64 0), (.int .i64 0), (.int .i64 0), (.int .i64 0), (.int .i64 0), (.int .i64 0), (.int .i64 0), (.int .i64 0)]) 80 rfl Try.underlying22 info35 rfl (by decide) (by omega) u1 (marks n) (markS (n : Int)) [.int .u8 2, .int .i64 0, .int .i64 0, .int .i64 0, .int .i64 (n : Int), .int .i64 0, .int .i64 0, .int .i64 0, .int .i64 0, .int .i64 0] (fun _ => True) (fun _ => False) rfl rfl ?aP (fun _ hk => hk.elim) ?aF ?aO ?aB ?aS ?aL ?_; (case aP => exact k35_mkM _ _ _ (markS (n : Int))); (case aB => exact (by repeat (first | (with_reducible first | exact HB.out | apply below_alloc | apply pw_below_drewN | apply below_drew1) | exact HB.out))); (case aF => exact (fun _ _ => trivial)); (case aO => exact HO_1.out); (case aS => exact (below_size (by repeat (first | (with_reducible first | exact HB.out | apply below_alloc | apply pw_below_drewN | apply below_drew1) | exact HB.out)))); (case aL => have : (marks n).length = n := (by simp [marks]); omega); intro v423 w5 ho hb hg hat; rw [marks_succ] at ho; have n0_ := Aside0.mk (hb); have n1_ := Aside0.mk (ho); clear HB HO_1; have HB := n0_; have HO_1 := n1_; clear n0_ n1_; clear ho hb hg hat))
   go_roundg k1
   case measure => omega
   case rel => exact ⟨n + 1, (by first | (simp; done) | (rw [marks_wrap (by omega)]; done) | rfl), ⟨by have := HN.out; omega⟩, ⟨HO_1.out⟩, ⟨HB.out⟩⟩
  | zero =>
   obtain rfl : n = 9 := by have := HN.out; omega
   have c1b0 : decide (((9 : Nat) : Int) < 9) = false := decide_eq_false (by omega)
   obtain ⟨x1, hx1⟩ : ∃ y : List S35, y = marks 9 := ⟨_, rfl⟩
   rw [← hx1] at HO_1
   have L9 : x1.length = 9 := by rw [hx1]; exact nv_len
   obtain ⟨kk, hkk⟩ : ∃ y : Nat, y = 40 := ⟨_, rfl⟩
   obtain ⟨y0, hy0⟩ : ∃ y : List S35, y = [] := ⟨_, rfl⟩
   obtain ⟨yz, hyz⟩ : ∃ y : List S35, y = [(⟨0, ⟨0, 0, 0⟩, 0, ⟨0, ⟨0, 0⟩, ⟨0, 0⟩⟩⟩ : S35)] := ⟨_, rfl⟩
   obtain ⟨y3, hy3⟩ : ∃ y : List S35, y = x1.take 3 := ⟨_, rfl⟩
   obtain ⟨y7, hy7⟩ : ∃ y : List S35, y = x1.take 7 := ⟨_, rfl⟩
   obtain ⟨y8, hy8⟩ : ∃ y : List S35, y = x1.take 8 := ⟨_, rfl⟩
   obtain ⟨yf, hyf⟩ : ∃ y : List S35, y = y7 ++ [markS 9223372036854775807] := ⟨_, rfl⟩
   have A_ref0 := Aside0.mk (show tailwaterlaw26_refused.f kk 0 [] = some true from by subst hyf hy8 hy7 hy3 hx1 hkk hy0 hyz; exact nv_ref0)
   have A_ref9 := Aside0.mk (show tailwaterlaw26_refused.f kk 9 [] = some true from by subst hyf hy8 hy7 hy3 hx1 hkk hy0 hyz; exact nv_ref9)
   have A_refm := Aside0.mk (show tailwaterlaw26_refused.f kk (-1) [] = some true from by subst hyf hy8 hy7 hy3 hx1 hkk hy0 hyz; exact nv_refm)
   have A_ref8 := Aside0.mk (show tailwaterlaw26_refused.f kk 8 x1 = some true from by subst hyf hy8 hy7 hy3 hx1 hkk hy0 hyz; exact nv_ref8)
   have A_ref2 := Aside0.mk (show tailwaterlaw26_refused.f kk 2 y3 = some true from by subst hyf hy8 hy7 hy3 hx1 hkk hy0 hyz; exact nv_ref2)
   have A_refz := Aside0.mk (show tailwaterlaw26_refused.f kk 2 yz = some true from by subst hyf hy8 hy7 hy3 hx1 hkk hy0 hyz; exact nv_refz)
   have A_new0 := Aside0.mk (show channel_New.f 0 = some (0, y0, 2) from by subst hyf hy8 hy7 hy3 hx1 hkk hy0 hyz; exact nv_new0)
   have A_new9 := Aside0.mk (show channel_New.f 9 = some (0, y0, 2) from by subst hyf hy8 hy7 hy3 hx1 hkk hy0 hyz; exact nv_new9)
   have A_new8 := Aside0.mk (show channel_New.f 8 = some (8, y0, 0) from by subst hyf hy8 hy7 hy3 hx1 hkk hy0 hyz; exact nv_new8)
   have A_put1 := Aside0.mk (show channel_Put.f kk 8 y8 2 0 0 0 1 0 0 0 0 0 = some (0, y0, 18) from by subst hyf hy8 hy7 hy3 hx1 hkk hy0 hyz; exact nv_put1)
   have A_put0 := Aside0.mk (show channel_Put.f kk 8 y8 0 0 0 0 0 0 0 0 0 0 = some (0, y0, 8) from by subst hyf hy8 hy7 hy3 hx1 hkk hy0 hyz; exact nv_put0)
   have A_putF := Aside0.mk (show channel_Put.f kk 8 y7 2 0 0 0 9223372036854775807 0 0 0 0 0 = some (8, yf, 0) from by subst hyf hy8 hy7 hy3 hx1 hkk hy0 hyz; exact nv_putF)
   have A_take := Aside0.mk (show channel_Take.f kk 8 y0 = some (0, 0, 0, 0, 0, 0, 0, 0, 0, 0, 0, y0, 6) from by subst hyf hy8 hy7 hy3 hx1 hkk hy0 hyz; exact nv_take)
   have A_left := Aside0.mk (show channel_Left.f kk 8 y3 = some (5, 0) from by subst hyf hy8 hy7 hy3 hx1 hkk hy0 hyz; exact nv_left)
   have A_aliv := Aside0.mk (show tailwaterlaw26_alive.f kk = some true from by subst hyf hy8 hy7 hy3 hx1 hkk hy0 hyz; exact nv_aliv)
   have A_same := Aside0.mk (show tailwaterref26_Same.f kk 0 y0 0 [] = some true from by subst hyf hy8 hy7 hy3 hx1 hkk hy0 hyz; exact nv_same)
   have L3 : y3.length = 3 := by rw [hy3, List.length_take]; omega
   have L7 : y7.length = 7 := by rw [hy7, List.length_take]; omega
   have L8 : y8.length = 8 := by rw [hy8, List.length_take]; omega
   have Lf : yf.length = 8 := by rw [hyf, List.length_append]; simp; omega
   have LN := Aside0.mk (And.intro L9 (And.intro L3 (And.intro L7 (And.intro L8 Lf))))
   have HY3 := Aside0.mk hy3
   have HY7 := Aside0.mk hy7
   have HY8 := Aside0.mk hy8
   clear L9 L3 L7 L8 Lf hy3 hy7 hy8 hyf hx1 hkk HN hn9
   have HY0 := Aside0.mk hy0
   have HYz := Aside0.mk hyz
   have hq0 : ((y0.length : Int) == 0) = true := by rw [hy0]; rfl
   clear hy0 hyz
   obtain ⟨A1, c1, e1⟩ := Kd.R_slice HO_1.out
   subst e1
   have HC1 := Aside0.mk ((Kd.R_reads' HO_1.out).2.1 : x1.length ≤ c1)
   go_upto_region 6 with (fail)
   (try simp only [Act.put, List.setIfInBounds_toArray, List.set_cons_zero, List.set_cons_succ])
   have qy3 : (3 : Int) ≤ ((x1.length : Int) : Int) := by have := LN.out; omega
   obtain ⟨i0_, hi0_, _, hsz_, _⟩ := info_parts info35
   have hcuty3 := cut_to (P := Try.prog) 22 35 .i64 Try.underlying22 hi0_ A1 x1.length c1 3 (by omega) qy3 HC1.out
   rw [show (3 : Int).toNat = y3.length from by have := LN.out; omega] at hcuty3
   clear hi0_ hsz_
   replace qy3 := eq_true qy3
   go_upto_region 7 with (first | ((with_reducible refine gate_callee (f := 26) rfl ?_); refine goesL_ (some 31) rfl rfl Try.func26 (by kernel_rfl) rfl #[.agg #[.int .i64 0, .slice none 0 0]] rfl (by (try simp only [List.map_toArray, List.map_cons, List.map_nil]); first | done | rfl | (simp only [List.length_drop, List.length_take]; rfl)) ?_; (with_reducible refine (refused_nil kk 0 true _ A_ref0.out).mono ?_); rintro e w19 ⟨rfl, hb⟩; refine ⟨_, rfl, ?_⟩; have n0_ := Aside0.mk (Kd.R_below HO_1.out hb); have n1_ := Aside0.mk (below_step HB.out hb); clear HO_1 HB; have HO_1 := n0_; have HB := n1_; clear n0_ n1_; (try clear hb); (try clear hb2); (try clear hk); (try clear hi); (try clear ho0)) | (go_at_call 26; (with_reducible refine (refused_nil kk 9 true _ A_ref9.out).mono ?_); rintro e w20 ⟨rfl, hb⟩; have n0_ := Aside0.mk (Kd.R_below HO_1.out hb); have n1_ := Aside0.mk (below_step HB.out hb); clear HO_1 HB; have HO_1 := n0_; have HB := n1_; clear n0_ n1_; (try clear hb); (try clear hb2); (try clear hk); (try clear hi); (try clear ho0)) | (go_at_call 26; (with_reducible refine (refused_nil kk (-1) true _ A_refm.out).mono ?_); rintro e w20 ⟨rfl, hb⟩; have n0_ := Aside0.mk (Kd.R_below HO_1.out hb); have n1_ := Aside0.mk (below_step HB.out hb); clear HO_1 HB; have HO_1 := n0_; have HB := n1_; clear n0_ n1_; (try clear hb); (try clear hb2); (try clear hk); (try clear hi); (try clear ho0)) | (go_at_call 26; (with_reducible refine (tailwaterlaw26_refused.calls kk 8 _ _ (x1 : List S35) true _ ?side1 ?side2 A_ref8.out).mono ?_); (case side1 => exact (Kd.R_reads' HO_1.out).2.2); (case side2 => exact HC1.out); rintro e w20 ⟨rfl, hb⟩; have n0_ := Aside0.mk (Kd.R_below HO_1.out hb); have n1_ := Aside0.mk (below_step HB.out hb); clear HO_1 HB; have HO_1 := n0_; have HB := n1_; clear n0_ n1_; (try clear hb); (try clear hb2); (try clear hk); (try clear hi); (try clear ho0)) | (go_at_call 26; (with_reducible refine (tailwaterlaw26_refused.calls kk 2 _ _ (y3 : List S35) true _ ?side1 ?side2 A_ref2.out).mono ?_); (case side1 => exact (C_cut (Kd.R_reads' HO_1.out).2.2 HY3.out (by have := LN.out; omega))); (case side2 => exact (by have := LN.out; have := HC1.out; omega)); rintro e w20 ⟨rfl, hb⟩; have n0_ := Aside0.mk (Kd.R_below HO_1.out hb); have n1_ := Aside0.mk (below_step HB.out hb); clear HO_1 HB; have HO_1 := n0_; have HB := n1_; clear n0_ n1_; (try clear hb); (try clear hb2); (try clear hk); (try clear hi); (try clear ho0)) | ((with_reducible refine gate_dst (N := 53) rfl ?_); (try (refine gate_guard (by rfl) ?_; dsimp only)); refine Kd.R_lit k35 _ 35 ?hg (N := 53) ?hd (xs := ([(⟨0, ⟨0, 0, 0⟩, 0, ⟨0, ⟨0, 0⟩, ⟨0, 0⟩⟩⟩ : S35)] : List S35)) (inner := [.int .u8 0, .int .i64 0, .int .i64 0, .int .i64 0, .int .i64 0, .int .i64 0, .int .i64 0, .int .i64 0, .int .i64 0, .int .i64 0]) (ok := fun _ => True) (okp := fun _ => True) ?hr ?hp (fun _ hk => hk) trivial (Below.refl _ _) (Nat.le_refl _) (by simp) ?_; (case hd => rfl); (case hg => rfl); (case hr => first | (go_simp; done) | (go_simp; rfl)); (case hp => exact (Reps.c10 (show Kd.M k35 _ _ _ (⟨0, ⟨0, 0, 0⟩, 0, ⟨0, ⟨0, 0⟩, ⟨0, 0⟩⟩⟩ : S35) [.int .u8 0, .int .i64 0, .int .i64 0, .int .i64 0, .int .i64 0, .int .i64 0, .int .i64 0, .int .i64 0, .int .i64 0, .int .i64 0] from (k35_mkM _ _ _ (⟨0, ⟨0, 0, 0⟩, 0, ⟨0, ⟨0, 0⟩, ⟨0, 0⟩⟩⟩ : S35))) (Reps.none _ _))); intro v435 w26 ho0 hb hg_ hnew_; clear hg_ hnew_; rw [← HYz.out] at ho0; have n0_ := Aside0.mk (Kd.R_below HO_1.out hb); have n1_ := Aside0.mk (Kd.R_lower ho0 (below_size HB.out)); have n2_ := Aside0.mk (below_step HB.out hb); clear HO_1 HB; have HO_1 := n0_; have HOz := n1_; have HB := n2_; clear n0_ n1_ n2_; clear hb ho0; obtain ⟨Az, cz, ez⟩ := Kd.R_slice HOz.out; subst ez) | (go_at_call 26; (with_reducible refine (tailwaterlaw26_refused.calls kk 2 _ _ (yz : List S35) true _ ?side1 ?side2 A_refz.out).mono ?_); (case side1 => exact (Kd.R_reads' HOz.out).2.2); (case side2 => exact (Kd.R_reads' HOz.out).2.1); rintro e w20 ⟨rfl, hb⟩; have n0_ := Aside0.mk (Kd.R_below HO_1.out hb); have n1_ := Aside0.mk (below_step HB.out hb); clear HO_1 HB; have HO_1 := n0_; have HB := n1_; clear n0_ n1_; (try clear hb); (try clear hb2); (try clear hk); (try clear hi); (try clear ho0)))
   (try simp only [Act.put, List.setIfInBounds_toArray, List.set_cons_zero, List.set_cons_succ])
   try clear HOz
   go_upto_region 8 with (first | ((with_reducible refine gate_callee (f := 18) rfl ?_); refine goesL_ (some 58) rfl rfl Try.func18 (by kernel_rfl) rfl #[.int .i64 0] rfl (by (try simp only [List.map_toArray, List.map_cons, List.map_nil]); first | done | rfl | (simp only [List.length_drop, List.length_take]; rfl)) ?_; (with_reducible refine (channel_New.calls 0 0 y0 2 _ A_new0.out).mono ?_); rintro e wa4 ⟨v4, rfl, ho0, hb⟩; obtain ⟨A4, c4, ev4⟩ := Kd.R_slice ho0; subst ev4; refine ⟨_, rfl, ?_⟩; have n0_ := Aside0.mk (Kd.R_below HO_1.out hb); have n1_ := Aside0.mk (below_step HB.out hb); clear HO_1 HB; have HO_1 := n0_; have HB := n1_; clear n0_ n1_; (try clear hb); (try clear hb2); (try clear hk); (try clear hi); (try clear ho0)) | ((with_reducible refine gate_dst (N := 4) rfl ?_); (try (refine gate_guard (by rfl) ?_; dsimp only)); refine box_event ?hg (N := 4) ?hd (cs := #[.int .i64 0, .slice none 0 0]) (t := 24) ?hr ?_; (case hd => rfl); (case hg => rfl); (case hr => first | (go_simp; done) | (go_simp; rfl)); intro gb4 hg wb4 hbox hb; have n0_ := Aside0.mk (Kd.R_below (Kd.R_elderB HO_1.out gb4 (Nat.le_of_eq hg.symm)) hb); have n1_ := Aside0.mk ((by rw [hg]; exact below_size HB.out : w.heap.size ≤ gb4)); have n2_ := Aside0.mk (below_step HB.out hb); have n3_ := Aside0.mk (hbox); clear HO_1 HB; have HO_1 := n0_; have GE4 := n1_; have HB := n2_; have BK4 := n3_; clear n0_ n1_ n2_ n3_; clear hb hbox hg; have z4_0 : wb4.cell? ⟨gb4, 0, none⟩ = some (.int .i64 0) := (blk_cell BK4.out 0).trans rfl; have z4_1 : wb4.cell? ⟨gb4, 1, none⟩ = some (.slice none 0 0) := (blk_cell BK4.out 1).trans rfl; have zf4_0 := blk_frozen BK4.out 0; have zf4_1 := blk_frozen BK4.out 1))
   (try simp only [Act.put, List.setIfInBounds_toArray, List.set_cons_zero, List.set_cons_succ])
   refine fill2 BK4.out (fun wc4 fb_ fk_ fB_ => ?_)
   have n0_ := Aside0.mk (Kd.R_mono (Kd.R_keep HO_1.out fk_ (fun _ hk => hk.2)) (fun _ _ => trivial))
   have n1_ := Aside0.mk (fb_)
   have n2_ := Aside0.mk (fB_ w HB.out GE4.out)
   clear HO_1 BK4 HB
   have HO_1 := n0_
   have BK4 := n1_
   have HB := n2_
   clear n0_ n1_ n2_
   clear fb_ fk_ fB_
   clear z4_0 zf4_0 z4_1 zf4_1
   clear BK4
   go_upto_region 9 with (first | ((with_reducible refine gate_callee (f := 18) rfl ?_); refine goesL_ (some 62) rfl rfl Try.func18 (by kernel_rfl) rfl #[.int .i64 9] rfl (by (try simp only [List.map_toArray, List.map_cons, List.map_nil]); first | done | rfl | (simp only [List.length_drop, List.length_take]; rfl)) ?_; (with_reducible refine (channel_New.calls 9 0 y0 2 _ A_new9.out).mono ?_); rintro e wa6 ⟨v6, rfl, ho0, hb⟩; obtain ⟨A6, c6, ev6⟩ := Kd.R_slice ho0; subst ev6; refine ⟨_, rfl, ?_⟩; have n0_ := Aside0.mk (Kd.R_below HO_1.out hb); have n1_ := Aside0.mk (below_step HB.out hb); clear HO_1 HB; have HO_1 := n0_; have HB := n1_; clear n0_ n1_; (try clear hb); (try clear hb2); (try clear hk); (try clear hi); (try clear ho0)) | ((with_reducible refine gate_dst (N := 6) rfl ?_); (try (refine gate_guard (by rfl) ?_; dsimp only)); refine box_event ?hg (N := 6) ?hd (cs := #[.int .i64 0, .slice none 0 0]) (t := 24) ?hr ?_; (case hd => rfl); (case hg => rfl); (case hr => first | (go_simp; done) | (go_simp; rfl)); intro gb6 hg wb6 hbox hb; have n0_ := Aside0.mk (Kd.R_below (Kd.R_elderB HO_1.out gb6 (Nat.le_of_eq hg.symm)) hb); have n1_ := Aside0.mk ((by rw [hg]; exact below_size HB.out : w.heap.size ≤ gb6)); have n2_ := Aside0.mk (below_step HB.out hb); have n3_ := Aside0.mk (hbox); clear HO_1 HB; have HO_1 := n0_; have GE6 := n1_; have HB := n2_; have BK6 := n3_; clear n0_ n1_ n2_ n3_; clear hb hbox hg; have z6_0 : wb6.cell? ⟨gb6, 0, none⟩ = some (.int .i64 0) := (blk_cell BK6.out 0).trans rfl; have z6_1 : wb6.cell? ⟨gb6, 1, none⟩ = some (.slice none 0 0) := (blk_cell BK6.out 1).trans rfl; have zf6_0 := blk_frozen BK6.out 0; have zf6_1 := blk_frozen BK6.out 1))
   (try simp only [Act.put, List.setIfInBounds_toArray, List.set_cons_zero, List.set_cons_succ])
   refine fill2 BK6.out (fun wc6 fb_ fk_ fB_ => ?_)
   have n0_ := Aside0.mk (Kd.R_mono (Kd.R_keep HO_1.out fk_ (fun _ hk => hk.2)) (fun _ _ => trivial))
   have n1_ := Aside0.mk (fb_)
   have n2_ := Aside0.mk (fB_ w HB.out GE6.out)
   clear HO_1 BK6 HB
   have HO_1 := n0_
   have BK6 := n1_
   have HB := n2_
   clear n0_ n1_ n2_
   clear fb_ fk_ fB_
   clear z6_0 zf6_0 z6_1 zf6_1
   clear BK6
   go_upto_region 10 with (first | ((with_reducible refine gate_callee (f := 18) rfl ?_); refine goesL_ (some 66) rfl rfl Try.func18 (by kernel_rfl) rfl #[.int .i64 8] rfl (by (try simp only [List.map_toArray, List.map_cons, List.map_nil]); first | done | rfl | (simp only [List.length_drop, List.length_take]; rfl)) ?_; (with_reducible refine (channel_New.calls 8 8 y0 0 _ A_new8.out).mono ?_); rintro e wa8 ⟨v8, rfl, ho0, hb⟩; obtain ⟨A8, c8, ev8⟩ := Kd.R_slice ho0; subst ev8; refine ⟨_, rfl, ?_⟩; have n0_ := Aside0.mk (Kd.R_below HO_1.out hb); have n1_ := Aside0.mk (below_step HB.out hb); clear HO_1 HB; have HO_1 := n0_; have HB := n1_; clear n0_ n1_; (try clear hb); (try clear hb2); (try clear hk); (try clear hi); (try clear ho0)) | ((with_reducible refine gate_dst (N := 8) rfl ?_); (try (refine gate_guard (by rfl) ?_; dsimp only)); refine box_event ?hg (N := 8) ?hd (cs := #[.int .i64 0, .slice none 0 0]) (t := 24) ?hr ?_; (case hd => rfl); (case hg => rfl); (case hr => first | (go_simp; done) | (go_simp; rfl)); intro gb8 hg wb8 hbox hb; have n0_ := Aside0.mk (Kd.R_below (Kd.R_elderB HO_1.out gb8 (Nat.le_of_eq hg.symm)) hb); have n1_ := Aside0.mk ((by rw [hg]; exact below_size HB.out : w.heap.size ≤ gb8)); have n2_ := Aside0.mk (below_step HB.out hb); have n3_ := Aside0.mk (hbox); clear HO_1 HB; have HO_1 := n0_; have GE8 := n1_; have HB := n2_; have BK8 := n3_; clear n0_ n1_ n2_ n3_; clear hb hbox hg; have z8_0 : wb8.cell? ⟨gb8, 0, none⟩ = some (.int .i64 0) := (blk_cell BK8.out 0).trans rfl; have z8_1 : wb8.cell? ⟨gb8, 1, none⟩ = some (.slice none 0 0) := (blk_cell BK8.out 1).trans rfl; have zf8_0 := blk_frozen BK8.out 0; have zf8_1 := blk_frozen BK8.out 1))
   (try simp only [Act.put, List.setIfInBounds_toArray, List.set_cons_zero, List.set_cons_succ])
   refine fill2 BK8.out (fun wc8 fb_ fk_ fB_ => ?_)
   have n0_ := Aside0.mk (Kd.R_mono (Kd.R_keep HO_1.out fk_ (fun _ hk => hk.2)) (fun _ _ => trivial))
   have n1_ := Aside0.mk (fb_)
   have n2_ := Aside0.mk (fB_ w HB.out GE8.out)
   clear HO_1 BK8 HB
   have HO_1 := n0_
   have BK8 := n1_
   have HB := n2_
   clear n0_ n1_ n2_
   clear fb_ fk_ fB_
   clear z8_0 zf8_0 z8_1 zf8_1
   -- region 10
   have n0_ := Aside0.mk (Kd.R_drew HO_1.out)
   have n1_ := Aside0.mk (blk_drew BK8.out)
   have n2_ := Aside0.mk (below_drew1 HB.out)
   clear HO_1 BK8 HB
   have HO_1 := n0_
   have BK8 := n1_
   have HB := n2_
   clear n0_ n1_ n2_
   have qy8 : (8 : Int) ≤ ((x1.length : Int) : Int) := by have := LN.out; omega
   obtain ⟨i0_, hi0_, _, hsz_, _⟩ := info_parts info35
   have hcuty8 := cut_to (P := Try.prog) 22 35 .i64 Try.underlying22 hi0_ A1 x1.length c1 8 (by omega) qy8 HC1.out
   rw [show (8 : Int).toNat = y8.length from by have := LN.out; omega] at hcuty8
   clear hi0_ hsz_
   replace qy8 := eq_true qy8
   have HR := Aside0.mk (C_cut (Kd.R_reads' HO_1.out).2.2 HY8.out (by have := LN.out; omega))
   have HCy := Aside0.mk ((by have := LN.out; have := HC1.out; omega) : y8.length ≤ c1)
   refine start_ (n := 11) (S := fun w' => True) (ds := []) #[false, false, false, false, false, false, false, false, false, false, false] (by kernel_rfl) rfl rfl trivial (fun hHeld => ?_); refine with_tabW names_tab10 names_bits10 (fun HT_ HW_ => ?_)
   generalize wc8.drew = wd10 at HO_1 BK8 HB HR hHeld ⊢
   refine pure_ (i := 0) (N := some 70) (v := ?_) (a' := ?_) #[true, false, false, false, false, false, false, false, false, false, false] rfl rfl (any_of HT_.out (by kernel_rfl)) (fun _ _ _ h => h) (Or.inl ⟨by rfl, ?_⟩) ?_ ?_
   rotate_left
   · intro w'
     go_simp
     with_reducible rfl
   rotate_left
   · simp only [Act.put, List.setIfInBounds_toArray, List.set_cons_zero, List.set_cons_succ, i64_w, i32_w]
     rfl
   refine pure_ (i := 1) (N := some 71) (v := ?_) (a' := ?_) #[true, true, false, false, false, false, false, false, false, false, false] rfl rfl (any_of HT_.out (by kernel_rfl)) (fun _ _ _ h => h) (Or.inl ⟨by rfl, ?_⟩) ?_ ?_
   rotate_left
   · intro w'
     go_simp
     with_reducible rfl
   rotate_left
   · simp only [Act.put, List.setIfInBounds_toArray, List.set_cons_zero, List.set_cons_succ, i64_w, i32_w]
     rfl
   refine pure_ (i := 2) (N := some 72) (v := ?_) (a' := ?_) #[true, true, true, false, false, false, false, false, false, false, false] rfl rfl (any_of HT_.out (by kernel_rfl)) (fun _ _ _ h => h) (Or.inl ⟨by rfl, ?_⟩) ?_ ?_
   rotate_left
   · intro w'
     go_simp
     with_reducible rfl
   rotate_left
   · simp only [Act.put, List.setIfInBounds_toArray, List.set_cons_zero, List.set_cons_succ, i64_w, i32_w]
     rfl
   refine join_ (σ := Value × Nat) 2 #[true, true, true, true, true, true, true, true, true, false, false] (fun s_ => [(73, .agg #[.int .u8 2, .int .i64 0, .int .i64 0, .int .i64 0, .int .i64 1, .int .i64 0, .int .i64 0, .int .i64 0, .int .i64 0, .int .i64 0]), (74, .tuple #[.agg #[.int .i64 0, s_.1], .int .i64 18]), (10, .pointer (some ⟨s_.2, 0, none⟩)), (69, .tuple #[.agg #[.int .i64 0, s_.1], .int .i64 18]), (75, .agg #[.int .i64 0, s_.1]), (76, .int .i64 18)]) (fun s_ w' => (∃ (A : Option Addr) (c : Nat), s_.1 = .slice A y0.length c) ∧ (Kd.R k35 35 w' w.heap.size (fun k_ => k_ ≠ s_.2) (.slice A1 x1.length c1) x1) ∧ (w'.heap[gb8]? = some (.cells #[.int .i64 8, .slice A8 y0.length c8] 24 (0, 0))) ∧ (w'.heap[s_.2]? = some (.cells #[.int .i64 0, .slice none 0 0] 24 (0, 0))) ∧ (w.heap.size ≤ s_.2) ∧ (gb8 ≠ s_.2) ∧ (Below w.heap.size w w')) ?_ ?_
   rotate_left
   · intro hCont
     refine two_ (i := 3) (j := 8) (Ni := some 73) (Nj := some 10) #[true, true, true, true, false, false, false, false, false, false, false] #[true, true, true, false, false, false, false, false, true, false, false] rfl rfl rfl rfl (two_of HT_.out (by kernel_rfl)) (by decide) (by decide) (fun K hK => ?_) (fun K hK => ?_)
     · skip
       refine goes_ Try.func25 (by kernel_rfl) rfl #[.int .i64 1] (by rfl) rfl rfl (by (try simp only [List.map_toArray, List.map_cons, List.map_nil]); first | done | rfl | (simp only [List.length_drop, List.length_take]; rfl)) ?_
       with_reducible refine (tailwaterlaw26_mark.calls 1 2 0 0 0 1 0 0 0 0 0 _ rfl).mono ?_
       rintro e wm1 ⟨rfl, hb⟩
       refine ⟨_, rfl, ?_⟩
       have n0_ := Aside0.mk (Kd.R_below HO_1.out hb)
       have n1_ := Aside0.mk (Kd.C_below HR.out hb)
       have n2_ := Aside0.mk (blk_below BK8.out hb)
       have n3_ := Aside0.mk (below_step HB.out hb)
       clear HO_1 HR BK8 HB
       have HO_1 := n0_
       have HR := n1_
       have BK8 := n2_
       have HB := n3_
       clear n0_ n1_ n2_ n3_
       clear hb
       refine hK.out _ _ trivial (fun hHeld => ?_)
       clear hK K
       refine norm_ (a' := ?_) ?_ ?_
       rotate_left
       · show Act.put _ (some 73) _ = _
         simp only [Act.put, List.setIfInBounds_toArray, List.set_cons_zero, List.set_cons_succ, i64_w, i32_w]
         rfl
       refine two_ (i := 4) (j := 8) (Ni := some 74) (Nj := some 10) #[true, true, true, true, true, false, false, false, false, false, false] #[true, true, true, true, false, false, false, false, true, false, false] rfl rfl rfl rfl (two_of HT_.out (by kernel_rfl)) (by decide) (by decide) (fun K hK => ?_) (fun K hK => ?_)
       · skip
         refine goes_ Try.func16 (by kernel_rfl) rfl #[.agg #[.int .i64 8, .slice A1 y8.length c1], .agg #[.int .u8 2, .int .i64 0, .int .i64 0, .int .i64 0, .int .i64 1, .int .i64 0, .int .i64 0, .int .i64 0, .int .i64 0, .int .i64 0]] (by rfl) rfl rfl (by (try simp only [List.map_toArray, List.map_cons, List.map_nil]); first | done | rfl | (simp only [List.length_drop, List.length_take]; rfl)) ?_
         with_reducible refine (channel_Put.calls kk 8 _ _ y8 2 0 0 0 1 0 0 0 0 0 0 y0 18 _ HR.out HCy.out A_put1.out).mono ?_
         rintro e wm2 ⟨v472, rfl, ho0, hb⟩
         refine ⟨_, rfl, ?_⟩
         obtain ⟨Av, cv, ev⟩ := Kd.R_slice ho0
         have EV := Aside0.mk ev
         clear ev
         have n0_ := Aside0.mk (Kd.R_below HO_1.out hb)
         have n1_ := Aside0.mk (Kd.C_below HR.out hb)
         have n2_ := Aside0.mk (blk_below BK8.out hb)
         have n3_ := Aside0.mk (below_step HB.out hb)
         clear HO_1 HR BK8 HB
         have HO_1 := n0_
         have HR := n1_
         have BK8 := n2_
         have HB := n3_
         clear n0_ n1_ n2_ n3_
         clear hb ho0
         refine hK.out _ _ trivial (fun hHeld => ?_)
         clear hK K
         refine norm_ (a' := ?_) ?_ ?_
         rotate_left
         · show Act.put _ (some 74) _ = _
           simp only [Act.put, List.setIfInBounds_toArray, List.set_cons_zero, List.set_cons_succ, i64_w, i32_w]
           rfl
         refine pure_ (i := 5) (N := some 69) (v := ?_) (a' := ?_) #[true, true, true, true, true, true, false, false, false, false, false] rfl rfl (any_of HT_.out (by kernel_rfl)) (fun _ _ _ h => h) (Or.inl ⟨by rfl, ?_⟩) ?_ ?_
         rotate_left
         · intro w'
           go_simp
           with_reducible rfl
         rotate_left
         · simp only [Act.put, List.setIfInBounds_toArray, List.set_cons_zero, List.set_cons_succ, i64_w, i32_w]
           rfl
         refine pure_ (i := 6) (N := some 75) (v := ?_) (a' := ?_) #[true, true, true, true, true, true, true, false, false, false, false] rfl rfl (any_of HT_.out (by kernel_rfl)) (fun _ _ _ h => h) (Or.inl ⟨by rfl, ?_⟩) ?_ ?_
         rotate_left
         · intro w'
           go_simp
           with_reducible rfl
         rotate_left
         · simp only [Act.put, List.setIfInBounds_toArray, List.set_cons_zero, List.set_cons_succ, i64_w, i32_w]
           rfl
         refine pure_ (i := 7) (N := some 76) (v := ?_) (a' := ?_) #[true, true, true, true, true, true, true, true, false, false, false] rfl rfl (any_of HT_.out (by kernel_rfl)) (fun _ _ _ h => h) (Or.inl ⟨by rfl, ?_⟩) ?_ ?_
         rotate_left
         · intro w'
           go_simp
           with_reducible rfl
         rotate_left
         · simp only [Act.put, List.setIfInBounds_toArray, List.set_cons_zero, List.set_cons_succ, i64_w, i32_w]
           rfl
         refine one_ (i := 8) (N := some 10) #[true, true, true, true, true, true, true, true, true, false, false] rfl rfl (one_of HT_.out (by kernel_rfl)) (by decide) (fun K hK => ?_)
         refine box_step ?hg (N := 10) ?hd (cs := #[.int .i64 0, .slice none 0 0]) (t := 24) ?hr ?_; (case hd => rfl); (case hg => rfl); (case hr => first | (go_simp; done) | (go_simp; rfl))
         intro gb10 hg wm3 hbox hb
         have n0_ := Aside0.mk (Kd.R_below (Kd.R_elderB HO_1.out gb10 (Nat.le_of_eq hg.symm)) hb)
         have n1_ := Aside0.mk (Kd.C_below HR.out hb)
         have n2_ := Aside0.mk ((by rw [hg]; exact Nat.ne_of_lt (blk_lt BK8.out) : gb8 ≠ gb10))
         have n3_ := Aside0.mk (blk_below BK8.out hb)
         have n4_ := Aside0.mk ((by rw [hg]; exact below_size HB.out : w.heap.size ≤ gb10))
         have n5_ := Aside0.mk (below_step HB.out hb)
         have n6_ := Aside0.mk (hbox)
         clear HO_1 HR BK8 HB
         have HO_1 := n0_
         have HR := n1_
         have NB8_10 := n2_
         have BK8 := n3_
         have GE10 := n4_
         have HB := n5_
         have BK10 := n6_
         clear n0_ n1_ n2_ n3_ n4_ n5_ n6_
         clear hb hbox hg
         refine hK.out _ _ trivial (fun hHeld => ?_)
         clear hK K
         refine norm_ (a' := ?_) ?_ ?_
         rotate_left
         · show Act.put _ (some 10) _ = _
           simp only [Act.put, List.setIfInBounds_toArray, List.set_cons_zero, List.set_cons_succ, i64_w, i32_w]
           rfl
         exact norm_ (by simp only [putAll, Act.put, List.setIfInBounds_toArray, List.set_cons_zero, List.set_cons_succ]) (hCont (v472, gb10) _ ⟨⟨Av, cv, EV.out⟩, Kd.R_mono HO_1.out (fun _ hk => hk.2), BK8.out, BK10.out, GE10.out, NB8_10.out, HB.out⟩)
       · skip
         refine box_step ?hg (N := 10) ?hd (cs := #[.int .i64 0, .slice none 0 0]) (t := 24) ?hr ?_; (case hd => rfl); (case hg => rfl); (case hr => first | (go_simp; done) | (go_simp; rfl))
         intro gb10 hg wm4 hbox hb
         have n0_ := Aside0.mk (Kd.R_below (Kd.R_elderB HO_1.out gb10 (Nat.le_of_eq hg.symm)) hb)
         have n1_ := Aside0.mk (Kd.C_below HR.out hb)
         have n2_ := Aside0.mk ((by rw [hg]; exact Nat.ne_of_lt (blk_lt BK8.out) : gb8 ≠ gb10))
         have n3_ := Aside0.mk (blk_below BK8.out hb)
         have n4_ := Aside0.mk ((by rw [hg]; exact below_size HB.out : w.heap.size ≤ gb10))
         have n5_ := Aside0.mk (below_step HB.out hb)
         have n6_ := Aside0.mk (hbox)
         clear HO_1 HR BK8 HB
         have HO_1 := n0_
         have HR := n1_
         have NB8_10 := n2_
         have BK8 := n3_
         have GE10 := n4_
         have HB := n5_
         have BK10 := n6_
         clear n0_ n1_ n2_ n3_ n4_ n5_ n6_
         clear hb hbox hg
         refine hK.out _ _ trivial (fun hHeld => ?_)
         clear hK K
         refine norm_ (a' := ?_) ?_ ?_
         rotate_left
         · show Act.put _ (some 10) _ = _
           simp only [Act.put, List.setIfInBounds_toArray, List.set_cons_zero, List.set_cons_succ, i64_w, i32_w]
           rfl
         refine one_ (i := 4) (N := some 74) #[true, true, true, true, true, false, false, false, true, false, false] rfl rfl (one_of HT_.out (by kernel_rfl)) (by decide) (fun K hK => ?_)
         refine goes_ Try.func16 (by kernel_rfl) rfl #[.agg #[.int .i64 8, .slice A1 y8.length c1], .agg #[.int .u8 2, .int .i64 0, .int .i64 0, .int .i64 0, .int .i64 1, .int .i64 0, .int .i64 0, .int .i64 0, .int .i64 0, .int .i64 0]] (by rfl) rfl rfl (by (try simp only [List.map_toArray, List.map_cons, List.map_nil]); first | done | rfl | (simp only [List.length_drop, List.length_take]; rfl)) ?_
         with_reducible refine (channel_Put.calls kk 8 _ _ y8 2 0 0 0 1 0 0 0 0 0 0 y0 18 _ HR.out HCy.out A_put1.out).mono ?_
         rintro e wm5 ⟨v472, rfl, ho0, hb⟩
         refine ⟨_, rfl, ?_⟩
         obtain ⟨Av, cv, ev⟩ := Kd.R_slice ho0
         have EV := Aside0.mk ev
         clear ev
         have n0_ := Aside0.mk (Kd.R_below HO_1.out hb)
         have n1_ := Aside0.mk (Kd.C_below HR.out hb)
         have n2_ := Aside0.mk (blk_below BK8.out hb)
         have n3_ := Aside0.mk (blk_below BK10.out hb)
         have n4_ := Aside0.mk (below_step HB.out hb)
         clear HO_1 HR BK8 BK10 HB
         have HO_1 := n0_
         have HR := n1_
         have BK8 := n2_
         have BK10 := n3_
         have HB := n4_
         clear n0_ n1_ n2_ n3_ n4_
         clear hb ho0
         refine hK.out _ _ trivial (fun hHeld => ?_)
         clear hK K
         refine norm_ (a' := ?_) ?_ ?_
         rotate_left
         · show Act.put _ (some 74) _ = _
           simp only [Act.put, List.setIfInBounds_toArray, List.set_cons_zero, List.set_cons_succ, i64_w, i32_w]
           rfl
         refine pure_ (i := 5) (N := some 69) (v := ?_) (a' := ?_) #[true, true, true, true, true, true, false, false, true, false, false] rfl rfl (any_of HT_.out (by kernel_rfl)) (fun _ _ _ h => h) (Or.inl ⟨by rfl, ?_⟩) ?_ ?_
         rotate_left
         · intro w'
           go_simp
           with_reducible rfl
         rotate_left
         · simp only [Act.put, List.setIfInBounds_toArray, List.set_cons_zero, List.set_cons_succ, i64_w, i32_w]
           rfl
         refine pure_ (i := 6) (N := some 75) (v := ?_) (a' := ?_) #[true, true, true, true, true, true, true, false, true, false, false] rfl rfl (any_of HT_.out (by kernel_rfl)) (fun _ _ _ h => h) (Or.inl ⟨by rfl, ?_⟩) ?_ ?_
         rotate_left
         · intro w'
           go_simp
           with_reducible rfl
         rotate_left
         · simp only [Act.put, List.setIfInBounds_toArray, List.set_cons_zero, List.set_cons_succ, i64_w, i32_w]
           rfl
         refine pure_ (i := 7) (N := some 76) (v := ?_) (a' := ?_) #[true, true, true, true, true, true, true, true, true, false, false] rfl rfl (any_of HT_.out (by kernel_rfl)) (fun _ _ _ h => h) (Or.inl ⟨by rfl, ?_⟩) ?_ ?_
         rotate_left
         · intro w'
           go_simp
           with_reducible rfl
         rotate_left
         · simp only [Act.put, List.setIfInBounds_toArray, List.set_cons_zero, List.set_cons_succ, i64_w, i32_w]
           rfl
         exact norm_ (by simp only [putAll, Act.put, List.setIfInBounds_toArray, List.set_cons_zero, List.set_cons_succ]) (hCont (v472, gb10) _ ⟨⟨Av, cv, EV.out⟩, Kd.R_mono HO_1.out (fun _ hk => hk.2), BK8.out, BK10.out, GE10.out, NB8_10.out, HB.out⟩)
     · skip
       refine box_step ?hg (N := 10) ?hd (cs := #[.int .i64 0, .slice none 0 0]) (t := 24) ?hr ?_; (case hd => rfl); (case hg => rfl); (case hr => first | (go_simp; done) | (go_simp; rfl))
       intro gb10 hg wm6 hbox hb
       have n0_ := Aside0.mk (Kd.R_below (Kd.R_elderB HO_1.out gb10 (Nat.le_of_eq hg.symm)) hb)
       have n1_ := Aside0.mk (Kd.C_below HR.out hb)
       have n2_ := Aside0.mk ((by rw [hg]; exact Nat.ne_of_lt (blk_lt BK8.out) : gb8 ≠ gb10))
       have n3_ := Aside0.mk (blk_below BK8.out hb)
       have n4_ := Aside0.mk ((by rw [hg]; exact below_size HB.out : w.heap.size ≤ gb10))
       have n5_ := Aside0.mk (below_step HB.out hb)
       have n6_ := Aside0.mk (hbox)
       clear HO_1 HR BK8 HB
       have HO_1 := n0_
       have HR := n1_
       have NB8_10 := n2_
       have BK8 := n3_
       have GE10 := n4_
       have HB := n5_
       have BK10 := n6_
       clear n0_ n1_ n2_ n3_ n4_ n5_ n6_
       clear hb hbox hg
       refine hK.out _ _ trivial (fun hHeld => ?_)
       clear hK K
       refine norm_ (a' := ?_) ?_ ?_
       rotate_left
       · show Act.put _ (some 10) _ = _
         simp only [Act.put, List.setIfInBounds_toArray, List.set_cons_zero, List.set_cons_succ, i64_w, i32_w]
         rfl
       refine one_ (i := 3) (N := some 73) #[true, true, true, true, false, false, false, false, true, false, false] rfl rfl (one_of HT_.out (by kernel_rfl)) (by decide) (fun K hK => ?_)
       refine goes_ Try.func25 (by kernel_rfl) rfl #[.int .i64 1] (by rfl) rfl rfl (by (try simp only [List.map_toArray, List.map_cons, List.map_nil]); first | done | rfl | (simp only [List.length_drop, List.length_take]; rfl)) ?_
       with_reducible refine (tailwaterlaw26_mark.calls 1 2 0 0 0 1 0 0 0 0 0 _ rfl).mono ?_
       rintro e wm7 ⟨rfl, hb⟩
       refine ⟨_, rfl, ?_⟩
       have n0_ := Aside0.mk (Kd.R_below HO_1.out hb)
       have n1_ := Aside0.mk (Kd.C_below HR.out hb)
       have n2_ := Aside0.mk (blk_below BK8.out hb)
       have n3_ := Aside0.mk (blk_below BK10.out hb)
       have n4_ := Aside0.mk (below_step HB.out hb)
       clear HO_1 HR BK8 BK10 HB
       have HO_1 := n0_
       have HR := n1_
       have BK8 := n2_
       have BK10 := n3_
       have HB := n4_
       clear n0_ n1_ n2_ n3_ n4_
       clear hb
       refine hK.out _ _ trivial (fun hHeld => ?_)
       clear hK K
       refine norm_ (a' := ?_) ?_ ?_
       rotate_left
       · show Act.put _ (some 73) _ = _
         simp only [Act.put, List.setIfInBounds_toArray, List.set_cons_zero, List.set_cons_succ, i64_w, i32_w]
         rfl
       refine one_ (i := 4) (N := some 74) #[true, true, true, true, true, false, false, false, true, false, false] rfl rfl (one_of HT_.out (by kernel_rfl)) (by decide) (fun K hK => ?_)
       refine goes_ Try.func16 (by kernel_rfl) rfl #[.agg #[.int .i64 8, .slice A1 y8.length c1], .agg #[.int .u8 2, .int .i64 0, .int .i64 0, .int .i64 0, .int .i64 1, .int .i64 0, .int .i64 0, .int .i64 0, .int .i64 0, .int .i64 0]] (by rfl) rfl rfl (by (try simp only [List.map_toArray, List.map_cons, List.map_nil]); first | done | rfl | (simp only [List.length_drop, List.length_take]; rfl)) ?_
       with_reducible refine (channel_Put.calls kk 8 _ _ y8 2 0 0 0 1 0 0 0 0 0 0 y0 18 _ HR.out HCy.out A_put1.out).mono ?_
       rintro e wm8 ⟨v472, rfl, ho0, hb⟩
       refine ⟨_, rfl, ?_⟩
       obtain ⟨Av, cv, ev⟩ := Kd.R_slice ho0
       have EV := Aside0.mk ev
       clear ev
       have n0_ := Aside0.mk (Kd.R_below HO_1.out hb)
       have n1_ := Aside0.mk (Kd.C_below HR.out hb)
       have n2_ := Aside0.mk (blk_below BK8.out hb)
       have n3_ := Aside0.mk (blk_below BK10.out hb)
       have n4_ := Aside0.mk (below_step HB.out hb)
       clear HO_1 HR BK8 BK10 HB
       have HO_1 := n0_
       have HR := n1_
       have BK8 := n2_
       have BK10 := n3_
       have HB := n4_
       clear n0_ n1_ n2_ n3_ n4_
       clear hb ho0
       refine hK.out _ _ trivial (fun hHeld => ?_)
       clear hK K
       refine norm_ (a' := ?_) ?_ ?_
       rotate_left
       · show Act.put _ (some 74) _ = _
         simp only [Act.put, List.setIfInBounds_toArray, List.set_cons_zero, List.set_cons_succ, i64_w, i32_w]
         rfl
       refine pure_ (i := 5) (N := some 69) (v := ?_) (a' := ?_) #[true, true, true, true, true, true, false, false, true, false, false] rfl rfl (any_of HT_.out (by kernel_rfl)) (fun _ _ _ h => h) (Or.inl ⟨by rfl, ?_⟩) ?_ ?_
       rotate_left
       · intro w'
         go_simp
         with_reducible rfl
       rotate_left
       · simp only [Act.put, List.setIfInBounds_toArray, List.set_cons_zero, List.set_cons_succ, i64_w, i32_w]
         rfl
       refine pure_ (i := 6) (N := some 75) (v := ?_) (a' := ?_) #[true, true, true, true, true, true, true, false, true, false, false] rfl rfl (any_of HT_.out (by kernel_rfl)) (fun _ _ _ h => h) (Or.inl ⟨by rfl, ?_⟩) ?_ ?_
       rotate_left
       · intro w'
         go_simp
         with_reducible rfl
       rotate_left
       · simp only [Act.put, List.setIfInBounds_toArray, List.set_cons_zero, List.set_cons_succ, i64_w, i32_w]
         rfl
       refine pure_ (i := 7) (N := some 76) (v := ?_) (a' := ?_) #[true, true, true, true, true, true, true, true, true, false, false] rfl rfl (any_of HT_.out (by kernel_rfl)) (fun _ _ _ h => h) (Or.inl ⟨by rfl, ?_⟩) ?_ ?_
       rotate_left
       · intro w'
         go_simp
         with_reducible rfl
       rotate_left
       · simp only [Act.put, List.setIfInBounds_toArray, List.set_cons_zero, List.set_cons_succ, i64_w, i32_w]
         rfl
       exact norm_ (by simp only [putAll, Act.put, List.setIfInBounds_toArray, List.set_cons_zero, List.set_cons_succ]) (hCont (v472, gb10) _ ⟨⟨Av, cv, EV.out⟩, Kd.R_mono HO_1.out (fun _ hk => hk.2), BK8.out, BK10.out, GE10.out, NB8_10.out, HB.out⟩)
   rintro ⟨v472, gb10⟩ wj10 ⟨⟨A10, c10, ev⟩, h1_, hb8_, h2_, h3_, hn8_, h4_⟩
   dsimp only at ev h1_ h2_ h3_ hn8_
   subst ev
   clear HO_1 BK8 HB HR HCy
   have HO_1 := Aside0.mk h1_
   have BK10 := Aside0.mk h2_
   have GE10 := Aside0.mk h3_
   have HB := Aside0.mk h4_
   have BK8 := Aside0.mk hb8_
   have NB8_10 := Aside0.mk hn8_
   clear h1_ h2_ h3_ h4_ hb8_ hn8_
   have hHeld := trivial
   refine norm_ (a' := ?_) ?_ ?_
   rotate_left
   · simp only [putAll, Act.put, List.setIfInBounds_toArray, List.set_cons_zero, List.set_cons_succ]
     rfl
   refine one_ (i := 9) (N := none) #[true, true, true, true, true, true, true, true, true, true, false] rfl rfl (one_of HT_.out (by kernel_rfl)) (by decide) (fun K hK => ?_)
   have z10_0 : wj10.cell? ⟨gb10, 0, none⟩ = some (.int .i64 0) := (blk_cell BK10.out 0).trans rfl
   have z10_1 : wj10.cell? ⟨gb10, 1, none⟩ = some (.slice none 0 0) := (blk_cell BK10.out 1).trans rfl
   have zf10_0 := blk_frozen BK10.out 0
   have zf10_1 := blk_frozen BK10.out 1
   refine skip_ (w1 := ?_) (by rfl) rfl ?_ ?_
   rotate_left
   · go_simp
     rfl
   refine hK.out _ _ trivial (fun hHeld => ?_)
   clear hK K
   refine pure_ (i := 10) (N := some 11) (v := ?_) (a' := ?_) #[true, true, true, true, true, true, true, true, true, true, true] rfl rfl (any_of HT_.out (by kernel_rfl)) (fun _ _ _ h => h) (Or.inl ⟨by rfl, ?_⟩) ?_ ?_
   rotate_left
   · intro w'
     go_simp
     with_reducible rfl
   rotate_left
   · simp only [Act.put, List.setIfInBounds_toArray, List.set_cons_zero, List.set_cons_succ, i64_w, i32_w]
     rfl
   refine done_ (done_of HT_.out (by kernel_rfl)) ?_
   go_upto_region 11 with (fail)
   (try simp only [Act.put, List.setIfInBounds_toArray, List.set_cons_zero, List.set_cons_succ])
   refine fill2 BK10.out (fun wc10 fb_ fk_ fB_ => ?_)
   try clear hHeld
   clear HT_ HW_
   have n0_ := Aside0.mk (Kd.R_mono (Kd.R_keep HO_1.out fk_ (fun _ hk => hk)) (fun _ _ => trivial))
   have n1_ := Aside0.mk (fk_.blk BK8.out NB8_10.out (by simp))
   have n2_ := Aside0.mk (fb_)
   have n3_ := Aside0.mk (fB_ w HB.out GE10.out)
   clear HO_1 BK8 BK10 HB
   have HO_1 := n0_
   have BK8 := n1_
   have BK10 := n2_
   have HB := n3_
   clear n0_ n1_ n2_ n3_
   clear fb_ fk_ fB_
   clear z10_0 zf10_0 z10_1 zf10_1
   clear BK10
   have qy8 : (8 : Int) ≤ ((x1.length : Int) : Int) := by have := LN.out; omega
   obtain ⟨i0_, hi0_, _, hsz_, _⟩ := info_parts info35
   have hcuty8 := cut_to (P := Try.prog) 22 35 .i64 Try.underlying22 hi0_ A1 x1.length c1 8 (by omega) qy8 HC1.out
   rw [show (8 : Int).toNat = y8.length from by have := LN.out; omega] at hcuty8
   clear hi0_ hsz_
   replace qy8 := eq_true qy8
   go_upto_region 12 with (first | ((with_reducible refine gate_callee (f := 16) rfl ?_); refine goesL_ (some 82) rfl rfl Try.func16 (by kernel_rfl) rfl #[.agg #[.int .i64 8, .slice A1 y8.length c1], .agg #[.int .u8 0, .int .i64 0, .int .i64 0, .int .i64 0, .int .i64 0, .int .i64 0, .int .i64 0, .int .i64 0, .int .i64 0, .int .i64 0]] rfl (by (try simp only [List.map_toArray, List.map_cons, List.map_nil]); first | done | rfl | (simp only [List.length_drop, List.length_take]; rfl)) ?_; (with_reducible refine (channel_Put.calls kk 8 _ _ y8 0 0 0 0 0 0 0 0 0 0 0 y0 8 _ (C_cut (Kd.R_reads' HO_1.out).2.2 HY8.out (by have := LN.out; omega)) (by have := LN.out; have := HC1.out; omega) A_put0.out).mono ?_); rintro e wa12 ⟨v12, rfl, ho0, hb⟩; obtain ⟨A12, c12, ev12⟩ := Kd.R_slice ho0; subst ev12; refine ⟨_, rfl, ?_⟩; have n0_ := Aside0.mk (Kd.R_below HO_1.out hb); have n1_ := Aside0.mk (blk_below BK8.out hb); have n2_ := Aside0.mk (below_step HB.out hb); clear HO_1 BK8 HB; have HO_1 := n0_; have BK8 := n1_; have HB := n2_; clear n0_ n1_ n2_; (try clear hb); (try clear hb2); (try clear hk); (try clear hi); (try clear ho0)) | ((with_reducible refine gate_dst (N := 12) rfl ?_); (try (refine gate_guard (by rfl) ?_; dsimp only)); refine box_event ?hg (N := 12) ?hd (cs := #[.int .i64 0, .slice none 0 0]) (t := 24) ?hr ?_; (case hd => rfl); (case hg => rfl); (case hr => first | (go_simp; done) | (go_simp; rfl)); intro gb12 hg wb12 hbox hb; have n0_ := Aside0.mk (Kd.R_below (Kd.R_elderB HO_1.out gb12 (Nat.le_of_eq hg.symm)) hb); have n1_ := Aside0.mk ((by rw [hg]; exact Nat.ne_of_lt (blk_lt BK8.out) : gb8 ≠ gb12)); have n2_ := Aside0.mk (blk_below BK8.out hb); have n3_ := Aside0.mk ((by rw [hg]; exact below_size HB.out : w.heap.size ≤ gb12)); have n4_ := Aside0.mk (below_step HB.out hb); have n5_ := Aside0.mk (hbox); clear HO_1 BK8 HB; have HO_1 := n0_; have NB8_12 := n1_; have BK8 := n2_; have GE12 := n3_; have HB := n4_; have BK12 := n5_; clear n0_ n1_ n2_ n3_ n4_ n5_; clear hb hbox hg; have z12_0 : wb12.cell? ⟨gb12, 0, none⟩ = some (.int .i64 0) := (blk_cell BK12.out 0).trans rfl; have z12_1 : wb12.cell? ⟨gb12, 1, none⟩ = some (.slice none 0 0) := (blk_cell BK12.out 1).trans rfl; have zf12_0 := blk_frozen BK12.out 0; have zf12_1 := blk_frozen BK12.out 1))
   (try simp only [Act.put, List.setIfInBounds_toArray, List.set_cons_zero, List.set_cons_succ])
   refine fill2 BK12.out (fun wc12 fb_ fk_ fB_ => ?_)
   have n0_ := Aside0.mk (Kd.R_mono (Kd.R_keep HO_1.out fk_ (fun _ hk => hk.2)) (fun _ _ => trivial))
   have n1_ := Aside0.mk (fk_.blk BK8.out NB8_12.out (by simp))
   have n2_ := Aside0.mk (fb_)
   have n3_ := Aside0.mk (fB_ w HB.out GE12.out)
   clear HO_1 BK8 BK12 HB
   have HO_1 := n0_
   have BK8 := n1_
   have BK12 := n2_
   have HB := n3_
   clear n0_ n1_ n2_ n3_
   clear fb_ fk_ fB_
   clear z12_0 zf12_0 z12_1 zf12_1
   clear BK12
   -- region 12
   have n0_ := Aside0.mk (Kd.R_drew HO_1.out)
   have n1_ := Aside0.mk (blk_drew BK8.out)
   have n2_ := Aside0.mk (below_drew1 HB.out)
   clear HO_1 BK8 HB
   have HO_1 := n0_
   have BK8 := n1_
   have HB := n2_
   clear n0_ n1_ n2_
   have qy7 : (7 : Int) ≤ ((x1.length : Int) : Int) := by have := LN.out; omega
   obtain ⟨i0_, hi0_, _, hsz_, _⟩ := info_parts info35
   have hcuty7 := cut_to (P := Try.prog) 22 35 .i64 Try.underlying22 hi0_ A1 x1.length c1 7 (by omega) qy7 HC1.out
   rw [show (7 : Int).toNat = y7.length from by have := LN.out; omega] at hcuty7
   clear hi0_ hsz_
   replace qy7 := eq_true qy7
   have HR := Aside0.mk (C_cut (Kd.R_reads' HO_1.out).2.2 HY7.out (by have := LN.out; omega))
   have HCy := Aside0.mk ((by have := LN.out; have := HC1.out; omega) : y7.length ≤ c1)
   refine start_ (n := 11) (S := fun w' => True) (ds := []) #[false, false, false, false, false, false, false, false, false, false, false] (by kernel_rfl) rfl rfl trivial (fun hHeld => ?_); refine with_tabW names_tab12 names_bits12 (fun HT_ HW_ => ?_)
   generalize wc12.drew = wd12 at HO_1 BK8 HB HR hHeld ⊢
   refine pure_ (i := 0) (N := some 86) (v := ?_) (a' := ?_) #[true, false, false, false, false, false, false, false, false, false, false] rfl rfl (any_of HT_.out (by kernel_rfl)) (fun _ _ _ h => h) (Or.inl ⟨by rfl, ?_⟩) ?_ ?_
   rotate_left
   · intro w'
     go_simp
     with_reducible rfl
   rotate_left
   · simp only [Act.put, List.setIfInBounds_toArray, List.set_cons_zero, List.set_cons_succ, i64_w, i32_w]
     rfl
   refine pure_ (i := 1) (N := some 87) (v := ?_) (a' := ?_) #[true, true, false, false, false, false, false, false, false, false, false] rfl rfl (any_of HT_.out (by kernel_rfl)) (fun _ _ _ h => h) (Or.inl ⟨by rfl, ?_⟩) ?_ ?_
   rotate_left
   · intro w'
     go_simp
     with_reducible rfl
   rotate_left
   · simp only [Act.put, List.setIfInBounds_toArray, List.set_cons_zero, List.set_cons_succ, i64_w, i32_w]
     rfl
   refine pure_ (i := 2) (N := some 88) (v := ?_) (a' := ?_) #[true, true, true, false, false, false, false, false, false, false, false] rfl rfl (any_of HT_.out (by kernel_rfl)) (fun _ _ _ h => h) (Or.inl ⟨by rfl, ?_⟩) ?_ ?_
   rotate_left
   · intro w'
     go_simp
     with_reducible rfl
   rotate_left
   · simp only [Act.put, List.setIfInBounds_toArray, List.set_cons_zero, List.set_cons_succ, i64_w, i32_w]
     rfl
   refine join_ (σ := Value × Nat) 2 #[true, true, true, true, true, true, true, true, true, false, false] (fun s_ => [(89, .agg #[.int .u8 2, .int .i64 0, .int .i64 0, .int .i64 0, .int .i64 9223372036854775807, .int .i64 0, .int .i64 0, .int .i64 0, .int .i64 0, .int .i64 0]), (90, .tuple #[.agg #[.int .i64 8, s_.1], .int .i64 0]), (14, .pointer (some ⟨s_.2, 0, none⟩)), (85, .tuple #[.agg #[.int .i64 8, s_.1], .int .i64 0]), (91, .agg #[.int .i64 8, s_.1]), (92, .int .i64 0)]) (fun s_ w' => (∃ (A : Option Addr) (c : Nat), s_.1 = .slice A yf.length c) ∧ (Kd.R k35 35 w' w.heap.size (fun k_ => k_ ≠ s_.2) (.slice A1 x1.length c1) x1) ∧ (w'.heap[gb8]? = some (.cells #[.int .i64 8, .slice A8 y0.length c8] 24 (0, 0))) ∧ (w'.heap[s_.2]? = some (.cells #[.int .i64 0, .slice none 0 0] 24 (0, 0))) ∧ (w.heap.size ≤ s_.2) ∧ (gb8 ≠ s_.2) ∧ (Below w.heap.size w w')) ?_ ?_
   rotate_left
   · intro hCont
     refine two_ (i := 3) (j := 8) (Ni := some 89) (Nj := some 14) #[true, true, true, true, false, false, false, false, false, false, false] #[true, true, true, false, false, false, false, false, true, false, false] rfl rfl rfl rfl (two_of HT_.out (by kernel_rfl)) (by decide) (by decide) (fun K hK => ?_) (fun K hK => ?_)
     · skip
       refine goes_ Try.func25 (by kernel_rfl) rfl #[.int .i64 9223372036854775807] (by rfl) rfl rfl (by (try simp only [List.map_toArray, List.map_cons, List.map_nil]); first | done | rfl | (simp only [List.length_drop, List.length_take]; rfl)) ?_
       with_reducible refine (tailwaterlaw26_mark.calls 9223372036854775807 2 0 0 0 9223372036854775807 0 0 0 0 0 _ rfl).mono ?_
       rintro e wm1 ⟨rfl, hb⟩
       refine ⟨_, rfl, ?_⟩
       have n0_ := Aside0.mk (Kd.R_below HO_1.out hb)
       have n1_ := Aside0.mk (Kd.C_below HR.out hb)
       have n2_ := Aside0.mk (blk_below BK8.out hb)
       have n3_ := Aside0.mk (below_step HB.out hb)
       clear HO_1 HR BK8 HB
       have HO_1 := n0_
       have HR := n1_
       have BK8 := n2_
       have HB := n3_
       clear n0_ n1_ n2_ n3_
       clear hb
       refine hK.out _ _ trivial (fun hHeld => ?_)
       clear hK K
       refine norm_ (a' := ?_) ?_ ?_
       rotate_left
       · show Act.put _ (some 89) _ = _
         simp only [Act.put, List.setIfInBounds_toArray, List.set_cons_zero, List.set_cons_succ, i64_w, i32_w]
         rfl
       refine two_ (i := 4) (j := 8) (Ni := some 90) (Nj := some 14) #[true, true, true, true, true, false, false, false, false, false, false] #[true, true, true, true, false, false, false, false, true, false, false] rfl rfl rfl rfl (two_of HT_.out (by kernel_rfl)) (by decide) (by decide) (fun K hK => ?_) (fun K hK => ?_)
       · skip
         refine goes_ Try.func16 (by kernel_rfl) rfl #[.agg #[.int .i64 8, .slice A1 y7.length c1], .agg #[.int .u8 2, .int .i64 0, .int .i64 0, .int .i64 0, .int .i64 9223372036854775807, .int .i64 0, .int .i64 0, .int .i64 0, .int .i64 0, .int .i64 0]] (by rfl) rfl rfl (by (try simp only [List.map_toArray, List.map_cons, List.map_nil]); first | done | rfl | (simp only [List.length_drop, List.length_take]; rfl)) ?_
         with_reducible refine (channel_Put.calls kk 8 _ _ y7 2 0 0 0 9223372036854775807 0 0 0 0 0 8 yf 0 _ HR.out HCy.out A_putF.out).mono ?_
         rintro e wm2 ⟨v472, rfl, ho0, hb⟩
         refine ⟨_, rfl, ?_⟩
         obtain ⟨Av, cv, ev⟩ := Kd.R_slice ho0
         have EV := Aside0.mk ev
         clear ev
         have n0_ := Aside0.mk (Kd.R_below HO_1.out hb)
         have n1_ := Aside0.mk (Kd.C_below HR.out hb)
         have n2_ := Aside0.mk (blk_below BK8.out hb)
         have n3_ := Aside0.mk (below_step HB.out hb)
         clear HO_1 HR BK8 HB
         have HO_1 := n0_
         have HR := n1_
         have BK8 := n2_
         have HB := n3_
         clear n0_ n1_ n2_ n3_
         clear hb ho0
         refine hK.out _ _ trivial (fun hHeld => ?_)
         clear hK K
         refine norm_ (a' := ?_) ?_ ?_
         rotate_left
         · show Act.put _ (some 90) _ = _
           simp only [Act.put, List.setIfInBounds_toArray, List.set_cons_zero, List.set_cons_succ, i64_w, i32_w]
           rfl
         refine pure_ (i := 5) (N := some 85) (v := ?_) (a' := ?_) #[true, true, true, true, true, true, false, false, false, false, false] rfl rfl (any_of HT_.out (by kernel_rfl)) (fun _ _ _ h => h) (Or.inl ⟨by rfl, ?_⟩) ?_ ?_
         rotate_left
         · intro w'
           go_simp
           with_reducible rfl
         rotate_left
         · simp only [Act.put, List.setIfInBounds_toArray, List.set_cons_zero, List.set_cons_succ, i64_w, i32_w]
           rfl
         refine pure_ (i := 6) (N := some 91) (v := ?_) (a' := ?_) #[true, true, true, true, true, true, true, false, false, false, false] rfl rfl (any_of HT_.out (by kernel_rfl)) (fun _ _ _ h => h) (Or.inl ⟨by rfl, ?_⟩) ?_ ?_
         rotate_left
         · intro w'
           go_simp
           with_reducible rfl
         rotate_left
         · simp only [Act.put, List.setIfInBounds_toArray, List.set_cons_zero, List.set_cons_succ, i64_w, i32_w]
           rfl
         refine pure_ (i := 7) (N := some 92) (v := ?_) (a' := ?_) #[true, true, true, true, true, true, true, true, false, false, false] rfl rfl (any_of HT_.out (by kernel_rfl)) (fun _ _ _ h => h) (Or.inl ⟨by rfl, ?_⟩) ?_ ?_
         rotate_left
         · intro w'
           go_simp
           with_reducible rfl
         rotate_left
         · simp only [Act.put, List.setIfInBounds_toArray, List.set_cons_zero, List.set_cons_succ, i64_w, i32_w]
           rfl
         refine one_ (i := 8) (N := some 14) #[true, true, true, true, true, true, true, true, true, false, false] rfl rfl (one_of HT_.out (by kernel_rfl)) (by decide) (fun K hK => ?_)
         refine box_step ?hg (N := 14) ?hd (cs := #[.int .i64 0, .slice none 0 0]) (t := 24) ?hr ?_; (case hd => rfl); (case hg => rfl); (case hr => first | (go_simp; done) | (go_simp; rfl))
         intro gb14 hg wm3 hbox hb
         have n0_ := Aside0.mk (Kd.R_below (Kd.R_elderB HO_1.out gb14 (Nat.le_of_eq hg.symm)) hb)
         have n1_ := Aside0.mk (Kd.C_below HR.out hb)
         have n2_ := Aside0.mk ((by rw [hg]; exact Nat.ne_of_lt (blk_lt BK8.out) : gb8 ≠ gb14))
         have n3_ := Aside0.mk (blk_below BK8.out hb)
         have n4_ := Aside0.mk ((by rw [hg]; exact below_size HB.out : w.heap.size ≤ gb14))
         have n5_ := Aside0.mk (below_step HB.out hb)
         have n6_ := Aside0.mk (hbox)
         clear HO_1 HR BK8 HB
         have HO_1 := n0_
         have HR := n1_
         have NB8_14 := n2_
         have BK8 := n3_
         have GE14 := n4_
         have HB := n5_
         have BK14 := n6_
         clear n0_ n1_ n2_ n3_ n4_ n5_ n6_
         clear hb hbox hg
         refine hK.out _ _ trivial (fun hHeld => ?_)
         clear hK K
         refine norm_ (a' := ?_) ?_ ?_
         rotate_left
         · show Act.put _ (some 14) _ = _
           simp only [Act.put, List.setIfInBounds_toArray, List.set_cons_zero, List.set_cons_succ, i64_w, i32_w]
           rfl
         exact norm_ (by simp only [putAll, Act.put, List.setIfInBounds_toArray, List.set_cons_zero, List.set_cons_succ]) (hCont (v472, gb14) _ ⟨⟨Av, cv, EV.out⟩, Kd.R_mono HO_1.out (fun _ hk => hk.2), BK8.out, BK14.out, GE14.out, NB8_14.out, HB.out⟩)
       · skip
         refine box_step ?hg (N := 14) ?hd (cs := #[.int .i64 0, .slice none 0 0]) (t := 24) ?hr ?_; (case hd => rfl); (case hg => rfl); (case hr => first | (go_simp; done) | (go_simp; rfl))
         intro gb14 hg wm4 hbox hb
         have n0_ := Aside0.mk (Kd.R_below (Kd.R_elderB HO_1.out gb14 (Nat.le_of_eq hg.symm)) hb)
         have n1_ := Aside0.mk (Kd.C_below HR.out hb)
         have n2_ := Aside0.mk ((by rw [hg]; exact Nat.ne_of_lt (blk_lt BK8.out) : gb8 ≠ gb14))
         have n3_ := Aside0.mk (blk_below BK8.out hb)
         have n4_ := Aside0.mk ((by rw [hg]; exact below_size HB.out : w.heap.size ≤ gb14))
         have n5_ := Aside0.mk (below_step HB.out hb)
         have n6_ := Aside0.mk (hbox)
         clear HO_1 HR BK8 HB
         have HO_1 := n0_
         have HR := n1_
         have NB8_14 := n2_
         have BK8 := n3_
         have GE14 := n4_
         have HB := n5_
         have BK14 := n6_
         clear n0_ n1_ n2_ n3_ n4_ n5_ n6_
         clear hb hbox hg
         refine hK.out _ _ trivial (fun hHeld => ?_)
         clear hK K
         refine norm_ (a' := ?_) ?_ ?_
         rotate_left
         · show Act.put _ (some 14) _ = _
           simp only [Act.put, List.setIfInBounds_toArray, List.set_cons_zero, List.set_cons_succ, i64_w, i32_w]
           rfl
         refine one_ (i := 4) (N := some 90) #[true, true, true, true, true, false, false, false, true, false, false] rfl rfl (one_of HT_.out (by kernel_rfl)) (by decide) (fun K hK => ?_)
         refine goes_ Try.func16 (by kernel_rfl) rfl #[.agg #[.int .i64 8, .slice A1 y7.length c1], .agg #[.int .u8 2, .int .i64 0, .int .i64 0, .int .i64 0, .int .i64 9223372036854775807, .int .i64 0, .int .i64 0, .int .i64 0, .int .i64 0, .int .i64 0]] (by rfl) rfl rfl (by (try simp only [List.map_toArray, List.map_cons, List.map_nil]); first | done | rfl | (simp only [List.length_drop, List.length_take]; rfl)) ?_
         with_reducible refine (channel_Put.calls kk 8 _ _ y7 2 0 0 0 9223372036854775807 0 0 0 0 0 8 yf 0 _ HR.out HCy.out A_putF.out).mono ?_
         rintro e wm5 ⟨v472, rfl, ho0, hb⟩
         refine ⟨_, rfl, ?_⟩
         obtain ⟨Av, cv, ev⟩ := Kd.R_slice ho0
         have EV := Aside0.mk ev
         clear ev
         have n0_ := Aside0.mk (Kd.R_below HO_1.out hb)
         have n1_ := Aside0.mk (Kd.C_below HR.out hb)
         have n2_ := Aside0.mk (blk_below BK8.out hb)
         have n3_ := Aside0.mk (blk_below BK14.out hb)
         have n4_ := Aside0.mk (below_step HB.out hb)
         clear HO_1 HR BK8 BK14 HB
         have HO_1 := n0_
         have HR := n1_
         have BK8 := n2_
         have BK14 := n3_
         have HB := n4_
         clear n0_ n1_ n2_ n3_ n4_
         clear hb ho0
         refine hK.out _ _ trivial (fun hHeld => ?_)
         clear hK K
         refine norm_ (a' := ?_) ?_ ?_
         rotate_left
         · show Act.put _ (some 90) _ = _
           simp only [Act.put, List.setIfInBounds_toArray, List.set_cons_zero, List.set_cons_succ, i64_w, i32_w]
           rfl
         refine pure_ (i := 5) (N := some 85) (v := ?_) (a' := ?_) #[true, true, true, true, true, true, false, false, true, false, false] rfl rfl (any_of HT_.out (by kernel_rfl)) (fun _ _ _ h => h) (Or.inl ⟨by rfl, ?_⟩) ?_ ?_
         rotate_left
         · intro w'
           go_simp
           with_reducible rfl
         rotate_left
         · simp only [Act.put, List.setIfInBounds_toArray, List.set_cons_zero, List.set_cons_succ, i64_w, i32_w]
           rfl
         refine pure_ (i := 6) (N := some 91) (v := ?_) (a' := ?_) #[true, true, true, true, true, true, true, false, true, false, false] rfl rfl (any_of HT_.out (by kernel_rfl)) (fun _ _ _ h => h) (Or.inl ⟨by rfl, ?_⟩) ?_ ?_
         rotate_left
         · intro w'
           go_simp
           with_reducible rfl
         rotate_left
         · simp only [Act.put, List.setIfInBounds_toArray, List.set_cons_zero, List.set_cons_succ, i64_w, i32_w]
           rfl
         refine pure_ (i := 7) (N := some 92) (v := ?_) (a' := ?_) #[true, true, true, true, true, true, true, true, true, false, false] rfl rfl (any_of HT_.out (by kernel_rfl)) (fun _ _ _ h => h) (Or.inl ⟨by rfl, ?_⟩) ?_ ?_
         rotate_left
         · intro w'
           go_simp
           with_reducible rfl
         rotate_left
         · simp only [Act.put, List.setIfInBounds_toArray, List.set_cons_zero, List.set_cons_succ, i64_w, i32_w]
           rfl
         exact norm_ (by simp only [putAll, Act.put, List.setIfInBounds_toArray, List.set_cons_zero, List.set_cons_succ]) (hCont (v472, gb14) _ ⟨⟨Av, cv, EV.out⟩, Kd.R_mono HO_1.out (fun _ hk => hk.2), BK8.out, BK14.out, GE14.out, NB8_14.out, HB.out⟩)
     · skip
       refine box_step ?hg (N := 14) ?hd (cs := #[.int .i64 0, .slice none 0 0]) (t := 24) ?hr ?_; (case hd => rfl); (case hg => rfl); (case hr => first | (go_simp; done) | (go_simp; rfl))
       intro gb14 hg wm6 hbox hb
       have n0_ := Aside0.mk (Kd.R_below (Kd.R_elderB HO_1.out gb14 (Nat.le_of_eq hg.symm)) hb)
       have n1_ := Aside0.mk (Kd.C_below HR.out hb)
       have n2_ := Aside0.mk ((by rw [hg]; exact Nat.ne_of_lt (blk_lt BK8.out) : gb8 ≠ gb14))
       have n3_ := Aside0.mk (blk_below BK8.out hb)
       have n4_ := Aside0.mk ((by rw [hg]; exact below_size HB.out : w.heap.size ≤ gb14))
       have n5_ := Aside0.mk (below_step HB.out hb)
       have n6_ := Aside0.mk (hbox)
       clear HO_1 HR BK8 HB
       have HO_1 := n0_
       have HR := n1_
       have NB8_14 := n2_
       have BK8 := n3_
       have GE14 := n4_
       have HB := n5_
       have BK14 := n6_
       clear n0_ n1_ n2_ n3_ n4_ n5_ n6_
       clear hb hbox hg
       refine hK.out _ _ trivial (fun hHeld => ?_)
       clear hK K
       refine norm_ (a' := ?_) ?_ ?_
       rotate_left
       · show Act.put _ (some 14) _ = _
         simp only [Act.put, List.setIfInBounds_toArray, List.set_cons_zero, List.set_cons_succ, i64_w, i32_w]
         rfl
       refine one_ (i := 3) (N := some 89) #[true, true, true, true, false, false, false, false, true, false, false] rfl rfl (one_of HT_.out (by kernel_rfl)) (by decide) (fun K hK => ?_)
       refine goes_ Try.func25 (by kernel_rfl) rfl #[.int .i64 9223372036854775807] (by rfl) rfl rfl (by (try simp only [List.map_toArray, List.map_cons, List.map_nil]); first | done | rfl | (simp only [List.length_drop, List.length_take]; rfl)) ?_
       with_reducible refine (tailwaterlaw26_mark.calls 9223372036854775807 2 0 0 0 9223372036854775807 0 0 0 0 0 _ rfl).mono ?_
       rintro e wm7 ⟨rfl, hb⟩
       refine ⟨_, rfl, ?_⟩
       have n0_ := Aside0.mk (Kd.R_below HO_1.out hb)
       have n1_ := Aside0.mk (Kd.C_below HR.out hb)
       have n2_ := Aside0.mk (blk_below BK8.out hb)
       have n3_ := Aside0.mk (blk_below BK14.out hb)
       have n4_ := Aside0.mk (below_step HB.out hb)
       clear HO_1 HR BK8 BK14 HB
       have HO_1 := n0_
       have HR := n1_
       have BK8 := n2_
       have BK14 := n3_
       have HB := n4_
       clear n0_ n1_ n2_ n3_ n4_
       clear hb
       refine hK.out _ _ trivial (fun hHeld => ?_)
       clear hK K
       refine norm_ (a' := ?_) ?_ ?_
       rotate_left
       · show Act.put _ (some 89) _ = _
         simp only [Act.put, List.setIfInBounds_toArray, List.set_cons_zero, List.set_cons_succ, i64_w, i32_w]
         rfl
       refine one_ (i := 4) (N := some 90) #[true, true, true, true, true, false, false, false, true, false, false] rfl rfl (one_of HT_.out (by kernel_rfl)) (by decide) (fun K hK => ?_)
       refine goes_ Try.func16 (by kernel_rfl) rfl #[.agg #[.int .i64 8, .slice A1 y7.length c1], .agg #[.int .u8 2, .int .i64 0, .int .i64 0, .int .i64 0, .int .i64 9223372036854775807, .int .i64 0, .int .i64 0, .int .i64 0, .int .i64 0, .int .i64 0]] (by rfl) rfl rfl (by (try simp only [List.map_toArray, List.map_cons, List.map_nil]); first | done | rfl | (simp only [List.length_drop, List.length_take]; rfl)) ?_
       with_reducible refine (channel_Put.calls kk 8 _ _ y7 2 0 0 0 9223372036854775807 0 0 0 0 0 8 yf 0 _ HR.out HCy.out A_putF.out).mono ?_
       rintro e wm8 ⟨v472, rfl, ho0, hb⟩
       refine ⟨_, rfl, ?_⟩
       obtain ⟨Av, cv, ev⟩ := Kd.R_slice ho0
       have EV := Aside0.mk ev
       clear ev
       have n0_ := Aside0.mk (Kd.R_below HO_1.out hb)
       have n1_ := Aside0.mk (Kd.C_below HR.out hb)
       have n2_ := Aside0.mk (blk_below BK8.out hb)
       have n3_ := Aside0.mk (blk_below BK14.out hb)
       have n4_ := Aside0.mk (below_step HB.out hb)
       clear HO_1 HR BK8 BK14 HB
       have HO_1 := n0_
       have HR := n1_
       have BK8 := n2_
       have BK14 := n3_
       have HB := n4_
       clear n0_ n1_ n2_ n3_ n4_
       clear hb ho0
       refine hK.out _ _ trivial (fun hHeld => ?_)
       clear hK K
       refine norm_ (a' := ?_) ?_ ?_
       rotate_left
       · show Act.put _ (some 90) _ = _
         simp only [Act.put, List.setIfInBounds_toArray, List.set_cons_zero, List.set_cons_succ, i64_w, i32_w]
         rfl
       refine pure_ (i := 5) (N := some 85) (v := ?_) (a' := ?_) #[true, true, true, true, true, true, false, false, true, false, false] rfl rfl (any_of HT_.out (by kernel_rfl)) (fun _ _ _ h => h) (Or.inl ⟨by rfl, ?_⟩) ?_ ?_
       rotate_left
       · intro w'
         go_simp
         with_reducible rfl
       rotate_left
       · simp only [Act.put, List.setIfInBounds_toArray, List.set_cons_zero, List.set_cons_succ, i64_w, i32_w]
         rfl
       refine pure_ (i := 6) (N := some 91) (v := ?_) (a' := ?_) #[true, true, true, true, true, true, true, false, true, false, false] rfl rfl (any_of HT_.out (by kernel_rfl)) (fun _ _ _ h => h) (Or.inl ⟨by rfl, ?_⟩) ?_ ?_
       rotate_left
       · intro w'
         go_simp
         with_reducible rfl
       rotate_left
       · simp only [Act.put, List.setIfInBounds_toArray, List.set_cons_zero, List.set_cons_succ, i64_w, i32_w]
         rfl
       refine pure_ (i := 7) (N := some 92) (v := ?_) (a' := ?_) #[true, true, true, true, true, true, true, true, true, false, false] rfl rfl (any_of HT_.out (by kernel_rfl)) (fun _ _ _ h => h) (Or.inl ⟨by rfl, ?_⟩) ?_ ?_
       rotate_left
       · intro w'
         go_simp
         with_reducible rfl
       rotate_left
       · simp only [Act.put, List.setIfInBounds_toArray, List.set_cons_zero, List.set_cons_succ, i64_w, i32_w]
         rfl
       exact norm_ (by simp only [putAll, Act.put, List.setIfInBounds_toArray, List.set_cons_zero, List.set_cons_succ]) (hCont (v472, gb14) _ ⟨⟨Av, cv, EV.out⟩, Kd.R_mono HO_1.out (fun _ hk => hk.2), BK8.out, BK14.out, GE14.out, NB8_14.out, HB.out⟩)
   rintro ⟨v472, gb14⟩ wj14 ⟨⟨A14, c14, ev⟩, h1_, hb8_, h2_, h3_, hn8_, h4_⟩
   dsimp only at ev h1_ h2_ h3_ hn8_
   subst ev
   clear HO_1 BK8 HB HR HCy
   have HO_1 := Aside0.mk h1_
   have BK14 := Aside0.mk h2_
   have GE14 := Aside0.mk h3_
   have HB := Aside0.mk h4_
   have BK8 := Aside0.mk hb8_
   have NB8_14 := Aside0.mk hn8_
   clear h1_ h2_ h3_ h4_ hb8_ hn8_
   have hHeld := trivial
   refine norm_ (a' := ?_) ?_ ?_
   rotate_left
   · simp only [putAll, Act.put, List.setIfInBounds_toArray, List.set_cons_zero, List.set_cons_succ]
     rfl
   refine one_ (i := 9) (N := none) #[true, true, true, true, true, true, true, true, true, true, false] rfl rfl (one_of HT_.out (by kernel_rfl)) (by decide) (fun K hK => ?_)
   have z14_0 : wj14.cell? ⟨gb14, 0, none⟩ = some (.int .i64 0) := (blk_cell BK14.out 0).trans rfl
   have z14_1 : wj14.cell? ⟨gb14, 1, none⟩ = some (.slice none 0 0) := (blk_cell BK14.out 1).trans rfl
   have zf14_0 := blk_frozen BK14.out 0
   have zf14_1 := blk_frozen BK14.out 1
   refine skip_ (w1 := ?_) (by rfl) rfl ?_ ?_
   rotate_left
   · go_simp
     rfl
   refine hK.out _ _ trivial (fun hHeld => ?_)
   clear hK K
   refine pure_ (i := 10) (N := some 15) (v := ?_) (a' := ?_) #[true, true, true, true, true, true, true, true, true, true, true] rfl rfl (any_of HT_.out (by kernel_rfl)) (fun _ _ _ h => h) (Or.inl ⟨by rfl, ?_⟩) ?_ ?_
   rotate_left
   · intro w'
     go_simp
     with_reducible rfl
   rotate_left
   · simp only [Act.put, List.setIfInBounds_toArray, List.set_cons_zero, List.set_cons_succ, i64_w, i32_w]
     rfl
   refine done_ (done_of HT_.out (by kernel_rfl)) ?_
   go_upto_region 13 with (fail)
   (try simp only [Act.put, List.setIfInBounds_toArray, List.set_cons_zero, List.set_cons_succ])
   refine fill2 BK14.out (fun wc14 fb_ fk_ fB_ => ?_)
   try clear hHeld
   clear HT_ HW_
   have n0_ := Aside0.mk (Kd.R_mono (Kd.R_keep HO_1.out fk_ (fun _ hk => hk)) (fun _ _ => trivial))
   have n1_ := Aside0.mk (fk_.blk BK8.out NB8_14.out (by simp))
   have n2_ := Aside0.mk (fb_)
   have n3_ := Aside0.mk (fB_ w HB.out GE14.out)
   clear HO_1 BK8 BK14 HB
   have HO_1 := n0_
   have BK8 := n1_
   have BK14 := n2_
   have HB := n3_
   clear n0_ n1_ n2_ n3_
   clear fb_ fk_ fB_
   clear z14_0 zf14_0 z14_1 zf14_1
   have y8_0 : wc14.cell? ⟨gb8, 0, none⟩ = some (.int .i64 8) := (blk_cell BK8.out 0).trans rfl
   have y8_1 : wc14.cell? ⟨gb8, 1, none⟩ = some (.slice A8 y0.length c8) := (blk_cell BK8.out 1).trans rfl
   have fy8_0 := blk_frozen BK8.out 0
   have fy8_1 := blk_frozen BK8.out 1
   go_upto_region 14 with (first | ((with_reducible refine gate_callee (f := 11) rfl ?_); refine goesL_ (some 95) rfl rfl Try.func11 (by kernel_rfl) rfl #[.agg #[.int .i64 8, .slice A8 y0.length c8]] rfl (by (try simp only [List.map_toArray, List.map_cons, List.map_nil]); first | done | rfl | (simp only [List.length_drop, List.length_take]; rfl)) ?_; (with_reducible refine (channel_Take.calls kk 8 _ _ y0 0 0 0 0 0 0 0 0 0 0 0 y0 6 _ (C_nilB HY0.out) (le_nilB HY0.out) A_take.out).mono ?_); rintro e wa16 ⟨v17, rfl, ho0, hb⟩; obtain ⟨A17, c17, ev17, _⟩ := Kd.Q_slice ho0; subst ev17; refine ⟨_, rfl, ?_⟩; have n0_ := Aside0.mk (Kd.R_below HO_1.out hb); have n1_ := Aside0.mk (blk_below BK8.out hb); have n2_ := Aside0.mk (blk_below BK14.out hb); have n3_ := Aside0.mk (below_step HB.out hb); clear HO_1 BK8 BK14 HB; have HO_1 := n0_; have BK8 := n1_; have BK14 := n2_; have HB := n3_; clear n0_ n1_ n2_ n3_; (try clear hb); (try clear hb2); (try clear hk); (try clear hi); (try clear ho0)))
   (try simp only [Act.put, List.setIfInBounds_toArray, List.set_cons_zero, List.set_cons_succ])
   obtain ⟨h1_, h2_, hb⟩ := alloc2 wa16 (.cells #[.int .u8 0, .int .i64 0, .int .i64 0, .int .i64 0, .int .i64 0, .int .i64 0, .int .i64 0, .int .i64 0, .int .i64 0, .int .i64 0] 35) (.cells #[.int .i64 0, .slice A17 y0.length c17] 24)
   generalize (wa16.alloc (.cells #[.int .u8 0, .int .i64 0, .int .i64 0, .int .i64 0, .int .i64 0, .int .i64 0, .int .i64 0, .int .i64 0, .int .i64 0, .int .i64 0] 35)).alloc (.cells #[.int .i64 0, .slice A17 y0.length c17] 24) = wc17 at h1_ h2_ hb ⊢
   generalize hgs_ : wa16.heap.size = gb16 at h1_ h2_ ⊢
   generalize gb16 + 1 = gb17 at h2_ ⊢
   clear hgs_
   have n0_ := Aside0.mk (Kd.R_below HO_1.out hb)
   have n1_ := Aside0.mk (blk_below BK8.out hb)
   have n2_ := Aside0.mk (blk_below BK14.out hb)
   have n3_ := Aside0.mk (h1_)
   have n4_ := Aside0.mk (h2_)
   have n5_ := Aside0.mk (below_step HB.out hb)
   clear HO_1 BK8 BK14 HB
   have HO_1 := n0_
   have BK8 := n1_
   have BK14 := n2_
   have BK16 := n3_
   have BK17 := n4_
   have HB := n5_
   clear n0_ n1_ n2_ n3_ n4_ n5_
   clear hb h1_ h2_
   clear y8_0 fy8_0 y8_1 fy8_1
   go_upto_region 15 with (first | ((with_reducible refine gate_callee (f := 13) rfl ?_); refine goesL_ (some 103) rfl rfl Try.func13 (by kernel_rfl) rfl #[.agg #[.int .i64 8, .slice A1 y3.length c1]] rfl (by (try simp only [List.map_toArray, List.map_cons, List.map_nil]); first | done | rfl | (simp only [List.length_drop, List.length_take]; rfl)) ?_; (with_reducible refine (channel_Left.calls kk 8 _ _ y3 5 0 _ (C_cut (Kd.R_reads' HO_1.out).2.2 HY3.out (by have := LN.out; omega)) (by have := LN.out; have := HC1.out; omega) A_left.out).mono ?_); rintro e wl ⟨rfl, hb⟩; refine ⟨_, rfl, ?_⟩; have n0_ := Aside0.mk (Kd.R_below HO_1.out hb); have n1_ := Aside0.mk (blk_below BK8.out hb); have n2_ := Aside0.mk (blk_below BK14.out hb); have n3_ := Aside0.mk (blk_below BK16.out hb); have n4_ := Aside0.mk (blk_below BK17.out hb); have n5_ := Aside0.mk (below_step HB.out hb); clear HO_1 BK8 BK14 BK16 BK17 HB; have HO_1 := n0_; have BK8 := n1_; have BK14 := n2_; have BK16 := n3_; have BK17 := n4_; have HB := n5_; clear n0_ n1_ n2_ n3_ n4_ n5_; (try clear hb); (try clear hb2); (try clear hk); (try clear hi); (try clear ho0)))
   (try simp only [Act.put, List.setIfInBounds_toArray, List.set_cons_zero, List.set_cons_succ])
   have Lf2 : ((yf.length : Int) == 8) = true := by rw [show (yf.length : Int) = 8 by have := LN.out; omega]; rfl
   try go_wp2_with (first | (go_at_call 22; (with_reducible refine (tailwaterlaw26_alive.calls kk true _ A_aliv.out).mono ?_); rintro e wz ⟨rfl, hb⟩; have n0_ := Aside0.mk (Kd.R_below HO_1.out hb); have n1_ := Aside0.mk (blk_below BK8.out hb); have n2_ := Aside0.mk (blk_below BK14.out hb); have n3_ := Aside0.mk (blk_below BK16.out hb); have n4_ := Aside0.mk (blk_below BK17.out hb); have n5_ := Aside0.mk (below_step HB.out hb); clear HO_1 BK8 BK14 BK16 BK17 HB; have HO_1 := n0_; have BK8 := n1_; have BK14 := n2_; have BK16 := n3_; have BK17 := n4_; have HB := n5_; clear n0_ n1_ n2_ n3_ n4_ n5_; (try clear hb); (try clear hb2); (try clear hk); (try clear hi); (try clear ho0); have y8_0 : wz.cell? ⟨gb8, 0, none⟩ = some (.int .i64 8) := (blk_cell BK8.out 0).trans rfl; have y8_1 : wz.cell? ⟨gb8, 1, none⟩ = some (.slice A8 y0.length c8) := (blk_cell BK8.out 1).trans rfl; have fy8_0 := blk_frozen BK8.out 0; have fy8_1 := blk_frozen BK8.out 1; have y14_0 : wz.cell? ⟨gb14, 0, none⟩ = some (.int .i64 8) := (blk_cell BK14.out 0).trans rfl; have y14_1 : wz.cell? ⟨gb14, 1, none⟩ = some (.slice A14 yf.length c14) := (blk_cell BK14.out 1).trans rfl; have fy14_0 := blk_frozen BK14.out 0; have fy14_1 := blk_frozen BK14.out 1; have y16_0 : wz.cell? ⟨gb16, 0, none⟩ = some (.int .u8 0) := (blk_cell BK16.out 0).trans rfl; have y16_1 : wz.cell? ⟨gb16, 1, none⟩ = some (.int .i64 0) := (blk_cell BK16.out 1).trans rfl; have y16_2 : wz.cell? ⟨gb16, 2, none⟩ = some (.int .i64 0) := (blk_cell BK16.out 2).trans rfl; have y16_3 : wz.cell? ⟨gb16, 3, none⟩ = some (.int .i64 0) := (blk_cell BK16.out 3).trans rfl; have y16_4 : wz.cell? ⟨gb16, 4, none⟩ = some (.int .i64 0) := (blk_cell BK16.out 4).trans rfl; have y16_5 : wz.cell? ⟨gb16, 5, none⟩ = some (.int .i64 0) := (blk_cell BK16.out 5).trans rfl; have y16_6 : wz.cell? ⟨gb16, 6, none⟩ = some (.int .i64 0) := (blk_cell BK16.out 6).trans rfl; have y16_7 : wz.cell? ⟨gb16, 7, none⟩ = some (.int .i64 0) := (blk_cell BK16.out 7).trans rfl; have y16_8 : wz.cell? ⟨gb16, 8, none⟩ = some (.int .i64 0) := (blk_cell BK16.out 8).trans rfl; have y16_9 : wz.cell? ⟨gb16, 9, none⟩ = some (.int .i64 0) := (blk_cell BK16.out 9).trans rfl; have fy16_0 := blk_frozen BK16.out 0; have fy16_1 := blk_frozen BK16.out 1; have fy16_2 := blk_frozen BK16.out 2; have fy16_3 := blk_frozen BK16.out 3; have fy16_4 := blk_frozen BK16.out 4; have fy16_5 := blk_frozen BK16.out 5; have fy16_6 := blk_frozen BK16.out 6; have fy16_7 := blk_frozen BK16.out 7; have fy16_8 := blk_frozen BK16.out 8; have fy16_9 := blk_frozen BK16.out 9; have y17_0 : wz.cell? ⟨gb17, 0, none⟩ = some (.int .i64 0) := (blk_cell BK17.out 0).trans rfl; have y17_1 : wz.cell? ⟨gb17, 1, none⟩ = some (.slice A17 y0.length c17) := (blk_cell BK17.out 1).trans rfl; have fy17_0 := blk_frozen BK17.out 0; have fy17_1 := blk_frozen BK17.out 1) | (go_at_call 15; (with_reducible refine (same_nil kk 0 0 _ _ y0 true _ HY0.out A_same.out).mono ?_); rintro e ws ⟨rfl, hb⟩; have n0_ := Aside0.mk (Kd.R_below HO_1.out hb); have n1_ := Aside0.mk (blk_below BK8.out hb); have n2_ := Aside0.mk (blk_below BK14.out hb); have n3_ := Aside0.mk (blk_below BK16.out hb); have n4_ := Aside0.mk (blk_below BK17.out hb); have n5_ := Aside0.mk (below_step HB.out hb); clear HO_1 BK8 BK14 BK16 BK17 HB; have HO_1 := n0_; have BK8 := n1_; have BK14 := n2_; have BK16 := n3_; have BK17 := n4_; have HB := n5_; clear n0_ n1_ n2_ n3_ n4_ n5_; (try clear hb); (try clear hb2); (try clear hk); (try clear hi); (try clear ho0)))
   go_ret
   exact ⟨by first | rfl | (simp [*]; done), HB.out⟩
end Go.Proofs.Ytiilljmhddjmeaa.Q
