/- The row of ChannelFirst: for every input that can be read the call returns true, and the input reads as it did. No condition. -/
import Derived.Test.YtiilljmhddjmeaaRows
import Derived.Test.YtiilljmhddjmeaaF5
import Derived.Test.YtiilljmhddjmeaaPureChannelFirst
import Derived.Test.YtiilljmhddjmeaaOpenB
import Derived.WalkKit
import Derived.ProofKit
import Derived.OpenShut
import Derived.ShutString
import Derived.ChangeOld
import Derived.Below
import Derived.SizedLaws
namespace Go.Proofs.Ytiilljmhddjmeaa.channelFirst
open Go.ChangeShapes Go.WideShapes Go.ChangeAt Go.RowKit
open Go.ChangeMaps (open_string shut_string)
set_option linter.unusedVariables false
theorem own : ownKnob Try.prog.godebug = none := by kernel_rfl
theorem laidOut : laidOutB Try.prog = true := by kernel_rfl
set_option maxRecDepth 100000 in
theorem lifted (os : Os) (started : os.Started) (H : Type) (enc : TypeId × Value → H) :
    ReturnsInHanded {} Try.checked os 5 .any (Rows.channelFirstSpec.pre6 enc Try.prog Try.f5 Rows.channelFirstRow.domain false) (Rows.channelFirstSpec.post enc Try.prog Try.f5 false true false false) := by
  refine returnsInHanded_of_change_sized (C := Try.checked) own started (by kernel_rfl) Try.func5
    (ChangeSpec.witness6 (enc := enc) (C := Try.checked) false ⟨#[], #[.agg #[.int .i64 0, .slice none 0 0], .slice none 0 0, .slice none 0 0], []⟩ 8 (by kernel_rfl) (by kernel_rfl) (by kernel_rfl) (by kernel_rfl)) ?_
  intro W base args ds gs before hval0 hW hcnd hsz0 _
  have hval : ∀ (j : Nat) t v, Try.f5.params[j]? = some t → args[j]? = some v → Value.okWide Try.prog W .any base t v := hval0
  have hW' := hW
  obtain ⟨p, q, hA0, hV, rfl, hfz, hnd⟩ := hW
  have hA : DataW.TrodAll enc Try.prog W 0 (fun _ => true) true Try.f5.params.toList args.toList ds p := hA0
  rw [Try.params5] at hA hval
  obtain ⟨v0, vs0, d0, ds0, p0, q0, hargs, rfl, rfl, h0, r0⟩ := trodAll_cons hA
  obtain ⟨v1, vs1, d1, ds1, p1, q1, rfl, rfl, rfl, h1, r1⟩ := trodAll_cons r0
  obtain ⟨v2, vs2, d2, ds2, p2, q2, rfl, rfl, rfl, h2, r2⟩ := trodAll_cons r1
  obtain ⟨rfl, rfl, rfl⟩ := trodAll_nil r2
  obtain rfl : args = #[v0, v1, v2] := by cases args; simp_all
  obtain ⟨rfl, rfl⟩ := trodVars_none hV
  obtain ⟨cs0, rfl, hz0⟩ := okWide_struct Try.underlying24 (hval 0 24 v0 rfl rfl)
  have k0 := h0
  have lt0 : ∀ x ∈ p0, x.block < W.heap.size := by obtain ⟨m, hm⟩ := k0; exact DataW.trod_lt m _ _ _ hm
  obtain ⟨a0, A0, c0, l0, hcs0, w0, hc0, hC0, hF0⟩ : ∃ (room : Int) (A : Option Addr) (c : Nat) (l : List Q.S35), cs0.toList = [.int .i64 room, .slice A l.length c] ∧ Q.wf room ∧ l.length ≤ c ∧ Go.Proofs.YtiilljmhddjmeaaW.PrintWords.Kd.C Q.k35 W A l.length l ∧ ∀ x ∈ l, Q.Fits x := by obtain ⟨fuel, hf⟩ := h0; exact Q.open_queue hf
  obtain rfl : cs0 = #[.int .i64 a0, .slice A0 l0.length c0] := by cases cs0; simpa using hcs0
  obtain ⟨a1, len1, cap1, rfl⟩ := okWide_slice Try.underlying22 (hval 1 22 v1 rfl rfl)
  have k1 := h1
  have lt1 : ∀ x ∈ p1, x.block < W.heap.size := by obtain ⟨m, hm⟩ := k1; exact DataW.trod_lt m _ _ _ hm
  obtain ⟨l1, rfl, hc1, hC1, hF1⟩ : ∃ l, Q.Reads W a1 len1 cap1 l := by obtain ⟨fuel, hf⟩ := h1; exact Q.open_messages hf
  obtain ⟨a2, len2, cap2, rfl⟩ := okWide_slice Try.underlying55 (hval 2 55 v2 rfl rfl)
  have k2 := h2
  have lt2 : ∀ x ∈ p2, x.block < W.heap.size := by obtain ⟨m, hm⟩ := k2; exact DataW.trod_lt m _ _ _ hm
  obtain ⟨l2, rfl, hc2, hC2⟩ : ∃ l : List Bool, len2 = l.length ∧ l.length ≤ cap2 ∧ Go.Proofs.YtiilljmhddjmeaaW.PrintWords.Kd.C Go.Proofs.YtiilljmhddjmeaaW.PrintWords.Kd.bool W a2 l.length l := by obtain ⟨fuel, hf⟩ := h2; exact Q.open_takes hf
  clear hA0 hval0 hsz0
  obtain ⟨k, h⟩ := Q.ChannelFirst a0 l0 l1 l2   
  refine (Q.tailwaterlaw26_ChannelFirst.calls k a0 (fun _ => True) A0 c0 l0 _ _ l1 _ _ l2 W (Q.V_ofC hC0 hc0) hC1 hc1 hC2 hc2 h).mono fun e W' ⟨he, bel⟩ => ?_
  subst he
  exact ⟨_, rfl, _, _, _, [], _, [], hW', trodAll_mk1 (shut_bool Try.underlying4 _), (trodAll_cons_mk (Below.trod laidOut (by kernel_rfl) (of_decide_eq_true (by kernel_rfl)) k0 bel lt0) (trodAll_cons_mk (Below.trod laidOut (by kernel_rfl) (of_decide_eq_true (by kernel_rfl)) k1 bel lt1) (trodAll_cons_mk (Below.trod laidOut (by kernel_rfl) (of_decide_eq_true (by kernel_rfl)) k2 bel lt2) trodAll_mk0))), rfl, bel.frame _, fun h => by cases h⟩
theorem over : Rows.channelFirstRow.holds Try.pinned (OpenSpec.ofChange Rows.channelFirstSpec) :=
  OpenClaim.holds_of_wide 5 Try.f5 rfl rfl rfl rfl rfl rfl rfl ⟨rfl, rfl, rfl, rfl, rfl⟩ rfl rfl rfl rfl rfl (by kernel_rfl) Try.func5 (by kernel_rfl)
    (of_decide_eq_true (by kernel_rfl)) (by unfold Func.isWrapper; first | (rw [if_pos (by decide +kernel)]; kernel_rfl) | (rw [if_neg (by decide +kernel)]; exact ⟨rfl, rfl⟩))
    (fun os started H enc _ => lifted os started H enc)
theorem proved : Rows.ChannelFirstSaid := over
#print axioms proved
end Go.Proofs.Ytiilljmhddjmeaa.channelFirst
namespace Go.Proofs.Ytiilljmhddjmeaa
/-- The row, under a short name, for the claim. -/
theorem channelFirst_holds : Rows.ChannelFirstSaid := channelFirst.proved
end Go.Proofs.Ytiilljmhddjmeaa
