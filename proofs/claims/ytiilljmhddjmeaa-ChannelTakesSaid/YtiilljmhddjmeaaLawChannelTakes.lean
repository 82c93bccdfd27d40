/- The row of ChannelTakes: for every input that can be read the call returns true, and the input reads as it did. No condition. -/
import Derived.Test.YtiilljmhddjmeaaRows
import Derived.Test.YtiilljmhddjmeaaQ7
import Derived.Test.YtiilljmhddjmeaaPureChannelTakes
import Derived.Test.YtiilljmhddjmeaaOpen
import Derived.WalkKit
import Derived.ProofKit
import Derived.OpenShut
import Derived.ShutString
import Derived.ChangeOld
import Derived.Below
import Derived.SizedLaws
namespace Go.Proofs.Ytiilljmhddjmeaa.channelTakes
open Go.ChangeShapes Go.WideShapes Go.ChangeAt Go.RowKit
open Go.ChangeMaps (open_string shut_string)
set_option linter.unusedVariables false
theorem own : ownKnob Try.prog.godebug = none := by kernel_rfl
theorem laidOut : laidOutB Try.prog = true := by kernel_rfl
set_option maxRecDepth 100000 in
theorem lifted (os : Os) (started : os.Started) (H : Type) (enc : TypeId × Value → H) :
    ReturnsInHanded {} Try.checked os 3 .any (Rows.channelTakesSpec.pre6 enc Try.prog Try.f3 Rows.channelTakesRow.domain false) (Rows.channelTakesSpec.post enc Try.prog Try.f3 false true false false) := by
  refine returnsInHanded_of_change_sized (C := Try.checked) own started (by kernel_rfl) Try.func3
    (ChangeSpec.witness6 (enc := enc) (C := Try.checked) false ⟨#[], #[.agg #[.int .i64 0, .slice none 0 0]], []⟩ 8 (by kernel_rfl) (by kernel_rfl) (by kernel_rfl) (by kernel_rfl)) ?_
  intro W base args ds gs before hval0 hW hcnd hsz0 _
  have hval : ∀ (j : Nat) t v, Try.f3.params[j]? = some t → args[j]? = some v → Value.okWide Try.prog W .any base t v := hval0
  have hW' := hW
  obtain ⟨p, q, hA0, hV, rfl, hfz, hnd⟩ := hW
  have hA : DataW.TrodAll enc Try.prog W 0 (fun _ => true) true Try.f3.params.toList args.toList ds p := hA0
  rw [Try.params3] at hA hval
  obtain ⟨v0, vs0, d0, ds0, p0, q0, hargs, rfl, rfl, h0, r0⟩ := trodAll_cons hA
  obtain ⟨rfl, rfl, rfl⟩ := trodAll_nil r0
  obtain rfl : args = #[v0] := by cases args; simp_all
  obtain ⟨rfl, rfl⟩ := trodVars_none hV
  obtain ⟨cs0, rfl, hz0⟩ := okWide_struct Try.underlying24 (hval 0 24 v0 rfl rfl)
  have k0 := h0
  have lt0 : ∀ x ∈ p0, x.block < W.heap.size := by obtain ⟨m, hm⟩ := k0; exact DataW.trod_lt m _ _ _ hm
  obtain ⟨a0, A0, c0, l0, hcs0, w0, hc0, hC0, hF0⟩ : ∃ (room : Int) (A : Option Addr) (c : Nat) (l : List Q.S35), cs0.toList = [.int .i64 room, .slice A l.length c] ∧ Q.wf room ∧ l.length ≤ c ∧ Go.Proofs.YtiilljmhddjmeaaW.PrintWords.Kd.C Q.k35 W A l.length l ∧ ∀ x ∈ l, Q.Fits x := by obtain ⟨fuel, hf⟩ := h0; exact Q.open_queue hf
  obtain rfl : cs0 = #[.int .i64 a0, .slice A0 l0.length c0] := by cases cs0; simpa using hcs0
  clear hA0 hval0 hsz0
  obtain ⟨k, h⟩ := Q.ChannelTakes a0 l0 
  refine (Q.tailwaterlaw26_ChannelTakes.calls k a0 A0 c0 l0 W hC0 hc0 h).mono fun e W' ⟨he, bel⟩ => ?_
  subst he
  exact ⟨_, rfl, _, _, _, [], _, [], hW', trodAll_mk1 (shut_bool Try.underlying4 _), (trodAll_cons_mk (Below.trod laidOut (by kernel_rfl) (of_decide_eq_true (by kernel_rfl)) k0 bel lt0) trodAll_mk0), rfl, bel.frame _, fun h => by cases h⟩
theorem over : Rows.channelTakesRow.holds Try.pinned (OpenSpec.ofChange Rows.channelTakesSpec) :=
  OpenClaim.holds_of_wide 3 Try.f3 rfl rfl rfl rfl rfl rfl rfl ⟨rfl, rfl, rfl, rfl, rfl⟩ rfl rfl rfl rfl rfl (by kernel_rfl) Try.func3 (by kernel_rfl)
    (of_decide_eq_true (by kernel_rfl)) (by unfold Func.isWrapper; first | (rw [if_pos (by decide +kernel)]; kernel_rfl) | (rw [if_neg (by decide +kernel)]; exact ⟨rfl, rfl⟩))
    (fun os started H enc _ => lifted os started H enc)
theorem proved : Rows.ChannelTakesSaid := over
#print axioms proved
end Go.Proofs.Ytiilljmhddjmeaa.channelTakes
namespace Go.Proofs.Ytiilljmhddjmeaa
/-- The row, under a short name, for the claim. -/
theorem channelTakes_holds : Rows.ChannelTakesSaid := channelTakes.proved
end Go.Proofs.Ytiilljmhddjmeaa
