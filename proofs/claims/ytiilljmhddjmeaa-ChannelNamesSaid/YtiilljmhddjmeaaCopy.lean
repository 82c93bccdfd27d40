/- copy(s, x) where s is a row of the call's own and x a row that is read: the elements' cells lie where they lay in x. No condition but what each theorem names. -/
import Derived.Laws.CopyOwn
import Derived.Test.YtiilljmhddjmeaaQ0
namespace Go.Proofs.Ytiilljmhddjmeaa.Q
open Go.RowKit Go.Proofs.YtiilljmhddjmeaaW.PrintWords Go.Proofs.YtiilljmhddjmeaaW.PrintLast
set_option linter.unusedVariables false
set_option linter.unusedSimpArgs false

theorem run_copy_rows {P : Program} (w : World) (dT sT ty elem : TypeId) (g dLen dCap sz : Nat) (a : Addr) (sLen sCap : Nat) (cur : Array Value) (t : TypeId) (cs : List Value)
    (hu : P.underlying dT = some (.slice elem)) (hs : (P.info? elem).map (·.size) = some sz)
    (hg : w.heap[g]? = some (.cells cur t (0, 0))) (hn : cs.length = Nat.min sLen dLen * sz)
    (hsrc : ∀ j v, cs[j]? = some v → w.cell? (a.add j) = some v) (hfit : cs.length ≤ cur.size) (h1 : ∀ v ∈ cs, v.oneCell' = true) :
    (Builtin.copy_ #[dT, sT] ty #[.slice (some ⟨g, 0, none⟩) dLen dCap, .slice (some a) sLen sCap]).run P w =
      .ok (goInt (Nat.min sLen dLen)) (w.setRow g (cs ++ cur.toList.drop cs.length).toArray) := by
  have hl := run_loadCells_list (P := P) w a cs hsrc
  have hst := run_storeCells_at P g 0 t cs 0 cur w hg (by simpa using hfit) h1
  simp only [Nat.add_zero, Nat.zero_add, List.take_zero, List.nil_append] at hst
  cases hq : P.info? elem with
  | none => simp [hq] at hs
  | some i =>
    have hi : i.size = sz := by simpa [hq] using hs
    simp [Builtin.copy_, run_underlying hu, Builtin.lenOf, Builtin.firstCells, sizeOf, typeInfo, hq, hi, ← hn, hl, hst]

theorem copy_row {P : Program} {α : Type} (d : Kd α) {Rr : α → List Value → Prop} {W : World} (base : Nat) (t t' ty e : TypeId)
    (ht : P.underlying t = some (.slice e)) (hsz : (P.info? e).map (·.size) = some d.sz) (hs0 : 0 < d.sz)
    (v : Value) (zs ys : List α) (B : Option Addr) (m c : Nat) (ok okp : Nat → Prop)
    (HO : d.R e W base ok v zs) (HR : ReadsRow Rr d.sz W B m ys) (hKM : ∀ x cs, Rr x cs → d.M W base okp x cs) (hokp : ∀ k, okp k → ok k ∧ some k ≠ v.ownBlock) (hlen : m ≤ zs.length) :
    ∃ u w1, (Builtin.copy_ #[t, t'] ty #[v, .slice B m c]).run P W = .ok u w1 ∧ d.R e w1 base ok v (ys ++ zs.drop m) ∧ W.grownBy w1 v.ownBlock := by
  have hm : ys.length = m := HR.1
  obtain ⟨hok, inner, hown, hr⟩ := HO
  obtain ⟨i0, hi, hi0⟩ := Option.map_eq_some_iff.1 hsz
  rcases B with _ | ad
  · have h0 : m = 0 := by
      rcases Nat.eq_zero_or_pos m with h0 | h0
      · exact h0
      · obtain ⟨ad, h, _⟩ := HR.2.2 h0
        cases h
    subst h0
    obtain rfl : ys = [] := List.eq_nil_of_length_eq_zero hm
    refine ⟨goInt 0, W, ?_, by rw [List.drop_zero, List.nil_append]; exact ⟨hok, inner, hown, hr⟩, World.grownBy.refl W _⟩
    rcases hown.2 with ⟨rfl, hn⟩ | ⟨g, cap, cur, rfl, _, _, hnc, _⟩
    · simp [Builtin.copy_, run_underlying ht, sizeOf, typeInfo, hi, Builtin.lenOf, Builtin.firstCells]
    · simp [Builtin.copy_, run_underlying ht, sizeOf, typeInfo, hi, Builtin.lenOf, Builtin.firstCells, storeCells]
  · obtain ⟨news, hnr, hnc⟩ := ReadsRow.inner_ HR
    have hnM : Reps (d.M W base okp) d.sz ys news := hnr.imp_ (fun p c hp => hKM p c hp)
    have hnl : news.length = m * d.sz := by rw [hnM.1, hm]
    have hone : ∀ u ∈ news, u.oneCell' = true := by
      intro u hu
      obtain ⟨q, hq, rfl⟩ := List.mem_iff_getElem.1 hu
      have hql : q / d.sz < ys.length := by
        rw [Nat.div_lt_iff_lt_mul hs0, ← hnM.1]
        exact hq
      have hc := hnM.2 (q / d.sz) _ (List.getElem?_eq_getElem hql)
      refine d.K_one (d.K_of_M hc) _ ?_
      rw [List.mem_iff_getElem?]
      refine ⟨q % d.sz, ?_⟩
      rw [List.getElem?_take, if_pos (Nat.mod_lt _ hs0), List.getElem?_drop, Nat.mul_comm, Nat.div_add_mod, List.getElem?_eq_getElem hq]
    obtain ⟨hil, hcase⟩ := hown
    rcases hcase with ⟨rfl, hn⟩ | ⟨g, cap, cur, rfl, hb, hg, hnc', hcm, hcs, hcur⟩
    · have h0 : m = 0 := by omega
      subst h0
      obtain rfl : ys = [] := List.eq_nil_of_length_eq_zero hm
      refine ⟨goInt 0, W, ?_, by rw [List.drop_zero, List.nil_append]; exact ⟨hok, inner, ⟨hil, .inl ⟨rfl, hn⟩⟩, hr⟩, World.grownBy.refl W _⟩
      have hl := run_loadCells_list (P := P) W ad [] (by simp)
      simp only [List.length_nil] at hl
      simp [Builtin.copy_, run_underlying ht, sizeOf, typeInfo, hi, Builtin.lenOf, Builtin.firstCells, hl]
    · have hmin : Nat.min m zs.length = m := Nat.min_eq_left hlen
      have hle : m * d.sz ≤ zs.length * d.sz := Nat.mul_le_mul_right _ hlen
      have hle2 : zs.length * d.sz ≤ cap * d.sz := Nat.mul_le_mul_right _ hnc'
      have hrun := run_copy_rows (P := P) W t t' ty e g zs.length cap d.sz ad m c cur e news ht hsz hg (by rw [hmin, hnl]) hnc (by omega) hone
      have hother : ∀ k, k ≠ g → (W.setRow g (news ++ cur.toList.drop news.length).toArray).heap[k]? = W.heap[k]? := fun k hk => setRow_other W g k _ hk
      have hin : inner.length = zs.length * d.sz := hil
      have hdrop : inner.drop (m * d.sz) = (cur.toList.drop (m * d.sz)).take (zs.length * d.sz - m * d.sz) := by
        rw [← hcur, List.drop_take]
      refine ⟨_, _, hrun, ⟨hok, news ++ inner.drop (m * d.sz), ⟨?_, .inr ⟨g, cap, _, by rw [List.length_append, List.length_drop, hm, Nat.add_sub_cancel' hlen], hb, setRow_heap W g cur _ e (0, 0) hg, by rw [List.length_append, List.length_drop, hm, Nat.add_sub_cancel' hlen]; exact hnc', hcm, ?_, ?_⟩⟩, ?_⟩, ?_⟩
      · rw [List.length_append, List.length_append, List.length_drop, List.length_drop, hm, Nat.add_sub_cancel' hlen, hnl, hin]
        omega
      · simp only [List.size_toArray, List.length_append, List.length_drop, Array.length_toList, hcs, hnl]
        omega
      · rw [List.length_append, List.length_drop, hm, Nat.add_sub_cancel' hlen, hnl, hdrop]
        simp only [List.take_append, hnl]
        rw [List.take_of_length_le (by omega)]
      · have hmv : ∀ p cs, d.M W base (fun k => ok k ∧ some k ≠ (Value.slice (some ⟨g, 0, none⟩) zs.length cap).ownBlock) p cs → d.M (W.setRow g (news ++ cur.toList.drop news.length).toArray) base (fun k => ok k ∧ some k ≠ (Value.slice (some ⟨g, 0, none⟩) zs.length cap).ownBlock) p cs :=
          fun p cs h => d.M_move (fun k hk => hother k (fun e => hk.2 (by rw [e]; rfl))) h
        exact Kd.reps_append (hnM.imp_ (fun p cs h => hmv p cs (d.M_mono hokp h))) (Kd.reps_drop (hr.imp_ hmv))
      · exact ⟨rfl, rfl, rfl, by simp [World.setRow], fun k _ hne => hother k (fun e => hne (by rw [e]; rfl))⟩

theorem R_copy {P : Program} {α : Type} {ops : Array Oper} {rest : List Oper} {o : Oper} {a : Act} {Q : Exit → Act → World → Prop} (d : Kd α) {Rr : α → List Value → Prop} {w0 W : World} (base : Nat) (hgd : o.guard = none) (s x : Operand) (t t' e : TypeId)
    (ho : o.op = .call { callee := .builtin .copy, args := #[s, x], argTypes := #[t, t'] })
    (ht : P.underlying t = some (.slice e)) (hsz : (P.info? e).map (·.size) = some d.sz) (hs0 : 0 < d.sz)
    (v : Value) (zs ys : List α) (B : Option Addr) (m c : Nat) (ok okp : Nat → Prop) (hs : a.eval s = v) (hx : a.eval x = .slice B m c)
    (HO : d.R e W base ok v zs) (HR : ReadsRow Rr d.sz W B m ys) (hKM : ∀ x cs, Rr x cs → d.M W base okp x cs) (hokp : ∀ k, okp k → ok k ∧ some k ≠ v.ownBlock) (hlen : m ≤ zs.length)
    (HB : Below base w0 W) (hbase : base ≤ W.heap.size)
    (h : ∀ u w1, d.R e w1 base ok v (ys ++ zs.drop m) → Below base w0 w1 → W.grownBy w1 v.ownBlock → wpList P ops Q rest (a.put o.dst u) w1) :
    wpList P ops Q (o :: rest) a W := by
  obtain ⟨u, w1, hrun, hR, hg⟩ := copy_row (P := P) d base t t' o.type e ht hsz hs0 v zs ys B m c ok okp HO HR hKM hokp hlen
  have hB1 : Below base w0 w1 := HB.trans ⟨hg.os, hg.tape, hg.output, hg.size, fun k hk => hg.block k (by omega) (fun e => by have := Kd.R_base HO k e.symm; omega)⟩
  refine wpList_plain hgd fun K hK => ?_
  unfold Oper.wp execOp
  simp only [ho, resolve, invoke, builtin, Sem.run_bind, Sem.run_pure, Result.andThen_ok, List.map_toArray, List.map_cons, List.map_nil, hs, hx, hrun]
  exact hK _ _ (h u w1 hR hB1 hg)

/-- make([]T, n), told with the very value: it has no room behind. -/
theorem R_make_at {P : Program} {α : Type} {ops : Array Oper} {rest : List Oper} {o : Oper} {a : Act} {Q : Exit → Act → World → Prop} (d : Kd α) {w0 W : World} (base e : Nat) (hgd : o.guard = none) (t : TypeId) (x y : Operand) (ho : o.op = .makeSlice t x y) (n : Int) (hx : a.eval x = .int .i64 n) (hy : a.eval y = .int .i64 n)
    (ht : P.underlying t = some (.slice e)) (z : Value) (bytes : Nat) (hinfo : (P.info? e).map (fun i => (i.zero, i.size, i.bytes)) = some (some z, d.sz, bytes)) (hz : z.cells.size = d.sz) (hs0 : 0 < d.sz) (hb0 : 0 < bytes)
    (z0 : α) {ok okp : Nat → Prop} (hzero : d.M W base okp z0 z.cells.toList) (hok : ∀ k, okp k → ok k) (hfresh : ok W.heap.size) (m : Nat) (hn : n = (m : Int)) (hl : m * bytes ≤ 281474976710656) (HB : Below base w0 W) (hbase : base ≤ W.heap.size)
    (h : ∀ A w1, d.R e w1 base ok (.slice A m m) (List.replicate m z0) → Below base w0 w1 → W.grownBy w1 none → wpList P ops Q rest (a.put o.dst (.slice A m m)) w1) : wpList P ops Q (o :: rest) a W := by
  subst hn
  obtain ⟨i0, hi, hzz⟩ := Option.map_eq_some_iff.1 hinfo
  simp only [Prod.mk.injEq] at hzz
  obtain ⟨hz0, hz1, hz2⟩ := hzz
  have hm : m ≤ 281474976710656 := Nat.le_trans (Nat.le_mul_of_pos_right _ hb0) hl
  have hr := run_make (P := P) W t e i0 z ht hi hz0 .i64 .i64 (m : Int) (m : Int) (by omega) (by omega)
    (by
      have h3 : ((i0.bytes * m : Nat) : Int) ≤ 281474976710656 := by rw [hz2, Nat.mul_comm]; omega
      rwa [Int.natCast_mul] at h3) (by omega)
  simp only [Int.toNat_natCast] at hr
  rw [hz1] at hr
  have hrun : (execOp a.eval o).run P W = .ok (.value (.slice (some ⟨W.heap.size, 0, none⟩) m m)) (W.alloc (.cells (madeCells z.cells (m * d.sz)) e)) := by
    simp [execOp, ho, hx, hy, hr]
  have hrep := Kd.reps_made (R := d.M W base okp) hz hs0 hzero m
  refine Kd.event_run hgd hrun (h _ _ ⟨fun k hk => ?_, (madeCells z.cells (m * d.sz)).toList, ?_, ?_⟩ (HB.alloc hbase _) (World.grownBy_alloc W _ none))
  · have : W.heap.size = k := by simpa [Value.ownBlock] using hk
    subst this
    exact hfresh
  · have h2 := World.ownsRow_lit (base := base) (e := e) (size := d.sz) W (madeCells z.cells (m * d.sz)) m hbase (by simp only [maxLen]; omega) (by simpa using hrep.1)
    simpa using h2
  · refine hrep.imp_ (fun p c hp => d.M_mono (fun k hk => ⟨hok k hk.1, fun he => ?_⟩) (Kd.M_below (d.M_bound hp) (below_alloc (Below.refl _ _) _)))
    have h3 : k = W.heap.size := by simpa [Value.ownBlock] using he
    have := hk.2.2.1
    omega

theorem R_at {α : Type} {d : Kd α} {e : Nat} {w : World} {base : Nat} {ok : Nat → Prop} {A : Option Addr} {n c : Nat} {xs : List α} (h : d.R e w base ok (.slice A n c) xs) (hn : 0 < n) : ∃ g, A = some ⟨g, 0, none⟩ := by
  obtain ⟨_, inner, ⟨_, h2⟩, _⟩ := h
  rcases h2 with ⟨he, h0⟩ | ⟨g, cap, cur, he, _⟩
  · injection he with h1 h2 h3; omega
  · injection he with h1 h2 h3; exact ⟨g, h1⟩

/-- xs[lo:hi:max] -/
theorem cut_full {P : Program} (t e : TypeId) (kl kh km : IntKind) {i : TypeInfo} (ht : P.underlying t = some (.slice e)) (hi : P.info? e = some i) (size : Nat) (hsz : i.size = size) (A : Option Addr) (n c : Nat) (lo hi' mx' : Int) (h0 : 0 ≤ lo) (h1 : lo ≤ hi') (h2 : hi' ≤ mx') (hc : mx' ≤ c) :
    ∀ W : World, (Instr.slice t (.slice A n c) (some (.int kl lo)) (some (.int kh hi')) (some (.int km mx'))).run P W = .ok (.slice (if mx'.toNat = lo.toNat then A else A.map (·.add (lo.toNat * size))) (hi'.toNat - lo.toNat) (mx'.toNat - lo.toNat)) W := by
  intro W
  have hel : P.elem t = e := by simp [Program.elem, ht]
  have hu : P.underlying t = some (.slice (P.elem t)) := by rw [hel]; exact ht
  rw [run_slice_lhm W t A n c hu kl kh km lo hi' mx' h0 h1 h2 hc, hel]
  simp [sizeOf, typeInfo, hi, hsz, sliced, Result.andThen]
end Go.Proofs.Ytiilljmhddjmeaa.Q
