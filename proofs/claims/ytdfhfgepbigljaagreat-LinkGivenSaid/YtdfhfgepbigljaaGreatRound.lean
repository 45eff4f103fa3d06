/- lanternalike.Round(k, n) is k modulo n, from 0 on. -/
import Derived.Test.YtdfhfgepbigljaaGreatAwake
namespace Go.Lv.Tryz
set_option linter.unusedSimpArgs false
set_option linter.unusedVariables false

theorem fn14 : T.fn 14 = some ir14 := by kernel_rfl
theorem tmod_neg {k n : Int} (hn : 0 < n) (hk : k.tmod n < 0) : k.tmod n + n = k % n := by
  rw [Int.tmod_eq_emod] at hk ⊢
  have := Int.emod_nonneg k (by omega : n ≠ 0)
  have hn' : ((n.natAbs : Nat) : Int) = n := by omega
  split at hk
  · omega
  · rename_i hc
    rw [if_neg hc, hn']; omega
theorem tmod_pos {k n : Int} (hn : 0 < n) (hk : ¬ k.tmod n < 0) : k.tmod n = k % n := by
  rw [Int.tmod_eq_emod] at hk ⊢
  have := Int.emod_lt_of_pos k hn
  have hn' : ((n.natAbs : Nat) : Int) = n := by omega
  split at hk
  · rename_i hc; rw [if_pos hc]; omega
  · omega
theorem wrap_nonneg {x : Int} (h0 : 0 ≤ x) (h1 : x < 9223372036854775808) : IntKind.wrap .i64 x = x := by
  obtain ⟨a, rfl⟩ := Int.eq_ofNat_of_zero_le h0
  exact wrap_small (by omega)
theorem round_ok (m lo : Nat) (h : Heap) (k n : Int) (hn : 0 < n) (hn2 : n < 9223372036854775808) : callN T (m + 20) lo 14 [.p (.int .i64 k), .p (.int .i64 n)] h = some (.p (.int .i64 (k % n)), h) := by
  have e := call_pure (T := T) (n := m + 20) (lo := lo) (h := h) (l := [.int .i64 k, .int .i64 n]) (f := 14) (by kernel_rfl) (by kernel_rfl) fn14 rfl
  simp only [List.map_cons, List.map_nil] at e
  rw [e]
  have hn0 : ¬ n = 0 := by omega
  have h0 := Int.emod_nonneg k hn0
  have h1 := Int.emod_lt_of_pos k hn
  by_cases hk : k.tmod n < 0
  · have e2 : IntKind.wrap .i64 (k.tmod n + n) = k % n := by rw [tmod_neg hn hk]; exact wrap_nonneg h0 (by omega)
    simp only [runBody, ir14, List.length_cons, List.length_nil, rep, x_region, x_cond, x_ret, x_nil, runOps_f, steps, goes, exOp, fzDV, opd, getN, Option.getD, isStep, outs, setEnv, setN, List.reverse_cons, List.reverse_nil, List.nil_append, List.cons_append, Bool.false_eq_true, if_false, if_true, binPV, intBin, okP, hn0, hk, decide_true, decide_false, retVals, frzs, freeze, oneP, Nat.reduceAdd, Nat.reduceSub, e2]
  · simp only [runBody, ir14, List.length_cons, List.length_nil, rep, x_region, x_cond, x_ret, x_nil, runOps_f, steps, goes, exOp, fzDV, opd, getN, Option.getD, isStep, outs, setEnv, setN, List.reverse_cons, List.reverse_nil, List.nil_append, List.cons_append, Bool.false_eq_true, if_false, if_true, binPV, intBin, okP, hn0, hk, decide_true, decide_false, retVals, frzs, freeze, oneP, Nat.reduceAdd, Nat.reduceSub]
    rw [tmod_pos hn hk]

noncomputable section
/-- lanternalike.Round, as it is told -/
def roundP : List PV → Option PV
  | [.int .i64 k, .int .i64 n] => if ltI 0 n && ltI n 9223372036854775808 then some (.int .i64 (k % n)) else none
  | _ => none
theorem round_prim : PrimOk Go.Proofs.Tryz.prog 14 roundP := prim_of_callN tab_ok fun args v h => by
  unfold roundP at h
  split at h
  · rename_i k n
    split at h
    · rename_i hc
      rw [ltI_eq, ltI_eq, Bool.and_eq_true, decide_eq_true_eq, decide_eq_true_eq] at hc
      simp only [Option.some.injEq] at h; subst h
      exact ⟨20, [], round_ok 0 0 [] k n hc.1 hc.2⟩
    · simp at h
  · simp at h
/-- the table, with these two told -/
def T3 : Tab := { T2 with prim := fun k => if Nat.beq k 14 = true then some roundP else T2.prim k }
theorem tab3_ok : TabOk Go.Proofs.Tryz.prog T3 ro where
  mixed := tab2_ok.mixed
  fn := tab2_ok.fn
  prim := fun k F h => by
    simp only [T3] at h
    split at h
    · rename_i e; simp only [Option.some.injEq] at h; subst h; obtain rfl := Nat.eq_of_beq_eq_true e; exact round_prim
    · exact tab2_ok.prim k F h
  hprim := tab2_ok.hprim
  ro := fun k h => by
    rcases tab2_ok.ro k h with h1 | h1 | h1
    · exact .inl h1
    · refine .inr (.inl ?_)
      simp only [T3]
      split
      · simp
      · exact h1
    · exact .inr (.inr h1)
end
end Go.Lv.Tryz
