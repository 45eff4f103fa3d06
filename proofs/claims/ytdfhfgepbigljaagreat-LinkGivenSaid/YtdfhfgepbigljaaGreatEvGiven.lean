/- LinkGiven comes to true: the twelve cases, by the interpreter in Lean's kernel. -/
import Derived.Test.YtdfhfgepbigljaaGreatRound
namespace Go.Lv.Tryz
set_option linter.unusedVariables false
set_option linter.unusedSimpArgs false
noncomputable section
namespace Given
/-- what a function of pure values makes of its body's end -/
def fin (rets : List (Nat × Option (Bool × Nat))) (o : Option (Ex × List DV × Heap)) : Option (DV × Heap) :=
  optK o fun q => Prod.casesOn q fun ex q2 => Prod.casesOn q2 fun env h' => Ex.casesOn ex (optK (rtF rets h' env) fun l => optK (fzsF h' l) fun q => Prod.casesOn q fun vs _ => some (.p (onF vs), []))
    (fun _ => none) (fun _ => none) (optK (rtF rets h' env) fun l => optK (fzsF h' l) fun q => Prod.casesOn q fun vs _ => some (.p (onF vs), []))
def e0 (k : Int) : List DV := apF [.p (.int .i64 k)] (reF 13)
def R7 (k : Int) : Option (Ex × List DV × Heap) := exF T3 100000 0 (tF ir9.body 7) (e0 k) []
def E7 (k : Int) : List DV := optE (R7 k) [] fun q => q.2.1
def G : List PV := onDV (gD (E7 0) 3) (fun v => PV.casesOn v (fun _ _ => []) (fun _ => []) (fun _ => []) (fun _ => []) [] (fun xs => xs) [] (fun _ => []) [] (fun _ => []) [] (fun _ _ => []) [] (fun _ _ => []) (fun _ => []) []) (fun _ _ _ => []) (fun _ _ _ => []) []
theorem start (m : Nat) (k : Int) : callF T3 (exF T3 m) 0 9 [.p (.int .i64 k)] [] = fin ir9.rets (exF T3 m 0 ir9.body (e0 k) []) := by kernel_rfl
theorem pre (m : Nat) (k : Int) : exF T3 (m + 5007) 0 ir9.body (e0 k) [] = exF T3 (m + 5000) 0 (dF ir9.body 7) (E7 k) [] := by kernel_rfl
def ops12 : List IStep := [{ op := .mov (.v 3) }, { op := .mov (.v 0) }, { op := .mov (.v 3) }, { op := .len .sl (.t 0) }, { op := .call 14 [.t 2, .t 0] }, { op := .indexAddr 7 (.t 4) (.t 0) }, { op := .fieldAddr 0 1 false (.t 0) }, { op := .load false 1 (.t 0) }, { op := .mov (.t 0), dst := some 9 }]
theorem node7 : dF ir9.body 7 = .region false ops12 :: dF ir9.body 8 := by kernel_rfl
theorem E3 (k : Int) : getN (E7 k) 3 = some (.p (.isl G)) := by kernel_rfl
theorem E0 (k : Int) : getN (E7 k) 0 = some (.p (.int .i64 k)) := by kernel_rfl
theorem G12 : G.length = 12 := by kernel_rfl
theorem call14 (m : Nat) (k r : Int) (hr : k % 12 = r) : callN T3 m 0 14 [.p (.int .i64 k), .p (.int .i64 ((12 : Nat) : Int))] [] = some (.p (.int .i64 r), []) := by
  have : callF T3 (exF T3 m) 0 14 [.p (.int .i64 k), .p (.int .i64 ((12 : Nat) : Int))] [] = some (.p (.int .i64 (k % 12)), []) := by kernel_rfl
  rw [← call_fast, this, hr]
/-- the class's name, of the twelve -/
def nm (r : Int) : PV := onE' (indexF [] 7 (.p (.isl G)) (.p (.int .i64 r)))
where onE' (o : Option DV) : PV := optE (optK o fun x => optK (fieldF 0 1 false x) fun y => loadF [] false 1 y) .undef fun v => onDV v (fun w => w) (fun _ _ _ => .undef) (fun _ _ _ => .undef) .undef
def cls (r : Nat) : PV := optE (gN G r) .undef fun v => v
theorem reg (m : Nat) (k r : Int) (hr : k % 12 = r) (v : DV) (w : DV) (h1 : indexDV [] 7 (.p (.isl G)) (.p (.int .i64 r)) = some v) (h2 : fieldDV 0 1 false v = some w) (h3 : loadDV [] false 1 w = some (.p (nm r))) :
    exec T3 (m + 1) 0 (dF ir9.body 7) (E7 k) [] = exec T3 m 0 (dF ir9.body 8) (setN (E7 k) 9 (.p (nm r))) [] := by
  rw [node7, x_region]
  simp only [ops12, runOps_f, steps, goes, exOp, fzDV, opd, opds, getN, Option.getD, isStep, outs, setEnv, List.reverse_cons, List.reverse_nil, List.nil_append, List.cons_append, Bool.false_eq_true, if_false, if_true, E3, E0, isLK, lenDV, Bool.not_true, G12, call14 m k r hr, h1, h2, h3, ok0]
def rest (k r : Int) : Option (DV × Heap) := fin ir9.rets (exF T3 104999 0 (dF ir9.body 8) (sN (E7 k) 9 (.p (nm r))) [])
theorem c0 (k : Int) : rest k 0 = some (.p (.bool true), []) := by kernel_rfl
theorem c1 (k : Int) : rest k 1 = some (.p (.bool true), []) := by kernel_rfl
theorem c2 (k : Int) : rest k 2 = some (.p (.bool true), []) := by kernel_rfl
theorem c3 (k : Int) : rest k 3 = some (.p (.bool true), []) := by kernel_rfl
theorem c4 (k : Int) : rest k 4 = some (.p (.bool true), []) := by kernel_rfl
theorem c5 (k : Int) : rest k 5 = some (.p (.bool true), []) := by kernel_rfl
theorem c6 (k : Int) : rest k 6 = some (.p (.bool true), []) := by kernel_rfl
theorem c7 (k : Int) : rest k 7 = some (.p (.bool true), []) := by kernel_rfl
theorem c8 (k : Int) : rest k 8 = some (.p (.bool true), []) := by kernel_rfl
theorem c9 (k : Int) : rest k 9 = some (.p (.bool true), []) := by kernel_rfl
theorem c10 (k : Int) : rest k 10 = some (.p (.bool true), []) := by kernel_rfl
theorem c11 (k : Int) : rest k 11 = some (.p (.bool true), []) := by kernel_rfl
theorem all (k : Int) : callN T3 105007 0 9 [.p (.int .i64 k)] [] = some (.p (.bool true), []) := by
  rw [← call_fast, start, pre 100000]
  have h0 := Int.emod_nonneg k (by decide : (12 : Int) ≠ 0)
  have h1 := Int.emod_lt_of_pos k (by decide : (0 : Int) < 12)
  have key : ∀ (r : Int) (v w : DV), k % 12 = r → indexDV [] 7 (.p (.isl G)) (.p (.int .i64 r)) = some v → fieldDV 0 1 false v = some w → loadDV [] false 1 w = some (.p (nm r)) →
      fin ir9.rets (exF T3 105000 0 (dF ir9.body 7) (E7 k) []) = fin ir9.rets (exF T3 104999 0 (dF ir9.body 8) (sN (E7 k) 9 (.p (nm r))) []) := fun r v w hr q1 q2 q3 => by
    rw [exF_eq, exF_eq, sN_eq]; exact congrArg _ (reg 104999 k r hr v w q1 q2 q3)
  have split : k % 12 = 0 ∨ k % 12 = 1 ∨ k % 12 = 2 ∨ k % 12 = 3 ∨ k % 12 = 4 ∨ k % 12 = 5 ∨ k % 12 = 6 ∨ k % 12 = 7 ∨ k % 12 = 8 ∨ k % 12 = 9 ∨ k % 12 = 10 ∨ k % 12 = 11 := by omega
  rcases split with hr | hr | hr | hr | hr | hr | hr | hr | hr | hr | hr | hr
  · rw [key 0 (.p (.cptr (cls 0))) (.p (.cptr (nm 0))) hr (by kernel_rfl) (by kernel_rfl) (by kernel_rfl)]; exact c0 k
  · rw [key 1 (.p (.cptr (cls 1))) (.p (.cptr (nm 1))) hr (by kernel_rfl) (by kernel_rfl) (by kernel_rfl)]; exact c1 k
  · rw [key 2 (.p (.cptr (cls 2))) (.p (.cptr (nm 2))) hr (by kernel_rfl) (by kernel_rfl) (by kernel_rfl)]; exact c2 k
  · rw [key 3 (.p (.cptr (cls 3))) (.p (.cptr (nm 3))) hr (by kernel_rfl) (by kernel_rfl) (by kernel_rfl)]; exact c3 k
  · rw [key 4 (.p (.cptr (cls 4))) (.p (.cptr (nm 4))) hr (by kernel_rfl) (by kernel_rfl) (by kernel_rfl)]; exact c4 k
  · rw [key 5 (.p (.cptr (cls 5))) (.p (.cptr (nm 5))) hr (by kernel_rfl) (by kernel_rfl) (by kernel_rfl)]; exact c5 k
  · rw [key 6 (.p (.cptr (cls 6))) (.p (.cptr (nm 6))) hr (by kernel_rfl) (by kernel_rfl) (by kernel_rfl)]; exact c6 k
  · rw [key 7 (.p (.cptr (cls 7))) (.p (.cptr (nm 7))) hr (by kernel_rfl) (by kernel_rfl) (by kernel_rfl)]; exact c7 k
  · rw [key 8 (.p (.cptr (cls 8))) (.p (.cptr (nm 8))) hr (by kernel_rfl) (by kernel_rfl) (by kernel_rfl)]; exact c8 k
  · rw [key 9 (.p (.cptr (cls 9))) (.p (.cptr (nm 9))) hr (by kernel_rfl) (by kernel_rfl) (by kernel_rfl)]; exact c9 k
  · rw [key 10 (.p (.cptr (cls 10))) (.p (.cptr (nm 10))) hr (by kernel_rfl) (by kernel_rfl) (by kernel_rfl)]; exact c10 k
  · rw [key 11 (.p (.cptr (cls 11))) (.p (.cptr (nm 11))) hr (by kernel_rfl) (by kernel_rfl) (by kernel_rfl)]; exact c11 k
end Given
end
end Go.Lv.Tryz
