/- LinkWhole comes to true: the twelve cases, by the interpreter in Lean's kernel. -/
import Derived.Test.YtdfhfgepbigljaaGreatRound
namespace Go.Lv.Tryz
set_option linter.unusedVariables false
noncomputable section
/-- what a function of pure values makes of its body's end -/
def fin (rets : List (Nat × Option (Bool × Nat))) (o : Option (Ex × List DV × Heap)) : Option (DV × Heap) :=
  optK o fun q => Prod.casesOn q fun ex q2 => Prod.casesOn q2 fun env h' => Ex.casesOn ex (optK (rtF rets h' env) fun l => optK (fzsF h' l) fun q => Prod.casesOn q fun vs _ => some (.p (onF vs), []))
    (fun _ => none) (fun _ => none) (optK (rtF rets h' env) fun l => optK (fzsF h' l) fun q => Prod.casesOn q fun vs _ => some (.p (onF vs), []))
namespace Whole
def e0 (k : Int) (a b : Bool) : List DV := apF [.p (.int .i64 k), .p (.bool a), .p (.bool b)] (reF 11)
def R6 (k : Int) (a b : Bool) : Option (Ex × List DV × Heap) := exF T3 20 0 (tF ir3.body 6) (e0 k a b) []
def E6 (k : Int) (a b : Bool) : List DV := optE (R6 k a b) [] fun q => q.2.1
def H6 (k : Int) (a b : Bool) : Heap := optE (R6 k a b) [] fun q => q.2.2
theorem start (m : Nat) (k : Int) (a b : Bool) : callF T3 (exF T3 m) 0 3 [.p (.int .i64 k), .p (.bool a), .p (.bool b)] [] = fin ir3.rets (exF T3 m 0 ir3.body (e0 k a b) []) := by kernel_rfl
theorem pre (m : Nat) (k : Int) (a b : Bool) : exF T3 (m + 7) 0 ir3.body (e0 k a b) [] = exF T3 m 0 (dF ir3.body 7) (sN (E6 k a b) 13 (.p (.int .i64 (k % 3)))) (H6 k a b) := by kernel_rfl
def rest (k r : Int) (a b : Bool) : Option (DV × Heap) := fin ir3.rets (exF T3 100000 0 (dF ir3.body 7) (sN (E6 k a b) 13 (.p (.int .i64 r))) (H6 k a b))
theorem c0tt (k : Int) : rest k 0 true true = some (.p (.bool true), []) := by kernel_rfl
theorem c0tf (k : Int) : rest k 0 true false = some (.p (.bool true), []) := by kernel_rfl
theorem c0ft (k : Int) : rest k 0 false true = some (.p (.bool true), []) := by kernel_rfl
theorem c0ff (k : Int) : rest k 0 false false = some (.p (.bool true), []) := by kernel_rfl
theorem c1tt (k : Int) : rest k 1 true true = some (.p (.bool true), []) := by kernel_rfl
theorem c1tf (k : Int) : rest k 1 true false = some (.p (.bool true), []) := by kernel_rfl
theorem c1ft (k : Int) : rest k 1 false true = some (.p (.bool true), []) := by kernel_rfl
theorem c1ff (k : Int) : rest k 1 false false = some (.p (.bool true), []) := by kernel_rfl
theorem c2tt (k : Int) : rest k 2 true true = some (.p (.bool true), []) := by kernel_rfl
theorem c2tf (k : Int) : rest k 2 true false = some (.p (.bool true), []) := by kernel_rfl
theorem c2ft (k : Int) : rest k 2 false true = some (.p (.bool true), []) := by kernel_rfl
theorem c2ff (k : Int) : rest k 2 false false = some (.p (.bool true), []) := by kernel_rfl
theorem all (k : Int) (a b : Bool) : callN T3 100007 0 3 [.p (.int .i64 k), .p (.bool a), .p (.bool b)] [] = some (.p (.bool true), []) := by
  rw [← call_fast, start, pre 100000]
  have h0 := Int.emod_nonneg k (by decide : (3 : Int) ≠ 0)
  have h1 := Int.emod_lt_of_pos k (by decide : (0 : Int) < 3)
  have h2 : k % 3 = 0 ∨ k % 3 = 1 ∨ k % 3 = 2 := by omega
  rcases h2 with h2 | h2 | h2 <;> rw [h2] <;> cases a <;> cases b
  · exact c0ff k
  · exact c0ft k
  · exact c0tf k
  · exact c0tt k
  · exact c1ff k
  · exact c1ft k
  · exact c1tf k
  · exact c1tt k
  · exact c2ff k
  · exact c2ft k
  · exact c2tf k
  · exact c2tt k
end Whole
end
end Go.Lv.Tryz
