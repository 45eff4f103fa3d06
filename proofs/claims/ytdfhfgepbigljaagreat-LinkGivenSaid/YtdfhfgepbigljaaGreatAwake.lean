/- What the laws of chapter 6 end with: awake() comes to true; lanternalike.Round. -/
import Derived.Test.YtdfhfgepbigljaaGreatTab
import Derived.Test.YtdfhfgepbigljaaGreatLvM3
namespace Go.Lv.Tryz
set_option linter.unusedVariables false
noncomputable section

theorem awake_ok : callF T (exF T 3000) 0 16 [] [] = some (.p (.bool true), []) := by kernel_rfl
def awakeP : List PV → Option PV
  | [] => some (.bool true)
  | _ => none
theorem awake_prim : PrimOk Go.Proofs.Tryz.prog 16 awakeP := prim_of_callN tab_ok fun args v h => by
  unfold awakeP at h
  split at h
  · simp only [Option.some.injEq] at h; subst h
    exact ⟨3000, [], by rw [← call_fast]; exact awake_ok⟩
  · simp at h


/-- the table with awake() and Round as they are told above -/
def T2 : Tab := { T with prim := fun k => if Nat.beq k 16 = true then some awakeP else T.prim k }
theorem tab2_ok : TabOk Go.Proofs.Tryz.prog T2 ro where
  mixed := tab_ok.mixed
  fn := tab_ok.fn
  prim := fun k F h => by
    simp only [T2] at h
    split at h
    · rename_i e; simp only [Option.some.injEq] at h; subst h; obtain rfl := Nat.eq_of_beq_eq_true e; exact awake_prim
    · exact tab_ok.prim k F h
  hprim := tab_ok.hprim
  ro := fun k h => by
    rcases tab_ok.ro k h with h1 | h1 | h1
    · exact .inl h1
    · refine .inr (.inl ?_)
      simp only [T2]
      split
      · simp
      · exact h1
    · exact .inr (.inr h1)
end
end Go.Lv.Tryz
