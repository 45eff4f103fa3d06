/- The table of functions is right. -/
import Derived.Test.YtdfhfgepbigljaaGreatChk0
import Derived.Test.YtdfhfgepbigljaaGreatChk1
import Derived.Test.YtdfhfgepbigljaaGreatChk2
import Derived.Test.YtdfhfgepbigljaaGreatChk3
namespace Go.Lv.Tryz
set_option maxRecDepth 100000
theorem tree_ok : TrOk (fun k f => chkFunc Go.Proofs.Tryz.prog ro k f = true) tree := (.node chk102 (.node chk52 (.node chk27 (.node chk15 (.node chk9 (.node chk6 (.node chk4 (.node chk3 .leaf .leaf) (.node chk5 .leaf .leaf)) (.node chk8 (.node chk7 .leaf .leaf) .leaf)) (.node chk12 (.node chk11 (.node chk10 .leaf .leaf) .leaf) (.node chk14 (.node chk13 .leaf .leaf) .leaf))) (.node chk21 (.node chk18 (.node chk17 (.node chk16 .leaf .leaf) .leaf) (.node chk20 (.node chk19 .leaf .leaf) .leaf)) (.node chk24 (.node chk23 (.node chk22 .leaf .leaf) .leaf) (.node chk26 (.node chk25 .leaf .leaf) .leaf)))) (.node chk40 (.node chk34 (.node chk31 (.node chk29 (.node chk28 .leaf .leaf) (.node chk30 .leaf .leaf)) (.node chk33 (.node chk32 .leaf .leaf) .leaf)) (.node chk37 (.node chk36 (.node chk35 .leaf .leaf) .leaf) (.node chk39 (.node chk38 .leaf .leaf) .leaf))) (.node chk46 (.node chk43 (.node chk42 (.node chk41 .leaf .leaf) .leaf) (.node chk45 (.node chk44 .leaf .leaf) .leaf)) (.node chk49 (.node chk48 (.node chk47 .leaf .leaf) .leaf) (.node chk51 (.node chk50 .leaf .leaf) .leaf))))) (.node chk78 (.node chk65 (.node chk59 (.node chk56 (.node chk54 (.node chk53 .leaf .leaf) (.node chk55 .leaf .leaf)) (.node chk58 (.node chk57 .leaf .leaf) .leaf)) (.node chk62 (.node chk61 (.node chk60 .leaf .leaf) .leaf) (.node chk64 (.node chk63 .leaf .leaf) .leaf))) (.node chk72 (.node chk68 (.node chk67 (.node chk66 .leaf .leaf) .leaf) (.node chk71 (.node chk70 .leaf .leaf) .leaf)) (.node chk75 (.node chk74 (.node chk73 .leaf .leaf) .leaf) (.node chk77 (.node chk76 .leaf .leaf) .leaf)))) (.node chk90 (.node chk84 (.node chk81 (.node chk80 (.node chk79 .leaf .leaf) .leaf) (.node chk83 (.node chk82 .leaf .leaf) .leaf)) (.node chk87 (.node chk86 (.node chk85 .leaf .leaf) .leaf) (.node chk89 (.node chk88 .leaf .leaf) .leaf))) (.node chk96 (.node chk93 (.node chk92 (.node chk91 .leaf .leaf) .leaf) (.node chk95 (.node chk94 .leaf .leaf) .leaf)) (.node chk99 (.node chk98 (.node chk97 .leaf .leaf) .leaf) (.node chk101 (.node chk100 .leaf .leaf) .leaf)))))) (.node chk154 (.node chk130 (.node chk115 (.node chk109 (.node chk106 (.node chk104 (.node chk103 .leaf .leaf) (.node chk105 .leaf .leaf)) (.node chk108 (.node chk107 .leaf .leaf) .leaf)) (.node chk112 (.node chk111 (.node chk110 .leaf .leaf) .leaf) (.node chk114 (.node chk113 .leaf .leaf) .leaf))) (.node chk124 (.node chk118 (.node chk117 (.node chk116 .leaf .leaf) .leaf) (.node chk123 (.node chk122 .leaf .leaf) .leaf)) (.node chk127 (.node chk126 (.node chk125 .leaf .leaf) .leaf) (.node chk129 (.node chk128 .leaf .leaf) .leaf)))) (.node chk142 (.node chk136 (.node chk133 (.node chk132 (.node chk131 .leaf .leaf) .leaf) (.node chk135 (.node chk134 .leaf .leaf) .leaf)) (.node chk139 (.node chk138 (.node chk137 .leaf .leaf) .leaf) (.node chk141 (.node chk140 .leaf .leaf) .leaf))) (.node chk148 (.node chk145 (.node chk144 (.node chk143 .leaf .leaf) .leaf) (.node chk147 (.node chk146 .leaf .leaf) .leaf)) (.node chk151 (.node chk150 (.node chk149 .leaf .leaf) .leaf) (.node chk153 (.node chk152 .leaf .leaf) .leaf))))) (.node chk182 (.node chk170 (.node chk163 (.node chk158 (.node chk156 (.node chk155 .leaf .leaf) (.node chk157 .leaf .leaf)) (.node chk160 (.node chk159 .leaf .leaf) .leaf)) (.node chk166 (.node chk165 (.node chk164 .leaf .leaf) .leaf) (.node chk168 (.node chk167 .leaf .leaf) .leaf))) (.node chk176 (.node chk173 (.node chk172 (.node chk171 .leaf .leaf) .leaf) (.node chk175 (.node chk174 .leaf .leaf) .leaf)) (.node chk179 (.node chk178 (.node chk177 .leaf .leaf) .leaf) (.node chk181 (.node chk180 .leaf .leaf) .leaf)))) (.node chk204 (.node chk197 (.node chk194 (.node chk193 (.node chk192 .leaf .leaf) .leaf) (.node chk196 (.node chk195 .leaf .leaf) .leaf)) (.node chk201 (.node chk200 (.node chk199 .leaf .leaf) .leaf) (.node chk203 (.node chk202 .leaf .leaf) .leaf))) (.node chk100022 (.node chk212 (.node chk210 (.node chk208 .leaf .leaf) .leaf) (.node chk100020 (.node chk100015 .leaf .leaf) .leaf)) (.node chk100078 (.node chk100071 (.node chk100055 .leaf .leaf) .leaf) (.node chk100149 (.node chk100105 .leaf .leaf) .leaf)))))))
theorem tab_ok : TabOk Go.Proofs.Tryz.prog T ro where
  mixed := by kernel_rfl
  fn := fun k f h => tree_ok.find h
  prim := fun k F h => by
    simp only [T] at h
    split at h
    · rename_i e; simp only [Option.some.injEq] at h; subst h; obtain rfl := Nat.eq_of_beq_eq_true e; exact index_prim
    simp at h
  hprim := fun k F h => by
    simp only [T] at h
    split at h
    · rename_i e; simp only [Option.some.injEq] at h; subst h; obtain rfl := Nat.eq_of_beq_eq_true e; exact sorted_prim
    simp at h
  ro := fun k h => by
    simp only [ro, Bool.or_eq_true] at h
    rcases h with (h | h) | h
    · obtain ⟨f, h1, h2⟩ := Tr.isPure_spec h; exact .inr (.inr ⟨f, h1, h2⟩)
    · obtain rfl := Nat.eq_of_beq_eq_true h; exact .inr <| .inl (by simp [T])
    · obtain rfl := Nat.eq_of_beq_eq_true h; exact .inl (by simp [T])
end Go.Lv.Tryz
