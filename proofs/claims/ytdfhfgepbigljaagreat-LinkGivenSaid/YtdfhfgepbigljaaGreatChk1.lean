/- Each function in the small language is the image of the program's. -/
import Derived.Test.YtdfhfgepbigljaaGreatIr
import Derived.KernelRfl
namespace Go.Lv.Tryz
theorem chk4 : chkFunc Go.Proofs.Tryz.prog ro 4 ir4 = true := by kernel_rfl
theorem chk8 : chkFunc Go.Proofs.Tryz.prog ro 8 ir8 = true := by kernel_rfl
theorem chk12 : chkFunc Go.Proofs.Tryz.prog ro 12 ir12 = true := by kernel_rfl
theorem chk16 : chkFunc Go.Proofs.Tryz.prog ro 16 ir16 = true := by kernel_rfl
theorem chk20 : chkFunc Go.Proofs.Tryz.prog ro 20 ir20 = true := by kernel_rfl
theorem chk24 : chkFunc Go.Proofs.Tryz.prog ro 24 ir24 = true := by kernel_rfl
theorem chk28 : chkFunc Go.Proofs.Tryz.prog ro 28 ir28 = true := by kernel_rfl
theorem chk32 : chkFunc Go.Proofs.Tryz.prog ro 32 ir32 = true := by kernel_rfl
theorem chk36 : chkFunc Go.Proofs.Tryz.prog ro 36 ir36 = true := by kernel_rfl
theorem chk40 : chkFunc Go.Proofs.Tryz.prog ro 40 ir40 = true := by kernel_rfl
theorem chk44 : chkFunc Go.Proofs.Tryz.prog ro 44 ir44 = true := by kernel_rfl
theorem chk48 : chkFunc Go.Proofs.Tryz.prog ro 48 ir48 = true := by kernel_rfl
theorem chk52 : chkFunc Go.Proofs.Tryz.prog ro 52 ir52 = true := by kernel_rfl
theorem chk56 : chkFunc Go.Proofs.Tryz.prog ro 56 ir56 = true := by kernel_rfl
theorem chk60 : chkFunc Go.Proofs.Tryz.prog ro 60 ir60 = true := by kernel_rfl
theorem chk64 : chkFunc Go.Proofs.Tryz.prog ro 64 ir64 = true := by kernel_rfl
theorem chk68 : chkFunc Go.Proofs.Tryz.prog ro 68 ir68 = true := by kernel_rfl
theorem chk73 : chkFunc Go.Proofs.Tryz.prog ro 73 ir73 = true := by kernel_rfl
theorem chk77 : chkFunc Go.Proofs.Tryz.prog ro 77 ir77 = true := by kernel_rfl
theorem chk81 : chkFunc Go.Proofs.Tryz.prog ro 81 ir81 = true := by kernel_rfl
theorem chk85 : chkFunc Go.Proofs.Tryz.prog ro 85 ir85 = true := by kernel_rfl
theorem chk89 : chkFunc Go.Proofs.Tryz.prog ro 89 ir89 = true := by kernel_rfl
theorem chk93 : chkFunc Go.Proofs.Tryz.prog ro 93 ir93 = true := by kernel_rfl
theorem chk97 : chkFunc Go.Proofs.Tryz.prog ro 97 ir97 = true := by kernel_rfl
theorem chk101 : chkFunc Go.Proofs.Tryz.prog ro 101 ir101 = true := by kernel_rfl
theorem chk105 : chkFunc Go.Proofs.Tryz.prog ro 105 ir105 = true := by kernel_rfl
theorem chk109 : chkFunc Go.Proofs.Tryz.prog ro 109 ir109 = true := by kernel_rfl
theorem chk113 : chkFunc Go.Proofs.Tryz.prog ro 113 ir113 = true := by kernel_rfl
theorem chk117 : chkFunc Go.Proofs.Tryz.prog ro 117 ir117 = true := by kernel_rfl
theorem chk124 : chkFunc Go.Proofs.Tryz.prog ro 124 ir124 = true := by kernel_rfl
theorem chk128 : chkFunc Go.Proofs.Tryz.prog ro 128 ir128 = true := by kernel_rfl
theorem chk132 : chkFunc Go.Proofs.Tryz.prog ro 132 ir132 = true := by kernel_rfl
theorem chk136 : chkFunc Go.Proofs.Tryz.prog ro 136 ir136 = true := by kernel_rfl
theorem chk140 : chkFunc Go.Proofs.Tryz.prog ro 140 ir140 = true := by kernel_rfl
theorem chk144 : chkFunc Go.Proofs.Tryz.prog ro 144 ir144 = true := by kernel_rfl
theorem chk148 : chkFunc Go.Proofs.Tryz.prog ro 148 ir148 = true := by kernel_rfl
theorem chk152 : chkFunc Go.Proofs.Tryz.prog ro 152 ir152 = true := by kernel_rfl
theorem chk156 : chkFunc Go.Proofs.Tryz.prog ro 156 ir156 = true := by kernel_rfl
theorem chk160 : chkFunc Go.Proofs.Tryz.prog ro 160 ir160 = true := by kernel_rfl
theorem chk166 : chkFunc Go.Proofs.Tryz.prog ro 166 ir166 = true := by kernel_rfl
theorem chk171 : chkFunc Go.Proofs.Tryz.prog ro 171 ir171 = true := by kernel_rfl
theorem chk175 : chkFunc Go.Proofs.Tryz.prog ro 175 ir175 = true := by kernel_rfl
theorem chk179 : chkFunc Go.Proofs.Tryz.prog ro 179 ir179 = true := by kernel_rfl
theorem chk192 : chkFunc Go.Proofs.Tryz.prog ro 192 ir192 = true := by kernel_rfl
theorem chk196 : chkFunc Go.Proofs.Tryz.prog ro 196 ir196 = true := by kernel_rfl
theorem chk201 : chkFunc Go.Proofs.Tryz.prog ro 201 ir201 = true := by kernel_rfl
theorem chk208 : chkFunc Go.Proofs.Tryz.prog ro 208 ir208 = true := by kernel_rfl
theorem chk100020 : chkFunc Go.Proofs.Tryz.prog ro 100020 ir100020 = true := by kernel_rfl
theorem chk100078 : chkFunc Go.Proofs.Tryz.prog ro 100078 ir100078 = true := by kernel_rfl
end Go.Lv.Tryz
