/- Each function in the small language is the image of the program's. -/
import Derived.Test.YtdfhfgepbigljaaGreatIr
import Derived.KernelRfl
namespace Go.Lv.Tryz
theorem chk5 : chkFunc Go.Proofs.Tryz.prog ro 5 ir5 = true := by kernel_rfl
theorem chk9 : chkFunc Go.Proofs.Tryz.prog ro 9 ir9 = true := by kernel_rfl
theorem chk13 : chkFunc Go.Proofs.Tryz.prog ro 13 ir13 = true := by kernel_rfl
theorem chk17 : chkFunc Go.Proofs.Tryz.prog ro 17 ir17 = true := by kernel_rfl
theorem chk21 : chkFunc Go.Proofs.Tryz.prog ro 21 ir21 = true := by kernel_rfl
theorem chk25 : chkFunc Go.Proofs.Tryz.prog ro 25 ir25 = true := by kernel_rfl
theorem chk29 : chkFunc Go.Proofs.Tryz.prog ro 29 ir29 = true := by kernel_rfl
theorem chk33 : chkFunc Go.Proofs.Tryz.prog ro 33 ir33 = true := by kernel_rfl
theorem chk37 : chkFunc Go.Proofs.Tryz.prog ro 37 ir37 = true := by kernel_rfl
theorem chk41 : chkFunc Go.Proofs.Tryz.prog ro 41 ir41 = true := by kernel_rfl
theorem chk45 : chkFunc Go.Proofs.Tryz.prog ro 45 ir45 = true := by kernel_rfl
theorem chk49 : chkFunc Go.Proofs.Tryz.prog ro 49 ir49 = true := by kernel_rfl
theorem chk53 : chkFunc Go.Proofs.Tryz.prog ro 53 ir53 = true := by kernel_rfl
theorem chk57 : chkFunc Go.Proofs.Tryz.prog ro 57 ir57 = true := by kernel_rfl
theorem chk61 : chkFunc Go.Proofs.Tryz.prog ro 61 ir61 = true := by kernel_rfl
theorem chk65 : chkFunc Go.Proofs.Tryz.prog ro 65 ir65 = true := by kernel_rfl
theorem chk70 : chkFunc Go.Proofs.Tryz.prog ro 70 ir70 = true := by kernel_rfl
theorem chk74 : chkFunc Go.Proofs.Tryz.prog ro 74 ir74 = true := by kernel_rfl
theorem chk78 : chkFunc Go.Proofs.Tryz.prog ro 78 ir78 = true := by kernel_rfl
theorem chk82 : chkFunc Go.Proofs.Tryz.prog ro 82 ir82 = true := by kernel_rfl
theorem chk86 : chkFunc Go.Proofs.Tryz.prog ro 86 ir86 = true := by kernel_rfl
theorem chk90 : chkFunc Go.Proofs.Tryz.prog ro 90 ir90 = true := by kernel_rfl
theorem chk94 : chkFunc Go.Proofs.Tryz.prog ro 94 ir94 = true := by kernel_rfl
theorem chk98 : chkFunc Go.Proofs.Tryz.prog ro 98 ir98 = true := by kernel_rfl
theorem chk102 : chkFunc Go.Proofs.Tryz.prog ro 102 ir102 = true := by kernel_rfl
theorem chk106 : chkFunc Go.Proofs.Tryz.prog ro 106 ir106 = true := by kernel_rfl
theorem chk110 : chkFunc Go.Proofs.Tryz.prog ro 110 ir110 = true := by kernel_rfl
theorem chk114 : chkFunc Go.Proofs.Tryz.prog ro 114 ir114 = true := by kernel_rfl
theorem chk118 : chkFunc Go.Proofs.Tryz.prog ro 118 ir118 = true := by kernel_rfl
theorem chk125 : chkFunc Go.Proofs.Tryz.prog ro 125 ir125 = true := by kernel_rfl
theorem chk129 : chkFunc Go.Proofs.Tryz.prog ro 129 ir129 = true := by kernel_rfl
theorem chk133 : chkFunc Go.Proofs.Tryz.prog ro 133 ir133 = true := by kernel_rfl
theorem chk137 : chkFunc Go.Proofs.Tryz.prog ro 137 ir137 = true := by kernel_rfl
theorem chk141 : chkFunc Go.Proofs.Tryz.prog ro 141 ir141 = true := by kernel_rfl
theorem chk145 : chkFunc Go.Proofs.Tryz.prog ro 145 ir145 = true := by kernel_rfl
theorem chk149 : chkFunc Go.Proofs.Tryz.prog ro 149 ir149 = true := by kernel_rfl
theorem chk153 : chkFunc Go.Proofs.Tryz.prog ro 153 ir153 = true := by kernel_rfl
theorem chk157 : chkFunc Go.Proofs.Tryz.prog ro 157 ir157 = true := by kernel_rfl
theorem chk163 : chkFunc Go.Proofs.Tryz.prog ro 163 ir163 = true := by kernel_rfl
theorem chk167 : chkFunc Go.Proofs.Tryz.prog ro 167 ir167 = true := by kernel_rfl
theorem chk172 : chkFunc Go.Proofs.Tryz.prog ro 172 ir172 = true := by kernel_rfl
theorem chk176 : chkFunc Go.Proofs.Tryz.prog ro 176 ir176 = true := by kernel_rfl
theorem chk180 : chkFunc Go.Proofs.Tryz.prog ro 180 ir180 = true := by kernel_rfl
theorem chk193 : chkFunc Go.Proofs.Tryz.prog ro 193 ir193 = true := by kernel_rfl
theorem chk197 : chkFunc Go.Proofs.Tryz.prog ro 197 ir197 = true := by kernel_rfl
theorem chk202 : chkFunc Go.Proofs.Tryz.prog ro 202 ir202 = true := by kernel_rfl
theorem chk210 : chkFunc Go.Proofs.Tryz.prog ro 210 ir210 = true := by kernel_rfl
theorem chk100022 : chkFunc Go.Proofs.Tryz.prog ro 100022 ir100022 = true := by kernel_rfl
theorem chk100105 : chkFunc Go.Proofs.Tryz.prog ro 100105 ir100105 = true := by kernel_rfl
end Go.Lv.Tryz
