/- Each function in the small language is the image of the program's. -/
import Derived.Test.YtdfhfgepbigljaaGreatIr
import Derived.KernelRfl
namespace Go.Lv.Tryz
theorem chk6 : chkFunc Go.Proofs.Tryz.prog ro 6 ir6 = true := by kernel_rfl
theorem chk10 : chkFunc Go.Proofs.Tryz.prog ro 10 ir10 = true := by kernel_rfl
theorem chk14 : chkFunc Go.Proofs.Tryz.prog ro 14 ir14 = true := by kernel_rfl
theorem chk18 : chkFunc Go.Proofs.Tryz.prog ro 18 ir18 = true := by kernel_rfl
theorem chk22 : chkFunc Go.Proofs.Tryz.prog ro 22 ir22 = true := by kernel_rfl
theorem chk26 : chkFunc Go.Proofs.Tryz.prog ro 26 ir26 = true := by kernel_rfl
theorem chk30 : chkFunc Go.Proofs.Tryz.prog ro 30 ir30 = true := by kernel_rfl
theorem chk34 : chkFunc Go.Proofs.Tryz.prog ro 34 ir34 = true := by kernel_rfl
theorem chk38 : chkFunc Go.Proofs.Tryz.prog ro 38 ir38 = true := by kernel_rfl
theorem chk42 : chkFunc Go.Proofs.Tryz.prog ro 42 ir42 = true := by kernel_rfl
theorem chk46 : chkFunc Go.Proofs.Tryz.prog ro 46 ir46 = true := by kernel_rfl
theorem chk50 : chkFunc Go.Proofs.Tryz.prog ro 50 ir50 = true := by kernel_rfl
theorem chk54 : chkFunc Go.Proofs.Tryz.prog ro 54 ir54 = true := by kernel_rfl
theorem chk58 : chkFunc Go.Proofs.Tryz.prog ro 58 ir58 = true := by kernel_rfl
theorem chk62 : chkFunc Go.Proofs.Tryz.prog ro 62 ir62 = true := by kernel_rfl
theorem chk66 : chkFunc Go.Proofs.Tryz.prog ro 66 ir66 = true := by kernel_rfl
theorem chk71 : chkFunc Go.Proofs.Tryz.prog ro 71 ir71 = true := by kernel_rfl
theorem chk75 : chkFunc Go.Proofs.Tryz.prog ro 75 ir75 = true := by kernel_rfl
theorem chk79 : chkFunc Go.Proofs.Tryz.prog ro 79 ir79 = true := by kernel_rfl
theorem chk83 : chkFunc Go.Proofs.Tryz.prog ro 83 ir83 = true := by kernel_rfl
theorem chk87 : chkFunc Go.Proofs.Tryz.prog ro 87 ir87 = true := by kernel_rfl
theorem chk91 : chkFunc Go.Proofs.Tryz.prog ro 91 ir91 = true := by kernel_rfl
theorem chk95 : chkFunc Go.Proofs.Tryz.prog ro 95 ir95 = true := by kernel_rfl
theorem chk99 : chkFunc Go.Proofs.Tryz.prog ro 99 ir99 = true := by kernel_rfl
theorem chk103 : chkFunc Go.Proofs.Tryz.prog ro 103 ir103 = true := by kernel_rfl
theorem chk107 : chkFunc Go.Proofs.Tryz.prog ro 107 ir107 = true := by kernel_rfl
theorem chk111 : chkFunc Go.Proofs.Tryz.prog ro 111 ir111 = true := by kernel_rfl
theorem chk115 : chkFunc Go.Proofs.Tryz.prog ro 115 ir115 = true := by kernel_rfl
theorem chk122 : chkFunc Go.Proofs.Tryz.prog ro 122 ir122 = true := by kernel_rfl
theorem chk126 : chkFunc Go.Proofs.Tryz.prog ro 126 ir126 = true := by kernel_rfl
theorem chk130 : chkFunc Go.Proofs.Tryz.prog ro 130 ir130 = true := by kernel_rfl
theorem chk134 : chkFunc Go.Proofs.Tryz.prog ro 134 ir134 = true := by kernel_rfl
theorem chk138 : chkFunc Go.Proofs.Tryz.prog ro 138 ir138 = true := by kernel_rfl
theorem chk142 : chkFunc Go.Proofs.Tryz.prog ro 142 ir142 = true := by kernel_rfl
theorem chk146 : chkFunc Go.Proofs.Tryz.prog ro 146 ir146 = true := by kernel_rfl
theorem chk150 : chkFunc Go.Proofs.Tryz.prog ro 150 ir150 = true := by kernel_rfl
theorem chk154 : chkFunc Go.Proofs.Tryz.prog ro 154 ir154 = true := by kernel_rfl
theorem chk158 : chkFunc Go.Proofs.Tryz.prog ro 158 ir158 = true := by kernel_rfl
theorem chk164 : chkFunc Go.Proofs.Tryz.prog ro 164 ir164 = true := by kernel_rfl
theorem chk168 : chkFunc Go.Proofs.Tryz.prog ro 168 ir168 = true := by kernel_rfl
theorem chk173 : chkFunc Go.Proofs.Tryz.prog ro 173 ir173 = true := by kernel_rfl
theorem chk177 : chkFunc Go.Proofs.Tryz.prog ro 177 ir177 = true := by kernel_rfl
theorem chk181 : chkFunc Go.Proofs.Tryz.prog ro 181 ir181 = true := by kernel_rfl
theorem chk194 : chkFunc Go.Proofs.Tryz.prog ro 194 ir194 = true := by kernel_rfl
theorem chk199 : chkFunc Go.Proofs.Tryz.prog ro 199 ir199 = true := by kernel_rfl
theorem chk203 : chkFunc Go.Proofs.Tryz.prog ro 203 ir203 = true := by kernel_rfl
theorem chk212 : chkFunc Go.Proofs.Tryz.prog ro 212 ir212 = true := by kernel_rfl
theorem chk100055 : chkFunc Go.Proofs.Tryz.prog ro 100055 ir100055 = true := by kernel_rfl
theorem chk100149 : chkFunc Go.Proofs.Tryz.prog ro 100149 ir100149 = true := by kernel_rfl
end Go.Lv.Tryz
