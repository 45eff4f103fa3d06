/- Each function in the small language is the image of the program's. -/
import Derived.Test.YtdfhfgepbigljaaGreatIr
import Derived.KernelRfl
namespace Go.Lv.Tryz
theorem chk3 : chkFunc Go.Proofs.Tryz.prog ro 3 ir3 = true := by kernel_rfl
theorem chk7 : chkFunc Go.Proofs.Tryz.prog ro 7 ir7 = true := by kernel_rfl
theorem chk11 : chkFunc Go.Proofs.Tryz.prog ro 11 ir11 = true := by kernel_rfl
theorem chk15 : chkFunc Go.Proofs.Tryz.prog ro 15 ir15 = true := by kernel_rfl
theorem chk19 : chkFunc Go.Proofs.Tryz.prog ro 19 ir19 = true := by kernel_rfl
theorem chk23 : chkFunc Go.Proofs.Tryz.prog ro 23 ir23 = true := by kernel_rfl
theorem chk27 : chkFunc Go.Proofs.Tryz.prog ro 27 ir27 = true := by kernel_rfl
theorem chk31 : chkFunc Go.Proofs.Tryz.prog ro 31 ir31 = true := by kernel_rfl
theorem chk35 : chkFunc Go.Proofs.Tryz.prog ro 35 ir35 = true := by kernel_rfl
theorem chk39 : chkFunc Go.Proofs.Tryz.prog ro 39 ir39 = true := by kernel_rfl
theorem chk43 : chkFunc Go.Proofs.Tryz.prog ro 43 ir43 = true := by kernel_rfl
theorem chk47 : chkFunc Go.Proofs.Tryz.prog ro 47 ir47 = true := by kernel_rfl
theorem chk51 : chkFunc Go.Proofs.Tryz.prog ro 51 ir51 = true := by kernel_rfl
theorem chk55 : chkFunc Go.Proofs.Tryz.prog ro 55 ir55 = true := by kernel_rfl
theorem chk59 : chkFunc Go.Proofs.Tryz.prog ro 59 ir59 = true := by kernel_rfl
theorem chk63 : chkFunc Go.Proofs.Tryz.prog ro 63 ir63 = true := by kernel_rfl
theorem chk67 : chkFunc Go.Proofs.Tryz.prog ro 67 ir67 = true := by kernel_rfl
theorem chk72 : chkFunc Go.Proofs.Tryz.prog ro 72 ir72 = true := by kernel_rfl
theorem chk76 : chkFunc Go.Proofs.Tryz.prog ro 76 ir76 = true := by kernel_rfl
theorem chk80 : chkFunc Go.Proofs.Tryz.prog ro 80 ir80 = true := by kernel_rfl
theorem chk84 : chkFunc Go.Proofs.Tryz.prog ro 84 ir84 = true := by kernel_rfl
theorem chk88 : chkFunc Go.Proofs.Tryz.prog ro 88 ir88 = true := by kernel_rfl
theorem chk92 : chkFunc Go.Proofs.Tryz.prog ro 92 ir92 = true := by kernel_rfl
theorem chk96 : chkFunc Go.Proofs.Tryz.prog ro 96 ir96 = true := by kernel_rfl
theorem chk100 : chkFunc Go.Proofs.Tryz.prog ro 100 ir100 = true := by kernel_rfl
theorem chk104 : chkFunc Go.Proofs.Tryz.prog ro 104 ir104 = true := by kernel_rfl
theorem chk108 : chkFunc Go.Proofs.Tryz.prog ro 108 ir108 = true := by kernel_rfl
theorem chk112 : chkFunc Go.Proofs.Tryz.prog ro 112 ir112 = true := by kernel_rfl
theorem chk116 : chkFunc Go.Proofs.Tryz.prog ro 116 ir116 = true := by kernel_rfl
theorem chk123 : chkFunc Go.Proofs.Tryz.prog ro 123 ir123 = true := by kernel_rfl
theorem chk127 : chkFunc Go.Proofs.Tryz.prog ro 127 ir127 = true := by kernel_rfl
theorem chk131 : chkFunc Go.Proofs.Tryz.prog ro 131 ir131 = true := by kernel_rfl
theorem chk135 : chkFunc Go.Proofs.Tryz.prog ro 135 ir135 = true := by kernel_rfl
theorem chk139 : chkFunc Go.Proofs.Tryz.prog ro 139 ir139 = true := by kernel_rfl
theorem chk143 : chkFunc Go.Proofs.Tryz.prog ro 143 ir143 = true := by kernel_rfl
theorem chk147 : chkFunc Go.Proofs.Tryz.prog ro 147 ir147 = true := by kernel_rfl
theorem chk151 : chkFunc Go.Proofs.Tryz.prog ro 151 ir151 = true := by kernel_rfl
theorem chk155 : chkFunc Go.Proofs.Tryz.prog ro 155 ir155 = true := by kernel_rfl
theorem chk159 : chkFunc Go.Proofs.Tryz.prog ro 159 ir159 = true := by kernel_rfl
theorem chk165 : chkFunc Go.Proofs.Tryz.prog ro 165 ir165 = true := by kernel_rfl
theorem chk170 : chkFunc Go.Proofs.Tryz.prog ro 170 ir170 = true := by kernel_rfl
theorem chk174 : chkFunc Go.Proofs.Tryz.prog ro 174 ir174 = true := by kernel_rfl
theorem chk178 : chkFunc Go.Proofs.Tryz.prog ro 178 ir178 = true := by kernel_rfl
theorem chk182 : chkFunc Go.Proofs.Tryz.prog ro 182 ir182 = true := by kernel_rfl
theorem chk195 : chkFunc Go.Proofs.Tryz.prog ro 195 ir195 = true := by kernel_rfl
theorem chk200 : chkFunc Go.Proofs.Tryz.prog ro 200 ir200 = true := by kernel_rfl
theorem chk204 : chkFunc Go.Proofs.Tryz.prog ro 204 ir204 = true := by kernel_rfl
theorem chk100015 : chkFunc Go.Proofs.Tryz.prog ro 100015 ir100015 = true := by kernel_rfl
theorem chk100071 : chkFunc Go.Proofs.Tryz.prog ro 100071 ir100071 = true := by kernel_rfl
end Go.Lv.Tryz
