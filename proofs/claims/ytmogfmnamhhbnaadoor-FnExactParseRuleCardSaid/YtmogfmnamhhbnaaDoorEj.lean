/- Where the library's functions lie in this translation: strings.Join, strconv.Itoa. Made by program. -/
import Derived.Test.YtmogfmnamhhbnaaDoorChecked
import Derived.Shelf.Lays
import Derived.Shelf.Strings.OnBuilder
import Derived.KernelRfl
namespace Go.Proofs.YtmogfmnamhhbnaaDoor
open Go.Shelf
def joinL_ren : Ren := ⟨fun | 156 => 48 | 165 => 61 | 166 => 62 | 169 => 63 | 240 => 73 | 241 => 74 | 276 => 83 | 277 => 84 | n => n, fun | 31 => 33 | 9 => 9 | 3 => 3 | 4 => 4 | 0 => 0 | 20 => 20 | 72 => 75 | 76 => 51 | 70 => 73 | 37 => 56 | 75 => 50 | 127 => 88 | 164 => 106 | 5 => 5 | 80 => 77 | n => n, fun n => n⟩
theorem joinL : Lays.n156 Tryd.prog joinL_ren := { mixed := by kernel_rfl, f156 := Eq.trans Tryd.func48 (congrArg some (by kernel_rfl)), f165 := Eq.trans Tryd.func61 (congrArg some (by kernel_rfl)), f166 := Eq.trans Tryd.func62 (congrArg some (by kernel_rfl)), f169 := Eq.trans Tryd.func63 (congrArg some (by kernel_rfl)), f240 := Eq.trans Tryd.func73 (congrArg some (by kernel_rfl)), f241 := Eq.trans Tryd.func74 (congrArg some (by kernel_rfl)), f276 := Eq.trans Tryd.func83 (congrArg some (by kernel_rfl)), f277 := Eq.trans Tryd.func84 (congrArg some (by kernel_rfl)), t0 := Tryd.underlying0, a0 := Tryd.isAgg0, z0 := Tryd.sizeOf0, v0 := Tryd.zeroValue0, t3 := Tryd.underlying3, a3 := Tryd.isAgg3, z3 := Tryd.sizeOf3, v3 := Tryd.zeroValue3, t4 := Tryd.underlying4, a4 := Tryd.isAgg4, z4 := Tryd.sizeOf4, v4 := Tryd.zeroValue4, t9 := Tryd.underlying9, a9 := Tryd.isAgg9, z9 := Tryd.sizeOf9, v9 := Tryd.zeroValue9, t20 := Tryd.underlying20, a20 := Tryd.isAgg20, z20 := Tryd.sizeOf20, v20 := Tryd.zeroValue20, t31 := Tryd.underlying33, a31 := Tryd.isAgg33, z31 := Tryd.sizeOf33, v31 := Tryd.zeroValue33, t37 := Tryd.underlying56, a37 := Tryd.isAgg56, z37 := Tryd.sizeOf56, v37 := Tryd.zeroValue56, t70 := Tryd.underlying73, a70 := Tryd.isAgg73, z70 := Tryd.sizeOf73, v70 := Tryd.zeroValue73, t72 := Tryd.underlying75, a72 := Tryd.isAgg75, z72 := Tryd.sizeOf75, v72 := Tryd.zeroValue75, t75 := Tryd.underlying50, a75 := Tryd.isAgg50, z75 := Tryd.sizeOf50, v75 := Tryd.zeroValue50, t76 := Tryd.underlying51, a76 := Tryd.isAgg51, z76 := Tryd.sizeOf51, v76 := Tryd.zeroValue51, t127 := Tryd.underlying88, a127 := Tryd.isAgg88, z127 := Tryd.sizeOf88, v127 := Tryd.zeroValue88, t164 := Tryd.underlying106, a164 := Tryd.isAgg106, z164 := Tryd.sizeOf106, v164 := Tryd.zeroValue106 }
theorem joinX : Builder.Extra Tryd.prog joinL_ren where
  sizeBuilder := by kernel_rfl
  liesBuilder := by kernel_rfl
  t5 := Tryd.underlying5
  a5 := Tryd.isAgg5
  z5 := Tryd.sizeOf5
  v5 := Tryd.zeroValue5
  infoByte := by kernel_rfl
  cellsByte := by kernel_rfl
  sizeByte := by kernel_rfl
  neB5 := by decide
end Go.Proofs.YtmogfmnamhhbnaaDoor
