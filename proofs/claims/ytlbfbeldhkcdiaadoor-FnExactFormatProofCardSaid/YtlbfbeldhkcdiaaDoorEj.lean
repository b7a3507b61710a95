/- Where the library's functions lie in this translation: strings.Join, strconv.Itoa. Made by program. -/
import Derived.Test.YtlbfbeldhkcdiaaDoorChecked
import Derived.Shelf.Lays
import Derived.Shelf.Strings.OnBuilder
import Derived.KernelRfl
namespace Go.Proofs.YtlbfbeldhkcdiaaDoor
open Go.Shelf
def joinL_ren : Ren := ⟨fun | 156 => 43 | 165 => 66 | 166 => 67 | 169 => 68 | 240 => 87 | 241 => 88 | 276 => 103 | 277 => 104 | n => n, fun | 31 => 76 | 9 => 9 | 3 => 3 | 4 => 4 | 0 => 0 | 20 => 20 | 72 => 104 | 76 => 108 | 70 => 102 | 37 => 97 | 75 => 107 | 127 => 125 | 164 => 134 | 5 => 5 | 80 => 110 | n => n, fun n => n⟩
theorem joinL : Lays.n156 Tryd.prog joinL_ren := { mixed := by kernel_rfl, f156 := Eq.trans Tryd.func43 (congrArg some (by kernel_rfl)), f165 := Eq.trans Tryd.func66 (congrArg some (by kernel_rfl)), f166 := Eq.trans Tryd.func67 (congrArg some (by kernel_rfl)), f169 := Eq.trans Tryd.func68 (congrArg some (by kernel_rfl)), f240 := Eq.trans Tryd.func87 (congrArg some (by kernel_rfl)), f241 := Eq.trans Tryd.func88 (congrArg some (by kernel_rfl)), f276 := Eq.trans Tryd.func103 (congrArg some (by kernel_rfl)), f277 := Eq.trans Tryd.func104 (congrArg some (by kernel_rfl)), t0 := Tryd.underlying0, a0 := Tryd.isAgg0, z0 := Tryd.sizeOf0, v0 := Tryd.zeroValue0, t3 := Tryd.underlying3, a3 := Tryd.isAgg3, z3 := Tryd.sizeOf3, v3 := Tryd.zeroValue3, t4 := Tryd.underlying4, a4 := Tryd.isAgg4, z4 := Tryd.sizeOf4, v4 := Tryd.zeroValue4, t9 := Tryd.underlying9, a9 := Tryd.isAgg9, z9 := Tryd.sizeOf9, v9 := Tryd.zeroValue9, t20 := Tryd.underlying20, a20 := Tryd.isAgg20, z20 := Tryd.sizeOf20, v20 := Tryd.zeroValue20, t31 := Tryd.underlying76, a31 := Tryd.isAgg76, z31 := Tryd.sizeOf76, v31 := Tryd.zeroValue76, t37 := Tryd.underlying97, a37 := Tryd.isAgg97, z37 := Tryd.sizeOf97, v37 := Tryd.zeroValue97, t70 := Tryd.underlying102, a70 := Tryd.isAgg102, z70 := Tryd.sizeOf102, v70 := Tryd.zeroValue102, t72 := Tryd.underlying104, a72 := Tryd.isAgg104, z72 := Tryd.sizeOf104, v72 := Tryd.zeroValue104, t75 := Tryd.underlying107, a75 := Tryd.isAgg107, z75 := Tryd.sizeOf107, v75 := Tryd.zeroValue107, t76 := Tryd.underlying108, a76 := Tryd.isAgg108, z76 := Tryd.sizeOf108, v76 := Tryd.zeroValue108, t127 := Tryd.underlying125, a127 := Tryd.isAgg125, z127 := Tryd.sizeOf125, v127 := Tryd.zeroValue125, t164 := Tryd.underlying134, a164 := Tryd.isAgg134, z164 := Tryd.sizeOf134, v164 := Tryd.zeroValue134 }
theorem joinX : Builder.Extra Tryd.prog joinL_ren where
  sizeBuilder := by kernel_rfl
  liesBuilder := by kernel_rfl
  t5 := Tryd.underlying5
  a5 := Tryd.isAgg5
  z5 := Tryd.sizeOf5
  v5 := Tryd.zeroValue5
  infoByte := by kernel_rfl
  cellsByte := by kernel_rfl
  sizeByte := by kernel_rfl
  neB5 := by decide
end Go.Proofs.YtlbfbeldhkcdiaaDoor
