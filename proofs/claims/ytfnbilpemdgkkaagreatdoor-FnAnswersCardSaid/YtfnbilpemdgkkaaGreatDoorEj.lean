import Derived.Test.YtfnbilpemdgkkaaGreatDoorChecked
import Derived.Shelf.Lays
import Derived.Shelf.Strings.OnBuilder
import Derived.KernelRfl
namespace Go.Proofs.YtfnbilpemdgkkaaGreatDoor
open Go.Shelf
def a3I : Ren := ⟨fun | 156 => 62 | 165 => 129 | 166 => 130 | 169 => 131 | 240 => 170 | 241 => 171 | 276 => 197 | 277 => 198 | n => n, fun | 31 => 91 | 9 => 9 | 3 => 3 | 4 => 4 | 0 => 0 | 20 => 20 | 72 => 141 | 76 => 145 | 70 => 139 | 37 => 22 | 75 => 144 | 127 => 173 | 164 => 189 | 5 => 5 | 80 => 147 | n => n, fun n => n⟩
theorem joinL : Lays.n156 Tryz.prog a3I := { mixed := by kernel_rfl, f156 := Eq.trans Tryz.func62 (congrArg some (by kernel_rfl)), f165 := Eq.trans Tryz.func129 (congrArg some (by kernel_rfl)), f166 := Eq.trans Tryz.func130 (congrArg some (by kernel_rfl)), f169 := Eq.trans Tryz.func131 (congrArg some (by kernel_rfl)), f240 := Eq.trans Tryz.func170 (congrArg some (by kernel_rfl)), f241 := Eq.trans Tryz.func171 (congrArg some (by kernel_rfl)), f276 := Eq.trans Tryz.func197 (congrArg some (by kernel_rfl)), f277 := Eq.trans Tryz.func198 (congrArg some (by kernel_rfl)), t0 := Tryz.underlying0, a0 := Tryz.isAgg0, z0 := Tryz.sizeOf0, v0 := Tryz.zeroValue0, t3 := Tryz.underlying3, a3 := Tryz.isAgg3, z3 := Tryz.sizeOf3, v3 := Tryz.zeroValue3, t4 := Tryz.underlying4, a4 := Tryz.isAgg4, z4 := Tryz.sizeOf4, v4 := Tryz.zeroValue4, t9 := Tryz.underlying9, a9 := Tryz.isAgg9, z9 := Tryz.sizeOf9, v9 := Tryz.zeroValue9, t20 := Tryz.underlying20, a20 := Tryz.isAgg20, z20 := Tryz.sizeOf20, v20 := Tryz.zeroValue20, t31 := Tryz.underlying91, a31 := Tryz.isAgg91, z31 := Tryz.sizeOf91, v31 := Tryz.zeroValue91, t37 := Tryz.underlying22, a37 := Tryz.isAgg22, z37 := Tryz.sizeOf22, v37 := Tryz.zeroValue22, t70 := Tryz.underlying139, a70 := Tryz.isAgg139, z70 := Tryz.sizeOf139, v70 := Tryz.zeroValue139, t72 := Tryz.underlying141, a72 := Tryz.isAgg141, z72 := Tryz.sizeOf141, v72 := Tryz.zeroValue141, t75 := Tryz.underlying144, a75 := Tryz.isAgg144, z75 := Tryz.sizeOf144, v75 := Tryz.zeroValue144, t76 := Tryz.underlying145, a76 := Tryz.isAgg145, z76 := Tryz.sizeOf145, v76 := Tryz.zeroValue145, t127 := Tryz.underlying173, a127 := Tryz.isAgg173, z127 := Tryz.sizeOf173, v127 := Tryz.zeroValue173, t164 := Tryz.underlying189, a164 := Tryz.isAgg189, z164 := Tryz.sizeOf189, v164 := Tryz.zeroValue189 }
theorem a8B : Builder.Extra Tryz.prog a3I where
 sizeBuilder := by kernel_rfl
 liesBuilder := by kernel_rfl
 t5 := Tryz.underlying5
 a5 := Tryz.isAgg5
 z5 := Tryz.sizeOf5
 v5 := Tryz.zeroValue5
 infoByte := by kernel_rfl
 cellsByte := by kernel_rfl
 sizeByte := by kernel_rfl
 neB5 := by decide
end Go.Proofs.YtfnbilpemdgkkaaGreatDoor
