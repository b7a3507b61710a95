import Derived.Test.YtfnbilpemdgkkaaGreatDoorGt
import Derived.Test.YtfnbilpemdgkkaaGreatDoorBg
namespace Go.Proofs.YtfnbilpemdgkkaaGreatDoor
open Go.RowKit Go.ChangeShapes Go.WideShapes Go.ChangeAt
theorem J9.u8 {P : Program} {t : TypeId} (ht : P.underlying t = some (.int .u8)) : J9 P Enc.u8 t := fun h => by
 obtain ⟨n, rfl, _, hw⟩ := DataW.trod_int ht h
 have hr : 0 ≤ n ∧ n ≤ 255 := by simpa [Lit.wf, IntKind.min, IntKind.max, IntKind.signed, IntKind.bits] using hw
 refine ⟨UInt8.ofNat n.toNat, [], ?_, rfl⟩
 have : (UInt8.ofNat n.toNat).toNat = n.toNat := by rw [UInt8.toNat_ofNat']; omega
 rw [this, Int.toNat_of_nonneg hr.1]
theorem op_U8s : J9 Tryz.prog L7 22 := J9.sl us_U8s (by kernel_rfl) (J9.u8 (by kernel_rfl))
end Go.Proofs.YtfnbilpemdgkkaaGreatDoor
