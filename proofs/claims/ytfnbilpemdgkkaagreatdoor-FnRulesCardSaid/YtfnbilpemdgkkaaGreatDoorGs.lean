import Derived.Test.YtfnbilpemdgkkaaGreatDoorBg
import Derived.Test.YtfnbilpemdgkkaaGreatDoorCards
import Derived.Test.YtfnbilpemdgkkaaGreatDoorTie
import Derived.Test.YtfnbilpemdgkkaaGreatDoorGl
import Derived.Deep.DeepHandedRow
import Derived.Lib.LaidTab
import Derived.Shelf.Vars
import Derived.Stop.LaidErr
namespace Go.Proofs.YtfnbilpemdgkkaaGreatDoor
def a0A (vs : Array Value) : Obj → Obj
 | .cells _ t fz => .cells vs t fz
 | o => o
def b5t : DataW Unit → List Value
 | .lit (.int k z) => [.int k z]
 | _ => []
def b6a : DataW Unit → List Value
 | .agg ps => ps.flatMap b5t
 | .lit (.int k z) => [.int k z]
 | _ => []
def a0x : DataW Unit → Array Value
 | .agg ps => (ps.flatMap b6a).toArray
 | _ => #[]
noncomputable def hold1 : Nat := (World.holding Tryz.prog default ⟨#[], #[], []⟩).heap.size
noncomputable def hold0 : World := World.holding Tryz.prog default ⟨#[.cells #[.string ⟨#[118, 97, 108, 117, 101, 32, 111, 117, 116, 32, 111, 102, 32, 114, 97, 110, 103, 101]⟩] 235, .cells #[.string ⟨#[105, 110, 118, 97, 108, 105, 100, 32, 115, 121, 110, 116, 97, 120]⟩] 235], #[], []⟩
noncomputable def tabWorld (os : Os) : World := { World.holding Tryz.prog os ⟨#[], #[], []⟩ with heap := (((((((hold0.heap.modify 6 (a0A (a0x Rows.laid_math_bits_deBruijn32tab))).modify 7 (a0A (a0x Rows.laid_math_bits_deBruijn64tab))).modify 3 (a0A (a0x Rows.laid_internal_strconv_uint64pow10))).modify 5 (a0A (a0x Rows.laid_unicode_utf8_acceptRanges))).modify 2 (a0A #[.iface 233 (.pointer (some ⟨hold1 + 0, 0, none⟩))])).modify 1 (a0A #[.iface 233 (.pointer (some ⟨hold1 + 1, 0, none⟩))])).modify 4 (a0A (a0x Rows.laid_unicode_utf8_first))) }
theorem a8d : "*" ++ "errors.errorString" = "*errors.errorString" := by decide
theorem b3t (u : TypeId) (h : Tryz.prog.typeName? 3 u = some "*errors.errorString") : u = 233 :=
 typeName_ptr_named (nm := "errors.errorString") (by rw [a8d]; kernel_rfl) (by kernel_rfl) (by decide) u (by rw [a8d]; exact h)
theorem b1Q {n : String} {text : List UInt8} {r : List (String × DataW Unit)} {W : World} {g : Nat} (h : laidMet Tryz.prog ((n, .iface "*errors.errorString" (.ptr (.agg [.lit (.string text)]))) :: r) W) (hg : Tryz.prog.globalNamed n = some g) (ht : (Tryz.prog.globals[g]?).map (·.type) = some 144) :
  ∃ te pe, RoPt W [] g [.iface te pe] := by
 obtain ⟨a, s, hv, _⟩ := laid_sentinel h hg ht b4M b3t Tryz.underlying233 Tryz.underlying235 rfl rfl Tryz.underlying9 (by kernel_rfl) (by kernel_rfl)
 exact ⟨_, _, b4x hg hv⟩
theorem b4L {W : World} (h : W.ShapedOpen Tryz.prog) : ∃ m, RoPt W [] a4S [.int .i64 m] := by
 obtain ⟨m, hm⟩ := cell_of_shapedOpen_int (g := a4S) (t := tI) (zero := #[.int .i64 0]) (k := .i64) h (by decide +kernel) (by kernel_rfl) rfl (by kernel_rfl) (by kernel_rfl) (by kernel_rfl)
 obtain ⟨cs, hh, hs, _⟩ := h.1 a4S #[.int .i64 0] tI (by decide +kernel) (by kernel_rfl)
 refine ⟨m, ⟨tI, (0, 0), ?_⟩, by simp⟩
 have e : cs = #[.int .i64 m] := by
  have h1 : cs.size = 1 := hs
  have h2 : cs[0]? = some (.int .i64 m) := by simpa [World.cell?, hh] using hm
  apply Array.ext_getElem?
  intro i
  match i with
  | 0 => rw [h2]; rfl
  | i + 1 => rw [Array.getElem?_eq_none (by omega), Array.getElem?_eq_none (by simp)]
 rw [hh, e]
end Go.Proofs.YtfnbilpemdgkkaaGreatDoor
