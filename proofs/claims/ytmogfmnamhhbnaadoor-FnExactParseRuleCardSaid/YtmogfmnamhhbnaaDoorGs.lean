/- The world of a witness, for laws that come to tables and errors of the library; what a row's condition says of them. Made by program. -/
import Derived.Test.YtmogfmnamhhbnaaDoorBg
import Derived.Test.YtmogfmnamhhbnaaDoorCards
import Derived.Test.YtmogfmnamhhbnaaDoorTie
import Derived.Test.YtmogfmnamhhbnaaDoorGl
import Derived.Deep.DeepHandedRow
import Derived.Lib.LaidTab
import Derived.Shelf.Vars
import Derived.Stop.LaidErr
namespace Go.Proofs.YtmogfmnamhhbnaaDoor
def putTab (vs : Array Value) : Obj → Obj
  | .cells _ t fz => .cells vs t fz
  | o => o
def lit1 : DataW Unit → List Value
  | .lit (.int k z) => [.int k z]
  | _ => []
def lit2 : DataW Unit → List Value
  | .agg ps => ps.flatMap lit1
  | .lit (.int k z) => [.int k z]
  | _ => []
def litCells : DataW Unit → Array Value
  | .agg ps => (ps.flatMap lit2).toArray
  | _ => #[]
noncomputable def hold1 : Nat := (World.holding Tryd.prog default ⟨#[], #[], []⟩).heap.size
noncomputable def hold0 : World := World.holding Tryd.prog default ⟨#[.cells #[.string ⟨#[118, 97, 108, 117, 101, 32, 111, 117, 116, 32, 111, 102, 32, 114, 97, 110, 103, 101]⟩] 100, .cells #[.string ⟨#[105, 110, 118, 97, 108, 105, 100, 32, 115, 121, 110, 116, 97, 120]⟩] 100], #[], []⟩
noncomputable def tabWorld (os : Os) : World := { World.holding Tryd.prog os ⟨#[], #[], []⟩ with heap := (((((((hold0.heap.modify 6 (putTab (litCells Rows.laid_math_bits_deBruijn32tab))).modify 7 (putTab (litCells Rows.laid_math_bits_deBruijn64tab))).modify 5 (putTab (litCells Rows.laid_internal_strconv_uint64pow10))).modify 4 (putTab (litCells Rows.laid_unicode_utf8_acceptRanges))).modify 2 (putTab #[.iface 98 (.pointer (some ⟨hold1 + 0, 0, none⟩))])).modify 1 (putTab #[.iface 98 (.pointer (some ⟨hold1 + 1, 0, none⟩))])).modify 3 (putTab (litCells Rows.laid_unicode_utf8_first))) }
theorem star_es : "*" ++ "errors.errorString" = "*errors.errorString" := by decide
theorem row_es (u : TypeId) (h : Tryd.prog.typeName? 3 u = some "*errors.errorString") : u = 98 :=
  typeName_ptr_named (nm := "errors.errorString") (by rw [star_es]; kernel_rfl) (by kernel_rfl) (by decide) u (by rw [star_es]; exact h)
theorem roErr {n : String} {text : List UInt8} {r : List (String × DataW Unit)} {W : World} {g : Nat} (h : laidMet Tryd.prog ((n, .iface "*errors.errorString" (.ptr (.agg [.lit (.string text)]))) :: r) W) (hg : Tryd.prog.globalNamed n = some g) (ht : (Tryd.prog.globals[g]?).map (·.type) = some 50) :
    ∃ te pe, RoPt W [] g [.iface te pe] := by
  obtain ⟨a, s, hv, _⟩ := laid_sentinel h hg ht ne_ty row_es Tryd.underlying98 Tryd.underlying100 rfl rfl Tryd.underlying9 (by kernel_rfl) (by kernel_rfl)
  exact ⟨_, _, roVar hg hv⟩
theorem roMax {W : World} (h : W.ShapedOpen Tryd.prog) : ∃ m, RoPt W [] gMax [.int .i64 m] := by
  obtain ⟨m, hm⟩ := cell_of_shapedOpen_int (g := gMax) (t := tI) (zero := #[.int .i64 0]) (k := .i64) h (by decide +kernel) (by kernel_rfl) rfl (by kernel_rfl) (by kernel_rfl) (by kernel_rfl)
  obtain ⟨cs, hh, hs, _⟩ := h.1 gMax #[.int .i64 0] tI (by decide +kernel) (by kernel_rfl)
  refine ⟨m, ⟨tI, (0, 0), ?_⟩, by simp⟩
  have e : cs = #[.int .i64 m] := by
    have h1 : cs.size = 1 := hs
    have h2 : cs[0]? = some (.int .i64 m) := by simpa [World.cell?, hh] using hm
    apply Array.ext_getElem?
    intro i
    match i with
    | 0 => rw [h2]; rfl
    | i + 1 => rw [Array.getElem?_eq_none (by omega), Array.getElem?_eq_none (by simp)]
  rw [hh, e]
end Go.Proofs.YtmogfmnamhhbnaaDoor
