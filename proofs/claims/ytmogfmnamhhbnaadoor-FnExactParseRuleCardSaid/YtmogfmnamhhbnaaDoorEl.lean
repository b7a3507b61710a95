/- strconv.Itoa at every number, where the table of powers stands. -/
import Derived.Test.YtmogfmnamhhbnaaDoorEm
import Derived.Test.YtmogfmnamhhbnaaDoorEh
import Derived.Lib.LaidTab
import Derived.Stop.LaidErr
namespace Go.Proofs.YtmogfmnamhhbnaaDoor
open Go.RowKit Go.Shelf
set_option linter.unusedVariables false
abbrev powC : List Value := Lib.pow10Tab.map fun z => Value.int .u64 z
abbrev gPow : Nat := 5
theorem gPowIs : Tryd.prog.globalNamed "internal/strconv.uint64pow10" = some gPow := by kernel_rfl
theorem tabIs {w : World} {L : List Nat} (h : RoPt w L gPow powC) : Lib.TabIs Tryd.prog w "internal/strconv.uint64pow10" .u64 Lib.pow10Tab := by
  obtain ⟨T, fz, g⟩ := h.at'
  unfold Lib.TabIs World.var?
  rw [gPowIs, Option.bind_some, g]
theorem roTab {w : World} (h : Lib.TabIs Tryd.prog w "internal/strconv.uint64pow10" .u64 Lib.pow10Tab) : RoPt w [] gPow powC := by
  unfold Lib.TabIs World.var? at h
  rw [gPowIs, Option.bind_some] at h
  split at h
  · rename_i cs T fz hg
    have := Option.some.inj h
    subst this
    exact ⟨⟨T, fz, hg⟩, by simp⟩
  · cases h
theorem tr_itoaG {i : Int} : Tr Tryd.prog 43 [.int .i64 i] (fun w L => I64 i ∧ RoPt w L gPow powC) [] (κ := Unit) (fun _ => True) (fun _ => strV (textI i)) (fun _ => []) := by
  refine Tr.ofExt ⟨_, itoaL.f171, rfl, by decide +kernel⟩ fun w L h => ?_
  refine (Any.strconv_Itoa itoaL i h.1.1 h.1.2 w (tabIs h.2)).mono ?_
  rintro e w' ⟨rfl, k, os, rfl⟩
  refine ⟨by rw [textI_itoa h.1], rfl, rfl, rfl, by simp [Go.Sort.grow, World.drewN], fun j hj => ?_⟩
  simp only [Go.Sort.grow, World.drewN]
  exact Array.getElem?_append_left hj
end Go.Proofs.YtmogfmnamhhbnaaDoor
