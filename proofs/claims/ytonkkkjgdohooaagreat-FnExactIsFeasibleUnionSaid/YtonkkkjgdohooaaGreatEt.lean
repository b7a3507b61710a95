import Derived.Test.YtonkkkjgdohooaaGreatEs
import Derived.Test.YtonkkkjgdohooaaGreatEp
namespace Go.Proofs.YtonkkkjgdohooaaGreat
set_option linter.unusedVariables false
def fuB (s : List Int) (l : List MT5) (M : List QT) (q : QT) : Bool := !okQuery s (q.1, partF l q.2) || !conIn s M (q.1, partF l q.2)
def fsuB (s : List Int) (l : List MT5) (u : List QT) : Bool := okMeths s l && (okUnion s u && !(mnuF s u).any (fuB s l (mnuF s u)))
section
variable {s : List Int} {l : List MT5} {u M : List QT} {q : QT} {g : Nat}
theorem okUnion_all (h : okUnion s u = true) : ∀ q ∈ u, okQuery s q = true := by
  simp only [okUnion, Bool.and_eq_true, Bool.not_eq_true', List.any_eq_false] at h
  intro q hq
  have := h.2 q hq
  simp only [badU, Bool.or_eq_true, Bool.not_eq_true', not_or] at this
  simpa using this.1
theorem tot_partF {al : List AT2} (h : ∀ a ∈ al, a.2.length ≤ 3) (hl : al.length ≤ 4) : totL (fun x => x.2.length) (partF l al) ≤ 1048576 := by
  have := tot_part (g := al.length) (ds := (grF (exF l) al).2.1) h hl
  rwa [List.take_length] at this
theorem mnu_ok (h : okUnion s u = true) : ∀ q ∈ mnuF s u, okQuery s q = true := fun q hq => okUnion_all h q (mnu_mem hq)
theorem fu1 (hm : okMeths s l = true) (hq : okQuery s q = true) (h : prtB s l q = false) : fuB s l M q = true := by
  rw [prtB, hm, hq] at h
  have h : okQuery s (q.1, partF l q.2) = false := h
  rw [fuB, h]; rfl
theorem fu2 (h : prtB s l q = true) (hc : conIn s M (prtH s l q, prtA s l q) = false) : fuB s l M q = true := by
  rw [prtH, prtA, h] at hc
  have hc : conIn s M (q.1, partF l q.2) = false := hc
  rw [fuB, hc, Bool.not_false, Bool.or_true]
theorem fu3 (h : prtB s l q = true) (hc : conIn s M (prtH s l q, prtA s l q) = true) : fuB s l M q = false := by
  have h0 := h
  rw [prtH, prtA, h] at hc
  have hc : conIn s M (q.1, partF l q.2) = true := hc
  simp only [prtB, Bool.and_eq_true] at h0
  rw [fuB, hc, h0.2]; rfl
theorem fs_no1 (h : okMeths s l = false) : false = fsuB s l u := by rw [fsuB, h]; rfl
theorem fs_no2 (h : okUnion s u = false) : false = fsuB s l u := by rw [fsuB, h]; simp
theorem fs_is (h1 : okMeths s l = true) (h2 : okUnion s u = true) : (!(mnuF s u).any (fuB s l (mnuF s u))) = fsuB s l u := by rw [fsuB, h1, h2]; rfl
theorem fs_hit (h1 : okMeths s l = true) (h2 : okUnion s u = true) (hg : g < (mnuF s u).length) (h : fuB s l (mnuF s u) (mnuF s u)[g] = true) : false = fsuB s l u := by
  rw [← fs_is h1 h2, List.any_eq_true.2 ⟨_, List.getElem_mem hg, h⟩]; rfl
theorem fs_end (h1 : okMeths s l = true) (h2 : okUnion s u = true) (hg : ¬ g < (mnuF s u).length) (h : ∀ q ∈ (mnuF s u).take g, fuB s l (mnuF s u) q = false) : true = fsuB s l u := by
  rw [List.take_of_length_le (by omega)] at h
  rw [← fs_is h1 h2, List.any_eq_false.2 (fun q hq => by rw [h q hq]; decide)]; rfl
end
end Go.Proofs.YtonkkkjgdohooaaGreat
