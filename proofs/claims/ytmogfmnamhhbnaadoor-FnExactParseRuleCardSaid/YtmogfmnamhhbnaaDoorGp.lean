/- Plain: what the walks of the reading of a rule need. No program in sight. -/
import Derived.Test.YtmogfmnamhhbnaaDoorGk
import Derived.Lib.LaidTab
namespace Go.Proofs.YtmogfmnamhhbnaaDoor
set_option linter.unusedVariables false
set_option linter.unusedSimpArgs false
section
variable {s t : Str} {n : Int} {g k : Nat} {l : List Str} {b : UInt8} {sc : List Int}
theorem u8_eq {a b : UInt8} : (↑a.toNat : Int) = ↑b.toNat ↔ a = b := by
  rw [Int.natCast_inj]
  exact ⟨UInt8.toNat_inj.1, fun e => by rw [e]⟩
theorem cutG_yes (h : g < s.length) (e : (↑s[g].toNat : Int) = ↑b.toNat) : cutG b s (g + 1) = ((cutG b s g).1 ++ [(cutG b s g).2], []) := cutG_at h (u8_eq.1 e)
theorem cutG_no (h : g < s.length) (e : ¬ (↑s[g].toNat : Int) = ↑b.toNat) : cutG b s (g + 1) = ((cutG b s g).1, (cutG b s g).2 ++ [s[g]]) := cutG_off h fun x => e (u8_eq.2 x)
theorem pN_neg (h : 0 < s.length) (e : (↑s[0].toNat : Int) = 45) : pN s = -(pV s).1 := by
  match s, h with
  | c :: r, _ =>
    have : c = 45 := (u8_eq (b := 45)).1 e
    rw [pN, if_pos (by simp [this])]
theorem pN_pos (h : 0 < s.length → ¬ (∃ z : UInt8, s.head? = some z ∧ (↑z.toNat : Int) = 45)) : pN s = (pV s).1 := by
  match s with
  | [] => rfl
  | c :: r =>
    rw [pN, if_neg (fun e => h (by simp) ⟨45, e, rfl⟩)]
theorem head0 (h : 0 < s.length) : s.head? = some s[0] := by
  match s, h with
  | c :: r, _ => rfl
theorem pN_pos1 (h : ¬ 0 < s.length) : pN s = (pV s).1 := pN_pos fun x => absurd x h
theorem pN_pos2 (h : 0 < s.length) (e : ¬ (↑s[0].toNat : Int) = 45) : pN s = (pV s).1 := pN_pos fun _ ⟨z, h1, h2⟩ => by
  rw [head0 h] at h1; cases h1; exact e h2
theorem pI_bad (h : 9 < (↑(pV s).2 : Int) ∨ 10 < (↑s.length : Int) ∨ textI (pN s) ≠ s) : pI s = none := by
  rw [pI, if_pos (by rcases h with h | h | h; (exact .inl (by omega)); (exact .inr (.inl (by omega))); (exact .inr (.inr h)))]
theorem pI_good (h1 : ¬ 9 < (↑(pV s).2 : Int)) (h2 : ¬ 10 < (↑s.length : Int)) (h3 : ¬ textI (pN s) ≠ s) : pI s = some (pN s) := by
  rw [pI, if_neg (by rintro (h | h | h); (omega); (omega); (exact h3 h))]
theorem num0_bd : -999999999 ≤ num0 s ∧ num0 s ≤ 999999999 := by
  unfold num0
  cases e : pI s with
  | none => simp
  | some n => have := pI_le e; simp; omega
theorem numS_bd : -999999999 ≤ numS s ∧ numS s ≤ 999999999 := by
  unfold numS
  cases e : pI s with
  | none => simp
  | some n => have := pI_le e; simp; omega
theorem relS_bd : -999999999 ≤ relS s ∧ relS s ≤ 999999999 := by
  unfold relS; split
  · omega
  · exact numS_bd
theorem numS_no (h : (pI s).isSome = false) : numS s = -100000 := by
  unfold numS
  cases e : pI s with
  | none => rfl
  | some n => rw [e] at h; cases h
theorem numS_yes (h : (pI s).isSome = true) : num0 s = numS s := by
  unfold numS num0
  cases e : pI s with
  | none => rw [e] at h; cases h
  | some n => rfl
theorem relS_no1 (h : (↑s.length : Int) < 2) : relS s = -1 := by rw [relS, if_pos (.inl (by omega))]
theorem relS_no2 (h : 0 < s.length) (e : (↑s[0].toNat : Int) ≠ 114) : relS s = -1 := by
  rw [relS, if_pos (.inr (by rw [head0 h]; intro x; exact e (by rw [Option.some.inj x]; rfl)))]
theorem relS_yes (h : ¬ (↑s.length : Int) < 2) (e : ¬ (↑(s[0]'(by omega)).toNat : Int) ≠ 114) : relS s = numS (s.drop 1) := by
  have h0 : 0 < s.length := by omega
  have e2 : s[0] = 114 := (u8_eq (b := 114)).1 (Decidable.not_not.1 e)
  rw [relS, if_neg (by rw [head0 h0, e2]; simp; omega)]
/-! ### a list of numbers -/
theorem rd_go (hg : g < l.length) (h : ((l.take g).mapM pI).isSome = true) (h1 : (pI l[g]).isSome = true) : ((l.take (g + 1)).mapM pI).isSome = true ∧ intsP (l.take (g + 1)) = intsP (l.take g) ++ [num0 l[g]] := by
  obtain ⟨o, ho⟩ := Option.isSome_iff_exists.1 h
  obtain ⟨n, hn⟩ := Option.isSome_iff_exists.1 h1
  have := rd_step hg ho hn
  rw [intsP, this, intsP, ho, num0, hn]
  exact ⟨rfl, rfl⟩
theorem rd_bad (hg : g < l.length) (h1 : (pI l[g]).isSome = false) : l.mapM pI = none := rd_no hg (by
  cases e : pI l[g] with
  | none => rfl
  | some n => rw [e] at h1; cases h1)
theorem rd_all (hg : ¬ g < l.length) : l.take g = l := List.take_of_length_le (by omega)
theorem intsP_len : ∀ {l : List Str}, (intsP l).length ≤ l.length := by
  intro l
  unfold intsP
  cases e : l.mapM pI with
  | none => simp
  | some o => have := Lib.mapM_length e; simp; omega
theorem rd_all2 (hg : ¬ g < l.length) (h : ((l.take g).mapM pI).isSome = true) : (l.mapM pI).isSome = true := by rw [rd_all hg] at h; exact h
theorem piece_len (h : t.length ≤ 1048576) {i : Nat} (hi : i < (cut b t).length) : (cut b t)[i].length ≤ 1048576 := Nat.le_trans (cut_mem _ (List.getElem_mem _)) h
/-! ### the rule -/
theorem wd_at {i : Nat} (h : i < (cut 32 t).length) : (cut 32 t)[i] = wd t i := by
  rw [wd, List.getD_eq_getElem?_getD, List.getElem?_eq_getElem h]; rfl
theorem parse_len (h : (cut 32 t).length ≠ 4) : parseR sc t = ((0, 0, []), false) := by
  rw [parseR, if_neg (fun x => h x.1)]
theorem parseS_no (h : okRule sc (rS t) = false ∨ textR (rS t) ≠ t) : parseR sc t = ((0, 0, []), false) := by
  rw [parseR, if_neg fun x => by
    rcases h with h | h
    · rw [h] at x; exact absurd x.2.1 (by decide)
    · exact h x.2.2]
theorem parseS_yes (h4 : (↑(cut 32 t).length : Int) = 4) (h1 : okRule sc (rS t) = true) (h2 : textR (rS t) = t) : parseR sc t = (rS t, true) := by
  rw [parseR, if_pos ⟨by omega, h1, h2⟩]
theorem parseI_no (h : okRule sc (rI t) = false ∨ textR (rI t) ≠ t) : parseR sc t = ((0, 0, []), false) := by
  rw [parseR_I, if_neg fun x => by
    rcases h with h | h
    · rw [h] at x; exact absurd x.2.1 (by decide)
    · exact h x.2.2]
theorem parseI_yes (h4 : (↑(cut 32 t).length : Int) = 4) (h1 : okRule sc (rI t) = true) (h2 : textR (rI t) = t) : parseR sc t = (rI t, true) := by
  rw [parseR_I, if_pos ⟨by omega, h1, h2⟩]
theorem rI_at (h : (cut 32 t).length = 4) : (num0 (Lib.trimPrefix (cut 32 t)[0] [114]), num0 (Lib.trimPrefix (cut 32 t)[2] [114]), intsP (cut 44 (cut 32 t)[3])) = rI t := by
  rw [rI, relI, relI, wd_at, wd_at, wd_at]
theorem rS_at (h : (cut 32 t).length = 4) : (relS (cut 32 t)[0], relS (cut 32 t)[2], (cut 44 (cut 32 t)[3]).map numS) = rS t := by
  rw [rS, wd_at, wd_at, wd_at]
theorem rS_take (h : (↑(cut 32 t).length : Int) = 4) (hg : ¬ (↑g : Int) < ↑(cut 44 (cut 32 t)[3]).length) : (relS (cut 32 t)[0], relS (cut 32 t)[2], ((cut 44 (cut 32 t)[3]).take g).map numS) = rS t := by
  rw [List.take_of_length_le (by omega)]; exact rS_at (by omega)
theorem trim_len {p : Str} : (Lib.trimPrefix s p).length ≤ s.length := by
  unfold Lib.trimPrefix; split <;> simp
end
end Go.Proofs.YtmogfmnamhhbnaaDoor
