import Derived.Test.YtfnbilpemdgkkaaGreatDoorHa
import Derived.Test.YtfnbilpemdgkkaaGreatDoorEa
import Derived.Test.YtfnbilpemdgkkaaGreatDoorChecked
import Derived.Shelf.Lays
import Derived.Shelf.Lays2
import Derived.KernelRfl
import Derived.Shelf.Sort.Plain
import Derived.Shelf.Slices.CompactI
import Derived.Shelf.Slices.In.SortNone
import Derived.Test.YtfnbilpemdgkkaaGreatDoorT120
import Derived.Test.YtfnbilpemdgkkaaGreatDoorHp
import Derived.Test.YtfnbilpemdgkkaaGreatDoorT15
section
namespace Go.Proofs.YtfnbilpemdgkkaaGreatDoor
set_option linter.unusedVariables false
def sQ (H : List Int) (A : List (Int × List Int)) : Prop := A.length ≤ 4 ∧ (∀ a ∈ A, a.2.length ≤ 3) ∧ H.length ≤ 3
section
variable {T : Int → Prop} {H G tms : List Int} {A B : List (Int × List Int)} {k n : Nat} {i : Int} {s : List Int} {a : Int × List Int}
theorem b6h (h : dQ T 3 3 H A) : sQ H A := ⟨by have := h.1.2; omega, fun a ha => (h.2.1 a ha).1.2, h.2.2⟩
theorem b5q (h : dQ T 4 2 H A) : sQ H A := ⟨h.1.2, fun a ha => (h.2.1 a ha).1.2, by have := h.2.2; omega⟩
theorem b6Q (h : dQ kT 3 2 H A) (g : dQ kT 3 2 G B) {h0 : 0 < B.length} : sQ H (A ++ [B[0]]) := ⟨by have := h.1.2; simp; omega, fun a ha => by
  rcases List.mem_append.1 ha with ha | ha
  · exact (h.2.1 a ha).1.2
  · rw [List.mem_singleton] at ha; subst ha; exact (g.2.1 _ (List.getElem_mem h0)).1.2, by have := h.2.2; omega⟩
theorem b6u (h : dQ kT 3 2 H A) : sQ H (H0 A i) := ⟨by have := a9Z (l := A) (i := i); have := h.1.2; omega, fun a ha => (h.2.1 a (a5l ha)).1.2, by have := h.2.2; omega⟩
theorem b6B (h : sQ H A) : sQ [] A := ⟨h.1, h.2.1, by simp⟩
theorem b6L (h : sQ H A) : a8L (fun x => x.2.length) A ≤ 1048576 := by
  have h2 := a3n (c := fun x : Int × List Int => x.2.length) (n := 3) (l := A) h.2.1
  have := h.1
  unfold a8L; omega
theorem X5 {is : Int → Bool} : (y4 is A).Nodup := by
  have h1 : (y4 is A).Pairwise (· < ·) := (a0Z List.Pairwise.nil).1
  exact List.Pairwise.imp (fun {a b} h e => by omega) h1
theorem a2M {is : Int → Bool} (h : ∀ a ∈ A, dA T a) {t : Int} (ht : t ∈ y4 is A) : T t ∧ is t = true := by
  obtain ⟨h1, h2⟩ := S7.1 ht
  obtain ⟨a, ha, hta⟩ := List.mem_flatMap.1 h1
  exact ⟨(h a ha).2 t hta, h2⟩
theorem b6O (h : ∀ a ∈ A, dA dT a) (hq : z7 s (H, A) = true) : a1j A := by
  have h1 := a0J (X5 (is := fun t => inR t 0 9) (A := A)) (m := [0, 1, 2, 3, 9]) fun t ht => by
    obtain ⟨h1, h2⟩ := a2M h ht
    simp only [inR, decide_eq_true_eq] at h2
    unfold dT at h1
    simp only [List.mem_cons, List.not_mem_nil, or_false]; omega
  have h2 := a0J (X5 (is := fun t => inR t 10 17) (A := A)) (m := [10, 11, 12, 13, 17]) fun t ht => by
    obtain ⟨h1, h2⟩ := a2M h ht
    simp only [inR, decide_eq_true_eq] at h2
    unfold dT at h1
    simp only [List.mem_cons, List.not_mem_nil, or_false]; omega
  unfold a1j D9
  simp only [List.length_cons, List.length_nil] at h1 h2
  omega
theorem b6K (h : ∀ a ∈ A, dA rT a) : a1j A := by
  have h1 := a0J (X5 (is := fun t => inR t 0 9) (A := A)) (m := [0, 1, 2, 3]) fun t ht => by
    obtain ⟨h1, h2⟩ := a2M h ht
    simp only [inR, decide_eq_true_eq] at h2
    unfold rT at h1
    simp only [List.mem_cons, List.not_mem_nil, or_false]; omega
  have h2 := a0J (X5 (is := fun t => inR t 10 17) (A := A)) (m := [10, 11, 12, 13, 15]) fun t ht => by
    obtain ⟨h1, h2⟩ := a2M h ht
    simp only [inR, decide_eq_true_eq] at h2
    unfold rT at h1
    simp only [List.mem_cons, List.not_mem_nil, or_false]; omega
  unfold a1j D9
  simp only [List.length_cons, List.length_nil] at h1 h2
  omega
theorem b5u (h : dQ kT 3 2 H A) {h0 : 0 < A.length} {r : Int} : dQ rT 4 2 H (A ++ [(r, A[0].2.set 0 15)]) := by
  have h1 := h.mono b4A (Nat.le_refl _) (Nat.le_refl _)
  have h2 := h1.2.1 _ (List.getElem_mem h0)
  refine ⟨by have := h.1; simp; omega, fun a ha => ?_, h.2.2⟩
  rcases List.mem_append.1 ha with ha | ha
  · exact h1.2.1 a ha
  · rw [List.mem_singleton] at ha; subst ha
    exact ⟨by rw [List.length_set]; exact h2.1, a7Y h2.2 (by unfold rT; omega)⟩
theorem b3Z {a6 : List (Int × List Int)} {v : List Int} (h : sQ H A) (hf : a6.length ≤ 24) : (a8H (H3 A a6) H v).1.length ≤ 1000 ∧ (a8H (H3 A a6) H v).2.length ≤ 1000 := by
  have h1 := (b0U hf h.1 h.2.1).2
  unfold a8H
  cases e : (H3 A a6).find? (a6n H v) with
  | none => simp
  | some b =>
    have := h1 b (List.mem_of_find?_eq_some e)
    exact ⟨by simp only [Option.getD_some]; omega, by simp only [Option.getD_some]; omega⟩
end
end Go.Proofs.YtfnbilpemdgkkaaGreatDoor
end
section
namespace Go.Proofs.YtfnbilpemdgkkaaGreatDoor
open Go.RowKit
set_option linter.unusedVariables false
set_option linter.unusedSimpArgs false
def a2K (c6 : List Rul) (F : List Fct) : List Fct → List Value → List Value
  | [], _ => []
  | f :: M, cs => [.int .i64 (a2J c6 F f), .int .i64 0, .slice none 0 0] ++ (cs.take 2 ++ a2K c6 F M (cs.drop 2))
theorem a5t {c6 : List Rul} {F : List Fct} (hr : c6.length ≤ 4) {w : World} : ∀ {M : List Fct} {cs : List Value} {L : List Nat}, p9 w9 w cs M L true → p9 a8w w (a2K c6 F M cs) (M.map (lnR c6 F)) L true
  | [], _, _, h => ⟨rfl, h.2⟩
  | f :: M, _, _, ⟨c1, c2, L1, L2, h1, h2, h3, h4⟩ => by
    have hl : c1.length = 2 := w9.len h3
    have e1 : (c1 ++ c2).take 2 = c1 := by rw [← hl, List.take_left]
    have e2 : (c1 ++ c2).drop 2 = c2 := by rw [← hl, List.drop_left]
    subst h1; subst h2
    refine ⟨[.int .i64 (a2J c6 F f), .int .i64 0, .slice none 0 0] ++ c1, a2K c6 F M c2, L1, L2, by rw [a2K, e1, e2, List.append_assoc], rfl, ?_, a5t hr h4⟩
    exact ⟨[.int .i64 (a2J c6 F f)], [.int .i64 0, .slice none 0 0] ++ c1, [], L1, rfl, rfl, ⟨rfl, a9H hr, rfl⟩,
      [.int .i64 0, .slice none 0 0], c1, [], L1, rfl, rfl, ⟨[.int .i64 0], [.slice none 0 0], [], [], rfl, rfl, ⟨rfl, (show I64 0 from by unfold I64; omega), rfl⟩, (Own.nil (E := Enc.int) (e := tI) (a := none)) w [] rfl⟩, h3⟩
section
variable {n : Nat} {w0 w : World} {L0 Lp : List Nat} {fr : Fr} {H R pre rest : List HP} {G : Act → World → Prop} {a : Option Addr} {m c i : Nat} {cs oc mc : List Value} {xs M F : List Fct} {xs0 : List Lin} {c6 : List Rul}
theorem b5m (hr : c6.length ≤ 4) (hi : M.length ≤ i) (hm : m = xs0.length + M.length) (hl : m ≤ maxLen) (h : Ent n w0 L0 fr (ow a9r [.slice a m c] (xs0 ++ M.map (lnR c6 F)) :: R) G) :
    Ent n w0 L0 fr (row tLine 5 a m c (oc ++ a2K c6 F (M.take i) mc) :: els a8w oc xs0 :: els w9 mc M :: R) G := fun ac w h1 h2 => by
  rw [List.take_of_length_le hi] at h2
  obtain ⟨L, ⟨L1, Lq, rfl, g4, L2, Lq2, rfl, g2, L3, LR, rfl, g3, hR⟩, hn, hst⟩ := h2
  have e1 : L1 ++ (L2 ++ (L3 ++ LR)) = (L1 ++ (L2 ++ L3)) ++ LR := by simp
  rw [e1] at hn hst
  exact h ac w h1 ⟨(L1 ++ (L2 ++ L3)) ++ LR, ⟨L1 ++ (L2 ++ L3), LR, rfl, ⟨a, m, c, oc ++ a2K c6 F M mc, L1, L2 ++ L3, rfl, by simp [hm], hl, rfl, g2.app (a5t hr g3), g4⟩, hR⟩, hn, hst⟩
end
end Go.Proofs.YtfnbilpemdgkkaaGreatDoor
end
section
namespace Go.Proofs.YtfnbilpemdgkkaaGreatDoor
open Go.Shelf
def b5g : Ren := ⟨fun | 189 => 212 | 125 => 229 | 257 => 228 | 128 => 249 | 129 => 232 | 294 => 240 | 295 => 241 | 296 => 242 | 297 => 243 | 298 => 244 | 299 => 245 | 216 => 246 | 300 => 247 | 301 => 248 | 328 => 252 | 329 => 253 | 330 => 254 | 331 => 255 | 332 => 256 | 215 => 196 | 343 => 257 | n => n, fun | 28 => 24 | 3 => 3 | 46 => 174 | 0 => 0 | 51 => 223 | 53 => 207 | 4 => 4 | 183 => 238 | 182 => 237 | 131 => 123 | 5 => 5 | 9 => 9 | 218 => 245 | 222 => 249 | 228 => 253 | 229 => 254 | n => n, fun n => n⟩
def b5e : Ren := ⟨fun | 20 => 213 | n => n, fun | 22 => 24 | 3 => 3 | 4 => 4 | 0 => 0 | n => n, fun n => n⟩
end Go.Proofs.YtfnbilpemdgkkaaGreatDoor

namespace Go.Proofs.YtfnbilpemdgkkaaGreatDoor
open Go.RowKit Go.Sort Go.Shelf
set_option linter.unusedVariables false
end Go.Proofs.YtfnbilpemdgkkaaGreatDoor
end
section
namespace Go.Proofs.YtfnbilpemdgkkaaGreatDoor
open Go.RowKit
set_option linter.unusedVariables false
section
variable {P : Program} {n : Nat} {w0 : World} {L0 : List Nat} {fr : Fr} {H : List HP} {fn : Func} {κ : Type} {φ : κ → Prop} {ret : κ → Value} {post : κ → List HP} {wb : World} {Lb : List Nat}
theorem b7A (hb : G6 w0 L0 wb Lb) {e : Exit} {s t u b : Nat} {T T' : TypeId} {k' : Nat} {z : List Value} {by' : Nat} {cs : List Value} {v v' : Value} (hres : fn.results = #[.tmp s, .cell t T, .tmp u]) (hv0 : fr.lookup s = some v) (hv : fr.lookup t = some (.pointer (some ⟨b, 0, none⟩))) (hv' : fr.lookup u = some v') (hm : pt b T' cs ∈ H) (ht : TyOk P T true k' z by') (hl : cs.length = k')
    (k : κ) (hk : φ k) (hr : .tuple #[v, .agg cs.toArray, v'] = ret k) {J : List HP} (hH : H.Perm (post k ++ J)) (he : e = .ret ∨ e = .normal) : Ent n w0 L0 fr H (bodyPost P fn (Fin φ ret post wb Lb) e) :=
  O7 hb he k hk hr hH fun a w h1 h2 => by
    have h0 := h1.ev (x := .tmp s) hv0
    have h3 := h1.ev (x := .tmp t) hv
    have h5 := h1.ev (x := .tmp u) hv'
    simp only [Act.eval] at h0 h3 h5
    have h4 := ((Has.pt (w0 := w0) (L0 := L0) hm) w h2).run_load (P := P) (v := .agg cs.toArray) ht hl rfl (fun h => by cases h)
    simp only [Instr.loadAt, Instr.sureAddr, Sem.run_bind, Sem.run_pure, Result.andThen_ok] at h4
    rw [Array.getD_eq_getD_getElem?] at h0 h3 h5
    simp [results, hres, h0, h3, h5, asAddr, h4]
end
end Go.Proofs.YtfnbilpemdgkkaaGreatDoor
end
section
namespace Go.Proofs.YtfnbilpemdgkkaaGreatDoor
set_option linter.unusedVariables false
set_option linter.unusedSimpArgs false
def b4f : List Int → Nat
  | [] => 0
  | v :: l => v.toNat + 10 * b4f l
section
variable {s : List Int} {a6 v7 : List (Int × List Int)} {a : Int × List Int} {l : List (List Int × List Int)} {b : List Int × List Int} {g h n : Nat}
abbrev Few (a : Int × List Int) (a6 : List (Int × List Int)) : Prop := ∀ b, (a7j b a a6).length ≤ 1000
end
end Go.Proofs.YtfnbilpemdgkkaaGreatDoor
end
section
namespace Go.Proofs.YtfnbilpemdgkkaaGreatDoor
open Go.RowKit
set_option linter.unusedVariables false
end Go.Proofs.YtfnbilpemdgkkaaGreatDoor
end
section
namespace Go.Proofs.YtfnbilpemdgkkaaGreatDoor
open Go.RowKit
set_option linter.unusedVariables false
end Go.Proofs.YtfnbilpemdgkkaaGreatDoor
end
section
namespace Go.Proofs.YtfnbilpemdgkkaaGreatDoor
open Go.RowKit
set_option linter.all false
set_option maxHeartbeats 2000000
attribute [local irreducible] Nop Yd Yp Ent Has Tr FnP FnP2 Src J1 P8 U7 W9 E0
theorem a8n {a_code : Option Addr} {m_code c_code : Nat} {code : List UInt8} : Tr Tryz.prog 5 [.slice a_code m_code c_code] (fun w L => Ro w L L7 [.slice a_code m_code c_code] code) [] (κ := Unit) (fun k => True) (fun k => .bool (decide (1048576 < (code.length : Int)))) (fun k => []) := by
 refine f8 Tryz.func5 rfl (n := 6) rfl (by decide +kernel) bl (fr := [(0, .slice a_code m_code c_code)]) rfl fun w L hR => ?_
 have hcode := hR
 obtain ⟨rfl, lcode⟩ := hcode.slen
 refine Ew Z1 (Ei rfl (Ev Z4 (Em rfl (Ey rfl ((Y.len us_U8s rfl).yd) (Ey rfl ((Y.gtr rfl rfl).yd) (Ei rfl ?_))))))
 exact Eu (E.ret (Fb rfl rfl (by simp_all)))
end Go.Proofs.YtfnbilpemdgkkaaGreatDoor
end
