import Derived.Lib.Join
import Derived.Lib.ItoaNum
import Derived.Test.YtlfhopooaejpfaaGreatHg
import Derived.Test.YtlfhopooaejpfaaGreatT19
section
namespace Go.Proofs.YtlfhopooaejpfaaGreat
set_option linter.unusedVariables false
set_option linter.unusedSimpArgs false
abbrev Str := List UInt8
def dig (n : Int) : Str := [UInt8.ofNat (48 + n.toNat)]
def itS (p : Int × Str) : Int × Str := if p.1 = 0 then p else (p.1.tdiv 10, UInt8.ofNat (48 + (p.1.tmod 10).natAbs) :: p.2)
def itN (n : Int) : Nat → Int × Str
  | 0 => (n, [])
  | g + 1 => itS (itN n g)
def b9s (n : Int) : Str := if n = 0 then [48] else if n < 0 then 45 :: (itN n 20).2 else (itN n 20).2
section
variable {n : Int} {g : Nat}
theorem c0m : ∀ {g : Nat}, (itN n g).2.length ≤ g
  | 0 => by simp [itN]
  | g + 1 => by
    have h := c0m (g := g)
    simp only [itN, itS]
    split
    · omega
    · simpa using h
theorem c0r : (b9s n).length ≤ 21 := by
  have := c0m (n := n) (g := 20)
  unfold b9s
  split
  · simp
  · split
    · simp; omega
    · omega
end
-- joining
section
variable {α : Type} {xs : List Str} {x sep : Str} {K g : Nat} {l : List α} {f : α → Str}
theorem c0f : ∀ {xs : List Str}, Lib.join (xs ++ [x]) sep = if xs.length = 0 then x else Lib.join xs sep ++ sep ++ x
  | [] => by simp [Lib.join_one]
  | y :: r => by simp [Lib.join_cons, Lib.joinTail]
theorem c0n (h : g < l.length) (h0 : ¬ 0 < g) : Lib.join ((l.take g).map f) sep ++ f l[g] = Lib.join ((l.take (g + 1)).map f) sep := by
  have : g = 0 := by omega
  subst this
  rw [List.take_succ_eq_append_getElem h, List.map_append, List.map_singleton, c0f]; simp [Lib.join_nil]
theorem c0o (h : g < l.length) (h0 : 0 < g) : (Lib.join ((l.take g).map f) sep ++ sep) ++ f l[g] = Lib.join ((l.take (g + 1)).map f) sep := by
  rw [List.take_succ_eq_append_getElem h, List.map_append, List.map_singleton, c0f, if_neg (by rw [List.length_map, List.length_take]; omega)]
theorem c0k : ∀ {xs : List Str}, (∀ x ∈ xs, x.length ≤ K) → (Lib.join xs sep).length ≤ xs.length * (K + sep.length)
  | [], _ => by simp [Lib.join_nil]
  | x :: r, h => by
    have h1 : ∀ {r : List Str}, (∀ x ∈ r, x.length ≤ K) → (Lib.joinTail sep r).length ≤ r.length * (K + sep.length) := by
      intro r
      induction r with
      | nil => simp [Lib.joinTail]
      | cons y r ih =>
        intro hr
        have h2 := ih fun z hz => hr z (by simp [hz])
        have h3 := hr y (by simp)
        simp only [Lib.joinTail, List.map_cons, List.flatten_cons, List.length_append, List.length_cons, Nat.succ_mul] at h2 ⊢
        omega
    have h4 := h1 (r := r) fun z hz => h z (by simp [hz])
    have h5 := h x (by simp)
    rw [Lib.join_cons, List.length_append, List.length_cons, Nat.succ_mul]; omega
theorem c0j {n : Nat} (hf : ∀ x, (f x).length ≤ K) (hn : l.length ≤ n) : (Lib.join (l.map f) sep).length ≤ n * (K + sep.length) := by
  have h1 := c0k (K := K) (sep := sep) (xs := l.map f) (fun x hx => by obtain ⟨y, _, rfl⟩ := List.mem_map.1 hx; exact hf y)
  rw [List.length_map] at h1
  exact Nat.le_trans h1 (Nat.mul_le_mul_right _ hn)
end
-- terms, atoms, queries
def c0s (t : Int) : Str := if inR t 10 17 then [120] ++ b9s (t - 10) else b9s t
def c0h (a : Int × List Int) : Str := if inR a.1 0 2 && (inR (a.2.length : Int) 1 3 && !a.2.any fun t => !O8 t) then [114] ++ b9s a.1 ++ [40] ++ Lib.join (a.2.map c0s) [44] ++ [41] else []
def c0q (s : Str) : Bool := decide (s = [])
def nT {α : Type} (f : α → Str) (l : List α) : Bool := (l.map f).any c0q
def c0v (h : List Int) : Str := if 0 < h.length then Lib.join (h.map c0s) [44] else [121, 101, 115]
def c0g (q : List Int × List (Int × List Int)) : Str :=
  if inR (q.2.length : Int) 1 4 && (!nT c0h q.2 && a0r q) then c0v q.1 ++ [32, 105, 102, 32] ++ Lib.join (q.2.map c0h) [32, 97, 110, 100, 32] else []
def c0F (u : List (List Int × List (Int × List Int))) : Str := if nT c0g u then [] else Lib.join (u.map c0g) [32, 111, 114, 32]
def unl : Str := [32, 117, 110, 108, 101, 115, 115, 32]
def c0y (s : Str) (l : List (Int × List Int)) : Str := l.foldl (fun s a => s ++ unl ++ c0h a) s
def c0J (g : (List Int × List (Int × List Int)) × List (Int × List Int)) : Str := if c0q (c0g g.1) || nT c0h g.2 then [] else c0y (c0g g.1) g.2
def c0H (r : Int × Int × List Int) : Str :=
  if inR r.1 0 2 && (inR r.2.1 0 2 && (inR (r.2.2.length : Int) 1 3 && T9 r.2.2 3)) then [114] ++ b9s r.1 ++ [32, 103, 105, 118, 101, 115, 32, 114] ++ b9s r.2.1 ++ [32] ++ Lib.join (r.2.2.map b9s) [44] else []
section
variable {α : Type} {f : α → Str} {l : List α} {i : Nat}
end
section
variable {l : List Int} {i : Nat}
end
section
variable {h : List Int} {a : List (Int × List Int)} {i : Nat}
abbrev c0K (a : List (Int × List Int)) : Int → Bool := fun t => !G7 (B7 (fun t => inR t 10 17) a) t
end
section
variable {q : List Int × List (Int × List Int)}
end
section
variable {u : List (List Int × List (Int × List Int))} {g : (List Int × List (Int × List Int)) × List (Int × List Int)} {s : Str} {l : List (Int × List Int)} {r : Nat}
end
-- every number
-- lines and proofs
def c0u (f : Int × List Int) : Str := if inR f.1 0 2 && (inR (f.2.length : Int) 1 3 && O7 f.2) then [114] ++ b9s f.1 ++ [40] ++ Lib.join (f.2.map b9s) [44] ++ [41] else []
def c0w (a : Int × List Int) : Str := if inR a.1 0 4 && (!decide ((3 : Int) < a.2.length) && O7 a.2) then [109] ++ b9s a.1 ++ [40] ++ Lib.join (a.2.map b9s) [44] ++ [41] else []
def c0x (x : Int × (Int × List Int) × Int × List Int) : Str := c0u x.2.2 ++ [32, 98, 121, 32] ++ (if x.1 = -1 then c0w x.2.1 else [114, 117, 108, 101, 32] ++ b9s x.1)
def c0G (l : List (Int × (Int × List Int) × Int × List Int)) : Str := if l.length = 0 then [110, 111, 110, 101] else Lib.join (l.map c0x) [59, 32]
section
variable {l : List (Int × (Int × List Int) × Int × List Int)} {g : Nat}
end
end Go.Proofs.YtlfhopooaejpfaaGreat
end
section
namespace Go.Proofs.YtlfhopooaejpfaaGreat
set_option linter.unusedVariables false
section
variable {ys l : List (List Int)} {t : List Int} {g : Nat}
theorem c0B (h : ys.length ≤ g ∧ ∀ t ∈ ys, t.length = 2) (ht : t.length = 2) : (K0 ys t).length ≤ g + 1 ∧ ∀ x ∈ K0 ys t, x.length = 2 := by
  have h1 := a2E (h := N3 ys t) (p := ltT t) (f := t) (l := ys)
  refine ⟨by unfold K0; omega, fun f hm => ?_⟩
  rcases a2t hm with hm | rfl
  · exact h.2 f hm
  · exact ht
def c0d (t : List Int) : Str := [40] ++ Lib.join (t.map b9s) [44] ++ [41]
def c0i (l : List (List Int)) : Str := if l.length = 0 then [110, 111, 110, 101] else Lib.join (l.map c0d) [32]
theorem c0p (h : t.length ≤ 3) : (c0d t).length ≤ 100 := by
  have := c0j (f := b9s) (K := 21) (l := t) (n := 3) (sep := [44]) (fun x => c0r) h
  unfold c0d
  simp only [List.length_append, List.length_cons, List.length_nil] at this ⊢
  omega
theorem c0l (hn : l.length ≤ 1048576) (hy : ∀ t ∈ l, t.length ≤ 3) : (Lib.join ((l.take g).map c0d) [32]).length ≤ 105906176 := by
  have h1 := c0k (K := 100) (sep := [32]) (xs := (l.take g).map c0d) (fun x hx => by
    obtain ⟨y, h1, rfl⟩ := List.mem_map.1 hx
    exact c0p (hy y (List.mem_of_mem_take h1)))
  rw [List.length_map, List.length_take] at h1
  have h2 : min g l.length * (100 + [32].length) ≤ 1048576 * 101 := Nat.mul_le_mul (by omega) (by simp)
  exact Nat.le_trans h1 h2
theorem c0C (hn : l.length ≤ 1048576) (hy : ∀ t ∈ l, t.length ≤ 3) : (Lib.join (l.map c0d) [32]).length ≤ 105906176 := by
  have := c0l (g := l.length) hn hy
  rwa [List.take_length] at this
theorem c0A (h : g < l.length) (h0 : ¬ 0 < g) : ((Lib.join ((l.take g).map c0d) [32] ++ [40]) ++ Lib.join (l[g].map b9s) [44]) ++ [41] = Lib.join ((l.take (g + 1)).map c0d) [32] := by
  rw [← c0n h h0]; simp [c0d]
theorem c0z (h : g < l.length) (h0 : 0 < g) : (((Lib.join ((l.take g).map c0d) [32] ++ [32]) ++ [40]) ++ Lib.join (l[g].map b9s) [44]) ++ [41] = Lib.join ((l.take (g + 1)).map c0d) [32] := by
  rw [← c0o h h0]; simp [c0d]
theorem c0t {x : Str} {xs : List Str} {sep : Str} (h : x ≠ []) : Lib.join (x :: xs) sep ≠ [] := by
  rw [Lib.join_cons]
  cases x with
  | nil => exact absurd rfl h
  | cons a b => simp
theorem c0D (h : Lib.join (l.map c0d) [32] = []) : c0i l = [110, 111, 110, 101] := by
  cases l with
  | nil => rfl
  | cons x r => exact absurd h (c0t (by simp [c0d]))
theorem c0I (h : ¬ Lib.join (l.map c0d) [32] = []) : c0i l = Lib.join (l.map c0d) [32] := by
  unfold c0i
  cases l with
  | nil => exact absurd (Lib.join_nil _) h
  | cons x r => rfl
end
end Go.Proofs.YtlfhopooaejpfaaGreat
end
section
namespace Go.Proofs.YtlfhopooaejpfaaGreat
open Go.RowKit
set_option linter.all false
set_option maxHeartbeats 2000000
attribute [local irreducible] Nop Yd Yp Ent Has Tr FnP FnP2 Src M0 S8 V1 W0 G4
theorem c0e {a_a : Option Addr} {m_a c_a : Nat} {a : List (List Int)} {a_b : Option Addr} {m_b c_b : Nat} {b : List (List Int)} : Tr Tryz.prog 9 [.slice a_a m_a c_a, .slice a_b m_b c_b] (fun w L => Ro w L I3 [.slice a_a m_a c_a] a ∧ Ro w L I3 [.slice a_b m_b c_b] b) [] (κ := Unit) (fun k => True) (fun k => .bool (decide (a = b))) (fun k => []) := by
 refine Tr.intro Tryz.func9 rfl (n := 27) rfl (by decide +kernel) bl (fr := [(0, .slice a_a m_a c_a), (1, .slice a_b m_b c_b)]) rfl fun w L hR => ?_
 obtain ⟨ha, hb⟩ := hR
 obtain ⟨rfl, la⟩ := ha.slen
 obtain ⟨rfl, lb⟩ := hb.slen
 refine Ew Z1 (Ei rfl (Eu (Eq_ (Ew Z5 (Em rfl (Ey rfl ((Y.len us_Iss rfl).yd) (Em rfl (Ey rfl ((Y.len us_Iss rfl).yd) (Ey rfl ((Y.neq rfl rfl).yd) (n0 (fun q10 => ?_) (fun q10 => ?_)))))))))))
 ·refine Eu (l4 rfl (Ew Z1 (Ei rfl ?_)))
  exact Eu (E.ret (l0 (Fb rfl rfl (by grind [d1, d2, t1, t2]))))
 ·refine Eu (l6 rfl (i8 (Et (Eq_ (Ew Z1 (Ei rfl (Eu (E.block (E.loop (κ := Nat) (fun g => g ≤ a.length ∧ a.length = b.length ∧ (a = b ↔ a.drop g = b.drop g)) (fun g => [(0, .slice a_a a.length c_a), (1, .slice a_b b.length c_b), (5, .int .i64 (g : Int))]) (fun g => []) (fun g => a.length - g) 0 ⟨Nat.zero_le _, by exact ⟨by omega, by simp⟩⟩ ⟨rfl, rfl, rfl, trivial⟩ (.refl _) (fun g pg => ?_))))))))))
  obtain ⟨pk, pa⟩ := pg
  refine Eq_ (Ew Z4 (Em rfl (Em rfl (Ey rfl ((Y.len us_Iss rfl).yd) (Ey rfl ((Y.lss rfl rfl).yd) (n0 (fun q14 => ?_) (fun q14 => ?_)))))))
  ·refine Eu (l4 rfl (i8 (Et (Eq_ (E.block (Eq_ (D.region (fun j => true) mixed (Dyp 0 rfl (j4 rfl) (Dyp 1 rfl (j4 rfl) ?_)))))))))
   obtain ⟨eb19, eo19, ec19, ea19, er19, el19, eh19⟩ := ha.elem g om
   obtain ⟨xa19, xc19, rfl⟩ := er19.sl
   have := er19.slen.2
   refine Dyp 2 rfl (o6 us_Iss ty_Is rfl ea19 rfl g rfl om) (Dy 3 rfl (f8 ty_Is rfl (eh19 _) rfl) (Dyp 4 rfl (j4 rfl) (Dyp 5 rfl (j4 rfl) ?_)))
   obtain ⟨eb23, eo23, ec23, ea23, er23, el23, eh23⟩ := hb.elem g om
   obtain ⟨xa23, xc23, rfl⟩ := er23.sl
   have := er23.slen.2
   refine Dyp 6 rfl (o6 us_Iss ty_Is rfl ea23 rfl g rfl om) (Dy 7 rfl (f8 ty_Is rfl (eh23 _) rfl) (u7 8 rfl rfl kr (fun _ => rfl) (k6 a4w rfl rfl rfl dc (fun w Lp hA => ⟨hA.ro er19, hA.ro er23⟩)) (fun _ _ => (Ent.b (fun q25 => ?_) (fun q25 => ?_)))))
   ·refine Dyp 9 rfl (Y.not (b := true) rfl) (o3 kr (Et (l6 rfl (i8 (o4 (Et (Ez Z3 (Em rfl (Ey rfl ((Y.add rfl rfl om om).yd) (Ei rfl ?_))))))))))
    exact Eu (u9 br (g + 1) rs (.refl _) ⟨by omega, by grind [d1, d2, t1, t2]⟩ om)
   ·refine Dyp 9 rfl (Y.not (b := false) rfl) (o3 kr (Et (l4 rfl (Ew Z1 (Ei rfl ?_)))))
    exact Eu (E.ret (t7 (l0 (l0 (t7 (l0 (Fb rfl rfl (by grind [d1, d2, t1, t2]))))))))
  ·refine Eu (l6 rfl (E.exit (n8 (n8 (w5 (Et (Ew Z1 (Ei rfl ?_))))))))
   exact Eu (E.ret (Fb rfl rfl (by grind [d1, d2, t1, t2])))
end Go.Proofs.YtlfhopooaejpfaaGreat
end
