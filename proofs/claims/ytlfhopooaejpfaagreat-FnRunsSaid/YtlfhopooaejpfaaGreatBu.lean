import Derived.Test.YtlfhopooaejpfaaGreatBb
namespace Go.Proofs.YtlfhopooaejpfaaGreat
open Go.RowKit
set_option linter.unusedVariables false
set_option linter.unusedSimpArgs false
section
variable {P : Program} {n : Nat} {w0 : World} {L0 : List Nat} {fr : Fr} {H : List HP} {fn : Func} {κ : Type} {φ : κ → Prop} {ret : κ → Value} {post : κ → List HP} {wb : World} {Lb : List Nat}
theorem a7U (hb : P3 w0 L0 wb Lb) {e : Exit} {s t u : Nat} {v v' v'' : Value} (hres : fn.results = #[.tmp s, .tmp t, .tmp u]) (hv0 : fr.lookup s = some v) (hv : fr.lookup t = some v') (hv' : fr.lookup u = some v'')
  (k : κ) (hk : φ k) (hr : .tuple #[v, v', v''] = ret k) {J : List HP} (hH : H.Perm (post k ++ J)) (he : e = .ret ∨ e = .normal) : Ent n w0 L0 fr H (bodyPost P fn (Fin φ ret post wb Lb) e) :=
 a0a hb he k hk hr hH fun a w h1 h2 => by
  have h0 := h1.ev (x := .tmp s) hv0
  have h3 := h1.ev (x := .tmp t) hv
  have h5 := h1.ev (x := .tmp u) hv'
  simp only [Act.eval] at h0 h3 h5
  rw [Array.getD_eq_getD_getElem?] at h0 h3 h5
  simp [results, hres, h0, h3, h5]
end
abbrev tB : TypeId := 4
abbrev eBs : Enc (List Bool) := Enc.sl tB Enc.bool
section
variable {w0 : World} {L0 : List Nat} {H : List HP} {e : TypeId} {a : Option Addr} {m c b o : Nat} {xs : List Bool}
theorem a5K {w : World} : ∀ {xs : List Bool} {cs : List Value} {L : List Nat} {o : Bool}, C4 Enc.bool w cs xs L o → cs = xs.map fun x => .bool x
 | [], _, _, _, h => h.1
 | x :: xs, _, _, _, ⟨c1, c2, L1, L2, h1, h2, h3, h4⟩ => by rw [h1, h3.1, a5K h4]; rfl
theorem b4A (ha : a = some ⟨b, 0, none⟩) (hm : ow (Enc.sl e Enc.bool) [.slice a m c] xs ∈ H) {i : Nat} (hi : i < xs.length) : Has w0 L0 H b (0 + i * 1) [.bool xs[i]] := fun w h => by
 obtain ⟨L, hL⟩ := h.mem hm
 obtain ⟨ccs, L1, L2, _, g1, g2, g3, h0, g4⟩ := a0k hL
 have hc := a5K g3
 rcases g4 with ⟨_, h, _⟩ | ⟨g, cur, h2, h3, h4, h5, h6, h7, _⟩
 ·omega
 ·rw [ha] at h2; cases h2
  intro j v hj
  match j, hj with
  | 0, hj =>
   simp at hj; subst hj
   have : (ccs : List Value)[i]? = some (.bool xs[i]) := by rw [hc]; simp [hi]
   rw [← h7, List.getElem?_take] at this
   split at this
   ·simpa [World.cell?, h3] using this
   ·cases this
  | j + 1, hj => simp at hj
end
theorem a8H {α : Type} {E : Enc α} {w : World} {L : List Nat} {e : TypeId} {a : Option Addr} : Ro w L (Enc.sl e E) [.slice a 0 0] [] :=
 ⟨[], ⟨a, 0, 0, [], [], [], rfl, rfl, Nat.zero_le _, rfl, ⟨rfl, rfl⟩, ⟨⟨Nat.le_refl _, Nat.zero_le _⟩, .inl ⟨rfl, rfl⟩⟩⟩, by simp⟩
def a0Q : Enc (Option Addr × Nat × Nat) where
 k := 1
 pos := by decide
 rep _ cs x L _ := cs = [.slice x.1 x.2.1 x.2.2] ∧ L = []
 len h := by rw [h.1]; rfl
 one h := by rw [h.1]; simp [Value.oneCell']
 stable h _ := h
 inh h := by rw [h.2]; simp
 ro h := ⟨[], by simp, h.1, rfl⟩
theorem b7T : Plain a0Q := fun w cs x L h => ⟨h.1, rfl⟩
theorem b8W {x : Option Addr × Nat × Nat} : Own [] a0Q [.slice x.1 x.2.1 x.2.2] x := fun w L hL => ⟨rfl, hL⟩
theorem b9u {w0 : World} {L0 : List Nat} {cs : List Value} {x : Option Addr × Nat × Nat} (h : Ro w0 L0 a0Q cs x) : cs = [.slice x.1 x.2.1 x.2.2] := let ⟨_, h1, _⟩ := h; h1.1
def Bor {α β : Type} (w : World) (L : List Nat) (E : Enc α) (f : β → List Value) : List β → List α → Prop
 | [], [] => True
 | y :: ys, x :: xs => Ro w L E (f y) x ∧ Bor w L E f ys xs
 | _, _ => False
def b6o {β : Type} (F : Enc β) (f : β → List Value) : Prop := ∀ w cs y L o, F.rep w cs y L o → cs = f y ∧ L = []
section
variable {α β : Type} {E : Enc α} {F : Enc β} {f : β → List Value} {w w0 : World} {L L0 Lp : List Nat} {ys ys' : List β} {xs xs' : List α} {pre rest : List HP} {a : Option Addr} {m c : Nat} {e : TypeId} {cs ccs : List Value}
theorem Bor.len : ∀ {ys : List β} {xs : List α}, Bor w L E f ys xs → ys.length = xs.length
 | [], [], _ => rfl
 | _ :: _, _ :: _, h => congrArg (· + 1) (Bor.len h.2)
theorem Bor.nil : Bor w L E f [] [] := trivial
theorem Bor.app : ∀ {ys : List β} {xs : List α}, Bor w L E f ys xs → Bor w L E f ys' xs' → Bor w L E f (ys ++ ys') (xs ++ xs')
 | [], [], _, h => h
 | _ :: _, _ :: _, h, h' => ⟨h.1, Bor.app h.2 h'⟩
theorem Bor.one {y : β} {x : α} (h : Ro w L E (f y) x) : Bor w L E f [y] [x] := ⟨h, trivial⟩
theorem Bor.get : ∀ {ys : List β} {xs : List α}, Bor w L E f ys xs → ∀ i (h1 : i < ys.length) (h2 : i < xs.length), Ro w L E (f ys[i]) xs[i]
 | _ :: _, _ :: _, h, 0, _, _ => h.1
 | _ :: _, _ :: _, h, i + 1, h1, h2 => Bor.get h.2 i (Nat.lt_of_succ_lt_succ h1) (Nat.lt_of_succ_lt_succ h2)
theorem Bor.map {g : β → β} {g' : α → α} (hg : ∀ y x, Ro w L E (f y) x → Ro w L E (f (g y)) (g' x)) : ∀ {ys : List β} {xs : List α}, Bor w L E f ys xs → Bor w L E f (ys.map g) (xs.map g')
 | [], [], _ => trivial
 | _ :: _, _ :: _, h => ⟨hg _ _ h.1, Bor.map hg h.2⟩
theorem Bor.filter {p : β → Bool} {p' : α → Bool} (hp : ∀ y x, Ro w L E (f y) x → p y = p' x) : ∀ {ys : List β} {xs : List α}, Bor w L E f ys xs → Bor w L E f (ys.filter p) (xs.filter p')
 | [], [], _ => trivial
 | y :: _, x :: _, h => by
  have h1 := hp _ _ h.1
  have h2 := Bor.filter hp h.2
  cases h3 : p' x
  ·rw [List.filter_cons_of_neg (by rw [h1, h3]; decide), List.filter_cons_of_neg (by rw [h3]; decide)]; exact h2
  ·rw [List.filter_cons_of_pos (by rw [h1, h3]), List.filter_cons_of_pos h3]; exact ⟨h.1, h2⟩
theorem Bor.take : ∀ (n : Nat) {ys : List β} {xs : List α}, Bor w L E f ys xs → Bor w L E f (ys.take n) (xs.take n)
 | 0, _, _, _ => by simpa using Bor.nil
 | _ + 1, [], [], _ => trivial
 | n + 1, _ :: _, _ :: _, h => ⟨h.1, Bor.take n h.2⟩
theorem Bor.drop : ∀ (n : Nat) {ys : List β} {xs : List α}, Bor w L E f ys xs → Bor w L E f (ys.drop n) (xs.drop n)
 | 0, _, _, h => h
 | _ + 1, [], [], _ => trivial
 | n + 1, _ :: _, _ :: _, h => Bor.drop n h.2
theorem b5V : ∀ {ys : List β} {xs : List α}, Bor w L E f ys xs → ∃ M, C4 E w (ys.flatMap f) xs M false ∧ ∀ b ∈ M, b ∉ L
 | [], [], _ => ⟨[], ⟨rfl, rfl⟩, by simp⟩
 | _ :: _, _ :: _, ⟨⟨L1, h1, h2⟩, h3⟩ => by
  obtain ⟨M, m1, m2⟩ := b5V h3
  exact ⟨L1 ++ M, ⟨_, _, L1, M, List.flatMap_cons .., rfl, h1, m1⟩, fun b hb => by rcases List.mem_append.1 hb with hb | hb; (exact h2 b hb); (exact m2 b hb)⟩
theorem b6o.cells (hF : b6o F f) : ∀ {ys : List β} {cs : List Value} {M : List Nat} {o : Bool}, C4 F w cs ys M o → cs = ys.flatMap f ∧ M = []
 | [], _, _, _, h => ⟨h.1, h.2⟩
 | _ :: _, _, _, _, ⟨c1, c2, L1, L2, h1, h2, h3, h4⟩ => by
  obtain ⟨rfl, rfl⟩ := hF _ _ _ _ _ h3
  obtain ⟨rfl, rfl⟩ := hF.cells h4
  exact ⟨h1, h2⟩
end
section
variable {α β : Type} {E : Enc α} {F : Enc β} {f : β → List Value} {n : Nat} {w0 : World} {L0 : List Nat} {fr : Fr} {A H R : List HP} {G : Act → World → Prop} {a : Option Addr} {m c : Nat} {e : TypeId} {xs : List α}
end

abbrev b4b : TypeId := tMethod
abbrev b4v : Enc (Int × (Option Addr × Nat × Nat) × Int × Int × Int) := Enc.pair Enc.int (Enc.pair a0Q (Enc.pair Enc.int (Enc.pair Enc.int Enc.int)))
abbrev b7P : Enc (List (Int × (Option Addr × Nat × Nat) × Int × Int × Int)) := Enc.sl b4b b4v
def b8n (y : Int × (Option Addr × Nat × Nat) × Int × Int × Int) : List Value := [.int .i64 y.1, .slice y.2.1.1 y.2.1.2.1 y.2.1.2.2, .int .i64 y.2.2.1, .int .i64 y.2.2.2.1, .int .i64 y.2.2.2.2]
abbrev b5z : TypeId := tQuery
abbrev b5r : Enc ((Option Addr × Nat × Nat) × Option Addr × Nat × Nat) := Enc.pair a0Q a0Q
abbrev b8t : Enc (List ((Option Addr × Nat × Nat) × Option Addr × Nat × Nat)) := Enc.sl b5z b5r
def b8N (y : (Option Addr × Nat × Nat) × Option Addr × Nat × Nat) : List Value := [.slice y.1.1 y.1.2.1 y.1.2.2, .slice y.2.1 y.2.2.1 y.2.2.2]
abbrev b2B : TypeId := tBinding
abbrev b2Y : Enc ((Option Addr × Nat × Nat) × Option Addr × Nat × Nat) := Enc.pair a0Q a0Q
abbrev b7d : Enc (List ((Option Addr × Nat × Nat) × Option Addr × Nat × Nat)) := Enc.sl b2B b2Y
def b7L (y : (Option Addr × Nat × Nat) × Option Addr × Nat × Nat) : List Value := [.slice y.1.1 y.1.2.1 y.1.2.2, .slice y.2.1 y.2.2.1 y.2.2.2]
abbrev b6h : TypeId := tFact
abbrev b6m : Enc (Int × Option Addr × Nat × Nat) := Enc.pair Enc.int a0Q
abbrev b8O : Enc (List (Int × Option Addr × Nat × Nat)) := Enc.sl b6h b6m
def b9p (y : Int × Option Addr × Nat × Nat) : List Value := [.int .i64 y.1, .slice y.2.1 y.2.2.1 y.2.2.2]
end Go.Proofs.YtlfhopooaejpfaaGreat
