import Derived.Test.YthapcdhdfaibkaaGreatDoorBb
namespace Go.Proofs.YthapcdhdfaibkaaGreatDoor
open Go.RowKit
set_option linter.all false
theorem ty_Fma : TyOk Tryz.prog 228 false 1 [.nilFunc] 8 := Q6 (z := .nilFunc) (by kernel_rfl) (by kernel_rfl) rfl rfl
section
variable {P : Program} {n : Nat} {w0 : World} {L0 : List Nat} {fr : Fr} {H : List HP} {fn : Func} {κ : Type} {φ : κ → Prop} {ret : κ → Value} {post : κ → List HP} {wb : World} {Lb : List Nat}
theorem a2A (hb : a0D w0 L0 wb Lb) {e : Exit} {s t u : Nat} {v v' v'' : Value} (hres : fn.results = #[.tmp s, .tmp t, .tmp u]) (hv0 : fr.lookup s = some v) (hv : fr.lookup t = some v') (hv' : fr.lookup u = some v'')
  (k : κ) (hk : φ k) (hr : .tuple #[v, v', v''] = ret k) {J : List HP} (hH : H.Perm (post k ++ J)) (he : e = .ret ∨ e = .normal) : Ent n w0 L0 fr H (bodyPost P fn (Fin φ ret post wb Lb) e) :=
 a3i hb he k hk hr hH fun a w h1 h2 => by
  have h0 := h1.ev (x := .tmp s) hv0
  have h3 := h1.ev (x := .tmp t) hv
  have h5 := h1.ev (x := .tmp u) hv'
  simp only [Act.eval] at h0 h3 h5
  rw [Array.getD_eq_getD_getElem?] at h0 h3 h5
  simp [results, hres, h0, h3, h5]
end
abbrev tB : TypeId := 4
abbrev eBs : Enc (List Bool) := Enc.sl tB Enc.bool
section
variable {w0 : World} {L0 : List Nat} {H : List HP} {e : TypeId} {a : Option Addr} {m c b o : Nat} {xs : List Bool}
theorem Ro.elemB (h : Ro w0 L0 (Enc.sl e Enc.bool) [.slice a m c] xs) (i : Nat) (hi : i < xs.length) : ∃ b off, a = some ⟨b, off, none⟩ ∧ ∀ H, Has w0 L0 H b (off + i * 1) [.bool xs[i]] := by
 obtain ⟨b, off, ci, h1, h2, h3, h4⟩ := h.elem i hi
 obtain rfl := h2.bool
 exact ⟨b, off, h1, h4⟩
end
theorem b6v {α : Type} {E : Enc α} {w : World} {L : List Nat} {e : TypeId} {a : Option Addr} : Ro w L (Enc.sl e E) [.slice a 0 0] [] :=
 ⟨[], ⟨a, 0, 0, [], [], [], rfl, rfl, Nat.zero_le _, rfl, ⟨rfl, rfl⟩, ⟨⟨Nat.le_refl _, Nat.zero_le _⟩, .inl ⟨rfl, rfl⟩⟩⟩, by simp⟩
def Enc.rsl : Enc (Option Addr × Nat × Nat) where
 k := 1
 pos := by decide
 rep _ cs x L _ := cs = [.slice x.1 x.2.1 x.2.2] ∧ L = []
 len h := by rw [h.1]; rfl
 one h := by rw [h.1]; simp [Value.oneCell']
 stable h _ := h
 inh h := by rw [h.2]; simp
 ro h := ⟨[], by simp, h.1, rfl⟩
theorem Plain.rsl : Plain Enc.rsl := fun w cs x L h => ⟨h.1, rfl⟩
theorem Own.rsl {x : Option Addr × Nat × Nat} : Own [] Enc.rsl [.slice x.1 x.2.1 x.2.2] x := fun w L hL => ⟨rfl, hL⟩
theorem Ro.rsl {w0 : World} {L0 : List Nat} {cs : List Value} {x : Option Addr × Nat × Nat} (h : Ro w0 L0 Enc.rsl cs x) : cs = [.slice x.1 x.2.1 x.2.2] := let ⟨_, h1, _⟩ := h; h1.1
theorem b7z {w0 : World} {L0 : List Nat} {x : Option Addr × Nat × Nat} : Ro w0 L0 Enc.rsl [.slice x.1 x.2.1 x.2.2] x := ⟨[], ⟨rfl, rfl⟩, by simp⟩
def Bor {α β : Type} (w : World) (L : List Nat) (E : Enc α) (f : β → List Value) : List β → List α → Prop
 | [], [] => True
 | y :: ys, x :: xs => Ro w L E (f y) x ∧ Bor w L E f ys xs
 | _, _ => False
def b4B {β : Type} (F : Enc β) (f : β → List Value) : Prop := ∀ w cs y L o, F.rep w cs y L o → cs = f y ∧ L = []
section
variable {α β : Type} {E : Enc α} {F : Enc β} {f : β → List Value} {w w0 : World} {L L0 Lp : List Nat} {ys ys' : List β} {xs xs' : List α} {pre rest : List HP} {a : Option Addr} {m c : Nat} {e : TypeId} {cs ccs : List Value}
theorem Bor.len : ∀ {ys : List β} {xs : List α}, Bor w L E f ys xs → ys.length = xs.length
 | [], [], _ => rfl
 | _ :: _, _ :: _, h => congrArg (· + 1) (Bor.len h.2)
theorem Bor.nil : Bor w L E f [] [] := trivial
theorem Bor.app : ∀ {ys : List β} {xs : List α}, Bor w L E f ys xs → Bor w L E f ys' xs' → Bor w L E f (ys ++ ys') (xs ++ xs')
 | [], [], _, h => h
 | _ :: _, _ :: _, h, h' => ⟨h.1, Bor.app h.2 h'⟩
theorem Bor.one {y : β} {x : α} (h : Ro w L E (f y) x) : Bor w L E f [y] [x] := ⟨h, trivial⟩
theorem Bor.get : ∀ {ys : List β} {xs : List α}, Bor w L E f ys xs → ∀ i (h1 : i < ys.length) (h2 : i < xs.length), Ro w L E (f ys[i]) xs[i]
 | _ :: _, _ :: _, h, 0, _, _ => h.1
 | _ :: _, _ :: _, h, i + 1, h1, h2 => Bor.get h.2 i (Nat.lt_of_succ_lt_succ h1) (Nat.lt_of_succ_lt_succ h2)
theorem Bor.map {g : β → β} {g' : α → α} (hg : ∀ y x, Ro w L E (f y) x → Ro w L E (f (g y)) (g' x)) : ∀ {ys : List β} {xs : List α}, Bor w L E f ys xs → Bor w L E f (ys.map g) (xs.map g')
 | [], [], _ => trivial
 | _ :: _, _ :: _, h => ⟨hg _ _ h.1, Bor.map hg h.2⟩
theorem Bor.filter {p : β → Bool} {p' : α → Bool} (hp : ∀ y x, Ro w L E (f y) x → p y = p' x) : ∀ {ys : List β} {xs : List α}, Bor w L E f ys xs → Bor w L E f (ys.filter p) (xs.filter p')
 | [], [], _ => trivial
 | y :: _, x :: _, h => by
  have h1 := hp _ _ h.1
  have h2 := Bor.filter hp h.2
  cases h3 : p' x
  ·rw [List.filter_cons_of_neg (by rw [h1, h3]; decide), List.filter_cons_of_neg (by rw [h3]; decide)]; exact h2
  ·rw [List.filter_cons_of_pos (by rw [h1, h3]), List.filter_cons_of_pos h3]; exact ⟨h.1, h2⟩
theorem Bor.take : ∀ (n : Nat) {ys : List β} {xs : List α}, Bor w L E f ys xs → Bor w L E f (ys.take n) (xs.take n)
 | 0, _, _, _ => by simpa using Bor.nil
 | _ + 1, [], [], _ => trivial
 | n + 1, _ :: _, _ :: _, h => ⟨h.1, Bor.take n h.2⟩
theorem Bor.drop : ∀ (n : Nat) {ys : List β} {xs : List α}, Bor w L E f ys xs → Bor w L E f (ys.drop n) (xs.drop n)
 | 0, _, _, h => h
 | _ + 1, [], [], _ => trivial
 | n + 1, _ :: _, _ :: _, h => Bor.drop n h.2
theorem Bor.els : ∀ {ys : List β} {xs : List α}, Bor w L E f ys xs → ∃ M, D8 E w (ys.flatMap f) xs M false ∧ ∀ b ∈ M, b ∉ L
 | [], [], _ => ⟨[], ⟨rfl, rfl⟩, by simp⟩
 | _ :: _, _ :: _, ⟨⟨L1, h1, h2⟩, h3⟩ => by
  obtain ⟨M, m1, m2⟩ := Bor.els h3
  exact ⟨L1 ++ M, ⟨_, _, L1, M, List.flatMap_cons .., rfl, h1, m1⟩, fun b hb => by rcases List.mem_append.1 hb with hb | hb; (exact h2 b hb); (exact m2 b hb)⟩
theorem At.bor (hA : At w0 L0 pre rest w Lp) : ∀ {ys : List β} {xs : List α}, Bor w0 L0 E f ys xs → Bor w Lp E f ys xs
 | [], [], _ => trivial
 | _ :: _, _ :: _, h => ⟨hA.ro h.1, At.bor hA h.2⟩
theorem b4B.cells (hF : b4B F f) : ∀ {ys : List β} {cs : List Value} {M : List Nat} {o : Bool}, D8 F w cs ys M o → cs = ys.flatMap f ∧ M = []
 | [], _, _, _, h => ⟨h.1, h.2⟩
 | _ :: _, _, _, _, ⟨c1, c2, L1, L2, h1, h2, h3, h4⟩ => by
  obtain ⟨rfl, rfl⟩ := hF _ _ _ _ _ h3
  obtain ⟨rfl, rfl⟩ := hF.cells h4
  exact ⟨h1, h2⟩
theorem At.owB (hA : At w0 L0 pre rest w Lp) (hF : b4B F f) (hk : F.k = E.k) (hm : Go.Proofs.YthapcdhdfaibkaaGreatDoor.ow (Enc.sl e F) [.slice a m c] ys ∈ rest) (hb : Bor w0 L0 E f ys xs) : Ro w Lp (Enc.sl e E) [.slice a m c] xs := by
 have hb' := hA.bor hb
 obtain ⟨⟨Lr, h1, h2, h3, h4⟩⟩ := hA
 obtain ⟨L', r1, r2⟩ := h2.mem hm
 obtain ⟨ccs, L1, L2, rfl, g1, g2, g3, g4⟩ := a1l r1
 obtain ⟨rfl, rfl⟩ := hF.cells g3
 obtain ⟨M, m1, m2⟩ := hb'.els
 have hLn : ∀ b ∈ L1, b ∉ Lp := fun b hb hp => (List.nodup_append.1 h3).2.2 b hp b (r2 b (by simpa using hb)) rfl
 have hl : m = xs.length := g1.trans hb.len
 rcases g4 with ⟨h6, ⟨rfl, rfl, rfl⟩ | ⟨g, cur, rfl, h7, h8, h9, h10, h11, rfl⟩⟩
 ·have : ys = [] := List.eq_nil_of_length_eq_zero g1.symm
  subst this
  exact ⟨M, ⟨a, 0, 0, [], [], M, rfl, hl, g2, rfl, m1, ⟨Nat.le_refl _, Nat.zero_le _⟩, .inl ⟨rfl, rfl⟩⟩, m2⟩
 ·refine ⟨[g] ++ M, ⟨_, m, c, _, [g], M, rfl, hl, g2, rfl, m1, ⟨h8, h9⟩, .inr ⟨g, 0, rfl, fun j v hj => ?_, (Array.getElem?_eq_some_iff.1 h7).1, rfl⟩⟩, fun b hb => ?_⟩
  ·rw [← h11, List.getElem?_take] at hj
   split at hj
   ·simpa [World.cell?, h7] using hj
   ·cases hj
  ·rcases List.mem_append.1 hb with hb | hb
   ·exact hLn b hb
   ·exact m2 b hb
theorem b1w (hE : ∀ cs x, Ro w L E cs x → ∃ y, F.rep w cs y [] false ∧ cs = f y) : ∀ {xs : List α} {cs : List Value} {M : List Nat}, D8 E w cs xs M false → (∀ b ∈ M, b ∉ L) → ∃ ys, D8 F w cs ys [] false ∧ Bor w L E f ys xs
 | [], _, _, h, _ => ⟨[], ⟨h.1, rfl⟩, trivial⟩
 | x :: xs, _, _, ⟨c1, c2, L1, L2, h1, rfl, h3, h4⟩, hM => by
  obtain ⟨y, y1, rfl⟩ := hE c1 x ⟨L1, h3, fun b hb => hM b (by simp [hb])⟩
  obtain ⟨ys, z1, z2⟩ := b1w hE h4 fun b hb => hM b (by simp [hb])
  exact ⟨y :: ys, ⟨_, _, [], [], h1, rfl, y1, z1⟩, ⟨L1, h3, fun b hb => hM b (by simp [hb])⟩, z2⟩
theorem c0p (hk : F.k = E.k) (hE : ∀ cs x, Ro w L E cs x → ∃ y, F.rep w cs y [] false ∧ cs = f y) (h : Ro w L (Enc.sl e E) cs xs) : ∃ ys, Ro w L (Enc.sl e F) cs ys ∧ Bor w L E f ys xs := by
 obtain ⟨M, ⟨a, m, c, ccs, L1, L2, h1, h2, h3, rfl, h5, h6⟩, hd⟩ := h
 obtain ⟨ys, z1, z2⟩ := b1w (E := E) (F := F) hE h5 fun b hb => hd b (by simp [hb])
 exact ⟨ys, ⟨L1 ++ [], ⟨a, m, c, ccs, L1, [], h1, h2.trans z2.len.symm, h3, rfl, z1, h6⟩, fun b hb => hd b (by simp at hb; simp [hb])⟩, z2⟩
end
section
variable {α β : Type} {E : Enc α} {F : Enc β} {f : β → List Value} {n : Nat} {w0 : World} {L0 : List Nat} {fr : Fr} {A H R : List HP} {G : Act → World → Prop} {a : Option Addr} {m c : Nat} {e : TypeId} {xs : List α}
end

abbrev a8Y : TypeId := tMethod
abbrev Y9 : Enc (Int × (Option Addr × Nat × Nat) × Int × Int × Int) := Enc.pair Enc.int (Enc.pair Enc.rsl (Enc.pair Enc.int (Enc.pair Enc.int Enc.int)))
abbrev S4 : Enc (List (Int × (Option Addr × Nat × Nat) × Int × Int × Int)) := Enc.sl a8Y Y9
def a1A (y : Int × (Option Addr × Nat × Nat) × Int × Int × Int) : List Value := [.int .i64 y.1, .slice y.2.1.1 y.2.1.2.1 y.2.1.2.2, .int .i64 y.2.2.1, .int .i64 y.2.2.2.1, .int .i64 y.2.2.2.2]
theorem b2g : Plain Y9 := (Plain.pair Plain.int (Plain.pair Plain.rsl (Plain.pair Plain.int (Plain.pair Plain.int Plain.int))))
theorem b3x : b4B Y9 a1A := by
 rintro w cs y L o ⟨_, _, _, _, rfl, rfl, h0, ⟨_, _, _, _, rfl, rfl, h1, ⟨_, _, _, _, rfl, rfl, h2, ⟨_, _, _, _, rfl, rfl, h3, h4⟩⟩⟩⟩
 obtain ⟨rfl, _, rfl⟩ := h0
 obtain ⟨rfl, rfl⟩ := h1
 obtain ⟨rfl, _, rfl⟩ := h2
 obtain ⟨rfl, _, rfl⟩ := h3
 obtain ⟨rfl, _, rfl⟩ := h4
 exact ⟨rfl, rfl⟩
theorem b4C {w : World} {L : List Nat} : ∀ cs x, Ro w L a0e cs x → ∃ y, (Y9).rep w cs y [] false ∧ cs = a1A y := by
 intro cs x h
 obtain ⟨a0, c0, rfl, i0, r1, i2, i3, i4⟩ := P5 h
 exact ⟨(x.1, (a0, x.2.1.length, c0), x.2.2.1, x.2.2.2.1, x.2.2.2.2), ⟨_, _, [], [], rfl, rfl, ⟨rfl, i0, rfl⟩, ⟨_, _, [], [], rfl, rfl, ⟨rfl, rfl⟩, ⟨_, _, [], [], rfl, rfl, ⟨rfl, i2, rfl⟩, ⟨_, _, [], [], rfl, rfl, ⟨rfl, i3, rfl⟩, ⟨rfl, i4, rfl⟩⟩⟩⟩⟩, rfl⟩
theorem b2u {w : World} {L : List Nat} {y : Int × (Option Addr × Nat × Nat) × Int × Int × Int} {x : Int × List Int × Int × Int × Int} (h : Ro w L a0e (a1A y) x) : y.1 = x.1 ∧ Ro w L eIs [.slice y.2.1.1 y.2.1.2.1 y.2.1.2.2] x.2.1 ∧ y.2.2.1 = x.2.2.1 ∧ y.2.2.2.1 = x.2.2.2.1 ∧ y.2.2.2.2 = x.2.2.2.2 := by
 obtain ⟨a0, c0, e, i0, r1, i2, i3, i4⟩ := P5 h
 simp only [a1A, List.cons.injEq, Value.int.injEq, Value.slice.injEq, true_and, and_true] at e
 obtain ⟨e0, ⟨e1a, e1b, e1c⟩, e2, e3, e4⟩ := e
 exact ⟨e0, (by rw [e1a, e1b, e1c]; exact r1), e2, e3, e4⟩
theorem b3y {w0 : World} {L0 : List Nat} {cs : List Value} {x : Int × (Option Addr × Nat × Nat) × Int × Int × Int} (h : Ro w0 L0 Y9 cs x) : cs = [.int .i64 x.1, .slice x.2.1.1 x.2.1.2.1 x.2.1.2.2, .int .i64 x.2.2.1, .int .i64 x.2.2.2.1, .int .i64 x.2.2.2.2] ∧ I64 x.1 ∧ I64 x.2.2.1 ∧ I64 x.2.2.2.1 ∧ I64 x.2.2.2.2 := by
 obtain ⟨_, _, rfl, h0, g0⟩ := Ro.pair h
 obtain ⟨rfl, j0⟩ := h0.int
 obtain ⟨_, _, rfl, h1, g1⟩ := Ro.pair g0
 obtain rfl := h1.rsl
 obtain ⟨_, _, rfl, h2, g2⟩ := Ro.pair g1
 obtain ⟨rfl, j2⟩ := h2.int
 obtain ⟨_, _, rfl, h3, g3⟩ := Ro.pair g2
 obtain ⟨rfl, j3⟩ := h3.int
 obtain ⟨rfl, j4⟩ := g3.int
 exact ⟨rfl, j0, j2, j3, j4⟩
theorem c0n {w0 : World} {L0 : List Nat} {x : Int × (Option Addr × Nat × Nat) × Int × Int × Int} (h0 : I64 x.1) (h2 : I64 x.2.2.1) (h3 : I64 x.2.2.2.1) (h4 : I64 x.2.2.2.2) : Ro w0 L0 Y9 [.int .i64 x.1, .slice x.2.1.1 x.2.1.2.1 x.2.1.2.2, .int .i64 x.2.2.1, .int .i64 x.2.2.2.1, .int .i64 x.2.2.2.2] x := (Y7 (Y1 h0) (Y7 b7z (Y7 (Y1 h2) (Y7 (Y1 h3) (Y1 h4)))))
theorem a2F {x : Int × (Option Addr × Nat × Nat) × Int × Int × Int} (h0 : I64 x.1) (h2 : I64 x.2.2.1) (h3 : I64 x.2.2.2.1) (h4 : I64 x.2.2.2.2) : Own ([] ++ ([] ++ ([] ++ ([] ++ [])))) Y9 [.int .i64 x.1, .slice x.2.1.1 x.2.1.2.1 x.2.1.2.2, .int .i64 x.2.2.1, .int .i64 x.2.2.2.1, .int .i64 x.2.2.2.2] x := (Own.pair (Own.int h0) (Own.pair Own.rsl (Own.pair (Own.int h2) (Own.pair (Own.int h3) (Own.int h4)))))
theorem b3s {n : Nat} {w0 : World} {L0 : List Nat} {fr : Fr} {R : List HP} {G : Act → World → Prop} {cs : List Value} {x : Int × (Option Addr × Nat × Nat) × Int × Int × Int} (h : cs = [.int .i64 x.1, .slice x.2.1.1 x.2.1.2.1 x.2.1.2.2, .int .i64 x.2.2.1, .int .i64 x.2.2.2.1, .int .i64 x.2.2.2.2] → I64 x.1 → I64 x.2.2.1 → I64 x.2.2.2.1 → I64 x.2.2.2.2 → Ent n w0 L0 fr R G) : Ent n w0 L0 fr (ow Y9 cs x :: R) G := fun a w h1 h2 => by
 obtain ⟨L, ⟨Lx, LR, rfl, hx, hR⟩, hn, hst⟩ := h2
 obtain ⟨_, _, _, _, rfl, rfl, h0, ⟨_, _, _, _, rfl, rfl, h1, ⟨_, _, _, _, rfl, rfl, h2, ⟨_, _, _, _, rfl, rfl, h3, h4⟩⟩⟩⟩ := hx
 obtain ⟨rfl, i0, rfl⟩ := h0
 obtain ⟨rfl, rfl⟩ := h1
 obtain ⟨rfl, i2, rfl⟩ := h2
 obtain ⟨rfl, i3, rfl⟩ := h3
 obtain ⟨rfl, i4, rfl⟩ := h4
 refine h rfl i0 i2 i3 i4 a w h1 ⟨LR, hR, ?_, ?_⟩
 ·simpa using hn
 ·simpa using hst
theorem Ro.bMethodB {w : World} {L : List Nat} {cs : List Value} {xs : List (Int × List Int × Int × Int × Int)} (h : Ro w L G0 cs xs) : ∃ ys, Ro w L S4 cs ys ∧ Bor w L a0e a1A ys xs := c0p (F := Y9) rfl b4C h
theorem At.bMethodB {w0 w : World} {L0 Lp : List Nat} {pre rest : List HP} {a : Option Addr} {m c : Nat} {ys : List (Int × (Option Addr × Nat × Nat) × Int × Int × Int)} {xs : List (Int × List Int × Int × Int × Int)} (hA : At w0 L0 pre rest w Lp) (hm : Go.Proofs.YthapcdhdfaibkaaGreatDoor.ow S4 [.slice a m c] ys ∈ rest) (hb : Bor w0 L0 a0e a1A ys xs) : Ro w Lp G0 [.slice a m c] xs := hA.owB b3x rfl hm hb
abbrev b8b : TypeId := tQuery
abbrev b9d : Enc ((Option Addr × Nat × Nat) × Option Addr × Nat × Nat) := Enc.pair Enc.rsl Enc.rsl
abbrev c2l : Enc (List ((Option Addr × Nat × Nat) × Option Addr × Nat × Nat)) := Enc.sl b8b b9d
def c2t (y : (Option Addr × Nat × Nat) × Option Addr × Nat × Nat) : List Value := [.slice y.1.1 y.1.2.1 y.1.2.2, .slice y.2.1 y.2.2.1 y.2.2.2]
abbrev b5H : TypeId := tBinding
abbrev b5D : Enc ((Option Addr × Nat × Nat) × Option Addr × Nat × Nat) := Enc.pair Enc.rsl Enc.rsl
abbrev c0D : Enc (List ((Option Addr × Nat × Nat) × Option Addr × Nat × Nat)) := Enc.sl b5H b5D
def c1w (y : (Option Addr × Nat × Nat) × Option Addr × Nat × Nat) : List Value := [.slice y.1.1 y.1.2.1 y.1.2.2, .slice y.2.1 y.2.2.1 y.2.2.2]
abbrev c0b : TypeId := tFact
abbrev b9z : Enc (Int × Option Addr × Nat × Nat) := Enc.pair Enc.int Enc.rsl
abbrev c2v : Enc (List (Int × Option Addr × Nat × Nat)) := Enc.sl c0b b9z
def c2G (y : Int × Option Addr × Nat × Nat) : List Value := [.int .i64 y.1, .slice y.2.1 y.2.2.1 y.2.2.2]
end Go.Proofs.YthapcdhdfaibkaaGreatDoor
