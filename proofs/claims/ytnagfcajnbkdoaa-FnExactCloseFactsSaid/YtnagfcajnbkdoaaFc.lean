/- Owned structs: put together, taken apart; the places of their fields. Made by program. -/
import Derived.Test.YtnagfcajnbkdoaaSli
namespace Go.Proofs.Ytnagfcajnbkdoaa
open Go.RowKit
set_option linter.unusedVariables false
theorem pl_Fact : sPlaces Try.prog tFact = some [(0, 1), (1, 1)] := by kernel_rfl
theorem pl_lFact : sPlaces Try.prog 62 = some [(0, 1), (1, 1)] := by kernel_rfl
theorem pl_Atom : sPlaces Try.prog tAtom = some [(0, 1), (1, 1)] := by kernel_rfl
theorem pl_lAtom : sPlaces Try.prog 162 = some [(0, 1), (1, 1)] := by kernel_rfl
theorem pl_Access : sPlaces Try.prog tAccess = some [(0, 1), (1, 1)] := by kernel_rfl
theorem pl_lAccess : sPlaces Try.prog 167 = some [(0, 1), (1, 1)] := by kernel_rfl
theorem pl_Query : sPlaces Try.prog tQuery = some [(0, 1), (1, 1)] := by kernel_rfl
theorem pl_lQuery : sPlaces Try.prog 25 = some [(0, 1), (1, 1)] := by kernel_rfl
theorem pl_Binding : sPlaces Try.prog tBinding = some [(0, 1), (1, 1)] := by kernel_rfl
theorem pl_lBinding : sPlaces Try.prog 48 = some [(0, 1), (1, 1)] := by kernel_rfl
theorem pl_Method : sPlaces Try.prog tMethod = some [(0, 1), (1, 1), (2, 1), (3, 1), (4, 1)] := by kernel_rfl
theorem pl_lMethod : sPlaces Try.prog 139 = some [(0, 1), (1, 1), (2, 1), (3, 1), (4, 1)] := by kernel_rfl
theorem pl_Rule : sPlaces Try.prog tRule = some [(0, 1), (1, 1), (2, 1)] := by kernel_rfl
theorem pl_lRule : sPlaces Try.prog 130 = some [(0, 1), (1, 1), (2, 1)] := by kernel_rfl
theorem pl_Guarded : sPlaces Try.prog tGuarded = some [(0, 2), (2, 1)] := by kernel_rfl
theorem pl_lGuarded : sPlaces Try.prog 102 = some [(0, 2), (2, 1)] := by kernel_rfl
theorem pl_Reached : sPlaces Try.prog tReached = some [(0, 1), (1, 1), (2, 1), (3, 1)] := by kernel_rfl
theorem pl_lReached : sPlaces Try.prog 38 = some [(0, 1), (1, 1), (2, 1), (3, 1)] := by kernel_rfl
theorem pl_way : sPlaces Try.prog tway = some [(0, 2), (2, 1)] := by kernel_rfl
theorem Own.mkFact {x : Int × List Int} {A1 : List HP} {a1 : Option Addr} {m1 c1 : Nat} (h0 : I64 x.1) (h1 : Own A1 eIs [.slice a1 m1 c1] x.2) : Own ([] ++ A1) eFact [.int .i64 x.1, .slice a1 m1 c1] x := (Own.pair (Own.int h0) h1)
theorem Ent.oFact {n : Nat} {w0 : World} {L0 : List Nat} {fr : Fr} {R : List HP} {G : Act → World → Prop} {cs : List Value} {x : Int × List Int} (h : ∀ (a1 : Option Addr) (m1 c1 : Nat), cs = [.int .i64 x.1, .slice a1 m1 c1] → I64 x.1 → m1 = x.2.length →  Ent n w0 L0 fr (ow eIs [.slice a1 m1 c1] x.2 :: R) G) : Ent n w0 L0 fr (ow eFact cs x :: R) G := fun a w h1 h2 => by
  obtain ⟨L, ⟨Lx, LR, rfl, hx, hR⟩, hn, hst⟩ := h2
  obtain ⟨_, _, _, _, rfl, rfl, h1x, g1x⟩ := hx
  obtain ⟨rfl, ih1x, rfl⟩ := h1x
  obtain ⟨ag1x, mg1x, cg1x, ccg1x, Lag1x, Lbg1x, rfl, eg1x, gg1x, rfl, kg1x, rg1x⟩ := g1x
  refine h ag1x mg1x cg1x rfl ih1x eg1x a w h1 ⟨_, ⟨Lag1x ++ Lbg1x, _, rfl, ⟨ag1x, mg1x, cg1x, ccg1x, Lag1x, Lbg1x, rfl, eg1x, gg1x, rfl, kg1x, rg1x⟩, hR⟩, ?_, ?_⟩
  · simpa [List.append_assoc] using hn
  · simpa [List.append_assoc] using hst
theorem Own.mkAtom {x : Int × List Int} {A1 : List HP} {a1 : Option Addr} {m1 c1 : Nat} (h0 : I64 x.1) (h1 : Own A1 eIs [.slice a1 m1 c1] x.2) : Own ([] ++ A1) eAtom [.int .i64 x.1, .slice a1 m1 c1] x := (Own.pair (Own.int h0) h1)
theorem Ent.oAtom {n : Nat} {w0 : World} {L0 : List Nat} {fr : Fr} {R : List HP} {G : Act → World → Prop} {cs : List Value} {x : Int × List Int} (h : ∀ (a1 : Option Addr) (m1 c1 : Nat), cs = [.int .i64 x.1, .slice a1 m1 c1] → I64 x.1 → m1 = x.2.length →  Ent n w0 L0 fr (ow eIs [.slice a1 m1 c1] x.2 :: R) G) : Ent n w0 L0 fr (ow eAtom cs x :: R) G := fun a w h1 h2 => by
  obtain ⟨L, ⟨Lx, LR, rfl, hx, hR⟩, hn, hst⟩ := h2
  obtain ⟨_, _, _, _, rfl, rfl, h1x, g1x⟩ := hx
  obtain ⟨rfl, ih1x, rfl⟩ := h1x
  obtain ⟨ag1x, mg1x, cg1x, ccg1x, Lag1x, Lbg1x, rfl, eg1x, gg1x, rfl, kg1x, rg1x⟩ := g1x
  refine h ag1x mg1x cg1x rfl ih1x eg1x a w h1 ⟨_, ⟨Lag1x ++ Lbg1x, _, rfl, ⟨ag1x, mg1x, cg1x, ccg1x, Lag1x, Lbg1x, rfl, eg1x, gg1x, rfl, kg1x, rg1x⟩, hR⟩, ?_, ?_⟩
  · simpa [List.append_assoc] using hn
  · simpa [List.append_assoc] using hst
theorem Own.mkAccess {x : Int × List Int} {A1 : List HP} {a1 : Option Addr} {m1 c1 : Nat} (h0 : I64 x.1) (h1 : Own A1 eIs [.slice a1 m1 c1] x.2) : Own ([] ++ A1) eAccess [.int .i64 x.1, .slice a1 m1 c1] x := (Own.pair (Own.int h0) h1)
theorem Ent.oAccess {n : Nat} {w0 : World} {L0 : List Nat} {fr : Fr} {R : List HP} {G : Act → World → Prop} {cs : List Value} {x : Int × List Int} (h : ∀ (a1 : Option Addr) (m1 c1 : Nat), cs = [.int .i64 x.1, .slice a1 m1 c1] → I64 x.1 → m1 = x.2.length →  Ent n w0 L0 fr (ow eIs [.slice a1 m1 c1] x.2 :: R) G) : Ent n w0 L0 fr (ow eAccess cs x :: R) G := fun a w h1 h2 => by
  obtain ⟨L, ⟨Lx, LR, rfl, hx, hR⟩, hn, hst⟩ := h2
  obtain ⟨_, _, _, _, rfl, rfl, h1x, g1x⟩ := hx
  obtain ⟨rfl, ih1x, rfl⟩ := h1x
  obtain ⟨ag1x, mg1x, cg1x, ccg1x, Lag1x, Lbg1x, rfl, eg1x, gg1x, rfl, kg1x, rg1x⟩ := g1x
  refine h ag1x mg1x cg1x rfl ih1x eg1x a w h1 ⟨_, ⟨Lag1x ++ Lbg1x, _, rfl, ⟨ag1x, mg1x, cg1x, ccg1x, Lag1x, Lbg1x, rfl, eg1x, gg1x, rfl, kg1x, rg1x⟩, hR⟩, ?_, ?_⟩
  · simpa [List.append_assoc] using hn
  · simpa [List.append_assoc] using hst
theorem Own.mkStep {x : Int × Int}  (h0 : I64 x.1) (h1 : I64 x.2) : Own ([] ++ []) eStep [.int .i64 x.1, .int .i64 x.2] x := (Own.pair (Own.int h0) (Own.int h1))
theorem Ent.oStep {n : Nat} {w0 : World} {L0 : List Nat} {fr : Fr} {R : List HP} {G : Act → World → Prop} {cs : List Value} {x : Int × Int} (h :  cs = [.int .i64 x.1, .int .i64 x.2] → I64 x.1 → I64 x.2 →  Ent n w0 L0 fr (R) G) : Ent n w0 L0 fr (ow eStep cs x :: R) G := fun a w h1 h2 => by
  obtain ⟨L, ⟨Lx, LR, rfl, hx, hR⟩, hn, hst⟩ := h2
  obtain ⟨_, _, _, _, rfl, rfl, h1x, g1x⟩ := hx
  obtain ⟨rfl, ih1x, rfl⟩ := h1x
  obtain ⟨rfl, ig1x, rfl⟩ := g1x
  refine h  rfl ih1x ig1x a w h1 ⟨_, hR, ?_, ?_⟩
  · simpa [List.append_assoc] using hn
  · simpa [List.append_assoc] using hst
theorem Own.mkQuery {x : List Int × List (Int × List Int)} {A0 : List HP} {a0 : Option Addr} {m0 c0 : Nat} {A1 : List HP} {a1 : Option Addr} {m1 c1 : Nat} (h0 : Own A0 eIs [.slice a0 m0 c0] x.1) (h1 : Own A1 eAtoms [.slice a1 m1 c1] x.2) : Own (A0 ++ A1) eQuery [.slice a0 m0 c0, .slice a1 m1 c1] x := (Own.pair h0 h1)
theorem Ent.oQuery {n : Nat} {w0 : World} {L0 : List Nat} {fr : Fr} {R : List HP} {G : Act → World → Prop} {cs : List Value} {x : List Int × List (Int × List Int)} (h : ∀ (a0 : Option Addr) (m0 c0 : Nat) (a1 : Option Addr) (m1 c1 : Nat), cs = [.slice a0 m0 c0, .slice a1 m1 c1] → m0 = x.1.length → m1 = x.2.length →  Ent n w0 L0 fr (ow eIs [.slice a0 m0 c0] x.1 :: ow eAtoms [.slice a1 m1 c1] x.2 :: R) G) : Ent n w0 L0 fr (ow eQuery cs x :: R) G := fun a w h1 h2 => by
  obtain ⟨L, ⟨Lx, LR, rfl, hx, hR⟩, hn, hst⟩ := h2
  obtain ⟨_, _, _, _, rfl, rfl, h1x, g1x⟩ := hx
  obtain ⟨ah1x, mh1x, ch1x, cch1x, Lah1x, Lbh1x, rfl, eh1x, gh1x, rfl, kh1x, rh1x⟩ := h1x
  obtain ⟨ag1x, mg1x, cg1x, ccg1x, Lag1x, Lbg1x, rfl, eg1x, gg1x, rfl, kg1x, rg1x⟩ := g1x
  refine h ah1x mh1x ch1x ag1x mg1x cg1x rfl eh1x eg1x a w h1 ⟨_, ⟨Lah1x ++ Lbh1x, _, rfl, ⟨ah1x, mh1x, ch1x, cch1x, Lah1x, Lbh1x, rfl, eh1x, gh1x, rfl, kh1x, rh1x⟩, ⟨Lag1x ++ Lbg1x, _, rfl, ⟨ag1x, mg1x, cg1x, ccg1x, Lag1x, Lbg1x, rfl, eg1x, gg1x, rfl, kg1x, rg1x⟩, hR⟩⟩, ?_, ?_⟩
  · simpa [List.append_assoc] using hn
  · simpa [List.append_assoc] using hst
theorem Own.mkBinding {x : List Int × List Int} {A0 : List HP} {a0 : Option Addr} {m0 c0 : Nat} {A1 : List HP} {a1 : Option Addr} {m1 c1 : Nat} (h0 : Own A0 eIs [.slice a0 m0 c0] x.1) (h1 : Own A1 eIs [.slice a1 m1 c1] x.2) : Own (A0 ++ A1) eBinding [.slice a0 m0 c0, .slice a1 m1 c1] x := (Own.pair h0 h1)
theorem Ent.oBinding {n : Nat} {w0 : World} {L0 : List Nat} {fr : Fr} {R : List HP} {G : Act → World → Prop} {cs : List Value} {x : List Int × List Int} (h : ∀ (a0 : Option Addr) (m0 c0 : Nat) (a1 : Option Addr) (m1 c1 : Nat), cs = [.slice a0 m0 c0, .slice a1 m1 c1] → m0 = x.1.length → m1 = x.2.length →  Ent n w0 L0 fr (ow eIs [.slice a0 m0 c0] x.1 :: ow eIs [.slice a1 m1 c1] x.2 :: R) G) : Ent n w0 L0 fr (ow eBinding cs x :: R) G := fun a w h1 h2 => by
  obtain ⟨L, ⟨Lx, LR, rfl, hx, hR⟩, hn, hst⟩ := h2
  obtain ⟨_, _, _, _, rfl, rfl, h1x, g1x⟩ := hx
  obtain ⟨ah1x, mh1x, ch1x, cch1x, Lah1x, Lbh1x, rfl, eh1x, gh1x, rfl, kh1x, rh1x⟩ := h1x
  obtain ⟨ag1x, mg1x, cg1x, ccg1x, Lag1x, Lbg1x, rfl, eg1x, gg1x, rfl, kg1x, rg1x⟩ := g1x
  refine h ah1x mh1x ch1x ag1x mg1x cg1x rfl eh1x eg1x a w h1 ⟨_, ⟨Lah1x ++ Lbh1x, _, rfl, ⟨ah1x, mh1x, ch1x, cch1x, Lah1x, Lbh1x, rfl, eh1x, gh1x, rfl, kh1x, rh1x⟩, ⟨Lag1x ++ Lbg1x, _, rfl, ⟨ag1x, mg1x, cg1x, ccg1x, Lag1x, Lbg1x, rfl, eg1x, gg1x, rfl, kg1x, rg1x⟩, hR⟩⟩, ?_, ?_⟩
  · simpa [List.append_assoc] using hn
  · simpa [List.append_assoc] using hst
theorem Own.mkMethod {x : Int × List Int × Int × Int × Int} {A1 : List HP} {a1 : Option Addr} {m1 c1 : Nat} (h0 : I64 x.1) (h1 : Own A1 eIs [.slice a1 m1 c1] x.2.1) (h2 : I64 x.2.2.1) (h3 : I64 x.2.2.2.1) (h4 : I64 x.2.2.2.2) : Own ([] ++ (A1 ++ ([] ++ ([] ++ [])))) eMethod [.int .i64 x.1, .slice a1 m1 c1, .int .i64 x.2.2.1, .int .i64 x.2.2.2.1, .int .i64 x.2.2.2.2] x := (Own.pair (Own.int h0) (Own.pair h1 (Own.pair (Own.int h2) (Own.pair (Own.int h3) (Own.int h4)))))
theorem Ent.oMethod {n : Nat} {w0 : World} {L0 : List Nat} {fr : Fr} {R : List HP} {G : Act → World → Prop} {cs : List Value} {x : Int × List Int × Int × Int × Int} (h : ∀ (a1 : Option Addr) (m1 c1 : Nat), cs = [.int .i64 x.1, .slice a1 m1 c1, .int .i64 x.2.2.1, .int .i64 x.2.2.2.1, .int .i64 x.2.2.2.2] → I64 x.1 → m1 = x.2.1.length → I64 x.2.2.1 → I64 x.2.2.2.1 → I64 x.2.2.2.2 →  Ent n w0 L0 fr (ow eIs [.slice a1 m1 c1] x.2.1 :: R) G) : Ent n w0 L0 fr (ow eMethod cs x :: R) G := fun a w h1 h2 => by
  obtain ⟨L, ⟨Lx, LR, rfl, hx, hR⟩, hn, hst⟩ := h2
  obtain ⟨_, _, _, _, rfl, rfl, h1x, g1x⟩ := hx
  obtain ⟨rfl, ih1x, rfl⟩ := h1x
  obtain ⟨_, _, _, _, rfl, rfl, h2x, g2x⟩ := g1x
  obtain ⟨ah2x, mh2x, ch2x, cch2x, Lah2x, Lbh2x, rfl, eh2x, gh2x, rfl, kh2x, rh2x⟩ := h2x
  obtain ⟨_, _, _, _, rfl, rfl, h3x, g3x⟩ := g2x
  obtain ⟨rfl, ih3x, rfl⟩ := h3x
  obtain ⟨_, _, _, _, rfl, rfl, h4x, g4x⟩ := g3x
  obtain ⟨rfl, ih4x, rfl⟩ := h4x
  obtain ⟨rfl, ig4x, rfl⟩ := g4x
  refine h ah2x mh2x ch2x rfl ih1x eh2x ih3x ih4x ig4x a w h1 ⟨_, ⟨Lah2x ++ Lbh2x, _, rfl, ⟨ah2x, mh2x, ch2x, cch2x, Lah2x, Lbh2x, rfl, eh2x, gh2x, rfl, kh2x, rh2x⟩, hR⟩, ?_, ?_⟩
  · simpa [List.append_assoc] using hn
  · simpa [List.append_assoc] using hst
theorem Own.mkRule {x : Int × Int × List Int} {A2 : List HP} {a2 : Option Addr} {m2 c2 : Nat} (h0 : I64 x.1) (h1 : I64 x.2.1) (h2 : Own A2 eIs [.slice a2 m2 c2] x.2.2) : Own ([] ++ ([] ++ A2)) eRule [.int .i64 x.1, .int .i64 x.2.1, .slice a2 m2 c2] x := (Own.pair (Own.int h0) (Own.pair (Own.int h1) h2))
theorem Ent.oRule {n : Nat} {w0 : World} {L0 : List Nat} {fr : Fr} {R : List HP} {G : Act → World → Prop} {cs : List Value} {x : Int × Int × List Int} (h : ∀ (a2 : Option Addr) (m2 c2 : Nat), cs = [.int .i64 x.1, .int .i64 x.2.1, .slice a2 m2 c2] → I64 x.1 → I64 x.2.1 → m2 = x.2.2.length →  Ent n w0 L0 fr (ow eIs [.slice a2 m2 c2] x.2.2 :: R) G) : Ent n w0 L0 fr (ow eRule cs x :: R) G := fun a w h1 h2 => by
  obtain ⟨L, ⟨Lx, LR, rfl, hx, hR⟩, hn, hst⟩ := h2
  obtain ⟨_, _, _, _, rfl, rfl, h1x, g1x⟩ := hx
  obtain ⟨rfl, ih1x, rfl⟩ := h1x
  obtain ⟨_, _, _, _, rfl, rfl, h2x, g2x⟩ := g1x
  obtain ⟨rfl, ih2x, rfl⟩ := h2x
  obtain ⟨ag2x, mg2x, cg2x, ccg2x, Lag2x, Lbg2x, rfl, eg2x, gg2x, rfl, kg2x, rg2x⟩ := g2x
  refine h ag2x mg2x cg2x rfl ih1x ih2x eg2x a w h1 ⟨_, ⟨Lag2x ++ Lbg2x, _, rfl, ⟨ag2x, mg2x, cg2x, ccg2x, Lag2x, Lbg2x, rfl, eg2x, gg2x, rfl, kg2x, rg2x⟩, hR⟩, ?_, ?_⟩
  · simpa [List.append_assoc] using hn
  · simpa [List.append_assoc] using hst
theorem Own.mkGuarded {x : (List Int × List (Int × List Int)) × List (Int × List Int)} {A0 : List HP} {a0 : Option Addr} {m0 c0 : Nat} {A1 : List HP} {a1 : Option Addr} {m1 c1 : Nat} {A2 : List HP} {a2 : Option Addr} {m2 c2 : Nat} (h0 : Own A0 eIs [.slice a0 m0 c0] x.1.1) (h1 : Own A1 eAtoms [.slice a1 m1 c1] x.1.2) (h2 : Own A2 eAtoms [.slice a2 m2 c2] x.2) : Own ((A0 ++ A1) ++ A2) eGuarded [.slice a0 m0 c0, .slice a1 m1 c1, .slice a2 m2 c2] x := (Own.pair (Own.pair h0 h1) h2)
theorem Ent.oGuarded {n : Nat} {w0 : World} {L0 : List Nat} {fr : Fr} {R : List HP} {G : Act → World → Prop} {cs : List Value} {x : (List Int × List (Int × List Int)) × List (Int × List Int)} (h : ∀ (a0 : Option Addr) (m0 c0 : Nat) (a1 : Option Addr) (m1 c1 : Nat) (a2 : Option Addr) (m2 c2 : Nat), cs = [.slice a0 m0 c0, .slice a1 m1 c1, .slice a2 m2 c2] → m0 = x.1.1.length → m1 = x.1.2.length → m2 = x.2.length →  Ent n w0 L0 fr (ow eIs [.slice a0 m0 c0] x.1.1 :: ow eAtoms [.slice a1 m1 c1] x.1.2 :: ow eAtoms [.slice a2 m2 c2] x.2 :: R) G) : Ent n w0 L0 fr (ow eGuarded cs x :: R) G := fun a w h1 h2 => by
  obtain ⟨L, ⟨Lx, LR, rfl, hx, hR⟩, hn, hst⟩ := h2
  obtain ⟨_, _, _, _, rfl, rfl, h1x, g1x⟩ := hx
  obtain ⟨_, _, _, _, rfl, rfl, h2x, g2x⟩ := h1x
  obtain ⟨ah2x, mh2x, ch2x, cch2x, Lah2x, Lbh2x, rfl, eh2x, gh2x, rfl, kh2x, rh2x⟩ := h2x
  obtain ⟨ag2x, mg2x, cg2x, ccg2x, Lag2x, Lbg2x, rfl, eg2x, gg2x, rfl, kg2x, rg2x⟩ := g2x
  obtain ⟨ag1x, mg1x, cg1x, ccg1x, Lag1x, Lbg1x, rfl, eg1x, gg1x, rfl, kg1x, rg1x⟩ := g1x
  refine h ah2x mh2x ch2x ag2x mg2x cg2x ag1x mg1x cg1x rfl eh2x eg2x eg1x a w h1 ⟨_, ⟨Lah2x ++ Lbh2x, _, rfl, ⟨ah2x, mh2x, ch2x, cch2x, Lah2x, Lbh2x, rfl, eh2x, gh2x, rfl, kh2x, rh2x⟩, ⟨Lag2x ++ Lbg2x, _, rfl, ⟨ag2x, mg2x, cg2x, ccg2x, Lag2x, Lbg2x, rfl, eg2x, gg2x, rfl, kg2x, rg2x⟩, ⟨Lag1x ++ Lbg1x, _, rfl, ⟨ag1x, mg1x, cg1x, ccg1x, Lag1x, Lbg1x, rfl, eg1x, gg1x, rfl, kg1x, rg1x⟩, hR⟩⟩⟩, ?_, ?_⟩
  · simpa [List.append_assoc] using hn
  · simpa [List.append_assoc] using hst
theorem Own.mkLine {x : Int × (Int × List Int) × Int × List Int} {A2 : List HP} {a2 : Option Addr} {m2 c2 : Nat} {A4 : List HP} {a4 : Option Addr} {m4 c4 : Nat} (h0 : I64 x.1) (h1 : I64 x.2.1.1) (h2 : Own A2 eIs [.slice a2 m2 c2] x.2.1.2) (h3 : I64 x.2.2.1) (h4 : Own A4 eIs [.slice a4 m4 c4] x.2.2.2) : Own ([] ++ (([] ++ A2) ++ ([] ++ A4))) eLine [.int .i64 x.1, .int .i64 x.2.1.1, .slice a2 m2 c2, .int .i64 x.2.2.1, .slice a4 m4 c4] x := (Own.pair (Own.int h0) (Own.pair (Own.pair (Own.int h1) h2) (Own.pair (Own.int h3) h4)))
theorem Ent.oLine {n : Nat} {w0 : World} {L0 : List Nat} {fr : Fr} {R : List HP} {G : Act → World → Prop} {cs : List Value} {x : Int × (Int × List Int) × Int × List Int} (h : ∀ (a2 : Option Addr) (m2 c2 : Nat) (a4 : Option Addr) (m4 c4 : Nat), cs = [.int .i64 x.1, .int .i64 x.2.1.1, .slice a2 m2 c2, .int .i64 x.2.2.1, .slice a4 m4 c4] → I64 x.1 → I64 x.2.1.1 → m2 = x.2.1.2.length → I64 x.2.2.1 → m4 = x.2.2.2.length →  Ent n w0 L0 fr (ow eIs [.slice a2 m2 c2] x.2.1.2 :: ow eIs [.slice a4 m4 c4] x.2.2.2 :: R) G) : Ent n w0 L0 fr (ow eLine cs x :: R) G := fun a w h1 h2 => by
  obtain ⟨L, ⟨Lx, LR, rfl, hx, hR⟩, hn, hst⟩ := h2
  obtain ⟨_, _, _, _, rfl, rfl, h1x, g1x⟩ := hx
  obtain ⟨rfl, ih1x, rfl⟩ := h1x
  obtain ⟨_, _, _, _, rfl, rfl, h2x, g2x⟩ := g1x
  obtain ⟨_, _, _, _, rfl, rfl, h3x, g3x⟩ := h2x
  obtain ⟨rfl, ih3x, rfl⟩ := h3x
  obtain ⟨ag3x, mg3x, cg3x, ccg3x, Lag3x, Lbg3x, rfl, eg3x, gg3x, rfl, kg3x, rg3x⟩ := g3x
  obtain ⟨_, _, _, _, rfl, rfl, h4x, g4x⟩ := g2x
  obtain ⟨rfl, ih4x, rfl⟩ := h4x
  obtain ⟨ag4x, mg4x, cg4x, ccg4x, Lag4x, Lbg4x, rfl, eg4x, gg4x, rfl, kg4x, rg4x⟩ := g4x
  refine h ag3x mg3x cg3x ag4x mg4x cg4x rfl ih1x ih3x eg3x ih4x eg4x a w h1 ⟨_, ⟨Lag3x ++ Lbg3x, _, rfl, ⟨ag3x, mg3x, cg3x, ccg3x, Lag3x, Lbg3x, rfl, eg3x, gg3x, rfl, kg3x, rg3x⟩, ⟨Lag4x ++ Lbg4x, _, rfl, ⟨ag4x, mg4x, cg4x, ccg4x, Lag4x, Lbg4x, rfl, eg4x, gg4x, rfl, kg4x, rg4x⟩, hR⟩⟩, ?_, ?_⟩
  · simpa [List.append_assoc] using hn
  · simpa [List.append_assoc] using hst
theorem Own.mkProof {x : List (Int × (Int × List Int) × Int × List Int)} {A0 : List HP} {a0 : Option Addr} {m0 c0 : Nat} (h0 : Own A0 eLines [.slice a0 m0 c0] x) : Own A0 eProof [.slice a0 m0 c0] x := h0
theorem Ent.oProof {n : Nat} {w0 : World} {L0 : List Nat} {fr : Fr} {R : List HP} {G : Act → World → Prop} {cs : List Value} {x : List (Int × (Int × List Int) × Int × List Int)} (h : ∀ (a0 : Option Addr) (m0 c0 : Nat), cs = [.slice a0 m0 c0] → m0 = x.length →  Ent n w0 L0 fr (ow eLines [.slice a0 m0 c0] x :: R) G) : Ent n w0 L0 fr (ow eProof cs x :: R) G := fun a w h1 h2 => by
  obtain ⟨L, ⟨Lx, LR, rfl, hx, hR⟩, hn, hst⟩ := h2
  obtain ⟨ahx, mhx, chx, cchx, Lahx, Lbhx, rfl, ehx, ghx, rfl, khx, rhx⟩ := hx
  refine h ahx mhx chx rfl ehx a w h1 ⟨_, ⟨Lahx ++ Lbhx, _, rfl, ⟨ahx, mhx, chx, cchx, Lahx, Lbhx, rfl, ehx, ghx, rfl, khx, rhx⟩, hR⟩, ?_, ?_⟩
  · simpa [List.append_assoc] using hn
  · simpa [List.append_assoc] using hst
theorem Own.mkReached {x : (List (Int × List Int)) × List Int × (List (Int × List Int)) × Int} {A0 : List HP} {a0 : Option Addr} {m0 c0 : Nat} {A1 : List HP} {a1 : Option Addr} {m1 c1 : Nat} {A2 : List HP} {a2 : Option Addr} {m2 c2 : Nat} (h0 : Own A0 eFacts [.slice a0 m0 c0] x.1) (h1 : Own A1 eIs [.slice a1 m1 c1] x.2.1) (h2 : Own A2 eAccesss [.slice a2 m2 c2] x.2.2.1) (h3 : I64 x.2.2.2) : Own (A0 ++ (A1 ++ (A2 ++ []))) eReached [.slice a0 m0 c0, .slice a1 m1 c1, .slice a2 m2 c2, .int .i64 x.2.2.2] x := (Own.pair h0 (Own.pair h1 (Own.pair h2 (Own.int h3))))
theorem Ent.oReached {n : Nat} {w0 : World} {L0 : List Nat} {fr : Fr} {R : List HP} {G : Act → World → Prop} {cs : List Value} {x : (List (Int × List Int)) × List Int × (List (Int × List Int)) × Int} (h : ∀ (a0 : Option Addr) (m0 c0 : Nat) (a1 : Option Addr) (m1 c1 : Nat) (a2 : Option Addr) (m2 c2 : Nat), cs = [.slice a0 m0 c0, .slice a1 m1 c1, .slice a2 m2 c2, .int .i64 x.2.2.2] → m0 = x.1.length → m1 = x.2.1.length → m2 = x.2.2.1.length → I64 x.2.2.2 →  Ent n w0 L0 fr (ow eFacts [.slice a0 m0 c0] x.1 :: ow eIs [.slice a1 m1 c1] x.2.1 :: ow eAccesss [.slice a2 m2 c2] x.2.2.1 :: R) G) : Ent n w0 L0 fr (ow eReached cs x :: R) G := fun a w h1 h2 => by
  obtain ⟨L, ⟨Lx, LR, rfl, hx, hR⟩, hn, hst⟩ := h2
  obtain ⟨_, _, _, _, rfl, rfl, h1x, g1x⟩ := hx
  obtain ⟨ah1x, mh1x, ch1x, cch1x, Lah1x, Lbh1x, rfl, eh1x, gh1x, rfl, kh1x, rh1x⟩ := h1x
  obtain ⟨_, _, _, _, rfl, rfl, h2x, g2x⟩ := g1x
  obtain ⟨ah2x, mh2x, ch2x, cch2x, Lah2x, Lbh2x, rfl, eh2x, gh2x, rfl, kh2x, rh2x⟩ := h2x
  obtain ⟨_, _, _, _, rfl, rfl, h3x, g3x⟩ := g2x
  obtain ⟨ah3x, mh3x, ch3x, cch3x, Lah3x, Lbh3x, rfl, eh3x, gh3x, rfl, kh3x, rh3x⟩ := h3x
  obtain ⟨rfl, ig3x, rfl⟩ := g3x
  refine h ah1x mh1x ch1x ah2x mh2x ch2x ah3x mh3x ch3x rfl eh1x eh2x eh3x ig3x a w h1 ⟨_, ⟨Lah1x ++ Lbh1x, _, rfl, ⟨ah1x, mh1x, ch1x, cch1x, Lah1x, Lbh1x, rfl, eh1x, gh1x, rfl, kh1x, rh1x⟩, ⟨Lah2x ++ Lbh2x, _, rfl, ⟨ah2x, mh2x, ch2x, cch2x, Lah2x, Lbh2x, rfl, eh2x, gh2x, rfl, kh2x, rh2x⟩, ⟨Lah3x ++ Lbh3x, _, rfl, ⟨ah3x, mh3x, ch3x, cch3x, Lah3x, Lbh3x, rfl, eh3x, gh3x, rfl, kh3x, rh3x⟩, hR⟩⟩⟩, ?_, ?_⟩
  · simpa [List.append_assoc] using hn
  · simpa [List.append_assoc] using hst
theorem Own.mkRun {x : List (List Int) × (List (Int × List Int)) × (List (Int × List Int)) × Int} {A0 : List HP} {a0 : Option Addr} {m0 c0 : Nat} {A1 : List HP} {a1 : Option Addr} {m1 c1 : Nat} {A2 : List HP} {a2 : Option Addr} {m2 c2 : Nat} (h0 : Own A0 eIss [.slice a0 m0 c0] x.1) (h1 : Own A1 eAccesss [.slice a1 m1 c1] x.2.1) (h2 : Own A2 eFacts [.slice a2 m2 c2] x.2.2.1) (h3 : I64 x.2.2.2) : Own (A0 ++ (A1 ++ (A2 ++ []))) eRun [.slice a0 m0 c0, .slice a1 m1 c1, .slice a2 m2 c2, .int .i64 x.2.2.2] x := (Own.pair h0 (Own.pair h1 (Own.pair h2 (Own.int h3))))
theorem Ent.oRun {n : Nat} {w0 : World} {L0 : List Nat} {fr : Fr} {R : List HP} {G : Act → World → Prop} {cs : List Value} {x : List (List Int) × (List (Int × List Int)) × (List (Int × List Int)) × Int} (h : ∀ (a0 : Option Addr) (m0 c0 : Nat) (a1 : Option Addr) (m1 c1 : Nat) (a2 : Option Addr) (m2 c2 : Nat), cs = [.slice a0 m0 c0, .slice a1 m1 c1, .slice a2 m2 c2, .int .i64 x.2.2.2] → m0 = x.1.length → m1 = x.2.1.length → m2 = x.2.2.1.length → I64 x.2.2.2 →  Ent n w0 L0 fr (ow eIss [.slice a0 m0 c0] x.1 :: ow eAccesss [.slice a1 m1 c1] x.2.1 :: ow eFacts [.slice a2 m2 c2] x.2.2.1 :: R) G) : Ent n w0 L0 fr (ow eRun cs x :: R) G := fun a w h1 h2 => by
  obtain ⟨L, ⟨Lx, LR, rfl, hx, hR⟩, hn, hst⟩ := h2
  obtain ⟨_, _, _, _, rfl, rfl, h1x, g1x⟩ := hx
  obtain ⟨ah1x, mh1x, ch1x, cch1x, Lah1x, Lbh1x, rfl, eh1x, gh1x, rfl, kh1x, rh1x⟩ := h1x
  obtain ⟨_, _, _, _, rfl, rfl, h2x, g2x⟩ := g1x
  obtain ⟨ah2x, mh2x, ch2x, cch2x, Lah2x, Lbh2x, rfl, eh2x, gh2x, rfl, kh2x, rh2x⟩ := h2x
  obtain ⟨_, _, _, _, rfl, rfl, h3x, g3x⟩ := g2x
  obtain ⟨ah3x, mh3x, ch3x, cch3x, Lah3x, Lbh3x, rfl, eh3x, gh3x, rfl, kh3x, rh3x⟩ := h3x
  obtain ⟨rfl, ig3x, rfl⟩ := g3x
  refine h ah1x mh1x ch1x ah2x mh2x ch2x ah3x mh3x ch3x rfl eh1x eh2x eh3x ig3x a w h1 ⟨_, ⟨Lah1x ++ Lbh1x, _, rfl, ⟨ah1x, mh1x, ch1x, cch1x, Lah1x, Lbh1x, rfl, eh1x, gh1x, rfl, kh1x, rh1x⟩, ⟨Lah2x ++ Lbh2x, _, rfl, ⟨ah2x, mh2x, ch2x, cch2x, Lah2x, Lbh2x, rfl, eh2x, gh2x, rfl, kh2x, rh2x⟩, ⟨Lah3x ++ Lbh3x, _, rfl, ⟨ah3x, mh3x, ch3x, cch3x, Lah3x, Lbh3x, rfl, eh3x, gh3x, rfl, kh3x, rh3x⟩, hR⟩⟩⟩, ?_, ?_⟩
  · simpa [List.append_assoc] using hn
  · simpa [List.append_assoc] using hst
theorem Own.mkCertificate {x : (List (Int × List Int)) × (List (Int × List Int)) × List Int} {A0 : List HP} {a0 : Option Addr} {m0 c0 : Nat} {A1 : List HP} {a1 : Option Addr} {m1 c1 : Nat} {A2 : List HP} {a2 : Option Addr} {m2 c2 : Nat} (h0 : Own A0 eFacts [.slice a0 m0 c0] x.1) (h1 : Own A1 eFacts [.slice a1 m1 c1] x.2.1) (h2 : Own A2 eIs [.slice a2 m2 c2] x.2.2) : Own (A0 ++ (A1 ++ A2)) eCertificate [.slice a0 m0 c0, .slice a1 m1 c1, .slice a2 m2 c2] x := (Own.pair h0 (Own.pair h1 h2))
theorem Ent.oCertificate {n : Nat} {w0 : World} {L0 : List Nat} {fr : Fr} {R : List HP} {G : Act → World → Prop} {cs : List Value} {x : (List (Int × List Int)) × (List (Int × List Int)) × List Int} (h : ∀ (a0 : Option Addr) (m0 c0 : Nat) (a1 : Option Addr) (m1 c1 : Nat) (a2 : Option Addr) (m2 c2 : Nat), cs = [.slice a0 m0 c0, .slice a1 m1 c1, .slice a2 m2 c2] → m0 = x.1.length → m1 = x.2.1.length → m2 = x.2.2.length →  Ent n w0 L0 fr (ow eFacts [.slice a0 m0 c0] x.1 :: ow eFacts [.slice a1 m1 c1] x.2.1 :: ow eIs [.slice a2 m2 c2] x.2.2 :: R) G) : Ent n w0 L0 fr (ow eCertificate cs x :: R) G := fun a w h1 h2 => by
  obtain ⟨L, ⟨Lx, LR, rfl, hx, hR⟩, hn, hst⟩ := h2
  obtain ⟨_, _, _, _, rfl, rfl, h1x, g1x⟩ := hx
  obtain ⟨ah1x, mh1x, ch1x, cch1x, Lah1x, Lbh1x, rfl, eh1x, gh1x, rfl, kh1x, rh1x⟩ := h1x
  obtain ⟨_, _, _, _, rfl, rfl, h2x, g2x⟩ := g1x
  obtain ⟨ah2x, mh2x, ch2x, cch2x, Lah2x, Lbh2x, rfl, eh2x, gh2x, rfl, kh2x, rh2x⟩ := h2x
  obtain ⟨ag2x, mg2x, cg2x, ccg2x, Lag2x, Lbg2x, rfl, eg2x, gg2x, rfl, kg2x, rg2x⟩ := g2x
  refine h ah1x mh1x ch1x ah2x mh2x ch2x ag2x mg2x cg2x rfl eh1x eh2x eg2x a w h1 ⟨_, ⟨Lah1x ++ Lbh1x, _, rfl, ⟨ah1x, mh1x, ch1x, cch1x, Lah1x, Lbh1x, rfl, eh1x, gh1x, rfl, kh1x, rh1x⟩, ⟨Lah2x ++ Lbh2x, _, rfl, ⟨ah2x, mh2x, ch2x, cch2x, Lah2x, Lbh2x, rfl, eh2x, gh2x, rfl, kh2x, rh2x⟩, ⟨Lag2x ++ Lbg2x, _, rfl, ⟨ag2x, mg2x, cg2x, ccg2x, Lag2x, Lbg2x, rfl, eg2x, gg2x, rfl, kg2x, rg2x⟩, hR⟩⟩⟩, ?_, ?_⟩
  · simpa [List.append_assoc] using hn
  · simpa [List.append_assoc] using hst
theorem Own.mkway {x : (Int × List Int) × List Int} {A1 : List HP} {a1 : Option Addr} {m1 c1 : Nat} {A2 : List HP} {a2 : Option Addr} {m2 c2 : Nat} (h0 : I64 x.1.1) (h1 : Own A1 eIs [.slice a1 m1 c1] x.1.2) (h2 : Own A2 eIs [.slice a2 m2 c2] x.2) : Own (([] ++ A1) ++ A2) eway [.int .i64 x.1.1, .slice a1 m1 c1, .slice a2 m2 c2] x := (Own.pair (Own.pair (Own.int h0) h1) h2)
theorem Ent.oway {n : Nat} {w0 : World} {L0 : List Nat} {fr : Fr} {R : List HP} {G : Act → World → Prop} {cs : List Value} {x : (Int × List Int) × List Int} (h : ∀ (a1 : Option Addr) (m1 c1 : Nat) (a2 : Option Addr) (m2 c2 : Nat), cs = [.int .i64 x.1.1, .slice a1 m1 c1, .slice a2 m2 c2] → I64 x.1.1 → m1 = x.1.2.length → m2 = x.2.length →  Ent n w0 L0 fr (ow eIs [.slice a1 m1 c1] x.1.2 :: ow eIs [.slice a2 m2 c2] x.2 :: R) G) : Ent n w0 L0 fr (ow eway cs x :: R) G := fun a w h1 h2 => by
  obtain ⟨L, ⟨Lx, LR, rfl, hx, hR⟩, hn, hst⟩ := h2
  obtain ⟨_, _, _, _, rfl, rfl, h1x, g1x⟩ := hx
  obtain ⟨_, _, _, _, rfl, rfl, h2x, g2x⟩ := h1x
  obtain ⟨rfl, ih2x, rfl⟩ := h2x
  obtain ⟨ag2x, mg2x, cg2x, ccg2x, Lag2x, Lbg2x, rfl, eg2x, gg2x, rfl, kg2x, rg2x⟩ := g2x
  obtain ⟨ag1x, mg1x, cg1x, ccg1x, Lag1x, Lbg1x, rfl, eg1x, gg1x, rfl, kg1x, rg1x⟩ := g1x
  refine h ag2x mg2x cg2x ag1x mg1x cg1x rfl ih2x eg2x eg1x a w h1 ⟨_, ⟨Lag2x ++ Lbg2x, _, rfl, ⟨ag2x, mg2x, cg2x, ccg2x, Lag2x, Lbg2x, rfl, eg2x, gg2x, rfl, kg2x, rg2x⟩, ⟨Lag1x ++ Lbg1x, _, rfl, ⟨ag1x, mg1x, cg1x, ccg1x, Lag1x, Lbg1x, rfl, eg1x, gg1x, rfl, kg1x, rg1x⟩, hR⟩⟩, ?_, ?_⟩
  · simpa [List.append_assoc] using hn
  · simpa [List.append_assoc] using hst
end Go.Proofs.Ytnagfcajnbkdoaa
