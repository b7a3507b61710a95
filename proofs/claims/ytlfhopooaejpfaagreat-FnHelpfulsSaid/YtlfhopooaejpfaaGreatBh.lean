import Derived.Test.YtlfhopooaejpfaaGreatBd
namespace Go.Proofs.YtlfhopooaejpfaaGreat
open Go.RowKit
set_option linter.unusedVariables false
section
variable {P : Program} {n : Nat} {w0 : World} {L0 : List Nat} {fr : Fr} {H : List HP} {fn : Func} {κ : Type} {φ : κ → Prop} {ret : κ → Value} {post : κ → List HP} {wb : World} {Lb : List Nat}
theorem b3O (hb : U4 w0 L0 wb Lb) {e : Exit} {s t u b : Nat} {T T' : TypeId} {k' : Nat} {z : List Value} {by' : Nat} {cs : List Value} {v v' : Value} (hres : fn.results = #[.tmp s, .cell t T, .tmp u]) (hv0 : fr.lookup s = some v) (hv : fr.lookup t = some (.pointer (some ⟨b, 0, none⟩))) (hv' : fr.lookup u = some v') (hm : pt b T' cs ∈ H) (ht : TyOk P T true k' z by') (hl : cs.length = k')
  (k : κ) (hk : φ k) (hr : .tuple #[v, .agg cs.toArray, v'] = ret k) {J : List HP} (hH : H.Perm (post k ++ J)) (he : e = .ret ∨ e = .normal) : Ent n w0 L0 fr H (bodyPost P fn (Fin φ ret post wb Lb) e) :=
 a0L hb he k hk hr hH fun a w h1 h2 => by
  have h0 := h1.ev (x := .tmp s) hv0
  have h3 := h1.ev (x := .tmp t) hv
  have h5 := h1.ev (x := .tmp u) hv'
  simp only [Act.eval] at h0 h3 h5
  have h4 := ((Has.pt (w0 := w0) (L0 := L0) hm) w h2).run_load (P := P) (v := .agg cs.toArray) ht hl rfl (fun h => by cases h)
  simp only [Instr.loadAt, Instr.sureAddr, Sem.run_bind, Sem.run_pure, Result.andThen_ok] at h4
  rw [Array.getD_eq_getD_getElem?] at h0 h3 h5
  simp [results, hres, h0, h3, h5, asAddr, h4]
end
end Go.Proofs.YtlfhopooaejpfaaGreat
