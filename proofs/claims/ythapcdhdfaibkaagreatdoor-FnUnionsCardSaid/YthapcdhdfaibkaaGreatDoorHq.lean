import Derived.Test.YthapcdhdfaibkaaGreatDoorGc
import Derived.Test.YthapcdhdfaibkaaGreatDoorIb
section
namespace Go.Proofs.YthapcdhdfaibkaaGreatDoor
set_option linter.all false
def c6j (x:List (List Int)×List IL×List IL×Int):Nat:=E7 a4A x.1+E7 a1j x.2.1+E7 W9 x.2.2.1+1
def c6l (x:List (List Int)×List IL×List IL×Int) (k:Int):List (List Int)×List IL×List IL×Int:=(mkL a4A c4r x.1 (k),mkL a1j a7G x.2.1 (k+(E7 a4A x.1:Nat)),mkL W9 a6k x.2.2.1 (k+(E7 a4A x.1:Nat)+(E7 a1j x.2.1:Nat)),(k+(E7 a4A x.1:Nat)+(E7 a1j x.2.1:Nat)+(E7 W9 x.2.2.1:Nat)))
section
variable {s:List Int} {T:Acs→List Fct} {l:List Mth} {q:List Int×List AT2} {d7:List AT2} {d4:List Stp} {d6:List Fct} {c:Int} {g k:Nat} {x:Stp} {σ:RS} {p:Acs→Prop}
end
end Go.Proofs.YthapcdhdfaibkaaGreatDoor
end
section
namespace Go.Proofs.YthapcdhdfaibkaaGreatDoor
set_option linter.all false
def c5P (s:List Int) (l:List MT5) (q:List Int×List AT2) (d6:List Fct):Bool:=(Q0 s l q&&a2i (J4 s l q,J1 s l q) q)&&B8 s d6
def c6J (s:List Int) (l:List MT5) (q:List Int×List AT2) (d6:List Fct):List (List Int):=cond (c5P s l q d6) (X6 l (q.1,I1 l q.2) d6) []
section
variable {s:List Int} {l:List MT5} {q:List Int×List AT2} {d6:List Fct}
theorem a8I (h:Q0 s l q=true):C5 s l=true∧w7 s q=true∧w7 s (q.1,I1 l q.2)=true∧(grF (exF l) (I1 l q.2)).1.length=(I1 l q.2).length:=by
 simp only[Q0,Bool.and_eq_true] at h
 exact ⟨h.1.1,h.1.2,h.2,c0y⟩
theorem b2g (h:Q0 s l q=true):K9 s l (q.1,I1 l q.2) (grF (exF l) (I1 l q.2)).1=true:=by
 obtain ⟨h1,h2,h3,h4⟩:=a8I h
 exact c2Y (q:=(q.1,I1 l q.2)) h1 h3 h4
theorem c1K (h:Q0 s l q=true) (hf:B8 s d6=true):(O0 s (B3 l) (J4 s l q,J1 s l q) (S5 s (B3 l) (J4 s l q,J1 s l q)) d6 0).1=X6 l (q.1,I1 l q.2) d6:=by
 obtain ⟨h1,h2,h3,h4⟩:=a8I h
 rw[J4,J1,h]
 exact c1Q (q:=(q.1,I1 l q.2)) h1 h3 h4 hf
theorem c1N (h:Q0 s l q=true) (hf:B8 s d6=true):∃T,TOk s (λa=>T0 s l a=true) T∧X6 l (q.1,I1 l q.2) d6=U0 q.1 (m6 T l (I1 l q.2) (grF (exF l) (I1 l q.2)).1).1:=⟨_,b8T hf,Z⟩
theorem b1P (h:Q0 s l q=true) (hf:B8 s d6=true):E7 a4A (X6 l (q.1,I1 l q.2) d6)≤1000000∧(X6 l (q.1,I1 l q.2) d6).length≤331776∧∀t∈X6 l (q.1,I1 l q.2) d6,t.length≤3:=by
 obtain ⟨T,hT,e⟩:=c1N h hf
 rw[e]
 have ho:=b2g h
 have h1:=a8f ho hT (Nat.le_refl _)
 rw[List.take_length] at h1
 have h3:=D1 (a8I h).2.1
 have a1:=a8P (h:=q.1) (l:=(m6 T l (I1 l q.2) (grF (exF l) (I1 l q.2)).1).1)
 have a2:=b1a (h:=q.1) (l:=(m6 T l (I1 l q.2) (grF (exF l) (I1 l q.2)).1).1)
 have a4:(m6 T l (I1 l q.2) (grF (exF l) (I1 l q.2)).1).1.length≤331776:=h1.len
 have a3:=b7i (n:=331776) (λt ht=>Nat.le_trans (a2 t ht) h3.2.1) (by omega)
 exact ⟨by omega,by omega,λt ht=>Nat.le_trans (a2 t ht) h3.2.1⟩
end
end Go.Proofs.YthapcdhdfaibkaaGreatDoor
end
section
namespace Go.Proofs.YthapcdhdfaibkaaGreatDoor
set_option linter.all false
def c5D (d6 n:List IL) (b:List Int×List Int):Bool:=n.any λa=>O5 d6 (R2 a b)
def c5w (s:List Int) (g:(List Int×List IL)×List IL) (d6:List IL):List (List Int):=
 if b2c s g&&B8 s d6 then U0 g.1.1 ((B1 g.1.2 d6).filter λb=> !c5D d6 g.2 b) else []
def c6K (s:List Int) (g:(List Int×List IL)×List IL) (d6:List IL) (t:List Int):Bool:=b2c s g&&(T5 (U8 s g.1 d6) t&& !T5 (c5w s g d6) t)
end Go.Proofs.YthapcdhdfaibkaaGreatDoor
end
section
namespace Go.Proofs.YthapcdhdfaibkaaGreatDoor
set_option linter.all false
def c5n (a:Acs) (log:List Acs):List Acs:=cond (a2k log a) log (log++[a])
def c3K (l:List Mth) (m:Int) (n:AT2) (b:Bnd):Acs:=(m,a0F (atM l m) n b)
def gP (l:List Mth) (d6:List Fct) (m:Int) (n:AT2) (b:Bnd):Bool:=O5 (n9 l d6 (c3K l m n b)) (R2 n b)
def gL (l:List Mth) (m:Int) (n:AT2) (log:List Acs) (b:Bnd):List Acs:=c5n (c3K l m n b) log
abbrev GSt:=List Bnd×List Acs
def gdI (l:List Mth) (d6:List Fct) (ms:List Int) (ns:List AT2) (σ:GSt):Nat→GSt
 |0=>σ
 |k+1=>((gdI l d6 ms ns σ k).1.filter (λb=> !gP l d6 (at0 ms (k:Nat)) (ns.getD k (0,[])) b),(gdI l d6 ms ns σ k).1.foldl (gL l (at0 ms (k:Nat)) (ns.getD k (0,[]))) (gdI l d6 ms ns σ k).2)
section
variable {s:List Int} {T T':Acs→List Fct} {l:List Mth} {d7 ns:List AT2} {S d4:List Stp} {σ:RS} {d6 F:List Fct} {q:List Int×List AT2} {x:Stp} {B L:List Bnd} {V V':List Int} {n k h:Nat} {b:Bnd} {ms:List Int} {log:List Acs} {τ:GSt} {g:GQ}
theorem b4b (h:∀b,T (C6 l d7 x b)=T' (C6 l d7 x b)):∀{B:List Bnd} {σ:RS},B.foldl (rb1 T l d7 x) σ=B.foldl (rb1 T' l d7 x) σ
 |[],_=>rfl
 |b::B,σ=>by
  rw[List.foldl_cons,List.foldl_cons,show rb1 T l d7 x σ b=rb1 T' l d7 x σ b from by unfold rb1;rw[h b]]
  exact b4b h
theorem b2C:∀{S:List Stp} {σ:RS},(∀x∈S,∀b,T (C6 l d7 x b)=T' (C6 l d7 x b))→S.foldl (rs1 T l d7) σ=S.foldl (rs1 T' l d7) σ
 |[],_,_=>rfl
 |x::S,σ,h=>by
  rw[List.foldl_cons,List.foldl_cons,show rs1 T l d7 σ x=rs1 T' l d7 σ x from b4b (h x (List.mem_cons_self ..))]
  exact b2C λy hy=>h y (List.mem_cons_of_mem _ hy)
theorem c0d (ho:K9 s l q d4=true) (hf:B8 s d6=true) (h:∀x∈d4,(atM l x.2).2.2.1=0):a1L (λa=>n9 l d6 a) l q d4=O0 s l q d4 d6 0:=by
 rw[←a8S ho hf,a1L,a1L]
 have e:m6 (λa=>n9 l d6 a) l q.2 d4=m6 (λa=>s5 l d6 a 0) l q.2 d4:=b2C λx hx b=>a4K (.inl (h x hx))
 rw[e]
theorem BOk.sub (h:BOk V n b) (hV:∀v,inR v 10 17=true→v∈V'→v∈V):BOk V' n b:=⟨h.eq,h.le,h.val,λv h1 h2=>h.has v h1 (hV v h1 h2)⟩
def rgB (s:List Int) (l:List Mth) (g:GQ) (d6:List Fct):Bool:=c0q s l g&&B8 s d6
def rgR (s:List Int) (l:List Mth) (g:GQ) (d6:List Fct):c0a:=a1L (λa=>n9 l d6 a) l g.1 (c5s s l g)
def rgI (s:List Int) (l:List Mth) (g:GQ) (d6:List Fct) (k:Nat):GSt:=gdI l d6 (c5l s l g) g.2 (B1 g.1.2 (rgR s l g d6).2.2.1,(rgR s l g d6).2.1) k
def rgA (s:List Int) (l:List Mth) (g:GQ) (d6:List Fct):List (List Int):=cond (rgB s l g d6) (U0 g.1.1 (rgI s l g d6 g.2.length).1) []
def rgL (s:List Int) (l:List Mth) (g:GQ) (d6:List Fct):List Acs:=cond (rgB s l g d6) (rgI s l g d6 g.2.length).2 []
end
end Go.Proofs.YthapcdhdfaibkaaGreatDoor
end
section
namespace Go.Proofs.YthapcdhdfaibkaaGreatDoor
set_option linter.all false
def fuB (s:List Int) (l:List MT5) (M:List QT) (q:QT):Bool:= !w7 s (q.1,I1 l q.2)|| !a0s s M (q.1,I1 l q.2)
def a6A (s:List Int) (l:List MT5) (u:List QT):Bool:=C5 s l&&(F9 s u&& !(m7 s u).any (fuB s l (m7 s u)))
section
variable {s:List Int} {l:List MT5} {u M:List QT} {q:QT} {g:Nat}
theorem a1u (h:F9 s u=true):∀q∈u,w7 s q=true:=by
 simp only[F9,Bool.and_eq_true,Bool.not_eq_true',List.any_eq_false] at h
 intro q hq
 have:=h.2 q hq
 simp only[a2z,Bool.or_eq_true,Bool.not_eq_true',not_or] at this
 simpa using this.1
theorem b8I {al:List AT2} (h:∀a∈al,a.2.length≤3) (hl:al.length≤4):D8 (λx=>x.2.length) (I1 l al)≤1048576:=by
 have:=a9L (g:=al.length) (ds:=(grF (exF l) al).2.1) h hl
 rwa [List.take_length] at this
theorem a8a (h:F9 s u=true):∀q∈m7 s u,w7 s q=true:=λq hq=>a1u h q (a0e hq)
theorem fu1 (hm:C5 s l=true) (hq:w7 s q=true) (h:Q0 s l q=false):fuB s l M q=true:=by
 rw[Q0,hm,hq] at h
 have h:w7 s (q.1,I1 l q.2)=false:=h
 rw[fuB,h];rfl
theorem fu2 (h:Q0 s l q=true) (hc:a0s s M (J4 s l q,J1 s l q)=false):fuB s l M q=true:=by
 rw[J4,J1,h] at hc
 have hc:a0s s M (q.1,I1 l q.2)=false:=hc
 rw[fuB,hc,Bool.not_false,Bool.or_true]
theorem fu3 (h:Q0 s l q=true) (hc:a0s s M (J4 s l q,J1 s l q)=true):fuB s l M q=false:=by
 have h0:=h
 rw[J4,J1,h] at hc
 have hc:a0s s M (q.1,I1 l q.2)=true:=hc
 simp only[Q0,Bool.and_eq_true] at h0
 rw[fuB,hc,h0.2];rfl
theorem c3b (h:C5 s l=false):false=a6A s l u:=by rw[a6A,h];rfl
theorem c3y (h:F9 s u=false):false=a6A s l u:=by rw[a6A,h];simp
theorem c4A (h1:C5 s l=true) (h2:F9 s u=true):(!(m7 s u).any (fuB s l (m7 s u)))=a6A s l u:=by rw[a6A,h1,h2];rfl
theorem c7u (h1:C5 s l=true) (h2:F9 s u=true) (hg:g<(m7 s u).length) (h:fuB s l (m7 s u) (m7 s u)[g]=true):false=a6A s l u:=by
 rw[←c4A h1 h2,List.any_eq_true.2 ⟨_,List.getElem_mem hg,h⟩];rfl
theorem c7B (h1:C5 s l=true) (h2:F9 s u=true) (hg:¬g<(m7 s u).length) (h:∀q∈(m7 s u).take g,fuB s l (m7 s u) q=false):true=a6A s l u:=by
 rw[List.take_of_length_le (by omega)] at h
 rw[←c4A h1 h2,List.any_eq_false.2 (λq hq=>by rw[h q hq];decide)];rfl
end
end Go.Proofs.YthapcdhdfaibkaaGreatDoor
end
section
namespace Go.Proofs.YthapcdhdfaibkaaGreatDoor
set_option linter.all false
def ubS (s:List Int) (l:List MT5) (d6:List Fct) (out:List (List Int)) (q:QT):List (List Int):=cond (Q0 s l q) ((X6 l (q.1,I1 l q.2) d6).foldl K6 out) out
def ubB (s:List Int) (l:List MT5) (u:List QT) (d6:List Fct):Bool:=C5 s l&&(F9 s u&&B8 s d6)
def ubF (s:List Int) (l:List MT5) (u:List QT) (d6:List Fct):List (List Int):=cond (ubB s l u d6) ((m7 s u).foldl (ubS s l d6) []) []
section
variable {s:List Int} {l:List MT5} {u Q:List QT} {q:QT} {d6:List Fct} {out:List (List Int)} {g h:Nat}
theorem c3M (h:C5 s l=false):[]=ubF s l u d6:=by rw[ubF,ubB,h];rfl
theorem c3m (h:F9 s u=false):[]=ubF s l u d6:=by rw[ubF,ubB,h,Bool.false_and,Bool.and_false];rfl
theorem c2T (h:B8 s d6=false):[]=ubF s l u d6:=by rw[ubF,ubB,h,Bool.and_false,Bool.and_false];rfl
theorem b3L (h1:C5 s l=true) (h2:F9 s u=true) (h3:B8 s d6=true):ubB s l u d6=true:=by rw[ubB,h1,h2,h3];rfl
theorem c3A (h:ubB s l u d6=true):C5 s l=true∧F9 s u=true∧B8 s d6=true:=by simpa[ubB] using h
theorem b9h (h:ubB s l u d6=true) (hg:¬g<(m7 s u).length):((m7 s u).take g).foldl (ubS s l d6) []=ubF s l u d6:=by rw[ubF,h,List.take_of_length_le (by omega)];rfl
theorem a8J (hp:g=0∨ubB s l u d6=true) (h:ubB s l u d6=false):((m7 s u).take g).foldl (ubS s l d6) []=ubF s l u d6:=by
 rcases hp with rfl|hp
 ·rw[ubF,h];rfl
 ·rw[hp] at h;cases h
theorem c3k (hp:g=0∨ubB s l u d6=true) (hg:¬g<(m7 s u).length):((m7 s u).take g).foldl (ubS s l d6) []=ubF s l u d6:=by
 cases h:ubB s l u d6 with
 |true=>exact b9h h hg
 |false=>exact a8J hp h
theorem b7w (hg:g<Q.length) (h:Q0 s l Q[g]=true):(X6 l (Q[g].1,I1 l Q[g].2) d6).foldl K6 ((Q.take g).foldl (ubS s l d6) out)=(Q.take (g+1)).foldl (ubS s l d6) out:=by
 rw[a1O hg,ubS,h];rfl
theorem b9j (hg:g<Q.length) (h:Q0 s l Q[g]=true) {k:Nat} (hk:¬k<(X6 l (Q[g].1,I1 l Q[g].2) d6).length):((X6 l (Q[g].1,I1 l Q[g].2) d6).take k).foldl K6 ((Q.take g).foldl (ubS s l d6) out)=(Q.take (g+1)).foldl (ubS s l d6) out:=by
 rw[List.take_of_length_le (show (X6 l (Q[g].1,I1 l Q[g].2) d6).length≤k by omega)];exact b7w hg h
theorem b3K (hg:g<Q.length) (h:Q0 s l Q[g]=false):(Q.take g).foldl (ubS s l d6) out=(Q.take (g+1)).foldl (ubS s l d6) out:=by
 rw[a1O hg,ubS,h];rfl
theorem b7U (hm:C5 s l=true) (hq:w7 s q=true):w7 s (q.1,I1 l q.2)=Q0 s l q:=by rw[Q0,hm,hq];rfl
theorem b6n (hf:B8 s d6=true):∀{Q:List QT} {out:List (List Int)},(Q.foldl (ubS s l d6) out).length≤out.length+331776*Q.length∧((∀t∈out,t.length≤3)→∀t∈Q.foldl (ubS s l d6) out,t.length≤3)
 |[],out=>by simp
 |q::Q,out=>by
  have ih:=b6n hf (Q:=Q) (out:=ubS s l d6 out q)
  have h1:(ubS s l d6 out q).length≤out.length+331776∧((∀t∈out,t.length≤3)→∀t∈ubS s l d6 out q,t.length≤3):=by
   unfold ubS
   cases hp:Q0 s l q with
   |false=>exact ⟨by simp,λh=>h⟩
   |true=>
    obtain ⟨_,r2,r3⟩:=b1P hp hf
    have h2:=a3h (n:=3) (m:=X6 l (q.1,I1 l q.2) d6) (out:=out)
    exact ⟨Nat.le_trans h2.1 (by omega),λh=>h2.2 h r3⟩
  rw[List.foldl_cons,List.length_cons]
  exact ⟨by omega,λh=>ih.2 (h1.2 h)⟩
theorem b5U (hb:ubB s l u d6=true) {m:List (List Int)} (hm:m.length≤331776) (he:∀t∈m,t.length≤3):((m.take h).foldl K6 (((m7 s u).take g).foldl (ubS s l d6) [])).length≤2000000∧∀t∈(m.take h).foldl K6 (((m7 s u).take g).foldl (ubS s l d6) []),t.length≤1048576:=by
 obtain ⟨h1,h2,h3⟩:=c3A hb
 have a1:=b6n h3 (l:=l) (Q:=(m7 s u).take g) (out:=[])
 have a2:=a3h (n:=3) (m:=m.take h) (out:=((m7 s u).take g).foldl (ubS s l d6) [])
 have a3:=List.length_take_le' g (m7 s u)
 have a4:=a6q (s:=s) (u:=u)
 have a5:=(b2I h2).1
 have a6:=List.length_take_le' h m
 have a7:=Nat.mul_le_mul_left 331776 (Nat.le_trans a3 (Nat.le_trans a4 a5))
 simp only[List.length_nil] at a1
 exact ⟨by omega,λt ht=>Nat.le_trans (a2.2 (a1.2 (by simp)) (λt ht=>he t (List.mem_of_mem_take ht)) t ht) (by decide)⟩
end
end Go.Proofs.YthapcdhdfaibkaaGreatDoor
end
section
namespace Go.Proofs.YthapcdhdfaibkaaGreatDoor
set_option linter.all false
section
variable {s V:List Int} {T:Acs→List Fct} {l:List Mth} {q:List Int×List AT2} {d7 A:List AT2} {d4 S:List Stp} {d6 F:List Fct} {c:Int} {g k n:Nat} {x:Stp} {σ:RS} {b b0:Bnd} {a f:IL} {t u:List Int}
theorem c3t {T:Acs→List Fct} {x:Stp}:∀{B:List Bnd} {σ:RS},(B.foldl (rb1 T l d7 x) σ).1=σ.1++B.flatMap λb=>I9 [b] (atA d7 x.1) (T (C6 l d7 x b))
 |[],σ=>by simp
 |b::B,σ=>by rw[List.foldl_cons,c3t];simp[rb1,List.append_assoc]
theorem c3i:(rs1 T l d7 σ x).1=σ.1.flatMap λb=>I9 [b] (atA d7 x.1) (T (C6 l d7 x b)):=by rw[rs1,c3t];rfl
theorem b6o (hT:∀a,∀f∈T a,f∈F):∀{S:List Stp} {σ:RS} {A:List AT2},(∀b∈σ.1,MOk A F b)→∀b∈(S.foldl (rs1 T l d7) σ).1,MOk (A++S.map λx=>atA d7 x.1) F b
 |[],σ,A,h,b,hb=>by simpa using h b hb
 |x::S,σ,A,h,b,hb=>by
  have h1:∀b∈(rs1 T l d7 σ x).1,MOk (A++[atA d7 x.1]) F b:=by
   intro b hb
   rw[c3i] at hb
   obtain ⟨b0,h0,hb⟩:=List.mem_flatMap.1 hb
   refine b6r (B:=[b0]) (λz hz=>?_) b (b9U (hT _) (λz hz=>hz) b hb)
   rw[List.mem_singleton] at hz;subst hz;exact h _ h0
  have:=b6o hT (S:=S) h1 b hb
  simpa using this
theorem b8A:∀{g:Nat},S6 l d7 d4 g=true→g≤d4.length→((d4.take g).map λx=>x.1).Nodup
 |0,_,_=>by simp
 |g+1,h,hg=>by
  rw[S6,Bool.and_eq_true] at h
  have ih:=b8A h.1 (by omega)
  have h2:=h.2
  rw[L5 (by omega:g<d4.length)] at h2
  simp only[X8,Bool.and_eq_true,Bool.not_eq_true'] at h2
  rw[List.take_succ_eq_append_getElem (by omega),List.map_append,List.nodup_append]
  refine ⟨ih,by simp,λu hu v hv e=>?_⟩
  simp only[List.map_cons,List.map_nil,List.mem_singleton] at hv
  subst hv;subst e
  obtain ⟨y,hy,e⟩:=List.mem_map.1 hu
  have:stU (d4.take g) d4[g].1=true:=List.any_eq_true.2 ⟨y,hy,decide_eq_true e⟩
  rw[h2.2.1] at this;cases this
theorem b6R (ho:S6 l d7 d4 d4.length=true) (hl:d4.length=d7.length):∀a∈d7,a∈d4.map λx=>atA d7 x.1:=by
 intro a ha
 obtain ⟨j,hj,rfl⟩:=List.getElem_of_mem ha
 have h1:=b8A ho (Nat.le_refl _)
 have h2:=a6t ho (Nat.le_refl _)
 rw[List.take_length] at h1 h2
 have hm:(j:Int)∈d4.map λx=>x.1:=Classical.byContradiction λhn=>by
  have h3:((j::(d4.map λx=>x.1).map Int.toNat)).Nodup:=by
   rw[List.nodup_cons]
   refine ⟨λhc=>?_,?_⟩
   ·obtain ⟨i,hi,e⟩:=List.mem_map.1 hc
    obtain ⟨y,hy,e2⟩:=List.mem_map.1 hi
    have:=h2 y hy
    have e3:i=(j:Int):=by omega
    rw[e3] at hi;exact hn hi
   ·unfold List.Nodup at h1 ⊢
    rw[List.pairwise_map]
    refine List.Pairwise.imp_of_mem (λ{a b} ha hb hab e=>hab ?_) h1
    obtain ⟨y,hy,e2⟩:=List.mem_map.1 ha
    obtain ⟨z,hz,e3⟩:=List.mem_map.1 hb
    have:=h2 y hy
    have:=h2 z hz
    omega
  have h4:=a3N (n:=d7.length) h3 λi hi=>by
   rcases List.mem_cons.1 hi with rfl|hi
   ·exact hj
   ·obtain ⟨i2,hi2,e⟩:=List.mem_map.1 hi
    obtain ⟨y,hy,e2⟩:=List.mem_map.1 hi2
    have:=h2 y hy
    omega
  simp only[List.length_cons,List.length_map] at h4
  omega
 obtain ⟨y,hy,e⟩:=List.mem_map.1 hm
 refine List.mem_map.2 ⟨y,hy,?_⟩
 show atA d7 y.1=_
 have e':y.1=(j:Int):=e
 rw[e',a2I (by simpa using hj)];simp
theorem b6j (hq:w7 s q=true) {b b':Bnd} {G:Int→Int} (hA:a2m b' G) (hb:∀a∈q.2,∀t∈a.2,bd b' t):q.1.map (y9 b')=q.1.map G:=by
 refine List.map_congr_left λz hz=>?_
 obtain ⟨_,_,a,ha,hza⟩:=(a3e hq).2 z hz
 exact hA.2 z (hb a ha z hza)
theorem c1L (ho:K9 s l q d4=true) (hF:B8 s F=true) (hT:∀a,∀f∈T a,f∈F):∀t∈(a1L T l q d4).1,t∈U8 s q F:=by
 intro t ht
 obtain ⟨h1,h2,h3,h4⟩:=a0m ho
 obtain ⟨b,hb,rfl⟩:=a4J.1 ht
 have hm:=b6o (l:=l) (d7:=q.2) (F:=F) (A:=[]) (σ:=([([],[])],[],[])) hT (λb hb=>by
  simp only[List.mem_singleton] at hb;subst hb;exact ⟨Z,λa ha=>by cases ha⟩) b hb
 rw[List.nil_append] at hm
 have hall:=b6R h4 h3
 obtain ⟨b',h5,h6,h7⟩:=a3L (g:=y9 b) (A:=q.2) (F:=F) (λt ht=>(X0 ht).symm) λa ha=>(hm.2 a (hall a ha)).1
 unfold U8
 rw[if_pos (by rw[h2,hF];rfl)]
 exact a4J.2 ⟨b',h5,b6j (b:=b) h2 h6 h7⟩
theorem b6z {P:Int×Int→Bool} {G:Int→Int}:∀{m:List Int},(∀i∈m,P (i,G i)=true)→((m.zip (m.map G)).all P)=true
 |[],_=>rfl
 |i::m,h=>by
  rw[List.map_cons,List.zip_cons_cons,List.all_cons,h i (by simp),b6z λj hj=>h j (by simp[hj])];rfl
theorem c2j {m:Mth} {G:Int→Int} (hg:∀t,inR t 10 17=false→G t=t) (hc:M4 m a V=true) (hA:a2m b G) (hV:∀t∈V,bd b t):X5 m (a0F m a b) (a.1,a.2.map G)=true:=by
 simp only[M4,Bool.and_eq_true,decide_eq_true_eq,Bool.not_eq_true',List.any_eq_false,Bool.not_eq_true] at hc
 obtain ⟨h1,h2⟩:=hc
 rw[X5,Bool.and_eq_true]
 refine ⟨decide_eq_true h1.symm,?_⟩
 unfold a0F
 refine b6z λi hi=>?_
 have h3:=h2 i hi
 simp only[a1a,Bool.or_eq_false_iff,Bool.not_eq_false',Bool.and_eq_false_imp] at h3
 have h4:=V8 h3.1
 have hlt:i.toNat<a.2.length:=by omega
 rw[a3x,decide_eq_true_eq]
 show at0 (a.2.map G) i=y9 b (at0 a.2 i)
 have e1:at0 (a.2.map G) i=G (at0 a.2 i):=by
  rw[F8 (by simpa using hlt),F8 hlt];simp
 rw[e1]
 cases hr:inR (at0 a.2 i) 10 17 with
 |false=>rw[hg _ hr, ←X0 hr]
 |true=>
  have h5:=h3.2 hr
  exact (hA.2 _ (hV _ (a0y.1 h5))).symm
theorem b8o {G:Int→Int} (hg:∀t,inR t 10 17=false→G t=t) (hF:((atA d7 x.1).1,(atA d7 x.1).2.map G)∈T (C6 l d7 x b)) (hb:b∈σ.1) (hA:a2m b G) (hV:∀t∈V,bd b t):∃b'∈(rs1 T l d7 σ x).1,a2m b' G∧∀t∈V++(atA d7 x.1).2,bd b' t:=by
 obtain ⟨m1,m2⟩:=a9t (a:=atA d7 x.1) hg hA
 obtain ⟨k1,k2,k3,k4⟩:=a7w m1
 refine ⟨_,?_,m2,λt ht=>?_⟩
 ·rw[c3i]
  exact List.mem_flatMap.2 ⟨b,hb,List.mem_flatMap.2 ⟨b,by simp,List.mem_map.2 ⟨_,List.mem_filter.2 ⟨hF,m1⟩,Z⟩⟩⟩
 ·rcases List.mem_append.1 ht with ht|ht
  ·exact (k4 t (hV t ht)).2
  ·exact k3 t ht
def b4L (l:List Mth) (d4:List Stp):Bool:=d4.all λx=>inR x.2 0 ((l.length:Int)-1)&&decide ((atM l x.2).2.2.1=0)
theorem b5Y {G:Int→Int} (hg:∀t,inR t 10 17=false→G t=t) (ho:S6 l d7 d4 d4.length=true) (he:b4L l d4=true) (hF:∀a∈d7,(a.1,a.2.map G)∈F):∀{g:Nat},g≤d4.length→∃b∈(m6 (λa=>s5 l F a c) l d7 (d4.take g)).1,a2m b G∧∀t∈stB d7 (d4.take g),bd b t
 |0,_=>⟨([],[]),by simp[m6],⟨Z,λt ht=>by
   rcases ht with ht|ht
   ·rw[←X0 ht,hg t ht]
   ·cases ht⟩,λt ht=>by simp[stB] at ht⟩
 |g+1,hgl=>by
  obtain ⟨b,h1,h2,h3⟩:=b5Y hg ho he hF (g:=g) (by omega)
  have hs:=(Bool.and_eq_true_iff.1 (b0S (g:=g+1) ho hgl)).2
  rw[L5 (by omega:g<d4.length)] at hs
  simp only[X8,Bool.and_eq_true] at hs
  have a1:=V8 hs.1
  have hat:atA d7 d4[g].1∈d7:=by rw[a2I (by omega)];exact List.getElem_mem _
  have hex:=List.all_eq_true.1 he _ (List.getElem_mem (show g<d4.length by omega))
  simp only[Bool.and_eq_true,decide_eq_true_eq] at hex
  have hlim:a1V l (C6 l d7 d4[g] b)=0:=hex.2
  have hmem:((atA d7 d4[g].1).1,(atA d7 d4[g].1).2.map G)∈(λa=>s5 l F a c) (C6 l d7 d4[g] b):=by
   show _∈s5 l F _ c
   rw[←a4K (.inl hlim)]
   exact List.mem_filter.2 ⟨hF _ hat,c2j (m:=atM l d4[g].2) hg hs.2.2.2 h2 h3⟩
  obtain ⟨b',h4,h5,h6⟩:=b8o (T:=λa=>s5 l F a c) (l:=l) (d7:=d7) (x:=d4[g]) hg hmem h1 h2 h3
  rw[a7O (by omega), ←b4G (by omega)]
  exact ⟨b',h4,h5,h6⟩
theorem b6w:∀{S:List Stp} {V:List Int} {x:Stp},x∈S→∀t∈(atA d7 x.1).2,t∈S.foldl (λb x=>b++(atA d7 x.1).2) V
 |y::S,V,x,h,t,ht=>by
  rcases List.mem_cons.1 h with rfl|h
  ·have mono:∀{S:List Stp} {V:List Int},t∈V→t∈S.foldl (λb x=>b++(atA d7 x.1).2) V:=by
    intro S
    induction S with
    |nil=>intro V h;exact h
    |cons z S ih=>intro V h;exact ih (List.mem_append_left _ h)
   rw[List.foldl_cons]
   exact mono (List.mem_append_right _ ht)
  ·rw[List.foldl_cons];exact b6w (S:=S) h t ht
theorem c3F (ho:K9 s l q d4=true) (hF:B8 s F=true) (he:b4L l d4=true):∀t∈U8 s q F,t∈(a1L (λa=>s5 l F a c) l q d4).1:=by
 intro t ht
 obtain ⟨h1,h2,h3,h4⟩:=a0m ho
 unfold U8 at ht
 rw[if_pos (by rw[h2,hF];rfl)] at ht
 obtain ⟨b0,hb,rfl⟩:=a4J.1 ht
 have hm:=a8b b0 hb
 obtain ⟨b,h5,h6,h7⟩:=b5Y (c:=c) (G:=y9 b0) (λt ht=>(X0 ht).symm) h4 he (λa ha=>(hm.2 a ha).1) (Nat.le_refl _)
 rw[List.take_length] at h5 h7
 refine a4J.2 ⟨b,h5,b6j (b:=b) h2 h6 λa ha t ht=>?_⟩
 obtain ⟨x,hx,e⟩:=List.mem_map.1 (b6R h4 h3 a ha)
 exact h7 t (b6w hx t (by rw[e];exact ht))
abbrev a3B (l:List (List Int)):Prop:=l.Pairwise λa b=>ltT a b=true
theorem b9m {a b c:List Int} (h1:ltT a b=true) (h2:ltT b c=true):ltT a c=true:=by
 simp only[ltT,decide_eq_true_eq] at h1 h2 ⊢;exact b1M h1 h2
theorem b4g {l:List (List Int)} (h:a3B l):a3B (K6 l t):=by
 cases hh:T5 l t
 ·rw[K6,hh,W2,if_neg (by decide)]
  refine (b3V (r:=ltT) (λa b c=>b9m) h λy hy hf=>?_).1
  simp only[ltT,decide_eq_false_iff_not,decide_eq_true_eq] at hf ⊢
  have h1:=a6N (l:=t) (m:=y)
  rcases Int.lt_or_eq_of_le (show I7 y t≤0 by omega) with h2|h2
  ·exact h2
  ·rw[a5o] at h2
   subst h2
   rw[b4S.2 hy] at hh;cases hh
 ·rw[K6,hh,W2,if_pos Z];exact h
theorem b1Y {h:List Int}:∀{B:List Bnd} {out:List (List Int)},a3B out→a3B (B.foldl (λout b=>K6 out (h.map (y9 b))) out)
 |[],_,ho=>ho
 |b::B,out,ho=>b1Y (B:=B) (b4g ho)
theorem a6O:∀{a b:List (List Int)},a3B a→a3B b→(∀y,y∈a↔y∈b)→a=b
 |[],[],_,_,_=>rfl
 |[],y::b,_,_,h=>by have:=(h y).2 (List.mem_cons_self ..);simp at this
 |x::a,[],_,_,h=>by have:=(h x).1 (List.mem_cons_self ..);simp at this
 |x::a,y::b,ha,hb,h=>by
  have ha':=List.pairwise_cons.1 ha
  have hb':=List.pairwise_cons.1 hb
  have irr:∀z:List Int,ltT z z=true→False:=λz hz=>by simp[ltT,a5o.2 Z] at hz
  have tr:∀u v:List Int,ltT u v=true→ltT v u=true→False:=λu v h1 h2=>irr u (b9m h1 h2)
  have e:x=y:=by
   rcases List.mem_cons.1 ((h x).1 (List.mem_cons_self ..)) with e|e
   ·exact e
   ·rcases List.mem_cons.1 ((h y).2 (List.mem_cons_self ..)) with e2|e2
    ·exact e2.symm
    ·exact (tr x y (ha'.1 y e2) (hb'.1 x e)).elim
  subst e
  congr 1
  refine a6O ha'.2 hb'.2 λz=>⟨λhz=>?_,λhz=>?_⟩
  ·rcases List.mem_cons.1 ((h z).1 (List.mem_cons_of_mem _ hz)) with e|e
   ·subst e;exact (irr z (ha'.1 z hz)).elim
   ·exact e
  ·rcases List.mem_cons.1 ((h z).2 (List.mem_cons_of_mem _ hz)) with e|e
   ·subst e;exact (irr z (hb'.1 z hz)).elim
   ·exact e
theorem b9a (ho:K9 s l q d4=true) (hF:B8 s F=true) (he:b4L l d4=true):(a1L (λa=>s5 l F a c) l q d4).1=U8 s q F:=by
 have h2:=(a0m ho).2.1
 refine a6O (b1Y .nil) ?_ λt=>⟨λh=>c1L ho hF (λa f hf=>b6k hf) t h,λh=>c3F ho hF he t h⟩
 unfold U8
 rw[if_pos (by rw[h2,hF];rfl)]
 exact b1Y .nil
def c5F (log:List Acs):Nat→Int
 |0=>0
 |g+1=>c5F log g+c3O log (g:Int)
theorem c2s (ho:K9 s l q d4=true) (hF:B8 s F=true):O0 s l q d4 F c=a1L (λa=>s5 l F a c) l q d4:=(a8S ho hF).symm
theorem b7q (ho:K9 s l q d4=true) (hF:B8 s F=true) (he:b4L l d4=true):(O0 s l q d4 F c).1=U8 s q F:=by
 rw[c2s ho hF];exact b9a ho hF he
end
end Go.Proofs.YthapcdhdfaibkaaGreatDoor
end
