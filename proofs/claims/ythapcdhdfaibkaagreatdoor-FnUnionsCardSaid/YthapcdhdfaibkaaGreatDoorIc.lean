import Derived.Test.YthapcdhdfaibkaaGreatDoorIb
section
namespace Go.Proofs.YthapcdhdfaibkaaGreatDoor
open Go.RowKit
set_option linter.all false
def c6g {α:Type} (E:Enc α):Enc α where
 k:=E.k
 pos:=E.pos
 rep w cs x L _:=∃L1,E.rep w cs x L1 false∧(∀b∈L1,b∈L)∧∀b∈L,b<w.heap.size
 len h:=by obtain ⟨_,h,_⟩:=h;exact E.len h
 one h:=by obtain ⟨_,h,_⟩:=h;exact E.one h
 stable h hs:=by
  obtain ⟨L1,h1,h2,h3⟩:=h
  refine ⟨L1,E.stable h1 λb hb=>hs b (h2 b hb),h2,λb hb=>?_⟩
  have h6:=hs b hb
  rw[Array.getElem?_eq_getElem (h3 b hb)] at h6
  exact (Array.getElem?_eq_some_iff.1 h6).1
 inh h:=by obtain ⟨_,_,_,h⟩:=h;exact h
 ro h:=⟨_,λb hb=>hb,h⟩
def a0u {α β:Type} (E1:Enc α) (E2:Enc β):Enc (α×β) where
 k:=E1.k+E2.k
 pos:=by have:=E1.pos;omega
 rep w cs x L _:=∃c1 c2 L1 L2,cs=c1++c2∧E1.rep w c1 x.1 L1 false∧E2.rep w c2 x.2 L2 false∧(∀b∈L1,b∈L)∧(∀b∈L2,b∈L)∧∀b∈L,b<w.heap.size
 len h:=by obtain ⟨c1,c2,L1,L2,rfl,h1,h2,_⟩:=h;rw[List.length_append,E1.len h1,E2.len h2]
 one h:=by
  obtain ⟨c1,c2,L1,L2,rfl,h1,h2,_⟩:=h
  intro x hx
  rcases List.mem_append.1 hx with hx|hx
  ·exact E1.one h1 x hx
  ·exact E2.one h2 x hx
 stable h hs:=by
  obtain ⟨c1,c2,L1,L2,rfl,h1,h2,h3,h4,h5⟩:=h
  refine ⟨c1,c2,L1,L2,Z,E1.stable h1 λb hb=>hs b (h3 b hb),E2.stable h2 λb hb=>hs b (h4 b hb),h3,h4,λb hb=>?_⟩
  have h6:=hs b hb
  rw[Array.getElem?_eq_getElem (h5 b hb)] at h6
  exact (Array.getElem?_eq_some_iff.1 h6).1
 inh h:=by
  obtain ⟨c1,c2,L1,L2,rfl,h1,h2,h3,h4,h5⟩:=h
  exact h5
 ro h:=⟨_,λb hb=>hb,h⟩
section
variable {α β:Type} {E:Enc α} {E1:Enc α} {E2:Enc β} {n:Nat} {w0 w:World} {L0 L Lp:List Nat} {fr:Fr} {R H pre rest:List HP} {G:Act→World→Prop} {e:TypeId} {a:Option Addr} {m c:Nat} {x:α} {y:β} {u v:Value} {cs:List Value} {xs:List α}
theorem b5F (h:Ro w L (a0u E1 E2) [u,v] (x,y)) (hk:E1.k=1):Ro w L E1 [u] x∧Ro w L E2 [v] y:=by
 obtain ⟨L',⟨c1,c2,L1,L2,e1,h1,h2,h3,h4,_⟩,h6⟩:=h
 have hl:=E1.len h1
 rw[hk] at hl
 obtain ⟨z,rfl⟩:=List.length_eq_one_iff.1 hl
 simp only[List.cons_append,List.nil_append,List.cons.injEq] at e1
 obtain ⟨rfl,rfl⟩:=e1
 exact ⟨⟨L1,h1,λb hb=>h6 b (h3 b hb)⟩,⟨L2,h2,λb hb=>h6 b (h4 b hb)⟩⟩
theorem b9r (h:Ent n w0 L0 fr (ow (a0u E1 E2) [u,v] (x,y)::R) G):Ent n w0 L0 fr (ow E1 [u] x::ow E2 [v] y::R) G:=λac w h1 h2=>by
 obtain ⟨L,⟨L1,Lq,rfl,g1,L2,LR,rfl,g2,hR⟩,hn,hst⟩:=h2
 obtain ⟨K1,s1,k1⟩:=E1.ro g1
 obtain ⟨K2,s2,k2⟩:=E2.ro g2
 refine h ac w h1 ⟨(L1++L2)++LR,⟨L1++L2,LR,Z,⟨[u],[v],K1,K2,Z,k1,k2,λb hb=>by simp[s1 b hb],λb hb=>by simp[s2 b hb],λb hb=>?_⟩,hR⟩,by simpa[List.append_assoc] using hn,by simpa[List.append_assoc] using hst⟩
 rcases List.mem_append.1 hb with hb|hb
 ·exact E1.inh g1 b hb
 ·exact E2.inh g2 b hb
theorem c2F {xs:List α} (hm:ow (a0u (Enc.sl e E) E2) [.slice a m c,v] (xs,y)∈H) (h:m=xs.length→m≤9223372036854775807→Ent n w0 L0 fr H G):Ent n w0 L0 fr H G:=λac w h1 h2=>by
 obtain ⟨L,hL⟩:=h2.mem hm
 have hL:=(b5F (L:=[]) (E1:=Enc.sl e E) ⟨L,hL,by simp⟩ Z).1
 exact h hL.slen.1 (by have:=hL.slen;omega) ac w h1 h2
theorem c2G {ys:List β} {E2:Enc β} (hk:E1.k=1) (hm:ow (a0u E1 (Enc.sl e E2)) [u,.slice a m c] (x,ys)∈H) (h:m=ys.length→m≤9223372036854775807→Ent n w0 L0 fr H G):Ent n w0 L0 fr H G:=λac w h1 h2=>by
 obtain ⟨L,hL⟩:=h2.mem hm
 have hL:=(b5F (L:=[]) ⟨L,hL,by simp⟩ hk).2
 exact h hL.slen.1 (by have:=hL.slen;omega) ac w h1 h2
end
section
variable {P:Program} {n:Nat} {w0:World} {L0:List Nat} {fr:Fr} {H:List HP} {fn:Func} {κ:Type} {φ:κ→Prop} {ret:κ→Value} {post:κ→List HP} {wb:World} {Lb:List Nat}
end
end Go.Proofs.YthapcdhdfaibkaaGreatDoor
end
section
namespace Go.Proofs.YthapcdhdfaibkaaGreatDoor
open Go.RowKit
set_option linter.all false
def a2O {α:Type} (ce:List Value) (E:Enc α):Enc (Option α) where
 k:=E.k
 pos:=E.pos
 rep w cs x L o:=(x=none∧cs=ce∧ce.length=E.k∧(∀u∈ce,u.oneCell'=true)∧L=[])∨ ∃y,x=some y∧E.rep w cs y L o
 len h:=by
  rcases h with ⟨_,rfl,h,_⟩|⟨_,_,h⟩
  ·exact h
  ·exact E.len h
 one h:=by
  rcases h with ⟨_,rfl,_,h,_⟩|⟨_,_,h⟩
  ·exact h
  ·exact E.one h
 stable h hs:=by
  rcases h with h|⟨y,e,h⟩
  ·exact .inl h
  ·exact .inr ⟨y,e,E.stable h hs⟩
 inh h:=by
  rcases h with ⟨_,_,_,_,rfl⟩|⟨_,_,h⟩
  ·simp
  ·exact E.inh h
 ro h:=by
  rcases h with ⟨h1,h2,h3,h4,rfl⟩|⟨y,e,h⟩
  ·exact ⟨[],by simp,.inl ⟨h1,h2,h3,h4,Z⟩⟩
  ·obtain ⟨L',a,b⟩:=E.ro h
   exact ⟨L',a,.inr ⟨y,e,b⟩⟩
section
variable {α β:Type} {E:Enc α} {F:Enc β} {n:Nat} {w0 w:World} {L0 L Lp:List Nat} {fr:Fr} {A R H pre rest:List HP} {G:Act→World→Prop} {e:TypeId} {a:Option Addr} {m c:Nat} {x y:α} {z:β} {u v:Value} {cs ce:List Value} {xs:List α}
theorem a7a (h:Own A E cs y):Own A (a2O ce E) cs (some y):=λw L hL=>.inr ⟨y,Z,h w L hL⟩
theorem c0N (h1:ce.length=E.k) (h2:∀u∈ce,u.oneCell'=true):Own [] (a2O ce E) ce none:=λw L hL=>.inl ⟨Z,Z,h1,h2,hL⟩
theorem b2u:∀{xs:List α} {cs:List Value} {L:List Nat},y8 (a2O ce E) w cs (xs.map some) L true→y8 E w cs xs L true
 |[],_,_,h=>h
 |x::xs,_,_,⟨c1,c2,L1,L2,e1,e2,h1,h2⟩=>⟨c1,c2,L1,L2,e1,e2,by
   rcases h1 with ⟨h,_⟩|⟨y,e,h⟩
   ·cases h
   ·cases e;exact h,b2u h2⟩
theorem c7F (hm:ow (Enc.sl e E) [.slice a m c] xs∈H) (h:m≤c→Ent n w0 L0 fr H G):Ent n w0 L0 fr H G:=λac w h1 h2=>by
 obtain ⟨L,hL⟩:=h2.mem hm
 obtain ⟨ccs,L1,L2,_,g1,g2,_,_,g4⟩:=a0V hL
 rcases g4 with ⟨_,h0,_⟩|⟨g,cur,h3,h4,h5,_⟩
 ·exact h (by omega) ac w h1 h2
 ·exact h h5 ac w h1 h2
theorem b3o (hO:Own A E ce x) (h:Ent n w0 L0 fr (ow (Enc.sl e E) [.slice a m c] (x::xs)::R) G):Ent n w0 L0 fr (ow (Enc.sl e (a2O ce E)) [.slice a m c] (none::xs.map some)::(A++R)) G:=λac w h1 h2=>by
 refine h ac w h1 (Hp.turnL (A:=ow (Enc.sl e (a2O ce E)) [.slice a m c] (none::xs.map some)::A) (A':=[_]) (R:=R) h2 ?_)
 rintro L ⟨L1,LA,rfl,g1,gA⟩ hN
 obtain ⟨ccs,K1,K2,rfl,q1,q2,q3,q4⟩:=a0V g1
 obtain ⟨c1,c2,M1,M2,rfl,rfl,r1,r2⟩:=q3
 rcases r1 with ⟨_,rfl,_,_,rfl⟩|⟨_,e,_⟩
 ·have hp:(K1++([]++M2)++LA).Perm (K1++(LA++M2)):=by
   rw[List.nil_append,List.append_assoc];exact List.Perm.append_left K1 List.perm_append_comm
  refine ⟨K1++(LA++M2)++[],⟨K1++(LA++M2),[],Z,⟨a,m,c,c1++c2,K1,LA++M2,Z,by simpa using q1,q2,Z,⟨c1,c2,LA,M2,Z,Z,hO w LA gA,b2u r2⟩,q4⟩,Z⟩,?_,⟨Z,Z,Z,Nat.le_refl _,λ_ _ _=>rfl,λb hb=>.inl ?_⟩⟩
  ·rw[List.append_nil];exact hp.nodup_iff.1 hN
  ·rw[List.append_nil] at hb;exact hp.mem_iff.2 hb
 ·cases e
theorem a9a {E1:Enc α} {E2:Enc β} (h:Ro w L (a0u E1 E2) (u::cs) (x,z)) (hk:E1.k=1):Ro w L E1 [u] x∧Ro w L E2 cs z:=by
 obtain ⟨L',⟨c1,c2,L1,L2,e1,h1,h2,h3,h4,_⟩,h6⟩:=h
 have hl:=E1.len h1
 rw[hk] at hl
 obtain ⟨y,rfl⟩:=List.length_eq_one_iff.1 hl
 simp only[List.cons_append,List.nil_append,List.cons.injEq] at e1
 obtain ⟨rfl,rfl⟩:=e1
 exact ⟨⟨L1,h1,λb hb=>h6 b (h3 b hb)⟩,⟨L2,h2,λb hb=>h6 b (h4 b hb)⟩⟩
theorem b0x (h:Ro w L (Enc.pair E F) [u,v] (x,z)) (hk:E.k=1):Ro w L E [u] x∧Ro w L F [v] z:=by
 obtain ⟨L',⟨c1,c2,L1,L2,e1,rfl,h1,h2⟩,h6⟩:=h
 have hl:=E.len h1
 rw[hk] at hl
 obtain ⟨y,rfl⟩:=List.length_eq_one_iff.1 hl
 simp only[List.cons_append,List.nil_append,List.cons.injEq] at e1
 obtain ⟨rfl,rfl⟩:=e1
 exact ⟨⟨L1,h1,λb hb=>h6 b (by simp[hb])⟩,⟨L2,h2,λb hb=>h6 b (by simp[hb])⟩⟩
section
variable {α' β' γ:Type} {e1 e2:TypeId} {F1:Enc α'} {F2:Enc β'} {a1 a2:Option Addr} {m1 m2 c1 c2:Nat} {ys:List α'} {zs:List β'}
theorem c2K (hm:ow (a0u (Enc.sl e E) (Enc.pair (Enc.sl e1 F1) (Enc.sl e2 F2))) [.slice a m c,.slice a1 m1 c1,.slice a2 m2 c2] (xs,(ys,zs))∈H) (h:m=xs.length→m≤9223372036854775807→Ent n w0 L0 fr H G):Ent n w0 L0 fr H G:=λac w h1 h2=>by
 obtain ⟨L,hL⟩:=h2.mem hm
 have hL:=(a9a (L:=[]) ⟨L,hL,by simp⟩ Z).1
 exact h hL.slen.1 (by have:=hL.slen;omega) ac w h1 h2
theorem c2D (hm:ow (a0u (Enc.sl e E) (Enc.pair (Enc.sl e1 F1) (Enc.sl e2 F2))) [.slice a m c,.slice a1 m1 c1,.slice a2 m2 c2] (xs,(ys,zs))∈H) (h:m1=ys.length→m1≤9223372036854775807→Ent n w0 L0 fr H G):Ent n w0 L0 fr H G:=λac w h1 h2=>by
 obtain ⟨L,hL⟩:=h2.mem hm
 have hL:=(b0x (a9a (L:=[]) ⟨L,hL,by simp⟩ Z).2 Z).1
 exact h hL.slen.1 (by have:=hL.slen;omega) ac w h1 h2
theorem c2H (hm:ow (a0u (Enc.sl e E) (Enc.pair (Enc.sl e1 F1) (Enc.sl e2 F2))) [.slice a m c,.slice a1 m1 c1,.slice a2 m2 c2] (xs,(ys,zs))∈H) (h:m2=zs.length→m2≤9223372036854775807→Ent n w0 L0 fr H G):Ent n w0 L0 fr H G:=λac w h1 h2=>by
 obtain ⟨L,hL⟩:=h2.mem hm
 have hL:=(b0x (a9a (L:=[]) ⟨L,hL,by simp⟩ Z).2 Z).2
 exact h hL.slen.1 (by have:=hL.slen;omega) ac w h1 h2
end
theorem b7N (k:Nat) (hk:k≤m) (h:Ent n w0 L0 fr (ow (a0u (Enc.sl e E) (Enc.sl e E)) [.slice a m c,.slice a k c] (xs,xs.take k)::R) G):Ent n w0 L0 fr (ow (Enc.sl e E) [.slice a m c] xs::R) G:=λac w h1 h2=>by
 obtain ⟨L,⟨L1,LR,rfl,g1,hR⟩,hn,hst⟩:=h2
 obtain ⟨K1,s1,k1⟩:=(Enc.sl e E).ro g1
 obtain ⟨K2,k2,s2⟩:=(show Ro w ((List.range w.heap.size).filter λb=> !L1.contains b) (Enc.sl e E) [.slice a m c] xs from ⟨K1,k1,λb hb hp=>by
  have:=(List.mem_filter.1 hp).2
  simp[s1 b hb] at this⟩).upto k hk
 refine h ac w h1 ⟨L1++LR,⟨L1,LR,Z,⟨[.slice a m c],[.slice a k c],K1,K2,Z,k1,k2,s1,λb hb=>?_,(Enc.sl e E).inh g1⟩,hR⟩,hn,hst⟩
 have h3:=s2 b hb
 have h4:=(Enc.sl e E).inh k2 b hb
 rw[List.mem_filter,not_and] at h3
 have h5:=h3 (List.mem_range.2 h4)
 simpa using h5
theorem b7K (hO:Own A E ce x) (hx:xs.set 0 x=xs) (h:Ent n w0 L0 fr (ow (a0u (Enc.sl e E) E) (.slice (if c=1 then a else a.map (·.add (1*E.k))) (m-1) (c-1)::ce) (xs.drop 1,x)::R) G):Ent n w0 L0 fr (hole e E a m c xs 0 ce::(A++R)) G:=λac w h1 h2=>by
 obtain ⟨L,⟨Lh,Lq,rfl,gh,hAR⟩,hn,hst⟩:=h2
 obtain ⟨L2,LR,rfl,gA,hR⟩:=Sep.append.1 hAR
 obtain ⟨c1,c2,A1,A2,A3,rfl,f1,f2,hj,f4,_,f6,f7,f8⟩:=id gh
 have hrep:=hO _ _ gA
 have hl:(Enc.sl e E).rep w [.slice a m c] xs (A1++(A2++(L2++A3))) true:=by
  refine ⟨a,m,c,c1++(ce++c2),A1,A2++(L2++A3),Z,f1,f2,Z,?_,f8⟩
  rw[←hx,List.set_eq_take_append_cons_drop,if_pos hj]
  exact f6.app ⟨ce,c2,L2,A3,Z,Z,hrep,f7⟩
 obtain ⟨K1,s1,k1⟩:=(Enc.sl e E).ro hl
 obtain ⟨K2,k2,s2⟩:=(show Ro w ((List.range w.heap.size).filter λb=> !(A1++(A2++(L2++A3))).contains b) (Enc.sl e E) [.slice a m c] xs from ⟨K1,k1,λb hb hp=>by
  have:=(List.mem_filter.1 hp).2
  simp only[List.contains_eq_mem,Bool.not_eq_true',decide_eq_false_iff_not] at this
  exact this (s1 b hb)⟩).frm 1 (by omega)
 obtain ⟨K3,s3,k3⟩:=E.ro hrep
 refine h ac w h1 ⟨(A1++(A2++A3))++L2++LR,⟨_,LR,Z,⟨[_],ce,K2,K3,Z,k2,k3,λb hb=>?_,λb hb=>?_,λb hb=>?_⟩,hR⟩,by simpa[List.append_assoc] using hn,by simpa[List.append_assoc] using hst⟩
 ·have h3:=s2 b hb
  have h4:=(Enc.sl e E).inh k2 b hb
  rw[List.mem_filter,not_and] at h3
  have h5:=h3 (List.mem_range.2 h4)
  simp only[List.contains_eq_mem,Bool.not_eq_true',decide_eq_false_iff_not,Decidable.not_not,List.mem_append] at h5 ⊢
  rcases h5 with h|h|h|h<;>simp[h]
 ·have:=s3 b hb;simp[this]
 ·rcases List.mem_append.1 hb with hb|hb
  ·exact (hole e E a m c xs 0 ce).inh gh b hb
  ·exact E.inh hrep b hb
end
def osI (os:List (Option (List Int×List IL))) (g:Nat):Prop:=∃us:List (List Int×List IL),os=none::us.map some∧us.length≤g∧∀q∈us,uQ q.1 q.2
theorem c7G:osI [none] 0:=⟨[],Z,by simp⟩
theorem osI.step {g:Nat} {H:List Int} {A:List IL} {os:List (Option (List Int×List IL))} (h:osI os g) (hx:uQ H A):osI (os++[some (H,A)]) (g+1):=by
 obtain ⟨us,rfl,h⟩:=h
 exact ⟨us++[(H,A)],by simp,a3m h hx⟩
theorem osI.len {g:Nat} {os:List (Option (List Int×List IL))} (h:osI os g):os.length≤g+1:=by
 obtain ⟨us,rfl,h⟩:=h
 simp;exact h.1
end Go.Proofs.YthapcdhdfaibkaaGreatDoor
end
