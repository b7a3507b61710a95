import Derived.Test.YthapcdhdfaibkaaGreatDoorT61
import Derived.Test.YthapcdhdfaibkaaGreatDoorEk
import Derived.Test.YthapcdhdfaibkaaGreatDoorT143
import Derived.Test.YthapcdhdfaibkaaGreatDoorT93
section
namespace Go.Proofs.YthapcdhdfaibkaaGreatDoor
set_option linter.all false
section
variable {s:List Int} {l:List MT5} {u M:List QT} {p q r:QT} {F:List Fct} {out:List (List Int)} {n:Nat} {t:List Int}
theorem b2Y (hu:F9 s u=true):∀{n:Nat},n≤u.length→∀q∈u,∃p∈R6 eQ0 u (K5 s u n) n,hom q p
  |0,_,q,hq=>⟨q,hq,b4f⟩
  |n+1,hn,q,hq=>by
    obtain ⟨p,hp,hh⟩:=b2Y hu (n:=n) (by omega) q hq
    cases hc:a0s s (a1t eQ0 u (K5 s u n) n) u[n] with
    |false=>rw[b1T (by omega) hc, ←b8Z (by omega)];exact ⟨p,hp,hh⟩
    |true=>
      rw[a9B (by omega) hc]
      obtain ⟨z,hz,hcz⟩:=List.any_eq_true.1 hc
      unfold R6 at hp
      rw[List.drop_eq_getElem_cons (show n<u.length by omega)] at hp
      rcases List.mem_append.1 hp with hp|hp
      · exact ⟨p,List.mem_append_left _ hp,hh⟩
      · rcases List.mem_cons.1 hp with rfl|hp
        · exact ⟨z,hz,b8t hh (b6H hcz).2.2⟩
        · exact ⟨p,List.mem_append_right _ hp,hh⟩
theorem a8n (hu:F9 s u=true):∀q∈u,∃p∈m7 s u,hom q p:=λq hq=>by
  have:=b2Y hu (Nat.le_refl _) q hq
  rwa [m7,hu]
theorem a7T (hu:F9 s u=true):F9 s (m7 s u)=true:=by
  have h1:0<u.length:=by
    simp only[F9,Bool.and_eq_true] at hu
    have:=V8 hu.1;omega
  obtain ⟨p,hp,_⟩:=a8n hu _ (List.getElem_mem h1)
  have h2:0<(m7 s u).length:=List.length_pos_of_mem hp
  have h3:=a6q (s:=s) (u:=u)
  have hu2:=hu
  simp only[F9,Bool.and_eq_true,Bool.not_eq_true',List.any_eq_false,Bool.not_eq_true] at hu ⊢
  have h4:=V8 hu.1
  have hl:∀q∈u,q.1.length=(u.getD 0 ([],[])).1.length:=λq hq=>by
    have:=hu.2 q hq
    simp only[a2z,Bool.or_eq_false_iff,decide_eq_false_iff_not] at this
    omega
  refine ⟨decide_eq_true (by omega),λq hq=>?_⟩
  have e0:(m7 s u).getD 0 ([],[])=(m7 s u)[0]:=L5 h2
  have e1:=hl _ (a0e hq)
  have e2:=hl _ (a0e (List.getElem_mem h2))
  rw[a2z,a8a hu2 q hq,e0,Bool.not_true,Bool.false_or]
  exact decide_eq_false (by omega)
theorem a4s:∀{m out:List (List Int)},t∈m.foldl K6 out↔t∈out∨t∈m
  |[],out=>by simp
  |x::m,out=>by rw[List.foldl_cons,a4s (m:=m),b4o,List.mem_cons,or_assoc]
theorem a4t:∀{m out:List (List Int)},a3B out→a3B (m.foldl K6 out)
  |[],_,h=>h
  |x::m,_,h=>a4t (m:=m) (b4g h)
theorem a9D {α:Type} {f:List (List Int)→α→List (List Int)} {P:α→Prop} (hf:∀out a,t∈f out a↔t∈out∨P a):∀{A:List α} {out:List (List Int)},t∈A.foldl f out↔t∈out∨ ∃a∈A,P a
  |[],out=>by simp
  |a::A,out=>by rw[List.foldl_cons,a9D hf (A:=A),hf];simp[or_assoc]
theorem a8g {α:Type} {f:List (List Int)→α→List (List Int)} (hf:∀out a,a3B out→a3B (f out a)):∀{A:List α} {out:List (List Int)},a3B out→a3B (A.foldl f out)
  |[],_,h=>h
  |a::A,out,h=>a8g hf (A:=A) (hf out a h)
theorem b1S (hu:F9 s u=true):t∈a1x s u F↔ ∃q∈u,t∈U8 s q F:=by
  rw[a1x,if_pos hu,a9D (f:=a1H s F) (P:=λq=>t∈U8 s q F) λout a=>a4s];simp
theorem b1D:a3B (a1x s u F):=by
  unfold a1x
  split
  · exact a8g (λout a h=>a4t h) .nil
  · exact .nil
theorem c2l (hu:F9 s u=true) (hF:B8 s F=true) (hq:q∈u) (hp:p∈u) (hh:hom q p):∀t∈U8 s q F,t∈U8 s p F:=b1X (a1u hu q hq) (a1u hu p hp) hh hF
theorem b6g (hu:F9 s u=true) (hF:B8 s F=true):a1x s (m7 s u) F=a1x s u F:=by
  refine a6O b1D b1D λt=>?_
  rw[b1S hu,b1S (a7T hu)]
  constructor
  · rintro ⟨q,hq,ht⟩;exact ⟨q,a0e hq,ht⟩
  · rintro ⟨q,hq,ht⟩
    obtain ⟨p,hp,hh⟩:=a8n hu q hq
    exact ⟨p,hp,c2l hu hF hq (a0e hp) hh t ht⟩
theorem b9G (hu:F9 s u=true) (hr:∀p∈u,∀q∈u,fzB (cU p.2 q.2) p.2=true):a2V s u (m7 s u)=true:=by
  have hc:∀p∈u,∀q∈u,hom p q→a1F s p q=true:=λp hp q hq hh=>by
    rw[a1F,a1u hu p hp,a1u hu q hq,Bool.true_and,Bool.true_and]
    exact c0H (a1u hu p hp) (a1u hu q hq) (hr p hp q hq) hh
  have h1:a4p s u (m7 s u)=true:=by
    rw[a4p,Bool.not_eq_true',List.any_eq_false]
    intro q hq
    obtain ⟨p,hp,hh⟩:=a8n hu q hq
    rw[a1B,a0s,List.any_eq_true.2 ⟨p,hp,hc q hq p (a0e hp) hh⟩];decide
  have h2:a4p s (m7 s u) u=true:=by
    rw[a4p,Bool.not_eq_true',List.any_eq_false]
    intro q hq
    rw[a1B,a0s,List.any_eq_true.2 ⟨q,a0e hq,hc q (a0e hq) q (a0e hq) b4f⟩];decide
  rw[a2V,hu,a7T hu,h1,h2];rfl
theorem b8S (hq:w7 s q=true):∀x∈(grF (exF l) q.2).1,(atM l x.2).2.2.1=0:=λx hx=>by
  obtain ⟨a,b,ha,e,h5⟩:=b6M (n:=q.2.length) x hx
  rw[e];exact ((a5I (l:=l) (b:=b) (a4j hq a ha)).2 h5).2.1
theorem c3s (ho:K9 s l q (grF (exF l) q.2).1=true):b4L l (grF (exF l) q.2).1=true:=by
  refine List.all_eq_true.2 λx hx=>?_
  obtain ⟨h1,h2,h3,h4⟩:=a0m ho
  have h5:=a6t h4 (Nat.le_refl _) x (by rw[List.take_length];exact hx)
  rw[decide_eq_true (b8S h2 x hx),Bool.and_true]
  exact decide_eq_true (by omega)
theorem b6O (h:Q0 s l q=true) (hF:B8 s F=true):X6 l (q.1,I1 l q.2) F=U8 s (q.1,I1 l q.2) F:=by
  have ho:=b2g h
  have h1:=c0d ho hF (b8S (a8I h).2.2.1)
  have h2:=b7q (c:=0) ho hF (c3s ho)
  rw[←h1] at h2
  exact h2
theorem c0b:∀a∈I1 l q.2,a∈q.2:=λa ha=>b2A ha
theorem c2V (hb:ubB s l u F=true):t∈ubF s l u F↔ ∃q∈m7 s u,Q0 s l q=true∧t∈X6 l (q.1,I1 l q.2) F:=by
  rw[ubF,hb,cond_true,a9D (P:=λq=>Q0 s l q=true∧t∈X6 l (q.1,I1 l q.2) F) λout a=>?_]
  · simp
  · unfold ubS
    cases Q0 s l a with
    |true=>rw[cond_true,a4s];simp
    |false=>rw[cond_false];simp
theorem c3o:a3B (ubF s l u F):=by
  unfold ubF
  cases ubB s l u F with
  |false=>exact .nil
  |true=>
    refine a8g (λout a h=>?_) .nil
    unfold ubS
    cases Q0 s l a with
    |true=>exact a4t h
    |false=>exact h
theorem c3D (h:a6A s l u=true) (hF:B8 s F=true):ubF s l u F=a1x s u F:=by
  simp only[a6A,Bool.and_eq_true,Bool.not_eq_true',List.any_eq_false,Bool.not_eq_true] at h
  obtain ⟨hm,hu,hp⟩:=h
  rw[←b6g hu hF]
  refine a6O c3o b1D λt=>?_
  rw[c2V (b3L hm hu hF),b1S (a7T hu)]
  constructor
  · rintro ⟨q,hq,hpr,ht⟩
    have h1:=hp q hq
    simp only[fuB,Bool.or_eq_false_iff,Bool.not_eq_false'] at h1
    obtain ⟨p,h2,h3⟩:=List.any_eq_true.1 h1.2
    rw[b6O hpr hF] at ht
    obtain ⟨k1,k2,k3⟩:=b6H h3
    exact ⟨p,h2,b1X k1 k2 k3 hF t ht⟩
  · rintro ⟨q,hq,ht⟩
    have h1:=hp q hq
    simp only[fuB,Bool.or_eq_false_iff,Bool.not_eq_false'] at h1
    have hpr:Q0 s l q=true:=by rw[Q0,hm,a8a hu q hq,h1.1];rfl
    refine ⟨q,hq,hpr,?_⟩
    rw[b6O hpr hF]
    exact b1X (a8a hu q hq) h1.1 (c1t Z c0b) hF t ht
end
end Go.Proofs.YthapcdhdfaibkaaGreatDoor
end
section
namespace Go.Proofs.YthapcdhdfaibkaaGreatDoor
open Go.RowKit
set_option linter.all false
set_option maxHeartbeats 2000000
attribute [local irreducible] Nop Yd Yp Ent Has Tr FnP FnP2 Src K8 Q7 R5 S1 E8
variable {u:List (List Int×List IL)} {m_u c_u:Nat} {a_u:Option Addr}
theorem a7I (hyu:∀q∈u,D8 (λx=>x.2.length) q.2≤1048576) (hn:u.length≤1048576):Tr Tryz.prog 49 [.slice a_u m_u c_u] (λw L=>Ro w L y7 [.slice a_u m_u c_u] u) [] (κ:=Unit) (λk=>True) (λk=>O8 (a4e u)) (λk=>[]):=by
 refine Ti1 Tryz.func49 23 Z λw L hR=>?_
 have hu:=hR
 obtain ⟨rfl,lu⟩:=hu.slen
 refine Ew Z1<|Ei Z<|Ev Z2<|Est Z (Nb [] [] us_Ss ty_S Z Z)<|λb6 _=>Ent.drop<|Ei Z<|Eu<|Eq_<|Ew Z3<|Em Z<|Yln us_Querys Z<|Em Z<|Eu<|E.block<|m8 (A:=[]) (Own.nil (E:=Enc.str) (e:=tS) (a:=(some ⟨b6,0,none⟩))) Z<|g9 (congrArg (ow eSs [_]) (show _=(u.take 0).map H5 from by rfl))<|Lo (κ:=Nat×SL) (λg=>g.1≤u.length∧True) (λg=>[(3,.slice g.2.1 g.2.2.1 g.2.2.2),(7,.slice a_u u.length c_u),(8,.int .i64 (↑u.length:Int)),(9,.int .i64 (↑g.1:Int))]) (λg=>[ow eSs [.slice g.2.1 g.2.2.1 g.2.2.2]<|(u.take g.1).map H5]) (λg=>u.length-g.1) (0,(some ⟨b6,0,none⟩),0,0) ⟨Nat.zero_le _,by simp⟩<|λg pg=>?_
 obtain ⟨g,aA0_0,mA0_0,cA0_0⟩:=g
 try dsimp only at pg
 try dsimp only
 obtain ⟨pk,pa⟩:=pg
 have jt:=List.length_take_le g u
 refine f0 m0 ?_
 rintro rfl laA0_0
 refine Ew Z1<|Ylt Z<|l3 (λq10=>?_)<|λq10=>?_
 ·obtain ⟨eb11,eo11,ec11,ea11,er11,el11,eh11⟩:=hu.elem g om
  obtain ⟨xa11_0,xc11_0,xa11_1,xc11_1,rfl,xh11_0,xh11_1⟩:=P7 er11
  have:=xh11_0.slen.2
  have:=xh11_1.slen.2
  refine Eu<|Eq_<|Ct<|Eq_<|E.block<|Ew Z4<|Ix us_Querys ty_Query Z ea11 g Z om<|Ey Z (l4 (cs:=[_,_]) ty_Query Z (eh11 _) Z)<|Est Z (N.alloc ty_Query dc)<|λb5 _=>Est Z (Ns [_,_] ty_Query Z)<|λ_ _=>Eu<|Ez Z6<|Em Z<|Ey Z (l4 (cs:=[_,_]) ty_Query Z (Has.pt m0) Z)<|E0 Z (a7L<|hyu _<|List.getElem_mem om) Z (λhA=>⟨hA.ro xh11_0,hA.ro xh11_1⟩)<|Est Z (Nb [_] [_] us_Ss ty_S Z Z)<|λb16 _=>i9<|Est Z (w3 (E:=Enc.str) (ex:=H5 u[g]) us_Ss ty_S Z Z Z Own.str Z bn bn dc)<|λp17 _=>Ei Z<|En<|o6<|Et<|Ez Z2<|Yad Z om om<|Em Z<|Eu<|d8<|Ent.drop<|g9 (congrArg (ow eSs [_]) (show _=(u.take<|g+1).map H5 from by rw[List.take_succ_eq_append_getElem om,List.map_append];rfl)) ?_
  exact Ea (g+1,p17.1,(((u.take g).map H5).length+1),p17.2) ⟨oz,trivial⟩
 ·refine Eu<|Eq_<|r8 Z<|E.exit<|l2<|l2<|u4<|Et<|Eq_<|Ew Z2<|Em Z ?_
  have jg:(u.take g).map H5=u.map H5:=by rw[List.take_of_length_le om]
  have jj:=T3 (f:=H5) (K:=500) (l:=u) (n:=1048576) (sep:=[32,111,114,32]) (λx=>a7V) hn
  refine E0 Z a0Y Z (λhA=>hA.ow m0)<|Ent.b (λq20=>?_)<|λq20=>?_
  ·refine Eu<|r9 Z<|Ew Z1<|Ei Z ?_
   exact Eu<|E.ret<|a5h<|Fg Z Z () (by rw[show (a4e u)=([]) from (by rw[jg,b0L] at q20;exact b4j q20)];try rfl) Z
  ·refine Eu<|Cf<|Ew Z3<|Em Z<|E0 Z (a8U (by simp only[List.length_map,List.length_take];omega) (by rw[jg];exact Nat.le_trans jj dc)) Z (λhA=>hA.ow m0)<|Ei Z ?_
   exact Eu<|E.ret<|Fg Z Z () (by rw[show (a4e u)=(Lib.join ((u.take g).map H5)<|[32,111,114,32]) from (by rw[jg,b0L] at q20;rw[jg];exact b2z q20)];try rfl) Z
theorem a7M (hyu:∀q∈u,D8 (λx=>x.2.length) q.2≤1048576) (hn:u.length≤1048576):Tr Tryz.prog 50 [.slice a_u m_u c_u] (λw L=>Ro w L y7 [.slice a_u m_u c_u] u) [] (κ:=Unit) (λk=>True) (λk=>O8 (a4e u)) (λk=>[]):=by
 refine Ti1 Tryz.func50 27 Z λw L hR=>?_
 have hu:=hR
 obtain ⟨rfl,lu⟩:=hu.slen
 refine Ew Z1<|Ei Z<|Ev Z1<|Ei Z<|Eu<|Eq_<|Ew Z1<|Ei Z<|Eu<|E.block<|E.loop (κ:=Nat) (λg=>g≤u.length∧nT H5 u=nT H5 (u.drop g)) (λg=>[(0,.slice a_u u.length c_u),(3,O8<|Lib.join ((u.take g).map H5) [32,111,114,32]),(4,.int .i64 (g:Int))]) (λg=>[]) (λg=>u.length-g) (0) ⟨Nat.zero_le _,by rfl⟩ ⟨Z,frS (by simp[Lib.join_nil]),Z,trivial⟩ (.refl _)<|λg pg=>?_
 try dsimp only
 obtain ⟨pk,pa⟩:=pg
 have jl:=a2c (f:=H5) (K:=500) (l:=u) (g:=g) (n:=1048576) (B:=528482304) (sep:=[32,111,114,32]) (λx=>a7V) hn dc
 refine Eq_<|Ew Z4<|Em Z<|Em Z<|Yln us_Querys Z<|Ylt Z<|l3 (λq9=>?_)<|λq9=>?_
 ·refine Eu<|Ct<|Eq_<|E.block<|Ew Z6<|Em Z<|Em Z ?_
  obtain ⟨eb14,eo14,ec14,ea14,er14,el14,eh14⟩:=hu.elem g om
  obtain ⟨xa14_0,xc14_0,xa14_1,xc14_1,rfl,xh14_0,xh14_1⟩:=P7 er14
  have:=xh14_0.slen.2
  have:=xh14_1.slen.2
  refine Ix us_Querys ty_Query Z ea14 g Z om<|Ey Z (l4 (cs:=[_,_]) ty_Query Z (eh14 _) Z)<|E0 Z (a8l<|hyu _<|List.getElem_mem om) Z (λhA=>⟨hA.ro xh14_0,hA.ro xh14_1⟩)<|Ei Z<|Eu<|Eq_<|Ew Z2<|Em Z<|Ey Z ((a8z Z Z).yd)<|l3 (λq18=>?_)<|λq18=>?_
  ·refine Eu<|r9 Z<|Ew Z1<|Ei Z ?_
   exact Eu<|E.ret<|a5h<|v7<|a5h<|a5h<|v7<|a5h<|Fg Z Z () (by rw[show (a4e u)=([]) from (by exact b4j (pa.trans<|b7h om q18))];try rfl) Z
  ·have ja:(H5 (u[g].1,u[g].2)).length≤500:=a7V
   refine Eu<|Cf<|Eq_<|Ew Z2<|Em Z<|Ey Z ((Y.gtr Z Z).yd)<|l3 (λq20=>?_)<|λq20=>?_
   ·refine Eu<|r9 Z<|Ez Z3<|Em Z<|Ey Z ((O2 Z Z (by first|omega|(simp only[List.length_append,List.length_cons,List.length_nil] at *;omega))).yd)<|Ei Z<|Eu<|Ez Z4<|Em Z<|Em Z<|Ey Z ((O2 Z Z (by first|omega|(simp only[List.length_append,List.length_cons,List.length_nil] at *;omega))).yd)<|Ei Z<|En<|o6<|Et<|Ez Z3<|Em Z<|Yad Z om om<|Ei Z ?_
    exact Eu<|u7 br (g+1) ⟨Z,frS (by first|exact a3H (f:=H5) om om|exact a3G (f:=H5) om om),Z,trivial⟩ (.refl _) ⟨oz,(show nT H5 u=nT H5 (u.drop<|g+1) from by rw[pa];exact a4L om q18)⟩ oz
   ·refine Eu<|Cf<|Ez Z4<|Em Z<|Em Z<|Ey Z ((O2 Z Z (by first|omega|(simp only[List.length_append,List.length_cons,List.length_nil] at *;omega))).yd)<|Ei Z<|En<|o6<|Et<|Ez Z3<|Em Z<|Yad Z om om<|Ei Z ?_
    exact Eu<|u7 br (g+1) ⟨Z,frS (by first|exact a3H (f:=H5) om om|exact a3G (f:=H5) om om),Z,trivial⟩ (.refl _) ⟨oz,(show nT H5 u=nT H5 (u.drop<|g+1) from by rw[pa];exact a4L om q18)⟩ oz
 ·refine Eu<|r8 Z<|E.exit<|l2<|l2<|u4<|Et<|Ew Z2<|Em Z<|Ei Z ?_
  exact Eu<|E.ret<|Fg Z Z () (by rw[show (a4e u)=(Lib.join ((u.take g).map H5) [32,111,114,32]) from (by rw[b2z<|pa.trans<|b4P om,List.take_of_length_le om])];try rfl) Z
end Go.Proofs.YthapcdhdfaibkaaGreatDoor
end
section
namespace Go.Proofs.YthapcdhdfaibkaaGreatDoor
open Go.RowKit
set_option linter.all false
section
variable {α β:Type} {E:Enc α} {E2:Enc β} {e2:TypeId} {n:Nat} {w0:World} {L0:List Nat} {fr:Fr} {R:List HP} {G:Act→World→Prop} {e:TypeId} {a:Option Addr} {m c:Nat} {xs:List α} {ys:List (List β)} {cs cx:List Value}
end
end Go.Proofs.YthapcdhdfaibkaaGreatDoor
end
section
namespace Go.Proofs.YthapcdhdfaibkaaGreatDoor
open Go.RowKit
set_option linter.all false
set_option maxHeartbeats 2000000
attribute [local irreducible] Nop Yd Yp Ent Has Tr FnP FnP2 Src K8 Q7 R5 S1 E8
theorem a7x {b0q:Option Addr} {b5t b0r:Nat} {b1l:List Int} {a8s:Option Addr} {b3h a8t:Nat} {a3o:List IL} {b0s:Option Addr} {b5u b0t:Nat} {b1m:List Int} {a8u:Option Addr} {b3i a8v:Nat} {a4M:List IL}:TB Tryz.prog 39 [.agg #[.slice b0q b5t b0r,.slice a8s b3h a8t],.agg #[.slice b0s b5u b0t,.slice a8u b3i a8v]] (λw L=>Ro w L eIs [.slice b0q b5t b0r] b1l∧Ro w L v8 [.slice a8s b3h a8t] a3o∧Ro w L eIs [.slice b0s b5u b0t] b1m∧Ro w L v8 [.slice a8u b3i a8v] a4M) (decide ((b1l,a3o)=(b1m,a4M))):=by
 refine Ti2 Tryz.func39 57 Z λw L hR=>?_
 obtain ⟨b6S,b5v,b6T,b5w⟩:=hR
 obtain ⟨rfl,c6c⟩:=b6S.slen
 obtain ⟨rfl,c5T⟩:=b5v.slen
 obtain ⟨rfl,c6d⟩:=b6T.slen
 obtain ⟨rfl,c5U⟩:=b5w.slen
 refine Ew Z3<|Est Z (N.box (cs:=[_,_]) Z dc Z)<|λb2 _=>Est Z (N.box (cs:=[_,_]) Z dc Z)<|λb3 _=>Ei Z<|Eu<|Eq_<|Ew Z15<|Lz fo_Query_0 ty_Is Z (mS m0) Z<|Lz fo_Query_0 ty_Is Z m0 Z<|E0 Z a2b Z (λhA=>⟨hA.ro b6S,hA.ro b6T⟩)<|Ent.b (λq10=>?_)<|λq10=>?_
 ·refine Yno true Z<|Em Z<|Lz fo_Query_1 ty_Atoms Z (mS m0) Z<|Yln us_Atoms Z<|Lz fo_Query_1 ty_Atoms Z m0 Z<|Yln us_Atoms Z<|Ey Z ((Y.neq Z Z).yd)<|l3 (λq19=>?_)<|λq19=>?_
  ·refine Ypf Z<|Eu<|r9 Z<|Ew Z1<|Ei Z<|Eu<|E.ret<|a5h<|Fb Z Z (by grind[d1,d2,t1,t2])
  ·refine Ypf Z<|Eu<|Cf<|Eq_<|Ew Z1<|Ei Z<|Eu<|E.block<|Lo (κ:=Nat) (λg=>g≤a3o.length∧b1l=b1m∧a3o.length=a4M.length∧(a3o=a4M↔a3o.drop g=a4M.drop g)) (λg=>[(2,.pointer<|some ⟨b2,0,none⟩),(3,.pointer<|some ⟨b3,0,none⟩),(5,.int .i64 (g:Int))]) (λg=>[pt b3 28 [.slice b0s b1m.length b0t,.slice a8u a4M.length a8v],pt b2 28 [.slice b0q b1l.length b0r,.slice a8s a3o.length a8t]]) (λg=>a3o.length-g) 0 ⟨Nat.zero_le _,by exact ⟨of_decide_eq_true q10,by omega,by simp⟩⟩<|λg pg=>?_
   obtain ⟨pk,pa⟩:=pg
   refine Eq_<|Ew Z5<|Em Z<|Lz fo_Query_1 ty_Atoms Z (mS m0) Z<|Yln us_Atoms Z<|Ylt Z<|l3 (λq25=>?_)<|λq25=>?_
   ·refine Eu<|Ct<|Eq_<|E.block<|Eq_<|D.region (λj=>true) mixed<|Df 0 1 fo_Query_1 ty_Atoms Z (Hz (mS m0) 1 Z)<|Dm 2 Z ?_
    obtain ⟨eb31,eo31,ec31,ea31,er31,el31,eh31⟩:=b5v.elem g om
    obtain ⟨xa31_0,xc31_0,rfl,ei31_0,xh31_0⟩:=L6 er31
    have:=xh31_0.slen.2
    refine Dyp 3 Z (y6 us_Atoms ty_Atom Z ea31 Z g Z om)<|Df 4 5 fo_Atom_0 j8 Z (Hs (eh31 _) 0 Z)<|Df 6 7 fo_Query_1 ty_Atoms Z (Hz m0 1 Z)<|Dm 8 Z ?_
    obtain ⟨eb37,eo37,ec37,ea37,er37,el37,eh37⟩:=b5w.elem g om
    obtain ⟨xa37_0,xc37_0,rfl,ei37_0,xh37_0⟩:=L6 er37
    have:=xh37_0.slen.2
    refine Dyp 9 Z (y6 us_Atoms ty_Atom Z ea37 Z g Z om)<|Df 10 11 fo_Atom_0 j8 Z (Hs (eh37 _) 0 Z)<|Dyp 12 Z (Y.neq Z Z)<|l3 (λq40=>?_)<|λq40=>?_
    ·refine Dm 13 Z<|Dsk 14 Z<|Dsk 15 Z<|Dsk 16 Z<|Dsk 17 Z<|Dsk 18 Z<|Dsk 19 Z<|Dsk 20 Z<|Dsk 21 Z<|Dsk 22 Z<|Dsk 23 Z<|Dsk 24 Z<|Dsk 25 Z<|Dsk 26 Z<|Dsk 27 Z<|Dyp 28 Z (J9 Z Z)<|o4 kr<|Et<|r9 Z<|Ew Z1<|Ei Z<|Eu<|E.ret<|v7<|a5h<|a5h<|v7<|a5h<|Fb Z Z (by grind[d1,d2,t1,t2])
    ·refine Dm 13 Z<|Df 14 15 fo_Query_1 ty_Atoms Z (Hz (mS m0) 1 Z)<|Dm 16 Z<|Dyp 17 Z (y6 us_Atoms ty_Atom Z ea31 Z g Z om)<|Df 18 19 fo_Atom_1 ty_Is Z (Hs (eh31 _) 1 Z)<|Df 20 21 fo_Query_1 ty_Atoms Z (Hz m0 1 Z)<|Dm 22 Z<|Dyp 23 Z (y6 us_Atoms ty_Atom Z ea37 Z g Z om)<|Df 24 25 fo_Atom_1 ty_Is Z (Hs (eh37 _) 1 Z)<|D0 26 Z a2b Z (λhA=>⟨hA.ro xh31_0,hA.ro xh37_0⟩)<|Ent.b (λq54=>?_)<|λq54=>?_
     ·refine Dyp 27 Z (Y.not (b:=true) Z)<|Dyp 28 Z (J3 Z Z)<|o4 kr<|Et<|r8 Z<|v6<|o6<|Et<|Ez Z3<|Em Z<|Yad Z om om<|Ei Z<|Eu<|d8<|d8 ?_
      exact u7 br (g+1) rs (.refl _) ⟨by omega,by grind[d1,d2,t1,t2]⟩ om
     ·refine Dyp 27 Z (Y.not (b:=false) Z)<|Dyp 28 Z (J3 Z Z)<|o4 kr<|Et<|r9 Z<|Ew Z1<|Ei Z<|Eu<|E.ret<|v7<|a5h<|a5h<|v7<|a5h<|Fb Z Z (by grind[d1,d2,t1,t2])
   ·refine Eu<|r8 Z<|E.exit<|l2<|l2<|u4<|Et<|Ew Z1<|Ei Z<|Eu<|E.ret<|Fb Z Z (by grind[d1,d2,t1,t2])
 ·refine Yno false Z<|Em Z<|Es Z<|Es Z<|Es Z<|Es Z<|Es Z<|Es Z<|Es Z<|Ypt Z<|Eu<|r9 Z<|Ew Z1<|Ei Z<|Eu<|E.ret<|a5h<|Fb Z Z (by grind[d1,d2,t1,t2])
end Go.Proofs.YthapcdhdfaibkaaGreatDoor
end
section
namespace Go.Proofs.YthapcdhdfaibkaaGreatDoor
set_option linter.all false
section
variable {ys l:List (List Int)} {t:List Int} {g:Nat}
def c4H (t:List Int):Str:=[40]++Lib.join (t.map O7) [44]++[41]
def c6i (l:List (List Int)):Str:=if l.length=0 then [110,111,110,101] else Lib.join (l.map c4H) [32]
end
end Go.Proofs.YthapcdhdfaibkaaGreatDoor
end
section
namespace Go.Proofs.YthapcdhdfaibkaaGreatDoor
open Go.RowKit
set_option linter.all false
set_option maxHeartbeats 2000000
attribute [local irreducible] Nop Yd Yp Ent Has Tr FnP FnP2 Src K8 Q7 R5 S1 E8
theorem a1A {a_a:Option Addr} {m_a c_a:Nat} {a:List (List Int)} {a_b:Option Addr} {m_b c_b:Nat} {b:List (List Int)}:TB Tryz.prog 11 [.slice a_a m_a c_a,.slice a_b m_b c_b] (λw L=>Ro w L D5 [.slice a_a m_a c_a] a∧Ro w L D5 [.slice a_b m_b c_b] b) (decide (a=b)):=by
 refine Ti2 Tryz.func11 27 Z λw L hR=>?_
 obtain ⟨ha,hb⟩:=hR
 obtain ⟨rfl,la⟩:=ha.slen
 obtain ⟨rfl,lb⟩:=hb.slen
 refine Ew Z1<|Ei Z<|Eu<|Eq_<|Ew Z5<|Em Z<|Yln us_Iss Z<|Em Z<|Yln us_Iss Z<|Ey Z ((Y.neq Z Z).yd)<|l3 (λq10=>?_)<|λq10=>?_
 ·refine Eu<|r9 Z<|Ew Z1<|Ei Z<|Eu<|E.ret<|a5h<|Fb Z Z (by grind[d1,d2,t1,t2])
 ·refine Eu<|Cf<|Eq_<|Ew Z1<|Ei Z<|Eu<|E.block<|Lo (κ:=Nat) (λg=>g≤a.length∧a.length=b.length∧(a=b↔a.drop g=b.drop g)) (λg=>[(0,.slice a_a a.length c_a),(1,.slice a_b b.length c_b),(5,.int .i64 (g:Int))]) (λg=>[]) (λg=>a.length-g) 0 ⟨Nat.zero_le _,by exact ⟨by omega,by simp⟩⟩<|λg pg=>?_
  obtain ⟨pk,pa⟩:=pg
  refine Eq_<|Ew Z4<|Em Z<|Em Z<|Yln us_Iss Z<|Ylt Z<|l3 (λq14=>?_)<|λq14=>?_
  ·refine Eu<|Ct<|Eq_<|E.block<|Eq_<|D.region (λj=>true) mixed<|Dm 0 Z<|Dm 1 Z ?_
   obtain ⟨eb19,eo19,ec19,ea19,er19,el19,eh19⟩:=ha.elem g om
   obtain ⟨xa19,xc19,rfl⟩:=er19.sl
   have:=er19.slen.2
   refine Dyp 2 Z (y6 us_Iss ty_Is Z ea19 Z g Z om)<|Dy 3 Z (z7 ty_Is Z (eh19 _) Z)<|Dm 4 Z<|Dm 5 Z ?_
   obtain ⟨eb23,eo23,ec23,ea23,er23,el23,eh23⟩:=hb.elem g om
   obtain ⟨xa23,xc23,rfl⟩:=er23.sl
   have:=er23.slen.2
   refine Dyp 6 Z (y6 us_Iss ty_Is Z ea23 Z g Z om)<|Dy 7 Z (z7 ty_Is Z (eh23 _) Z)<|D0 8 Z a2b Z (λhA=>⟨hA.ro er19,hA.ro er23⟩)<|Ent.b (λq25=>?_)<|λq25=>?_
   ·refine Dyp 9 Z (Y.not (b:=true) Z)<|o4 kr<|Et<|r8 Z<|v6<|o6<|Et<|Ez Z3<|Em Z<|Yad Z om om<|Ei Z ?_
    exact Eu<|u7 br (g+1) rs (.refl _) ⟨by omega,by grind[d1,d2,t1,t2]⟩ om
   ·refine Dyp 9 Z (Y.not (b:=false) Z)<|o4 kr<|Et<|r9 Z<|Ew Z1<|Ei Z<|Eu<|E.ret<|v7<|a5h<|a5h<|v7<|a5h<|Fb Z Z (by grind[d1,d2,t1,t2])
  ·refine Eu<|r8 Z<|E.exit<|l2<|l2<|u4<|Et<|Ew Z1<|Ei Z<|Eu<|E.ret<|Fb Z Z (by grind[d1,d2,t1,t2])
end Go.Proofs.YthapcdhdfaibkaaGreatDoor
end
section
namespace Go.Proofs.YthapcdhdfaibkaaGreatDoor
open Go.RowKit Go.ChangeShapes Go.WideShapes Go.ChangeAt
theorem a0U.u8 {P:Program} {t:TypeId} (ht:P.underlying t=some (.int .u8)):a0U P Enc.u8 t:=λh=>by
  obtain ⟨n,rfl,_,hw⟩:=DataW.trod_int ht h
  have hr:0≤n∧n≤255:=by simpa[Lit.wf,IntKind.min,IntKind.max,IntKind.signed,IntKind.bits] using hw
  refine ⟨UInt8.ofNat n.toNat,[],?_,Z⟩
  have:(UInt8.ofNat n.toNat).toNat=n.toNat:=by rw[UInt8.toNat_ofNat'];omega
  rw[this,Int.toNat_of_nonneg hr.1]
theorem op_U8s:a0U Tryz.prog a0f 22 :=a0U.sl us_U8s (by kernel_rfl) (a0U.u8 (by kernel_rfl))
end Go.Proofs.YthapcdhdfaibkaaGreatDoor
end
section
namespace Go.Proofs.YthapcdhdfaibkaaGreatDoor
open Go.RowKit
set_option linter.all false
set_option maxHeartbeats 2000000
attribute [local irreducible] Nop Yd Yp Ent Has Tr FnP FnP2 Src K8 Q7 R5 S1 E8
theorem b0J {a_code:Option Addr} {m_code c_code:Nat} {code:List UInt8}:TB Tryz.prog 4 [.slice a_code m_code c_code] (λw L=>Ro w L a0f [.slice a_code m_code c_code] code) (true):=by
 refine Ti1 Tryz.func4 182 Z λw L hR=>?_
 have hcode:=hR
 obtain ⟨rfl,lcode⟩:=hcode.slen
 refine Ew Z1<|Ei Z<|Eu<|Eq_<|Ew Z2<|Em Z<|E0 Z b7o Z (λhA=>hA.ro hcode)<|Ent.b (λq21=>?_)<|λq21=>?_
 ·refine Eu<|r9 Z<|Ew Z1<|Ei Z<|Eu<|E.ret<|a5h<|Fg Z Z () Z Z
 ·have hcl:code.length≤1048576:=by have:=of_decide_eq_false q21;omega
  refine Eu<|Cf<|Ew Z11<|Em Z<|Est Z (N.call (a5j (by first|assumption|omega)) Z Z Z dc Z<|λw Lp hA=>hA.ro hcode)<|λk24 o24=>?_
  obtain ⟨xs24,ms24,us24,fl24,⟨a24_0,m24_0,c24_0⟩,⟨a24_1,m24_1,c24_1⟩,⟨a24_2,m24_2,c24_2⟩,⟨a24_3,m24_3,c24_3⟩⟩:=k24
  try dsimp only at o24
  try (conv=>arg 4;dsimp only)
  try (conv=>arg 5;dsimp only[ca,na])
  have jt:=o24.2.2.1.tot
  have jh:=o24.2.2.1.head
  have jn:us24.length≤3:=o24.2.2.1.1.2
  have jml:=a6q (s:=xs24) (u:=us24)
  refine f0 m0 ?_
  rintro rfl l24_0
  refine f0 (mS m0) ?_
  rintro rfl l24_1
  refine f0 (mS<|mS m0) ?_
  rintro rfl l24_2
  refine f0 (mS<|mS<|mS m0) ?_
  rintro rfl l24_3
  refine n0<|n0<|n0<|n0<|a0n (A:=[_,_,_,_]) Z λwb1 Lb1 hB1 hA1=>?_
  have hcode:=hA1.ro hcode
  have rb1_0:Ro wb1 Lb1 eIs [.slice a24_0 (xs24).length c24_0] xs24:=hA1.ow m0
  have rb1_1:Ro wb1 Lb1 F0 [.slice a24_1 (ms24).length c24_1] ms24:=hA1.ow (mS m0)
  have rb1_2:Ro wb1 Lb1 y7 [.slice a24_2 (us24).length c24_2] us24:=hA1.ow (mS (mS m0))
  have rb1_3:Ro wb1 Lb1 t7 [.slice a24_3 (fl24).length c24_3] fl24:=hA1.ow (mS (mS (mS m0)))
  refine Em Z<|Ey Z ((Y.ext Z Z).yd)<|Ey Z ((Y.ext Z Z).yd)<|Ey Z ((Y.ext Z Z).yd)<|Ey Z ((Y.ext Z Z).yd)<|Ei Z<|Ei Z<|Ei Z<|Ei Z<|Ev Z5<|Em Z<|Em Z<|Em Z<|El Z (a3J jt) Z (λhA=>⟨hA.ro rb1_0,hA.ro rb1_2,hA.ro rb1_3⟩)<|λa32 c32 l32=>a0n (A:=[_]) Z λwb2 Lb2 hB2 hA2=>?_
  have hcode:=hA2.ro hcode
  have rb1_0:=hA2.ro rb1_0
  have rb1_1:=hA2.ro rb1_1
  have rb1_2:=hA2.ro rb1_2
  have rb1_3:=hA2.ro rb1_3
  have rb2:Ro wb2 Lb2 D5 [.slice a32 (a1x xs24 us24 fl24).length c32] (a1x xs24 us24 fl24):=hA2.ow m0
  refine Ei Z<|Ev Z4<|Em Z<|Em Z<|El Z (a2j jt jh om) Z (λhA=>⟨hA.ro rb1_0,hA.ro rb1_2⟩)<|λa35 c35 l35=>a0n (A:=[_]) Z λwb3 Lb3 hB3 hA3=>?_
  have hcode:=hA3.ro hcode
  have rb1_0:=hA3.ro rb1_0
  have rb1_1:=hA3.ro rb1_1
  have rb1_2:=hA3.ro rb1_2
  have rb1_3:=hA3.ro rb1_3
  have rb2:=hA3.ro rb2
  have rb3:Ro wb3 Lb3 y7 [.slice a35 (m7 xs24 us24).length c35] (m7 xs24 us24):=hA3.ow m0
  refine Ei Z<|Ev Z4<|Em Z<|Em Z<|El Z (a2h jt jh om) Z (λhA=>⟨hA.ro rb1_0,hA.ro rb1_2⟩)<|λa38 c38 l38=>a0n (A:=[_]) Z λwb4 Lb4 hB4 hA4=>?_
  have hcode:=hA4.ro hcode
  have rb1_0:=hA4.ro rb1_0
  have rb1_1:=hA4.ro rb1_1
  have rb1_2:=hA4.ro rb1_2
  have rb1_3:=hA4.ro rb1_3
  have rb2:=hA4.ro rb2
  have rb3:=hA4.ro rb3
  have rb4:Ro wb4 Lb4 y7 [.slice a38 (m7 xs24 us24).length c38] (m7 xs24 us24):=hA4.ow m0
  refine Ei Z<|Ev Z6<|Em Z<|Em Z<|Em Z<|Em Z<|El Z (a7t jt jh om) Z (λhA=>⟨hA.ro rb1_0,hA.ro rb1_1,hA.ro rb1_2,hA.ro rb1_3⟩)<|λa43 c43 l43=>a0n (A:=[_]) Z λwb5 Lb5 hB5 hA5=>?_
  have hcode:=hA5.ro hcode
  have rb1_0:=hA5.ro rb1_0
  have rb1_1:=hA5.ro rb1_1
  have rb1_2:=hA5.ro rb1_2
  have rb1_3:=hA5.ro rb1_3
  have rb2:=hA5.ro rb2
  have rb3:=hA5.ro rb3
  have rb4:=hA5.ro rb4
  have rb5:Ro wb5 Lb5 D5 [.slice a43 (ubF xs24 ms24 us24 fl24).length c43] (ubF xs24 ms24 us24 fl24):=hA5.ow m0
  refine Ei Z<|Eu<|Eq_<|a2X (κ:=Unit) (λ_=>True) (λkM=>[(0,.slice a_code code.length c_code),(3,.slice a24_0 (xs24).length c24_0),(4,.slice a24_1 (ms24).length c24_1),(5,.slice a24_2 (us24).length c24_2),(6,.slice a24_3 (fl24).length c24_3),(7,.slice a32 (a1x xs24 us24 fl24).length c32),(8,.slice a35 (m7 xs24 us24).length c35),(9,.slice a38 (m7 xs24 us24).length c38),(10,.slice a43 (ubF xs24 ms24 us24 fl24).length c43)]) (λkM=>[]) ?_<|λkM _=>?_
  ·refine Ew Z35<|Em Z<|Em Z<|Em Z<|Em Z<|El Z (c7b jt) Z (λhA=>⟨hA.ro rb1_0,hA.ro rb1_2,hA.ro rb1_3⟩)<|λa48 c48 l48=>E0 Z a1A Z (λhA=>⟨hA.ro rb2,hA.ow m0⟩)<|Ent.b (λq49=>?_)<|λq49=>?_
   ·refine Yno true Z<|Em Z<|Em Z<|Yln us_Querys Z<|Em Z<|Yln us_Querys Z<|Ey Z ((Y.neq Z Z).yd)<|l3 (λq56=>?_)<|λq56=>?_
    ·exact absurd Z q56
    ·refine Ypf Z<|Em Z<|Em Z<|Em Z<|Em Z<|Em Z<|Em Z<|El Z (a7s jt jh om) Z (λhA=>⟨hA.ro rb1_0,hA.ro rb1_1,hA.ro rb1_2,hA.ro rb1_3⟩)<|λa64 c64 l64=>E0 Z a1A Z (λhA=>⟨hA.ro rb5,hA.ow m0⟩)<|Ent.b (λq65=>?_)<|λq65=>?_
     ·refine Yno true Z<|Ypf Z<|Em Z<|Em Z<|Em Z<|Em Z<|E0 Z (a2S jt jh om) Z (λhA=>⟨hA.ro rb1_0,hA.ro rb1_1,hA.ro rb1_2⟩)<|Em Z<|Em Z<|Em Z<|E0 Z (c6Z jt jh om) Z (λhA=>⟨hA.ro rb1_0,hA.ro rb1_1,hA.ro rb1_2⟩)<|Ey Z ((c3S kr Z Z).yd)<|l3 (λq77=>?_)<|λq77=>?_
      ·exact absurd Z q77
      ·refine Ypf Z<|Eu<|r8 Z<|v6<|Ent.drop<|Ent.drop<|P8 () trivial ⟨Z,Z,Z,Z,Z,Z,Z,Z,Z,trivial⟩<|.refl _
     ·exact absurd q65 (by simp)
   ·exact absurd q49 (by simp)
  ·show Ent _ _ _ [(0,.slice a_code code.length c_code),(3,.slice a24_0 (xs24).length c24_0),(4,.slice a24_1 (ms24).length c24_1),(5,.slice a24_2 (us24).length c24_2),(6,.slice a24_3 (fl24).length c24_3),(7,.slice a32 (a1x xs24 us24 fl24).length c32),(8,.slice a35 (m7 xs24 us24).length c35),(9,.slice a38 (m7 xs24 us24).length c38),(10,.slice a43 (ubF xs24 ms24 us24 fl24).length c43)] [] _
   refine Et<|Eq_<|Ew Z1<|Ei Z<|Eu<|E.block<|Lo (κ:=Nat) (λg=>g≤(m7 xs24 us24).length∧True) (λg=>[(0,.slice a_code code.length c_code),(3,.slice a24_0 (xs24).length c24_0),(4,.slice a24_1 (ms24).length c24_1),(5,.slice a24_2 (us24).length c24_2),(6,.slice a24_3 (fl24).length c24_3),(7,.slice a32 (a1x xs24 us24 fl24).length c32),(8,.slice a35 (m7 xs24 us24).length c35),(9,.slice a38 (m7 xs24 us24).length c38),(10,.slice a43 (ubF xs24 ms24 us24 fl24).length c43),(11,.int .i64 (g:Int))]) (λg=>[]) (λg=>(m7 xs24 us24).length-g) 0 ⟨Nat.zero_le _,by simp⟩<|λg pg=>?_
   obtain ⟨pk,pa⟩:=pg
   refine Eq_<|Ew Z4<|Em Z<|Em Z<|Yln us_Querys Z<|Ylt Z<|l3 (λq82=>?_)<|λq82=>?_
   ·refine Eu<|Ct<|Eq_<|E.block<|Eq_<|D.region (λj=>true) mixed<|Dm 0 Z<|Dm 1 Z ?_
    obtain ⟨eb87,eo87,ec87,ea87,er87,el87,eh87⟩:=rb3.elem g om
    obtain ⟨xa87_0,xc87_0,xa87_1,xc87_1,rfl,xh87_0,xh87_1⟩:=P7 er87
    have:=xh87_0.slen.2
    have:=xh87_1.slen.2
    refine Dyp 2 Z (y6 us_Querys ty_Query Z ea87 Z g Z om)<|Dy 3 Z (l4 (cs:=[_,_]) ty_Query Z (eh87 _) Z)<|Dm 4 Z<|Dm 5 Z ?_
    obtain ⟨eb91,eo91,ec91,ea91,er91,el91,eh91⟩:=rb4.elem g om
    obtain ⟨xa91_0,xc91_0,xa91_1,xc91_1,rfl,xh91_0,xh91_1⟩:=P7 er91
    have:=xh91_0.slen.2
    have:=xh91_1.slen.2
    refine Dyp 6 Z (y6 us_Querys ty_Query Z ea91 Z g Z om)<|Dy 7 Z (l4 (cs:=[_,_]) ty_Query Z (eh91 _) Z)<|D0 8 Z a7x Z (λhA=>⟨hA.ro xh87_0,hA.ro xh87_1,hA.ro xh91_0,hA.ro xh91_1⟩)<|Ent.b (λq93=>?_)<|λq93=>?_
    ·refine Dyp 9 Z (Y.not (b:=true) Z)<|o4 kr<|Et<|r8 Z<|v6<|o6<|Et<|Ez Z3<|Em Z<|Yad Z om om<|Ei Z ?_
     exact Eu<|u7 br (g+1) rs (.refl _) ⟨by omega,by grind[d1,d2,t1,t2]⟩ om
    ·exact absurd q93 (by simp)
   ·refine Eu<|r8 Z<|E.exit<|l2<|l2<|u4<|Et<|Eq_<|a2X (κ:=Unit) (λ_=>True) (λkM=>[(0,.slice a_code code.length c_code)]) (λkM=>[]) ?_<|λkM _=>?_
    ·refine Ew Z8<|Em Z<|Em Z<|E0 Z (a0K jt) Z (λhA=>⟨hA.ro rb1_0,hA.ro rb1_2⟩)<|Ent.b (λq97=>?_)<|λq97=>?_
     ·refine Em Z<|Em Z<|Em Z<|E0 Z a1i Z (λhA=>⟨hA.ro rb1_0,hA.ro rb1_3⟩)<|Ent.b (λq101=>?_)<|λq101=>?_
      ·refine Ypt Z<|Eu<|r9 Z<|Ew Z26<|Em Z<|Em Z<|Em Z<|El Z (a3J<|λq hq=>jt q<|a0e hq) Z (λhA=>⟨hA.ro rb1_0,hA.ro rb4,hA.ro rb1_3⟩)<|λa106 c106 l106=>Em Z<|E0 Z a1A Z (λhA=>⟨hA.ow m0,hA.ro rb2⟩)<|Ent.b (λq108=>?_)<|λq108=>?_
       ·refine Yno true Z<|Em Z<|Em Z<|Em Z<|Em Z<|E0 Z (a4u jt<|λq hq=>jt q<|a0e hq) Z (λhA=>⟨hA.ro rb1_0,hA.ro rb1_2,hA.ro rb4⟩)<|Ent.b (λq114=>?_)<|λq114=>?_
        ·refine Yno true Z<|Ypf Z<|Em Z<|Em Z<|Em Z<|Em Z<|E0 Z (a2S jt jh om) Z (λhA=>⟨hA.ro rb1_0,hA.ro rb1_1,hA.ro rb1_2⟩)<|Ent.b (λq121=>?_)<|λq121=>?_
         ·refine Em Z<|Em Z<|Em Z<|E0 Z a1A Z (λhA=>⟨hA.ro rb5,hA.ro rb2⟩)<|Ent.b (λq125=>?_)<|λq125=>?_
          ·refine Yno true Z<|Ypt Z<|Ypf Z<|Eu<|r8 Z<|v6<|Ent.drop<|P8 () trivial ⟨Z,trivial⟩<|.refl _
          ·exact absurd (c3D q121 q101)<|of_decide_eq_false q125
         ·refine Em Z<|Es Z<|Es Z<|Es Z<|Es Z<|Ypf Z<|Ypf Z<|Eu<|r8 Z<|v6<|Ent.drop<|P8 () trivial ⟨Z,trivial⟩<|.refl _
        ·exact absurd (b9G q97<|λp hp q hq=>c2d (o24.2.2.1.2 p hp).2 (o24.2.2.1.2 q hq).2) (by rw[q114];decide)
       ·exact absurd (b6g q97 q101)<|of_decide_eq_false q108
      ·refine Ypt Z<|Eu<|r8 Z<|v6<|P8 () trivial ⟨Z,trivial⟩<|.refl _
     ·refine Em Z<|Es Z<|Es Z<|Es Z<|Ypf Z<|Eu<|r8 Z<|v6<|P8 () trivial ⟨Z,trivial⟩<|.refl _
    ·show Ent _ _ _ [(0,.slice a_code code.length c_code)] [] _
     refine Et<|Ew Z10<|Em Z<|Est Z (N.call (a5S (by first|assumption|omega)) Z Z Z dc Z<|λw Lp hA=>hA.ro hcode)<|λk131 o131=>?_
     obtain ⟨xs131,hq131,aq131,us131,⟨a131_0,m131_0,c131_0⟩,⟨a131_1,m131_1,c131_1⟩,⟨a131_2,m131_2,c131_2⟩,⟨a131_3,m131_3,c131_3⟩⟩:=k131
     try dsimp only at o131
     try (conv=>arg 4;dsimp only)
     try (conv=>arg 5;dsimp only[ca,na])
     have jq:=b8f o131.2.1
     have jv:=b2f o131.2.2.2
     refine f0 m0 ?_
     rintro rfl l131_0
     refine c2D (mS m0) λe131_1 l131_1=>?_
     subst e131_1
     refine c2H (mS m0) λe131_2 l131_2=>?_
     subst e131_2
     refine c2K (mS m0) λe131_3 l131_3=>?_
     subst e131_3
     refine d8<|d8<|a0n (A:=[_,_]) Z λwb6 Lb6 hB6 hA6=>?_
     have hcode:=hA6.ro hcode
     have rb6_0:Ro wb6 Lb6 eIs [.slice a131_0 (xs131).length c131_0] xs131:=hA6.ow m0
     have rb6_1:Ro wb6 Lb6 (a0u y7 O6) [.slice a131_3 (us131).length c131_3,.slice a131_1 (hq131).length c131_1,.slice a131_2 (aq131).length c131_2] (us131,(hq131,aq131)):=hA6.ow (mS m0)
     obtain ⟨rb6_1a,rb6_1q⟩:=a9a rb6_1 Z
     obtain ⟨rb6_1b,rb6_1c⟩:=b0x rb6_1q Z
     refine Em Z<|Ey Z ((Y.ext Z Z).yd)<|Ey Z ((Y.ext Z Z).yd)<|Ey Z ((Y.ext Z Z).yd)<|Est Z (N.alloc ty_Query dc)<|λb13 _=>Ei Z<|Est Z (Ns [_,_] ty_Query Z)<|λ_ _=>Ei Z<|Ev Z9<|Em Z<|Est Z (N.call (a6c (by first|assumption|omega)) Z Z Z dc Z<|λw Lp hA=>hA.ro hcode)<|λk137 o137=>?_
     obtain ⟨xs137,us137,vs137,⟨a137_0,m137_0,c137_0⟩,⟨a137_1,m137_1,c137_1⟩,⟨a137_2,m137_2,c137_2⟩⟩:=k137
     try dsimp only at o137
     try (conv=>arg 4;dsimp only)
     try (conv=>arg 5;dsimp only[ca,na])
     have ja:=o137.2.1.tot
     have jb:=b2f o137.2.2
     refine f0 m0 ?_
     rintro rfl l137_0
     refine c2F (mS m0) λe137_1 l137_1=>?_
     subst e137_1
     refine c2G Z (mS m0) λe137_2 l137_2=>?_
     subst e137_2
     refine d8<|d8<|a0n (A:=[_,_]) Z λwb7 Lb7 hB7 hA7=>?_
     have hcode:=hA7.ro hcode
     have rb6_0:=hA7.ro rb6_0
     have rb6_1b:=hA7.ro rb6_1b
     have rb6_1c:=hA7.ro rb6_1c
     have rb6_1a:=hA7.ro rb6_1a
     have rb7_0:Ro wb7 Lb7 eIs [.slice a137_0 (xs137).length c137_0] xs137:=hA7.ow m0
     have rb7_1:Ro wb7 Lb7 (a0u y7 y7) [.slice a137_1 (us137).length c137_1,.slice a137_2 (vs137).length c137_2] (us137,vs137):=hA7.ow (mS m0)
     obtain ⟨rb7_1a,rb7_1b⟩:=b5F rb7_1 Z
     refine Em Z<|Ey Z ((Y.ext Z Z).yd)<|Ey Z ((Y.ext Z Z).yd)<|Ey Z ((Y.ext Z Z).yd)<|Ei Z<|Ei Z<|Ei Z<|Ev Z7<|Em Z<|Est Z (N.call (a7E (by first|assumption|omega)) Z Z Z dc Z<|λw Lp hA=>hA.ro hcode)<|λk143 o143=>?_
     obtain ⟨xs143,us143,⟨a143_0,m143_0,c143_0⟩,⟨a143_1,m143_1,c143_1⟩⟩:=k143
     try dsimp only at o143
     try (conv=>arg 4;dsimp only)
     try (conv=>arg 5;dsimp only[ca,na])
     have jw:=o143.2.tot
     have jwn:us143.length≤3:=o143.2.1.2
     refine f0 m0 ?_
     rintro rfl l143_0
     refine f0 (mS m0) ?_
     rintro rfl l143_1
     refine d8<|d8<|a0n (A:=[_,_]) Z λwb8 Lb8 hB8 hA8=>?_
     have hcode:=hA8.ro hcode
     have rb6_0:=hA8.ro rb6_0
     have rb6_1b:=hA8.ro rb6_1b
     have rb6_1c:=hA8.ro rb6_1c
     have rb6_1a:=hA8.ro rb6_1a
     have rb7_0:=hA8.ro rb7_0
     have rb7_1a:=hA8.ro rb7_1a
     have rb7_1b:=hA8.ro rb7_1b
     have rb8_0:Ro wb8 Lb8 eIs [.slice a143_0 (xs143).length c143_0] xs143:=hA8.ow m0
     have rb8_1:Ro wb8 Lb8 y7 [.slice a143_1 (us143).length c143_1] us143:=hA8.ow (mS m0)
     refine Em Z<|Ey Z ((Y.ext Z Z).yd)<|Ey Z ((Y.ext Z Z).yd)<|Ei Z<|Ei Z<|Eu<|Eq_<|D.region (λj=>true) mixed<|Dm 0 Z<|Dy 1 Z (l4 (cs:=[_,_]) ty_Query Z (Has.pt m0) Z)<|Dm 2 Z<|Dm 4 Z<|Dy 5 Z (l4 (cs:=[_,_]) ty_Query Z (Has.pt m0) Z)<|Dm 6 Z<|D0 3 Z (a1k jq jv) Z (λhA=>⟨hA.ro rb6_0,hA.ro rb6_1b,hA.ro rb6_1c,hA.ro rb6_1a⟩)<|D0 7 Z (a1h jq jv) Z (λhA=>⟨hA.ro rb6_0,hA.ro rb6_1b,hA.ro rb6_1c,hA.ro rb6_1a⟩)<|Dyp 8 Z (b5I kr Z Z)<|l3 (λq154=>?_)<|λq154=>?_
     ·refine Dm 9 Z<|Dm 10 Z<|Dm 11 Z<|Dm 12 Z<|Dm 14 Z<|Dm 15 Z<|Dm 16 Z<|D0 13 Z (a4u ja jb) Z (λhA=>⟨hA.ro rb7_0,hA.ro rb7_1a,hA.ro rb7_1b⟩)<|D0 17 Z (a9j ja jb) Z (λhA=>⟨hA.ro rb7_0,hA.ro rb7_1a,hA.ro rb7_1b⟩)<|Dyp 18 Z (b5I kr Z Z)<|l3 (λq164=>?_)<|λq164=>?_
      ·refine Dyp 19 Z (J9 Z Z)<|Dm 20 Z<|Dm 21 Z<|Dm 22 Z<|Dm 24 Z<|Dm 25 Z<|D0 23 Z (a0h jw) Z (λhA=>⟨hA.ro rb8_0,hA.ro rb8_1⟩)<|D0 26 Z (a0K jw) Z (λhA=>⟨hA.ro rb8_0,hA.ro rb8_1⟩)<|Dyp 27 Z (b5I kr Z Z)<|l3 (λq173=>?_)<|λq173=>?_
       ·refine Dyp 28 Z (J9 Z Z)<|Dm 29 Z<|Dm 30 Z<|Dm 32 Z<|D0 31 Z (a7I jw om) Z (λhA=>hA.ro rb8_1)<|D0 33 Z (a7M jw om) Z (λhA=>hA.ro rb8_1)<|Dyp 34 Z (a8z Z Z)<|Dyp 35 Z (J9 Z Z)<|Dyp 36 Z (E5 Z)<|o4 kr<|Et<|E.ret<|F.r1 (((((((hB1.comp hB2).comp hB3).comp hB4).comp hB5).comp hB6).comp hB7).comp hB8) Z Z () trivial (congrArg Value.bool (by simp_all)) (J:=_) (.refl _)<|.inl Z
       ·exact absurd q173 (by simp)
      ·exact absurd q164 (by simp)
     ·exact absurd q154 (by simp)
end Go.Proofs.YthapcdhdfaibkaaGreatDoor
end
