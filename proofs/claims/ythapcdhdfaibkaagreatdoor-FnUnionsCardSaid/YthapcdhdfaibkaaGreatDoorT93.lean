import Derived.Test.YthapcdhdfaibkaaGreatDoorT78
import Derived.Test.YthapcdhdfaibkaaGreatDoorHq
import Derived.Test.YthapcdhdfaibkaaGreatDoorT90
import Derived.Test.YthapcdhdfaibkaaGreatDoorT87
import Derived.Test.YthapcdhdfaibkaaGreatDoorT21
section
namespace Go.Proofs.YthapcdhdfaibkaaGreatDoor
open Go.RowKit
set_option linter.all false
set_option maxHeartbeats 2000000
attribute [local irreducible] Nop Yd Yp Ent Has Tr FnP FnP2 Src K8 Q7 R5 S1 E8
variable {l:List (Int×List Int×Int×Int×Int)} {u:List (List Int×List IL)} {s:List Int} {m_s c_s m_l c_l m_u c_u:Nat} {a_s a_l a_u:Option Addr}
theorem a4R {r7:Option Addr} {u5 r6:Nat} {d9:List Int} {o1:Option Addr} {s9 o0:Nat} {c6:List IL} {b_s:Nat} {b_l:Nat} {b_least:Nat} {a_least:Option Addr} {m_least c_least:Nat} {a8Y:List (List Int×List IL)} (hq:w7 s (d9,c6)=true) (hyl:∀q∈a8Y,D8 (λx=>x.2.length) q.2≤1048576) (hm:C5 s l=true):TB Tryz.prog 144 [.agg #[.slice r7 u5 r6,.slice o1 s9 o0],.pointer (some ⟨b_s,0,none⟩),.pointer (some ⟨b_l,0,none⟩),.pointer (some ⟨b_least,0,none⟩)] (λw L=>(Ro w L eIs [.slice r7 u5 r6] d9∧Ro w L v8 [.slice o1 s9 o0] c6)∧RoPt w L b_s [.slice a_s m_s c_s]∧Ro w L eIs [.slice a_s m_s c_s] s∧RoPt w L b_l [.slice a_l m_l c_l]∧Ro w L F0 [.slice a_l m_l c_l] l∧RoPt w L b_least [.slice a_least m_least c_least]∧Ro w L y7 [.slice a_least m_least c_least] a8Y) (fuB s l a8Y (d9,c6)):=by
 refine Ti4 Tryz.func144 24 Z λw L hR=>?_
 obtain ⟨⟨s7,o2⟩,hb_s,hs,hb_l,hl,hb_least,hleast⟩:=hR
 obtain ⟨rfl,I8⟩:=s7.slen
 obtain ⟨rfl,G9⟩:=o2.slen
 obtain ⟨rfl,ls⟩:=hs.slen
 obtain ⟨rfl,ll⟩:=hl.slen
 obtain ⟨rfl,lleast⟩:=hleast.slen
 have jq:=D1 hq
 have hqa:c6.length≤4:=jq.1
 have hqh:d9.length≤3:=jq.2.1
 have hqt:∀a∈c6,a.2.length≤3:=jq.2.2
 have jl:=(a0k hm).2
 have jtp:=b8I (l:=l) hqt hqa
 refine Ew Z2<|Est Z (N.box (cs:=[_,_]) Z dc Z)<|λb4 _=>Ei Z<|Ev Z10<|Ey Z (z7 ty_Is Z (hb_s.has) Z)<|Ey Z (z7 ty_Methods Z (hb_l.has) Z)<|Ey Z (l4 (cs:=[_,_]) ty_Query Z (Has.pt m0) Z)<|Est Z (N.call (a9q jl hqa hqh hqt) Z Z Z dc Z<|λw Lp hA=>⟨hA.ro hs,hA.ro hl,hA.ro s7,hA.ro o2⟩)<|λk12 _=>?_
 obtain ⟨⟨a12_0,m12_0,c12_0⟩,⟨a12_1,m12_1,c12_1⟩⟩:=k12
 refine f0 m0 ?_
 rintro rfl l12_0
 refine f0 (mS m0) ?_
 rintro rfl l12_1
 refine Em Z<|Ey Z ((Y.ext Z Z).yd)<|Ey Z ((Y.ext Z Z).yd)<|Est Z (N.alloc ty_Query dc)<|λb6 _=>Est Z (Ns [_,_] ty_Query Z)<|λ_ _=>Ei Z<|Ent.b (λq7=>?_)<|λq7=>?_
 ·refine Ev Z10<|Em Z<|Yno true Z<|Em Z<|Ey Z (z7 ty_Is Z (hb_s.has) Z)<|Ey Z (l4 (cs:=[_,_]) ty_Query Z (Has.pt m0) Z)<|Ey Z (z7 ty_Querys Z (hb_least.has) Z)<|E0 Z (a1k jtp hyl) Z (λhA=>⟨hA.ro hs,hA.ow<|mS m0,hA.ow<|mS<|mS m0,hA.ro hleast⟩)<|Ey Z ((Y.not Z).yd)<|Ypf Z<|Ei Z<|Eu<|E.ret<|Fb Z Z (by grind[fuB,d1,d2,t1,t2])
 ·refine Ev Z10<|Em Z<|Yno false Z<|Em Z<|Es Z<|Es Z<|Es Z<|Es Z<|Es Z<|Ypt Z<|Ei Z<|Eu<|E.ret<|Fb Z Z (by grind[fuB,d1,d2,t1,t2])
theorem a2S (hyu:∀q∈u,D8 (λx=>x.2.length) q.2≤1048576) (hyh:∀q∈u,q.1.length≤1048576) (hun:u.length≤1048576):TB Tryz.prog 37 [.slice a_s m_s c_s,.slice a_l m_l c_l,.slice a_u m_u c_u] (λw L=>Ro w L eIs [.slice a_s m_s c_s] s∧Ro w L F0 [.slice a_l m_l c_l] l∧Ro w L y7 [.slice a_u m_u c_u] u) (a6A s l u):=by
 refine Ti3 Tryz.func37 25 Z λw L hR=>?_
 obtain ⟨hs,hl,hu⟩:=hR
 obtain ⟨rfl,ls⟩:=hs.slen
 obtain ⟨rfl,ll⟩:=hl.slen
 obtain ⟨rfl,lu⟩:=hu.slen
 refine Ew Z3<|Est Z (N.box (cs:=[_]) Z dc Z)<|λb3 _=>Est Z (N.box (cs:=[_]) Z dc Z)<|λb4 _=>Ei Z<|Eu<|Eq_<|Ew Z10<|Ey Z (z7 ty_Is Z (Has.pt<|mS m0) Z)<|Ey Z (z7 ty_Methods Z (Has.pt m0) Z)<|E0 Z a4y Z (λhA=>⟨hA.ro hs,hA.ro hl⟩)<|Ent.b (λq10=>?_)<|λq10=>?_
 ·refine Yno true Z<|Em Z<|Ey Z (z7 ty_Is Z (Has.pt<|mS m0) Z)<|Em Z<|E0 Z (a0h fc) Z (λhA=>⟨hA.ro hs,hA.ro hu⟩)<|Ent.b (λq15=>?_)<|λq15=>?_
  ·refine Yno true Z<|Ypf Z<|Eu<|Cf<|Ew Z5<|Ey Z (z7 ty_Is Z (Has.pt<|mS m0) Z)<|Em Z<|El Z (a2j fc fc fc) Z (λhA=>⟨hA.ro hs,hA.ro hu⟩)<|λa20 c20 l20=>Est Z (N.alloc ty_Querys dc)<|λb7 _=>Est Z (Ns [_] ty_Querys Z)<|λ_ _=>Ev Z5<|Ey Z (z7 ty_Querys Z (Has.pt m0) Z)<|Ey Z ((Y.fn (vs:=[_,_,_]) Z).yd)<|E0 Z (a0D (f:=(λz=>fuB s l (m7 s u) z)) (D_f:=(λz=>(w7 s z=true)∧(∀q∈(m7 s u),D8 (λx=>x.2.length) q.2≤1048576)∧(C5 s l=true))) (by exact λq hq=>⟨a8a q15 q hq,λp hp=>hyu p<|a0e hp,q10⟩)) Z (λhA=>⟨hA.ow<|mS m0,a4f (D:=(λz=>(w7 s z=true)∧(∀q∈(m7 s u),D8 (λx=>x.2.length) q.2≤1048576)∧(C5 s l=true))) (λhd=>a4R hd.1 hd.2.1 hd.2.2)<|λw' hk=>⟨(hA.pt<|mS<|mS<|mS m0).keep hk,(hA.ro hs).keep hk,(hA.pt<|mS<|mS m0).keep hk,(hA.ro hl).keep hk,(hA.pt m0).keep hk,(hA.ow<|mS m0).keep hk⟩⟩)<|Ey Z ((Y.not Z).yd)<|Ei Z<|Eu<|E.ret<|Fb Z Z (by exact c4A q10 q15)
  ·refine Yno false Z<|Ypf Z<|Eu<|r9 Z<|Ew Z1<|Ei Z<|Eu<|E.ret<|a5h<|Fb Z Z (by exact c3y q15)
 ·refine Yno false Z<|Em Z<|Es Z<|Es Z<|Es Z<|Es Z<|Ypt Z<|Eu<|r9 Z<|Ew Z1<|Ei Z<|Eu<|E.ret<|a5h<|Fb Z Z (by exact c3b q10)
theorem c6Z (hyu:∀q∈u,D8 (λx=>x.2.length) q.2≤1048576) (hyh:∀q∈u,q.1.length≤1048576) (hun:u.length≤1048576):TB Tryz.prog 38 [.slice a_s m_s c_s,.slice a_l m_l c_l,.slice a_u m_u c_u] (λw L=>Ro w L eIs [.slice a_s m_s c_s] s∧Ro w L F0 [.slice a_l m_l c_l] l∧Ro w L y7 [.slice a_u m_u c_u] u) (a6A s l u):=by
 refine Ti3 Tryz.func38 49 Z λw L hR=>?_
 obtain ⟨hs,hl,hu⟩:=hR
 obtain ⟨rfl,ls⟩:=hs.slen
 obtain ⟨rfl,ll⟩:=hl.slen
 obtain ⟨rfl,lu⟩:=hu.slen
 refine Ew Z1<|Ei Z<|Eu<|Eq_<|Ew Z10<|Em Z<|Em Z<|E0 Z a2Q Z (λhA=>⟨hA.ro hs,hA.ro hl⟩)<|Ent.b (λq13=>?_)<|λq13=>?_
 ·refine Yno true Z<|Em Z<|Em Z<|Em Z<|E0 Z (a0K fo) Z (λhA=>⟨hA.ro hs,hA.ro hu⟩)<|Ent.b (λq18=>?_)<|λq18=>?_
  ·refine Yno true Z<|Ypf Z<|Eu<|Cf<|Ew Z4<|Em Z<|Em Z<|El Z (a2h fo fo fo) Z (λhA=>⟨hA.ro hs,hA.ro hu⟩)<|λa23 c23 l23=>a0n (A:=[_]) Z λwb1 Lb1 hB1 hA1=>?_
   have hs:=hA1.ro hs
   have hl:=hA1.ro hl
   have hu:=hA1.ro hu
   have rb1:Ro wb1 Lb1 y7 [.slice a23 (m7 s u).length c23] (m7 s u):=hA1.ow m0
   refine Ei Z<|Eu<|Eq_<|Ew Z1<|Ei Z<|Eu<|E.block<|Lo (κ:=Nat) (λg=>g≤(m7 s u).length∧∀q∈(m7 s u).take g,fuB s l (m7 s u) q=false) (λg=>[(0,.slice a_s s.length c_s),(1,.slice a_l l.length c_l),(7,.slice a23 (m7 s u).length c23),(8,.int .i64 (g:Int))]) (λg=>[]) (λg=>(m7 s u).length-g) 0 ⟨Nat.zero_le _,by simp⟩<|λg pg=>?_
   obtain ⟨pk,pa⟩:=pg
   have jml:=a6q (s:=s) (u:=u)
   refine Eq_<|Ew Z4<|Em Z<|Em Z<|Yln us_Querys Z<|Ylt Z<|l3 (λq27=>?_)<|λq27=>?_
   ·refine Eu<|Ct<|Eq_<|E.block<|Ew Z13<|Em Z<|Em Z<|Em Z<|Em Z ?_
    obtain ⟨eb35,eo35,ec35,ea35,er35,el35,eh35⟩:=rb1.elem g om
    obtain ⟨xa35_0,xc35_0,xa35_1,xc35_1,rfl,xh35_0,xh35_1⟩:=P7 er35
    have:=xh35_0.slen.2
    have:=xh35_1.slen.2
    refine Ix us_Querys ty_Query Z ea35 g Z om<|Ey Z (l4 (cs:=[_,_]) ty_Query Z (eh35 _) Z)<|Est Z (N.call (a6a<|hyu _<|a0e<|List.getElem_mem (show g<(m7 s u).length by omega)) Z Z Z dc Z<|λw Lp hA=>⟨hA.ro hs,hA.ro hl,hA.ro xh35_0,hA.ro xh35_1⟩)<|λk37 _=>?_
    obtain ⟨⟨a37_0,m37_0,c37_0⟩,⟨a37_1,m37_1,c37_1⟩⟩:=k37
    refine f0 m0 ?_
    rintro rfl l37_0
    refine f0 (mS m0) ?_
    rintro rfl l37_1
    refine Em Z<|Ey Z ((Y.ext Z Z).yd)<|Ey Z ((Y.ext Z Z).yd)<|Est Z (N.alloc ty_Query dc)<|λb9 _=>Est Z (Ns [_,_] ty_Query Z)<|λ_ _=>Ei Z<|Ent.b (λq10=>?_)<|λq10=>?_
    ·have jp:=D1 (c3B q10).1
     have jpz:D8 (λx=>x.2.length) (J1 s l (m7 s u)[g])≤1048576:=Nat.le_trans (b1A jp.2.2) (Nat.le_trans (Nat.mul_le_mul_left 4 jp.1) dc)
     refine Ev Z9<|Em Z<|Yno true Z<|Em Z<|Em Z<|Ey Z (l4 (cs:=[_,_]) ty_Query Z (Has.pt m0) Z)<|Em Z<|E0 Z (a1h jpz<|λp hp=>hyu p<|a0e hp) Z (λhA=>⟨hA.ro hs,hA.ow<|mS m0,hA.ow<|mS<|mS m0,hA.ro rb1⟩)<|Ent.b (λq46=>?_)<|λq46=>?_
     ·refine Yno true Z<|Ypf Z<|Eu<|r8 Z<|v6<|o6<|Et<|Ez Z3<|Em Z<|Yad Z om om<|Ei Z<|Eu<|Ent.drop<|Ent.drop<|Ent.drop ?_
      exact u7 br (g+1) rs (.refl _) ⟨by omega,by exact X3 (p:=fuB s l<|m7 s u) om pa (fu3 q10 q46)⟩ om
     ·refine Yno false Z<|Ypf Z<|Eu<|r9 Z<|Ew Z1<|Ei Z<|Eu<|E.ret<|v7<|a5h<|a5h<|v7<|a5h<|F.r1 hB1 Z Z () trivial (congrArg Value.bool (by exact c7u q13 q18 om (fu2 q10 q46))) (J:=_) (.refl _)<|.inl Z
    ·refine Ev Z9<|Em Z<|Yno false Z<|Em Z<|Es Z<|Es Z<|Es Z<|Es Z<|Es Z<|Ypt Z<|Eu<|r9 Z<|Ew Z1<|Ei Z<|Eu<|E.ret<|v7<|a5h<|a5h<|v7<|a5h<|F.r1 hB1 Z Z () trivial (congrArg Value.bool (by exact c7u q13 q18 om (fu1 q13 (a8a q18 _<|List.getElem_mem (show g<(m7 s u).length by omega)) q10))) (J:=_) (.refl _)<|.inl Z
   ·refine Eu<|r8 Z<|E.exit<|l2<|l2<|u4<|Et<|Ew Z1<|Ei Z<|Eu<|E.ret<|F.r1 hB1 Z Z () trivial (congrArg Value.bool (by exact c7B q13 q18 om pa)) (J:=_) (.refl _)<|.inl Z
  ·refine Yno false Z<|Ypf Z<|Eu<|r9 Z<|Ew Z1<|Ei Z<|Eu<|E.ret<|a5h<|Fb Z Z (by exact c3y q18)
 ·refine Yno false Z<|Em Z<|Es Z<|Es Z<|Es Z<|Es Z<|Ypt Z<|Eu<|r9 Z<|Ew Z1<|Ei Z<|Eu<|E.ret<|a5h<|Fb Z Z (by exact c3b q13)
end Go.Proofs.YthapcdhdfaibkaaGreatDoor
end
section
namespace Go.Proofs.YthapcdhdfaibkaaGreatDoor
open Go.RowKit
set_option linter.all false
set_option maxHeartbeats 8000000
attribute [local irreducible] Nop Yd Yp Ent Has Tr FnP FnP2 Src K8 Q7 R5 S1 E8
variable {l:List (Int×List Int×Int×Int×Int)} {d6:List IL} {u:List (List Int×List IL)} {s:List Int} {m_s c_s m_l c_l m_u c_u m_facts c_facts:Nat} {a_s a_l a_u a_facts:Option Addr}
theorem a7t (hyu:∀q∈u,D8 (λx=>x.2.length) q.2≤1048576) (hyh:∀q∈u,q.1.length≤1048576) (hun:u.length≤1048576):TL Tryz.prog 34 [.slice a_s m_s c_s,.slice a_l m_l c_l,.slice a_u m_u c_u,.slice a_facts m_facts c_facts] (λw L=>Ro w L eIs [.slice a_s m_s c_s] s∧Ro w L F0 [.slice a_l m_l c_l] l∧Ro w L y7 [.slice a_u m_u c_u] u∧Ro w L t7 [.slice a_facts m_facts c_facts] d6) D5 (ubF s l u d6):=by
 refine Ti4 Tryz.func34 55 Z λw L hR=>?_
 obtain ⟨hs,hl,hu,hfacts⟩:=hR
 obtain ⟨rfl,ls⟩:=hs.slen
 obtain ⟨rfl,ll⟩:=hl.slen
 obtain ⟨rfl,lu⟩:=hu.slen
 obtain ⟨rfl,lfacts⟩:=hfacts.slen
 refine Ew Z1<|Ei Z<|Eu<|Eq_<|Ew Z16<|Em Z<|Em Z<|E0 Z a4y Z (λhA=>⟨hA.ro hs,hA.ro hl⟩)<|Ent.b (λq16=>?_)<|λq16=>?_
 ·refine Yno true Z<|Em Z<|Em Z<|Em Z<|E0 Z (a0h fo) Z (λhA=>⟨hA.ro hs,hA.ro hu⟩)<|Ent.b (λq21=>?_)<|λq21=>?_
  ·refine Yno true Z<|Ypf Z<|Em Z<|Em Z<|Em Z<|E0 Z a5q Z (λhA=>⟨hA.ro hs,hA.ro hfacts⟩)<|Ent.b (λq27=>?_)<|λq27=>?_
   ·refine Yno true Z<|Ypf Z<|Eu<|Cf<|Ew Z2<|Est Z (Nb [] [] us_Iss ty_Is Z Z)<|λb30 _=>Ent.drop<|Ei Z<|Eu<|Eq_<|Ew Z5<|Em Z<|Em Z<|El Z (a2j hyu hyh om) Z (λhA=>⟨hA.ro hs,hA.ro hu⟩)<|λa33 c33 l33=>Yln us_Querys Z<|Em Z<|Eu<|E.block<|m8 (A:=[]) (Own.nil (E:=eIs) (e:=tIs) (a:=(some ⟨b30,0,none⟩))) Z<|g9 (congrArg (ow D5 [_]) (show _=((m7 s u).take 0).foldl (ubS s l d6) [] from by rfl))<|Lo (κ:=Nat×SL) (λg=>g.1≤(m7 s u).length∧True) (λg=>[(0,.slice a_s s.length c_s),(1,.slice a_l l.length c_l),(3,.slice a_facts d6.length c_facts),(9,.slice g.2.1 g.2.2.1 g.2.2.2),(33,.slice a33 (m7 s u).length c33),(34,.int .i64 (↑((m7 s u).length):Int)),(35,.int .i64 (↑g.1:Int))]) (λg=>[ow D5 [.slice g.2.1 g.2.2.1 g.2.2.2]<|((m7 s u).take g.1).foldl (ubS s l d6) [],ow y7 [.slice a33 (m7 s u).length c33]<|m7 s u]) (λg=>(m7 s u).length-g.1) (0,(some ⟨b30,0,none⟩),0,0) ⟨Nat.zero_le _,by simp⟩<|λg pg=>?_
    obtain ⟨g,aA0_0,mA0_0,cA0_0⟩:=g
    try dsimp only at pg
    try dsimp only
    obtain ⟨pk,pa⟩:=pg
    have jb:ubB s l u d6=true:=b3L q16 q21 q27
    have jml:=a6q (s:=s) (u:=u)
    have jt:=b5U (g:=g) (h:=0) (m:=[]) jb (by simp) (by simp)
    rw[List.take_nil,List.foldl_nil] at jt
    refine f0 m0 ?_
    rintro rfl laA0_0
    refine Ew Z1<|Ylt Z<|l3 (λq36=>?_)<|λq36=>?_
    ·refine R1 (mS m0) om λab37 ae37=>Eu<|Eq_<|Ct<|Eq_<|E.block<|Ew Z4<|d8<|X9 (x:=(m7 s u)[g]) g (List.getElem?_eq_getElem om) λce37=>?_
     refine d8<|a4F λoa37_0 om37_0 oc37_0 oa37_1 om37_1 oc37_1 oe37 on37_0 on37_1=>?_
     subst oe37
     subst on37_0
     subst on37_1
     refine Ix us_Querys ty_Query Z ae37 g Z om<|Ey Z (l4 (cs:=[_,_]) ty_Query Z (Has.hole ae37<|mS<|mS m0) Z)<|Est Z (N.alloc ty_Query dc)<|λb11 _=>Est Z (Ns [_,_] ty_Query Z)<|λ_ _=>Ev Z10<|Em Z<|Em Z<|Ey Z (l4 (cs:=[_,_]) ty_Query Z (Has.pt m0) Z) ?_
     have jq0:=a8a q21 (m7 s u)[g] (List.getElem_mem om)
     have jq:=D1 jq0
     have jl:=(a0k q16).2
     refine Est Z (N.call (a9q jl jq.1 jq.2.1 jq.2.2) Z Z Z dc Z<|λw Lp hA=>⟨hA.ro hs,hA.ro hl,hA.ow<|mS m0,hA.ow<|mS<|mS m0⟩)<|λk43 _=>?_
     obtain ⟨⟨a43_0,m43_0,c43_0⟩,⟨a43_1,m43_1,c43_1⟩⟩:=k43
     refine f0 m0 ?_
     rintro rfl l43_0
     refine f0 (mS m0) ?_
     rintro rfl l43_1
     refine Em Z<|Ey Z ((Y.ext Z Z).yd)<|Ey Z ((Y.ext Z Z).yd)<|Est Z (N.alloc ty_Query dc)<|λb12 _=>Est Z (Ns [_,_] ty_Query Z)<|λ_ _=>Ei Z<|Ent.b (λq13=>?_)<|λq13=>?_
     ·have jp:Q0 s l (m7 s u)[g]=true:=(b7U q16 jq0).symm.trans q13
      have jr:=b1P jp q27
      refine Ev Z1<|Em Z<|Eu<|r9 Z<|Ez Z7<|Em Z<|Em Z<|Ey Z (l4 (cs:=[_,_]) ty_Query Z (Has.pt m0) Z)<|Em Z<|El Z (b2b (b2g jp) q27) Z (λhA=>⟨hA.ro hl,hA.ow<|mS m0,hA.ow<|mS<|mS m0,hA.ro hfacts⟩)<|λa51 c51 l51=>B4<|Est Z (N.call (pre:=[_]) (a4m om<|λt ht=>Nat.le_trans (jr.2.2 t ht) dc) Z Z Z dc Z<|λw Lp hA=>hA.ow m0)<|λk52 _=>?_
      obtain ⟨a52,m52,c52⟩:=k52
      refine f0 m0 ?_
      rintro rfl l52
      refine Ei Z<|En<|o6<|Et<|Ez Z2<|Yad Z om om<|Em Z<|Eu<|H1<|H1<|B4<|U1 (Q9 (x:=(m7 s u)[g]) Own.ow Own.ow) Z<|g9 (congrArg (ow y7 [_])<|List.set_getElem_self om)<|i9<|Ent.drop<|i9<|Ent.drop<|i9<|Ent.drop<|i9<|Ent.drop<|i9<|Ent.drop<|d8<|g9 (congrArg (ow D5 [_]) (show _=((m7 s u).take (g+1)).foldl (ubS s l d6) [] from by first|exact b7w om jp|exact b3K om jp))<|d8<|d8 ?_
      exact Ea (g+1,a52,_,c52) ⟨oz,trivial⟩
     ·have jp:Q0 s l (m7 s u)[g]=false:=(b7U q16 jq0).symm.trans q13
      refine Ev Z1<|Em Z<|Eu<|r8 Z<|v6<|o6<|Et<|Ez Z2<|Yad Z om om<|Em Z<|Eu<|u6<|u6<|s4<|U1 (Q9 (x:=(m7 s u)[g]) Own.ow Own.ow) Z<|g9 (congrArg (ow y7 [_])<|List.set_getElem_self om)<|d8<|Ent.drop<|d8<|Ent.drop<|d8<|Ent.drop<|d8<|Ent.drop<|d8<|g9 (congrArg (ow D5 [_]) (show _=((m7 s u).take (g+1)).foldl (ubS s l d6) [] from by first|exact b7w om jp|exact b3K om jp))<|d8<|d8 ?_
      exact Ea (g+1,aA0_0,_,cA0_0) ⟨oz,trivial⟩
    ·refine Eu<|Eq_<|r8 Z<|E.exit<|l2<|l2<|u4<|Et<|Ew Z2<|Em Z<|Ei Z<|Eu<|E.ret<|g9 (congrArg (ow D5 [_]) (show _=ubF s l u d6 by exact b9h (b3L q16 q21 q27) om))<|Fg Z Z (_,_,_) Z Z
   ·refine Yno false Z<|Ypf Z<|Eu<|r9 Z<|Ew Z1<|Ei Z<|Eu<|E.ret<|a5h<|m8 (A:=[]) (Own.nil (E:=eIs) (e:=tIs) (a:=none)) Z<|g9 (congrArg (ow D5 [_]) (show _=ubF s l u d6 by exact c2T q27))<|Fg Z Z (none,0,0) Z Z
  ·refine Yno false Z<|Ypf Z<|Em Z<|Es Z<|Es Z<|Es Z<|Es Z<|Ypt Z<|Eu<|r9 Z<|Ew Z1<|Ei Z<|Eu<|E.ret<|a5h<|m8 (A:=[]) (Own.nil (E:=eIs) (e:=tIs) (a:=none)) Z<|g9 (congrArg (ow D5 [_]) (show _=ubF s l u d6 by exact c3m q21))<|Fg Z Z (none,0,0) Z Z
 ·refine Yno false Z<|Em Z<|Es Z<|Es Z<|Es Z<|Es Z<|Ypt Z<|Em Z<|Es Z<|Es Z<|Es Z<|Es Z<|Ypt Z<|Eu<|r9 Z<|Ew Z1<|Ei Z<|Eu<|E.ret<|a5h<|m8 (A:=[]) (Own.nil (E:=eIs) (e:=tIs) (a:=none)) Z<|g9 (congrArg (ow D5 [_]) (show _=ubF s l u d6 by exact c3M q16))<|Fg Z Z (none,0,0) Z Z
theorem a7s (hyu:∀q∈u,D8 (λx=>x.2.length) q.2≤1048576) (hyh:∀q∈u,q.1.length≤1048576) (hun:u.length≤1048576):TL Tryz.prog 36 [.slice a_s m_s c_s,.slice a_l m_l c_l,.slice a_u m_u c_u,.slice a_facts m_facts c_facts] (λw L=>Ro w L eIs [.slice a_s m_s c_s] s∧Ro w L F0 [.slice a_l m_l c_l] l∧Ro w L y7 [.slice a_u m_u c_u] u∧Ro w L t7 [.slice a_facts m_facts c_facts] d6) D5 (ubF s l u d6):=by
 refine Ti4 Tryz.func36 85 Z λw L hR=>?_
 obtain ⟨hs,hl,hu,hfacts⟩:=hR
 obtain ⟨rfl,ls⟩:=hs.slen
 obtain ⟨rfl,ll⟩:=hl.slen
 obtain ⟨rfl,lu⟩:=hu.slen
 obtain ⟨rfl,lfacts⟩:=hfacts.slen
 refine Ew Z1<|Ei Z<|Ev Z2<|Est Z (Nb [] [] us_Iss ty_Is Z Z)<|λb18 _=>Ent.drop<|Ei Z<|Ev Z4<|Em Z<|Em Z<|El Z (a2h hyu hyh om) Z (λhA=>⟨hA.ro hs,hA.ro hu⟩)<|λa21 c21 l21=>Ei Z<|Eu<|Eq_<|Ew Z1<|Ei Z<|Eu<|E.block<|m8 (A:=[]) (Own.nil (E:=eIs) (e:=tIs) (a:=(some ⟨b18,0,none⟩))) Z<|g9 (congrArg (ow D5 [_]) (show _=((m7 s u).take 0).foldl (ubS s l d6) [] from by rfl))<|Lo (κ:=Nat×SL) (λg=>g.1≤(m7 s u).length∧(g.1=0∨ubB s l u d6=true)) (λg=>[(0,.slice a_s s.length c_s),(1,.slice a_l l.length c_l),(2,.slice a_u u.length c_u),(3,.slice a_facts d6.length c_facts),(9,.slice g.2.1 g.2.2.1 g.2.2.2),(10,.slice a21 (m7 s u).length c21),(11,.int .i64 (↑g.1:Int))]) (λg=>[ow D5 [.slice g.2.1 g.2.2.1 g.2.2.2]<|((m7 s u).take g.1).foldl (ubS s l d6) [],ow y7 [.slice a21 (m7 s u).length c21]<|m7 s u]) (λg=>(m7 s u).length-g.1) (0,(some ⟨b18,0,none⟩),0,0) ⟨Nat.zero_le _,by simp⟩<|λg pg=>?_
 obtain ⟨g,aA0_0,mA0_0,cA0_0⟩:=g
 try dsimp only at pg
 try dsimp only
 obtain ⟨pk,pa⟩:=pg
 have jml:=a6q (s:=s) (u:=u)
 refine f0 m0 ?_
 rintro rfl laA0_0
 refine Eq_<|Ew Z19<|Em Z<|Em Z<|Yln us_Querys Z<|Ylt Z<|l3 (λq25=>?_)<|λq25=>?_
 ·refine Em Z<|Em Z<|Em Z<|E0 Z a2Q Z (λhA=>⟨hA.ro hs,hA.ro hl⟩)<|Ent.b (λq29=>?_)<|λq29=>?_
  ·refine Ypt Z<|Em Z<|Em Z<|Em Z<|E0 Z (a0K fo) Z (λhA=>⟨hA.ro hs,hA.ro hu⟩)<|Ent.b (λq34=>?_)<|λq34=>?_
   ·refine Ypt Z<|Em Z<|Em Z<|Em Z<|E0 Z a1i Z (λhA=>⟨hA.ro hs,hA.ro hfacts⟩)<|Ent.b (λq39=>?_)<|λq39=>?_
    ·have jb:ubB s l u d6=true:=b3L q29 q34 q39
     have jl:=(a0k q29).2
     refine Ypt Z<|Eu<|Ct<|Eq_<|E.block<|Ew Z13<|Em Z<|Em Z<|Em Z<|Em Z<|R1 (mS m0) om λab48 ae48=>d8<|X9 (x:=(m7 s u)[g]) g (List.getElem?_eq_getElem om) λce48=>?_
     refine d8<|a4F λoa48_0 om48_0 oc48_0 oa48_1 om48_1 oc48_1 oe48 on48_0 on48_1=>?_
     subst oe48
     subst on48_0
     subst on48_1
     refine Ix us_Querys ty_Query Z ae48 g Z om<|Ey Z (l4 (cs:=[_,_]) ty_Query Z (Has.hole ae48<|mS<|mS m0) Z)<|Est Z (N.call (a6a<|hyu _<|a0e<|List.getElem_mem (show g<(m7 s u).length by omega)) Z Z Z dc Z<|λw Lp hA=>⟨hA.ro hs,hA.ro hl,hA.ow m0,hA.ow<|mS m0⟩)<|λk50 _=>?_
     obtain ⟨⟨a50_0,m50_0,c50_0⟩,⟨a50_1,m50_1,c50_1⟩⟩:=k50
     refine f0 m0 ?_
     rintro rfl l50_0
     refine f0 (mS m0) ?_
     rintro rfl l50_1
     refine Em Z<|Ey Z ((Y.ext Z Z).yd)<|Ey Z ((Y.ext Z Z).yd)<|Est Z (N.alloc ty_Query dc)<|λb12 _=>Est Z (Ns [_,_] ty_Query Z)<|λ_ _=>Ei Z<|Ent.b (λq13=>?_)<|λq13=>?_
     ·have jp:Q0 s l (m7 s u)[g]=true:=q13
      have jpo:=D1 (c3B jp).1
      have jpz:D8 (λx=>x.2.length) (J1 s l (m7 s u)[g])≤1048576:=Nat.le_trans (b1A jpo.2.2) (Nat.le_trans (Nat.mul_le_mul_left 4 jpo.1) dc)
      have jr:=b1P jp q39
      refine Eu<|Eq_<|Ew Z2<|Em Z<|Yno true Z<|Eu<|Cf<|Eq_<|D.region (λj=>true) mixed<|Dm 0 Z<|Dm 1 Z<|Dy 3 Z (l4 (cs:=[_,_]) ty_Query Z (Has.pt m0) Z) ?_
      obtain ⟨lB,hlB,hb_l⟩:=Ro.bMethodB hl
      have jlB:=hb_l.len
      refine Dl 2 Z (a8k fo) Z (λhA=>hA.ro hlB)<|λa58 c58 l58=>?_
      have hby:=c3z hb_l
      have jful:(B3 l).length≤l.length:=b9z
      refine w6 4 Z Z kr (λ_=>rfl) (N.call (b0b jpz) Z Z Z dc Z<|λw Lp hA=>⟨hA.ro hs,hA.bMethodB m0 hby,hA.ow<|mS<|mS m0,hA.ow<|mS<|mS<|mS m0⟩)<|λk60 _=>?_
      obtain ⟨a60,m60,c60⟩:=k60
      refine f0 m0 ?_
      rintro rfl l60
      refine Dm 5 Z<|Dyp 6 Z (Y.ext Z Z)<|Dyp 7 Z (Y.ext Z Z)<|Dyp 8 Z (E5 Z)<|Dyp 9 Z (E5 Z)<|o4 kr<|Et<|Eq_<|a2X (κ:=Nat×Option Addr×Nat×Option Addr×Nat×Option Addr×Nat×Option Addr×Nat) (λ_=>True) (λkM=>[(0,.slice a_s s.length c_s),(1,.slice a_l l.length c_l),(2,.slice a_u u.length c_u),(3,.slice a_facts d6.length c_facts),(9,.slice aA0_0 (((m7 s u).take g).foldl (ubS s l d6) []).length cA0_0),(10,.slice a21 (m7 s u).length c21),(11,.int .i64 (g:Int)),(16,.pointer<|some ⟨kM.1,0,none⟩)]) (λkM=>[pt kM.1 102 [.slice kM.2.1 ((O0 s (B3 l) ((J4 s l (((m7 s u)[g].1),((m7 s u)[g].2))),(J1 s l (((m7 s u)[g].1),((m7 s u)[g].2)))) (S5 s (B3 l) ((J4 s l (((m7 s u)[g].1),((m7 s u)[g].2))),(J1 s l (((m7 s u)[g].1),((m7 s u)[g].2))))) d6 0).1).length kM.2.2.1,.slice kM.2.2.2.1 ((O0 s (B3 l) ((J4 s l (((m7 s u)[g].1),((m7 s u)[g].2))),(J1 s l (((m7 s u)[g].1),((m7 s u)[g].2)))) (S5 s (B3 l) ((J4 s l (((m7 s u)[g].1),((m7 s u)[g].2))),(J1 s l (((m7 s u)[g].1),((m7 s u)[g].2))))) d6 0).2.1).length kM.2.2.2.2.1,.slice kM.2.2.2.2.2.1 ((O0 s (B3 l) ((J4 s l (((m7 s u)[g].1),((m7 s u)[g].2))),(J1 s l (((m7 s u)[g].1),((m7 s u)[g].2)))) (S5 s (B3 l) ((J4 s l (((m7 s u)[g].1),((m7 s u)[g].2))),(J1 s l (((m7 s u)[g].1),((m7 s u)[g].2))))) d6 0).2.2.1).length kM.2.2.2.2.2.2.1,.int .i64<|(O0 s (B3 l) ((J4 s l (((m7 s u)[g].1),((m7 s u)[g].2))),(J1 s l (((m7 s u)[g].1),((m7 s u)[g].2)))) (S5 s (B3 l) ((J4 s l (((m7 s u)[g].1),((m7 s u)[g].2))),(J1 s l (((m7 s u)[g].1),((m7 s u)[g].2))))) d6 0).2.2.2],ow D5 [.slice kM.2.1 ((O0 s (B3 l) ((J4 s l (((m7 s u)[g].1),((m7 s u)[g].2))),(J1 s l (((m7 s u)[g].1),((m7 s u)[g].2)))) (S5 s (B3 l) ((J4 s l (((m7 s u)[g].1),((m7 s u)[g].2))),(J1 s l (((m7 s u)[g].1),((m7 s u)[g].2))))) d6 0).1).length kM.2.2.1]<|(O0 s (B3 l) ((J4 s l (((m7 s u)[g].1),((m7 s u)[g].2))),(J1 s l (((m7 s u)[g].1),((m7 s u)[g].2)))) (S5 s (B3 l) ((J4 s l (((m7 s u)[g].1),((m7 s u)[g].2))),(J1 s l (((m7 s u)[g].1),((m7 s u)[g].2))))) d6 0).1,ow H4 [.slice kM.2.2.2.1 ((O0 s (B3 l) ((J4 s l (((m7 s u)[g].1),((m7 s u)[g].2))),(J1 s l (((m7 s u)[g].1),((m7 s u)[g].2)))) (S5 s (B3 l) ((J4 s l (((m7 s u)[g].1),((m7 s u)[g].2))),(J1 s l (((m7 s u)[g].1),((m7 s u)[g].2))))) d6 0).2.1).length kM.2.2.2.2.1]<|(O0 s (B3 l) ((J4 s l (((m7 s u)[g].1),((m7 s u)[g].2))),(J1 s l (((m7 s u)[g].1),((m7 s u)[g].2)))) (S5 s (B3 l) ((J4 s l (((m7 s u)[g].1),((m7 s u)[g].2))),(J1 s l (((m7 s u)[g].1),((m7 s u)[g].2))))) d6 0).2.1,ow t7 [.slice kM.2.2.2.2.2.1 ((O0 s (B3 l) ((J4 s l (((m7 s u)[g].1),((m7 s u)[g].2))),(J1 s l (((m7 s u)[g].1),((m7 s u)[g].2)))) (S5 s (B3 l) ((J4 s l (((m7 s u)[g].1),((m7 s u)[g].2))),(J1 s l (((m7 s u)[g].1),((m7 s u)[g].2))))) d6 0).2.2.1).length kM.2.2.2.2.2.2.1]<|(O0 s (B3 l) ((J4 s l (((m7 s u)[g].1),((m7 s u)[g].2))),(J1 s l (((m7 s u)[g].1),((m7 s u)[g].2)))) (S5 s (B3 l) ((J4 s l (((m7 s u)[g].1),((m7 s u)[g].2))),(J1 s l (((m7 s u)[g].1),((m7 s u)[g].2))))) d6 0).2.2.1,ow I0 [.slice kM.2.2.2.2.2.2.2.1 (a0g lB).length kM.2.2.2.2.2.2.2.2]<|a0g lB,ow Q6 [.slice a60 (S5 s (B3 l) ((J4 s l (((m7 s u)[g].1),((m7 s u)[g].2))),(J1 s l (((m7 s u)[g].1),((m7 s u)[g].2))))).length c60]<|S5 s (B3 l) ((J4 s l (((m7 s u)[g].1),((m7 s u)[g].2))),(J1 s l (((m7 s u)[g].1),((m7 s u)[g].2)))),ow I0 [.slice a58 (a0g lB).length c58]<|a0g lB,pt b12 28 [.slice a50_0 (J4 s l (((m7 s u)[g].1),((m7 s u)[g].2))).length c50_0,.slice a50_1 (J1 s l (((m7 s u)[g].1),((m7 s u)[g].2))).length c50_1],ow eIs [.slice a50_0 (J4 s l (((m7 s u)[g].1),((m7 s u)[g].2))).length c50_0]<|J4 s l (((m7 s u)[g].1),((m7 s u)[g].2)),ow v8 [.slice a50_1 (J1 s l (((m7 s u)[g].1),((m7 s u)[g].2))).length c50_1]<|J1 s l (((m7 s u)[g].1),((m7 s u)[g].2)),ow eIs [.slice oa48_0 ((m7 s u)[g].1.length) oc48_0]<|(m7 s u)[g].1,ow v8 [.slice oa48_1 ((m7 s u)[g].2.length) oc48_1]<|(m7 s u)[g].2,hole tQuery O6 a21 ((m7 s u).length) c21 (m7 s u) g [.slice oa48_0 ((m7 s u)[g].1.length) oc48_0,.slice oa48_1 ((m7 s u)[g].2.length) oc48_1],ow D5 [.slice aA0_0 (((m7 s u).take g).foldl (ubS s l d6) []).length cA0_0]<|((m7 s u).take g).foldl (ubS s l d6) []]) ?_<|λkM _=>?_
      ·refine D.region (λj=> !(Nat.beq j 8)) mixed<|Dm 0 Z<|Dm 1 Z<|Dy 3 Z (l4 (cs:=[_,_]) ty_Query Z (Has.pt<|mS<|mS m0) Z)<|Dm 4 Z<|Dm 5 Z<|a1D (i:=2) (j:=7) kr ?_ ?_
       ·refine W3 2 Z Z (λ_=>rfl) (N.call (a8k fo) Z Z Z dc Z<|λw Lp hA=>hA.ro hlB)<|λk65 _=>?_
        obtain ⟨a65,m65,c65⟩:=k65
        refine f0 m0 ?_
        rintro rfl l65
        refine a1D (i:=6) (j:=7) kr ?_ ?_
        ·refine W3 6 Z Z (λ_=>rfl) (N.call (a3F jpz) Z Z Z dc Z<|λw Lp hA=>⟨hA.ro hs,hA.bMethodB m0 hby,hA.ow<|mS<|mS<|mS<|mS m0,hA.ow<|mS<|mS<|mS<|mS<|mS m0,hA.ow<|mS m0,hA.ro hfacts⟩)<|λk69 _=>?_
         obtain ⟨⟨a69_0,m69_0,c69_0⟩,⟨a69_1,m69_1,c69_1⟩,⟨a69_2,m69_2,c69_2⟩⟩:=k69
         refine f0 m0 ?_
         rintro rfl l69_0
         refine f0 (mS m0) ?_
         rintro rfl l69_1
         refine f0 (mS<|mS m0) ?_
         rintro rfl l69_2
         refine w6 7 Z Z kr (λ_=>rfl) (N.alloc ty_Run dc)<|λb16 _=>w6 8 Z Z kr (λh=>by cases h) (Ns [_,_,_,_] ty_Run rfl)<|λ_ _=>o4 kr<|C2<|C2<|C2<|C2<|C2<|C2<|C2<|C2<|C2<|C2<|C2<|C2<|C2<|C2<|P8 (b16,a69_0,c69_0,a69_1,c69_1,a69_2,c69_2,a65,c65) trivial ⟨Z,Z,Z,Z,Z,Z,Z,Z,trivial⟩<|.refl _
        ·refine W3 7 Z Z (λ_=>rfl) (N.alloc ty_Run dc)<|λb16 _=>w6 6 Z Z kr (λ_=>rfl) (N.call (a3F jpz) Z Z Z dc Z<|λw Lp hA=>⟨hA.ro hs,hA.bMethodB (mS m0) hby,hA.ow<|mS<|mS<|mS<|mS<|mS m0,hA.ow<|mS<|mS<|mS<|mS<|mS<|mS m0,hA.ow<|mS<|mS m0,hA.ro hfacts⟩)<|λk69 _=>?_
         obtain ⟨⟨a69_0,m69_0,c69_0⟩,⟨a69_1,m69_1,c69_1⟩,⟨a69_2,m69_2,c69_2⟩⟩:=k69
         refine f0 m0 ?_
         rintro rfl l69_0
         refine f0 (mS m0) ?_
         rintro rfl l69_1
         refine f0 (mS<|mS m0) ?_
         rintro rfl l69_2
         refine n0<|w6 8 Z Z kr (λh=>by cases h) (Ns [_,_,_,_] ty_Run rfl)<|λ_ _=>o4 kr<|C2<|C2<|C2<|C2<|C2<|C2<|C2<|C2<|C2<|C2<|C2<|C2<|C2<|C2<|P8 (b16,a69_0,c69_0,a69_1,c69_1,a69_2,c69_2,a65,c65) trivial ⟨Z,Z,Z,Z,Z,Z,Z,Z,trivial⟩<|.refl _
       ·refine W3 7 Z Z (λ_=>rfl) (N.alloc ty_Run dc)<|λb16 _=>Dl 2 Z (a8k fo) Z (λhA=>hA.ro hlB)<|λa65 c65 l65=>w6 6 Z Z kr (λ_=>rfl) (N.call (a3F jpz) Z Z Z dc Z<|λw Lp hA=>⟨hA.ro hs,hA.bMethodB m0 hby,hA.ow<|mS<|mS<|mS<|mS<|mS m0,hA.ow<|mS<|mS<|mS<|mS<|mS<|mS m0,hA.ow<|mS<|mS m0,hA.ro hfacts⟩)<|λk69 _=>?_
        obtain ⟨⟨a69_0,m69_0,c69_0⟩,⟨a69_1,m69_1,c69_1⟩,⟨a69_2,m69_2,c69_2⟩⟩:=k69
        refine f0 m0 ?_
        rintro rfl l69_0
        refine f0 (mS m0) ?_
        rintro rfl l69_1
        refine f0 (mS<|mS m0) ?_
        rintro rfl l69_2
        refine s6<|w6 8 Z Z kr (λh=>by cases h) (Ns [_,_,_,_] ty_Run rfl)<|λ_ _=>o4 kr<|C2<|C2<|C2<|C2<|C2<|C2<|C2<|C2<|C2<|C2<|C2<|C2<|C2<|C2<|P8 (b16,a69_0,c69_0,a69_1,c69_1,a69_2,c69_2,a65,c65) trivial ⟨Z,Z,Z,Z,Z,Z,Z,Z,trivial⟩<|.refl _
      ·obtain ⟨b16,a69_0,c69_0,a69_1,c69_1,a69_2,c69_2,a65,c65⟩:=kM
       try dsimp only
       refine Et<|Ew Z1<|d8<|g9 (congrArg (ow D5 [_]) (show _=(X6 l ((m7 s u)[g].1,I1 l (m7 s u)[g].2) d6) from by exact c1K jp q39))<|f0 m0 λe17 _=>Ei Z<|Eu<|E.block<|C2<|g9 (congrArg (ow D5 [_]) (show _=((X6 l ((m7 s u)[g].1,I1 l (m7 s u)[g].2) d6).take 0).foldl K6 (((m7 s u).take g).foldl (ubS s l d6) []) from by rfl))<|Lo (κ:=Nat×SL) (λh=>h.1≤(X6 l ((m7 s u)[g].1,I1 l (m7 s u)[g].2) d6).length∧True) (λh=>[(0,.slice a_s s.length c_s),(1,.slice a_l l.length c_l),(2,.slice a_u u.length c_u),(3,.slice a_facts d6.length c_facts),(9,.slice h.2.1 h.2.2.1 h.2.2.2),(10,.slice a21 (m7 s u).length c21),(11,.int .i64 (g:Int)),(16,.pointer<|some ⟨b16,0,none⟩),(17,.int .i64 (↑h.1:Int))]) (λh=>[ow D5 [.slice h.2.1 h.2.2.1 h.2.2.2]<|((X6 l ((m7 s u)[g].1,I1 l (m7 s u)[g].2) d6).take h.1).foldl K6 (((m7 s u).take g).foldl (ubS s l d6) []),ow D5 [.slice a69_0 ((O0 s (B3 l) ((J4 s l (((m7 s u)[g].1),((m7 s u)[g].2))),(J1 s l (((m7 s u)[g].1),((m7 s u)[g].2)))) (S5 s (B3 l) ((J4 s l (((m7 s u)[g].1),((m7 s u)[g].2))),(J1 s l (((m7 s u)[g].1),((m7 s u)[g].2))))) d6 0).1).length c69_0]<|X6 l ((m7 s u)[g].1,I1 l (m7 s u)[g].2) d6,pt b16 102 [.slice a69_0 ((O0 s (B3 l) ((J4 s l (((m7 s u)[g].1),((m7 s u)[g].2))),(J1 s l (((m7 s u)[g].1),((m7 s u)[g].2)))) (S5 s (B3 l) ((J4 s l (((m7 s u)[g].1),((m7 s u)[g].2))),(J1 s l (((m7 s u)[g].1),((m7 s u)[g].2))))) d6 0).1).length c69_0,.slice a69_1 ((O0 s (B3 l) ((J4 s l (((m7 s u)[g].1),((m7 s u)[g].2))),(J1 s l (((m7 s u)[g].1),((m7 s u)[g].2)))) (S5 s (B3 l) ((J4 s l (((m7 s u)[g].1),((m7 s u)[g].2))),(J1 s l (((m7 s u)[g].1),((m7 s u)[g].2))))) d6 0).2.1).length c69_1,.slice a69_2 ((O0 s (B3 l) ((J4 s l (((m7 s u)[g].1),((m7 s u)[g].2))),(J1 s l (((m7 s u)[g].1),((m7 s u)[g].2)))) (S5 s (B3 l) ((J4 s l (((m7 s u)[g].1),((m7 s u)[g].2))),(J1 s l (((m7 s u)[g].1),((m7 s u)[g].2))))) d6 0).2.2.1).length c69_2,.int .i64<|(O0 s (B3 l) ((J4 s l (((m7 s u)[g].1),((m7 s u)[g].2))),(J1 s l (((m7 s u)[g].1),((m7 s u)[g].2)))) (S5 s (B3 l) ((J4 s l (((m7 s u)[g].1),((m7 s u)[g].2))),(J1 s l (((m7 s u)[g].1),((m7 s u)[g].2))))) d6 0).2.2.2],ow H4 [.slice a69_1 ((O0 s (B3 l) ((J4 s l (((m7 s u)[g].1),((m7 s u)[g].2))),(J1 s l (((m7 s u)[g].1),((m7 s u)[g].2)))) (S5 s (B3 l) ((J4 s l (((m7 s u)[g].1),((m7 s u)[g].2))),(J1 s l (((m7 s u)[g].1),((m7 s u)[g].2))))) d6 0).2.1).length c69_1]<|(O0 s (B3 l) ((J4 s l (((m7 s u)[g].1),((m7 s u)[g].2))),(J1 s l (((m7 s u)[g].1),((m7 s u)[g].2)))) (S5 s (B3 l) ((J4 s l (((m7 s u)[g].1),((m7 s u)[g].2))),(J1 s l (((m7 s u)[g].1),((m7 s u)[g].2))))) d6 0).2.1,ow t7 [.slice a69_2 ((O0 s (B3 l) ((J4 s l (((m7 s u)[g].1),((m7 s u)[g].2))),(J1 s l (((m7 s u)[g].1),((m7 s u)[g].2)))) (S5 s (B3 l) ((J4 s l (((m7 s u)[g].1),((m7 s u)[g].2))),(J1 s l (((m7 s u)[g].1),((m7 s u)[g].2))))) d6 0).2.2.1).length c69_2]<|(O0 s (B3 l) ((J4 s l (((m7 s u)[g].1),((m7 s u)[g].2))),(J1 s l (((m7 s u)[g].1),((m7 s u)[g].2)))) (S5 s (B3 l) ((J4 s l (((m7 s u)[g].1),((m7 s u)[g].2))),(J1 s l (((m7 s u)[g].1),((m7 s u)[g].2))))) d6 0).2.2.1,ow I0 [.slice a65 (a0g lB).length c65]<|a0g lB,ow Q6 [.slice a60 (S5 s (B3 l) ((J4 s l (((m7 s u)[g].1),((m7 s u)[g].2))),(J1 s l (((m7 s u)[g].1),((m7 s u)[g].2))))).length c60]<|S5 s (B3 l) ((J4 s l (((m7 s u)[g].1),((m7 s u)[g].2))),(J1 s l (((m7 s u)[g].1),((m7 s u)[g].2)))),ow I0 [.slice a58 (a0g lB).length c58]<|a0g lB,pt b12 28 [.slice a50_0 (J4 s l (((m7 s u)[g].1),((m7 s u)[g].2))).length c50_0,.slice a50_1 (J1 s l (((m7 s u)[g].1),((m7 s u)[g].2))).length c50_1],ow eIs [.slice a50_0 (J4 s l (((m7 s u)[g].1),((m7 s u)[g].2))).length c50_0]<|J4 s l (((m7 s u)[g].1),((m7 s u)[g].2)),ow v8 [.slice a50_1 (J1 s l (((m7 s u)[g].1),((m7 s u)[g].2))).length c50_1]<|J1 s l (((m7 s u)[g].1),((m7 s u)[g].2)),ow eIs [.slice oa48_0 ((m7 s u)[g].1.length) oc48_0]<|(m7 s u)[g].1,ow v8 [.slice oa48_1 ((m7 s u)[g].2.length) oc48_1]<|(m7 s u)[g].2,hole tQuery O6 a21 ((m7 s u).length) c21 (m7 s u) g [.slice oa48_0 ((m7 s u)[g].1.length) oc48_0,.slice oa48_1 ((m7 s u)[g].2.length) oc48_1]]) (λh=>(X6 l ((m7 s u)[g].1,I1 l (m7 s u)[g].2) d6).length-h.1) (0,aA0_0,(((m7 s u).take g).foldl (ubS s l d6) []).length,cA0_0) ⟨Nat.zero_le _,by simp⟩<|λh ph=>?_
       obtain ⟨h,aA1_0,mA1_0,cA1_0⟩:=h
       try dsimp only at ph
       try dsimp only
       obtain ⟨pk,pa⟩:=ph
       have jt:=b5U (g:=g) (h:=h) (m:=(X6 l ((m7 s u)[g].1,I1 l (m7 s u)[g].2) d6)) jb jr.2.1 jr.2.2
       refine f0 m0 ?_
       rintro rfl laA1_0
       refine Eq_<|Ew Z5<|Em Z<|Lz fo_Run_0 ty_Iss Z (mS<|mS m0) Z<|Yln us_Iss Z<|Ylt Z<|l3 (λq74=>?_)<|λq74=>?_
       ·refine Eu<|Ct<|Eq_<|E.block<|Ez Z8<|Em Z<|Lz fo_Run_0 ty_Iss Z (mS<|mS m0) Z<|Em Z<|R1 (mS m0) om λab81 ae81=>d8<|X9 (x:=(X6 l ((m7 s u)[g].1,I1 l (m7 s u)[g].2) d6)[h]) h (List.getElem?_eq_getElem om) λce81=>?_
        refine d8<|c2C λoa81_0 om81_0 oc81_0 oe81 on81_0=>?_
        subst oe81
        subst on81_0
        refine Il us_Iss ty_Is Z ae81 h Z om Z (Has.hole ae81<|mS m0)<|El Z (a5p (Nat.le_trans jt.1 dc) jt.2<|Nat.le_trans (jr.2.2 _<|List.getElem_mem om) dc) Z (λhA=>⟨hA.ow<|mS<|mS m0,hA.ow m0⟩)<|λa83 c83 l83=>Ei Z<|En<|o6<|Et<|Ez Z3<|Em Z<|Yad Z om om<|Ei Z<|Eu<|d8<|i9<|U1 Own.ow Z<|g9 (congrArg (ow D5 [_])<|List.set_getElem_self om)<|i9<|Ent.drop<|d8<|g9 (congrArg (ow D5 [_]) (show _=((X6 l ((m7 s u)[g].1,I1 l (m7 s u)[g].2) d6).take (h+1)).foldl K6 (((m7 s u).take g).foldl (ubS s l d6) []) from by grind[d1,d2,t1,t2]))<|C2<|C2<|C2<|C2<|C2<|C2<|C2<|C2<|C2<|C2<|C2<|C2<|C2<|C2 ?_
        exact Ea (h+1,a83,_,c83) ⟨oz,trivial⟩
       ·refine Eu<|r8 Z<|E.exit<|l2<|l2<|u4<|o6<|Et<|Ez Z3<|Em Z<|Yad Z om om<|Ei Z<|Eu<|H2<|H2<|C2<|U1 (Q9 (x:=(m7 s u)[g]) Own.ow Own.ow) Z<|g9 (congrArg (ow y7 [_])<|List.set_getElem_self om)<|i9<|Ent.drop<|i9<|Ent.drop<|i9<|Ent.drop<|i9<|Ent.drop<|i9<|Ent.drop<|i9<|Ent.drop<|i9<|Ent.drop<|i9<|Ent.drop<|i9<|Ent.drop<|i9<|Ent.drop<|d8<|g9 (congrArg (ow D5 [_]) (show _=((m7 s u).take (g+1)).foldl (ubS s l d6) [] from by first|exact b3K om q13|exact b9j om jp om))<|d8<|d8 ?_
        exact Ea (g+1,aA1_0,_,cA1_0) ⟨oz,(show ((g+1)=0∨ubB s l u d6=true) from by exact .inr jb)⟩
     ·refine Eu<|Eq_<|Ew Z2<|Em Z<|Yno false Z<|Eu<|r9 Z<|E.exit<|l2<|u4<|Et<|Ez Z3<|Em Z<|Yad Z om om<|Ei Z<|Eu<|s6<|s6<|u6<|U1 (Q9 (x:=(m7 s u)[g]) Own.ow Own.ow) Z<|g9 (congrArg (ow y7 [_])<|List.set_getElem_self om)<|d8<|Ent.drop<|d8<|Ent.drop<|d8<|Ent.drop<|d8<|g9 (congrArg (ow D5 [_]) (show _=((m7 s u).take (g+1)).foldl (ubS s l d6) [] from by first|exact b3K om q13|exact b9j om jp om))<|d8<|d8 ?_
      exact Ea (g+1,aA0_0,_,cA0_0) ⟨oz,(show ((g+1)=0∨ubB s l u d6=true) from by exact .inr jb)⟩
    ·refine Ypt Z<|Eu<|r8 Z<|E.exit<|l2<|l2<|u4<|Et<|Ew Z2<|Em Z<|Ei Z<|Eu<|E.ret<|g9 (congrArg (ow D5 [_]) (show _=ubF s l u d6 by exact a8J pa (by rw[ubB,q39,Bool.and_false,Bool.and_false])))<|Fg Z Z (_,_,_) Z Z
   ·refine Ypt Z<|Em Z<|Es Z<|Es Z<|Es Z<|Ypf Z<|Eu<|r8 Z<|E.exit<|l2<|l2<|u4<|Et<|Ew Z2<|Em Z<|Ei Z<|Eu<|E.ret<|g9 (congrArg (ow D5 [_]) (show _=ubF s l u d6 by exact a8J pa (by rw[ubB,q34,Bool.false_and,Bool.and_false])))<|Fg Z Z (_,_,_) Z Z
  ·refine Ypt Z<|Em Z<|Es Z<|Es Z<|Es Z<|Ypf Z<|Em Z<|Es Z<|Es Z<|Es Z<|Ypf Z<|Eu<|r8 Z<|E.exit<|l2<|l2<|u4<|Et<|Ew Z2<|Em Z<|Ei Z<|Eu<|E.ret<|g9 (congrArg (ow D5 [_]) (show _=ubF s l u d6 by exact a8J pa (by rw[ubB,q29];rfl)))<|Fg Z Z (_,_,_) Z Z
 ·refine Em Z<|Es Z<|Es Z<|Es Z<|Ypf Z<|Em Z<|Es Z<|Es Z<|Es Z<|Ypf Z<|Em Z<|Es Z<|Es Z<|Es Z<|Ypf Z<|Eu<|r8 Z<|E.exit<|l2<|l2<|u4<|Et<|Ew Z2<|Em Z<|Ei Z<|Eu<|E.ret<|g9 (congrArg (ow D5 [_]) (show _=ubF s l u d6 by exact c3k pa om))<|Fg Z Z (_,_,_) Z Z
end Go.Proofs.YthapcdhdfaibkaaGreatDoor
end
