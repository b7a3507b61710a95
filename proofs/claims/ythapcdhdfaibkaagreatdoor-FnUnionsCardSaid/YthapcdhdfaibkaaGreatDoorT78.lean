import Derived.Test.YthapcdhdfaibkaaGreatDoorT122
import Derived.Test.YthapcdhdfaibkaaGreatDoorT25
namespace Go.Proofs.YthapcdhdfaibkaaGreatDoor
open Go.RowKit
set_option linter.all false
set_option maxHeartbeats 2000000
attribute [local irreducible] Nop Yd Yp Ent Has Tr FnP FnP2 Src K8 Q7 R5 S1 E8
variable {u:List (List Int×List IL)} {s:List Int} {m_u c_u m_s c_s:Nat} {a_u a_s:Option Addr}
theorem a7y (hyu:∀q∈u,D8 (λx=>x.2.length) q.2≤1048576) (hyh:∀q∈u,q.1.length≤1048576) (hun:u.length≤1048576):TL Tryz.prog 132 [.slice a_u m_u c_u] (λw L=>Ro w L y7 [.slice a_u m_u c_u] u) y7 u:=by
 refine Ti1 Tryz.func132 20 Z λw L hR=>?_
 have hu:=hR
 obtain ⟨rfl,lu⟩:=hu.slen
 refine Ew Z1<|Ei Z<|Ev Z2<|Est Z (Nb [] [] us_Querys ty_Query Z Z)<|λb6 _=>Ent.drop<|Ei Z<|Eu<|Eq_<|Ew Z3<|Em Z<|Yln us_Querys Z<|Em Z<|Eu<|E.block<|m8 (A:=[]) (Own.nil (E:=O6) (e:=tQuery) (a:=(some ⟨b6,0,none⟩))) Z<|g9 (congrArg (ow y7 [_]) (show _=u.take 0 from by first|rfl|(simp;done)|grind[d1,d2,t1,t2]))<|Lo (κ:=Nat×SL) (λg=>g.1≤u.length∧True) (λg=>[(3,.slice g.2.1 g.2.2.1 g.2.2.2),(7,.slice a_u u.length c_u),(8,.int .i64 (↑u.length:Int)),(9,.int .i64 (↑g.1:Int))]) (λg=>[ow y7 [.slice g.2.1 g.2.2.1 g.2.2.2]<|u.take g.1]) (λg=>u.length-g.1) (0,(some ⟨b6,0,none⟩),0,0) ⟨Nat.zero_le _,by simp⟩<|λg pg=>?_
 obtain ⟨g,aA0_0,mA0_0,cA0_0⟩:=g
 try dsimp only at pg
 try dsimp only
 obtain ⟨pk,pa⟩:=pg
 have jt:=List.length_take_le g u
 refine f0 m0 ?_
 rintro rfl laA0_0
 refine Ew Z1<|Ylt Z<|l3 (λq10=>?_)<|λq10=>?_
 ·obtain ⟨eb11,eo11,ec11,ea11,er11,el11,eh11⟩:=hu.elem g om
  obtain ⟨xa11_0,xc11_0,xa11_1,xc11_1,rfl,xh11_0,xh11_1⟩:=P7 er11
  have:=xh11_0.slen.2
  have:=xh11_1.slen.2
  refine Eu<|Eq_<|Ct<|Eq_<|E.block<|Ew Z4<|Ix us_Querys ty_Query Z ea11 g Z om<|Ey Z (l4 (cs:=[_,_]) ty_Query Z (eh11 _) Z)<|Est Z (N.alloc ty_Query dc)<|λb5 _=>Est Z (Ns [_,_] ty_Query Z)<|λ_ _=>Eu<|Ez Z6<|Em Z<|Ey Z (l4 (cs:=[_,_]) ty_Query Z (Has.pt m0) Z)<|Est Z (N.call (a9F (hyh _<|List.getElem_mem om) (by have h9:=hyu _ (List.getElem_mem (show g<u.length by omega));unfold D8 at h9;omega)<|a7N<|hyu _<|List.getElem_mem (show g<u.length by omega)) Z Z Z dc Z<|λw Lp hA=>⟨hA.ro xh11_0,hA.ro xh11_1⟩)<|λk15 _=>?_
  obtain ⟨⟨a15_0,m15_0,c15_0⟩,⟨a15_1,m15_1,c15_1⟩⟩:=k15
  refine f0 m0 ?_
  rintro rfl l15_0
  refine f0 (mS m0) ?_
  rintro rfl l15_1
  refine Est Z (Nb [_] [_,_] us_Querys ty_Query Z Z)<|λb16 _=>i9<|i9<|i9<|s6<|Est Z (w3 (E:=O6) (ex:=u[g]) us_Querys ty_Query Z Z Z (Q9 (x:=u[g]) Own.ow Own.ow) Z bn bn dc)<|λp17 _=>Ei Z<|En<|o6<|Et<|Ez Z2<|Yad Z om om<|Em Z<|Eu<|d8<|Ent.drop<|g9 (congrArg (ow y7 [_]) (show _=u.take (g+1) from by exact (List.take_succ_eq_append_getElem om).symm)) ?_
  exact Ea (g+1,p17.1,((u.take g).length+1),p17.2) ⟨oz,trivial⟩
 ·refine Eu<|Eq_<|r8 Z<|E.exit<|l2<|l2<|u4<|Et<|Ew Z2<|Em Z<|Ei Z<|Eu<|E.ret<|g9 (congrArg (ow y7 [_]) (show _=u by exact List.take_of_length_le om))<|Fg Z Z (_,_,_) Z Z
theorem b1V (hyu:∀q∈u,D8 (λx=>x.2.length) q.2≤1048576) (hyh:∀q∈u,q.1.length≤1048576) (hun:u.length≤1048576):TL Tryz.prog 135 [.slice a_u m_u c_u] (λw L=>Ro w L y7 [.slice a_u m_u c_u] u) y7 u:=by
 refine Ti1 Tryz.func135 23 Z λw L hR=>?_
 have hu:=hR
 obtain ⟨rfl,lu⟩:=hu.slen
 refine Ew Z1<|Ei Z<|Ev Z2<|Est Z (Nb [] [] us_Querys ty_Query Z Z)<|λb6 _=>Ent.drop<|Ei Z<|Eu<|Eq_<|Ew Z1<|Ei Z<|Eu<|E.block<|m8 (A:=[]) (Own.nil (E:=O6) (e:=tQuery) (a:=(some ⟨b6,0,none⟩))) Z<|g9 (congrArg (ow y7 [_]) (show _=u.take 0 from by first|rfl|(simp;done)|grind[d1,d2,t1,t2]))<|Lo (κ:=Nat×SL) (λg=>g.1≤u.length∧True) (λg=>[(0,.slice a_u u.length c_u),(3,.slice g.2.1 g.2.2.1 g.2.2.2),(4,.int .i64 (↑g.1:Int))]) (λg=>[ow y7 [.slice g.2.1 g.2.2.1 g.2.2.2]<|u.take g.1]) (λg=>u.length-g.1) (0,(some ⟨b6,0,none⟩),0,0) ⟨Nat.zero_le _,by simp⟩<|λg pg=>?_
 obtain ⟨g,aA0_0,mA0_0,cA0_0⟩:=g
 try dsimp only at pg
 try dsimp only
 obtain ⟨pk,pa⟩:=pg
 have jt:=List.length_take_le g u
 refine f0 m0 ?_
 rintro rfl laA0_0
 refine Eq_<|Ew Z4<|Em Z<|Em Z<|Yln us_Querys Z<|Ylt Z<|l3 (λq10=>?_)<|λq10=>?_
 ·refine Eu<|Ct<|Eq_<|E.block<|Ew Z7<|Em Z<|Em Z ?_
  obtain ⟨eb15,eo15,ec15,ea15,er15,el15,eh15⟩:=hu.elem g om
  obtain ⟨xa15_0,xc15_0,xa15_1,xc15_1,rfl,xh15_0,xh15_1⟩:=P7 er15
  have:=xh15_0.slen.2
  have:=xh15_1.slen.2
  refine Ix us_Querys ty_Query Z ea15 g Z om<|Ey Z (l4 (cs:=[_,_]) ty_Query Z (eh15 _) Z)<|Est Z (N.call (a2W (hyh _<|List.getElem_mem om) (by have h9:=hyu _ (List.getElem_mem (show g<u.length by omega));unfold D8 at h9;omega)<|a7N<|hyu _<|List.getElem_mem (show g<u.length by omega)) Z Z Z dc Z<|λw Lp hA=>⟨hA.ro xh15_0,hA.ro xh15_1⟩)<|λk17 _=>?_
  obtain ⟨⟨a17_0,m17_0,c17_0⟩,⟨a17_1,m17_1,c17_1⟩⟩:=k17
  refine f0 m0 ?_
  rintro rfl l17_0
  refine f0 (mS m0) ?_
  rintro rfl l17_1
  refine Est Z (N.alloc ty_Query dc)<|λb5 _=>Est Z (Ns [_,_] ty_Query Z)<|λ_ _=>Eu<|Ez Z5<|Em Z<|Ey Z (l4 (cs:=[_,_]) ty_Query Z (Has.pt m0) Z)<|Est Z (Nb [_] [_,_] us_Querys ty_Query Z Z)<|λb20 _=>n0<|n0<|i9<|s6<|Est Z (w3 (E:=O6) (ex:=u[g]) us_Querys ty_Query Z Z Z (Q9 (x:=u[g]) Own.ow Own.ow) Z bn bn dc)<|λp21 _=>Ei Z<|En<|o6<|Et<|Ez Z3<|Em Z<|Yad Z om om<|Ei Z<|Eu<|d8<|Ent.drop<|g9 (congrArg (ow y7 [_]) (show _=u.take (g+1) from by exact (List.take_succ_eq_append_getElem om).symm)) ?_
  exact Ea (g+1,p21.1,((u.take g).length+1),p21.2) ⟨oz,trivial⟩
 ·refine Eu<|r8 Z<|E.exit<|l2<|l2<|u4<|Et<|Ew Z2<|Em Z<|Ei Z<|Eu<|E.ret<|g9 (congrArg (ow y7 [_]) (show _=u by exact List.take_of_length_le om))<|Fg Z Z (_,_,_) Z Z
theorem a9n {ix:Int} (hyu:∀q∈u,D8 (λx=>x.2.length) q.2≤1048576) (hyh:∀q∈u,q.1.length≤1048576) (hun:u.length≤1048576) (hix:0≤ix):TL Tryz.prog 136 [.slice a_u m_u c_u,.int .i64 ix] (λw L=>Ro w L y7 [.slice a_u m_u c_u] u) y7 (u.eraseIdx ix.toNat):=by
 refine Ti2 Tryz.func136 28 Z λw L hR=>?_
 have hu:=hR
 obtain ⟨rfl,lu⟩:=hu.slen
 refine Ew Z1<|Ei Z<|Ev Z2<|Est Z (Nb [] [] us_Querys ty_Query Z Z)<|λb8 _=>Ent.drop<|Ei Z<|Eu<|Eq_<|Ew Z1<|Ei Z<|Eu<|E.block<|m8 (A:=[]) (Own.nil (E:=O6) (e:=tQuery) (a:=(some ⟨b8,0,none⟩))) Z<|g9 (congrArg (ow y7 [_]) (show _=(u.take 0).eraseIdx ix.toNat from by simp))<|Lo (κ:=Nat×SL) (λg=>g.1≤u.length∧True) (λg=>[(0,.slice a_u u.length c_u),(1,.int .i64 ix),(5,.slice g.2.1 g.2.2.1 g.2.2.2),(6,.int .i64 (↑g.1:Int))]) (λg=>[ow y7 [.slice g.2.1 g.2.2.1 g.2.2.2]<|(u.take g.1).eraseIdx ix.toNat]) (λg=>u.length-g.1) (0,(some ⟨b8,0,none⟩),0,0) ⟨Nat.zero_le _,by simp⟩<|λg pg=>?_
 obtain ⟨g,aA0_0,mA0_0,cA0_0⟩:=g
 try dsimp only at pg
 try dsimp only
 obtain ⟨pk,pa⟩:=pg
 have jt:=List.length_take_le g u
 have je:=List.length_eraseIdx_le (u.take g) ix.toNat
 refine f0 m0 ?_
 rintro rfl laA0_0
 refine Eq_<|Ew Z4<|Em Z<|Em Z<|Yln us_Querys Z<|Ylt Z<|l3 (λq12=>?_)<|λq12=>?_
 ·refine Eu<|Ct<|Eq_<|E.block<|Ew Z3<|Em Z<|Em Z<|Ey Z ((Y.neq Z Z).yd)<|l3 (λq17=>?_)<|λq17=>?_
  ·refine Eu<|r9 Z<|Ew Z7<|Em Z<|Em Z ?_
   obtain ⟨eb20,eo20,ec20,ea20,er20,el20,eh20⟩:=hu.elem g om
   obtain ⟨xa20_0,xc20_0,xa20_1,xc20_1,rfl,xh20_0,xh20_1⟩:=P7 er20
   have:=xh20_0.slen.2
   have:=xh20_1.slen.2
   refine Ix us_Querys ty_Query Z ea20 g Z om<|Ey Z (l4 (cs:=[_,_]) ty_Query Z (eh20 _) Z)<|Est Z (N.call (a2W (hyh _<|List.getElem_mem om) (by have h9:=hyu _ (List.getElem_mem (show g<u.length by omega));unfold D8 at h9;omega)<|a7N<|hyu _<|List.getElem_mem (show g<u.length by omega)) Z Z Z dc Z<|λw Lp hA=>⟨hA.ro xh20_0,hA.ro xh20_1⟩)<|λk22 _=>?_
   obtain ⟨⟨a22_0,m22_0,c22_0⟩,⟨a22_1,m22_1,c22_1⟩⟩:=k22
   refine f0 m0 ?_
   rintro rfl l22_0
   refine f0 (mS m0) ?_
   rintro rfl l22_1
   refine Est Z (N.alloc ty_Query dc)<|λb7 _=>Est Z (Ns [_,_] ty_Query Z)<|λ_ _=>Eu<|Ez Z5<|Em Z<|Ey Z (l4 (cs:=[_,_]) ty_Query Z (Has.pt m0) Z)<|Est Z (Nb [_] [_,_] us_Querys ty_Query Z Z)<|λb25 _=>n0<|n0<|i9<|s6<|Est Z (w3 (E:=O6) (ex:=u[g]) us_Querys ty_Query Z Z Z (Q9 (x:=u[g]) Own.ow Own.ow) Z bn bn dc)<|λp26 _=>Ei Z<|En<|o6<|Et<|Ez Z3<|Em Z<|Yad Z om om<|Ei Z<|Eu<|d8<|Ent.drop<|g9 (congrArg (ow y7 [_]) (show _=(u.take<|g+1).eraseIdx ix.toNat from by first|exact b7T om q17 Z hix|exact b0E om (Int.not_ne_iff_eq.1 q17) Z|exact b0E om (Decidable.not_not.1 q17) Z)) ?_
   exact Ea (g+1,p26.1,(((u.take g).eraseIdx ix.toNat).length+1),p26.2) ⟨oz,trivial⟩
  ·refine Eu<|r8 Z<|v6<|o6<|Et<|Ez Z3<|Em Z<|Yad Z om om<|Ei Z<|Eu<|g9 (congrArg (ow y7 [_]) (show _=(u.take<|g+1).eraseIdx ix.toNat from by first|exact b7T om q17 Z hix|exact b0E om (Int.not_ne_iff_eq.1 q17) Z|exact b0E om (Decidable.not_not.1 q17) Z)) ?_
   exact Ea (g+1,aA0_0,_,cA0_0) ⟨oz,trivial⟩
 ·refine Eu<|r8 Z<|E.exit<|l2<|l2<|u4<|Et<|Ew Z2<|Em Z<|Ei Z<|Eu<|E.ret<|g9 (congrArg (ow y7 [_]) (show _=u.eraseIdx ix.toNat by rw[List.take_of_length_le om]))<|Fg Z Z (_,_,_) Z Z
theorem a2j (hyu:∀q∈u,D8 (λx=>x.2.length) q.2≤1048576) (hyh:∀q∈u,q.1.length≤1048576) (hun:u.length≤1048576):TL Tryz.prog 32 [.slice a_s m_s c_s,.slice a_u m_u c_u] (λw L=>Ro w L eIs [.slice a_s m_s c_s] s∧Ro w L y7 [.slice a_u m_u c_u] u) y7 (m7 s u):=by
 refine Ti2 Tryz.func32 36 Z λw L hR=>?_
 obtain ⟨hs,hu⟩:=hR
 obtain ⟨rfl,ls⟩:=hs.slen
 obtain ⟨rfl,lu⟩:=hu.slen
 refine Ew Z1<|Ei Z<|Ev Z3<|Em Z<|El Z (a7y (by first|omega|assumption|exact ⟨by omega,by omega,by omega⟩) (by first|omega|assumption|exact ⟨by omega,by omega,by omega⟩) (by first|omega|assumption|exact ⟨by omega,by omega,by omega⟩)) rfl (λhA=>hA.ro hu)<|λa9 c9 l9=>Ei Z<|Eu<|Eq_<|Ew Z4<|Em Z<|Em Z<|E0 Z (a0h (by first|omega|assumption|exact ⟨by omega,by omega,by omega⟩)) rfl (λhA=>⟨hA.ro hs,hA.ro hu⟩)<|Ent.b (λq12=>?_)<|λq12=>?_
 ·refine c0S (F:=a0r) Z b8q λys hys=>d8<|b5T (A:=[_]) Z λwb1 Lb1 hB1 hA1 hU1=>?_
  have hs:=hA1.ro hs
  have hu:=hA1.ro hu
  have hbor:Bor wb1 Lb1 O6 a3f ys u:=hA1.elsB (λ_=>rfl) hys m0
  refine Yno true Z<|Eu<|Cf<|Eq_<|Ew Z1<|Ei Z<|Eu<|E.block<|g9 (congrArg (ow a0d [_]) (show _=R6 eB0 ys (K5 s u 0) 0 from by rfl))<|E.loop (κ:=Nat×SL) (λg=>g.1≤u.length∧True) (λg=>[(0,.slice a_s s.length c_s),(5,.slice g.2.1 g.2.2.1 g.2.2.2),(6,.int .i64 (↑((K5 s u g.1).length):Int))]) (λg=>[ow a0d [.slice g.2.1 g.2.2.1 g.2.2.2]<|R6 eB0 ys (K5 s u g.1) g.1]) (λg=>u.length-g.1) (0,a9,(u).length,c9) ⟨Nat.zero_le _,by trivial⟩ ⟨Z,Z,frI (by rfl),trivial⟩ (.refl _)<|λg pg=>?_
  obtain ⟨g,aA0_0,mA0_0,cA0_0⟩:=g
  try dsimp only at pg
  try dsimp only
  obtain ⟨pk,pa⟩:=pg
  have jn:=b2d (d:=eB0) (xs:=ys) (is:=(K5 s u g)) (n:=g)
  have jm:=b0k (s:=s) (u:=u) (n:=g)
  refine f0 m0 ?_
  rintro rfl laA0_0
  refine Eq_<|Ew Z4<|Em Z<|Em Z<|Yln us_Querys Z<|Ylt Z<|l3 (λq18=>?_)<|λq18=>?_
  ·refine Eu<|Ct<|E.block<|Ew Z7<|Em Z<|El Z (b1i (by first|omega|assumption|exact ⟨by omega,by omega,by omega⟩)) rfl (λhA=>hA.ow m0)<|λa20 c20 l20=>Em Z<|Em Z<|Yad Z om om<|Est Z (N.call (pre:=[_]) (b1d (by first|omega|assumption|exact ⟨by omega,by omega,by omega⟩)) Z Z Z dc Z tv)<|λk24 _=>?_
   obtain ⟨a24,m24,c24⟩:=k24
   refine f0 m0 ?_
   rintro rfl l24
   refine g9 (congrArg (ow a0d [_]) (show _=a1t eB0 ys (K5 s u g) g from by exact b9B))<|Ei Z<|Ev Z7<|Em Z<|Em Z<|Em Z<|R1 (mS m0) om λab28 ae28=>d8<|X9 (x:=ys[g]) ((K5 s u g).length) (b1O (show g<ys.length by omega)) λce28=>d8<|b5S λoe28=>?_
   subst oe28
   refine Ix us_Querys ty_Query Z ae28 ((K5 s u g).length) Z om<|Ey Z (l4 (cs:=[_,_]) ty_Query Z (Has.hole ae28 m0) Z)<|Em Z ?_
   have hq2:=b5J (hbor.get g om om)
   have hbd:=hbor.del (d:=eB0) (d':=eQ0) (is:=(K5 s u g)) (n:=g) (λi hi=>by have:=a2g i hi;omega)
   refine E0 Z (a1k (hyu _<|List.getElem_mem om)<|λq hq=>hyu q<|b6l (λi hi=>by have:=a2g i hi;omega) hq) Z (λhA=>⟨hA.ro hs,hA.ro hq2.1,hA.ro hq2.2,hA.bQueryB (mS m0) hbd⟩)<|Ent.b (λq31=>?_)<|λq31=>?_
   ·refine Eu<|r9 Z<|Ez Z2<|Em Z<|Ei Z<|En<|o6<|Et<|U1 (a8x (x:=ys[g])) Z<|Ent.drop<|g9 (congrArg (ow a0d [_]) (show _=R6 eB0 ys (K5 s u<|g+1) (g+1) from by first|exact a7B om q31|exact a2R om om q31|exact (a3l om).trans (a2R om om q31)|exact a5C om q31|exact a5A om q31)) ?_
    exact u7 br (g+1,a24,_,c24) ⟨Z,Z,frI (by first|exact a7B om q31|exact a2R om om q31|exact (a3l om).trans (a2R om om q31)|exact a5C om q31|exact a5A om q31),trivial⟩ (.refl _) ⟨oz,(show True from by trivial)⟩ oz
   ·refine Eu<|r8 Z<|Ez Z3<|Em Z<|Yad Z om om<|Ei Z<|En<|o6<|Et<|U1 (a8x (x:=ys[g])) Z<|d8<|Ent.drop<|g9 (congrArg (ow a0d [_]) (show _=R6 eB0 ys (K5 s u<|g+1) (g+1) from by first|exact a7B om q31|exact a2R om om q31|exact (a3l om).trans (a2R om om q31)|exact a5C om q31|exact a5A om q31)) ?_
    exact u7 br (g+1,aA0_0,_,cA0_0) ⟨Z,Z,frI (by first|exact a7B om q31|exact a2R om om q31|exact (a3l om).trans (a2R om om q31)|exact a5C om q31|exact a5A om q31),trivial⟩ (.refl _) ⟨oz,(show True from by trivial)⟩ oz
  ·refine Eu<|r8 Z<|E.exit<|l2<|l2<|u4<|Et<|Ew Z2<|Em Z<|Ei Z<|b7O hU1<|b7J (s:=s) (u:=u) (n:=g) (d:=eB0) (d':=eQ0) (λ_=>rfl) hys om<|Eu<|E.ret<|d8<|c0P b0R Z<|g9 (congrArg (ow y7 [_]) (show _=m7 s u by exact b8J q12 om om))<|Fg Z Z (_,_,_) Z Z
 ·refine Yno false Z<|Eu<|r9 Z<|Ew Z2<|Em Z<|Ei Z<|Eu<|E.ret<|a5h<|g9 (congrArg (ow y7 [_]) (show _=m7 s u by exact b4V q12))<|Fg Z Z (_,_,_) Z Z
theorem a2h (hyu:∀q∈u,D8 (λx=>x.2.length) q.2≤1048576) (hyh:∀q∈u,q.1.length≤1048576) (hun:u.length≤1048576):TL Tryz.prog 33 [.slice a_s m_s c_s,.slice a_u m_u c_u] (λw L=>Ro w L eIs [.slice a_s m_s c_s] s∧Ro w L y7 [.slice a_u m_u c_u] u) y7 (m7 s u):=by
 refine Ti2 Tryz.func33 33 Z λw L hR=>?_
 obtain ⟨hs,hu⟩:=hR
 obtain ⟨rfl,ls⟩:=hs.slen
 obtain ⟨rfl,lu⟩:=hu.slen
 refine Ew Z1<|Ei Z<|Ev Z3<|Em Z<|El Z (b1V (by first|omega|assumption|exact ⟨by omega,by omega,by omega⟩) (by first|omega|assumption|exact ⟨by omega,by omega,by omega⟩) (by first|omega|assumption|exact ⟨by omega,by omega,by omega⟩)) rfl (λhA=>hA.ro hu)<|λa9 c9 l9=>Ei Z<|Ev Z1<|Ei Z<|Eu<|Eq_<|E.block<|g9 (congrArg (ow y7 [_]) (show _=R6 eQ0 u (K5 s u 0) 0 from by rfl))<|E.loop (κ:=Nat×SL) (λg=>g.1≤u.length∧(g.1=0∨F9 s u=true)) (λg=>[(0,.slice a_s s.length c_s),(1,.slice a_u u.length c_u),(5,.slice g.2.1 g.2.2.1 g.2.2.2),(6,.int .i64 (↑((K5 s u g.1).length):Int))]) (λg=>[ow y7 [.slice g.2.1 g.2.2.1 g.2.2.2]<|R6 eQ0 u (K5 s u g.1) g.1]) (λg=>u.length-g.1) (0,a9,(u).length,c9) ⟨Nat.zero_le _,by exact .inl Z⟩ ⟨Z,Z,Z,frI (by rfl),trivial⟩ (.refl _)<|λg pg=>?_
 obtain ⟨g,aA0_0,mA0_0,cA0_0⟩:=g
 try dsimp only at pg
 try dsimp only
 obtain ⟨pk,pa⟩:=pg
 have jn:=b2d (d:=eQ0) (xs:=u) (is:=(K5 s u g)) (n:=g)
 have jm:=b0k (s:=s) (u:=u) (n:=g)
 refine f0 m0 ?_
 rintro rfl laA0_0
 refine Eq_<|Ew Z9<|Em Z<|Em Z<|Yln us_Querys Z<|Ylt Z<|l3 (λq13=>?_)<|λq13=>?_
 ·refine Em Z<|Em Z<|Em Z<|E0 Z (a0K (by first|omega|assumption|exact ⟨by omega,by omega,by omega⟩)) rfl (λhA=>⟨hA.ro hs,hA.ro hu⟩)<|Ent.b (λq17=>?_)<|λq17=>?_
  ·refine Ypt Z<|Eu<|Ct<|E.block<|Ew Z4<|Em Z<|Em Z<|El Z (a9n (λq hq=>hyu q<|a8K (λi hi=>by have:=a2g i hi;omega) hq) (λq hq=>hyh q<|a8K (λi hi=>by have:=a2g i hi;omega) hq) fo fo) Z (λhA=>hA.ow m0)<|λa21 c21 l21=>g9 (congrArg (ow y7 [_]) (show _=a1t eQ0 u (K5 s u g) g from by exact b9A))<|Ei Z<|Ev Z7<|Em Z<|Em Z<|Em Z<|R1 (mS m0) om λab25 ae25=>d8<|X9 (x:=u[g]) ((K5 s u g).length) (b1O (show g<u.length by omega)) λce25=>d8<|a4F λoa25_0 om25_0 oc25_0 oa25_1 om25_1 oc25_1 oe25 on25_0 on25_1=>?_
   subst oe25
   subst on25_0
   subst on25_1
   refine Ix us_Querys ty_Query Z ae25 ((K5 s u g).length) Z om<|Ey Z (l4 (cs:=[_,_]) ty_Query Z (Has.hole ae25<|mS<|mS m0) Z)<|Em Z<|E0 Z (a1h (hyu _<|List.getElem_mem om)<|λq hq=>hyu q<|b6l (λi hi=>by have:=a2g i hi;omega) hq) Z (λhA=>⟨hA.ro hs,hA.ow m0,hA.ow<|mS m0,hA.ow<|mS<|mS<|mS m0⟩)<|Ent.b (λq28=>?_)<|λq28=>?_
   ·refine Eu<|r9 Z<|Ez Z2<|Em Z<|Ei Z<|En<|o6<|Et<|d8<|d8<|i9<|U1 (Q9 (x:=u[g]) Own.ow Own.ow) Z<|Ent.drop<|g9 (congrArg (ow y7 [_]) (show _=R6 eQ0 u (K5 s u<|g+1) (g+1) from by first|exact a7B om q28|exact a2R om om q28|exact (a3l om).trans (a2R om om q28)|exact a5C om q28|exact a5A om q28)) ?_
    exact u7 br (g+1,a21,_,c21) ⟨Z,Z,Z,frI (by first|exact a7B om q28|exact a2R om om q28|exact (a3l om).trans (a2R om om q28)|exact a5C om q28|exact a5A om q28),trivial⟩ (.refl _) ⟨oz,(show ((g+1)=0∨F9 s u=true) from by exact .inr q17)⟩ oz
   ·refine Eu<|r8 Z<|Ez Z3<|Em Z<|Yad Z om om<|Ei Z<|En<|o6<|Et<|d8<|d8<|i9<|U1 (Q9 (x:=u[g]) Own.ow Own.ow) Z<|d8<|Ent.drop<|g9 (congrArg (ow y7 [_]) (show _=R6 eQ0 u (K5 s u<|g+1) (g+1) from by first|exact a7B om q28|exact a2R om om q28|exact (a3l om).trans (a2R om om q28)|exact a5C om q28|exact a5A om q28)) ?_
    exact u7 br (g+1,aA0_0,_,cA0_0) ⟨Z,Z,Z,frI (by first|exact a7B om q28|exact a2R om om q28|exact (a3l om).trans (a2R om om q28)|exact a5C om q28|exact a5A om q28),trivial⟩ (.refl _) ⟨oz,(show ((g+1)=0∨F9 s u=true) from by exact .inr q17)⟩ oz
  ·refine Ypt Z<|Eu<|r8 Z<|E.exit<|l2<|l2<|u4<|Et<|Ew Z2<|Em Z<|Ei Z<|Eu<|E.ret<|g9 (congrArg (ow y7 [_]) (show _=m7 s u by (rcases pa with h9|h9;(subst h9;exact b4V q17);(rw[q17] at h9;cases h9))))<|Fg Z Z (_,_,_) Z Z
 ·refine Em Z<|Es Z<|Es Z<|Es Z<|Ypf Z<|Eu<|r8 Z<|E.exit<|l2<|l2<|u4<|Et<|Ew Z2<|Em Z<|Ei Z<|Eu<|E.ret<|g9 (congrArg (ow y7 [_]) (show _=m7 s u by (cases hq9:F9 s u with|true=>exact b8J hq9 om om|false=>(rcases pa with h9|h9;(subst h9;exact b4V hq9);(rw[hq9] at h9;cases h9)))))<|Fg Z Z (_,_,_) Z Z
end Go.Proofs.YthapcdhdfaibkaaGreatDoor
