import Derived.Test.YthapcdhdfaibkaaGreatDoorT23
namespace Go.Proofs.YthapcdhdfaibkaaGreatDoor
open Go.RowKit
set_option linter.all false
set_option maxHeartbeats 2000000
attribute [local irreducible] Nop Yd Yp Ent Has Tr FnP FnP2 Src K8 Q7 R5 S1 E8
variable {n8 c6:List IL} {J5 d9 s:List Int} {a1Y a0z a1s Y7 u5 r6 s9 o0 m_s c_s:Nat} {a0A Y8 r7 o1 a_s:Option Addr}
theorem c7i (hpa:n8.length≤4) (hpt:∀a∈n8,a.2.length≤3) (hph:J5.length≤3) (hpr:∀a∈n8,a.1<3) (hzq:D8 (λx=>x.2.length) c6≤1048576):Tr Tryz.prog 251 [.agg #[.slice a0A a1Y a0z,.slice Y8 a1s Y7],.agg #[.slice r7 u5 r6,.slice o1 s9 o0]] (λw L=>Ro w L eIs [.slice a0A a1Y a0z] J5∧Ro w L v8 [.slice Y8 a1s Y7] n8∧Ro w L eIs [.slice r7 u5 r6] d9∧Ro w L v8 [.slice o1 s9 o0] c6) [] (κ:=(SL)×(SL)×(SL)) (λk=>True) (λk=>.tuple #[.slice k.1.1 k.1.2.1 k.1.2.2,.agg #[.slice k.2.1.1 k.2.1.2.1 k.2.1.2.2,.slice k.2.2.1 k.2.2.2.1 k.2.2.2.2],.bool (fzB [k7 (λt=>inR t 0 9) n8,k7 (λt=>inR t 0 9) c6].flatten n8)]) (λk=>[ow t7 [.slice k.1.1 k.1.2.1 k.1.2.2] (fzF [k7 (λt=>inR t 0 9) n8,k7 (λt=>inR t 0 9) c6].flatten n8),ow eIs [.slice k.2.1.1 k.2.1.2.1 k.2.1.2.2] (fzV [k7 (λt=>inR t 0 9) n8,k7 (λt=>inR t 0 9) c6].flatten n8),ow eIs [.slice k.2.2.1 k.2.2.2.1 k.2.2.2.2] (fzX [k7 (λt=>inR t 0 9) n8,k7 (λt=>inR t 0 9) c6].flatten n8)]):=by
 refine Ti2 Tryz.func251 65 Z λw L hR=>?_
 obtain ⟨P6,M8,s7,o2⟩:=hR
 obtain ⟨rfl,b2k⟩:=P6.slen
 obtain ⟨rfl,b0u⟩:=M8.slen
 obtain ⟨rfl,I8⟩:=s7.slen
 obtain ⟨rfl,G9⟩:=o2.slen
 have jcf:=a0l (d7:=c6)
 refine Ew Z5<|Est Z (N.box (cs:=[_,_]) Z dc Z)<|λb2 _=>Est Z (N.box (cs:=[_,_]) Z dc Z)<|λb3 _=>Ei Z<|Est Z (N.alloc ty_Binding dc)<|λb5 _=>Ei Z<|Ev Z4<|Ey Z (l4 (cs:=[_,_]) ty_Query Z (Has.pt<|mS<|mS m0) Z)<|Est Z (N.call (a2W om om<|λa ha=>Nat.le_trans (hpt a ha) dc) Z Z Z dc Z<|λw Lp hA=>⟨hA.ro P6,hA.ro M8⟩)<|λk16 _=>?_
 obtain ⟨⟨a16_0,m16_0,c16_0⟩,⟨a16_1,m16_1,c16_1⟩⟩:=k16
 refine f0 m0 ?_
 rintro rfl l16_0
 refine f0 (mS m0) ?_
 rintro rfl l16_1
 refine Est Z (N.alloc ty_Query dc)<|λb7 _=>Est Z (Ns [_,_] ty_Query Z)<|λ_ _=>Ev Z3<|Ey Z (l4 (cs:=[_,_]) ty_Query Z (Has.pt<|mS<|mS<|mS<|mS m0) Z)<|El Z (b8Q fo) Z (λhA=>⟨hA.ro s7,hA.ro o2⟩)<|λa18 c18 l18=>a0n (A:=[_]) Z λwb1 Lb1 hB1 hA1=>?_
 have P6:=hA1.ro P6
 have M8:=hA1.ro M8
 have s7:=hA1.ro s7
 have o2:=hA1.ro o2
 have rb1:Ro wb1 Lb1 eIs [.slice a18 (k7 (λt=>inR t 0 9) c6).length c18] (k7 (λt=>inR t 0 9) c6):=hA1.ow m0
 refine Ei Z<|Eu<|Eq_<|Ew Z1<|Ei Z<|Eu<|E.block<|i9<|g9 (congrArg (ow v8 [_]) (show _=n8++((k7 (λt=>inR t 0 9) c6).take 0).map (λc=>((3:Int),[c])) from by first|rfl|(simp;done)|grind[d1,d2,t1,t2]))<|Lo (κ:=Nat×SL) (λg=>g.1≤(k7 (λt=>inR t 0 9) c6).length∧True) (λg=>[(5,.pointer<|some ⟨b5,0,none⟩),(7,.pointer<|some ⟨b7,0,none⟩),(8,.slice a18 (k7 (λt=>inR t 0 9) c6).length c18),(9,.int .i64 (↑g.1:Int))]) (λg=>[ow v8 [.slice g.2.1 g.2.2.1 g.2.2.2]<|n8++((k7 (λt=>inR t 0 9) c6).take g.1).map (λc=>((3:Int),[c])),pt b7 28 [.slice a16_0 (J5).length c16_0,.slice g.2.1 g.2.2.1 g.2.2.2],ow eIs [.slice a16_0 (J5).length c16_0] J5,pt b5 114 [.slice none 0 0,.slice none 0 0],pt b3 28 [.slice r7 d9.length r6,.slice o1 c6.length o0],pt b2 28 [.slice a0A J5.length a0z,.slice Y8 n8.length Y7]]) (λg=>(k7 (λt=>inR t 0 9) c6).length-g.1) (0,a16_1,(n8).length,c16_1) ⟨Nat.zero_le _,by simp⟩<|λg pg=>?_
 obtain ⟨g,aA0_0,mA0_0,cA0_0⟩:=g
 try dsimp only at pg
 try dsimp only
 obtain ⟨pk,pa⟩:=pg
 have jp:=List.length_take_le g (k7 (λt=>inR t 0 9) c6)
 refine f0 m0 ?_
 rintro rfl laA0_0
 refine Eq_<|Ew Z4<|Em Z<|Em Z<|Yln us_Is Z<|Ylt Z<|l3 (λq22=>?_)<|λq22=>?_
 ·refine Eu<|Ct<|Eq_<|E.block<|D.region (λj=> !(Nat.beq j 9)&& !(Nat.beq j 11)) mixed<|Df 0 1 fo_Query_1 ty_Atoms Z (Hz (mS m0) 1 Z)<|Dm 2 Z<|Dm 3 Z ?_
  obtain ⟨eb29,eo29,ea29,ei29,eh29⟩:=rb1.elemI g om
  refine Dyp 4 Z (y6 us_Is j8 Z ea29 Z g Z om)<|Dy 5 Z (z7 j8 Z (eh29 _) Z)<|w6 6 Z Z kr (λ_=>rfl) (Nb [_] [_] us_Is j8 Z Z)<|λb31 _=>m8 (A:=_::_) (V2 (E:=Enc.int) (e:=tI)<|Own.int ei29) Z<|Dyp 7 Z (J2 (pvs:=[_,_]) (cs:=[_,_]) ty_Atom a8X Z Z)<|w6 8 Z Z kr (λ_=>rfl) (Nb [_] [_,_] us_Atoms ty_Atom Z Z)<|λb33 _=>d8<|d8<|i9<|w6 9 Z Z kr (λh=>by cases h) (w3 (E:=W5) (ex:=(3,[(k7 (λt=>inR t 0 9) c6)[g]])) us_Atoms ty_Atom Z Z Z (O3 (x:=(3,[(k7 (λt=>inR t 0 9) c6)[g]])) i6 Own.ow) Z bn bn dc)<|λp34 _=>Dyp 10 Z (D3 fo_Query_1 ty_Atoms dc Z)<|d8<|w6 11 Z Z kr (λh=>by cases h) (Ns [_,_] ty_Atoms rfl)<|λ_ _=>o4 kr<|o6<|Et<|Ez Z3<|Em Z<|Yad Z om om<|Ei Z<|Eu<|d8<|g9 (congrArg (ow v8 [_]) (show _=n8++((k7 (λt=>inR t 0 9) c6).take (g+1)).map (λc=>((3:Int),[c])) from by grind[d1,d2,t1,t2]))<|u6<|u6<|u6<|u6<|u6<|u6 ?_
  exact Ea (g+1,p34.1,((n8++((k7 (λt=>inR t 0 9) c6).take g).map (λc=>((3:Int),[c]))).length+1),p34.2) ⟨oz,trivial⟩
 ·refine Eu<|r8 Z<|E.exit<|l2<|l2<|u4<|Et<|Ew Z10<|Ey Z (l4 (cs:=[_,_]) ty_Query Z (Has.pt<|mS m0) Z)<|Est Z (N.call (c7c<|c7C hpa hpt (by have:=a0l (d7:=c6);simp only[List.length_take];omega)) Z Z Z dc Z<|λw Lp hA=>⟨hA.ow<|mS<|mS m0,hA.ow m0⟩)<|λk38 _=>?_
  obtain ⟨⟨a38_0,m38_0,c38_0⟩,⟨a38_1,m38_1,c38_1⟩,⟨a38_2,m38_2,c38_2⟩⟩:=k38
  refine f0 m0 ?_
  rintro rfl l38_0
  refine f0 (mS m0) ?_
  rintro rfl l38_1
  refine f0 (mS<|mS m0) ?_
  rintro rfl l38_2
  refine Em Z<|Ey Z ((Y.ext Z Z).yd)<|Ey Z ((Y.ext Z Z).yd)<|Ey Z ((Y.ext Z Z).yd)<|Est Z (N.alloc ty_Binding dc)<|λb11 _=>Ei Z<|Est Z (Ns [_,_] ty_Binding Z)<|λ_ _=>Ei Z<|Ev Z2<|Est Z (Nb [] [] us_Facts ty_Fact Z Z)<|λb42 _=>Ent.drop<|Ei Z<|Eu<|Eq_<|Ew Z1<|Ei Z<|Eu<|E.block<|m8 (A:=[]) (Own.nil (E:=I3) (e:=tFact) (a:=(some ⟨b42,0,none⟩))) Z<|g9 (congrArg (ow t7 [_]) (show _=((fzF (k7 (λt=>inR t 0 9)<|n8++((k7 (λt=>inR t 0 9) c6).take g).map (λc=>((3:Int),[c])))<|n8++((k7 (λt=>inR t 0 9) c6).take g).map (λc=>((3:Int),[c]))).take 0).filter (λf=>decide (f.1<3)) from by first|rfl|(simp;done)|grind[d1,d2,t1,t2]))<|i9<|b2p<|Lo (κ:=Nat×SL) (λr=>r.1≤(fzF (k7 (λt=>inR t 0 9)<|n8++((k7 (λt=>inR t 0 9) c6).take g).map (λc=>((3:Int),[c])))<|n8++((k7 (λt=>inR t 0 9) c6).take g).map (λc=>((3:Int),[c]))).length∧True) (λr=>[(5,.pointer<|some ⟨b5,0,none⟩),(10,.slice a38_0 (fzF (k7 (λt=>inR t 0 9)<|n8++((k7 (λt=>inR t 0 9) c6).take g).map (λc=>((3:Int),[c])))<|n8++((k7 (λt=>inR t 0 9) c6).take g).map (λc=>((3:Int),[c]))).length c38_0),(11,.pointer<|some ⟨b11,0,none⟩),(12,.bool<|fzB (k7 (λt=>inR t 0 9)<|n8++((k7 (λt=>inR t 0 9) c6).take g).map (λc=>((3:Int),[c])))<|n8++((k7 (λt=>inR t 0 9) c6).take g).map (λc=>((3:Int),[c]))),(13,.slice r.2.1 r.2.2.1 r.2.2.2),(14,.int .i64 (↑r.1:Int))]) (λr=>[owd tFact I3 a38_0 ((fzF (k7 (λt=>inR t 0 9)<|n8++((k7 (λt=>inR t 0 9) c6).take g).map (λc=>((3:Int),[c])))<|n8++((k7 (λt=>inR t 0 9) c6).take g).map (λc=>((3:Int),[c]))).length) c38_0 (fzF (k7 (λt=>inR t 0 9)<|n8++((k7 (λt=>inR t 0 9) c6).take g).map (λc=>((3:Int),[c])))<|n8++((k7 (λt=>inR t 0 9) c6).take g).map (λc=>((3:Int),[c]))) r.1,ow t7 [.slice r.2.1 r.2.2.1 r.2.2.2]<|((fzF (k7 (λt=>inR t 0 9)<|n8++((k7 (λt=>inR t 0 9) c6).take g).map (λc=>((3:Int),[c])))<|n8++((k7 (λt=>inR t 0 9) c6).take g).map (λc=>((3:Int),[c]))).take r.1).filter (λf=>decide (f.1<3)),pt b11 114 [.slice a38_1 (fzV (k7 (λt=>inR t 0 9)<|n8++((k7 (λt=>inR t 0 9) c6).take g).map (λc=>((3:Int),[c])))<|n8++((k7 (λt=>inR t 0 9) c6).take g).map (λc=>((3:Int),[c]))).length c38_1,.slice a38_2 (fzX (k7 (λt=>inR t 0 9)<|n8++((k7 (λt=>inR t 0 9) c6).take g).map (λc=>((3:Int),[c])))<|n8++((k7 (λt=>inR t 0 9) c6).take g).map (λc=>((3:Int),[c]))).length c38_2],ow eIs [.slice a38_1 (fzV (k7 (λt=>inR t 0 9)<|n8++((k7 (λt=>inR t 0 9) c6).take g).map (λc=>((3:Int),[c])))<|n8++((k7 (λt=>inR t 0 9) c6).take g).map (λc=>((3:Int),[c]))).length c38_1]<|fzV (k7 (λt=>inR t 0 9)<|n8++((k7 (λt=>inR t 0 9) c6).take g).map (λc=>((3:Int),[c])))<|n8++((k7 (λt=>inR t 0 9) c6).take g).map (λc=>((3:Int),[c])),ow eIs [.slice a38_2 (fzX (k7 (λt=>inR t 0 9)<|n8++((k7 (λt=>inR t 0 9) c6).take g).map (λc=>((3:Int),[c])))<|n8++((k7 (λt=>inR t 0 9) c6).take g).map (λc=>((3:Int),[c]))).length c38_2]<|fzX (k7 (λt=>inR t 0 9)<|n8++((k7 (λt=>inR t 0 9) c6).take g).map (λc=>((3:Int),[c])))<|n8++((k7 (λt=>inR t 0 9) c6).take g).map (λc=>((3:Int),[c])),ow v8 [.slice aA0_0 (n8++((k7 (λt=>inR t 0 9) c6).take g).map (λc=>((3:Int),[c]))).length cA0_0]<|n8++((k7 (λt=>inR t 0 9) c6).take g).map (λc=>((3:Int),[c])),pt b7 28 [.slice a16_0 (J5).length c16_0,.slice aA0_0 (n8++((k7 (λt=>inR t 0 9) c6).take g).map (λc=>((3:Int),[c]))).length cA0_0],ow eIs [.slice a16_0 (J5).length c16_0] J5,pt b5 114 [.slice none 0 0,.slice none 0 0],pt b3 28 [.slice r7 d9.length r6,.slice o1 c6.length o0],pt b2 28 [.slice a0A J5.length a0z,.slice Y8 n8.length Y7]]) (λr=>(fzF (k7 (λt=>inR t 0 9)<|n8++((k7 (λt=>inR t 0 9) c6).take g).map (λc=>((3:Int),[c])))<|n8++((k7 (λt=>inR t 0 9) c6).take g).map (λc=>((3:Int),[c]))).length-r.1) (0,(some ⟨b42,0,none⟩),0,0) ⟨Nat.zero_le _,by simp⟩<|λr pr=>?_
  obtain ⟨r,aA1_0,mA1_0,cA1_0⟩:=r
  try dsimp only at pr
  try dsimp only
  obtain ⟨pk,pa⟩:=pr
  have jf:=List.length_filter_le (λf=>decide (f.1<3)) ((fzF (k7 (λt=>inR t 0 9) (n8++((k7 (λt=>inR t 0 9) c6).take g).map (λc=>((3:Int),[c])))) (n8++((k7 (λt=>inR t 0 9) c6).take g).map (λc=>((3:Int),[c])))).take r)
  have jt:=List.length_take_le r (fzF (k7 (λt=>inR t 0 9) (n8++((k7 (λt=>inR t 0 9) c6).take g).map (λc=>((3:Int),[c])))) (n8++((k7 (λt=>inR t 0 9) c6).take g).map (λc=>((3:Int),[c]))))
  have jl:=a4I (u:=k7 (λt=>inR t 0 9) (n8++((k7 (λt=>inR t 0 9) c6).take g).map (λc=>((3:Int),[c])))) (d7:=(n8++((k7 (λt=>inR t 0 9) c6).take g).map (λc=>((3:Int),[c]))))
  have jm:(n8++((k7 (λt=>inR t 0 9) c6).take g).map (λc=>((3:Int),[c]))).length≤14:=by simp only[List.length_append,List.length_map,List.length_take];omega
  refine f0 (mS m0) ?_
  rintro rfl laA1_0
  refine Eq_<|Ew Z4<|Em Z<|Em Z<|Yln us_Facts Z<|Ylt Z<|l3 (λq46=>?_)<|λq46=>?_
  ·refine Eu<|Ct<|Eq_<|E.block<|Ew Z6<|Em Z<|Em Z<|b0y m0 om λab51 ae51=>b2m (j:=r) om λce51=>d8<|a8A λoa51_1 om51_1 oc51_1 oe51 oi51_0 on51_1=>?_
   subst oe51
   subst on51_1
   refine f0 m0 λ_ ol51_1=>Ix us_Facts ty_Fact Z ae51 r Z om<|Lf fo_Fact_0 j8 Z (Hs (Has.owt ae51<|mS m0) 0 Z)<|Ylt Z<|l3 (λq54=>?_)<|λq54=>?_
   ·refine Eu<|r9 Z<|Ez Z8<|Em Z<|Em Z<|Em Z<|Ix us_Facts ty_Fact Z ae51 r Z om<|Ey Z (l4 (cs:=[_,_]) ty_Fact Z (Has.owt ae51<|mS m0) Z)<|Est Z (Nb [_] [_,_] us_Facts ty_Fact Z Z)<|λb60 _=>d8<|d8<|n0<|Est Z (w3 (E:=I3) (ex:=(fzF (k7 (λt=>inR t 0 9)<|n8++((k7 (λt=>inR t 0 9) c6).take g).map (λc=>((3:Int),[c])))<|n8++((k7 (λt=>inR t 0 9) c6).take g).map (λc=>((3:Int),[c])))[r]) us_Facts ty_Fact Z Z Z (N3 (x:=(fzF (k7 (λt=>inR t 0 9)<|n8++((k7 (λt=>inR t 0 9) c6).take g).map (λc=>((3:Int),[c])))<|n8++((k7 (λt=>inR t 0 9) c6).take g).map (λc=>((3:Int),[c])))[r]) oi51_0 Own.ow) Z bn bn dc)<|λp61 _=>Ei Z<|En<|o6<|Et<|Ez Z3<|Em Z<|Yad Z om om<|Ei Z<|Eu<|d8<|a6v<|d8<|g9 (congrArg (ow t7 [_]) (show _=((fzF (k7 (λt=>inR t 0 9)<|n8++((k7 (λt=>inR t 0 9) c6).take g).map (λc=>((3:Int),[c])))<|n8++((k7 (λt=>inR t 0 9) c6).take g).map (λc=>((3:Int),[c]))).take (r+1)).filter (λf=>decide (f.1<3)) from by grind[d1,d2,t1,t2]))<|a6w<|a6w<|a6w<|a6w<|a6w<|a6w<|a6w<|a6w<|a6w<|a8y<|a6w ?_
    exact Ea (r+1,p61.1,((((fzF (k7 (λt=>inR t 0 9)<|n8++((k7 (λt=>inR t 0 9) c6).take g).map (λc=>((3:Int),[c])))<|n8++((k7 (λt=>inR t 0 9) c6).take g).map (λc=>((3:Int),[c]))).take r).filter (λf=>decide (f.1<3))).length+1),p61.2) ⟨oz,trivial⟩
   ·refine Eu<|r8 Z<|v6<|o6<|Et<|Ez Z3<|Em Z<|Yad Z om om<|Ei Z<|Eu<|d8<|a6v<|d8<|Ent.drop<|d8<|g9 (congrArg (ow t7 [_]) (show _=((fzF (k7 (λt=>inR t 0 9)<|n8++((k7 (λt=>inR t 0 9) c6).take g).map (λc=>((3:Int),[c])))<|n8++((k7 (λt=>inR t 0 9) c6).take g).map (λc=>((3:Int),[c]))).take (r+1)).filter (λf=>decide (f.1<3)) from by grind[d1,d2,t1,t2]))<|a6w<|a6w<|a6w<|a6w<|a6w<|a6w<|a6w<|a6w<|a6w<|a8y<|a6w ?_
    exact Ea (r+1,aA1_0,_,cA1_0) ⟨oz,trivial⟩
  ·have jX:(n8++((k7 (λt=>inR t 0 9) c6).take g).map (λc=>((3:Int),[c])))=xF n8 c6:=by rw[List.take_of_length_le om];rfl
   refine Eu<|r8 Z<|E.exit<|l2<|l2<|u4<|Et<|Eq_<|D.region (λj=> !(Nat.beq j 4)) mixed<|Dm 0 Z<|Dy 1 Z (l4 (cs:=[_,_]) ty_Binding Z (Has.pt<|mS<|mS m0) Z)<|Dm 2 Z<|Dyp 3 Z (E5 Z)<|B4<|w6 4 Z Z kr (λh=>by cases h) (Ns [_,_] ty_Binding rfl)<|λ_ _=>Dyp 5 Z (E5 Z)<|o4 kr<|Et<|E.ret<|u6<|g9 (congrArg (ow eIs [_]) (show _=fzX [k7 (λt=>inR t 0 9) n8,k7 (λt=>inR t 0 9) c6].flatten n8 by first|(rw[List.take_of_length_le om,jX];exact x_F hpr)|(rw[jX];first|exact x_V|exact x_X|exact x_B|exact x_B.symm)))<|u6<|g9 (congrArg (ow eIs [_]) (show _=fzV [k7 (λt=>inR t 0 9) n8,k7 (λt=>inR t 0 9) c6].flatten n8 by first|(rw[List.take_of_length_le om,jX];exact x_F hpr)|(rw[jX];first|exact x_V|exact x_X|exact x_B|exact x_B.symm)))<|s6<|g9 (congrArg (ow t7 [_]) (show _=fzF [k7 (λt=>inR t 0 9) n8,k7 (λt=>inR t 0 9) c6].flatten n8 by first|(rw[List.take_of_length_le om,jX];exact x_F hpr)|(rw[jX];first|exact x_V|exact x_X|exact x_B|exact x_B.symm)))<|i9<|i9<|i9 ?_
   exact c5Y hB1 Z Z Z Z (mS<|mS<|mS m0) ty_Binding Z ((_,_,_),(_,_,_),(_,_,_)) trivial (by rw[show (fzB [k7 (λt=>inR t 0 9) n8,k7 (λt=>inR t 0 9) c6].flatten n8)=(fzB (k7 (λt=>inR t 0 9)<|n8++((k7 (λt=>inR t 0 9) c6).take g).map (λc=>((3:Int),[c])))<|n8++((k7 (λt=>inR t 0 9) c6).take g).map (λc=>((3:Int),[c]))) from (by first|(rw[List.take_of_length_le om,jX];exact x_F hpr)|(rw[jX];first|exact x_V|exact x_X|exact x_B|exact x_B.symm))];try rfl) (J:=_) (.refl _)<|.inl Z
theorem a9K (hpa:n8.length≤4) (hpt:∀a∈n8,a.2.length≤3) (hph:J5.length≤3) (hqa:c6.length≤4) (hqt:∀a∈c6,a.2.length≤3) (hqh:d9.length≤3) (hzp:D8 (λx=>x.2.length) n8≤1048576) (hzq:D8 (λx=>x.2.length) c6≤1048576):TB Tryz.prog 250 [.agg #[.slice a0A a1Y a0z,.slice Y8 a1s Y7],.agg #[.slice r7 u5 r6,.slice o1 s9 o0]] (λw L=>Ro w L eIs [.slice a0A a1Y a0z] J5∧Ro w L v8 [.slice Y8 a1s Y7] n8∧Ro w L eIs [.slice r7 u5 r6] d9∧Ro w L v8 [.slice o1 s9 o0] c6) (a2i (J5,n8) (d9,c6)):=by
 refine Ti2 Tryz.func250 41 Z λw L hR=>?_
 obtain ⟨P6,M8,s7,o2⟩:=hR
 obtain ⟨rfl,b2k⟩:=P6.slen
 obtain ⟨rfl,b0u⟩:=M8.slen
 obtain ⟨rfl,I8⟩:=s7.slen
 obtain ⟨rfl,G9⟩:=o2.slen
 refine Ew Z3<|Est Z (N.box (cs:=[_,_]) Z dc Z)<|λb2 _=>Est Z (N.box (cs:=[_,_]) Z dc Z)<|λb3 _=>Ei Z<|Eu<|Eq_<|Ew Z7<|Lz fo_Query_0 ty_Is Z (mS m0) Z<|Yln us_Is Z<|Lz fo_Query_0 ty_Is Z m0 Z<|Yln us_Is Z<|Ey Z ((Y.neq Z Z).yd)<|l3 (λq16=>?_)<|λq16=>?_
 ·refine Eu<|r9 Z<|Ew Z1<|Ei Z<|Eu<|E.ret<|a5h<|Fb Z Z (by grind[a2i,d1,d2,t1,t2])
 ·refine Eu<|Cf<|Eq_<|a2X (κ:=Option Addr×Nat×Nat×Option Addr×Nat×Option Addr×Nat) (λ_=>True) (λkM=>[(2,.pointer<|some ⟨b2,0,none⟩),(3,.pointer<|some ⟨b3,0,none⟩),(5,.slice kM.1 (fzF (([k7 (λt=>inR t 0 9) n8,k7 (λt=>inR t 0 9) c6]).flatten) n8).length kM.2.1),(6,.pointer<|some ⟨kM.2.2.1,0,none⟩),(7,.bool<|fzB (([k7 (λt=>inR t 0 9) n8,k7 (λt=>inR t 0 9) c6]).flatten) n8)]) (λkM=>[pt kM.2.2.1 114 [.slice kM.2.2.2.1 (fzV (([k7 (λt=>inR t 0 9) n8,k7 (λt=>inR t 0 9) c6]).flatten) n8).length kM.2.2.2.2.1,.slice kM.2.2.2.2.2.1 (fzX (([k7 (λt=>inR t 0 9) n8,k7 (λt=>inR t 0 9) c6]).flatten) n8).length kM.2.2.2.2.2.2],ow t7 [.slice kM.1 (fzF (([k7 (λt=>inR t 0 9) n8,k7 (λt=>inR t 0 9) c6]).flatten) n8).length kM.2.1]<|fzF (([k7 (λt=>inR t 0 9) n8,k7 (λt=>inR t 0 9) c6]).flatten) n8,ow eIs [.slice kM.2.2.2.1 (fzV (([k7 (λt=>inR t 0 9) n8,k7 (λt=>inR t 0 9) c6]).flatten) n8).length kM.2.2.2.2.1]<|fzV (([k7 (λt=>inR t 0 9) n8,k7 (λt=>inR t 0 9) c6]).flatten) n8,ow eIs [.slice kM.2.2.2.2.2.1 (fzX (([k7 (λt=>inR t 0 9) n8,k7 (λt=>inR t 0 9) c6]).flatten) n8).length kM.2.2.2.2.2.2]<|fzX (([k7 (λt=>inR t 0 9) n8,k7 (λt=>inR t 0 9) c6]).flatten) n8,pt b3 28 [.slice r7 d9.length r6,.slice o1 c6.length o0],pt b2 28 [.slice a0A J5.length a0z,.slice Y8 n8.length Y7]]) ?_<|λkM _=>?_
  ·refine D.region (λj=> !(Nat.beq j 14)) mixed<|Dy 0 Z (l4 (cs:=[_,_]) ty_Query Z (Has.pt<|mS m0) Z)<|Dy 1 Z (l4 (cs:=[_,_]) ty_Query Z (Has.pt<|mS m0) Z)<|Dy 3 Z (l4 (cs:=[_,_]) ty_Query Z (Has.pt m0) Z)<|a1D (i:=2) (j:=12) kr ?_ ?_
   ·refine W3 2 Z Z (λ_=>rfl) (N.call (a0o fo) Z Z Z dc Z<|λw Lp hA=>⟨hA.ro P6,hA.ro M8⟩)<|λk20 _=>?_
    obtain ⟨a20,m20,c20⟩:=k20
    refine f0 m0 ?_
    rintro rfl l20
    refine a1D (i:=4) (j:=12) kr ?_ ?_
    ·refine W3 4 Z Z (λ_=>rfl) (N.call (a0o fo) Z Z Z dc Z<|λw Lp hA=>⟨hA.ro s7,hA.ro o2⟩)<|λk22 _=>?_
     obtain ⟨a22,m22,c22⟩:=k22
     refine f0 m0 ?_
     rintro rfl l22
     refine a1D (i:=5) (j:=12) kr ?_ ?_
     ·refine W3 5 Z Z (λ_=>rfl) (Nb [_,_] [_,_] us_Iss ty_Is Z Z)<|λb23 _=>d8<|i9<|i9<|m8 (a7d (E:=eIs) (e:=tIs) (c1:=[.slice a20 (k7 (λt=>inR t 0 9) n8).length c20]) (c2:=[.slice a22 (k7 (λt=>inR t 0 9) c6).length c22]) Own.ow Own.ow) Z<|a1D (i:=6) (j:=12) kr ?_ ?_
      ·refine W3 6 Z Z (λ_=>rfl) (N.call (U7 (by have h1:=a0l (d7:=n8);have h2:=a0l (d7:=c6);simp[a0v];omega)) Z Z Z dc Z<|λw Lp hA=>hA.ow m0)<|λk24 _=>?_
       obtain ⟨a24,m24,c24⟩:=k24
       refine f0 m0 ?_
       rintro rfl l24
       refine a1D (i:=7) (j:=12) kr ?_ ?_
       ·refine W3 7 Z Z (λ_=>rfl) (N.call (c6W fo<|a5a (p:=n8) (q:=c6)) Z Z Z dc Z<|λw Lp hA=>⟨hA.ro P6,hA.ro M8,hA.ow m0⟩)<|λk25 _=>?_
        obtain ⟨⟨a25_0,m25_0,c25_0⟩,⟨a25_1,m25_1,c25_1⟩,⟨a25_2,m25_2,c25_2⟩⟩:=k25
        refine f0 m0 ?_
        rintro rfl l25_0
        refine f0 (mS m0) ?_
        rintro rfl l25_1
        refine f0 (mS<|mS m0) ?_
        rintro rfl l25_2
        refine Dm 8 Z<|Dyp 9 Z (Y.ext Z Z)<|Dyp 10 Z (Y.ext Z Z)<|Dyp 11 Z (Y.ext Z Z)<|w6 12 Z Z kr (λ_=>rfl) (N.alloc ty_Binding dc)<|λb6 _=>Dyp 13 Z (E5 Z)<|w6 14 Z Z kr (λh=>by cases h) (Ns [_,_] ty_Binding rfl)<|λ_ _=>Dyp 15 Z (E5 Z)<|o4 kr<|s6<|Ent.drop<|s6<|Ent.drop<|u6<|u6<|u6<|u6<|u6<|u6<|P8 (a25_0,c25_0,b6,a25_1,c25_1,a25_2,c25_2) trivial ⟨Z,Z,Z,Z,Z,trivial⟩<|.refl _
       ·refine W3 12 Z Z (λ_=>rfl) (N.alloc ty_Binding dc)<|λb6 _=>w6 7 Z Z kr (λ_=>rfl) (N.call (c6W fo<|a5a (p:=n8) (q:=c6)) Z Z Z dc Z<|λw Lp hA=>⟨hA.ro P6,hA.ro M8,hA.ow<|mS m0⟩)<|λk25 _=>?_
        obtain ⟨⟨a25_0,m25_0,c25_0⟩,⟨a25_1,m25_1,c25_1⟩,⟨a25_2,m25_2,c25_2⟩⟩:=k25
        refine f0 m0 ?_
        rintro rfl l25_0
        refine f0 (mS m0) ?_
        rintro rfl l25_1
        refine f0 (mS<|mS m0) ?_
        rintro rfl l25_2
        refine Dm 8 Z<|Dyp 9 Z (Y.ext Z Z)<|Dyp 10 Z (Y.ext Z Z)<|Dyp 11 Z (Y.ext Z Z)<|Dyp 13 Z (E5 Z)<|n0<|w6 14 Z Z kr (λh=>by cases h) (Ns [_,_] ty_Binding rfl)<|λ_ _=>Dyp 15 Z (E5 Z)<|o4 kr<|s6<|Ent.drop<|s6<|Ent.drop<|u6<|u6<|u6<|u6<|u6<|u6<|P8 (a25_0,c25_0,b6,a25_1,c25_1,a25_2,c25_2) trivial ⟨Z,Z,Z,Z,Z,trivial⟩<|.refl _
      ·refine W3 12 Z Z (λ_=>rfl) (N.alloc ty_Binding dc)<|λb6 _=>Dl 6 Z (U7 (by have h1:=a0l (d7:=n8);have h2:=a0l (d7:=c6);simp[a0v];omega)) Z (λhA=>hA.ow<|mS m0)<|λa24 c24 l24=>w6 7 Z Z kr (λ_=>rfl) (N.call (c6W fo<|a5a (p:=n8) (q:=c6)) Z Z Z dc Z<|λw Lp hA=>⟨hA.ro P6,hA.ro M8,hA.ow m0⟩)<|λk25 _=>?_
       obtain ⟨⟨a25_0,m25_0,c25_0⟩,⟨a25_1,m25_1,c25_1⟩,⟨a25_2,m25_2,c25_2⟩⟩:=k25
       refine f0 m0 ?_
       rintro rfl l25_0
       refine f0 (mS m0) ?_
       rintro rfl l25_1
       refine f0 (mS<|mS m0) ?_
       rintro rfl l25_2
       refine Dm 8 Z<|Dyp 9 Z (Y.ext Z Z)<|Dyp 10 Z (Y.ext Z Z)<|Dyp 11 Z (Y.ext Z Z)<|Dyp 13 Z (E5 Z)<|s6<|w6 14 Z Z kr (λh=>by cases h) (Ns [_,_] ty_Binding rfl)<|λ_ _=>Dyp 15 Z (E5 Z)<|o4 kr<|s6<|Ent.drop<|s6<|Ent.drop<|u6<|u6<|u6<|u6<|u6<|u6<|P8 (a25_0,c25_0,b6,a25_1,c25_1,a25_2,c25_2) trivial ⟨Z,Z,Z,Z,Z,trivial⟩<|.refl _
     ·refine W3 12 Z Z (λ_=>rfl) (N.alloc ty_Binding dc)<|λb6 _=>w6 5 Z Z kr (λ_=>rfl) (Nb [_,_] [_,_] us_Iss ty_Is Z Z)<|λb23 _=>i9<|n0<|i9<|m8 (a7d (E:=eIs) (e:=tIs) (c1:=[.slice a20 (k7 (λt=>inR t 0 9) n8).length c20]) (c2:=[.slice a22 (k7 (λt=>inR t 0 9) c6).length c22]) Own.ow Own.ow) Z<|Dl 6 Z (U7 (by have h1:=a0l (d7:=n8);have h2:=a0l (d7:=c6);simp[a0v];omega)) Z (λhA=>hA.ow m0)<|λa24 c24 l24=>w6 7 Z Z kr (λ_=>rfl) (N.call (c6W fo<|a5a (p:=n8) (q:=c6)) Z Z Z dc Z<|λw Lp hA=>⟨hA.ro P6,hA.ro M8,hA.ow m0⟩)<|λk25 _=>?_
      obtain ⟨⟨a25_0,m25_0,c25_0⟩,⟨a25_1,m25_1,c25_1⟩,⟨a25_2,m25_2,c25_2⟩⟩:=k25
      refine f0 m0 ?_
      rintro rfl l25_0
      refine f0 (mS m0) ?_
      rintro rfl l25_1
      refine f0 (mS<|mS m0) ?_
      rintro rfl l25_2
      refine Dm 8 Z<|Dyp 9 Z (Y.ext Z Z)<|Dyp 10 Z (Y.ext Z Z)<|Dyp 11 Z (Y.ext Z Z)<|Dyp 13 Z (E5 Z)<|u6<|w6 14 Z Z kr (λh=>by cases h) (Ns [_,_] ty_Binding rfl)<|λ_ _=>Dyp 15 Z (E5 Z)<|o4 kr<|s6<|Ent.drop<|s6<|Ent.drop<|u6<|u6<|u6<|u6<|u6<|u6<|P8 (a25_0,c25_0,b6,a25_1,c25_1,a25_2,c25_2) trivial ⟨Z,Z,Z,Z,Z,trivial⟩<|.refl _
    ·refine W3 12 Z Z (λ_=>rfl) (N.alloc ty_Binding dc)<|λb6 _=>Dl 4 Z (a0o fo) Z (λhA=>⟨hA.ro s7,hA.ro o2⟩)<|λa22 c22 l22=>?_
     refine w6 5 Z Z kr (λ_=>rfl) (Nb [_,_] [_,_] us_Iss ty_Is Z Z)<|λb23 _=>d8<|n0<|i9<|m8 (a7d (E:=eIs) (e:=tIs) (c1:=[.slice a20 (k7 (λt=>inR t 0 9) n8).length c20]) (c2:=[.slice a22 (k7 (λt=>inR t 0 9) c6).length c22]) Own.ow Own.ow) Z<|Dl 6 Z (U7 (by have h1:=a0l (d7:=n8);have h2:=a0l (d7:=c6);simp[a0v];omega)) Z (λhA=>hA.ow m0)<|λa24 c24 l24=>w6 7 Z Z kr (λ_=>rfl) (N.call (c6W fo<|a5a (p:=n8) (q:=c6)) Z Z Z dc Z<|λw Lp hA=>⟨hA.ro P6,hA.ro M8,hA.ow m0⟩)<|λk25 _=>?_
     obtain ⟨⟨a25_0,m25_0,c25_0⟩,⟨a25_1,m25_1,c25_1⟩,⟨a25_2,m25_2,c25_2⟩⟩:=k25
     refine f0 m0 ?_
     rintro rfl l25_0
     refine f0 (mS m0) ?_
     rintro rfl l25_1
     refine f0 (mS<|mS m0) ?_
     rintro rfl l25_2
     refine Dm 8 Z<|Dyp 9 Z (Y.ext Z Z)<|Dyp 10 Z (Y.ext Z Z)<|Dyp 11 Z (Y.ext Z Z)<|Dyp 13 Z (E5 Z)<|u6<|w6 14 Z Z kr (λh=>by cases h) (Ns [_,_] ty_Binding rfl)<|λ_ _=>Dyp 15 Z (E5 Z)<|o4 kr<|s6<|Ent.drop<|s6<|Ent.drop<|u6<|u6<|u6<|u6<|u6<|u6<|P8 (a25_0,c25_0,b6,a25_1,c25_1,a25_2,c25_2) trivial ⟨Z,Z,Z,Z,Z,trivial⟩<|.refl _
   ·refine W3 12 Z Z (λ_=>rfl) (N.alloc ty_Binding dc)<|λb6 _=>Dl 2 Z (a0o fo) Z (λhA=>⟨hA.ro P6,hA.ro M8⟩)<|λa20 c20 l20=>Dl 4 Z (a0o fo) Z (λhA=>⟨hA.ro s7,hA.ro o2⟩)<|λa22 c22 l22=>?_
    refine w6 5 Z Z kr (λ_=>rfl) (Nb [_,_] [_,_] us_Iss ty_Is Z Z)<|λb23 _=>d8<|i9<|i9<|m8 (a7d (E:=eIs) (e:=tIs) (c1:=[.slice a20 (k7 (λt=>inR t 0 9) n8).length c20]) (c2:=[.slice a22 (k7 (λt=>inR t 0 9) c6).length c22]) Own.ow Own.ow) Z<|Dl 6 Z (U7 (by have h1:=a0l (d7:=n8);have h2:=a0l (d7:=c6);simp[a0v];omega)) Z (λhA=>hA.ow m0)<|λa24 c24 l24=>w6 7 Z Z kr (λ_=>rfl) (N.call (c6W fo<|a5a (p:=n8) (q:=c6)) Z Z Z dc Z<|λw Lp hA=>⟨hA.ro P6,hA.ro M8,hA.ow m0⟩)<|λk25 _=>?_
    obtain ⟨⟨a25_0,m25_0,c25_0⟩,⟨a25_1,m25_1,c25_1⟩,⟨a25_2,m25_2,c25_2⟩⟩:=k25
    refine f0 m0 ?_
    rintro rfl l25_0
    refine f0 (mS m0) ?_
    rintro rfl l25_1
    refine f0 (mS<|mS m0) ?_
    rintro rfl l25_2
    refine Dm 8 Z<|Dyp 9 Z (Y.ext Z Z)<|Dyp 10 Z (Y.ext Z Z)<|Dyp 11 Z (Y.ext Z Z)<|Dyp 13 Z (E5 Z)<|u6<|w6 14 Z Z kr (λh=>by cases h) (Ns [_,_] ty_Binding rfl)<|λ_ _=>Dyp 15 Z (E5 Z)<|o4 kr<|s6<|Ent.drop<|s6<|Ent.drop<|u6<|u6<|u6<|u6<|u6<|u6<|P8 (a25_0,c25_0,b6,a25_1,c25_1,a25_2,c25_2) trivial ⟨Z,Z,Z,Z,Z,trivial⟩<|.refl _
  ·obtain ⟨a25_0,c25_0,b6,a25_1,c25_1,a25_2,c25_2⟩:=kM
   try dsimp only
   refine Et<|Eq_<|Ew Z2<|Em Z<|Ent.b (λq29=>?_)<|λq29=>?_
   ·refine Yno true Z<|Eu<|Cf<|Eq_<|a2X (κ:=Nat×Option Addr×Nat×Option Addr×Nat) (λ_=>True) (λkM=>[(9,.bool<|(B1 c6<|fzF (([k7 (λt=>inR t 0 9) n8,k7 (λt=>inR t 0 9) c6]).flatten) n8).any (a0Z d9<|J5.map<|y9 ((fzV (([k7 (λt=>inR t 0 9) n8,k7 (λt=>inR t 0 9) c6]).flatten) n8),(fzX (([k7 (λt=>inR t 0 9) n8,k7 (λt=>inR t 0 9) c6]).flatten) n8))))]) (λkM=>[pt kM.1 114 [.slice kM.2.1 ((V4 (B1 c6<|fzF (([k7 (λt=>inR t 0 9) n8,k7 (λt=>inR t 0 9) c6]).flatten) n8) d9<|J5.map<|y9 ((fzV (([k7 (λt=>inR t 0 9) n8,k7 (λt=>inR t 0 9) c6]).flatten) n8),(fzX (([k7 (λt=>inR t 0 9) n8,k7 (λt=>inR t 0 9) c6]).flatten) n8))).1).length kM.2.2.1,.slice kM.2.2.2.1 ((V4 (B1 c6<|fzF (([k7 (λt=>inR t 0 9) n8,k7 (λt=>inR t 0 9) c6]).flatten) n8) d9<|J5.map<|y9 ((fzV (([k7 (λt=>inR t 0 9) n8,k7 (λt=>inR t 0 9) c6]).flatten) n8),(fzX (([k7 (λt=>inR t 0 9) n8,k7 (λt=>inR t 0 9) c6]).flatten) n8))).2).length kM.2.2.2.2],ow eIs [.slice kM.2.1 ((V4 (B1 c6<|fzF (([k7 (λt=>inR t 0 9) n8,k7 (λt=>inR t 0 9) c6]).flatten) n8) d9<|J5.map<|y9 ((fzV (([k7 (λt=>inR t 0 9) n8,k7 (λt=>inR t 0 9) c6]).flatten) n8),(fzX (([k7 (λt=>inR t 0 9) n8,k7 (λt=>inR t 0 9) c6]).flatten) n8))).1).length kM.2.2.1]<|(V4 (B1 c6<|fzF (([k7 (λt=>inR t 0 9) n8,k7 (λt=>inR t 0 9) c6]).flatten) n8) d9<|J5.map<|y9 ((fzV (([k7 (λt=>inR t 0 9) n8,k7 (λt=>inR t 0 9) c6]).flatten) n8),(fzX (([k7 (λt=>inR t 0 9) n8,k7 (λt=>inR t 0 9) c6]).flatten) n8))).1,ow eIs [.slice kM.2.2.2.1 ((V4 (B1 c6<|fzF (([k7 (λt=>inR t 0 9) n8,k7 (λt=>inR t 0 9) c6]).flatten) n8) d9<|J5.map<|y9 ((fzV (([k7 (λt=>inR t 0 9) n8,k7 (λt=>inR t 0 9) c6]).flatten) n8),(fzX (([k7 (λt=>inR t 0 9) n8,k7 (λt=>inR t 0 9) c6]).flatten) n8))).2).length kM.2.2.2.2]<|(V4 (B1 c6<|fzF (([k7 (λt=>inR t 0 9) n8,k7 (λt=>inR t 0 9) c6]).flatten) n8) d9<|J5.map<|y9 ((fzV (([k7 (λt=>inR t 0 9) n8,k7 (λt=>inR t 0 9) c6]).flatten) n8),(fzX (([k7 (λt=>inR t 0 9) n8,k7 (λt=>inR t 0 9) c6]).flatten) n8))).2,pt b6 114 [.slice a25_1 (fzV (([k7 (λt=>inR t 0 9) n8,k7 (λt=>inR t 0 9) c6]).flatten) n8).length c25_1,.slice a25_2 (fzX (([k7 (λt=>inR t 0 9) n8,k7 (λt=>inR t 0 9) c6]).flatten) n8).length c25_2],ow t7 [.slice a25_0 (fzF (([k7 (λt=>inR t 0 9) n8,k7 (λt=>inR t 0 9) c6]).flatten) n8).length c25_0]<|fzF (([k7 (λt=>inR t 0 9) n8,k7 (λt=>inR t 0 9) c6]).flatten) n8,ow eIs [.slice a25_1 (fzV (([k7 (λt=>inR t 0 9) n8,k7 (λt=>inR t 0 9) c6]).flatten) n8).length c25_1]<|fzV (([k7 (λt=>inR t 0 9) n8,k7 (λt=>inR t 0 9) c6]).flatten) n8,ow eIs [.slice a25_2 (fzX (([k7 (λt=>inR t 0 9) n8,k7 (λt=>inR t 0 9) c6]).flatten) n8).length c25_2]<|fzX (([k7 (λt=>inR t 0 9) n8,k7 (λt=>inR t 0 9) c6]).flatten) n8,pt b3 28 [.slice r7 d9.length r6,.slice o1 c6.length o0],pt b2 28 [.slice a0A J5.length a0z,.slice Y8 n8.length Y7]]) ?_<|λkM _=>?_
    ·refine D.region (λj=> !(Nat.beq j 10)) mixed<|Dy 0 Z (l4 (cs:=[_,_]) ty_Query Z (Has.pt<|mS<|mS<|mS<|mS m0) Z)<|Dm 1 Z<|Dy 2 Z (l4 (cs:=[_,_]) ty_Query Z (Has.pt<|mS<|mS<|mS<|mS<|mS m0) Z)<|Dy 3 Z (l4 (cs:=[_,_]) ty_Binding Z (Has.pt m0) Z)<|a1D (i:=4) (j:=9) kr ?_ ?_
     ·refine W3 4 Z Z (λ_=>rfl) (N.call (a2L fo) Z Z Z dc Z<|λw Lp hA=>⟨hA.ro P6,hA.ro M8,hA.ow<|mS<|mS m0,hA.ow<|mS<|mS<|mS m0⟩)<|λk36 _=>?_
      obtain ⟨a36,m36,c36⟩:=k36
      refine f0 m0 ?_
      rintro rfl l36
      refine a1D (i:=5) (j:=9) kr ?_ ?_
      ·refine W3 5 Z Z (λ_=>rfl) (N.call (a2A fo fo (λa _=>a5r<|Nat.le_trans a4I om) fo) Z Z Z dc Z<|λw Lp hA=>⟨hA.ro s7,hA.ro o2,hA.ow<|mS<|mS m0,hA.ow m0⟩)<|λk37 _=>?_
       obtain ⟨⟨a37_0,m37_0,c37_0⟩,⟨a37_1,m37_1,c37_1⟩⟩:=k37
       refine f0 m0 ?_
       rintro rfl l37_0
       refine f0 (mS m0) ?_
       rintro rfl l37_1
       refine Dm 6 Z<|Dyp 7 Z (Y.ext Z Z)<|Dyp 8 Z (Y.ext Z Z)<|w6 9 Z Z kr (λ_=>rfl) (N.alloc ty_Binding dc)<|λb8 _=>w6 10 Z Z kr (λh=>by cases h) (Ns [_,_] ty_Binding rfl)<|λ_ _=>Dyp 11 Z (E5 Z)<|o4 kr<|n0<|Ent.drop<|B4<|B4<|B4<|B4<|B4<|B4<|B4<|B4<|B4<|P8 (b8,a37_0,c37_0,a37_1,c37_1) trivial ⟨Z,trivial⟩<|.refl _
      ·refine W3 9 Z Z (λ_=>rfl) (N.alloc ty_Binding dc)<|λb8 _=>w6 5 Z Z kr (λ_=>rfl) (N.call (a2A fo fo (λa _=>a5r<|Nat.le_trans a4I om) fo) Z Z Z dc Z<|λw Lp hA=>⟨hA.ro s7,hA.ro o2,hA.ow<|mS<|mS<|mS m0,hA.ow<|mS m0⟩)<|λk37 _=>?_
       obtain ⟨⟨a37_0,m37_0,c37_0⟩,⟨a37_1,m37_1,c37_1⟩⟩:=k37
       refine f0 m0 ?_
       rintro rfl l37_0
       refine f0 (mS m0) ?_
       rintro rfl l37_1
       refine Dm 6 Z<|Dyp 7 Z (Y.ext Z Z)<|Dyp 8 Z (Y.ext Z Z)<|i9<|w6 10 Z Z kr (λh=>by cases h) (Ns [_,_] ty_Binding rfl)<|λ_ _=>Dyp 11 Z (E5 Z)<|o4 kr<|n0<|Ent.drop<|B4<|B4<|B4<|B4<|B4<|B4<|B4<|B4<|B4<|P8 (b8,a37_0,c37_0,a37_1,c37_1) trivial ⟨Z,trivial⟩<|.refl _
     ·refine W3 9 Z Z (λ_=>rfl) (N.alloc ty_Binding dc)<|λb8 _=>Dl 4 Z (a2L fo) Z (λhA=>⟨hA.ro P6,hA.ro M8,hA.ow<|mS<|mS<|mS m0,hA.ow<|mS<|mS<|mS<|mS m0⟩)<|λa36 c36 l36=>w6 5 Z Z kr (λ_=>rfl) (N.call (a2A fo fo (λa _=>a5r<|Nat.le_trans a4I om) fo) Z Z Z dc Z<|λw Lp hA=>⟨hA.ro s7,hA.ro o2,hA.ow<|mS<|mS<|mS m0,hA.ow m0⟩)<|λk37 _=>?_
      obtain ⟨⟨a37_0,m37_0,c37_0⟩,⟨a37_1,m37_1,c37_1⟩⟩:=k37
      refine f0 m0 ?_
      rintro rfl l37_0
      refine f0 (mS m0) ?_
      rintro rfl l37_1
      refine Dm 6 Z<|Dyp 7 Z (Y.ext Z Z)<|Dyp 8 Z (Y.ext Z Z)<|n0<|w6 10 Z Z kr (λh=>by cases h) (Ns [_,_] ty_Binding rfl)<|λ_ _=>Dyp 11 Z (E5 Z)<|o4 kr<|n0<|Ent.drop<|B4<|B4<|B4<|B4<|B4<|B4<|B4<|B4<|B4<|P8 (b8,a37_0,c37_0,a37_1,c37_1) trivial ⟨Z,trivial⟩<|.refl _
    ·obtain ⟨b8,a37_0,c37_0,a37_1,c37_1⟩:=kM
     try dsimp only
     refine Et<|Ew Z2<|Em Z<|Ei Z<|Eu<|E.ret<|Fb Z Z (by grind[a2i,d1,d2,t1,t2])
   ·refine Yno false Z<|Eu<|r9 Z<|Ew Z1<|Ei Z<|Eu<|E.ret<|a5h<|Fb Z Z (by grind[a2i,d1,d2,t1,t2])
theorem a7J (hzp:D8 (λx=>x.2.length) n8≤1048576) (hzq:D8 (λx=>x.2.length) c6≤1048576):TB Tryz.prog 148 [.slice a_s m_s c_s,.agg #[.slice a0A a1Y a0z,.slice Y8 a1s Y7],.agg #[.slice r7 u5 r6,.slice o1 s9 o0]] (λw L=>Ro w L eIs [.slice a_s m_s c_s] s∧Ro w L eIs [.slice a0A a1Y a0z] J5∧Ro w L v8 [.slice Y8 a1s Y7] n8∧Ro w L eIs [.slice r7 u5 r6] d9∧Ro w L v8 [.slice o1 s9 o0] c6) (a1F s (J5,n8) (d9,c6)):=by
 refine Ti3 Tryz.func148 20 Z λw L hR=>?_
 obtain ⟨hs,P6,M8,s7,o2⟩:=hR
 obtain ⟨rfl,ls⟩:=hs.slen
 obtain ⟨rfl,b2k⟩:=P6.slen
 obtain ⟨rfl,b0u⟩:=M8.slen
 obtain ⟨rfl,I8⟩:=s7.slen
 obtain ⟨rfl,G9⟩:=o2.slen
 refine Ew Z3<|Est Z (N.box (cs:=[_,_]) Z dc Z)<|λb4 _=>Est Z (N.box (cs:=[_,_]) Z dc Z)<|λb5 _=>Ei Z<|Ev Z14<|Em Z<|Ey Z (l4 (cs:=[_,_]) ty_Query Z (Has.pt<|mS m0) Z)<|E0 Z (a2G fo) Z (λhA=>⟨hA.ro hs,hA.ro P6,hA.ro M8⟩)<|Ent.b (λq9=>?_)<|λq9=>?_
 ·refine Em Z<|Em Z<|Ey Z (l4 (cs:=[_,_]) ty_Query Z (Has.pt m0) Z)<|E0 Z (a2G fo) Z (λhA=>⟨hA.ro hs,hA.ro s7,hA.ro o2⟩)<|Ent.b (λq13=>?_)<|λq13=>?_
  ·refine Ypt Z<|Em Z<|Ey Z (l4 (cs:=[_,_]) ty_Query Z (Has.pt<|mS m0) Z)<|Ey Z (l4 (cs:=[_,_]) ty_Query Z (Has.pt m0) Z)<|E0 Z (a9K ((D1 (s:=s) (q:=(J5,n8)) (by assumption)).1) ((D1 (s:=s) (q:=(J5,n8)) (by assumption)).2.2) (Nat.le_trans (D1 (s:=s) (q:=(J5,n8)) (by assumption)).2.1 dc) ((D1 (s:=s) (q:=(d9,c6)) (by assumption)).1) ((D1 (s:=s) (q:=(d9,c6)) (by assumption)).2.2) (Nat.le_trans (D1 (s:=s) (q:=(d9,c6)) (by assumption)).2.1 dc) fo fo) Z (λhA=>⟨hA.ro P6,hA.ro M8,hA.ro s7,hA.ro o2⟩)<|Ypt Z<|Ei Z<|Eu<|E.ret<|Fb Z Z (by grind[a1F,a2i,d1,d2,t1,t2])
  ·refine Ypt Z<|Em Z<|Es Z<|Es Z<|Es Z<|Ypf Z<|Ei Z<|Eu<|E.ret<|Fb Z Z (by grind[a1F,a2i,d1,d2,t1,t2])
 ·refine Em Z<|Es Z<|Es Z<|Es Z<|Ypf Z<|Em Z<|Es Z<|Es Z<|Es Z<|Ypf Z<|Ei Z<|Eu<|E.ret<|Fb Z Z (by grind[a1F,a2i,d1,d2,t1,t2])
theorem a8q (hzp:D8 (λx=>x.2.length) n8≤1048576) (hzq:D8 (λx=>x.2.length) c6≤1048576):TB Tryz.prog 149 [.slice a_s m_s c_s,.agg #[.slice a0A a1Y a0z,.slice Y8 a1s Y7],.agg #[.slice r7 u5 r6,.slice o1 s9 o0]] (λw L=>Ro w L eIs [.slice a_s m_s c_s] s∧Ro w L eIs [.slice a0A a1Y a0z] J5∧Ro w L v8 [.slice Y8 a1s Y7] n8∧Ro w L eIs [.slice r7 u5 r6] d9∧Ro w L v8 [.slice o1 s9 o0] c6) (a1F s (J5,n8) (d9,c6)):=by
 refine Ti3 Tryz.func149 50 Z λw L hR=>?_
 obtain ⟨hs,P6,M8,s7,o2⟩:=hR
 obtain ⟨rfl,ls⟩:=hs.slen
 obtain ⟨rfl,b2k⟩:=P6.slen
 obtain ⟨rfl,b0u⟩:=M8.slen
 obtain ⟨rfl,I8⟩:=s7.slen
 obtain ⟨rfl,G9⟩:=o2.slen
 refine Ew Z3<|Est Z (N.box (cs:=[_,_]) Z dc Z)<|λb4 _=>Est Z (N.box (cs:=[_,_]) Z dc Z)<|λb5 _=>Ei Z<|Eu<|Eq_<|Ew Z19<|Em Z<|Ey Z (l4 (cs:=[_,_]) ty_Query Z (Has.pt<|mS m0) Z)<|E0 Z (a0J fo) Z (λhA=>⟨hA.ro hs,hA.ro P6,hA.ro M8⟩)<|Ent.b (λq14=>?_)<|λq14=>?_
 ·refine Yno true Z<|Em Z<|Em Z<|Ey Z (l4 (cs:=[_,_]) ty_Query Z (Has.pt m0) Z)<|E0 Z (a0J fo) Z (λhA=>⟨hA.ro hs,hA.ro s7,hA.ro o2⟩)<|Ent.b (λq19=>?_)<|λq19=>?_
  ·refine Yno true Z<|Ypf Z<|Em Z<|Lz fo_Query_0 ty_Is Z (mS m0) Z<|Yln us_Is Z<|Lz fo_Query_0 ty_Is Z m0 Z<|Yln us_Is Z<|Ey Z ((Y.neq Z Z).yd)<|l3 (λq29=>?_)<|λq29=>?_
   ·refine Ypf Z<|Eu<|r9 Z<|Ew Z1<|Ei Z<|Eu<|E.ret<|a5h<|Fb Z Z (by grind[a1F,a2i,d1,d2,t1,t2])
   ·refine Ypf Z<|Eu<|Cf<|Ew Z11<|Ey Z (l4 (cs:=[_,_]) ty_Query Z (Has.pt<|mS m0) Z)<|Ey Z (l4 (cs:=[_,_]) ty_Query Z (Has.pt m0) Z)<|Est Z (N.call (c7i ((D1 (s:=s) (q:=(J5,n8)) (by assumption)).1) ((D1 (s:=s) (q:=(J5,n8)) (by assumption)).2.2) (Nat.le_trans (D1 (s:=s) (q:=(J5,n8)) (by assumption)).2.1 dc) (b5L (s:=s) (q:=(J5,n8)) (by assumption)) fo) Z Z Z dc Z<|λw Lp hA=>⟨hA.ro P6,hA.ro M8,hA.ro s7,hA.ro o2⟩)<|λk34 _=>?_
    obtain ⟨⟨a34_0,m34_0,c34_0⟩,⟨a34_1,m34_1,c34_1⟩,⟨a34_2,m34_2,c34_2⟩⟩:=k34
    refine f0 m0 ?_
    rintro rfl l34_0
    refine f0 (mS m0) ?_
    rintro rfl l34_1
    refine f0 (mS<|mS m0) ?_
    rintro rfl l34_2
    refine Em Z<|Ey Z ((Y.ext Z Z).yd)<|Ey Z ((Y.ext Z Z).yd)<|Ey Z ((Y.ext Z Z).yd)<|Est Z (N.alloc ty_Binding dc)<|λb8 _=>Ei Z<|Est Z (Ns [_,_] ty_Binding Z)<|λ_ _=>Ei Z<|Ent.b (λq9=>?_)<|λq9=>?_
    ·refine Eu<|Eq_<|Ew Z2<|Em Z<|Yno true Z<|Eu<|Cf<|Eq_<|a2X (κ:=Nat×Option Addr×Nat×Option Addr×Nat) (λ_=>True) (λkM=>[(11,.bool<|(B1 c6<|fzF [k7 (λt=>inR t 0 9) n8,k7 (λt=>inR t 0 9) c6].flatten n8).any (a0Z d9<|J5.map<|y9 ((fzV [k7 (λt=>inR t 0 9) n8,k7 (λt=>inR t 0 9) c6].flatten n8),(fzX [k7 (λt=>inR t 0 9) n8,k7 (λt=>inR t 0 9) c6].flatten n8))))]) (λkM=>[pt kM.1 114 [.slice kM.2.1 ((V4 (B1 c6<|fzF [k7 (λt=>inR t 0 9) n8,k7 (λt=>inR t 0 9) c6].flatten n8) d9<|J5.map<|y9 ((fzV [k7 (λt=>inR t 0 9) n8,k7 (λt=>inR t 0 9) c6].flatten n8),(fzX [k7 (λt=>inR t 0 9) n8,k7 (λt=>inR t 0 9) c6].flatten n8))).1).length kM.2.2.1,.slice kM.2.2.2.1 ((V4 (B1 c6<|fzF [k7 (λt=>inR t 0 9) n8,k7 (λt=>inR t 0 9) c6].flatten n8) d9<|J5.map<|y9 ((fzV [k7 (λt=>inR t 0 9) n8,k7 (λt=>inR t 0 9) c6].flatten n8),(fzX [k7 (λt=>inR t 0 9) n8,k7 (λt=>inR t 0 9) c6].flatten n8))).2).length kM.2.2.2.2],ow eIs [.slice kM.2.1 ((V4 (B1 c6<|fzF [k7 (λt=>inR t 0 9) n8,k7 (λt=>inR t 0 9) c6].flatten n8) d9<|J5.map<|y9 ((fzV [k7 (λt=>inR t 0 9) n8,k7 (λt=>inR t 0 9) c6].flatten n8),(fzX [k7 (λt=>inR t 0 9) n8,k7 (λt=>inR t 0 9) c6].flatten n8))).1).length kM.2.2.1]<|(V4 (B1 c6<|fzF [k7 (λt=>inR t 0 9) n8,k7 (λt=>inR t 0 9) c6].flatten n8) d9<|J5.map<|y9 ((fzV [k7 (λt=>inR t 0 9) n8,k7 (λt=>inR t 0 9) c6].flatten n8),(fzX [k7 (λt=>inR t 0 9) n8,k7 (λt=>inR t 0 9) c6].flatten n8))).1,ow eIs [.slice kM.2.2.2.1 ((V4 (B1 c6<|fzF [k7 (λt=>inR t 0 9) n8,k7 (λt=>inR t 0 9) c6].flatten n8) d9<|J5.map<|y9 ((fzV [k7 (λt=>inR t 0 9) n8,k7 (λt=>inR t 0 9) c6].flatten n8),(fzX [k7 (λt=>inR t 0 9) n8,k7 (λt=>inR t 0 9) c6].flatten n8))).2).length kM.2.2.2.2]<|(V4 (B1 c6<|fzF [k7 (λt=>inR t 0 9) n8,k7 (λt=>inR t 0 9) c6].flatten n8) d9<|J5.map<|y9 ((fzV [k7 (λt=>inR t 0 9) n8,k7 (λt=>inR t 0 9) c6].flatten n8),(fzX [k7 (λt=>inR t 0 9) n8,k7 (λt=>inR t 0 9) c6].flatten n8))).2,pt b8 114 [.slice a34_1 (fzV [k7 (λt=>inR t 0 9) n8,k7 (λt=>inR t 0 9) c6].flatten n8).length c34_1,.slice a34_2 (fzX [k7 (λt=>inR t 0 9) n8,k7 (λt=>inR t 0 9) c6].flatten n8).length c34_2],ow t7 [.slice a34_0 (fzF [k7 (λt=>inR t 0 9) n8,k7 (λt=>inR t 0 9) c6].flatten n8).length c34_0]<|fzF [k7 (λt=>inR t 0 9) n8,k7 (λt=>inR t 0 9) c6].flatten n8,ow eIs [.slice a34_1 (fzV [k7 (λt=>inR t 0 9) n8,k7 (λt=>inR t 0 9) c6].flatten n8).length c34_1]<|fzV [k7 (λt=>inR t 0 9) n8,k7 (λt=>inR t 0 9) c6].flatten n8,ow eIs [.slice a34_2 (fzX [k7 (λt=>inR t 0 9) n8,k7 (λt=>inR t 0 9) c6].flatten n8).length c34_2]<|fzX [k7 (λt=>inR t 0 9) n8,k7 (λt=>inR t 0 9) c6].flatten n8,pt b5 28 [.slice r7 d9.length r6,.slice o1 c6.length o0],pt b4 28 [.slice a0A J5.length a0z,.slice Y8 n8.length Y7]]) ?_<|λkM _=>?_
     ·refine D.region (λj=> !(Nat.beq j 10)) mixed<|Dy 0 Z (l4 (cs:=[_,_]) ty_Query Z (Has.pt<|mS<|mS<|mS<|mS m0) Z)<|Dm 1 Z<|Dy 2 Z (l4 (cs:=[_,_]) ty_Query Z (Has.pt<|mS<|mS<|mS<|mS<|mS m0) Z)<|Dy 3 Z (l4 (cs:=[_,_]) ty_Binding Z (Has.pt m0) Z)<|a1D (i:=4) (j:=9) kr ?_ ?_
      ·refine W3 4 Z Z (λ_=>rfl) (N.call (a6p<|Nat.le_trans (D1 (s:=s) (q:=(J5,n8)) (by assumption)).2.1 dc) Z Z Z dc Z<|λw Lp hA=>⟨hA.ro P6,hA.ro M8,hA.ow<|mS<|mS m0,hA.ow<|mS<|mS<|mS m0⟩)<|λk45 _=>?_
       obtain ⟨a45,m45,c45⟩:=k45
       refine f0 m0 ?_
       rintro rfl l45
       refine a1D (i:=5) (j:=9) kr ?_ ?_
       ·refine W3 5 Z Z (λ_=>rfl) (N.call (c6X ((D1 (s:=s) (q:=(d9,c6)) (by assumption)).1) ((D1 (s:=s) (q:=(d9,c6)) (by assumption)).2.2) (λa _=>a5r<|Nat.le_trans a4I<|Nat.le_trans (D1 (s:=s) (q:=(J5,n8)) (by assumption)).1 dc)<|Nat.le_trans (D1 (s:=s) (q:=(d9,c6)) (by assumption)).2.1 dc) Z Z Z dc Z<|λw Lp hA=>⟨hA.ro s7,hA.ro o2,hA.ow<|mS<|mS m0,hA.ow m0⟩)<|λk46 _=>?_
        obtain ⟨⟨a46_0,m46_0,c46_0⟩,⟨a46_1,m46_1,c46_1⟩⟩:=k46
        refine f0 m0 ?_
        rintro rfl l46_0
        refine f0 (mS m0) ?_
        rintro rfl l46_1
        refine Dm 6 Z<|Dyp 7 Z (Y.ext Z Z)<|Dyp 8 Z (Y.ext Z Z)<|w6 9 Z Z kr (λ_=>rfl) (N.alloc ty_Binding dc)<|λb10 _=>w6 10 Z Z kr (λh=>by cases h) (Ns [_,_] ty_Binding rfl)<|λ_ _=>Dyp 11 Z (E5 Z)<|o4 kr<|n0<|Ent.drop<|B4<|B4<|B4<|B4<|B4<|B4<|B4<|B4<|B4<|P8 (b10,a46_0,c46_0,a46_1,c46_1) trivial ⟨Z,trivial⟩<|.refl _
       ·refine W3 9 Z Z (λ_=>rfl) (N.alloc ty_Binding dc)<|λb10 _=>w6 5 Z Z kr (λ_=>rfl) (N.call (c6X ((D1 (s:=s) (q:=(d9,c6)) (by assumption)).1) ((D1 (s:=s) (q:=(d9,c6)) (by assumption)).2.2) (λa _=>a5r<|Nat.le_trans a4I<|Nat.le_trans (D1 (s:=s) (q:=(J5,n8)) (by assumption)).1 dc)<|Nat.le_trans (D1 (s:=s) (q:=(d9,c6)) (by assumption)).2.1 dc) Z Z Z dc Z<|λw Lp hA=>⟨hA.ro s7,hA.ro o2,hA.ow<|mS<|mS<|mS m0,hA.ow<|mS m0⟩)<|λk46 _=>?_
        obtain ⟨⟨a46_0,m46_0,c46_0⟩,⟨a46_1,m46_1,c46_1⟩⟩:=k46
        refine f0 m0 ?_
        rintro rfl l46_0
        refine f0 (mS m0) ?_
        rintro rfl l46_1
        refine Dm 6 Z<|Dyp 7 Z (Y.ext Z Z)<|Dyp 8 Z (Y.ext Z Z)<|i9<|w6 10 Z Z kr (λh=>by cases h) (Ns [_,_] ty_Binding rfl)<|λ_ _=>Dyp 11 Z (E5 Z)<|o4 kr<|n0<|Ent.drop<|B4<|B4<|B4<|B4<|B4<|B4<|B4<|B4<|B4<|P8 (b10,a46_0,c46_0,a46_1,c46_1) trivial ⟨Z,trivial⟩<|.refl _
      ·refine W3 9 Z Z (λ_=>rfl) (N.alloc ty_Binding dc)<|λb10 _=>Dl 4 Z (a6p<|Nat.le_trans (D1 (s:=s) (q:=(J5,n8)) (by assumption)).2.1 dc) Z (λhA=>⟨hA.ro P6,hA.ro M8,hA.ow<|mS<|mS<|mS m0,hA.ow<|mS<|mS<|mS<|mS m0⟩)<|λa45 c45 l45=>w6 5 Z Z kr (λ_=>rfl) (N.call (c6X ((D1 (s:=s) (q:=(d9,c6)) (by assumption)).1) ((D1 (s:=s) (q:=(d9,c6)) (by assumption)).2.2) (λa _=>a5r<|Nat.le_trans a4I<|Nat.le_trans (D1 (s:=s) (q:=(J5,n8)) (by assumption)).1 dc)<|Nat.le_trans (D1 (s:=s) (q:=(d9,c6)) (by assumption)).2.1 dc) Z Z Z dc Z<|λw Lp hA=>⟨hA.ro s7,hA.ro o2,hA.ow<|mS<|mS<|mS m0,hA.ow m0⟩)<|λk46 _=>?_
       obtain ⟨⟨a46_0,m46_0,c46_0⟩,⟨a46_1,m46_1,c46_1⟩⟩:=k46
       refine f0 m0 ?_
       rintro rfl l46_0
       refine f0 (mS m0) ?_
       rintro rfl l46_1
       refine Dm 6 Z<|Dyp 7 Z (Y.ext Z Z)<|Dyp 8 Z (Y.ext Z Z)<|n0<|w6 10 Z Z kr (λh=>by cases h) (Ns [_,_] ty_Binding rfl)<|λ_ _=>Dyp 11 Z (E5 Z)<|o4 kr<|n0<|Ent.drop<|B4<|B4<|B4<|B4<|B4<|B4<|B4<|B4<|B4<|P8 (b10,a46_0,c46_0,a46_1,c46_1) trivial ⟨Z,trivial⟩<|.refl _
     ·obtain ⟨b10,a46_0,c46_0,a46_1,c46_1⟩:=kM
      try dsimp only
      refine Et<|Ew Z2<|Em Z<|Ei Z<|Eu<|E.ret<|Fb Z Z (by grind[a1F,a2i,d1,d2,t1,t2])
    ·refine Eu<|Eq_<|Ew Z2<|Em Z<|Yno false Z<|Eu<|r9 Z<|Ew Z1<|Ei Z<|Eu<|E.ret<|a5h<|Fb Z Z (by grind[a1F,a2i,d1,d2,t1,t2])
  ·refine Yno false Z<|Ypf Z<|Em Z<|Es Z<|Es Z<|Es Z<|Es Z<|Es Z<|Es Z<|Es Z<|Ypt Z<|Eu<|r9 Z<|Ew Z1<|Ei Z<|Eu<|E.ret<|a5h<|Fb Z Z (by grind[a1F,a2i,d1,d2,t1,t2])
 ·refine Yno false Z<|Em Z<|Es Z<|Es Z<|Es Z<|Es Z<|Ypt Z<|Em Z<|Es Z<|Es Z<|Es Z<|Es Z<|Es Z<|Es Z<|Es Z<|Ypt Z<|Eu<|r9 Z<|Ew Z1<|Ei Z<|Eu<|E.ret<|a5h<|Fb Z Z (by grind[a1F,a2i,d1,d2,t1,t2])
end Go.Proofs.YthapcdhdfaibkaaGreatDoor
