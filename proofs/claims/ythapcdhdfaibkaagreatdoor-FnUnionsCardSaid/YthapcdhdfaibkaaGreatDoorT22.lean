import Derived.Test.YthapcdhdfaibkaaGreatDoorT17
import Derived.Test.YthapcdhdfaibkaaGreatDoorT121
namespace Go.Proofs.YthapcdhdfaibkaaGreatDoor
open Go.RowKit
set_option linter.all false
set_option maxHeartbeats 2000000
attribute [local irreducible] Nop Yd Yp Ent Has Tr FnP FnP2 Src K8 Q7 R5 S1 E8
variable {c6:List IL} {d9:List Int} {u5 r6 s9 o0:Nat} {r7 o1:Option Addr}
theorem a0o (hz:D8 (λx=>x.2.length) c6≤1048576):TL Tryz.prog 318 [.agg #[.slice r7 u5 r6,.slice o1 s9 o0]] (λw L=>Ro w L eIs [.slice r7 u5 r6] d9∧Ro w L v8 [.slice o1 s9 o0] c6) eIs (k7 (λt=>inR t 0 9) c6):=by
 refine Ti1 Tryz.func318 6 Z λw L hR=>?_
 obtain ⟨s7,o2⟩:=hR
 obtain ⟨rfl,I8⟩:=s7.slen
 obtain ⟨rfl,G9⟩:=o2.slen
 refine Ew Z2<|Est Z (N.box (cs:=[_,_]) Z dc Z)<|λb1 _=>Ei Z<|Ev Z4<|Lz fo_Query_1 ty_Atoms Z m0 Z<|El Z (a5Z (is:=(λn=>inR n 0 9)) (D_is:=(λ_=>True)) fc (by intros;exact trivial)) Z (λhA=>⟨hA.ro o2,a3p (D:=(λ_=>True)) (RR:=λ_ _=>True) (λhd=>c1r a3U<|λ_ _ _=>trivial)<|λw' hk=>trivial⟩)<|λa5 c5 l5=>Ei Z<|Eu<|E.ret<|g9 (congrArg (ow eIs [_]) (show _=k7 (λt=>inR t 0 9) c6 by grind[d1,d2,t1,t2]))<|Fg Z Z (_,_,_) Z Z
theorem b8Q (hz:D8 (λx=>x.2.length) c6≤1048576):TL Tryz.prog 320 [.agg #[.slice r7 u5 r6,.slice o1 s9 o0]] (λw L=>Ro w L eIs [.slice r7 u5 r6] d9∧Ro w L v8 [.slice o1 s9 o0] c6) eIs (k7 (λt=>inR t 0 9) c6):=by
 refine Ti1 Tryz.func320 47 Z λw L hR=>?_
 obtain ⟨s7,o2⟩:=hR
 obtain ⟨rfl,I8⟩:=s7.slen
 obtain ⟨rfl,G9⟩:=o2.slen
 have jv:=o2.i64A
 refine Ew Z2<|Est Z (N.box (cs:=[_,_]) Z dc Z)<|λb1 _=>Ei Z<|Ev Z2<|Est Z (Nb [] [] us_Is j8 Z Z)<|λb6 _=>Ent.drop<|Ei Z<|Eu<|Eq_<|Ew Z1<|Ei Z<|Eu<|E.block<|m8 (A:=[]) (Own.nil (E:=Enc.int) (e:=tI) (a:=(some ⟨b6,0,none⟩))) Z<|g9 (congrArg (ow eIs [_]) (show _=W0 (((c6.take 0).flatMap (λa:IL=>a.2)).filter (λt=>inR t 0 9)) from by first|rfl|(simp;done)|grind[k7,a0j,Y3,d1,d2,t1,t2]))<|Lo (κ:=Nat×SL) (λg=>g.1≤c6.length∧True) (λg=>[(1,.pointer<|some ⟨b1,0,none⟩),(3,.slice g.2.1 g.2.2.1 g.2.2.2),(4,.int .i64 (↑g.1:Int))]) (λg=>[ow eIs [.slice g.2.1 g.2.2.1 g.2.2.2]<|W0<|((c6.take g.1).flatMap (λa:IL=>a.2)).filter (λt=>inR t 0 9),pt b1 28 [.slice r7 d9.length r6,.slice o1 c6.length o0]]) (λg=>c6.length-g.1) (0,(some ⟨b6,0,none⟩),0,0) ⟨Nat.zero_le _,by simp⟩<|λg pg=>?_
 obtain ⟨g,aA0_0,mA0_0,cA0_0⟩:=g
 try dsimp only at pg
 try dsimp only
 obtain ⟨pk,pa⟩:=pg
 refine f0 m0 ?_
 rintro rfl laA0_0
 refine Eq_<|Ew Z5<|Em Z<|Lz fo_Query_1 ty_Atoms Z (mS m0) Z<|Yln us_Atoms Z<|Ylt Z<|l3 (λq11=>?_)<|λq11=>?_
 ·refine Eu<|Ct<|Eq_<|E.block<|Ew Z1<|Ei Z<|Eu<|E.block<|g9 (congrArg (ow eIs [_]) (show _=W0 (((c6.take g).flatMap (λa:IL=>a.2)).filter (λt=>inR t 0 9)++(c6[g].2.take 0).filter (λt=>inR t 0 9)) from by first|rfl|(simp;done)|grind[k7,a0j,Y3,d1,d2,t1,t2]))<|Lo (κ:=Nat×SL) (λh=>h.1≤c6[g].2.length∧True) (λh=>[(1,.pointer<|some ⟨b1,0,none⟩),(3,.slice h.2.1 h.2.2.1 h.2.2.2),(4,.int .i64 (g:Int)),(5,.int .i64 (↑h.1:Int))]) (λh=>[ow eIs [.slice h.2.1 h.2.2.1 h.2.2.2]<|W0<|((c6.take g).flatMap (λa:IL=>a.2)).filter (λt=>inR t 0 9)++(c6[g].2.take h.1).filter (λt=>inR t 0 9),pt b1 28 [.slice r7 d9.length r6,.slice o1 c6.length o0]]) (λh=>c6[g].2.length-h.1) (0,aA0_0,(W0<|((c6.take g).flatMap (λa:IL=>a.2)).filter (λt=>inR t 0 9)).length,cA0_0) ⟨Nat.zero_le _,by simp⟩<|λh ph=>?_
  obtain ⟨h,aA1_0,mA1_0,cA1_0⟩:=h
  try dsimp only at ph
  try dsimp only
  obtain ⟨pk,pa⟩:=ph
  have ju:=a6S (is:=(λt=>inR t 0 9)) (g:=g) (h:=h) hz om
  have jw:=b0m (l:=((c6.take g).flatMap (λa:IL=>a.2)).filter (λt=>inR t 0 9)++(c6[g].2.take h).filter (λt=>inR t 0 9))
  refine f0 m0 ?_
  rintro rfl laA1_0
  refine Eq_<|Ew Z9<|Em Z<|Lz fo_Query_1 ty_Atoms Z (mS m0) Z<|Em Z ?_
  obtain ⟨eb18,eo18,ec18,ea18,er18,el18,eh18⟩:=o2.elem g om
  obtain ⟨xa18_0,xc18_0,rfl,ei18_0,xh18_0⟩:=L6 er18
  have:=xh18_0.slen.2
  refine Ix us_Atoms ty_Atom Z ea18 g Z om<|Lf fo_Atom_1 ty_Is Z (Hs (eh18 _) 1 Z)<|Yln us_Is Z<|Ylt Z<|l3 (λq22=>?_)<|λq22=>?_
  ·refine Eu<|Ct<|Eq_<|E.block<|Ew Z10<|Lz fo_Query_1 ty_Atoms Z (mS m0) Z<|Em Z<|Ix us_Atoms ty_Atom Z ea18 g Z om<|Lf fo_Atom_1 ty_Is Z (Hs (eh18 _) 1 Z)<|Em Z ?_
   obtain ⟨eb32,eo32,ea32,ei32,eh32⟩:=xh18_0.elemI h om
   refine Il us_Is j8 Z ea32 h Z om Z (eh32 _)<|E0 Z H3 Z (λ_=>trivial)<|Ent.b (λq34=>?_)<|λq34=>?_
   ·refine Eu<|r9 Z<|Ez Z12<|Em Z<|Lz fo_Query_1 ty_Atoms Z (mS m0) Z<|Em Z<|Ix us_Atoms ty_Atom Z ea18 g Z om<|Lf fo_Atom_1 ty_Is Z (Hs (eh18 _) 1 Z)<|Em Z<|Il us_Is j8 Z ea32 h Z om Z (eh32 _)<|Est Z (N.call (pre:=[_]) (a5b fc) Z Z Z dc Z<|λw Lp hA=>ei32)<|λk45 _=>?_
    obtain ⟨a45,m45,c45⟩:=k45
    refine f0 m0 ?_
    rintro rfl l45
    refine Ei Z<|En<|o6<|Et<|Ez Z3<|Em Z<|Yad Z om om<|Ei Z<|Eu<|g9 (congrArg (ow eIs [_]) (show _=W0 (((c6.take g).flatMap (λa:IL=>a.2)).filter (λt=>inR t 0 9)++(c6[g].2.take<|h+1).filter (λt=>inR t 0 9)) from by grind[k7,a0j,Y3,d1,d2,t1,t2]))<|d8<|d8 ?_
    exact Ea (h+1,a45,_,c45) ⟨oz,trivial⟩
   ·refine Eu<|r8 Z<|v6<|o6<|Et<|Ez Z3<|Em Z<|Yad Z om om<|Ei Z<|Eu<|g9 (congrArg (ow eIs [_]) (show _=W0 (((c6.take g).flatMap (λa:IL=>a.2)).filter (λt=>inR t 0 9)++(c6[g].2.take<|h+1).filter (λt=>inR t 0 9)) from by grind[k7,a0j,Y3,d1,d2,t1,t2]))<|d8<|d8 ?_
    exact Ea (h+1,aA1_0,_,cA1_0) ⟨oz,trivial⟩
  ·refine Eu<|r8 Z<|E.exit<|l2<|l2<|u4<|o6<|Et<|Ez Z3<|Em Z<|Yad Z om om<|Ei Z<|Eu<|g9 (congrArg (ow eIs [_]) (show _=W0 (((c6.take<|g+1).flatMap (λa:IL=>a.2)).filter (λt=>inR t 0 9)) from by grind[k7,a0j,Y3,d1,d2,t1,t2]))<|d8<|d8 ?_
   exact Ea (g+1,aA1_0,_,cA1_0) ⟨oz,trivial⟩
 ·refine Eu<|r8 Z<|E.exit<|l2<|l2<|u4<|Et<|Ew Z2<|Em Z<|Ei Z<|Eu<|E.ret<|g9 (congrArg (ow eIs [_]) (show _=k7 (λt=>inR t 0 9) c6 by grind[k7,a0j,Y3,d1,d2,t1,t2]))<|Fg Z Z (_,_,_) Z Z
theorem c6W {a_without:Option Addr} {m_without c_without:Nat} {without:List Int} (hz:D8 (λx=>x.2.length) c6≤1048576) (hu:∀x∈without,0≤x∧x≤9):Tr Tryz.prog 316 [.agg #[.slice r7 u5 r6,.slice o1 s9 o0],.slice a_without m_without c_without] (λw L=>Ro w L eIs [.slice r7 u5 r6] d9∧Ro w L v8 [.slice o1 s9 o0] c6∧Ro w L eIs [.slice a_without m_without c_without] without) [] (κ:=(SL)×(SL)×(SL)) (λk=>True) (λk=>.tuple #[.slice k.1.1 k.1.2.1 k.1.2.2,.agg #[.slice k.2.1.1 k.2.1.2.1 k.2.1.2.2,.slice k.2.2.1 k.2.2.2.1 k.2.2.2.2],.bool (fzB without c6)]) (λk=>[ow t7 [.slice k.1.1 k.1.2.1 k.1.2.2] (fzF without c6),ow eIs [.slice k.2.1.1 k.2.1.2.1 k.2.1.2.2] (fzV without c6),ow eIs [.slice k.2.2.1 k.2.2.2.1 k.2.2.2.2] (fzX without c6)]):=by
 refine Ti2 Tryz.func316 62 Z λw L hR=>?_
 obtain ⟨s7,o2,hwithout⟩:=hR
 obtain ⟨rfl,I8⟩:=s7.slen
 obtain ⟨rfl,G9⟩:=o2.slen
 obtain ⟨rfl,lwithout⟩:=hwithout.slen
 refine Ew Z4<|Est Z (N.box (cs:=[_,_]) Z dc Z)<|λb2 _=>Ei Z<|Est Z (N.alloc ty_Binding dc)<|λb5 _=>Ei Z<|Ev Z3<|Ey Z ((J2 (pvs:=[]) (cs:=[_,_]) ty_Binding pl_Binding Z Z).yd)<|Est Z (N.alloc ty_Binding dc)<|λb7 _=>Est Z (Ns [_,_] ty_Binding Z)<|λ_ _=>Ev Z1<|Ei Z<|Eu<|Eq_<|Ew Z4<|Ey Z (l4 (cs:=[_,_]) ty_Query Z (Has.pt<|mS<|mS m0) Z)<|El Z (b3w fo) Z (λhA=>⟨hA.ro s7,hA.ro o2⟩)<|λa16 c16 l16=>a0n (A:=[_]) Z λwb1 Lb1 hB1 hA1=>?_
 have s7:=hA1.ro s7
 have o2:=hA1.ro o2
 have hwithout:=hA1.ro hwithout
 have rb1:Ro wb1 Lb1 eIs [.slice a16 (k7 (λt=>inR t 10 17) c6).length c16] (k7 (λt=>inR t 10 17) c6):=hA1.ow m0
 refine Yln us_Is Z<|Em Z<|Eu<|E.block<|m8 (A:=[]) (Own.nil (E:=Enc.int) (e:=tI) (a:=none)) Z<|g9 (congrArg (ow eIs [_]) (show _=(k7 (λt=>inR t 10 17) c6).take 0 from by first|rfl|(simp;done)|grind[c6V,c6U,c5e,c6T,fzN,R2,d1,d2,t1,t2]))<|m8 (A:=[]) (Own.nil (E:=Enc.int) (e:=tI) (a:=none)) Z<|g9 (congrArg (ow eIs [_]) (show _=a8m (without) 0 from by first|rfl|(simp;done)|grind[c6V,c6U,c5e,c6T,fzN,R2,d1,d2,t1,t2]))<|E.loop (κ:=Nat×Option Addr×Nat×Nat×SL) (λg=>g.1≤(k7 (λt=>inR t 10 17) c6).length∧∀i,i<g.1→a1n (without) (fzN (without) i)≤9) (λg=>[(1,.slice a_without without.length c_without),(2,.pointer<|some ⟨b2,0,none⟩),(5,.pointer<|some ⟨b5,0,none⟩),(7,.pointer<|some ⟨b7,0,none⟩),(8,.int .i64 (↑(fzN (without) g.1):Int)),(16,.slice a16 (k7 (λt=>inR t 10 17) c6).length c16),(17,.int .i64 (↑((k7 (λt=>inR t 10 17) c6).length):Int)),(18,.int .i64 (↑g.1:Int))]) (λg=>[ow eIs [.slice g.2.2.2.2.1 g.2.2.2.2.2.1 g.2.2.2.2.2.2]<|a8m (without) g.1,ow eIs [.slice g.2.1 g.2.2.1 g.2.2.2.1]<|(k7 (λt=>inR t 10 17) c6).take g.1,pt b7 114 [.slice g.2.1 g.2.2.1 g.2.2.2.1,.slice g.2.2.2.2.1 g.2.2.2.2.2.1 g.2.2.2.2.2.2],pt b5 114 [.slice none 0 0,.slice none 0 0],pt b2 28 [.slice r7 d9.length r6,.slice o1 c6.length o0]]) (λg=>(k7 (λt=>inR t 10 17) c6).length-g.1) (0,none,0,0,none,0,0) ⟨Nat.zero_le _,by simp⟩ ⟨Z,Z,Z,Z,frI (by first|rfl|(simp;done)|grind[c6V,c6U,c5e,c6T,fzN,R2,d1,d2,t1,t2]),Z,Z,Z,trivial⟩ (.refl _)<|λg pg=>?_
 obtain ⟨g,aA0_1,mA0_1,cA0_1,aA0_2,mA0_2,cA0_2⟩:=g
 try dsimp only at pg
 try dsimp only
 obtain ⟨pk,pa⟩:=pg
 have pa0:=pa
 have jz:=c7w pa
 have jl:=c7l (d7:=c6)
 have jy:=c0o (u:=(without)) (n:=g)
 have jp:=List.length_take_le g (k7 (λt=>inR t 10 17) c6)
 refine f0 (mS m0) ?_
 rintro rfl laA0_1
 refine f0 m0 ?_
 rintro rfl laA0_2
 refine Ew Z1<|Ylt Z<|l3 (λq19=>?_)<|λq19=>?_
 ·obtain ⟨eb20,eo20,ea20,ei20,eh20⟩:=rb1.elemI g om
  refine Eu<|Eq_<|Ct<|Eq_<|E.block<|Ew Z3<|Il us_Is j8 Z ea20 g Z om Z (eh20 _)<|Ei Z<|Eu<|Eq_<|E.block<|E.loop (κ:=Nat) (λk=>k≤11∧a1n (without) (fzN (without) g+k)=a1n (without) (fzN (without) g)∧fzN (without) g+k≤10) (λk=>[(1,.slice a_without without.length c_without),(2,.pointer<|some ⟨b2,0,none⟩),(5,.pointer<|some ⟨b5,0,none⟩),(7,.pointer<|some ⟨b7,0,none⟩),(8,.int .i64 (↑(fzN (without) g+k):Int)),(10,.int .i64<|(k7 (λt=>inR t 10 17) c6)[g]),(16,.slice a16 (k7 (λt=>inR t 10 17) c6).length c16),(17,.int .i64 (↑((k7 (λt=>inR t 10 17) c6).length):Int)),(18,.int .i64 (g:Int))]) (λk=>[ow eIs [.slice aA0_2 (a8m (without) g).length cA0_2]<|a8m (without) g,ow eIs [.slice aA0_1 ((k7 (λt=>inR t 10 17) c6).take g).length cA0_1]<|(k7 (λt=>inR t 10 17) c6).take g,pt b7 114 [.slice aA0_1 ((k7 (λt=>inR t 10 17) c6).take g).length cA0_1,.slice aA0_2 (a8m (without) g).length cA0_2],pt b5 114 [.slice none 0 0,.slice none 0 0],pt b2 28 [.slice r7 d9.length r6,.slice o1 c6.length o0]]) (λk=>11-k) (0) ⟨Nat.zero_le _,by exact ⟨Z,by omega⟩⟩ ⟨Z,Z,Z,Z,frI (by first|rfl|(simp;done)|grind[c6V,c6U,c5e,c6T,fzN,R2,d1,d2,t1,t2]),Z,Z,Z,Z,trivial⟩ (.refl _)<|λk pk=>?_
  try dsimp only
  obtain ⟨pk,pa⟩:=pk
  refine Eq_<|Ew Z3<|Em Z<|Em Z<|E0 Z a2o Z (λhA=>hA.ro hwithout)<|Ent.b (λq24=>?_)<|λq24=>?_
  ·refine Eu<|Ct<|E.block<|Ez Z3<|Em Z<|Yad Z om om<|Ei Z ?_
   have j1:=c1y hu q24
   have j2:=c7j hu q24
   refine En<|o6<|Et<|s6<|s6<|s6<|s6<|s6 ?_
   exact u7 br (k+1) ⟨Z,Z,Z,Z,frI (by grind[c6V,c6U,c5e,c6T,fzN,R2,d1,d2,t1,t2]),Z,Z,Z,Z,trivial⟩ (.refl _) ⟨oz,(show a1n (without) (fzN (without) g+(k+1))=a1n (without) (fzN (without) g)∧fzN (without) g+(k+1)≤10 from by exact ⟨j2.trans pa.1,by omega⟩)⟩ oz
  ·have jm:=c7g q24
   have jn:=pa.1
   refine Eu<|r8 Z<|E.exit<|l2<|l2<|u4<|Et<|Eq_<|Ew Z3<|Em Z<|E0 Z a3U Z (λ_=>trivial)<|Ent.b (λq28=>?_)<|λq28=>?_
   ·have j9:a1n without (fzN without g)≤9:=by simp only[inR,decide_eq_true_eq] at q28;omega
    refine Yno true Z<|Eu<|Cf<|Eq_<|a2X (κ:=(Option Addr×Nat)×(Option Addr×Nat)) (λ_=>True) (λkM=>[(1,.slice a_without without.length c_without),(2,.pointer<|some ⟨b2,0,none⟩),(5,.pointer<|some ⟨b5,0,none⟩),(7,.pointer<|some ⟨b7,0,none⟩),(8,.int .i64 (↑(fzN (without) g+k):Int)),(16,.slice a16 (k7 (λt=>inR t 10 17) c6).length c16),(17,.int .i64 (↑((k7 (λt=>inR t 10 17) c6).length):Int)),(18,.int .i64 (g:Int))]) (λkM=>[pt b7 114 [.slice kM.1.1 (((k7 (λt=>inR t 10 17) c6).take g).length+1) kM.1.2,.slice kM.2.1 ((a8m (without) g).length+1) kM.2.2],ow eIs [.slice kM.2.1 ((a8m (without) g).length+1) kM.2.2]<|(a8m (without) g)++[(↑(fzN (without) g+k):Int)],ow eIs [.slice kM.1.1 (((k7 (λt=>inR t 10 17) c6).take g).length+1) kM.1.2]<|((k7 (λt=>inR t 10 17) c6).take g)++[(k7 (λt=>inR t 10 17) c6)[g]],pt b5 114 [.slice none 0 0,.slice none 0 0],pt b2 28 [.slice r7 d9.length r6,.slice o1 c6.length o0]]) ?_<|λkM _=>?_
    ·refine U3 [b7,b5,b2] (λj=> !(Nat.beq j 11)&& !(Nat.beq j 13)) mixed<|C7 0 Z Z dc (D3 fo_Binding_0 ty_Is dc Z) kr<|a1y 1 Z Z dc (W4 ty_Is Z ((X7.pt (mS<|mS m0) (by simp)).sub (cs':=[_]) 0 Z) Z) kr<|C7 2 Z Z dc (P5 Z) kr<|C7 5 Z Z dc (D3 fo_Binding_1 ty_Is dc Z) kr<|a1y 6 Z Z dc (W4 ty_Is Z ((X7.pt (mS<|mS m0) (by simp)).sub (cs':=[_]) 1 Z) Z) kr<|C7 7 Z Z dc (P5 Z) kr<|B2 (i:=3) (j:=8) kr ?_ ?_
     ·refine J6 3 Z Z (λ_ _=>SameI.out) (Nb [_] [_] us_Is j8 Z Z)<|λb34 _=>B2 (i:=4) (j:=8) kr ?_ ?_
      ·refine i9<|J6 4 Z Z (λ_ _=>SameI.out) (w3 (E:=Enc.int) (ex:=(k7 (λt=>inR t 10 17) c6)[g]) us_Is j8 Z Z Z (Own.int ei20) Z bn bn dc)<|λp35 _=>C7 10 Z Z dc (D3 fo_Binding_0 ty_Is dc Z) kr<|G7 8 Z Z kr (λ_ _=>SameI.out) (Nb [_] [_] us_Is j8 Z Z)<|λb39 _=>i9<|G7 9 Z Z kr (λ_ _=>SameI.out) (w3 (E:=Enc.int) (ex:=(↑(fzN (without) g+k):Int)) us_Is j8 Z Z Z (Own.int i6) Z bn bn dc)<|λp40 _=>i9<|G7 11 Z Z kr (λh=>by cases h) (Ns [_,_] ty_Is rfl)<|λ_ _=>C7 12 Z Z dc (D3 fo_Binding_1 ty_Is dc Z) kr<|G7 13 Z Z kr (λh=>by cases h) (Ns [_,_] ty_Is rfl)<|λ_ _=>X4 kr<|s6<|s6<|s6<|s6<|s6<|P8 (p35,p40) trivial ⟨Z,Z,Z,Z,Z,Z,Z,Z,trivial⟩<|.refl _
      ·refine J6 8 Z Z (λ_ _=>SameI.out) (Nb [_] [_] us_Is j8 Z Z)<|λb39 _=>d8<|n0<|G7 4 Z Z kr (λ_ _=>SameI.out) (w3 (E:=Enc.int) (ex:=(k7 (λt=>inR t 10 17) c6)[g]) us_Is j8 Z Z Z (Own.int ei20) Z bn bn dc)<|λp35 _=>C7 10 Z Z dc (D3 fo_Binding_0 ty_Is dc Z) kr<|d8<|i9<|G7 9 Z Z kr (λ_ _=>SameI.out) (w3 (E:=Enc.int) (ex:=(↑(fzN (without) g+k):Int)) us_Is j8 Z Z Z (Own.int i6) Z bn bn dc)<|λp40 _=>i9<|G7 11 Z Z kr (λh=>by cases h) (Ns [_,_] ty_Is rfl)<|λ_ _=>C7 12 Z Z dc (D3 fo_Binding_1 ty_Is dc Z) kr<|G7 13 Z Z kr (λh=>by cases h) (Ns [_,_] ty_Is rfl)<|λ_ _=>X4 kr<|s6<|s6<|s6<|s6<|s6<|P8 (p35,p40) trivial ⟨Z,Z,Z,Z,Z,Z,Z,Z,trivial⟩<|.refl _
     ·refine J6 8 Z Z (λ_ _=>SameI.out) (Nb [_] [_] us_Is j8 Z Z)<|λb39 _=>G7 3 Z Z kr (λ_ _=>SameI.out) (Nb [_] [_] us_Is j8 Z Z)<|λb34 _=>n0<|G7 4 Z Z kr (λ_ _=>SameI.out) (w3 (E:=Enc.int) (ex:=(k7 (λt=>inR t 10 17) c6)[g]) us_Is j8 Z Z Z (Own.int ei20) Z bn bn dc)<|λp35 _=>C7 10 Z Z dc (D3 fo_Binding_0 ty_Is dc Z) kr<|d8<|i9<|G7 9 Z Z kr (λ_ _=>SameI.out) (w3 (E:=Enc.int) (ex:=(↑(fzN (without) g+k):Int)) us_Is j8 Z Z Z (Own.int i6) Z bn bn dc)<|λp40 _=>i9<|G7 11 Z Z kr (λh=>by cases h) (Ns [_,_] ty_Is rfl)<|λ_ _=>C7 12 Z Z dc (D3 fo_Binding_1 ty_Is dc Z) kr<|G7 13 Z Z kr (λh=>by cases h) (Ns [_,_] ty_Is rfl)<|λ_ _=>X4 kr<|s6<|s6<|s6<|s6<|s6<|P8 (p35,p40) trivial ⟨Z,Z,Z,Z,Z,Z,Z,Z,trivial⟩<|.refl _
    ·obtain ⟨p35,p40⟩:=kM
     try dsimp only
     refine Et<|Ez Z3<|Em Z<|Yad Z om om<|Ei Z<|En<|o6<|Et<|Ez Z2<|Yad Z om om<|Em Z<|Eu<|i9<|g9 (congrArg (ow eIs [_]) (show _=(k7 (λt=>inR t 10 17) c6).take (g+1) from by grind[c6V,c6U,c5e,c6T,fzN,R2,d1,d2,t1,t2]))<|i9<|g9 (congrArg (ow eIs [_]) (show _=a8m (without) (g+1) from by grind[c6V,c6U,c5e,c6T,fzN,R2,d1,d2,t1,t2]))<|s6<|s6<|s6<|s6<|s6 ?_
     exact u7 br (g+1,p35.1,(((k7 (λt=>inR t 10 17) c6).take g).length+1),p35.2,p40.1,((a8m (without) g).length+1),p40.2) ⟨Z,Z,Z,Z,frI (by grind[c6V,c6U,c5e,c6T,fzN,R2,d1,d2,t1,t2]),Z,Z,Z,trivial⟩ (.refl _) ⟨oz,(show ∀i,i<(g+1)→a1n (without) (fzN (without) i)≤9 from by exact c7s pa0 om)⟩ oz
   ·have jb:fzB without c6=false:=c7m (i:=g) (show g<(V3 c6).length by unfold V3;omega) (by simp only[inR,decide_eq_false_iff_not] at q28;omega)
    refine Yno false Z<|Eu<|r9 Z<|Ew Z4<|Ey Z ((J2 (pvs:=[]) (cs:=[_,_]) ty_Binding pl_Binding Z Z).yd)<|Ei Z<|n0<|Est Z (Ns [_,_] ty_Binding Z)<|λ_ _=>Ei Z<|Eu<|E.ret<|a5h<|v7<|a5h<|a5h<|v7<|a5h<|m8 (A:=[]) (Own.nil (E:=Enc.int) (e:=tI) (a:=none)) Z<|g9 (congrArg (ow eIs [_]) (show _=fzX without c6 by first|(simp only[fzF,fzV,fzX,jb,cond_false];done)|(simp only[fzF,fzV,fzX,jb,cond_true];unfold V3;rw[←jg];done)|(simp only[fzF,fzV,fzX,jb,cond_true];unfold V3;rw[←jg];grind[List.take_of_length_le])|(simp only[fzF,fzV,fzX,jb,cond_true];unfold V3;rw[jg];grind[List.take_of_length_le])))<|m8 (A:=[]) (Own.nil (E:=Enc.int) (e:=tI) (a:=none)) Z<|g9 (congrArg (ow eIs [_]) (show _=fzV without c6 by first|(simp only[fzF,fzV,fzX,jb,cond_false];done)|(simp only[fzF,fzV,fzX,jb,cond_true];unfold V3;rw[←jg];done)|(simp only[fzF,fzV,fzX,jb,cond_true];unfold V3;rw[←jg];grind[List.take_of_length_le])|(simp only[fzF,fzV,fzX,jb,cond_true];unfold V3;rw[jg];grind[List.take_of_length_le])))<|m8 (A:=[]) (Own.nil (E:=I3) (e:=tFact) (a:=none)) Z<|g9 (congrArg (ow t7 [_]) (show _=fzF without c6 by first|(simp only[fzF,fzV,fzX,jb,cond_false];done)|(simp only[fzF,fzV,fzX,jb,cond_true];unfold V3;rw[←jg];done)|(simp only[fzF,fzV,fzX,jb,cond_true];unfold V3;rw[←jg];grind[List.take_of_length_le])|(simp only[fzF,fzV,fzX,jb,cond_true];unfold V3;rw[jg];grind[List.take_of_length_le])))<|i9<|i9<|i9 ?_
    exact c5Y hB1 Z Z Z Z (mS<|mS<|mS m0) ty_Binding Z ((none,0,0),(none,0,0),(none,0,0)) trivial (by rw[show (fzB without c6)=(false) from (by first|(simp only[fzF,fzV,fzX,jb,cond_false];done)|(simp only[fzF,fzV,fzX,jb,cond_true];unfold V3;rw[←jg];done)|(simp only[fzF,fzV,fzX,jb,cond_true];unfold V3;rw[←jg];grind[List.take_of_length_le])|(simp only[fzF,fzV,fzX,jb,cond_true];unfold V3;rw[jg];grind[List.take_of_length_le]))];try rfl) (J:=_) (.refl _)<|.inl Z
 ·have jb:fzB without c6=true:=b8m (λi hi=>pa i (by unfold V3 at hi;omega))
  have jg:g=(k7 (λt=>inR t 10 17) c6).length:=by omega
  refine Eu<|Eq_<|r8 Z<|E.exit<|l2<|l2<|u4<|Et<|Ew Z2<|Est Z (Nb [] [] us_Facts ty_Fact Z Z)<|λb46 _=>Ent.drop<|Ei Z<|Eu<|Eq_<|Ew Z4<|Lz fo_Query_1 ty_Atoms Z (mS<|mS<|mS<|mS m0) Z<|Yln us_Atoms Z<|Em Z<|Eu<|E.block<|m8 (A:=[]) (Own.nil (E:=I3) (e:=tFact) (a:=(some ⟨b46,0,none⟩))) Z<|g9 (congrArg (ow t7 [_]) (show _=a7D (c6.take 0) ((k7 (λt=>inR t 10 17) c6).take g,a8m without g) from by first|rfl|(simp;done)|grind[c6V,c6U,c5e,c6T,fzN,R2,d1,d2,t1,t2]))<|Lo (κ:=Nat×SL) (λr=>r.1≤c6.length∧True) (λr=>[(5,.pointer<|some ⟨b5,0,none⟩),(7,.pointer<|some ⟨b7,0,none⟩),(11,.slice r.2.1 r.2.2.1 r.2.2.2),(48,.slice o1 c6.length o0),(49,.int .i64 (↑c6.length:Int)),(50,.int .i64 (↑r.1:Int))]) (λr=>[ow t7 [.slice r.2.1 r.2.2.1 r.2.2.2]<|a7D (c6.take r.1) ((k7 (λt=>inR t 10 17) c6).take g,a8m without g),ow eIs [.slice aA0_2 (a8m (without) g).length cA0_2]<|a8m (without) g,ow eIs [.slice aA0_1 ((k7 (λt=>inR t 10 17) c6).take g).length cA0_1]<|(k7 (λt=>inR t 10 17) c6).take g,pt b7 114 [.slice aA0_1 ((k7 (λt=>inR t 10 17) c6).take g).length cA0_1,.slice aA0_2 (a8m (without) g).length cA0_2],pt b5 114 [.slice none 0 0,.slice none 0 0],pt b2 28 [.slice r7 d9.length r6,.slice o1 c6.length o0]]) (λr=>c6.length-r.1) (0,(some ⟨b46,0,none⟩),0,0) ⟨Nat.zero_le _,by simp⟩<|λr pr=>?_
  obtain ⟨r,aA2_0,mA2_0,cA2_0⟩:=r
  try dsimp only at pr
  try dsimp only
  obtain ⟨pk,pa⟩:=pr
  have jo:=c2h (d7:=c6.take r) (b:=((k7 (λt=>inR t 10 17) c6).take g,a8m without g))
  have jq:=List.length_take_le r c6
  have jt:=a7N hz
  have ju2:c6.length≤1048576:=by unfold D8 at hz;omega
  refine f0 m0 ?_
  rintro rfl laA2_0
  refine Ew Z1<|Ylt Z<|l3 (λq51=>?_)<|λq51=>?_
  ·obtain ⟨eb52,eo52,ec52,ea52,er52,el52,eh52⟩:=o2.elem r om
   obtain ⟨xa52_0,xc52_0,rfl,ei52_0,xh52_0⟩:=L6 er52
   have:=xh52_0.slen.2
   refine Eu<|Eq_<|Ct<|Eq_<|E.block<|Ew Z4<|Ix us_Atoms ty_Atom Z ea52 r Z om<|Ey Z (l4 (cs:=[_,_]) ty_Atom Z (eh52 _) Z)<|Est Z (N.alloc ty_Atom dc)<|λb13 _=>Est Z (Ns [_,_] ty_Atom Z)<|λ_ _=>Eu<|Ez Z6<|Em Z<|Ey Z (l4 (cs:=[_,_]) ty_Atom Z (Has.pt m0) Z)<|Ey Z (l4 (cs:=[_,_]) ty_Binding Z (Has.pt<|mS<|mS<|mS<|mS m0) Z)<|Est Z (N.call (c2N<|jt _<|List.getElem_mem om) Z Z Z dc Z<|λw Lp hA=>⟨ei52_0,hA.ro xh52_0,hA.ow<|mS<|mS<|mS m0,hA.ow<|mS<|mS m0⟩)<|λk57 _=>?_
   obtain ⟨a57,m57,c57⟩:=k57
   refine f0 m0 ?_
   rintro rfl l57
   refine i9<|Est Z (N.call (pre:=[_]) (b4Z om (by simp only[R2,List.length_map];exact jt _ (List.getElem_mem om))) Z Z Z dc Z<|λw Lp hA=>⟨i6,hA.ow m0⟩)<|λk58 _=>?_
   obtain ⟨a58,m58,c58⟩:=k58
   refine f0 m0 ?_
   rintro rfl l58
   refine Ei Z<|En<|o6<|Et<|Ez Z2<|Yad Z om om<|Em Z<|Eu<|d8<|Ent.drop<|d8<|Ent.drop<|g9 (congrArg (ow t7 [_]) (show _=a7D (c6.take<|r+1) ((k7 (λt=>inR t 10 17) c6).take g,a8m without g) from by grind[c6V,c6U,c5e,c6T,fzN,R2,d1,d2,t1,t2]))<|u6<|u6<|u6<|u6<|u6<|u6 ?_
   exact Ea (r+1,a58,_,c58) ⟨oz,trivial⟩
  ·refine Eu<|Eq_<|r8 Z<|E.exit<|l2<|l2<|u4<|Et<|Eq_<|D.region (λj=> !(Nat.beq j 3)) mixed<|Dm 0 Z<|Dy 1 Z (l4 (cs:=[_,_]) ty_Binding Z (Has.pt<|mS<|mS<|mS m0) Z)<|Dyp 2 Z (E5 Z)<|s6<|w6 3 Z Z kr (λh=>by cases h) (Ns [_,_] ty_Binding rfl)<|λ_ _=>Dyp 4 Z (E5 Z)<|o4 kr<|Et<|E.ret<|i9<|g9 (congrArg (ow eIs [_]) (show _=fzX without c6 by first|(simp only[fzF,fzV,fzX,jb,cond_false];done)|(simp only[fzF,fzV,fzX,jb,cond_true];unfold V3;rw[←jg];done)|(simp only[fzF,fzV,fzX,jb,cond_true];unfold V3;rw[←jg];grind[List.take_of_length_le])|(simp only[fzF,fzV,fzX,jb,cond_true];unfold V3;rw[jg];grind[List.take_of_length_le])))<|n0<|g9 (congrArg (ow eIs [_]) (show _=fzV without c6 by first|(simp only[fzF,fzV,fzX,jb,cond_false];done)|(simp only[fzF,fzV,fzX,jb,cond_true];unfold V3;rw[←jg];done)|(simp only[fzF,fzV,fzX,jb,cond_true];unfold V3;rw[←jg];grind[List.take_of_length_le])|(simp only[fzF,fzV,fzX,jb,cond_true];unfold V3;rw[jg];grind[List.take_of_length_le])))<|n0<|g9 (congrArg (ow t7 [_]) (show _=fzF without c6 by first|(simp only[fzF,fzV,fzX,jb,cond_false];done)|(simp only[fzF,fzV,fzX,jb,cond_true];unfold V3;rw[←jg];done)|(simp only[fzF,fzV,fzX,jb,cond_true];unfold V3;rw[←jg];grind[List.take_of_length_le])|(simp only[fzF,fzV,fzX,jb,cond_true];unfold V3;rw[jg];grind[List.take_of_length_le])))<|i9<|i9<|i9 ?_
   exact c5Y hB1 Z Z Z Z (mS<|mS<|mS m0) ty_Binding Z ((_,_,_),(_,_,_),(_,_,_)) trivial (by rw[show (fzB without c6)=(true) from (by first|(simp only[fzF,fzV,fzX,jb,cond_false];done)|(simp only[fzF,fzV,fzX,jb,cond_true];unfold V3;rw[←jg];done)|(simp only[fzF,fzV,fzX,jb,cond_true];unfold V3;rw[←jg];grind[List.take_of_length_le])|(simp only[fzF,fzV,fzX,jb,cond_true];unfold V3;rw[jg];grind[List.take_of_length_le]))];try rfl) (J:=_) (.refl _)<|.inl Z
theorem c7c (hz:D8 (λx=>x.2.length) c6≤1048576):Tr Tryz.prog 321 [.agg #[.slice r7 u5 r6,.slice o1 s9 o0]] (λw L=>Ro w L eIs [.slice r7 u5 r6] d9∧Ro w L v8 [.slice o1 s9 o0] c6) [] (κ:=(SL)×(SL)×(SL)) (λk=>True) (λk=>.tuple #[.slice k.1.1 k.1.2.1 k.1.2.2,.agg #[.slice k.2.1.1 k.2.1.2.1 k.2.1.2.2,.slice k.2.2.1 k.2.2.2.1 k.2.2.2.2],.bool (fzB (k7 (λt=>inR t 0 9) c6) c6)]) (λk=>[ow t7 [.slice k.1.1 k.1.2.1 k.1.2.2] (fzF (k7 (λt=>inR t 0 9) c6) c6),ow eIs [.slice k.2.1.1 k.2.1.2.1 k.2.1.2.2] (fzV (k7 (λt=>inR t 0 9) c6) c6),ow eIs [.slice k.2.2.1 k.2.2.2.1 k.2.2.2.2] (fzX (k7 (λt=>inR t 0 9) c6) c6)]):=by
 refine Ti1 Tryz.func321 90 Z λw L hR=>?_
 obtain ⟨s7,o2⟩:=hR
 obtain ⟨rfl,I8⟩:=s7.slen
 obtain ⟨rfl,G9⟩:=o2.slen
 have hu:∀x∈k7 (λt=>inR t 0 9) c6,0≤x∧x≤9:=a8W (d7:=c6)
 have jv:=o2.i64A
 refine Ew Z4<|Est Z (N.box (cs:=[_,_]) Z dc Z)<|λb1 _=>Ei Z<|Est Z (N.alloc ty_Binding dc)<|λb3 _=>Ei Z<|Ev Z3<|Ey Z (l4 (cs:=[_,_]) ty_Query Z (Has.pt<|mS m0) Z)<|El Z (b8Q fo) Z (λhA=>⟨hA.ro s7,hA.ro o2⟩)<|λa15 c15 l15=>a0n (A:=[_]) Z λwb2 Lb2 hB2 hA2=>?_
 have s7:=hA2.ro s7
 have o2:=hA2.ro o2
 have rb2:Ro wb2 Lb2 eIs [.slice a15 (k7 (λt=>inR t 0 9) c6).length c15] (k7 (λt=>inR t 0 9) c6):=hA2.ow m0
 refine Ei Z<|Ev Z3<|Ey Z (l4 (cs:=[_,_]) ty_Query Z (Has.pt<|mS m0) Z)<|El Z (a2a fo) Z (λhA=>⟨hA.ro s7,hA.ro o2⟩)<|λa17 c17 l17=>a0n (A:=[_]) Z λwb3 Lb3 hB3 hA3=>?_
 have s7:=hA3.ro s7
 have o2:=hA3.ro o2
 have rb2:=hA3.ro rb2
 have rb3:Ro wb3 Lb3 eIs [.slice a17 (k7 (λt=>inR t 10 17) c6).length c17] (k7 (λt=>inR t 10 17) c6):=hA3.ow m0
 refine Ei Z<|Ev Z3<|Ey Z ((J2 (pvs:=[]) (cs:=[_,_]) ty_Binding pl_Binding Z Z).yd)<|Est Z (N.alloc ty_Binding dc)<|λb7 _=>Est Z (Ns [_,_] ty_Binding Z)<|λ_ _=>Ev Z1<|Ei Z<|Eu<|Eq_<|Ew Z1<|Ei Z<|Eu<|E.block<|m8 (A:=[]) (Own.nil (E:=Enc.int) (e:=tI) (a:=none)) Z<|g9 (congrArg (ow eIs [_]) (show _=(k7 (λt=>inR t 10 17) c6).take 0 from by first|rfl|(simp;done)|grind[c6V,c6U,c5e,c6T,fzN,R2,d1,d2,t1,t2]))<|m8 (A:=[]) (Own.nil (E:=Enc.int) (e:=tI) (a:=none)) Z<|g9 (congrArg (ow eIs [_]) (show _=a8m (k7 (λt=>inR t 0 9) c6) 0 from by first|rfl|(simp;done)|grind[c6V,c6U,c5e,c6T,fzN,R2,d1,d2,t1,t2]))<|E.loop (κ:=Nat×Option Addr×Nat×Nat×SL) (λg=>g.1≤(k7 (λt=>inR t 10 17) c6).length∧∀i,i<g.1→a1n (k7 (λt=>inR t 0 9) c6) (fzN (k7 (λt=>inR t 0 9) c6) i)≤9) (λg=>[(1,.pointer<|some ⟨b1,0,none⟩),(3,.pointer<|some ⟨b3,0,none⟩),(5,.slice a15 (k7 (λt=>inR t 0 9) c6).length c15),(6,.slice a17 (k7 (λt=>inR t 10 17) c6).length c17),(7,.pointer<|some ⟨b7,0,none⟩),(8,.int .i64 (↑(fzN (k7 (λt=>inR t 0 9) c6) g.1):Int)),(9,.int .i64 (↑g.1:Int))]) (λg=>[ow eIs [.slice g.2.2.2.2.1 g.2.2.2.2.2.1 g.2.2.2.2.2.2]<|a8m (k7 (λt=>inR t 0 9) c6) g.1,ow eIs [.slice g.2.1 g.2.2.1 g.2.2.2.1]<|(k7 (λt=>inR t 10 17) c6).take g.1,pt b7 114 [.slice g.2.1 g.2.2.1 g.2.2.2.1,.slice g.2.2.2.2.1 g.2.2.2.2.2.1 g.2.2.2.2.2.2],pt b3 114 [.slice none 0 0,.slice none 0 0],pt b1 28 [.slice r7 d9.length r6,.slice o1 c6.length o0]]) (λg=>(k7 (λt=>inR t 10 17) c6).length-g.1) (0,none,0,0,none,0,0) ⟨Nat.zero_le _,by simp⟩ ⟨Z,Z,Z,Z,Z,frI (by first|rfl|(simp;done)|grind[c6V,c6U,c5e,c6T,fzN,R2,d1,d2,t1,t2]),Z,trivial⟩ (.refl _)<|λg pg=>?_
 obtain ⟨g,aA0_1,mA0_1,cA0_1,aA0_2,mA0_2,cA0_2⟩:=g
 try dsimp only at pg
 try dsimp only
 obtain ⟨pk,pa⟩:=pg
 have pa0:=pa
 have jz:=c7w pa
 have jl:=c7l (d7:=c6)
 have jy:=c0o (u:=(k7 (λt=>inR t 0 9) c6)) (n:=g)
 have jp:=List.length_take_le g (k7 (λt=>inR t 10 17) c6)
 refine f0 (mS m0) ?_
 rintro rfl laA0_1
 refine f0 m0 ?_
 rintro rfl laA0_2
 refine Eq_<|Ew Z4<|Em Z<|Em Z<|Yln us_Is Z<|Ylt Z<|l3 (λq22=>?_)<|λq22=>?_
 ·refine Eu<|Ct<|Eq_<|E.block<|Eq_<|E.block<|E.loop (κ:=Nat) (λk=>k≤11∧a1n (k7 (λt=>inR t 0 9) c6) (fzN (k7 (λt=>inR t 0 9) c6) g+k)=a1n (k7 (λt=>inR t 0 9) c6) (fzN (k7 (λt=>inR t 0 9) c6) g)∧fzN (k7 (λt=>inR t 0 9) c6) g+k≤10) (λk=>[(1,.pointer<|some ⟨b1,0,none⟩),(3,.pointer<|some ⟨b3,0,none⟩),(5,.slice a15 (k7 (λt=>inR t 0 9) c6).length c15),(6,.slice a17 (k7 (λt=>inR t 10 17) c6).length c17),(7,.pointer<|some ⟨b7,0,none⟩),(8,.int .i64 (↑(fzN (k7 (λt=>inR t 0 9) c6) g+k):Int)),(9,.int .i64 (g:Int))]) (λk=>[ow eIs [.slice aA0_2 (a8m (k7 (λt=>inR t 0 9) c6) g).length cA0_2]<|a8m (k7 (λt=>inR t 0 9) c6) g,ow eIs [.slice aA0_1 ((k7 (λt=>inR t 10 17) c6).take g).length cA0_1]<|(k7 (λt=>inR t 10 17) c6).take g,pt b7 114 [.slice aA0_1 ((k7 (λt=>inR t 10 17) c6).take g).length cA0_1,.slice aA0_2 (a8m (k7 (λt=>inR t 0 9) c6) g).length cA0_2],pt b3 114 [.slice none 0 0,.slice none 0 0],pt b1 28 [.slice r7 d9.length r6,.slice o1 c6.length o0]]) (λk=>11-k) (0) ⟨Nat.zero_le _,by exact ⟨Z,by omega⟩⟩ ⟨Z,Z,Z,Z,Z,frI (by first|rfl|(simp;done)|grind[c6V,c6U,c5e,c6T,fzN,R2,d1,d2,t1,t2]),Z,trivial⟩ (.refl _)<|λk pk=>?_
  try dsimp only
  obtain ⟨pk,pa⟩:=pk
  refine Eq_<|Ew Z3<|Em Z<|Em Z<|E0 Z a0Q Z (λhA=>hA.ro rb2)<|Ent.b (λq27=>?_)<|λq27=>?_
  ·refine Eu<|Ct<|E.block<|Ez Z3<|Em Z<|Yad Z om om<|Ei Z ?_
   have j1:=c1y hu q27
   have j2:=c7j hu q27
   refine En<|o6<|Et<|s6<|s6<|s6<|s6<|s6 ?_
   exact u7 br (k+1) ⟨Z,Z,Z,Z,Z,frI (by grind[c6V,c6U,c5e,c6T,fzN,R2,d1,d2,t1,t2]),Z,trivial⟩ (.refl _) ⟨oz,(show a1n (k7 (λt=>inR t 0 9) c6) (fzN (k7 (λt=>inR t 0 9) c6) g+(k+1))=a1n (k7 (λt=>inR t 0 9) c6) (fzN (k7 (λt=>inR t 0 9) c6) g)∧fzN (k7 (λt=>inR t 0 9) c6) g+(k+1)≤10 from by exact ⟨j2.trans pa.1,by omega⟩)⟩ oz
  ·have jm:=c7g q27
   have jn:=pa.1
   refine Eu<|r8 Z<|E.exit<|l2<|l2<|u4<|Et<|Eq_<|Ew Z2<|Em Z<|Ey Z ((Y.gtr Z Z).yd)<|l3 (λq31=>?_)<|λq31=>?_
   ·have jb:fzB (k7 (λt=>inR t 0 9) c6) c6=false:=c7m (i:=g) (show g<(V3 c6).length by unfold V3;omega) om
    refine Eu<|r9 Z<|Ew Z5<|Est Z (Nb [] [] us_Facts ty_Fact Z Z)<|λb32 _=>Ent.drop<|Ey Z ((J2 (pvs:=[]) (cs:=[_,_]) ty_Binding pl_Binding Z Z).yd)<|Ei Z<|n0<|Est Z (Ns [_,_] ty_Binding Z)<|λ_ _=>Ei Z<|Eu<|E.ret<|a5h<|v7<|a5h<|a5h<|v7<|a5h<|m8 (A:=[]) (Own.nil (E:=Enc.int) (e:=tI) (a:=none)) Z<|g9 (congrArg (ow eIs [_]) (show _=fzX (k7 (λt=>inR t 0 9) c6) c6 by first|(simp only[fzF,fzV,fzX,jb,cond_false];done)|(simp only[fzF,fzV,fzX,jb,cond_true];unfold V3;rw[←jg];done)|(simp only[fzF,fzV,fzX,jb,cond_true];unfold V3;rw[←jg];grind[List.take_of_length_le])|(simp only[fzF,fzV,fzX,jb,cond_true];unfold V3;rw[jg];grind[List.take_of_length_le])))<|m8 (A:=[]) (Own.nil (E:=Enc.int) (e:=tI) (a:=none)) Z<|g9 (congrArg (ow eIs [_]) (show _=fzV (k7 (λt=>inR t 0 9) c6) c6 by first|(simp only[fzF,fzV,fzX,jb,cond_false];done)|(simp only[fzF,fzV,fzX,jb,cond_true];unfold V3;rw[←jg];done)|(simp only[fzF,fzV,fzX,jb,cond_true];unfold V3;rw[←jg];grind[List.take_of_length_le])|(simp only[fzF,fzV,fzX,jb,cond_true];unfold V3;rw[jg];grind[List.take_of_length_le])))<|m8 (A:=[]) (Own.nil (E:=I3) (e:=tFact) (a:=(some ⟨b32,0,none⟩))) Z<|g9 (congrArg (ow t7 [_]) (show _=fzF (k7 (λt=>inR t 0 9) c6) c6 by first|(simp only[fzF,fzV,fzX,jb,cond_false];done)|(simp only[fzF,fzV,fzX,jb,cond_true];unfold V3;rw[←jg];done)|(simp only[fzF,fzV,fzX,jb,cond_true];unfold V3;rw[←jg];grind[List.take_of_length_le])|(simp only[fzF,fzV,fzX,jb,cond_true];unfold V3;rw[jg];grind[List.take_of_length_le])))<|i9<|i9<|i9 ?_
    exact c5Y (hB2.comp hB3) Z Z Z Z (mS<|mS<|mS m0) ty_Binding Z (((some ⟨b32,0,none⟩),0,0),(none,0,0),(none,0,0)) trivial (by rw[show (fzB (k7 (λt=>inR t 0 9) c6) c6)=(false) from (by first|(simp only[fzF,fzV,fzX,jb,cond_false];done)|(simp only[fzF,fzV,fzX,jb,cond_true];unfold V3;rw[←jg];done)|(simp only[fzF,fzV,fzX,jb,cond_true];unfold V3;rw[←jg];grind[List.take_of_length_le])|(simp only[fzF,fzV,fzX,jb,cond_true];unfold V3;rw[jg];grind[List.take_of_length_le]))];try rfl) (J:=_) (.refl _)<|.inl Z
   ·have j9:a1n (k7 (λt=>inR t 0 9) c6) (fzN (k7 (λt=>inR t 0 9) c6) g)≤9:=by omega
    refine Eu<|Cf<|Eq_<|D.region (λj=> !(Nat.beq j 7)) mixed<|Dy 0 Z (l4 (cs:=[_,_]) ty_Binding Z (Has.pt<|mS<|mS m0) Z)<|Dm 1 Z<|Dm 2 Z ?_
    obtain ⟨eb37,eo37,ea37,ei37,eh37⟩:=rb3.elemI g om
    refine Dyp 3 Z (y6 us_Is j8 Z ea37 Z g Z om)<|Dy 4 Z (z7 j8 Z (eh37 _) Z)<|Dm 5 Z<|w6 6 Z Z kr (λ_=>rfl) (N.call (b3r (by simp only[List.length_take,c0o];omega) (by simp only[List.length_take,c0o];omega)) Z Z Z dc Z<|λw Lp hA=>⟨hA.ow<|mS m0,hA.ow m0,ei37,i6⟩)<|λk40 _=>?_
    obtain ⟨⟨a40_0,m40_0,c40_0⟩,⟨a40_1,m40_1,c40_1⟩⟩:=k40
    refine f0 m0 ?_
    rintro rfl l40_0
    refine f0 (mS m0) ?_
    rintro rfl l40_1
    refine s6<|w6 7 Z Z kr (λh=>by cases h) (Ns [_,_] ty_Binding rfl)<|λ_ _=>o4 kr<|Et<|Ez Z3<|Em Z<|Yad Z om om<|Ei Z<|En<|o6<|Et<|Ez Z3<|Em Z<|Yad Z om om<|Ei Z<|Eu<|n0<|Ent.drop<|n0<|Ent.drop<|d8<|g9 (congrArg (ow eIs [_]) (show _=(k7 (λt=>inR t 10 17) c6).take (g+1) from by grind[c6V,c6U,c5e,c6T,fzN,R2,d1,d2,t1,t2]))<|i9<|g9 (congrArg (ow eIs [_]) (show _=a8m (k7 (λt=>inR t 0 9) c6) (g+1) from by grind[c6V,c6U,c5e,c6T,fzN,R2,d1,d2,t1,t2]))<|s6<|s6<|s6<|s6<|s6 ?_
    exact u7 br (g+1,a40_0,_,c40_0,a40_1,_,c40_1) ⟨Z,Z,Z,Z,Z,frI (by grind[c6V,c6U,c5e,c6T,fzN,R2,d1,d2,t1,t2]),Z,trivial⟩ (.refl _) ⟨oz,(show ∀i,i<(g+1)→a1n (k7 (λt=>inR t 0 9) c6) (fzN (k7 (λt=>inR t 0 9) c6) i)≤9 from by exact c7s pa0 om)⟩ oz
 ·have jfr:=c7z pa
  have jb:fzB (k7 (λt=>inR t 0 9) c6) c6=true:=b8m (λi hi=>pa i (by unfold V3 at hi;omega))
  have jg:g=(k7 (λt=>inR t 10 17) c6).length:=by omega
  refine Eu<|r8 Z<|E.exit<|l2<|l2<|u4<|Et<|Ew Z2<|Est Z (Nb [] [] us_Facts ty_Fact Z Z)<|λb43 _=>Ent.drop<|Ei Z<|Eu<|Eq_<|Ew Z1<|Ei Z<|Eu<|E.block<|m8 (A:=[]) (Own.nil (E:=I3) (e:=tFact) (a:=(some ⟨b43,0,none⟩))) Z<|g9 (congrArg (ow t7 [_]) (show _=a7D (c6.take 0) ((k7 (λt=>inR t 10 17) c6).take g,a8m (k7 (λt=>inR t 0 9) c6) g) from by first|rfl|(simp;done)|grind[c6V,c6U,c5e,c6T,fzN,R2,d1,d2,t1,t2]))<|Lo (κ:=Nat×SL) (λr=>r.1≤c6.length∧True) (λr=>[(1,.pointer<|some ⟨b1,0,none⟩),(3,.pointer<|some ⟨b3,0,none⟩),(7,.pointer<|some ⟨b7,0,none⟩),(10,.slice r.2.1 r.2.2.1 r.2.2.2),(11,.int .i64 (↑r.1:Int))]) (λr=>[ow t7 [.slice r.2.1 r.2.2.1 r.2.2.2]<|a7D (c6.take r.1) ((k7 (λt=>inR t 10 17) c6).take g,a8m (k7 (λt=>inR t 0 9) c6) g),ow eIs [.slice aA0_2 (a8m (k7 (λt=>inR t 0 9) c6) g).length cA0_2]<|a8m (k7 (λt=>inR t 0 9) c6) g,ow eIs [.slice aA0_1 ((k7 (λt=>inR t 10 17) c6).take g).length cA0_1]<|(k7 (λt=>inR t 10 17) c6).take g,pt b7 114 [.slice aA0_1 ((k7 (λt=>inR t 10 17) c6).take g).length cA0_1,.slice aA0_2 (a8m (k7 (λt=>inR t 0 9) c6) g).length cA0_2],pt b3 114 [.slice none 0 0,.slice none 0 0],pt b1 28 [.slice r7 d9.length r6,.slice o1 c6.length o0]]) (λr=>c6.length-r.1) (0,(some ⟨b43,0,none⟩),0,0) ⟨Nat.zero_le _,by simp⟩<|λr pr=>?_
  obtain ⟨r,aA2_0,mA2_0,cA2_0⟩:=r
  try dsimp only at pr
  try dsimp only
  obtain ⟨pk,pa⟩:=pr
  have jo:=c2h (d7:=c6.take r) (b:=((k7 (λt=>inR t 10 17) c6).take g,a8m (k7 (λt=>inR t 0 9) c6) g))
  have jq:=List.length_take_le r c6
  have jt:=a7N hz
  have ju2:c6.length≤1048576:=by unfold D8 at hz;omega
  refine f0 m0 ?_
  rintro rfl laA2_0
  refine Eq_<|Ew Z5<|Em Z<|Lf fo_Query_1 ty_Atoms Z (Hs (Has.pt<|mS<|mS<|mS<|mS<|mS m0) 1 Z)<|Yln us_Atoms Z<|Ylt Z<|l3 (λq48=>?_)<|λq48=>?_
  ·refine Eu<|Ct<|Eq_<|E.block<|Ew Z9<|Lf fo_Query_1 ty_Atoms Z (Hs (Has.pt<|mS<|mS<|mS<|mS<|mS m0) 1 Z)<|Em Z ?_
   obtain ⟨eb54,eo54,ec54,ea54,er54,el54,eh54⟩:=o2.elem r om
   obtain ⟨xa54_0,xc54_0,rfl,ei54_0,xh54_0⟩:=L6 er54
   have:=xh54_0.slen.2
   refine Ix us_Atoms ty_Atom Z ea54 r Z om<|Lf fo_Atom_0 j8 Z (Hs (eh54 _) 0 Z)<|Ey Z ((J2 (pvs:=[_]) (cs:=[_,_]) ty_Fact a6u Z Z).yd)<|Est Z (N.alloc ty_Fact dc)<|λb12 _=>Est Z (Ns [_,_] ty_Fact Z)<|λ_ _=>Eu<|Eq_<|Ew Z1<|Ei Z<|Eu<|E.block<|m8 (A:=[]) (Own.nil (E:=Enc.int) (e:=tI) (a:=none)) Z<|g9 (congrArg (ow eIs [_]) (show _=(c6[r].2.take 0).map (y9 ((k7 (λt=>inR t 10 17) c6).take g,a8m (k7 (λt=>inR t 0 9) c6) g)) from by first|rfl|(simp;done)|grind[c6V,c6U,c5e,c6T,fzN,R2,d1,d2,t1,t2]))<|Lo (κ:=Nat×SL) (λh=>h.1≤c6[r].2.length∧True) (λh=>[(1,.pointer<|some ⟨b1,0,none⟩),(3,.pointer<|some ⟨b3,0,none⟩),(7,.pointer<|some ⟨b7,0,none⟩),(10,.slice aA2_0 (a7D (c6.take r) ((k7 (λt=>inR t 10 17) c6).take g,a8m (k7 (λt=>inR t 0 9) c6) g)).length cA2_0),(11,.int .i64 (r:Int)),(12,.pointer<|some ⟨b12,0,none⟩),(13,.int .i64 (↑h.1:Int))]) (λh=>[ow eIs [.slice h.2.1 h.2.2.1 h.2.2.2]<|(c6[r].2.take h.1).map (y9 ((k7 (λt=>inR t 10 17) c6).take g,a8m (k7 (λt=>inR t 0 9) c6) g)),pt b12 85 [.int .i64 c6[r].1,.slice h.2.1 h.2.2.1 h.2.2.2],ow t7 [.slice aA2_0 (a7D (c6.take r) ((k7 (λt=>inR t 10 17) c6).take g,a8m (k7 (λt=>inR t 0 9) c6) g)).length cA2_0]<|a7D (c6.take r) ((k7 (λt=>inR t 10 17) c6).take g,a8m (k7 (λt=>inR t 0 9) c6) g),ow eIs [.slice aA0_2 (a8m (k7 (λt=>inR t 0 9) c6) g).length cA0_2]<|a8m (k7 (λt=>inR t 0 9) c6) g,ow eIs [.slice aA0_1 ((k7 (λt=>inR t 10 17) c6).take g).length cA0_1]<|(k7 (λt=>inR t 10 17) c6).take g,pt b7 114 [.slice aA0_1 ((k7 (λt=>inR t 10 17) c6).take g).length cA0_1,.slice aA0_2 (a8m (k7 (λt=>inR t 0 9) c6) g).length cA0_2],pt b3 114 [.slice none 0 0,.slice none 0 0],pt b1 28 [.slice r7 d9.length r6,.slice o1 c6.length o0]]) (λh=>c6[r].2.length-h.1) (0,none,0,0) ⟨Nat.zero_le _,by simp⟩<|λh ph=>?_
   obtain ⟨h,aA3_0,mA3_0,cA3_0⟩:=h
   try dsimp only at ph
   try dsimp only
   obtain ⟨pk,pa⟩:=ph
   have jt1:=jt c6[r] (List.getElem_mem om)
   refine f0 m0 ?_
   rintro rfl laA3_0
   refine Eq_<|Ew Z9<|Em Z<|Lf fo_Query_1 ty_Atoms Z (Hs (Has.pt<|mS<|mS<|mS<|mS<|mS<|mS<|mS m0) 1 Z)<|Em Z<|Ix us_Atoms ty_Atom Z ea54 r Z om<|Lf fo_Atom_1 ty_Is Z (Hs (eh54 _) 1 Z)<|Yln us_Is Z<|Ylt Z<|l3 (λq66=>?_)<|λq66=>?_
   ·have jx:=a6Y (b:=((k7 (λt=>inR t 10 17) c6).take g,a8m (k7 (λt=>inR t 0 9) c6) g)) ((jv c6[r] (List.getElem_mem om)).2 c6[r].2[h] (List.getElem_mem om)) jfr
    refine Eu<|Ct<|Eq_<|E.block<|D.region (λj=> !(Nat.beq j 14)&& !(Nat.beq j 16)) mixed<|Df 0 1 fo_Fact_1 ty_Is Z (Hz (mS m0) 1 Z)<|Dy 2 Z (l4 (cs:=[_,_]) ty_Binding Z (Has.pt<|mS<|mS<|mS<|mS<|mS m0) Z)<|Df 3 4 fo_Query_1 ty_Atoms Z (Hs (Has.pt<|mS<|mS<|mS<|mS<|mS<|mS<|mS m0) 1 Z)<|Dm 5 Z<|Dyp 6 Z (y6 us_Atoms ty_Atom Z ea54 Z r Z om)<|Df 7 8 fo_Atom_1 ty_Is Z (Hs (eh54 _) 1 Z)<|Dm 9 Z ?_
    obtain ⟨eb79,eo79,ea79,ei79,eh79⟩:=xh54_0.elemI h om
    refine Dyp 10 Z (y6 us_Is j8 Z ea79 Z h Z om)<|Dy 11 Z (z7 j8 Z (eh79 _) Z)<|D0 12 Z a2F Z (λhA=>⟨hA.ow<|mS<|mS<|mS<|mS m0,hA.ow<|mS<|mS<|mS m0⟩)<|w6 13 Z Z kr (λ_=>rfl) (Nb [_] [_] us_Is j8 Z Z)<|λb82 _=>d8<|w6 14 Z Z kr (λh=>by cases h) (w3 (E:=Enc.int) (ex:=y9 (((k7 (λt=>inR t 10 17) c6).take g),(a8m (k7 (λt=>inR t 0 9) c6) g)) c6[r].2[h]) us_Is j8 Z Z Z (Own.int i6) Z bn bn dc)<|λp83 _=>Dyp 15 Z (D3 fo_Fact_1 ty_Is dc Z)<|d8<|w6 16 Z Z kr (λh=>by cases h) (Ns [_,_] ty_Is rfl)<|λ_ _=>o4 kr<|o6<|Et<|Ez Z3<|Em Z<|Yad Z om om<|Ei Z<|Eu<|d8<|g9 (congrArg (ow eIs [_]) (show _=(c6[r].2.take<|h+1).map (y9 ((k7 (λt=>inR t 10 17) c6).take g,a8m (k7 (λt=>inR t 0 9) c6) g)) from by grind[c6V,c6U,c5e,c6T,fzN,R2,d1,d2,t1,t2]))<|H1<|H1<|H1<|H1<|H1<|H1<|H1<|H1 ?_
    exact Ea (h+1,p83.1,(((c6[r].2.take h).map (y9 ((k7 (λt=>inR t 10 17) c6).take g,a8m (k7 (λt=>inR t 0 9) c6) g))).length+1),p83.2) ⟨oz,trivial⟩
   ·refine Eu<|r8 Z<|E.exit<|l2<|l2<|u4<|Et<|Ez Z4<|Em Z<|Ey Z (l4 (cs:=[_,_]) ty_Fact Z (Has.pt<|mS m0) Z)<|El Z (a3S om (c7A jt) (by simp only[List.length_map,List.length_take];have:=jt c6[r] (List.getElem_mem om);omega)) Z (λhA=>⟨hA.ow<|mS<|mS m0,ei54_0,hA.ow m0⟩)<|λa87 c87 l87=>Ei Z<|En<|o6<|Et<|Ez Z3<|Em Z<|Yad Z om om<|Ei Z<|Eu<|d8<|Ent.drop<|d8<|Ent.drop<|d8<|Ent.drop<|g9 (congrArg (ow t7 [_]) (show _=a7D (c6.take<|r+1) ((k7 (λt=>inR t 10 17) c6).take g,a8m (k7 (λt=>inR t 0 9) c6) g) from by grind[c6V,c6U,c5e,c6T,fzN,R2,d1,d2,t1,t2]))<|u6<|u6<|u6<|u6<|u6<|u6 ?_
    exact Ea (r+1,a87,_,c87) ⟨oz,trivial⟩
  ·refine Eu<|r8 Z<|E.exit<|l2<|l2<|u4<|Et<|Eq_<|D.region (λj=> !(Nat.beq j 3)) mixed<|Dm 0 Z<|Dy 1 Z (l4 (cs:=[_,_]) ty_Binding Z (Has.pt<|mS<|mS<|mS m0) Z)<|Dyp 2 Z (E5 Z)<|s6<|w6 3 Z Z kr (λh=>by cases h) (Ns [_,_] ty_Binding rfl)<|λ_ _=>Dyp 4 Z (E5 Z)<|o4 kr<|Et<|E.ret<|i9<|g9 (congrArg (ow eIs [_]) (show _=fzX (k7 (λt=>inR t 0 9) c6) c6 by first|(simp only[fzF,fzV,fzX,jb,cond_false];done)|(simp only[fzF,fzV,fzX,jb,cond_true];unfold V3;rw[←jg];done)|(simp only[fzF,fzV,fzX,jb,cond_true];unfold V3;rw[←jg];grind[List.take_of_length_le])|(simp only[fzF,fzV,fzX,jb,cond_true];unfold V3;rw[jg];grind[List.take_of_length_le])))<|n0<|g9 (congrArg (ow eIs [_]) (show _=fzV (k7 (λt=>inR t 0 9) c6) c6 by first|(simp only[fzF,fzV,fzX,jb,cond_false];done)|(simp only[fzF,fzV,fzX,jb,cond_true];unfold V3;rw[←jg];done)|(simp only[fzF,fzV,fzX,jb,cond_true];unfold V3;rw[←jg];grind[List.take_of_length_le])|(simp only[fzF,fzV,fzX,jb,cond_true];unfold V3;rw[jg];grind[List.take_of_length_le])))<|n0<|g9 (congrArg (ow t7 [_]) (show _=fzF (k7 (λt=>inR t 0 9) c6) c6 by first|(simp only[fzF,fzV,fzX,jb,cond_false];done)|(simp only[fzF,fzV,fzX,jb,cond_true];unfold V3;rw[←jg];done)|(simp only[fzF,fzV,fzX,jb,cond_true];unfold V3;rw[←jg];grind[List.take_of_length_le])|(simp only[fzF,fzV,fzX,jb,cond_true];unfold V3;rw[jg];grind[List.take_of_length_le])))<|i9<|i9<|i9 ?_
   exact c5Y (hB2.comp hB3) Z Z Z Z (mS<|mS<|mS m0) ty_Binding Z ((_,_,_),(_,_,_),(_,_,_)) trivial (by rw[show (fzB (k7 (λt=>inR t 0 9) c6) c6)=(true) from (by first|(simp only[fzF,fzV,fzX,jb,cond_false];done)|(simp only[fzF,fzV,fzX,jb,cond_true];unfold V3;rw[←jg];done)|(simp only[fzF,fzV,fzX,jb,cond_true];unfold V3;rw[←jg];grind[List.take_of_length_le])|(simp only[fzF,fzV,fzX,jb,cond_true];unfold V3;rw[jg];grind[List.take_of_length_le]))];try rfl) (J:=_) (.refl _)<|.inl Z
end Go.Proofs.YthapcdhdfaibkaaGreatDoor
