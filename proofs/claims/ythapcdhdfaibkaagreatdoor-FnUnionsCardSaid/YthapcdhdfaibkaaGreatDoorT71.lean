import Derived.Test.YthapcdhdfaibkaaGreatDoorT70
import Derived.Test.YthapcdhdfaibkaaGreatDoorT122
namespace Go.Proofs.YthapcdhdfaibkaaGreatDoor
open Go.RowKit
set_option linter.all false
set_option maxHeartbeats 2000000
attribute [local irreducible] Nop Yd Yp Ent Has Tr FnP FnP2 Src K8 Q7 R5 S1 E8
variable {l:List (Int×List Int×Int×Int×Int)} {c6:List IL} {s d9:List Int} {m_s c_s m_l c_l u5 r6 s9 o0:Nat} {a_s a_l r7 o1:Option Addr}
theorem a4r (hz:D8 (λx=>x.2.length) c6≤1048576):TB Tryz.prog 246 [.slice a_s m_s c_s,.slice a_l m_l c_l,.agg #[.slice r7 u5 r6,.slice o1 s9 o0]] (λw L=>Ro w L eIs [.slice a_s m_s c_s] s∧Ro w L F0 [.slice a_l m_l c_l] l∧Ro w L eIs [.slice r7 u5 r6] d9∧Ro w L v8 [.slice o1 s9 o0] c6) (C5 s l&&w7 s (d9,c6)):=by
 refine Ti3 Tryz.func246 15 Z λw L hR=>?_
 obtain ⟨hs,hl,s7,o2⟩:=hR
 obtain ⟨rfl,ls⟩:=hs.slen
 obtain ⟨rfl,ll⟩:=hl.slen
 obtain ⟨rfl,I8⟩:=s7.slen
 obtain ⟨rfl,G9⟩:=o2.slen
 refine Ew Z2<|Est Z (N.box (cs:=[_,_]) Z dc Z)<|λb5 _=>Ei Z<|Ev Z9<|Em Z<|Em Z<|E0 Z a2Q Z (λhA=>⟨hA.ro hs,hA.ro hl⟩)<|Ent.b (λq9=>?_)<|λq9=>?_
 ·refine Em Z<|Em Z<|Ey Z (l4 (cs:=[_,_]) ty_Query Z (Has.pt m0) Z)<|E0 Z (a0J fc) Z (λhA=>⟨hA.ro hs,hA.ro s7,hA.ro o2⟩)<|Ypt Z<|Ei Z<|Eu<|E.ret<|Fb Z Z (by grind[d1,d2,t1,t2])
 ·refine Em Z<|Es Z<|Es Z<|Es Z<|Ypf Z<|Ei Z<|Eu<|E.ret<|Fb Z Z (by grind[d1,d2,t1,t2])
theorem a9q (hln:l.length≤5) (hqa:c6.length≤4) (hqh:d9.length≤3) (hqt:∀a∈c6,a.2.length≤3):Tr Tryz.prog 137 [.slice a_s m_s c_s,.slice a_l m_l c_l,.agg #[.slice r7 u5 r6,.slice o1 s9 o0]] (λw L=>Ro w L eIs [.slice a_s m_s c_s] s∧Ro w L F0 [.slice a_l m_l c_l] l∧Ro w L eIs [.slice r7 u5 r6] d9∧Ro w L v8 [.slice o1 s9 o0] c6) [] (κ:=(SL)×(SL)) (λk=>True) (λk=>.tuple #[.agg #[.slice k.1.1 k.1.2.1 k.1.2.2,.slice k.2.1 k.2.2.1 k.2.2.2],.bool (w7 s (d9,I1 l c6))]) (λk=>[ow eIs [.slice k.1.1 k.1.2.1 k.1.2.2] d9,ow v8 [.slice k.2.1 k.2.2.1 k.2.2.2] (I1 l c6)]):=by
 refine Ti3 Tryz.func137 49 Z λw L hR=>?_
 obtain ⟨hs,hl,s7,o2⟩:=hR
 obtain ⟨rfl,ls⟩:=hs.slen
 obtain ⟨rfl,ll⟩:=hl.slen
 obtain ⟨rfl,I8⟩:=s7.slen
 obtain ⟨rfl,G9⟩:=o2.slen
 refine Ew Z3<|Est Z (N.box (cs:=[_,_]) Z dc Z)<|λb5 _=>Est Z (N.alloc ty_Query dc)<|λb6 _=>Ei Z<|Eu<|Eq_<|D.region (λj=>true) mixed<|Dm 0 Z<|Df 2 3 fo_Query_1 ty_Atoms Z (Hz (mS m0) 1 Z) ?_
 obtain ⟨lB,hlB,hb_l⟩:=Ro.bMethodB hl
 have jlB:=hb_l.len
 refine Dl 1 Z (a9p fo) Z (λhA=>hA.ro hlB)<|λa15 c15 l15=>?_
 have hbx:=b7E hb_l
 have jex:(exF l).length=l.length:=List.length_map ..
 refine w6 4 Z Z kr (λ_=>rfl) (N.call (a7h fo fo fo) Z Z Z dc Z<|λw Lp hA=>⟨hA.bMethodB m0 hbx,hA.ro o2⟩)<|λk18 _=>?_
 obtain ⟨⟨a18_0,m18_0,c18_0⟩,⟨a18_1,m18_1,c18_1⟩⟩:=k18
 refine f0 m0 ?_
 rintro rfl l18_0
 refine f0 (mS m0) ?_
 rintro rfl l18_1
 refine Dm 5 Z<|Dyp 6 Z (Y.ext Z Z)<|Dyp 7 Z (Y.ext Z Z)<|Dyp 8 Z (E5 Z)<|Dyp 9 Z (E5 Z)<|o4 kr<|Et<|Ew Z6<|Lz fo_Query_0 ty_Is Z (mS<|mS<|mS<|mS m0) Z<|El Z (a1g fo) Z (λhA=>hA.ro s7)<|λa23 c23 l23=>?_
 refine Ey Z ((J2 (pvs:=[_]) (cs:=[_,_]) ty_Query a2B Z Z).yd)<|Est Z (N.alloc ty_Query dc)<|λb10 _=>Est Z (Ns [_,_] ty_Query Z)<|λ_ _=>Eu<|Eq_<|Ew Z4<|Lf fo_Query_1 ty_Atoms Z (Hs (Has.pt<|mS<|mS<|mS<|mS<|mS<|mS m0) 1 Z)<|Yln us_Atoms Z<|Em Z<|Eu<|E.block<|m8 (A:=[]) (Own.nil (E:=W5) (e:=tAtom) (a:=none)) Z<|g9 (congrArg (ow v8 [_]) (show _=N0 (c6.take 0) ((grF (exF l) c6).2.1.take 0) from by first|rfl|(simp;done)|grind[d1,d2,t1,t2]))<|Lo (κ:=Nat×SL) (λg=>g.1≤c6.length∧True) (λg=>[(0,.slice a_s s.length c_s),(6,.pointer<|some ⟨b6,0,none⟩),(9,.slice a18_1 ((grF (exF l) c6).2.1).length c18_1),(10,.pointer<|some ⟨b10,0,none⟩),(26,.slice o1 c6.length o0),(27,.int .i64 (↑c6.length:Int)),(28,.int .i64 (↑g.1:Int))]) (λg=>[ow v8 [.slice g.2.1 g.2.2.1 g.2.2.2]<|N0 (c6.take g.1)<|(grF (exF l) c6).2.1.take g.1,pt b10 28 [.slice a23 (d9).length c23,.slice g.2.1 g.2.2.1 g.2.2.2],ow eIs [.slice a23 (d9).length c23] d9,ow Q6 [.slice a18_0 ((grF (exF l) c6).1).length c18_0]<|(grF (exF l) c6).1,ow eBs [.slice a18_1 ((grF (exF l) c6).2.1).length c18_1]<|(grF (exF l) c6).2.1,ow I0 [.slice a15 (exB lB).length c15]<|exB lB,pt b6 28 [.slice none 0 0,.slice none 0 0],pt b5 28 [.slice r7 d9.length r6,.slice o1 c6.length o0]]) (λg=>c6.length-g.1) (0,none,0,0) ⟨Nat.zero_le _,by simp⟩<|λg pg=>?_
 obtain ⟨g,aA0_0,mA0_0,cA0_0⟩:=g
 try dsimp only at pg
 try dsimp only
 obtain ⟨pk,pa⟩:=pg
 have jd:=b1q (l:=exF l) (d7:=c6)
 have jp:=a8j (al:=c6.take g) (ds:=(grF (exF l) c6).2.1.take g)
 have jt:=List.length_take_le g c6
 have jtp:=a9L (g:=g) (ds:=(grF (exF l) c6).2.1.take g) hqt hqa
 refine f0 m0 ?_
 rintro rfl laA0_0
 refine Ew Z1<|Ylt Z<|l3 (λq29=>?_)<|λq29=>?_
 ·refine Eu<|Eq_<|Ct<|Eq_<|E.block<|Ew Z6<|Em Z ?_
  obtain ⟨eb31,eo31,ec31,ea31,er31,el31,eh31⟩:=o2.elem g om
  obtain ⟨xa31_0,xc31_0,rfl,ei31_0,xh31_0⟩:=L6 er31
  have:=xh31_0.slen.2
  refine Ix us_Atoms ty_Atom Z ea31 g Z om<|Ey Z (l4 (cs:=[_,_]) ty_Atom Z (eh31 _) Z)<|Est Z (N.alloc ty_Atom dc)<|λb12 _=>Ei Z<|Est Z (Ns [_,_] ty_Atom Z)<|λ_ _=>Ev Z4<|Em Z<|Em Z<|R1 (mS<|mS<|mS<|mS<|mS m0) om λab35 ae35=>Il us_Bs ty_B Z ae35 g Z om Z (c0M ae35 (mS<|mS<|mS<|mS<|mS m0) om)<|Ent.b (λq36=>?_)<|λq36=>?_
  ·refine Eu<|r9 Z<|D.region (λj=> !(Nat.beq j 5)&& !(Nat.beq j 7)) mixed<|Df 0 1 fo_Query_1 ty_Atoms Z (Hz (mS<|mS m0) 1 Z)<|Dy 2 Z (l4 (cs:=[_,_]) ty_Atom Z (Has.pt m0) Z) ?_
   have jt3:=hqt _ (List.getElem_mem (show g<c6.length by omega))
   refine w6 3 Z Z kr (λ_=>rfl) (N.call (a5K fo) Z Z Z dc Z<|λw Lp hA=>⟨ei31_0,hA.ro xh31_0⟩)<|λk40 _=>?_
   obtain ⟨a40,m40,c40⟩:=k40
   refine f0 m0 ?_
   rintro rfl l40
   refine w6 4 Z Z kr (λ_=>rfl) (Nb [_] [_,_] us_Atoms ty_Atom Z Z)<|λb41 _=>d8<|d8<|n0<|w6 5 Z Z kr (λh=>by cases h) (w3 (E:=W5) (ex:=c6[g]) us_Atoms ty_Atom Z Z Z (O3 (x:=c6[g]) ei31_0 Own.ow) Z bn bn dc)<|λp42 _=>Dyp 6 Z (D3 fo_Query_1 ty_Atoms dc Z)<|i9<|w6 7 Z Z kr (λh=>by cases h) (Ns [_,_] ty_Atoms rfl)<|λ_ _=>o4 kr<|o6<|Et<|Ez Z2<|Yad Z om om<|Em Z<|Eu<|i9<|Ent.drop<|d8<|g9 (congrArg (ow v8 [_]) (show _=N0 (c6.take<|g+1) ((grF (exF l) c6).2.1.take (g+1)) from by first|exact b5k om om q36|exact b3Z om om q36))<|H1<|H1<|H1<|H1<|H1<|H1<|H1<|H1 ?_
   exact Ea (g+1,p42.1,((N0 (c6.take g)<|(grF (exF l) c6).2.1.take g).length+1),p42.2) ⟨oz,trivial⟩
  ·refine Eu<|r8 Z<|v6<|o6<|Et<|Ez Z2<|Yad Z om om<|Em Z<|Eu<|Ent.drop<|g9 (congrArg (ow v8 [_]) (show _=N0 (c6.take<|g+1) ((grF (exF l) c6).2.1.take (g+1)) from by first|exact b5k om om q36|exact b3Z om om q36))<|H1<|H1<|H1<|H1<|H1<|H1<|H1<|H1 ?_
   exact Ea (g+1,aA0_0,_,cA0_0) ⟨oz,trivial⟩
 ·refine Eu<|Eq_<|r8 Z<|E.exit<|l2<|l2<|u4<|Et<|Eq_<|D.region (λj=> !(Nat.beq j 4)) mixed<|Dy 0 Z (l4 (cs:=[_,_]) ty_Query Z (Has.pt<|mS m0) Z)<|Dm 1 Z<|Dy 2 Z (l4 (cs:=[_,_]) ty_Query Z (Has.pt<|mS m0) Z)<|D0 3 Z (a2G jtp) Z (λhA=>⟨hA.ro hs,hA.ow<|mS<|mS m0,hA.ow m0⟩)<|s4<|w6 4 Z Z kr (λh=>by cases h) (Ns [_,_] ty_Query rfl)<|λ_ _=>Dyp 5 Z (E5 Z)<|o4 kr<|Et<|E.ret<|d8<|g9 (congrArg (ow v8 [_]) (show _=I1 l c6 by first|exact a1l om jd|(rw[a1l om jd];rfl)))<|n0<|d8<|d8 ?_
  exact a1z br Z Z Z (mS<|mS m0) ty_Query Z ((_,_,_),(_,_,_)) trivial (by rw[show (w7 s (d9,I1 l c6))=(w7 s (d9,(N0 (c6.take g)<|(grF (exF l) c6).2.1.take g))) from (by first|exact a1l om jd|(rw[a1l om jd];rfl))];try rfl) (J:=_) (.refl _)<|.inl Z
theorem a6a (hz:D8 (λx=>x.2.length) c6≤1048576):Tr Tryz.prog 140 [.slice a_s m_s c_s,.slice a_l m_l c_l,.agg #[.slice r7 u5 r6,.slice o1 s9 o0]] (λw L=>Ro w L eIs [.slice a_s m_s c_s] s∧Ro w L F0 [.slice a_l m_l c_l] l∧Ro w L eIs [.slice r7 u5 r6] d9∧Ro w L v8 [.slice o1 s9 o0] c6) [] (κ:=(SL)×(SL)) (λk=>True) (λk=>.tuple #[.agg #[.slice k.1.1 k.1.2.1 k.1.2.2,.slice k.2.1 k.2.2.1 k.2.2.2],.bool (Q0 s l (d9,c6))]) (λk=>[ow eIs [.slice k.1.1 k.1.2.1 k.1.2.2] (J4 s l (d9,c6)),ow v8 [.slice k.2.1 k.2.2.1 k.2.2.2] (J1 s l (d9,c6))]):=by
 refine Ti3 Tryz.func140 71 Z λw L hR=>?_
 obtain ⟨hs,hl,s7,o2⟩:=hR
 obtain ⟨rfl,ls⟩:=hs.slen
 obtain ⟨rfl,ll⟩:=hl.slen
 obtain ⟨rfl,I8⟩:=s7.slen
 obtain ⟨rfl,G9⟩:=o2.slen
 refine Ew Z3<|Est Z (N.box (cs:=[_,_]) Z dc Z)<|λb5 _=>Est Z (N.alloc ty_Query dc)<|λb6 _=>Ei Z<|Eu<|Eq_<|Ew Z5<|Em Z<|Em Z<|Ey Z (l4 (cs:=[_,_]) ty_Query Z (Has.pt<|mS m0) Z)<|E0 Z (a4r fo) Z (λhA=>⟨hA.ro hs,hA.ro hl,hA.ro s7,hA.ro o2⟩)<|Ent.b (λq15=>?_)<|λq15=>?_
 ·have jq:=D1 (s:=s) (q:=(d9,c6)) (by simpa using (Bool.and_eq_true_iff.1 q15).2)
  have jl:=(a0k (Bool.and_eq_true_iff.1 q15).1).2
  have hqa:c6.length≤4:=jq.1
  have hqh:d9.length≤3:=jq.2.1
  have hqt:∀a∈c6,a.2.length≤3:=jq.2.2
  refine Yno true Z<|Eu<|Cf<|Eq_<|D.region (λj=>true) mixed<|Dm 0 Z<|Dy 2 Z (l4 (cs:=[_,_]) ty_Query Z (Has.pt<|mS m0) Z) ?_
  obtain ⟨lB,hlB,hb_l⟩:=Ro.bMethodB hl
  have jlB:=hb_l.len
  refine Dl 1 Z (b7r fo) Z (λhA=>hA.ro hlB)<|λa19 c19 l19=>?_
  have hbx:=b7E hb_l
  have jex:(exF l).length=l.length:=List.length_map ..
  refine Dl 3 Z (a5v fo (Nat.le_trans jq.1 dc) jq.2.2) Z (λhA=>⟨hA.bMethodB m0 hbx,hA.ro s7,hA.ro o2⟩)<|λa21 c21 l21=>?_
  refine Dyp 4 Z (E5 Z)<|o4 kr<|Et<|Ew Z7<|Est Z (Nb [] [] us_Is j8 Z Z)<|λb22 _=>Ent.drop<|Lz fo_Query_0 ty_Is Z (mS<|mS<|mS m0) Z<|Est Z (M9 (E:=Enc.int) Plain.int us_Is j8 Z Z Z s7 bn bn dc)<|λp25 _=>Ey Z ((J2 (pvs:=[_]) (cs:=[_,_]) ty_Query a2B Z Z).yd)<|Est Z (N.alloc ty_Query dc)<|λb9 _=>Est Z (Ns [_,_] ty_Query Z)<|λ_ _=>Eu<|Eq_<|Ew Z1<|Ei Z<|Eu<|E.block<|m8 (A:=[]) (Own.nil (E:=W5) (e:=tAtom) (a:=none)) Z<|g9 (congrArg (ow v8 [_]) (show _=N0 (c6.take 0) ((grF (exF l) c6).2.1.take 0) from by first|rfl|(simp;done)|grind[d1,d2,t1,t2]))<|Lo (κ:=Nat×SL) (λg=>g.1≤c6.length∧True) (λg=>[(0,.slice a_s s.length c_s),(5,.pointer<|some ⟨b5,0,none⟩),(6,.pointer<|some ⟨b6,0,none⟩),(8,.slice a21 ((grF (exF l) c6).1).length c21),(9,.pointer<|some ⟨b9,0,none⟩),(10,.int .i64 (↑g.1:Int))]) (λg=>[ow v8 [.slice g.2.1 g.2.2.1 g.2.2.2]<|N0 (c6.take g.1)<|(grF (exF l) c6).2.1.take g.1,pt b9 28 [.slice p25.1 d9.length p25.2,.slice g.2.1 g.2.2.1 g.2.2.2],ow eIs [.slice p25.1 d9.length p25.2] d9,ow Q6 [.slice a21 ((grF (exF l) c6).1).length c21]<|(grF (exF l) c6).1,ow I0 [.slice a19 (exB lB).length c19]<|exB lB,pt b6 28 [.slice none 0 0,.slice none 0 0],pt b5 28 [.slice r7 d9.length r6,.slice o1 c6.length o0]]) (λg=>c6.length-g.1) (0,none,0,0) ⟨Nat.zero_le _,by simp⟩<|λg pg=>?_
  obtain ⟨g,aA0_0,mA0_0,cA0_0⟩:=g
  try dsimp only at pg
  try dsimp only
  obtain ⟨pk,pa⟩:=pg
  have jd:=b1q (l:=exF l) (d7:=c6)
  have jp:=a8j (al:=c6.take g) (ds:=(grF (exF l) c6).2.1.take g)
  have jt:=List.length_take_le g c6
  have jtp:=a9L (g:=g) (ds:=(grF (exF l) c6).2.1.take g) hqt hqa
  refine f0 m0 ?_
  rintro rfl laA0_0
  refine Eq_<|Ew Z5<|Em Z<|Lf fo_Query_1 ty_Atoms Z (Hs (Has.pt<|mS<|mS<|mS<|mS<|mS<|mS m0) 1 Z)<|Yln us_Atoms Z<|Ylt Z<|l3 (λq31=>?_)<|λq31=>?_
  ·refine Eu<|Ct<|Eq_<|E.block<|Ew Z1<|Ei Z<|Eu<|E.block<|g9 (congrArg (ow v8 [_]) (show _=N0 (c6.take g) ((grF (exF l) c6).2.1.take g)++(((grF (exF l) c6).1.take 0).filter λx=>decide (x.1=(g:Int))).map (λ_=>c6[g]) from by simp))<|Lo (κ:=Nat×SL) (λk=>k.1≤(grF (exF l) c6).1.length∧True) (λk=>[(0,.slice a_s s.length c_s),(5,.pointer<|some ⟨b5,0,none⟩),(6,.pointer<|some ⟨b6,0,none⟩),(8,.slice a21 ((grF (exF l) c6).1).length c21),(9,.pointer<|some ⟨b9,0,none⟩),(10,.int .i64 (g:Int)),(11,.int .i64 (↑k.1:Int))]) (λk=>[ow v8 [.slice k.2.1 k.2.2.1 k.2.2.2]<|N0 (c6.take g) ((grF (exF l) c6).2.1.take g)++(((grF (exF l) c6).1.take k.1).filter λx=>decide (x.1=(g:Int))).map (λ_=>c6[g]),pt b9 28 [.slice p25.1 d9.length p25.2,.slice k.2.1 k.2.2.1 k.2.2.2],ow eIs [.slice p25.1 d9.length p25.2] d9,ow Q6 [.slice a21 ((grF (exF l) c6).1).length c21]<|(grF (exF l) c6).1,ow I0 [.slice a19 (exB lB).length c19]<|exB lB,pt b6 28 [.slice none 0 0,.slice none 0 0],pt b5 28 [.slice r7 d9.length r6,.slice o1 c6.length o0]]) (λk=>(grF (exF l) c6).1.length-k.1) (0,aA0_0,(N0 (c6.take g)<|(grF (exF l) c6).2.1.take g).length,cA0_0) ⟨Nat.zero_le _,by simp⟩<|λk pk=>?_
   obtain ⟨k,aA1_0,mA1_0,cA1_0⟩:=k
   try dsimp only at pk
   try dsimp only
   obtain ⟨pk,pa⟩:=pk
   have jk:=b9l (X:=(grF (exF l) c6).1) (k:=k) (c:=(g:Int)) (a:=c6[g])
   have jk4:=b7C (X:=(grF (exF l) c6).1) (k:=k) (c:=(g:Int))
   have jk2:=b3I (l:=exF l) (d7:=c6) (n:=c6.length)
   have jk3:(grF (exF l) c6).1.length≤c6.length:=jk2
   refine f0 m0 ?_
   rintro rfl laA1_0
   refine Eq_<|Ew Z4<|Em Z<|Em Z<|Yln us_Steps Z<|Ylt Z<|l3 (λq37=>?_)<|λq37=>?_
   ·refine Eu<|Ct<|Eq_<|E.block<|Ew Z7<|Em Z<|Em Z<|R1 (mS<|mS<|mS m0) om λab42 ae42=>n0<|X9 (x:=((grF (exF l) c6).1)[k]) k (List.getElem?_eq_getElem om) λce42=>?_
    refine d8<|b9v λoe42 oi42_0 oi42_1=>?_
    subst oe42
    refine Ix us_Steps ty_Step Z ae42 k Z om<|Lf fo_Step_0 j8 Z (Hs (Has.hole ae42 m0) 0 Z)<|Em Z<|Yeq Z<|l3 (λq46=>?_)<|λq46=>?_
    ·refine Eu<|r9 Z<|D.region (λj=> !(Nat.beq j 16)&& !(Nat.beq j 18)) mixed<|Df 0 1 fo_Query_1 ty_Atoms Z (Hz (mS<|mS m0) 1 Z)<|Df 2 3 fo_Query_1 ty_Atoms Z (Hs (Has.pt<|mS<|mS<|mS<|mS<|mS<|mS m0) 1 Z)<|Dm 4 Z ?_
     obtain ⟨eb52,eo52,ec52,ea52,er52,el52,eh52⟩:=o2.elem g om
     obtain ⟨xa52_0,xc52_0,rfl,ei52_0,xh52_0⟩:=L6 er52
     have:=xh52_0.slen.2
     refine Dyp 5 Z (y6 us_Atoms ty_Atom Z ea52 Z g Z om)<|Df 6 7 fo_Atom_0 j8 Z (Hs (eh52 _) 0 Z)<|Df 8 9 fo_Query_1 ty_Atoms Z (Hs (Has.pt<|mS<|mS<|mS<|mS<|mS<|mS m0) 1 Z)<|Dm 10 Z<|Dyp 11 Z (y6 us_Atoms ty_Atom Z ea52 Z g Z om)<|Df 12 13 fo_Atom_1 ty_Is Z (Hs (eh52 _) 1 Z) ?_
     have jt3:=hqt _ (List.getElem_mem (show g<c6.length by omega))
     refine w6 14 Z Z kr (λ_=>rfl) (N.call (a4q fo) Z Z Z dc Z<|λw Lp hA=>⟨ei52_0,hA.ro xh52_0⟩)<|λk61 _=>?_
     obtain ⟨a61,m61,c61⟩:=k61
     refine f0 m0 ?_
     rintro rfl l61
     refine w6 15 Z Z kr (λ_=>rfl) (Nb [_] [_,_] us_Atoms ty_Atom Z Z)<|λb62 _=>d8<|d8<|n0<|w6 16 Z Z kr (λh=>by cases h) (w3 (E:=W5) (ex:=c6[g]) us_Atoms ty_Atom Z Z Z (O3 (x:=c6[g]) ei52_0 Own.ow) Z bn bn dc)<|λp63 _=>Dyp 17 Z (D3 fo_Query_1 ty_Atoms dc Z)<|i9<|w6 18 Z Z kr (λh=>by cases h) (Ns [_,_] ty_Atoms rfl)<|λ_ _=>o4 kr<|o6<|Et<|Ez Z3<|Em Z<|Yad Z om om<|Ei Z<|Eu<|i9<|U1 (a4G (x:=((grF (exF l) c6).1)[k]) oi42_0 oi42_1) Z<|g9 (congrArg (ow Q6 [_])<|List.set_getElem_self om)<|i9<|g9 (congrArg (ow v8 [_]) (show _=N0 (c6.take g) ((grF (exF l) c6).2.1.take g)++(((grF (exF l) c6).1.take (k+1)).filter λx=>decide (x.1=(g:Int))).map (λ_=>c6[g]) from by first|exact b4w om q46|exact b5l om q46))<|s4<|s4<|s4<|s6<|s4<|s4<|s4 ?_
     exact Ea (k+1,p63.1,((N0 (c6.take g) ((grF (exF l) c6).2.1.take g)++(((grF (exF l) c6).1.take k).filter λx=>decide (x.1=(g:Int))).map (λ_=>c6[g])).length+1),p63.2) ⟨oz,trivial⟩
    ·refine Eu<|r8 Z<|v6<|o6<|Et<|Ez Z3<|Em Z<|Yad Z om om<|Ei Z<|Eu<|U1 (a4G (x:=((grF (exF l) c6).1)[k]) oi42_0 oi42_1) Z<|g9 (congrArg (ow Q6 [_])<|List.set_getElem_self om)<|d8<|g9 (congrArg (ow v8 [_]) (show _=N0 (c6.take g) ((grF (exF l) c6).2.1.take g)++(((grF (exF l) c6).1.take (k+1)).filter λx=>decide (x.1=(g:Int))).map (λ_=>c6[g]) from by first|exact b4w om q46|exact b5l om q46))<|s4<|s4<|s4<|s6<|s4<|s4<|s4 ?_
     exact Ea (k+1,aA1_0,_,cA1_0) ⟨oz,trivial⟩
   ·refine Eu<|r8 Z<|E.exit<|l2<|l2<|u4<|o6<|Et<|Ez Z3<|Em Z<|Yad Z om om<|Ei Z<|Eu<|g9 (congrArg (ow v8 [_]) (show _=N0 (c6.take<|g+1) ((grF (exF l) c6).2.1.take (g+1)) from by exact c0x Z om om))<|s4<|s4<|s4<|s4<|s4<|s4<|s4 ?_
    exact Ea (g+1,aA1_0,_,cA1_0) ⟨oz,trivial⟩
  ·refine Eu<|r8 Z<|E.exit<|l2<|l2<|u4<|Et<|Eq_<|Ew Z4<|Em Z<|Ey Z (l4 (cs:=[_,_]) ty_Query Z (Has.pt<|mS m0) Z)<|E0 Z (a0J jtp) Z (λhA=>⟨hA.ro hs,hA.ow<|mS<|mS m0,hA.ow m0⟩)<|Ent.b (λq67=>?_)<|λq67=>?_
   ·rw[a1l om jd] at q67
    refine Yno true Z<|Eu<|Cf<|Ew Z3<|Ey Z (l4 (cs:=[_,_]) ty_Query Z (Has.pt<|mS m0) Z)<|u6<|Est Z (Ns [_,_] ty_Query Z)<|λ_ _=>Ei Z<|Eu<|E.ret<|d8<|g9 (congrArg (ow v8 [_]) (show _=J1 s l (d9,c6) by first|exact (a1l om jd).trans (R8 (q:=(d9,c6)) q15 q67).2.1|first|exact (R8 (q:=(d9,c6)) q15 q67).1|exact (R8 (q:=(d9,c6)) q15 q67).2.1|exact (R8 (q:=(d9,c6)) q15 q67).2.2|exact (R8 (q:=(d9,c6)) q15 q67).1.symm|exact (R8 (q:=(d9,c6)) q15 q67).2.1.symm|exact (R8 (q:=(d9,c6)) q15 q67).2.2.symm))<|n0<|g9 (congrArg (ow eIs [_]) (show _=J4 s l (d9,c6) by first|exact (a1l om jd).trans (R8 (q:=(d9,c6)) q15 q67).2.1|first|exact (R8 (q:=(d9,c6)) q15 q67).1|exact (R8 (q:=(d9,c6)) q15 q67).2.1|exact (R8 (q:=(d9,c6)) q15 q67).2.2|exact (R8 (q:=(d9,c6)) q15 q67).1.symm|exact (R8 (q:=(d9,c6)) q15 q67).2.1.symm|exact (R8 (q:=(d9,c6)) q15 q67).2.2.symm))<|d8<|d8 ?_
    exact a1z br Z Z Z (mS<|mS m0) ty_Query Z ((_,_,_),(_,_,_)) trivial (by rw[show (Q0 s l (d9,c6))=(true) from (by first|exact (a1l om jd).trans (R8 (q:=(d9,c6)) q15 q67).2.1|first|exact (R8 (q:=(d9,c6)) q15 q67).1|exact (R8 (q:=(d9,c6)) q15 q67).2.1|exact (R8 (q:=(d9,c6)) q15 q67).2.2|exact (R8 (q:=(d9,c6)) q15 q67).1.symm|exact (R8 (q:=(d9,c6)) q15 q67).2.1.symm|exact (R8 (q:=(d9,c6)) q15 q67).2.2.symm)];try rfl) (J:=_) (.refl _)<|.inl Z
   ·rw[a1l om jd] at q67
    refine Yno false Z<|Eu<|r9 Z<|Ew Z3<|Ey Z ((J2 (pvs:=[]) (cs:=[_,_]) ty_Query a2B Z Z).yd)<|u6<|Est Z (Ns [_,_] ty_Query Z)<|λ_ _=>Ei Z<|Eu<|E.ret<|a5h<|m8 (A:=[]) (Own.nil (E:=W5) (e:=tAtom) (a:=none)) Z<|g9 (congrArg (ow v8 [_]) (show _=J1 s l (d9,c6) by first|exact (L7<|V5 (q:=(d9,c6)) q67).1|exact (L7<|V5 (q:=(d9,c6)) q67).2.1|exact (L7<|V5 (q:=(d9,c6)) q67).2.2|exact (L7<|V5 (q:=(d9,c6)) q67).1.symm|exact (L7<|V5 (q:=(d9,c6)) q67).2.1.symm|exact (L7<|V5 (q:=(d9,c6)) q67).2.2.symm))<|m8 (A:=[]) (Own.nil (E:=Enc.int) (e:=tI) (a:=none)) Z<|g9 (congrArg (ow eIs [_]) (show _=J4 s l (d9,c6) by first|exact (L7<|V5 (q:=(d9,c6)) q67).1|exact (L7<|V5 (q:=(d9,c6)) q67).2.1|exact (L7<|V5 (q:=(d9,c6)) q67).2.2|exact (L7<|V5 (q:=(d9,c6)) q67).1.symm|exact (L7<|V5 (q:=(d9,c6)) q67).2.1.symm|exact (L7<|V5 (q:=(d9,c6)) q67).2.2.symm))<|d8<|d8 ?_
    exact a1z br Z Z Z (mS<|mS m0) ty_Query Z ((none,0,0),(none,0,0)) trivial (by rw[show (Q0 s l (d9,c6))=(false) from (by first|exact (L7<|V5 (q:=(d9,c6)) q67).1|exact (L7<|V5 (q:=(d9,c6)) q67).2.1|exact (L7<|V5 (q:=(d9,c6)) q67).2.2|exact (L7<|V5 (q:=(d9,c6)) q67).1.symm|exact (L7<|V5 (q:=(d9,c6)) q67).2.1.symm|exact (L7<|V5 (q:=(d9,c6)) q67).2.2.symm)];try rfl) (J:=_) (.refl _)<|.inl Z
 ·refine Yno false Z<|Eu<|r9 Z<|Ew Z3<|Ey Z ((J2 (pvs:=[]) (cs:=[_,_]) ty_Query a2B Z Z).yd)<|Est Z (Ns [_,_] ty_Query Z)<|λ_ _=>Ei Z<|Eu<|E.ret<|a5h<|m8 (A:=[]) (Own.nil (E:=W5) (e:=tAtom) (a:=none)) Z<|g9 (congrArg (ow v8 [_]) (show _=J1 s l (d9,c6) by first|exact (L7 (q:=(d9,c6))<|V7 q15).1|exact (L7 (q:=(d9,c6))<|V7 q15).2.1|exact (L7 (q:=(d9,c6))<|V7 q15).2.2|exact (L7 (q:=(d9,c6))<|V7 q15).1.symm|exact (L7 (q:=(d9,c6))<|V7 q15).2.1.symm|exact (L7 (q:=(d9,c6))<|V7 q15).2.2.symm))<|m8 (A:=[]) (Own.nil (E:=Enc.int) (e:=tI) (a:=none)) Z<|g9 (congrArg (ow eIs [_]) (show _=J4 s l (d9,c6) by first|exact (L7 (q:=(d9,c6))<|V7 q15).1|exact (L7 (q:=(d9,c6))<|V7 q15).2.1|exact (L7 (q:=(d9,c6))<|V7 q15).2.2|exact (L7 (q:=(d9,c6))<|V7 q15).1.symm|exact (L7 (q:=(d9,c6))<|V7 q15).2.1.symm|exact (L7 (q:=(d9,c6))<|V7 q15).2.2.symm))<|d8<|d8 ?_
  exact a1z br Z Z Z (mS<|mS m0) ty_Query Z ((none,0,0),(none,0,0)) trivial (by rw[show (Q0 s l (d9,c6))=(false) from (by first|exact (L7 (q:=(d9,c6))<|V7 q15).1|exact (L7 (q:=(d9,c6))<|V7 q15).2.1|exact (L7 (q:=(d9,c6))<|V7 q15).2.2|exact (L7 (q:=(d9,c6))<|V7 q15).1.symm|exact (L7 (q:=(d9,c6))<|V7 q15).2.1.symm|exact (L7 (q:=(d9,c6))<|V7 q15).2.2.symm)];try rfl) (J:=_) (.refl _)<|.inl Z
end Go.Proofs.YthapcdhdfaibkaaGreatDoor
