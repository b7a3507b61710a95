import Derived.Test.YthapcdhdfaibkaaGreatDoorT22
section
namespace Go.Proofs.YthapcdhdfaibkaaGreatDoor
open Go.RowKit
set_option linter.all false
theorem a7d {α:Type} {E:Enc α} {A B:List HP} {c1 c2:List Value} {x y:α} {e:TypeId} {a:Option Addr} {c:Nat} (h:Own A E c1 x) (h':Own B E c2 y):Own (Go.Proofs.YthapcdhdfaibkaaGreatDoor.row e E.k a 2 c (c1++c2)::(A++B)) (Enc.sl e E) [.slice a 2 c] [x,y]:=λw L ⟨L1,L2,h1,h2,h3⟩=>by
  obtain ⟨M1,M2,rfl,h4,h5⟩:=Sep.append.1 h3
  exact ⟨a,2,c,c1++c2,L1,M1++M2,Z,Z,by decide,h1,⟨c1,c2,M1,M2,Z,Z,h _ _ h4,a3I<|h' _ _ h5⟩,h2⟩
end Go.Proofs.YthapcdhdfaibkaaGreatDoor
end
section
namespace Go.Proofs.YthapcdhdfaibkaaGreatDoor
open Go.RowKit
set_option linter.all false
set_option maxHeartbeats 2000000
attribute [local irreducible] Nop Yd Yp Ent Has Tr FnP FnP2 Src K8 Q7 R5 S1 E8
variable {c6 d6:List IL} {d9 head:List Int} {u5 r6 s9 o0 m_facts c_facts m_head c_head:Nat} {r7 o1 a_facts a_head:Option Addr}
theorem a2A (hqa:c6.length≤4) (hqt:∀a∈c6,a.2.length≤3) (hf:∀a∈c6,Few a d6) (hqh:d9.length≤1048576):Tr Tryz.prog 319 [.agg #[.slice r7 u5 r6,.slice o1 s9 o0],.slice a_facts m_facts c_facts,.slice a_head m_head c_head] (λw L=>Ro w L eIs [.slice r7 u5 r6] d9∧Ro w L v8 [.slice o1 s9 o0] c6∧Ro w L t7 [.slice a_facts m_facts c_facts] d6∧Ro w L eIs [.slice a_head m_head c_head] head) [] (κ:=(SL)×(SL)) (λk=>True) (λk=>.tuple #[.agg #[.slice k.1.1 k.1.2.1 k.1.2.2,.slice k.2.1 k.2.2.1 k.2.2.2],.bool ((B1 c6 d6).any (a0Z d9 head))]) (λk=>[ow eIs [.slice k.1.1 k.1.2.1 k.1.2.2] ((V4 (B1 c6 d6) d9 head).1),ow eIs [.slice k.2.1 k.2.2.1 k.2.2.2] ((V4 (B1 c6 d6) d9 head).2)]):=by
 refine Ti3 Tryz.func319 26 Z λw L hR=>?_
 obtain ⟨s7,o2,hfacts,hhead⟩:=hR
 obtain ⟨rfl,I8⟩:=s7.slen
 obtain ⟨rfl,G9⟩:=o2.slen
 obtain ⟨rfl,lfacts⟩:=hfacts.slen
 obtain ⟨rfl,lhead⟩:=hhead.slen
 have jb:=b1b (d6:=d6) hf hqa hqt
 refine Ew Z3<|Est Z (N.box (cs:=[_,_]) Z dc Z)<|λb3 _=>Est Z (N.alloc ty_Binding dc)<|λb6 _=>Ei Z<|Eu<|Eq_<|Ew Z5<|Ey Z (l4 (cs:=[_,_]) ty_Query Z (Has.pt<|mS m0) Z)<|Em Z<|El Z (a4z fo fo fo) Z (λhA=>⟨hA.ro s7,hA.ro o2,hA.ro hfacts⟩)<|λa12 c12 l12=>Yln us_Bindings Z<|Em Z<|Eu<|E.block<|b2p<|Lo (κ:=Nat) (λg=>g≤(B1 c6 d6).length∧(B1 c6 d6).any (a0Z d9 head)=((B1 c6 d6).drop g).any (a0Z d9 head)∧V4 (B1 c6 d6) d9 head=V4 ((B1 c6 d6).drop g) d9 head) (λg=>[(2,.slice a_head head.length c_head),(3,.pointer<|some ⟨b3,0,none⟩),(6,.pointer<|some ⟨b6,0,none⟩),(12,.slice a12 (B1 c6 d6).length c12),(13,.int .i64 (↑((B1 c6 d6).length):Int)),(14,.int .i64 (g:Int))]) (λg=>[owd tBinding J7 a12 ((B1 c6 d6).length) c12 (B1 c6 d6) g,pt b6 114 [.slice none 0 0,.slice none 0 0],pt b3 28 [.slice r7 d9.length r6,.slice o1 c6.length o0]]) (λg=>(B1 c6 d6).length-g) (0) ⟨Nat.zero_le _,by simp⟩<|λg pg=>?_
 try dsimp only
 obtain ⟨pk,pa⟩:=pg
 refine Ew Z1<|Ylt Z<|l3 (λq15=>?_)<|λq15=>?_
 ·refine b0y m0 om λab16 ae16=>b2m (j:=g) om λce16=>d8<|a5g λoa16_0 om16_0 oc16_0 oa16_1 om16_1 oc16_1 oe16 on16_0 on16_1=>?_
  subst oe16
  subst on16_0
  subst on16_1
  refine f0 m0 λ_ ol16_0=>f0 (mS m0) λ_ ol16_1=>Eu<|Eq_<|Ct<|Eq_<|E.block<|Ew Z4<|Ix us_Bindings ty_Binding Z ae16 g Z om<|Ey Z (l4 (cs:=[_,_]) ty_Binding Z (Has.owt ae16<|mS<|mS m0) Z)<|Est Z (N.alloc ty_Binding dc)<|λb9 _=>Est Z (Ns [_,_] ty_Binding Z)<|λ_ _=>Ev Z5<|Ey Z (l4 (cs:=[_,_]) ty_Query Z (Has.pt<|mS<|mS<|mS<|mS<|mS m0) Z)<|Ey Z (l4 (cs:=[_,_]) ty_Binding Z (Has.pt m0) Z)<|El Z (a2L fo) Z (λhA=>⟨hA.ro s7,hA.ro o2,hA.ow<|mS m0,hA.ow<|mS<|mS m0⟩)<|λa20 c20 l20=>Em Z<|E0 Z a1v Z (λhA=>⟨hA.ow m0,hA.ro hhead⟩)<|Ent.b (λq22=>?_)<|λq22=>?_
  ·refine Eu<|r9 Z<|Ew Z3<|Ey Z (l4 (cs:=[_,_]) ty_Binding Z (Has.pt<|mS m0) Z)<|u6<|Est Z (Ns [_,_] ty_Binding Z)<|λ_ _=>Ei Z<|Eu<|E.ret<|v7<|a5h<|a5h<|v7<|a5h<|s6<|g9 (congrArg (ow eIs [_]) (show _=(V4 (B1 c6 d6) d9 head).2 by grind[a1X,a2p,a0Z,d1,d2,t1,t2]))<|s6<|g9 (congrArg (ow eIs [_]) (show _=(V4 (B1 c6 d6) d9 head).1 by grind[a1X,a2p,a0Z,d1,d2,t1,t2]))<|d8<|d8 ?_
   exact a1z br Z Z Z (mS<|mS m0) ty_Binding Z ((_,_,_),(_,_,_)) trivial (by rw[show ((B1 c6 d6).any (a0Z d9 head))=(true) from (by grind[a1X,a2p,a0Z,d1,d2,t1,t2])];try rfl) (J:=_) (.refl _)<|.inl Z
  ·refine Eu<|r8 Z<|v6<|o6<|Et<|Ez Z2<|Yad Z om om<|Em Z<|Eu<|s6<|a6v<|d8<|Ent.drop<|d8<|Ent.drop<|d8<|Ent.drop<|d8<|Ent.drop<|i9<|i9<|i9 ?_
   exact Ea (g+1) ⟨oz,(show (B1 c6 d6).any (a0Z d9 head)=((B1 c6 d6).drop (g+1)).any (a0Z d9 head)∧V4 (B1 c6 d6) d9 head=V4 ((B1 c6 d6).drop (g+1)) d9 head from by grind[a1X,a2p,a0Z,d1,d2,t1,t2])⟩
 ·refine Eu<|Eq_<|r8 Z<|E.exit<|l2<|l2<|u4<|Et<|Ew Z3<|Ey Z ((J2 (pvs:=[]) (cs:=[_,_]) ty_Binding pl_Binding Z Z).yd)<|d8<|Est Z (Ns [_,_] ty_Binding Z)<|λ_ _=>Ei Z<|Eu<|E.ret<|m8 (A:=[]) (Own.nil (E:=Enc.int) (e:=tI) (a:=none)) Z<|g9 (congrArg (ow eIs [_]) (show _=(V4 (B1 c6 d6) d9 head).2 by grind[a1X,a2p,a0Z,d1,d2,t1,t2]))<|m8 (A:=[]) (Own.nil (E:=Enc.int) (e:=tI) (a:=none)) Z<|g9 (congrArg (ow eIs [_]) (show _=(V4 (B1 c6 d6) d9 head).1 by grind[a1X,a2p,a0Z,d1,d2,t1,t2]))<|d8<|d8 ?_
  exact a1z br Z Z Z (mS<|mS m0) ty_Binding Z ((none,0,0),(none,0,0)) trivial (by rw[show ((B1 c6 d6).any (a0Z d9 head))=(false) from (by grind[a1X,a2p,a0Z,d1,d2,t1,t2])];try rfl) (J:=_) (.refl _)<|.inl Z
theorem c6X (hqa:c6.length≤4) (hqt:∀a∈c6,a.2.length≤3) (hf:∀a∈c6,Few a d6) (hqh:d9.length≤1048576):Tr Tryz.prog 252 [.agg #[.slice r7 u5 r6,.slice o1 s9 o0],.slice a_facts m_facts c_facts,.slice a_head m_head c_head] (λw L=>Ro w L eIs [.slice r7 u5 r6] d9∧Ro w L v8 [.slice o1 s9 o0] c6∧Ro w L t7 [.slice a_facts m_facts c_facts] d6∧Ro w L eIs [.slice a_head m_head c_head] head) [] (κ:=(SL)×(SL)) (λk=>True) (λk=>.tuple #[.agg #[.slice k.1.1 k.1.2.1 k.1.2.2,.slice k.2.1 k.2.2.1 k.2.2.2],.bool ((B1 c6 d6).any (a0Z d9 head))]) (λk=>[ow eIs [.slice k.1.1 k.1.2.1 k.1.2.2] ((V4 (B1 c6 d6) d9 head).1),ow eIs [.slice k.2.1 k.2.2.1 k.2.2.2] ((V4 (B1 c6 d6) d9 head).2)]):=by
 refine Ti3 Tryz.func252 33 Z λw L hR=>?_
 obtain ⟨s7,o2,hfacts,hhead⟩:=hR
 obtain ⟨rfl,I8⟩:=s7.slen
 obtain ⟨rfl,G9⟩:=o2.slen
 obtain ⟨rfl,lfacts⟩:=hfacts.slen
 obtain ⟨rfl,lhead⟩:=hhead.slen
 have jb:=b1b (d6:=d6) hf hqa hqt
 refine Ew Z3<|Est Z (N.box (cs:=[_,_]) Z dc Z)<|λb3 _=>Est Z (N.alloc ty_Binding dc)<|λb6 _=>Ei Z<|Ev Z4<|Ey Z (l4 (cs:=[_,_]) ty_Query Z (Has.pt<|mS m0) Z)<|Em Z<|El Z (a9g fo fo fo) Z (λhA=>⟨hA.ro s7,hA.ro o2,hA.ro hfacts⟩)<|λa12 c12 l12=>a0n (A:=[_]) Z λwb1 Lb1 hB1 hA1=>?_
 have s7:=hA1.ro s7
 have o2:=hA1.ro o2
 have hfacts:=hA1.ro hfacts
 have hhead:=hA1.ro hhead
 have rb1:Ro wb1 Lb1 B0 [.slice a12 (B1 c6 d6).length c12] (B1 c6 d6):=hA1.ow m0
 refine Ei Z<|Eu<|Eq_<|Ew Z1<|Ei Z<|Eu<|E.block<|Lo (κ:=Nat) (λg=>g≤(B1 c6 d6).length∧(B1 c6 d6).any (a0Z d9 head)=((B1 c6 d6).drop g).any (a0Z d9 head)∧V4 (B1 c6 d6) d9 head=V4 ((B1 c6 d6).drop g) d9 head) (λg=>[(2,.slice a_head head.length c_head),(3,.pointer<|some ⟨b3,0,none⟩),(6,.pointer<|some ⟨b6,0,none⟩),(8,.slice a12 (B1 c6 d6).length c12),(9,.int .i64 (g:Int))]) (λg=>[pt b6 114 [.slice none 0 0,.slice none 0 0],pt b3 28 [.slice r7 d9.length r6,.slice o1 c6.length o0]]) (λg=>(B1 c6 d6).length-g) 0 ⟨Nat.zero_le _,by simp⟩<|λg pg=>?_
 obtain ⟨pk,pa⟩:=pg
 refine Eq_<|Ew Z4<|Em Z<|Em Z<|Yln us_Bindings Z<|Ylt Z<|l3 (λq16=>?_)<|λq16=>?_
 ·refine Eu<|Ct<|Eq_<|E.block<|Eq_<|D.region (λj=>true) mixed<|Dy 0 Z (l4 (cs:=[_,_]) ty_Query Z (Has.pt<|mS m0) Z)<|Dm 1 Z<|Dm 2 Z ?_
  obtain ⟨eb22,eo22,ec22,ea22,er22,el22,eh22⟩:=rb1.elem g om
  obtain ⟨xa22_0,xc22_0,xa22_1,xc22_1,rfl,xh22_0,xh22_1⟩:=a4g er22
  have:=xh22_0.slen.2
  have:=xh22_1.slen.2
  refine Dyp 3 Z (y6 us_Bindings ty_Binding Z ea22 Z g Z om)<|Dy 4 Z (l4 (cs:=[_,_]) ty_Binding Z (eh22 _) Z)<|Dm 6 Z<|Dl 5 Z (a6p fo) Z (λhA=>⟨hA.ro s7,hA.ro o2,hA.ro xh22_0,hA.ro xh22_1⟩)<|λa24 c24 l24=>D0 7 Z a2b Z (λhA=>⟨hA.ow m0,hA.ro hhead⟩)<|Ent.b (λq26=>?_)<|λq26=>?_
  ·refine o4 kr<|Et<|r9 Z<|Ew Z7<|Em Z<|Em Z<|Ix us_Bindings ty_Binding Z ea22 g Z om<|Ey Z (l4 (cs:=[_,_]) ty_Binding Z (eh22 _) Z)<|Est Z (N.call (b3t (Nat.le_trans (jb.2 _<|List.getElem_mem om).1 dc)<|Nat.le_trans (jb.2 _<|List.getElem_mem om).2 dc) Z Z Z dc Z<|λw Lp hA=>⟨hA.ro xh22_0,hA.ro xh22_1⟩)<|λk31 _=>?_
   obtain ⟨⟨a31_0,m31_0,c31_0⟩,⟨a31_1,m31_1,c31_1⟩⟩:=k31
   refine f0 m0 ?_
   rintro rfl l31_0
   refine f0 (mS m0) ?_
   rintro rfl l31_1
   refine n0<|Est Z (Ns [_,_] ty_Binding Z)<|λ_ _=>Ei Z<|Eu<|E.ret<|v7<|a5h<|a5h<|v7<|a5h<|i9<|g9 (congrArg (ow eIs [_]) (show _=(V4 (B1 c6 d6) d9 head).2 by grind[a1X,a2p,a0Z,d1,d2,t1,t2]))<|i9<|g9 (congrArg (ow eIs [_]) (show _=(V4 (B1 c6 d6) d9 head).1 by grind[a1X,a2p,a0Z,d1,d2,t1,t2]))<|d8<|d8 ?_
   exact a1z hB1 Z Z Z (mS<|mS m0) ty_Binding Z ((_,_,_),(_,_,_)) trivial (by rw[show ((B1 c6 d6).any (a0Z d9 head))=(true) from (by grind[a1X,a2p,a0Z,d1,d2,t1,t2])];try rfl) (J:=_) (.refl _)<|.inl Z
  ·refine o4 kr<|Et<|r8 Z<|v6<|o6<|Et<|Ez Z3<|Em Z<|Yad Z om om<|Ei Z<|Eu<|Ent.drop<|d8<|d8 ?_
   exact u7 br (g+1) rs (.refl _) ⟨by omega,by grind[a1X,a2p,a0Z,d1,d2,t1,t2]⟩ om
 ·refine Eu<|r8 Z<|E.exit<|l2<|l2<|u4<|Et<|Ew Z3<|Ey Z ((J2 (pvs:=[]) (cs:=[_,_]) ty_Binding pl_Binding Z Z).yd)<|Est Z (Ns [_,_] ty_Binding Z)<|λ_ _=>Ei Z<|Eu<|E.ret<|m8 (A:=[]) (Own.nil (E:=Enc.int) (e:=tI) (a:=none)) Z<|g9 (congrArg (ow eIs [_]) (show _=(V4 (B1 c6 d6) d9 head).2 by grind[a1X,a2p,a0Z,d1,d2,t1,t2]))<|m8 (A:=[]) (Own.nil (E:=Enc.int) (e:=tI) (a:=none)) Z<|g9 (congrArg (ow eIs [_]) (show _=(V4 (B1 c6 d6) d9 head).1 by grind[a1X,a2p,a0Z,d1,d2,t1,t2]))<|d8<|d8 ?_
  exact a1z hB1 Z Z Z (mS<|mS m0) ty_Binding Z ((none,0,0),(none,0,0)) trivial (by rw[show ((B1 c6 d6).any (a0Z d9 head))=(false) from (by grind[a1X,a2p,a0Z,d1,d2,t1,t2])];try rfl) (J:=_) (.refl _)<|.inl Z
theorem a4q {rel:Int} {a_terms:Option Addr} {m_terms c_terms:Nat} {terms:List Int} (hz:terms.length≤1048576):Tr Tryz.prog 247 [.int .i64 rel,.slice a_terms m_terms c_terms] (λw L=>I64 rel∧Ro w L eIs [.slice a_terms m_terms c_terms] terms) [] (κ:=SL) (λk=>True) (λk=>.agg #[.int .i64 rel,.slice k.1 k.2.1 k.2.2]) (λk=>[ow eIs [.slice k.1 k.2.1 k.2.2] terms]):=by
 refine Ti2 Tryz.func247 10 Z λw L hR=>?_
 obtain ⟨i6rel,hterms⟩:=hR
 obtain ⟨rfl,lterms⟩:=hterms.slen
 refine Ew Z1<|Est Z (N.alloc ty_Atom dc)<|λb4 _=>Ev Z6<|Em Z<|Est Z (Nb [] [] us_Is j8 Z Z)<|λb6 _=>Ent.drop<|Em Z<|Est Z (M9 (E:=Enc.int) Plain.int us_Is j8 Z Z Z hterms bn bn dc)<|λp8 _=>Ey Z ((J2 (pvs:=[_,_]) (cs:=[_,_]) ty_Atom a8X Z Z).yd)<|d8<|Est Z (Ns [_,_] ty_Atom Z)<|λ_ _=>Eu<|E.ret<|d8<|N7 br Z Z (mS m0) ty_Atom Z (_,_,_) trivial Z (J:=_) (.refl _)<|.inl Z
theorem a2W (hqh:d9.length≤1048576) (hqn:c6.length≤1048576) (hqt:∀a∈c6,a.2.length≤1048576):Tr Tryz.prog 240 [.agg #[.slice r7 u5 r6,.slice o1 s9 o0]] (λw L=>Ro w L eIs [.slice r7 u5 r6] d9∧Ro w L v8 [.slice o1 s9 o0] c6) [] (κ:=(SL)×(SL)) (λk=>True) (λk=>.agg #[.slice k.1.1 k.1.2.1 k.1.2.2,.slice k.2.1 k.2.2.1 k.2.2.2]) (λk=>[ow eIs [.slice k.1.1 k.1.2.1 k.1.2.2] d9,ow v8 [.slice k.2.1 k.2.2.1 k.2.2.2] c6]):=by
 refine Ti1 Tryz.func240 36 Z λw L hR=>?_
 obtain ⟨s7,o2⟩:=hR
 obtain ⟨rfl,I8⟩:=s7.slen
 obtain ⟨rfl,G9⟩:=o2.slen
 have jv:=o2.i64A
 refine Ew Z2<|Est Z (N.box (cs:=[_,_]) Z dc Z)<|λb1 _=>Est Z (N.alloc ty_Query dc)<|λb2 _=>Ev Z7<|Est Z (Nb [] [] us_Is j8 Z Z)<|λb5 _=>Ent.drop<|Lz fo_Query_0 ty_Is Z (mS m0) Z<|Est Z (M9 (E:=Enc.int) Plain.int us_Is j8 Z Z Z s7 bn bn dc)<|λp8 _=>Ey Z ((J2 (pvs:=[_]) (cs:=[_,_]) ty_Query a2B Z Z).yd)<|Est Z (N.alloc ty_Query dc)<|λb3 _=>Est Z (Ns [_,_] ty_Query Z)<|λ_ _=>Eu<|Eq_<|Ew Z1<|Ei Z<|Eu<|E.block<|m8 (A:=[]) (Own.nil (E:=W5) (e:=tAtom) (a:=none)) Z<|g9 (congrArg (ow v8 [_]) (show _=c6.take 0 from by first|rfl|(simp;done)|grind[d1,d2,t1,t2]))<|Lo (κ:=Nat×SL) (λg=>g.1≤c6.length∧True) (λg=>[(1,.pointer<|some ⟨b1,0,none⟩),(2,.pointer<|some ⟨b2,0,none⟩),(3,.pointer<|some ⟨b3,0,none⟩),(4,.int .i64 (↑g.1:Int))]) (λg=>[ow v8 [.slice g.2.1 g.2.2.1 g.2.2.2]<|c6.take g.1,pt b3 28 [.slice p8.1 d9.length p8.2,.slice g.2.1 g.2.2.1 g.2.2.2],ow eIs [.slice p8.1 d9.length p8.2] d9,pt b2 28 [.slice none 0 0,.slice none 0 0],pt b1 28 [.slice r7 d9.length r6,.slice o1 c6.length o0]]) (λg=>c6.length-g.1) (0,none,0,0) ⟨Nat.zero_le _,by simp⟩<|λg pg=>?_
 obtain ⟨g,aA0_0,mA0_0,cA0_0⟩:=g
 try dsimp only at pg
 try dsimp only
 obtain ⟨pk,pa⟩:=pg
 refine f0 m0 ?_
 rintro rfl laA0_0
 refine Eq_<|Ew Z5<|Em Z<|Lz fo_Query_1 ty_Atoms Z (mS<|mS<|mS<|mS m0) Z<|Yln us_Atoms Z<|Ylt Z<|l3 (λq14=>?_)<|λq14=>?_
 ·refine Eu<|Ct<|Eq_<|E.block<|D.region (λj=> !(Nat.beq j 16)&& !(Nat.beq j 18)) mixed<|Df 0 1 fo_Query_1 ty_Atoms Z (Hz (mS m0) 1 Z)<|Df 2 3 fo_Query_1 ty_Atoms Z (Hz (mS<|mS<|mS<|mS m0) 1 Z)<|Dm 4 Z ?_
  obtain ⟨eb22,eo22,ec22,ea22,er22,el22,eh22⟩:=o2.elem g om
  obtain ⟨xa22_0,xc22_0,rfl,ei22_0,xh22_0⟩:=L6 er22
  have:=xh22_0.slen.2
  refine Dyp 5 Z (y6 us_Atoms ty_Atom Z ea22 Z g Z om)<|Df 6 7 fo_Atom_0 j8 Z (Hs (eh22 _) 0 Z)<|Df 8 9 fo_Query_1 ty_Atoms Z (Hz (mS<|mS<|mS<|mS m0) 1 Z)<|Dm 10 Z<|Dyp 11 Z (y6 us_Atoms ty_Atom Z ea22 Z g Z om)<|Df 12 13 fo_Atom_1 ty_Is Z (Hs (eh22 _) 1 Z)<|w6 14 Z Z kr (λ_=>rfl) (N.call (a4q<|hqt _<|List.getElem_mem om) Z Z Z dc Z<|λw Lp hA=>⟨ei22_0,hA.ro xh22_0⟩)<|λk31 _=>?_
  obtain ⟨a31,m31,c31⟩:=k31
  refine f0 m0 ?_
  rintro rfl l31
  refine w6 15 Z Z kr (λ_=>rfl) (Nb [_] [_,_] us_Atoms ty_Atom Z Z)<|λb32 _=>d8<|d8<|i9<|w6 16 Z Z kr (λh=>by cases h) (w3 (E:=W5) (ex:=c6[g]) us_Atoms ty_Atom Z Z Z (O3 (x:=c6[g]) ei22_0 Own.ow) Z bn bn dc)<|λp33 _=>Dyp 17 Z (D3 fo_Query_1 ty_Atoms dc Z)<|d8<|w6 18 Z Z kr (λh=>by cases h) (Ns [_,_] ty_Atoms rfl)<|λ_ _=>o4 kr<|o6<|Et<|Ez Z3<|Em Z<|Yad Z om om<|Ei Z<|Eu<|d8<|g9 (congrArg (ow v8 [_]) (show _=c6.take (g+1) from by grind[d1,d2,t1,t2]))<|s6<|s6<|s6<|s6<|s6 ?_
  exact Ea (g+1,p33.1,((c6.take g).length+1),p33.2) ⟨oz,trivial⟩
 ·refine Eu<|r8 Z<|E.exit<|l2<|l2<|u4<|Et<|Ew Z2<|Ey Z (l4 (cs:=[_,_]) ty_Query Z (Has.pt<|mS m0) Z)<|n0<|Est Z (Ns [_,_] ty_Query Z)<|λ_ _=>Eu<|E.ret<|d8<|g9 (congrArg (ow v8 [_]) (show _=c6 by grind[d1,d2,t1,t2]))<|n0<|d8<|d8<|N7 br Z Z (mS<|mS m0) ty_Query Z ((_,_,_),(_,_,_)) trivial Z (J:=_) (.refl _)<|.inl Z
theorem a5Y {a_s:Option Addr} {m_s c_s:Nat} {s:List Int} {n:Int} (hs:s=[]) (hc:c_s=0) (hn:0≤n∧n≤1048576):Tr Tryz.prog 365 [.slice a_s m_s c_s,.int .i64 n] (λw L=>True) [ow eIs [.slice a_s m_s c_s] s] (κ:=SL) (λk=>True) (λk=>.slice k.1 k.2.1 k.2.2) (λk=>[ow eIs [.slice k.1 k.2.1 k.2.2] s]):=by
 refine Ti2 Tryz.func365 27 Z λw L hR=>f0 m0 λes ls=>?_
 subst es
 refine a4b λcs hcs=>?_
 replace hcs:cs.length=s.length*1:=hcs
 show Ent _ _ _ _ (row tI 1 a_s s.length c_s cs::_) _
 refine a2D (mS m0) λh1s=>a3X m0 λhms=>?_
 have hs0:s.length=0:=by simp[hs]
 refine Ew Z1<|Ei Z<|Eu<|Eq_<|Ew Z2<|Em Z<|Ylt Z<|l3 (λq6=>?_)<|λq6=>?_
 ·exact absurd q6 om
 ·refine Eu<|Cf<|Eq_<|Ew Z8<|Em Z<|Em Z<|Ey Z ((Y.cap us_Is Z).yd)<|Em Z<|Yln us_Is Z<|Ey Z ((Y.sub Z Z om om).yd)<|Ey Z ((Y.sub Z Z om om).yd)<|Ei Z<|Ev Z2<|Em Z<|Ey Z ((Y.gtr Z Z).yd)<|l3 (λq16=>?_)<|λq16=>?_
  ·refine Eu<|r9 Z<|Ez Z10<|Em Z<|Em Z<|Ey Z ((Y.cap us_Is Z).yd)<|Ey Z ((a2T (h:=c_s) us_Is j8 Z Z om).yd)<|Em Z<|Est Z (b5C (zn:=n.toNat) us_Is kr j8 dc Z Z om om om m0 om om om dc)<|λp22 hp22=>?_
   obtain ⟨pb22,pc22,pz22⟩:=p22
   obtain ⟨hp22,hq22⟩:=hp22
   try dsimp only at hp22 hq22
   refine Em Z<|Yln us_Is Z<|Ey Z ((a2T (h:=s.length) us_Is j8 Z Z om).yd)<|Ei Z<|Ev Z2<|Em Z<|Ei Z<|Eu<|E.ret<|Ent.shr (m':=s.length) om<|g9 (congrArg (row tI 1 (some ⟨pb22,0,none⟩) s.length pc22) (show _=cs from (List.eq_nil_of_length_eq_zero (by simp[hs0])).trans (List.eq_nil_of_length_eq_zero (by simp[hcs,hs0])).symm))<|i9<|d8<|a1M (E:=Enc.int) Z mx<|Fg Z Z (_,_,_) Z Z
  ·refine Eu<|Cf<|Ew Z2<|Em Z<|Ei Z<|Eu<|E.ret<|d8<|d8<|a1M (E:=Enc.int) Z mx<|Fg Z Z (_,_,_) Z Z
theorem U7 {a_l:Option Addr} {m_l c_l:Nat} {l:List (List Int)} (hz:a0v l≤1048576):TL Tryz.prog 317 [.slice a_l m_l c_l] (λw L=>Ro w L D5 [.slice a_l m_l c_l] l) eIs l.flatten:=by
 refine Ti1 Tryz.func317 36 Z λw L hR=>?_
 have hl:=hR
 obtain ⟨rfl,ll⟩:=hl.slen
 refine Ew Z1<|Ei Z<|Ev Z1<|Ei Z<|Eu<|Eq_<|Ew Z3<|Em Z<|Yln us_Iss Z<|Em Z<|Eu<|E.block<|E.loop (κ:=Nat) (λg=>g≤l.length∧True) (λg=>[(0,.slice a_l l.length c_l),(3,.int .i64 (↑(a0v<|l.take g):Int)),(9,.slice a_l l.length c_l),(10,.int .i64 (↑l.length:Int)),(11,.int .i64 (g:Int))]) (λg=>[]) (λg=>l.length-g) (0) ⟨Nat.zero_le _,by simp⟩ ⟨Z,frI (by first|rfl|(simp;done)|grind[a2q,a5c,d1,d2,t1,t2]),Z,Z,Z,trivial⟩ (.refl _)<|λg pg=>?_
 try dsimp only
 obtain ⟨pk,pa⟩:=pg
 have js:=a5u (l:=l) (g:=g)
 have js1:=a5u (l:=l) (g:=g+1)
 refine Ew Z1<|Ylt Z<|l3 (λq12=>?_)<|λq12=>?_
 ·have jk0:a0v (l.take (g+1))=a0v (l.take g)+l[g].length:=by rw[List.take_succ_eq_append_getElem om,a2q]
  obtain ⟨eb13,eo13,ec13,ea13,er13,el13,eh13⟩:=hl.elem g om
  obtain ⟨xa13,xc13,rfl⟩:=er13.sl
  have:=er13.slen.2
  refine Eu<|Eq_<|Ct<|Eq_<|E.block<|Ew Z3<|Il us_Iss ty_Is Z ea13 g Z om Z (eh13 _)<|Ei Z<|Ev Z5<|Em Z<|Em Z<|Yln us_Is Z<|Yad Z om om<|Ei Z<|Ev Z2<|Em Z<|Ylt Z<|l3 (λq20=>?_)<|λq20=>?_
  ·exact absurd q20 om
  ·refine Eu<|r8 Z<|v6<|o6<|Et<|Ez Z2<|Yad Z om om<|Em Z ?_
   exact Eu<|u7 br (g+1) ⟨Z,frI (by grind[a2q,a5c,d1,d2,t1,t2]),Z,Z,Z,trivial⟩ (.refl _) ⟨oz,trivial⟩ oz
 ·refine Eu<|Eq_<|r8 Z<|E.exit<|l2<|l2<|u4<|Et<|Ew Z3<|Em Z<|m8 (A:=[]) (Own.nil (E:=Enc.int) (e:=tI) (a:=none)) Z<|Est Z (N.call (pre:=[_]) (a5Y Z Z om) Z Z Z dc Z tv)<|λk24 _=>?_
  obtain ⟨a24,m24,c24⟩:=k24
  refine f0 m0 ?_
  rintro rfl l24
  refine Ei Z<|Eu<|Eq_<|Ew Z3<|Em Z<|Yln us_Iss Z<|Em Z<|Eu<|E.block<|g9 (congrArg (ow eIs [_]) (show _=(l.take 0).flatten from by first|rfl|(simp;done)|grind[a2q,a5c,d1,d2,t1,t2]))<|Lo (κ:=Nat×SL) (λr=>r.1≤l.length∧True) (λr=>[(6,.slice r.2.1 r.2.2.1 r.2.2.2),(25,.slice a_l l.length c_l),(26,.int .i64 (↑l.length:Int)),(27,.int .i64 (↑r.1:Int))]) (λr=>[ow eIs [.slice r.2.1 r.2.2.1 r.2.2.2]<|(l.take r.1).flatten]) (λr=>l.length-r.1) (0,a24,(([])).length,c24) ⟨Nat.zero_le _,by simp⟩<|λr pr=>?_
  obtain ⟨r,aA1_0,mA1_0,cA1_0⟩:=r
  try dsimp only at pr
  try dsimp only
  obtain ⟨pk,pa⟩:=pr
  have jt:=a5u (l:=l) (g:=r)
  have ju:=b5P (l:=l.take r)
  have jt1:=a5u (l:=l) (g:=r+1)
  refine f0 m0 ?_
  rintro rfl laA1_0
  refine Ew Z1<|Ylt Z<|l3 (λq28=>?_)<|λq28=>?_
  ·have jk:a0v (l.take (r+1))=a0v (l.take r)+l[r].length:=by rw[List.take_succ_eq_append_getElem om,a2q]
   obtain ⟨eb29,eo29,ec29,ea29,er29,el29,eh29⟩:=hl.elem r om
   obtain ⟨xa29,xc29,rfl⟩:=er29.sl
   have:=er29.slen.2
   refine Eu<|Eq_<|Ct<|Eq_<|E.block<|Ew Z3<|Il us_Iss ty_Is Z ea29 r Z om Z (eh29 _)<|Ei Z<|Eu<|Ez Z4<|Em Z<|Em Z<|Est Z (b6Z (E:=Enc.int) Plain.int us_Is j8 Z Z Z er29 Z bn bn dc)<|λp33 _=>Ei Z<|En<|o6<|Et<|Ez Z2<|Yad Z om om<|Em Z<|Eu<|g9 (congrArg (ow eIs [_]) (show _=(l.take<|r+1).flatten from by grind[a2q,a5c,d1,d2,t1,t2])) ?_
   exact Ea (r+1,p33.1,(((l.take r).flatten).length+l[r].length),p33.2) ⟨oz,trivial⟩
  ·refine Eu<|Eq_<|r8 Z<|E.exit<|l2<|l2<|u4<|Et<|Ew Z2<|Em Z<|Ei Z<|Eu<|E.ret<|g9 (congrArg (ow eIs [_]) (show _=l.flatten by grind[a2q,a5c,d1,d2,t1,t2]))<|Fg Z Z (_,_,_) Z Z
end Go.Proofs.YthapcdhdfaibkaaGreatDoor
end
