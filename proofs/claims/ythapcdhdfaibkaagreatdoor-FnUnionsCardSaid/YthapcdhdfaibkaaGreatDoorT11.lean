import Derived.Test.YthapcdhdfaibkaaGreatDoorT6
import Derived.Test.YthapcdhdfaibkaaGreatDoorBf
namespace Go.Proofs.YthapcdhdfaibkaaGreatDoor
open Go.RowKit
set_option linter.all false
set_option maxHeartbeats 2000000
attribute [local irreducible] Nop Yd Yp Ent Has Tr FnP FnP2 Src K8 Q7 R5 S1 E8
variable {x t l6:Int} {c6:List IL} {u:List (List Int×List IL)} {d9 l s f9:List Int} {u5 r6 s9 o0 m_l c_l m_s c_s C0 w4 b_s m_u c_u:Nat} {r7 o1 a_l a_s w5 a_u:Option Addr}
theorem a5Z {a_atoms:Option Addr} {m_atoms c_atoms:Nat} {d7:List IL} {is_g:FuncId} {is_c:List Value} {D_is:Int→Prop} {is:Int→Bool} (hz:D8 (λx=>x.2.length) d7≤1048576) (hD_is:∀a∈d7,∀x∈a.2,D_is x):TL Tryz.prog 121 [.slice a_atoms m_atoms c_atoms,.func (.func is_g) #[] is_c.toArray] (λw L=>Ro w L v8 [.slice a_atoms m_atoms c_atoms] d7∧FnP Tryz.prog w L is_g is_c Enc.int a7z D_is is) eIs (k7 is d7):=by
 refine Ti2 Tryz.func121 37 Z λw L hR=>?_
 obtain ⟨hatoms,his⟩:=hR
 obtain ⟨rfl,latoms⟩:=hatoms.slen
 refine Ew Z1<|Ei Z<|Ev Z2<|Est Z (Nb [] [] us_Is j8 Z Z)<|λb10 _=>Ent.drop<|Ei Z<|Eu<|Eq_<|Ew Z3<|Em Z<|Yln us_Atoms Z<|Em Z<|Eu<|E.block<|m8 (A:=[]) (Own.nil (E:=Enc.int) (e:=tI) (a:=(some ⟨b10,0,none⟩))) Z<|g9 (congrArg (ow eIs [_]) (show _=((d7.take 0).flatMap (λa:IL=>a.2)).filter is from by first|rfl|(simp;done)|grind[k7,a1I,d1,d2,t1,t2]))<|Lo (κ:=Nat×SL) (λg=>g.1≤d7.length∧True) (λg=>[(1,.func (.func is_g) #[] is_c.toArray),(5,.slice g.2.1 g.2.2.1 g.2.2.2),(11,.slice a_atoms d7.length c_atoms),(12,.int .i64 (↑d7.length:Int)),(13,.int .i64 (↑g.1:Int))]) (λg=>[ow eIs [.slice g.2.1 g.2.2.1 g.2.2.2]<|((d7.take g.1).flatMap (λa:IL=>a.2)).filter is]) (λg=>d7.length-g.1) (0,(some ⟨b10,0,none⟩),0,0) ⟨Nat.zero_le _,by simp⟩<|λg pg=>?_
 obtain ⟨g,aA0_0,mA0_0,cA0_0⟩:=g
 try dsimp only at pg
 try dsimp only
 obtain ⟨pk,pa⟩:=pg
 have jt:=b8Y (is:=is) (g:=g) hz
 refine f0 m0 ?_
 rintro rfl laA0_0
 refine Ew Z1<|Ylt Z<|l3 (λq14=>?_)<|λq14=>?_
 ·obtain ⟨eb15,eo15,ec15,ea15,er15,el15,eh15⟩:=hatoms.elem g om
  obtain ⟨xa15_0,xc15_0,rfl,ei15_0,xh15_0⟩:=L6 er15
  have:=xh15_0.slen.2
  refine Eu<|Eq_<|Ct<|Eq_<|E.block<|Ew Z4<|Ix us_Atoms ty_Atom Z ea15 g Z om<|Ey Z (l4 (cs:=[_,_]) ty_Atom Z (eh15 _) Z)<|Est Z (N.alloc ty_Atom dc)<|λb7 _=>Est Z (Ns [_,_] ty_Atom Z)<|λ_ _=>Ev Z4<|Lz fo_Atom_1 ty_Is Z m0 Z<|Yln us_Is Z<|Em Z<|Eu<|E.block<|d8<|g9 (congrArg (ow eIs [_]) (show _=((d7.take g).flatMap (λa:IL=>a.2)).filter is++(d7[g].2.take 0).filter is from by first|rfl|(simp;done)|grind[k7,a1I,d1,d2,t1,t2]))<|Lo (κ:=Nat×SL) (λh=>h.1≤d7[g].2.length∧True) (λh=>[(1,.func (.func is_g) #[] is_c.toArray),(5,.slice h.2.1 h.2.2.1 h.2.2.2),(11,.slice a_atoms d7.length c_atoms),(12,.int .i64 (↑d7.length:Int)),(13,.int .i64 (g:Int)),(18,.slice xa15_0 d7[g].2.length xc15_0),(19,.int .i64 (↑d7[g].2.length:Int)),(20,.int .i64 (↑h.1:Int))]) (λh=>[ow eIs [.slice h.2.1 h.2.2.1 h.2.2.2]<|((d7.take g).flatMap (λa:IL=>a.2)).filter is++(d7[g].2.take h.1).filter is,pt b7 111 [.int .i64 d7[g].1,.slice xa15_0 d7[g].2.length xc15_0]]) (λh=>d7[g].2.length-h.1) (0,aA0_0,(((d7.take g).flatMap (λa:IL=>a.2)).filter is).length,cA0_0) ⟨Nat.zero_le _,by simp⟩<|λh ph=>?_
  obtain ⟨h,aA1_0,mA1_0,cA1_0⟩:=h
  try dsimp only at ph
  try dsimp only
  obtain ⟨pk,pa⟩:=ph
  have ju:=a6S (is:=is) (g:=g) (h:=h) hz om
  refine f0 m0 ?_
  rintro rfl laA1_0
  refine Ew Z1<|Ylt Z<|l3 (λq21=>?_)<|λq21=>?_
  ·obtain ⟨eb22,eo22,ea22,ei22,eh22⟩:=xh15_0.elemI h om
   refine Eu<|Eq_<|Ct<|Eq_<|E.block<|Ew Z3<|Il us_Is j8 Z ea22 h Z om Z (eh22 _)<|Ei Z<|Ev Z3<|Em Z<|Em Z<|Est Z (N.fn (cs:=[_]) his Z Z Z dc (λw Lp hA=>W7 ei22)<|hD_is d7[g] (List.getElem_mem om) _<|List.getElem_mem om)<|λ_ _=>Ent.b (λq26=>?_)<|λq26=>?_
   ·refine Eu<|r9 Z<|Ez Z5<|Em Z<|Em Z<|Est Z (Nb [_] [_] us_Is j8 Z Z)<|λb29 _=>d8<|Est Z (w3 (E:=Enc.int) (ex:=d7[g].2[h]) us_Is j8 Z Z Z (Own.int ei22) Z bn bn dc)<|λp30 _=>Ei Z<|En<|o6<|Et<|Ez Z2<|Yad Z om om<|Em Z<|Eu<|g9 (congrArg (ow eIs [_]) (show _=((d7.take g).flatMap (λa:IL=>a.2)).filter is++(d7[g].2.take<|h+1).filter is from by grind[k7,a1I,d1,d2,t1,t2]))<|d8<|d8 ?_
    exact Ea (h+1,p30.1,((((d7.take g).flatMap (λa:IL=>a.2)).filter is++(d7[g].2.take h).filter is).length+1),p30.2) ⟨oz,trivial⟩
   ·refine Eu<|r8 Z<|v6<|o6<|Et<|Ez Z2<|Yad Z om om<|Em Z<|Eu<|g9 (congrArg (ow eIs [_]) (show _=((d7.take g).flatMap (λa:IL=>a.2)).filter is++(d7[g].2.take<|h+1).filter is from by grind[k7,a1I,d1,d2,t1,t2]))<|d8<|d8 ?_
    exact Ea (h+1,aA1_0,_,cA1_0) ⟨oz,trivial⟩
  ·refine Eu<|Eq_<|r8 Z<|E.exit<|l2<|l2<|u4<|o6<|Et<|Ez Z2<|Yad Z om om<|Em Z<|Eu<|d8<|Ent.drop<|g9 (congrArg (ow eIs [_]) (show _=((d7.take<|g+1).flatMap (λa:IL=>a.2)).filter is from by grind[k7,a1I,d1,d2,t1,t2])) ?_
   exact Ea (g+1,aA1_0,_,cA1_0) ⟨oz,trivial⟩
 ·refine Eu<|Eq_<|r8 Z<|E.exit<|l2<|l2<|u4<|Et<|Ew Z2<|Em Z<|Est Z (N.call (pre:=[_]) (c1Z fc) Z Z Z dc Z tv)<|λ_ _=>Ev Z3<|Em Z<|Est Z (N.call (pre:=[_]) b7v Z Z Z dc Z tv)<|λk36 _=>?_
  obtain ⟨a36,m36,c36⟩:=k36
  refine f0 m0 ?_
  rintro rfl l36
  refine Ei Z<|Eu<|E.ret<|g9 (congrArg (ow eIs [_]) (show _=k7 is d7 by rw[a1I];grind[k7,d1,d2,t1,t2]))<|Fg Z Z (_,_,_) Z Z
theorem b3w (hz:D8 (λx=>x.2.length) c6≤1048576):TL Tryz.prog 108 [.agg #[.slice r7 u5 r6,.slice o1 s9 o0]] (λw L=>Ro w L eIs [.slice r7 u5 r6] d9∧Ro w L v8 [.slice o1 s9 o0] c6) eIs (k7 (λt=>inR t 10 17) c6):=by
 refine Ti1 Tryz.func108 6 Z λw L hR=>?_
 obtain ⟨s7,o2⟩:=hR
 obtain ⟨rfl,I8⟩:=s7.slen
 obtain ⟨rfl,G9⟩:=o2.slen
 refine Ew Z2<|Est Z (N.box (cs:=[_,_]) Z dc Z)<|λb1 _=>Ei Z<|Ev Z4<|Lz fo_Query_1 ty_Atoms Z m0 Z<|El Z (a5Z (is:=(λt=>inR t 10 17)) (D_is:=(λ_=>True)) fc (by intros;exact trivial)) Z (λhA=>⟨hA.ro o2,a3p (D:=(λ_=>True)) (RR:=λ_ _=>True) (λhd=>c1r a1E<|λ_ _ _=>trivial)<|λw' hk=>trivial⟩)<|λa5 c5 l5=>Ei Z<|Eu<|E.ret<|Fg Z Z (_,_,_) Z Z
theorem a0Q:TB Tryz.prog 99 [.slice a_l m_l c_l,.int .i64 x] (λw L=>Ro w L eIs [.slice a_l m_l c_l] l) (H6 l x):=by
 refine Ti2 Tryz.func99 18 Z λw L hR=>?_
 have hl:=hR
 obtain ⟨rfl,ll⟩:=hl.slen
 refine Ew Z1<|Ei Z<|Eu<|Eq_<|Ew Z1<|Ei Z<|Eu<|E.block<|Lo (κ:=Nat) (λg=>g≤l.length∧H6 l x=H6 (l.drop g) x) (λg=>[(0,.slice a_l l.length c_l),(1,.int .i64 x),(5,.int .i64 (g:Int))]) (λg=>[]) (λg=>l.length-g) 0 ⟨Nat.zero_le _,by simp⟩<|λg pg=>?_
 obtain ⟨pk,pa⟩:=pg
 refine Eq_<|Ew Z4<|Em Z<|Em Z<|Yln us_Is Z<|Ylt Z<|l3 (λq9=>?_)<|λq9=>?_
 ·refine Eu<|Ct<|Eq_<|E.block<|Ew Z6<|Em Z<|Em Z ?_
  obtain ⟨eb14,eo14,ea14,ei14,eh14⟩:=hl.elemI g om
  refine Il us_Is j8 Z ea14 g Z om Z (eh14 _)<|Em Z<|Yeq Z<|l3 (λq17=>?_)<|λq17=>?_
  ·refine Eu<|r9 Z<|Ew Z1<|Ei Z<|Eu<|E.ret<|v7<|a5h<|a5h<|v7<|a5h<|Fb Z Z (by grind[H6,d1,d2,t1,t2])
  ·refine Eu<|r8 Z<|v6<|o6<|Et<|Ez Z3<|Em Z<|Yad Z om om<|Ei Z ?_
   exact Eu<|u7 br (g+1) rs (.refl _) ⟨by omega,by grind[H6,d1,d2,t1,t2]⟩ om
 ·refine Eu<|r8 Z<|E.exit<|l2<|l2<|u4<|Et<|Ew Z1<|Ei Z<|Eu<|E.ret<|Fb Z Z (by grind[H6,d1,d2,t1,t2])
theorem a5b (hz:l.length≤1073741824):Tr Tryz.prog 169 [.slice a_l m_l c_l,.int .i64 x] (λw L=>I64 x) [ow eIs [.slice a_l m_l c_l] l] (κ:=SL) (λk=>True) (λk=>.slice k.1 k.2.1 k.2.2) (λk=>[ow eIs [.slice k.1 k.2.1 k.2.2] (O9 l x)]):=by
 refine Ti2 Tryz.func169 47 Z λw L hR=>?_
 have i6x:=hR
 refine f0 m0 ?_
 rintro rfl ll
 refine Ew Z1<|Ei Z<|Eu<|Eq_<|Ew Z3<|Em Z<|Em Z<|E0 Z a0Q Z (λhA=>hA.ow m0)<|Ent.b (λq10=>?_)<|λq10=>?_
 ·refine Eu<|r9 Z<|Ew Z2<|Em Z<|Ei Z<|Eu<|E.ret<|a5h<|g9 (congrArg (ow eIs [_]) (show _=O9 l x by grind[O9,W2,X1,a0q,d1,d2,t1,t2]))<|Fg Z Z (_,_,_) Z Z
 ·refine a0n (A:=[_]) Z λwb1 Lb1 hB1 hA1=>?_
  have rb1:Ro wb1 Lb1 eIs [.slice a_l l.length c_l] l:=hA1.ow m0
  refine Eu<|Cf<|Ew Z2<|Est Z (Nb [] [] us_Is j8 Z Z)<|λb12 _=>Ent.drop<|Ei Z<|Ev Z1<|Ei Z<|Eu<|Eq_<|Ew Z1<|Ei Z<|Eu<|E.block<|m8 (A:=[]) (Own.nil (E:=Enc.int) (e:=tI) (a:=(some ⟨b12,0,none⟩))) Z<|g9 (congrArg (ow eIs [_]) (show _=P4 (λy=>decide (x<y)) x (l.take 0) from by first|rfl|(simp;done)|grind[O9,W2,X1,a0q,d1,d2,t1,t2]))<|E.loop (κ:=Nat×SL) (λg=>g.1≤l.length∧True) (λg=>[(0,.slice a_l l.length c_l),(1,.int .i64 x),(5,.slice g.2.1 g.2.2.1 g.2.2.2),(6,.bool<|(l.take g.1).any (λy=>decide (x<y))),(7,.int .i64 (↑g.1:Int))]) (λg=>[ow eIs [.slice g.2.1 g.2.2.1 g.2.2.2]<|P4 (λy=>decide (x<y)) x<|l.take g.1]) (λg=>l.length-g.1) (0,(some ⟨b12,0,none⟩),0,0) ⟨Nat.zero_le _,by simp⟩ ⟨Z,Z,Z,frB (by first|rfl|(simp;done)|grind[O9,W2,X1,a0q,d1,d2,t1,t2]),Z,trivial⟩ (.refl _)<|λg pg=>?_
  obtain ⟨g,aA0_0,mA0_0,cA0_0⟩:=g
  try dsimp only at pg
  try dsimp only
  obtain ⟨pk,pa⟩:=pg
  have jp:=List.length_take_le g l
  have ji:=a6y (p:=(λy=>decide (x<y))) (f:=x) (l:=l.take g)
  refine f0 m0 ?_
  rintro rfl laA0_0
  refine Eq_<|Ew Z4<|Em Z<|Em Z<|Yln us_Is Z<|Ylt Z<|l3 (λq16=>?_)<|λq16=>?_
  ·refine Eu<|Ct<|Eq_<|E.block<|Eq_<|Ew Z10<|Em Z<|Ent.b (λq19=>?_)<|λq19=>?_
   ·refine Yno true Z<|Em Z<|Es Z<|Es Z<|Es Z<|Es Z<|Es Z<|Es Z<|Ypf Z<|Eu<|Cf<|Ez Z8<|Em Z<|Em Z<|Em Z ?_
    obtain ⟨eb36,eo36,ea36,ei36,eh36⟩:=rb1.elemI g om
    refine Il us_Is j8 Z ea36 g Z om Z (eh36 _)<|Est Z (Nb [_] [_] us_Is j8 Z Z)<|λb38 _=>d8<|Est Z (w3 (E:=Enc.int) (ex:=l[g]) us_Is j8 Z Z Z (Own.int ei36) Z bn bn dc)<|λp39 _=>Ei Z<|En<|o6<|Et<|Ez Z3<|Em Z<|Yad Z om om<|Ei Z<|Eu<|g9 (congrArg (ow eIs [_]) (show _=P4 (λy=>decide (x<y)) x (l.take<|g+1) from by grind[O9,W2,X1,a0q,d1,d2,t1,t2])) ?_
    exact u7 br (g+1,p39.1,((P4 (λy=>decide (x<y)) x<|l.take g).length+1),p39.2) ⟨Z,Z,Z,frB (by grind[O9,W2,X1,a0q,d1,d2,t1,t2]),Z,trivial⟩ (.refl _) ⟨oz,trivial⟩ oz
   ·refine Yno false Z<|Em Z<|Em Z<|Em Z ?_
    obtain ⟨eb24,eo24,ea24,ei24,eh24⟩:=rb1.elemI g om
    refine Il us_Is j8 Z ea24 g Z om Z (eh24 _)<|Em Z<|Ey Z ((Y.gtr Z Z).yd)<|l3 (λq27=>?_)<|λq27=>?_
    ·refine Ypt Z<|Eu<|r9 Z<|Ew Z5<|Em Z<|Em Z<|Est Z (Nb [_] [_] us_Is j8 Z Z)<|λb31 _=>d8<|Est Z (w3 (E:=Enc.int) (ex:=x) us_Is j8 Z Z Z (Own.int i6x) Z bn bn dc)<|λp32 _=>Ei Z<|Eu<|Ez Z1<|Ei Z<|Eu<|Ez Z8<|Em Z<|Em Z<|Em Z<|Il us_Is j8 Z ea24 g Z om Z (eh24 _)<|Est Z (Nb [_] [_] us_Is j8 Z Z)<|λb38 _=>d8<|Est Z (w3 (E:=Enc.int) (ex:=l[g]) us_Is j8 Z Z Z (Own.int ei24) Z bn bn dc)<|λp39 _=>Ei Z<|En<|o6<|Et<|Ez Z3<|Em Z<|Yad Z om om<|Ei Z<|Eu<|g9 (congrArg (ow eIs [_]) (show _=P4 (λy=>decide (x<y)) x (l.take<|g+1) from by grind[O9,W2,X1,a0q,d1,d2,t1,t2])) ?_
     exact u7 br (g+1,p39.1,(((P4 (λy=>decide (x<y)) x<|l.take g).length+1)+1),p39.2) ⟨Z,Z,Z,frB (by grind[O9,W2,X1,a0q,d1,d2,t1,t2]),Z,trivial⟩ (.refl _) ⟨oz,trivial⟩ oz
    ·refine Ypt Z<|Eu<|Cf<|Ez Z8<|Em Z<|Em Z<|Em Z<|Il us_Is j8 Z ea24 g Z om Z (eh24 _)<|Est Z (Nb [_] [_] us_Is j8 Z Z)<|λb38 _=>d8<|Est Z (w3 (E:=Enc.int) (ex:=l[g]) us_Is j8 Z Z Z (Own.int ei24) Z bn bn dc)<|λp39 _=>Ei Z<|En<|o6<|Et<|Ez Z3<|Em Z<|Yad Z om om<|Ei Z<|Eu<|g9 (congrArg (ow eIs [_]) (show _=P4 (λy=>decide (x<y)) x (l.take<|g+1) from by grind[O9,W2,X1,a0q,d1,d2,t1,t2])) ?_
     exact u7 br (g+1,p39.1,((P4 (λy=>decide (x<y)) x<|l.take g).length+1),p39.2) ⟨Z,Z,Z,frB (by grind[O9,W2,X1,a0q,d1,d2,t1,t2]),Z,trivial⟩ (.refl _) ⟨oz,trivial⟩ oz
  ·refine Eu<|r8 Z<|E.exit<|l2<|l2<|u4<|Et<|Eq_<|Ew Z2<|Em Z<|Ent.b (λq40=>?_)<|λq40=>?_
   ·refine Yno true Z<|Eu<|Cf<|Ew Z2<|Em Z<|Ei Z<|Eu<|E.ret<|g9 (congrArg (ow eIs [_]) (show _=O9 l x by grind[O9,W2,X1,a0q,d1,d2,t1,t2]))<|F.r1 hB1 Z Z (_,_,_) trivial Z (J:=_) (.refl _)<|.inl Z
   ·refine Yno false Z<|Eu<|r9 Z<|Ez Z5<|Em Z<|Em Z<|Est Z (Nb [_] [_] us_Is j8 Z Z)<|λb44 _=>d8<|Est Z (w3 (E:=Enc.int) (ex:=x) us_Is j8 Z Z Z (Own.int i6x) Z bn bn dc)<|λp45 _=>Ei Z<|Ev Z2<|Em Z<|Ei Z<|Eu<|E.ret<|g9 (congrArg (ow eIs [_]) (show _=O9 l x by grind[O9,W2,X1,a0q,d1,d2,t1,t2]))<|F.r1 hB1 Z Z (_,_,_) trivial Z (J:=_) (.refl _)<|.inl Z
theorem a2a (hz:D8 (λx=>x.2.length) c6≤1048576):TL Tryz.prog 96 [.agg #[.slice r7 u5 r6,.slice o1 s9 o0]] (λw L=>Ro w L eIs [.slice r7 u5 r6] d9∧Ro w L v8 [.slice o1 s9 o0] c6) eIs (k7 (λt=>inR t 10 17) c6):=by
 refine Ti1 Tryz.func96 47 Z λw L hR=>?_
 obtain ⟨s7,o2⟩:=hR
 obtain ⟨rfl,I8⟩:=s7.slen
 obtain ⟨rfl,G9⟩:=o2.slen
 have jv:=o2.i64A
 refine Ew Z2<|Est Z (N.box (cs:=[_,_]) Z dc Z)<|λb1 _=>Ei Z<|Ev Z2<|Est Z (Nb [] [] us_Is j8 Z Z)<|λb6 _=>Ent.drop<|Ei Z<|Eu<|Eq_<|Ew Z1<|Ei Z<|Eu<|E.block<|m8 (A:=[]) (Own.nil (E:=Enc.int) (e:=tI) (a:=(some ⟨b6,0,none⟩))) Z<|g9 (congrArg (ow eIs [_]) (show _=W0 (((c6.take 0).flatMap (λa:IL=>a.2)).filter (λt=>inR t 10 17)) from by first|rfl|(simp;done)|grind[k7,a0j,Y3,d1,d2,t1,t2]))<|Lo (κ:=Nat×SL) (λg=>g.1≤c6.length∧True) (λg=>[(1,.pointer<|some ⟨b1,0,none⟩),(3,.slice g.2.1 g.2.2.1 g.2.2.2),(4,.int .i64 (↑g.1:Int))]) (λg=>[ow eIs [.slice g.2.1 g.2.2.1 g.2.2.2]<|W0<|((c6.take g.1).flatMap (λa:IL=>a.2)).filter (λt=>inR t 10 17),pt b1 28 [.slice r7 d9.length r6,.slice o1 c6.length o0]]) (λg=>c6.length-g.1) (0,(some ⟨b6,0,none⟩),0,0) ⟨Nat.zero_le _,by simp⟩<|λg pg=>?_
 obtain ⟨g,aA0_0,mA0_0,cA0_0⟩:=g
 try dsimp only at pg
 try dsimp only
 obtain ⟨pk,pa⟩:=pg
 refine f0 m0 ?_
 rintro rfl laA0_0
 refine Eq_<|Ew Z5<|Em Z<|Lz fo_Query_1 ty_Atoms Z (mS m0) Z<|Yln us_Atoms Z<|Ylt Z<|l3 (λq11=>?_)<|λq11=>?_
 ·refine Eu<|Ct<|Eq_<|E.block<|Ew Z1<|Ei Z<|Eu<|E.block<|g9 (congrArg (ow eIs [_]) (show _=W0 (((c6.take g).flatMap (λa:IL=>a.2)).filter (λt=>inR t 10 17)++(c6[g].2.take 0).filter (λt=>inR t 10 17)) from by first|rfl|(simp;done)|grind[k7,a0j,Y3,d1,d2,t1,t2]))<|Lo (κ:=Nat×SL) (λh=>h.1≤c6[g].2.length∧True) (λh=>[(1,.pointer<|some ⟨b1,0,none⟩),(3,.slice h.2.1 h.2.2.1 h.2.2.2),(4,.int .i64 (g:Int)),(5,.int .i64 (↑h.1:Int))]) (λh=>[ow eIs [.slice h.2.1 h.2.2.1 h.2.2.2]<|W0<|((c6.take g).flatMap (λa:IL=>a.2)).filter (λt=>inR t 10 17)++(c6[g].2.take h.1).filter (λt=>inR t 10 17),pt b1 28 [.slice r7 d9.length r6,.slice o1 c6.length o0]]) (λh=>c6[g].2.length-h.1) (0,aA0_0,(W0<|((c6.take g).flatMap (λa:IL=>a.2)).filter (λt=>inR t 10 17)).length,cA0_0) ⟨Nat.zero_le _,by simp⟩<|λh ph=>?_
  obtain ⟨h,aA1_0,mA1_0,cA1_0⟩:=h
  try dsimp only at ph
  try dsimp only
  obtain ⟨pk,pa⟩:=ph
  have ju:=a6S (is:=(λt=>inR t 10 17)) (g:=g) (h:=h) hz om
  have jw:=b0m (l:=((c6.take g).flatMap (λa:IL=>a.2)).filter (λt=>inR t 10 17)++(c6[g].2.take h).filter (λt=>inR t 10 17))
  refine f0 m0 ?_
  rintro rfl laA1_0
  refine Eq_<|Ew Z9<|Em Z<|Lz fo_Query_1 ty_Atoms Z (mS m0) Z<|Em Z ?_
  obtain ⟨eb18,eo18,ec18,ea18,er18,el18,eh18⟩:=o2.elem g om
  obtain ⟨xa18_0,xc18_0,rfl,ei18_0,xh18_0⟩:=L6 er18
  have:=xh18_0.slen.2
  refine Ix us_Atoms ty_Atom Z ea18 g Z om<|Lf fo_Atom_1 ty_Is Z (Hs (eh18 _) 1 Z)<|Yln us_Is Z<|Ylt Z<|l3 (λq22=>?_)<|λq22=>?_
  ·refine Eu<|Ct<|Eq_<|E.block<|Ew Z10<|Lz fo_Query_1 ty_Atoms Z (mS m0) Z<|Em Z<|Ix us_Atoms ty_Atom Z ea18 g Z om<|Lf fo_Atom_1 ty_Is Z (Hs (eh18 _) 1 Z)<|Em Z ?_
   obtain ⟨eb32,eo32,ea32,ei32,eh32⟩:=xh18_0.elemI h om
   refine Il us_Is j8 Z ea32 h Z om Z (eh32 _)<|E0 Z a0N Z (λ_=>trivial)<|Ent.b (λq34=>?_)<|λq34=>?_
   ·refine Eu<|r9 Z<|Ez Z12<|Em Z<|Lz fo_Query_1 ty_Atoms Z (mS m0) Z<|Em Z<|Ix us_Atoms ty_Atom Z ea18 g Z om<|Lf fo_Atom_1 ty_Is Z (Hs (eh18 _) 1 Z)<|Em Z<|Il us_Is j8 Z ea32 h Z om Z (eh32 _)<|Est Z (N.call (pre:=[_]) (a5b fc) Z Z Z dc Z<|λw Lp hA=>ei32)<|λk45 _=>?_
    obtain ⟨a45,m45,c45⟩:=k45
    refine f0 m0 ?_
    rintro rfl l45
    refine Ei Z<|En<|o6<|Et<|Ez Z3<|Em Z<|Yad Z om om<|Ei Z<|Eu<|g9 (congrArg (ow eIs [_]) (show _=W0 (((c6.take g).flatMap (λa:IL=>a.2)).filter (λt=>inR t 10 17)++(c6[g].2.take<|h+1).filter (λt=>inR t 10 17)) from by grind[k7,a0j,Y3,d1,d2,t1,t2]))<|d8<|d8 ?_
    exact Ea (h+1,a45,_,c45) ⟨oz,trivial⟩
   ·refine Eu<|r8 Z<|v6<|o6<|Et<|Ez Z3<|Em Z<|Yad Z om om<|Ei Z<|Eu<|g9 (congrArg (ow eIs [_]) (show _=W0 (((c6.take g).flatMap (λa:IL=>a.2)).filter (λt=>inR t 10 17)++(c6[g].2.take<|h+1).filter (λt=>inR t 10 17)) from by grind[k7,a0j,Y3,d1,d2,t1,t2]))<|d8<|d8 ?_
    exact Ea (h+1,aA1_0,_,cA1_0) ⟨oz,trivial⟩
  ·refine Eu<|r8 Z<|E.exit<|l2<|l2<|u4<|o6<|Et<|Ez Z3<|Em Z<|Yad Z om om<|Ei Z<|Eu<|g9 (congrArg (ow eIs [_]) (show _=W0 (((c6.take<|g+1).flatMap (λa:IL=>a.2)).filter (λt=>inR t 10 17)) from by grind[k7,a0j,Y3,d1,d2,t1,t2]))<|d8<|d8 ?_
   exact Ea (g+1,aA1_0,_,cA1_0) ⟨oz,trivial⟩
 ·refine Eu<|r8 Z<|E.exit<|l2<|l2<|u4<|Et<|Ew Z2<|Em Z<|Ei Z<|Eu<|E.ret<|g9 (congrArg (ow eIs [_]) (show _=k7 (λt=>inR t 10 17) c6 by grind[k7,a0j,Y3,d1,d2,t1,t2]))<|Fg Z Z (_,_,_) Z Z
theorem b3E:TB Tryz.prog 310 [.int .i64 t] (λw L=>True) (K7 t):=by
 refine Ti1 Tryz.func310 9 Z λw L hR=>Ew Z1<|Ei Z<|Ev Z7<|Em Z<|E0 Z a3U Z (λ_=>trivial)<|Ent.b (λq4=>?_)<|λq4=>?_
 ·refine Em Z<|Es Z<|Es Z<|Ypt Z<|Ei Z<|Eu<|E.ret<|Fb Z Z (by grind[K7,d1,d2,t1,t2])
 ·refine Em Z<|Em Z<|E0 Z a1E Z (λ_=>trivial)<|Ypf Z<|Ei Z<|Eu<|E.ret<|Fb Z Z (by grind[K7,d1,d2,t1,t2])
theorem a7k:TB Tryz.prog 211 [.int .i64 t] (λw L=>True) (K7 t):=by
 refine Ti1 Tryz.func211 9 Z λw L hR=>Ew Z1<|Ei Z<|Ev Z7<|Em Z<|E0 Z H3 Z (λ_=>trivial)<|Ent.b (λq4=>?_)<|λq4=>?_
 ·refine Em Z<|Es Z<|Es Z<|Ypt Z<|Ei Z<|Eu<|E.ret<|Fb Z Z (by grind[K7,d1,d2,t1,t2])
 ·refine Em Z<|Em Z<|E0 Z a0N Z (λ_=>trivial)<|Ypf Z<|Ei Z<|Eu<|E.ret<|Fb Z Z (by grind[K7,d1,d2,t1,t2])
theorem a9h:TB Tryz.prog 309 [.int .i64 t] (λw L=>(I64 t)∧True) (!K7 t):=by
 refine Ti1 Tryz.func309 6 Z λw L hR=>?_
 obtain ⟨i6t,_⟩:=hR
 refine Ew Z1<|Ei Z<|Ev Z4<|Em Z<|E0 Z b3E Z (λ_=>trivial)<|Ey Z ((Y.not Z).yd)<|Ei Z<|Eu<|E.ret<|Fb Z Z (by grind[d1,d2,t1,t2])
theorem a5B:TB Tryz.prog 230 [.slice a_l m_l c_l] (λw L=>Ro w L eIs [.slice a_l m_l c_l] l) (!l.any λt=> !K7 t):=by
 refine Ti1 Tryz.func230 6 Z λw L hR=>?_
 have hl:=hR
 obtain ⟨rfl,ll⟩:=hl.slen
 refine Ew Z1<|Ei Z<|Ev Z4<|Em Z<|E0 Z (a0c (f:=(λt=> !K7 t)) (D_f:=(λ_=>True)) (by intros;exact trivial)) Z (λhA=>⟨hA.ro hl,a3p (D:=(λ_=>True)) (λhd=>a9h)<|λw' hk=>trivial⟩)<|Ey Z ((Y.not Z).yd)<|Ei Z<|Eu<|E.ret<|Fb Z Z (by grind[d1,d2,t1,t2])
theorem b3q:TB Tryz.prog 119 [.slice a_s m_s c_s,.agg #[.int .i64 l6,.slice w5 C0 w4]] (λw L=>Ro w L eIs [.slice a_s m_s c_s] s∧I64 l6∧Ro w L eIs [.slice w5 C0 w4] f9) (P1 s (l6,f9)):=by
 refine Ti2 Tryz.func119 25 Z λw L hR=>?_
 obtain ⟨hs,M0,y5⟩:=hR
 obtain ⟨rfl,ls⟩:=hs.slen
 obtain ⟨rfl,R4⟩:=y5.slen
 refine Ew Z2<|Est Z (N.box (cs:=[_,_]) Z dc Z)<|λb3 _=>Ei Z<|Eu<|Eq_<|D.region (λj=>true) mixed<|Dm 0 Z<|Df 1 2 fo_Atom_0 j8 Z (Hz m0 0 Z)<|D0 3 Z a4o Z (λhA=>hA.ro hs)<|Ent.b (λq8=>?_)<|λq8=>?_
 ·obtain ⟨z1,z2,_,_⟩:=a0R q8
  refine Dm 4 Z<|Df 5 6 fo_Atom_1 ty_Is Z (Hz m0 1 Z)<|Dyp 7 Z (Y.len us_Is Z)<|Dm 8 Z<|Df 9 10 fo_Atom_0 j8 Z (Hz m0 0 Z) ?_
  obtain ⟨eb16,eo16,ea16,ei16,eh16⟩:=hs.elemI l6.toNat om
  refine Dyp 11 Z (y6 us_Is j8 Z ea16 Z l6.toNat om om)<|Dy 12 Z (z7 j8 Z (eh16 _) Z)<|Dyp 13 Z (Y.eql Z Z)<|l3 (λq18=>?_)<|λq18=>?_
  ·refine Dyp 14 Z (J9 Z Z)<|Dm 15 Z<|Df 16 17 fo_Atom_1 ty_Is Z (Hz m0 1 Z)<|D0 18 Z a5B Z (λhA=>hA.ro y5)<|Dyp 19 Z (J9 Z Z)<|Dyp 20 Z (E5 Z)<|o4 kr<|Et<|E.ret<|Fb Z Z (by grind[P1,F8,d1,d2,t1,t2])
  ·refine Dyp 14 Z (J9 Z Z)<|Dm 15 Z<|Dsk 16 Z<|Dsk 17 Z<|Dsk 18 Z<|Dyp 19 Z (J3 Z Z)<|Dyp 20 Z (E5 Z)<|o4 kr<|Et<|E.ret<|Fb Z Z (by grind[P1,F8,d1,d2,t1,t2])
 ·refine Dm 4 Z<|Dsk 5 Z<|Dsk 6 Z<|Dsk 7 Z<|Dsk 8 Z<|Dsk 9 Z<|Dsk 10 Z<|Dsk 11 Z<|Dsk 12 Z<|Dsk 13 Z<|Dyp 14 Z (J3 Z Z)<|Dm 15 Z<|Dsk 16 Z<|Dsk 17 Z<|Dsk 18 Z<|Dyp 19 Z (J3 Z Z)<|Dyp 20 Z (E5 Z)<|o4 kr<|Et<|E.ret<|Fb Z Z (by grind[P1,F8,d1,d2,t1,t2])
theorem b3C:TB Tryz.prog 97 [.slice a_s m_s c_s,.agg #[.int .i64 l6,.slice w5 C0 w4]] (λw L=>Ro w L eIs [.slice a_s m_s c_s] s∧I64 l6∧Ro w L eIs [.slice w5 C0 w4] f9) (P1 s (l6,f9)):=by
 refine Ti2 Tryz.func97 43 Z λw L hR=>?_
 obtain ⟨hs,M0,y5⟩:=hR
 obtain ⟨rfl,ls⟩:=hs.slen
 obtain ⟨rfl,R4⟩:=y5.slen
 refine Ew Z2<|Est Z (N.box (cs:=[_,_]) Z dc Z)<|λb3 _=>Ei Z<|Eu<|Eq_<|Eq_<|D.region (λj=>true) mixed<|Dm 0 Z<|D0 1 Z M7 Z (λhA=>hA.ro hs)<|Ent.b (λq7=>?_)<|λq7=>?_
 ·refine Dyp 2 Z (Y.not (b:=true) Z)<|Dm 3 Z<|Df 4 5 fo_Atom_0 j8 Z (Hz m0 0 Z)<|Dm 6 Z<|Dyp 7 Z (Y.len us_Is Z)<|Dyp 8 Z (Y.sub Z Z om om)<|D0 9 Z H3 Z (λ_=>trivial)<|Ent.b (λq15=>?_)<|λq15=>?_
  ·have y1:N8 s l6=true:=by rw[N8,q7,q15];rfl
   obtain ⟨z1,z2,_,_⟩:=a0R y1
   refine Dyp 10 Z (Y.not (b:=true) Z)<|Dyp 11 Z (J3 Z Z)<|Dm 12 Z<|Df 13 14 fo_Atom_1 ty_Is Z (Hz m0 1 Z)<|Dyp 15 Z (Y.len us_Is Z)<|Dm 16 Z<|Df 17 18 fo_Atom_0 j8 Z (Hz m0 0 Z) ?_
   obtain ⟨eb25,eo25,ea25,ei25,eh25⟩:=hs.elemI l6.toNat om
   refine Dyp 19 Z (y6 us_Is j8 Z ea25 Z l6.toNat om om)<|Dy 20 Z (z7 j8 Z (eh25 _) Z)<|Dyp 21 Z (Y.neq Z Z)<|l3 (λq27=>?_)<|λq27=>?_
   ·refine Dyp 22 Z (J3 Z Z)<|o4 kr<|Et<|r9 Z<|Ew Z1<|Ei Z<|Eu<|E.ret<|a5h<|Fb Z Z (by grind[P1,N8,F8,d1,d2,t1,t2])
   ·refine Dyp 22 Z (J3 Z Z)<|o4 kr<|Et<|Cf<|Eq_<|Ew Z1<|Ei Z<|Eu<|E.block<|Lo (κ:=Nat) (λg=>g≤f9.length∧(f9.any λt=> !K7 t)=((f9.drop g).any λt=> !K7 t)) (λg=>[(3,.pointer<|some ⟨b3,0,none⟩),(5,.int .i64 (g:Int))]) (λg=>[pt b3 111 [.int .i64 l6,.slice w5 f9.length w4]]) (λg=>f9.length-g) 0 ⟨Nat.zero_le _,by simp⟩<|λg pg=>?_
    obtain ⟨pk,pa⟩:=pg
    refine Eq_<|Ew Z5<|Em Z<|Lz fo_Atom_1 ty_Is Z m0 Z<|Yln us_Is Z<|Ylt Z<|l3 (λq33=>?_)<|λq33=>?_
    ·refine Eu<|Ct<|Eq_<|E.block<|Ew Z7<|Lz fo_Atom_1 ty_Is Z m0 Z<|Em Z ?_
     obtain ⟨eb39,eo39,ea39,ei39,eh39⟩:=y5.elemI g om
     refine Il us_Is j8 Z ea39 g Z om Z (eh39 _)<|E0 Z a7k Z (λ_=>trivial)<|Ent.b (λq41=>?_)<|λq41=>?_
     ·refine Yno true Z<|Eu<|r8 Z<|v6<|o6<|Et<|Ez Z3<|Em Z<|Yad Z om om<|Ei Z ?_
      exact Eu<|u7 br (g+1) ⟨Z,Z,trivial⟩ (.refl _) ⟨by omega,by grind[d1,d2,t1,t2]⟩ om
     ·refine Yno false Z<|Eu<|r9 Z<|Ew Z1<|Ei Z<|Eu<|E.ret<|v7<|a5h<|a5h<|v7<|a5h<|Fb Z Z (by grind[P1,N8,F8,d1,d2,t1,t2])
    ·refine Eu<|r8 Z<|E.exit<|l2<|l2<|u4<|Et<|Ew Z1<|Ei Z<|Eu<|E.ret<|Fb Z Z (by grind[P1,N8,F8,d1,d2,t1,t2])
  ·refine Dyp 10 Z (Y.not (b:=false) Z)<|Dyp 11 Z (J3 Z Z)<|Dm 12 Z<|Dsk 13 Z<|Dsk 14 Z<|Dsk 15 Z<|Dsk 16 Z<|Dsk 17 Z<|Dsk 18 Z<|Dsk 19 Z<|Dsk 20 Z<|Dsk 21 Z<|Dyp 22 Z (J9 Z Z)<|o4 kr<|Et<|r9 Z<|Ew Z1<|Ei Z<|Eu<|E.ret<|a5h<|Fb Z Z (by grind[P1,N8,F8,d1,d2,t1,t2])
 ·refine Dyp 2 Z (Y.not (b:=false) Z)<|Dm 3 Z<|Dsk 4 Z<|Dsk 5 Z<|Dsk 6 Z<|Dsk 7 Z<|Dsk 8 Z<|Dsk 9 Z<|Dsk 10 Z<|Dyp 11 Z (J9 Z Z)<|Dm 12 Z<|Dsk 13 Z<|Dsk 14 Z<|Dsk 15 Z<|Dsk 16 Z<|Dsk 17 Z<|Dsk 18 Z<|Dsk 19 Z<|Dsk 20 Z<|Dsk 21 Z<|Dyp 22 Z (J9 Z Z)<|o4 kr<|Et<|r9 Z<|Ew Z1<|Ei Z<|Eu<|E.ret<|a5h<|Fb Z Z (by grind[P1,N8,F8,d1,d2,t1,t2])
theorem a2o {v:Int}:TB Tryz.prog 124 [.slice a_s m_s c_s,.int .i64 v] (λw L=>Ro w L eIs [.slice a_s m_s c_s] s) (H6 s v):=by
 refine Ti2 Tryz.func124 9 Z λw L hR=>?_
 have hs:=hR
 obtain ⟨rfl,ls⟩:=hs.slen
 refine Ew Z1<|Ei Z<|Ev Z5<|Em Z<|Em Z<|E0 Z b2t Z (λhA=>hA.ro hs)<|Ey Z ((Y.geq Z Z).yd)<|Ei Z<|Eu<|E.ret<|Fb Z Z (by exact W1)
theorem a9M {b_vars:Nat} {a_vars:Option Addr} {m_vars c_vars:Nat} {vars:List Int}:TB Tryz.prog 308 [.int .i64 t,.pointer (some ⟨b_vars,0,none⟩)] (λw L=>(I64 t)∧RoPt w L b_vars [.slice a_vars m_vars c_vars]∧Ro w L eIs [.slice a_vars m_vars c_vars] vars) (!H6 vars t):=by
 refine Ti2 Tryz.func308 8 Z λw L hR=>?_
 obtain ⟨i6t,hb_vars,hvars⟩:=hR
 obtain ⟨rfl,lvars⟩:=hvars.slen
 refine Ew Z1<|Ei Z<|Ev Z5<|Ey Z (z7 ty_Is Z (hb_vars.has) Z)<|Em Z<|E0 Z a2o Z (λhA=>hA.ro hvars)<|Ey Z ((Y.not Z).yd)<|Ei Z<|Eu<|E.ret<|Fb Z Z (by grind[d1,d2,t1,t2])
theorem a6l (hz:D8 (λx=>x.2.length) c6≤1048576):TB Tryz.prog 228 [.agg #[.slice r7 u5 r6,.slice o1 s9 o0]] (λw L=>Ro w L eIs [.slice r7 u5 r6] d9∧Ro w L v8 [.slice o1 s9 o0] c6) (T7 (d9,c6)):=by
 refine Ti1 Tryz.func228 17 Z λw L hR=>?_
 obtain ⟨s7,o2⟩:=hR
 obtain ⟨rfl,I8⟩:=s7.slen
 obtain ⟨rfl,G9⟩:=o2.slen
 refine Ew Z2<|Est Z (N.box (cs:=[_,_]) Z dc Z)<|λb1 _=>Ei Z<|Ev Z4<|Ey Z (l4 (cs:=[_,_]) ty_Query Z (Has.pt m0) Z)<|El Z (b3w fc) Z (λhA=>⟨hA.ro s7,hA.ro o2⟩)<|λa5 c5 l5=>Est Z (N.alloc ty_Is dc)<|λb3 _=>Est Z (Ns [_] ty_Is Z)<|λ_ _=>Ev Z12<|Lz fo_Query_0 ty_Is Z (mS<|mS m0) Z<|Yln us_Is Z<|Ey Z ((Y.leq Z Z).yd)<|l3 (λq9=>?_)<|λq9=>?_
 ·refine Em Z<|Lz fo_Query_0 ty_Is Z (mS<|mS m0) Z<|Ey Z ((Y.fn (vs:=[_]) Z).yd)<|E0 Z (a0c (f:=(λt=> !H6 (k7 (λt=>inR t 10 17) c6) t)) (D_f:=(λ_=>True)) (by intros;exact trivial)) Z (λhA=>⟨hA.ro s7,a3p (D:=(λ_=>True)) (λhd=>a9M)<|λw' hk=>⟨(hA.pt m0).keep hk,(hA.ow<|mS m0).keep hk⟩⟩)<|Ey Z ((Y.not Z).yd)<|Ypt Z<|Ei Z<|Eu<|E.ret<|Fb Z Z (by grind[T7,d1,d2,t1,t2])
 ·refine Em Z<|Es Z<|Es Z<|Es Z<|Es Z<|Es Z<|Ypf Z<|Ei Z<|Eu<|E.ret<|Fb Z Z (by grind[T7,d1,d2,t1,t2])
theorem a9J:TB Tryz.prog 227 [.agg #[.int .i64 l6,.slice w5 C0 w4],.pointer (some ⟨b_s,0,none⟩)] (λw L=>(I64 l6∧Ro w L eIs [.slice w5 C0 w4] f9)∧RoPt w L b_s [.slice a_s m_s c_s]∧Ro w L eIs [.slice a_s m_s c_s] s) (!P1 s (l6,f9)):=by
 refine Ti2 Tryz.func227 8 Z λw L hR=>?_
 obtain ⟨⟨M0,y5⟩,hb_s,hs⟩:=hR
 obtain ⟨rfl,R4⟩:=y5.slen
 obtain ⟨rfl,ls⟩:=hs.slen
 refine Ew Z2<|Est Z (N.box (cs:=[_,_]) Z dc Z)<|λb2 _=>Ei Z<|Ev Z5<|Ey Z (z7 ty_Is Z (hb_s.has) Z)<|Ey Z (l4 (cs:=[_,_]) ty_Atom Z (Has.pt m0) Z)<|E0 Z b3q Z (λhA=>⟨hA.ro hs,M0,hA.ro y5⟩)<|Ey Z ((Y.not Z).yd)<|Ei Z<|Eu<|E.ret<|Fb Z Z (by grind[d1,d2,t1,t2])
theorem a2G (hz:D8 (λx=>x.2.length) c6≤1048576):TB Tryz.prog 117 [.slice a_s m_s c_s,.agg #[.slice r7 u5 r6,.slice o1 s9 o0]] (λw L=>Ro w L eIs [.slice a_s m_s c_s] s∧Ro w L eIs [.slice r7 u5 r6] d9∧Ro w L v8 [.slice o1 s9 o0] c6) (w7 s (d9,c6)):=by
 refine Ti2 Tryz.func117 24 Z λw L hR=>?_
 obtain ⟨hs,s7,o2⟩:=hR
 obtain ⟨rfl,ls⟩:=hs.slen
 obtain ⟨rfl,I8⟩:=s7.slen
 obtain ⟨rfl,G9⟩:=o2.slen
 refine Ew Z3<|Est Z (N.box (cs:=[_]) Z dc Z)<|λb2 _=>Est Z (N.box (cs:=[_,_]) Z dc Z)<|λb3 _=>Ei Z<|Ev Z20<|Ey Z (z7 ty_Is Z (Has.pt<|mS m0) Z)<|E0 Z a2n Z (λhA=>hA.ro hs)<|Ent.b (λq6=>?_)<|λq6=>?_
 ·refine Em Z<|Lz fo_Query_1 ty_Atoms Z m0 Z<|Yln us_Atoms Z<|E0 Z L8 Z (λ_=>trivial)<|Ent.b (λq11=>?_)<|λq11=>?_
  ·refine Ypt Z<|Em Z<|Lz fo_Query_1 ty_Atoms Z m0 Z<|Ey Z ((Y.fn (vs:=[_]) Z).yd)<|E0 Z (a7v (f:=(λz=> !P1 s z)) (D_f:=(λ_=>True)) (by intros;exact trivial)) Z (λhA=>⟨hA.ro o2,b7R (D:=(λ_=>True)) (λhd=>a9J)<|λw' hk=>⟨(hA.pt<|mS m0).keep hk,(hA.ro hs).keep hk⟩⟩)<|Ent.b (λq17=>?_)<|λq17=>?_
   ·refine Yno true Z<|Ypt Z<|Em Z<|Es Z<|Es Z<|Ypf Z<|Ei Z<|Eu<|E.ret<|Fb Z Z (by grind[w7,d1,d2,t1,t2])
   ·refine Yno false Z<|Ypt Z<|Em Z<|Ey Z (l4 (cs:=[_,_]) ty_Query Z (Has.pt m0) Z)<|E0 Z (a6l fc) Z (λhA=>⟨hA.ro s7,hA.ro o2⟩)<|Ypt Z<|Ei Z<|Eu<|E.ret<|Fb Z Z (by grind[w7,d1,d2,t1,t2])
  ·refine Ypt Z<|Em Z<|Es Z<|Es Z<|Es Z<|Es Z<|Es Z<|Ypf Z<|Em Z<|Es Z<|Es Z<|Ypf Z<|Ei Z<|Eu<|E.ret<|Fb Z Z (by grind[w7,d1,d2,t1,t2])
 ·refine Em Z<|Es Z<|Es Z<|Es Z<|Es Z<|Ypf Z<|Em Z<|Es Z<|Es Z<|Es Z<|Es Z<|Es Z<|Ypf Z<|Em Z<|Es Z<|Es Z<|Ypf Z<|Ei Z<|Eu<|E.ret<|Fb Z Z (by grind[w7,d1,d2,t1,t2])
theorem a0J (hz:D8 (λx=>x.2.length) c6≤1048576):TB Tryz.prog 100 [.slice a_s m_s c_s,.agg #[.slice r7 u5 r6,.slice o1 s9 o0]] (λw L=>Ro w L eIs [.slice a_s m_s c_s] s∧Ro w L eIs [.slice r7 u5 r6] d9∧Ro w L v8 [.slice o1 s9 o0] c6) (w7 s (d9,c6)):=by
 refine Ti2 Tryz.func100 54 Z λw L hR=>?_
 obtain ⟨hs,s7,o2⟩:=hR
 obtain ⟨rfl,ls⟩:=hs.slen
 obtain ⟨rfl,I8⟩:=s7.slen
 obtain ⟨rfl,G9⟩:=o2.slen
 refine Ew Z2<|Est Z (N.box (cs:=[_,_]) Z dc Z)<|λb3 _=>Ei Z<|Eu<|Eq_<|Ew Z1<|Ei Z<|Eu<|E.block<|Lo (κ:=Nat) (λg=>g≤c6.length∧(c6.any λa=> !P1 s a)=((c6.drop g).any λa=> !P1 s a)) (λg=>[(0,.slice a_s s.length c_s),(3,.pointer<|some ⟨b3,0,none⟩),(5,.int .i64 (g:Int))]) (λg=>[pt b3 28 [.slice r7 d9.length r6,.slice o1 c6.length o0]]) (λg=>c6.length-g) 0 ⟨Nat.zero_le _,by simp⟩<|λg pg=>?_
 obtain ⟨pk,pa⟩:=pg
 refine Eq_<|Ew Z5<|Em Z<|Lz fo_Query_1 ty_Atoms Z m0 Z<|Yln us_Atoms Z<|Ylt Z<|l3 (λq12=>?_)<|λq12=>?_
 ·refine Eu<|Ct<|Eq_<|E.block<|Ew Z8<|Em Z<|Lz fo_Query_1 ty_Atoms Z m0 Z<|Em Z ?_
  obtain ⟨eb19,eo19,ec19,ea19,er19,el19,eh19⟩:=o2.elem g om
  obtain ⟨xa19_0,xc19_0,rfl,ei19_0,xh19_0⟩:=L6 er19
  have:=xh19_0.slen.2
  refine Ix us_Atoms ty_Atom Z ea19 g Z om<|Ey Z (l4 (cs:=[_,_]) ty_Atom Z (eh19 _) Z)<|E0 Z b3C Z (λhA=>⟨hA.ro hs,ei19_0,hA.ro xh19_0⟩)<|Ent.b (λq21=>?_)<|λq21=>?_
  ·refine Yno true Z<|Eu<|r8 Z<|v6<|o6<|Et<|Ez Z3<|Em Z<|Yad Z om om<|Ei Z ?_
   exact Eu<|u7 br (g+1) rs (.refl _) ⟨by omega,by grind[d1,d2,t1,t2]⟩ om
  ·refine Yno false Z<|Eu<|r9 Z<|Ew Z1<|Ei Z<|Eu<|E.ret<|v7<|a5h<|a5h<|v7<|a5h<|Fb Z Z (by grind[w7,T7,d1,d2,t1,t2])
 ·refine Eu<|r8 Z<|E.exit<|l2<|l2<|u4<|Et<|Ew Z3<|Ey Z (l4 (cs:=[_,_]) ty_Query Z (Has.pt m0) Z)<|El Z (a2a fc) Z (λhA=>⟨hA.ro s7,hA.ro o2⟩)<|λa24 c24 l24=>Ei Z<|Eu<|Eq_<|Ew Z1<|Ei Z<|Eu<|E.block<|Lo (κ:=Nat) (λg=>g≤d9.length∧(d9.any<|λt=> !H6 (k7 (λt=>inR t 10 17) c6) t)=((d9.drop g).any (λt=> !H6 (k7 (λt=>inR t 10 17) c6) t))) (λg=>[(0,.slice a_s s.length c_s),(3,.pointer<|some ⟨b3,0,none⟩),(6,.slice a24 (k7 (λt=>inR t 10 17) c6).length c24),(7,.int .i64 (g:Int))]) (λg=>[ow eIs [.slice a24 (k7 (λt=>inR t 10 17) c6).length c24]<|k7 (λt=>inR t 10 17) c6,pt b3 28 [.slice r7 d9.length r6,.slice o1 c6.length o0]]) (λg=>d9.length-g) 0 ⟨Nat.zero_le _,by simp⟩<|λg pg=>?_
  obtain ⟨pk,pa⟩:=pg
  refine Eq_<|Ew Z5<|Em Z<|Lz fo_Query_0 ty_Is Z (mS m0) Z<|Yln us_Is Z<|Ylt Z<|l3 (λq29=>?_)<|λq29=>?_
  ·refine Eu<|Ct<|Eq_<|E.block<|Ew Z8<|Em Z<|Lz fo_Query_0 ty_Is Z (mS m0) Z<|Em Z ?_
   obtain ⟨eb36,eo36,ea36,ei36,eh36⟩:=s7.elemI g om
   refine Il us_Is j8 Z ea36 g Z om Z (eh36 _)<|E0 Z a0Q Z (λhA=>hA.ow m0)<|Ent.b (λq38=>?_)<|λq38=>?_
   ·refine Yno true Z<|Eu<|r8 Z<|v6<|o6<|Et<|Ez Z3<|Em Z<|Yad Z om om<|Ei Z<|Eu<|d8<|d8 ?_
    exact u7 br (g+1) rs (.refl _) ⟨by omega,by grind[d1,d2,t1,t2]⟩ om
   ·refine Yno false Z<|Eu<|r9 Z<|Ew Z1<|Ei Z<|Eu<|E.ret<|v7<|a5h<|a5h<|v7<|a5h<|Fb Z Z (by grind[w7,T7,d1,d2,t1,t2])
  ·refine Eu<|r8 Z<|E.exit<|l2<|l2<|u4<|Et<|Ew Z15<|Em Z<|E0 Z M7 Z (λhA=>hA.ro hs)<|Ent.b (λq41=>?_)<|λq41=>?_
   ·refine Em Z<|Lz fo_Query_1 ty_Atoms Z (mS m0) Z<|Yln us_Atoms Z<|E0 Z H3 Z (λ_=>trivial)<|Ent.b (λq46=>?_)<|λq46=>?_
    ·refine Ypt Z<|Em Z<|Lz fo_Query_0 ty_Is Z (mS m0) Z<|Yln us_Is Z<|Ey Z ((Y.leq Z Z).yd)<|Ypt Z<|Ei Z<|Eu<|E.ret<|Fb Z Z (by grind[w7,T7,d1,d2,t1,t2])
    ·refine Ypt Z<|Em Z<|Es Z<|Es Z<|Es Z<|Es Z<|Ypf Z<|Ei Z<|Eu<|E.ret<|Fb Z Z (by grind[w7,T7,d1,d2,t1,t2])
   ·refine Em Z<|Es Z<|Es Z<|Es Z<|Es Z<|Ypf Z<|Em Z<|Es Z<|Es Z<|Es Z<|Es Z<|Ypf Z<|Ei Z<|Eu<|E.ret<|Fb Z Z (by grind[w7,T7,d1,d2,t1,t2])
theorem b0n {b_u:Nat} (hz:D8 (λx=>x.2.length) c6≤1048576) (h0:0<u.length):TB Tryz.prog 151 [.agg #[.slice r7 u5 r6,.slice o1 s9 o0],.pointer (some ⟨b_s,0,none⟩),.pointer (some ⟨b_u,0,none⟩)] (λw L=>(Ro w L eIs [.slice r7 u5 r6] d9∧Ro w L v8 [.slice o1 s9 o0] c6)∧RoPt w L b_s [.slice a_s m_s c_s]∧Ro w L eIs [.slice a_s m_s c_s] s∧RoPt w L b_u [.slice a_u m_u c_u]∧Ro w L y7 [.slice a_u m_u c_u] u) (a2z s u (d9,c6)):=by
 refine Ti3 Tryz.func151 20 Z λw L hR=>?_
 obtain ⟨⟨s7,o2⟩,hb_s,hs,hb_u,hu⟩:=hR
 obtain ⟨rfl,I8⟩:=s7.slen
 obtain ⟨rfl,G9⟩:=o2.slen
 obtain ⟨rfl,ls⟩:=hs.slen
 obtain ⟨rfl,lu⟩:=hu.slen
 refine Ew Z2<|Est Z (N.box (cs:=[_,_]) Z dc Z)<|λb3 _=>Ei Z<|Eu<|Eq_<|D.region (λj=>true) mixed<|Dy 0 Z (z7 ty_Is Z (hb_s.has) Z)<|Dy 1 Z (l4 (cs:=[_,_]) ty_Query Z (Has.pt m0) Z)<|D0 2 Z (a2G fc) Z (λhA=>⟨hA.ro hs,hA.ro s7,hA.ro o2⟩)<|Ent.b (λq7=>?_)<|λq7=>?_
 ·refine Dyp 3 Z (Y.not (b:=true) Z)<|Dm 4 Z<|Df 5 6 fo_Query_0 ty_Is Z (Hz m0 0 Z)<|Dyp 7 Z (Y.len us_Is Z)<|Dy 8 Z (z7 ty_Querys Z (hb_u.has) Z) ?_
  obtain ⟨eb14,eo14,ec14,ea14,er14,el14,eh14⟩:=hu.elem 0 om
  obtain ⟨xa14_0,xc14_0,xa14_1,xc14_1,rfl,xh14_0,xh14_1⟩:=P7 er14
  have:=xh14_0.slen.2
  have:=xh14_1.slen.2
  refine Dyp 9 Z (y6 us_Querys ty_Query Z ea14 Z 0 Z om)<|Df 10 11 fo_Query_0 ty_Is Z (Hs (eh14 _) 0 Z)<|Dyp 12 Z (Y.len us_Is Z)<|Dyp 13 Z (Y.neq Z Z)<|Dyp 14 Z (J3 Z Z)<|Dyp 15 Z (E5 Z)<|o4 kr<|Et<|E.ret<|Fb Z Z (by grind[a2z,d1,d2,t1,t2])
 ·refine Dyp 3 Z (Y.not (b:=false) Z)<|Dm 4 Z<|Dsk 5 Z<|Dsk 6 Z<|Dsk 7 Z<|Dsk 8 Z<|Dsk 9 Z<|Dsk 10 Z<|Dsk 11 Z<|Dsk 12 Z<|Dsk 13 Z<|Dyp 14 Z (J9 Z Z)<|Dyp 15 Z (E5 Z)<|o4 kr<|Et<|E.ret<|Fb Z Z (by grind[a2z,d1,d2,t1,t2])
theorem a0h (hyu:∀q∈u,D8 (λx=>x.2.length) q.2≤1048576):TB Tryz.prog 48 [.slice a_s m_s c_s,.slice a_u m_u c_u] (λw L=>Ro w L eIs [.slice a_s m_s c_s] s∧Ro w L y7 [.slice a_u m_u c_u] u) (F9 s u):=by
 refine Ti2 Tryz.func48 14 Z λw L hR=>?_
 obtain ⟨hs,hu⟩:=hR
 obtain ⟨rfl,ls⟩:=hs.slen
 obtain ⟨rfl,lu⟩:=hu.slen
 refine Ew Z3<|Est Z (N.box (cs:=[_]) Z dc Z)<|λb2 _=>Est Z (N.box (cs:=[_]) Z dc Z)<|λb3 _=>Ei Z<|Ev Z10<|Ey Z (z7 ty_Querys Z (Has.pt m0) Z)<|Yln us_Querys Z<|E0 Z L8 Z (λ_=>trivial)<|Ent.b (λq7=>?_)<|λq7=>?_
 ·refine Em Z<|Ey Z (z7 ty_Querys Z (Has.pt m0) Z)<|Ey Z ((Y.fn (vs:=[_,_]) Z).yd)<|E0 Z (a0D (f:=(λz=>a2z s u z)) (D_f:=(λz=>(D8 (λx=>x.2.length) z.2≤1048576)∧(0<u.length))) (by grind[inR])) Z (λhA=>⟨hA.ro hu,a4f (D:=(λz=>(D8 (λx=>x.2.length) z.2≤1048576)∧(0<u.length))) (λhd=>b0n hd.1 hd.2)<|λw' hk=>⟨(hA.pt<|mS m0).keep hk,(hA.ro hs).keep hk,(hA.pt m0).keep hk,(hA.ro hu).keep hk⟩⟩)<|Ey Z ((Y.not Z).yd)<|Ypt Z<|Ei Z<|Eu<|E.ret<|Fb Z Z (by grind[F9,inR,d1,d2,t1,t2])
 ·refine Em Z<|Es Z<|Es Z<|Es Z<|Es Z<|Ypf Z<|Ei Z<|Eu<|E.ret<|Fb Z Z (by grind[F9,inR,d1,d2,t1,t2])
theorem a0K (hyu:∀q∈u,D8 (λx=>x.2.length) q.2≤1048576):TB Tryz.prog 40 [.slice a_s m_s c_s,.slice a_u m_u c_u] (λw L=>Ro w L eIs [.slice a_s m_s c_s] s∧Ro w L y7 [.slice a_u m_u c_u] u) (F9 s u):=by
 refine Ti2 Tryz.func40 40 Z λw L hR=>?_
 obtain ⟨hs,hu⟩:=hR
 obtain ⟨rfl,ls⟩:=hs.slen
 obtain ⟨rfl,lu⟩:=hu.slen
 refine Ew Z1<|Ei Z<|Eu<|Eq_<|Ew Z1<|Ei Z<|Eu<|E.block<|Lo (κ:=Nat) (λg=>g≤u.length∧(u.any<|a2z s u)=((u.drop g).any (a2z s u))) (λg=>[(0,.slice a_s s.length c_s),(1,.slice a_u u.length c_u),(5,.int .i64 (g:Int))]) (λg=>[]) (λg=>u.length-g) 0 ⟨Nat.zero_le _,by simp⟩<|λg pg=>?_
 obtain ⟨pk,pa⟩:=pg
 have hu1:=hyu
 refine Eq_<|Ew Z4<|Em Z<|Em Z<|Yln us_Querys Z<|Ylt Z<|l3 (λq9=>?_)<|λq9=>?_
 ·refine Eu<|Ct<|Eq_<|E.block<|Eq_<|D.region (λj=>true) mixed<|Dm 0 Z<|Dm 1 Z<|Dm 2 Z ?_
  obtain ⟨eb15,eo15,ec15,ea15,er15,el15,eh15⟩:=hu.elem g om
  obtain ⟨xa15_0,xc15_0,xa15_1,xc15_1,rfl,xh15_0,xh15_1⟩:=P7 er15
  have:=xh15_0.slen.2
  have:=xh15_1.slen.2
  refine Dyp 3 Z (y6 us_Querys ty_Query Z ea15 Z g Z om)<|Dy 4 Z (l4 (cs:=[_,_]) ty_Query Z (eh15 _) Z)<|D0 5 Z (a0J<|hyu u[g]<|List.getElem_mem om) Z (λhA=>⟨hA.ro hs,hA.ro xh15_0,hA.ro xh15_1⟩)<|Ent.b (λq17=>?_)<|λq17=>?_
  ·refine Dyp 6 Z (Y.not (b:=true) Z)<|Dm 7 Z<|Dm 8 Z<|Dm 9 Z<|Dyp 10 Z (y6 us_Querys ty_Query Z ea15 Z g Z om)<|Df 11 12 fo_Query_0 ty_Is Z (Hs (eh15 _) 0 Z)<|Dyp 13 Z (Y.len us_Is Z)<|Dm 14 Z ?_
   obtain ⟨eb27,eo27,ec27,ea27,er27,el27,eh27⟩:=hu.elem 0 om
   obtain ⟨xa27_0,xc27_0,xa27_1,xc27_1,rfl,xh27_0,xh27_1⟩:=P7 er27
   have:=xh27_0.slen.2
   have:=xh27_1.slen.2
   refine Dyp 15 Z (y6 us_Querys ty_Query Z ea27 Z 0 Z om)<|Df 16 17 fo_Query_0 ty_Is Z (Hs (eh27 _) 0 Z)<|Dyp 18 Z (Y.len us_Is Z)<|Dyp 19 Z (Y.neq Z Z)<|l3 (λq31=>?_)<|λq31=>?_
   ·refine Dyp 20 Z (J3 Z Z)<|o4 kr<|Et<|r9 Z<|Ew Z1<|Ei Z<|Eu<|E.ret<|v7<|a5h<|a5h<|v7<|a5h<|Fb Z Z (by grind[F9,a2z,a8O,d1,d2,t1,t2])
   ·refine Dyp 20 Z (J3 Z Z)<|o4 kr<|Et<|r8 Z<|v6<|o6<|Et<|Ez Z3<|Em Z<|Yad Z om om<|Ei Z ?_
    exact Eu<|u7 br (g+1) rs (.refl _) ⟨by omega,by grind[a2z,d1,d2,t1,t2]⟩ om
  ·refine Dyp 6 Z (Y.not (b:=false) Z)<|Dm 7 Z<|Dsk 8 Z<|Dsk 9 Z<|Dsk 10 Z<|Dsk 11 Z<|Dsk 12 Z<|Dsk 13 Z<|Dsk 14 Z<|Dsk 15 Z<|Dsk 16 Z<|Dsk 17 Z<|Dsk 18 Z<|Dsk 19 Z<|Dyp 20 Z (J9 Z Z)<|o4 kr<|Et<|r9 Z<|Ew Z1<|Ei Z<|Eu<|E.ret<|v7<|a5h<|a5h<|v7<|a5h<|Fb Z Z (by grind[F9,a2z,a8O,d1,d2,t1,t2])
 ·refine Eu<|r8 Z<|E.exit<|l2<|l2<|u4<|Et<|Ew Z8<|Em Z<|E0 Z M7 Z (λhA=>hA.ro hs)<|Ent.b (λq34=>?_)<|λq34=>?_
  ·refine Em Z<|Em Z<|Yln us_Querys Z<|E0 Z H3 Z (λ_=>trivial)<|Ypt Z<|Ei Z<|Eu<|E.ret<|Fb Z Z (by grind[F9,a2z,a8O,d1,d2,t1,t2])
  ·refine Em Z<|Es Z<|Es Z<|Es Z<|Ypf Z<|Ei Z<|Eu<|E.ret<|Fb Z Z (by grind[F9,a2z,a8O,d1,d2,t1,t2])
end Go.Proofs.YthapcdhdfaibkaaGreatDoor
