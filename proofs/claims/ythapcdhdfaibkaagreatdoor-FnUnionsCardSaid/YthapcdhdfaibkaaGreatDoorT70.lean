import Derived.Test.YthapcdhdfaibkaaGreatDoorT22
import Derived.Test.YthapcdhdfaibkaaGreatDoorGc
namespace Go.Proofs.YthapcdhdfaibkaaGreatDoor
open Go.RowKit
set_option linter.all false
set_option maxHeartbeats 2000000
attribute [local irreducible] Nop Yd Yp Ent Has Tr FnP FnP2 Src K8 Q7 R5 S1 E8
variable {l6 G5 D6 G4 D7:Int} {l:List (Int×List Int×Int×Int×Int)} {d7:List IL} {f9 J8 t8:List Int} {b_a C0 w4 b_bound m_bound c_bound H9 F5 m_l c_l b_is m_atoms c_atoms:Nat} {w5 a_bound F6 a_l a_atoms:Option Addr}
theorem b0o {i:Int}:TB Tryz.prog 307 [.int .i64 i,.pointer (some ⟨b_a,0,none⟩),.pointer (some ⟨b_bound,0,none⟩)] (λw L=>(I64 i)∧RoPt w L b_a [.int .i64 l6,.slice w5 C0 w4]∧I64 l6∧Ro w L eIs [.slice w5 C0 w4] f9∧RoPt w L b_bound [.slice a_bound m_bound c_bound]∧Ro w L eIs [.slice a_bound m_bound c_bound] J8) (a1a (l6,f9) J8 i):=by
 refine Ti3 Tryz.func307 30 Z λw L hR=>?_
 obtain ⟨i6i,hb_a,M0,y5,hb_bound,hbound⟩:=hR
 obtain ⟨rfl,R4⟩:=y5.slen
 obtain ⟨rfl,lbound⟩:=hbound.slen
 refine Ew Z1<|Ei Z<|Eu<|Eq_<|D.region (λj=>true) mixed<|Dm 0 Z<|Df 1 2 fo_Atom_1 ty_Is Z (Hs (hb_a.has) 1 Z)<|Dyp 3 Z (Y.len us_Is Z)<|Dyp 4 Z (Y.sub Z Z om om)<|D0 5 Z L8 Z (λ_=>trivial)<|Ent.b (λq10=>?_)<|λq10=>?_
 ·have jz:0≤i∧i≤(f9.length:Int)-1:=of_decide_eq_true q10
  refine Dyp 6 Z (Y.not (b:=true) Z)<|Dm 7 Z<|Df 8 9 fo_Atom_1 ty_Is Z (Hs (hb_a.has) 1 Z)<|Dm 10 Z ?_
  obtain ⟨eb16,eo16,ea16,ei16,eh16⟩:=y5.elemI i.toNat om
  refine Dyp 11 Z (y6 us_Is j8 Z ea16 Z i.toNat om om)<|Dy 12 Z (z7 j8 Z (eh16 _) Z)<|D0 13 Z a1E Z (λ_=>trivial)<|Ent.b (λq18=>?_)<|λq18=>?_
  ·refine Dm 14 Z<|Dy 15 Z (z7 ty_Is Z (hb_bound.has) Z)<|Df 16 17 fo_Atom_1 ty_Is Z (Hs (hb_a.has) 1 Z)<|Dm 18 Z<|Dyp 19 Z (y6 us_Is j8 Z ea16 Z i.toNat om om)<|Dy 20 Z (z7 j8 Z (eh16 _) Z)<|D0 21 Z a2o Z (λhA=>hA.ro hbound)<|Dyp 22 Z (Y.not Z)<|Dyp 23 Z (J9 Z Z)<|Dyp 24 Z (J3 Z Z)<|Dyp 25 Z (E5 Z)<|o4 kr<|Et<|E.ret<|Fb Z Z (by grind[a1a,F8,d1,d2,t1,t2])
  ·refine Dm 14 Z<|Dsk 15 Z<|Dsk 16 Z<|Dsk 17 Z<|Dsk 18 Z<|Dsk 19 Z<|Dsk 20 Z<|Dsk 21 Z<|Dsk 22 Z<|Dyp 23 Z (J3 Z Z)<|Dyp 24 Z (J3 Z Z)<|Dyp 25 Z (E5 Z)<|o4 kr<|Et<|E.ret<|Fb Z Z (by grind[a1a,F8,d1,d2,t1,t2])
 ·refine Dyp 6 Z (Y.not (b:=false) Z)<|Dm 7 Z<|Dsk 8 Z<|Dsk 9 Z<|Dsk 10 Z<|Dsk 11 Z<|Dsk 12 Z<|Dsk 13 Z<|b3P 14 Z Z dc kr<|Dsk 15 Z<|Dsk 16 Z<|Dsk 17 Z<|Dsk 18 Z<|Dsk 19 Z<|Dsk 20 Z<|Dsk 21 Z<|Dsk 22 Z<|Dsk 23 Z<|Dyp 24 Z (J9 Z Z)<|Dyp 25 Z (E5 Z)<|o4 kr<|Et<|E.ret<|Fb Z Z (by grind[a1a,F8,d1,d2,t1,t2])
theorem b1R:TB Tryz.prog 220 [.agg #[.int .i64 G5,.slice F6 H9 F5,.int .i64 D6,.int .i64 G4,.int .i64 D7],.agg #[.int .i64 l6,.slice w5 C0 w4],.slice a_bound m_bound c_bound] (λw L=>I64 G5∧Ro w L eIs [.slice F6 H9 F5] t8∧I64 D6∧I64 G4∧I64 D7∧I64 l6∧Ro w L eIs [.slice w5 C0 w4] f9∧Ro w L eIs [.slice a_bound m_bound c_bound] J8) (M4 (G5,t8,D6,G4,D7) (l6,f9) J8):=by
 refine Ti3 Tryz.func220 19 Z λw L hR=>?_
 obtain ⟨Y1,F4,R9,V1,S0,M0,y5,hbound⟩:=hR
 obtain ⟨rfl,a0p⟩:=F4.slen
 obtain ⟨rfl,R4⟩:=y5.slen
 obtain ⟨rfl,lbound⟩:=hbound.slen
 refine Ew Z4<|Est Z (N.box (cs:=[_,_,_,_,_]) Z dc Z)<|λb3 _=>Est Z (N.box (cs:=[_,_]) Z dc Z)<|λb4 _=>Est Z (N.box (cs:=[_]) Z dc Z)<|λb5 _=>Ei Z<|Ev Z13<|Lz fo_Method_0 j8 Z (mS<|mS m0) Z<|Lz fo_Atom_0 j8 Z (mS m0) Z<|Yeq Z<|l3 (λq11=>?_)<|λq11=>?_
 ·refine Em Z<|Lz fo_Method_1 ty_Is Z (mS<|mS m0) Z<|Ey Z ((Y.fn (vs:=[_,_]) Z).yd)<|E0 Z (a0c (f:=(λi=>a1a (l6,f9) J8 i)) (D_f:=(λ_=>True)) (by intros;exact trivial)) Z (λhA=>⟨hA.ro F4,a3p (D:=(λ_=>True)) (λhd=>b0o)<|λw' hk=>⟨(hA.pt<|mS m0).keep hk,M0,(hA.ro y5).keep hk,(hA.pt m0).keep hk,(hA.ro hbound).keep hk⟩⟩)<|Ey Z ((Y.not Z).yd)<|Ypt Z<|Ei Z<|Eu<|E.ret<|Fb Z Z (by grind[M4,d1,d2,t1,t2])
 ·refine Em Z<|Es Z<|Es Z<|Es Z<|Es Z<|Es Z<|Ypf Z<|Ei Z<|Eu<|E.ret<|Fb Z Z (by grind[M4,d1,d2,t1,t2])
theorem a6s:TB Tryz.prog 222 [.agg #[.int .i64 G5,.slice F6 H9 F5,.int .i64 D6,.int .i64 G4,.int .i64 D7],.agg #[.int .i64 l6,.slice w5 C0 w4],.slice a_bound m_bound c_bound] (λw L=>I64 G5∧Ro w L eIs [.slice F6 H9 F5] t8∧I64 D6∧I64 G4∧I64 D7∧I64 l6∧Ro w L eIs [.slice w5 C0 w4] f9∧Ro w L eIs [.slice a_bound m_bound c_bound] J8) (M4 (G5,t8,D6,G4,D7) (l6,f9) J8):=by
 refine Ti3 Tryz.func222 49 Z λw L hR=>?_
 obtain ⟨Y1,F4,R9,V1,S0,M0,y5,hbound⟩:=hR
 obtain ⟨rfl,a0p⟩:=F4.slen
 obtain ⟨rfl,R4⟩:=y5.slen
 obtain ⟨rfl,lbound⟩:=hbound.slen
 refine Ew Z3<|Est Z (N.box (cs:=[_,_,_,_,_]) Z dc Z)<|λb3 _=>Est Z (N.box (cs:=[_,_]) Z dc Z)<|λb4 _=>Ei Z<|Eu<|Eq_<|Ew Z5<|Lz fo_Method_0 j8 Z (mS m0) Z<|Lz fo_Atom_0 j8 Z m0 Z<|Ey Z ((Y.neq Z Z).yd)<|l3 (λq13=>?_)<|λq13=>?_
 ·refine Eu<|r9 Z<|Ew Z1<|Ei Z<|Eu<|E.ret<|a5h<|Fb Z Z (by grind[M4,a1a,F8,d1,d2,t1,t2])
 ·refine Eu<|Cf<|Eq_<|Ew Z1<|Ei Z<|Eu<|E.block<|Lo (κ:=Nat) (λg=>g≤t8.length∧t8.any (a1a (l6,f9) J8)=(t8.drop g).any (a1a (l6,f9) J8)) (λg=>[(2,.slice a_bound J8.length c_bound),(3,.pointer<|some ⟨b3,0,none⟩),(4,.pointer<|some ⟨b4,0,none⟩),(7,.int .i64 (g:Int))]) (λg=>[pt b4 111 [.int .i64 l6,.slice w5 f9.length w4],pt b3 125 [.int .i64 G5,.slice F6 t8.length F5,.int .i64 D6,.int .i64 G4,.int .i64 D7]]) (λg=>t8.length-g) 0 ⟨Nat.zero_le _,by simp⟩<|λg pg=>?_
  obtain ⟨pk,pa⟩:=pg
  refine Eq_<|Ew Z5<|Em Z<|Lz fo_Method_1 ty_Is Z (mS m0) Z<|Yln us_Is Z<|Ylt Z<|l3 (λq18=>?_)<|λq18=>?_
  ·refine Eu<|Ct<|Eq_<|E.block<|Eq_<|Eq_<|D.region (λj=>true) mixed<|Df 0 1 fo_Method_1 ty_Is Z (Hz (mS m0) 1 Z)<|Dm 2 Z ?_
   obtain ⟨eb24,eo24,ea24,ei24,eh24⟩:=F4.elemI g om
   refine Dyp 3 Z (y6 us_Is j8 Z ea24 Z g Z om)<|Dy 4 Z (z7 j8 Z (eh24 _) Z)<|Df 5 6 fo_Atom_1 ty_Is Z (Hz m0 1 Z)<|Dyp 7 Z (Y.len us_Is Z)<|Dyp 8 Z (Y.sub Z Z om om)<|D0 9 Z H3 Z (λ_=>trivial)<|Ent.b (λq30=>?_)<|λq30=>?_
   ·have jz:0≤t8[g]∧t8[g]≤(f9.length:Int)-1:=of_decide_eq_true q30
    refine Dyp 10 Z (Y.not (b:=true) Z)<|o4 kr<|Et<|Cf<|Eq_<|D.region (λj=>true) mixed<|Df 0 1 fo_Atom_1 ty_Is Z (Hz m0 1 Z)<|Df 2 3 fo_Method_1 ty_Is Z (Hz (mS m0) 1 Z)<|Dm 4 Z<|Dyp 5 Z (y6 us_Is j8 Z ea24 Z g Z om)<|Dy 6 Z (z7 j8 Z (eh24 _) Z) ?_
    obtain ⟨eb39,eo39,ea39,ei39,eh39⟩:=y5.elemI t8[g].toNat om
    refine Dyp 7 Z (y6 us_Is j8 Z ea39 Z t8[g].toNat om om)<|Dy 8 Z (z7 j8 Z (eh39 _) Z)<|Dyp 9 Z (E5 Z)<|o4 kr<|Et<|Ew Z8<|Em Z<|E0 Z a0N Z (λ_=>trivial)<|Ent.b (λq42=>?_)<|λq42=>?_
    ·refine Em Z<|Em Z<|Em Z<|E0 Z a0Q Z (λhA=>hA.ro hbound)<|Ent.b (λq46=>?_)<|λq46=>?_
     ·refine Yno true Z<|Ypt Z<|Eu<|r8 Z<|v6<|o6<|Et<|Ez Z3<|Em Z<|Yad Z om om<|Ei Z<|Eu<|d8<|d8 ?_
      exact u7 br (g+1) rs (.refl _) ⟨by omega,by grind[a1a,F8,d1,d2,t1,t2]⟩ om
     ·refine Yno false Z<|Ypt Z<|Eu<|r9 Z<|Ew Z1<|Ei Z<|Eu<|E.ret<|v7<|a5h<|a5h<|v7<|a5h<|Fb Z Z (by grind[M4,a1a,F8,d1,d2,t1,t2])
    ·refine Em Z<|Es Z<|Es Z<|Es Z<|Es Z<|Ypf Z<|Eu<|r8 Z<|v6<|o6<|Et<|Ez Z3<|Em Z<|Yad Z om om<|Ei Z<|Eu<|d8<|d8 ?_
     exact u7 br (g+1) rs (.refl _) ⟨by omega,by grind[a1a,F8,d1,d2,t1,t2]⟩ om
   ·refine Dyp 10 Z (Y.not (b:=false) Z)<|o4 kr<|Et<|r9 Z<|Ew Z1<|Ei Z<|Eu<|E.ret<|a5h<|v7<|a5h<|a5h<|v7<|a5h<|Fb Z Z (by grind[M4,a1a,F8,d1,d2,t1,t2])
  ·refine Eu<|r8 Z<|E.exit<|l2<|l2<|u4<|Et<|Ew Z1<|Ei Z<|Eu<|E.ret<|Fb Z Z (by grind[M4,a1a,F8,d1,d2,t1,t2])
theorem a9G {a_s:Option Addr} {m_s c_s:Nat} {s:List (Int×(SL)×Int×Int×Int)} (hz:s.length≤1048576):TL Tryz.prog 215 [.slice a_s m_s c_s] (λw L=>Ro w L I0 [.slice a_s m_s c_s] s) I0 s:=by
 refine Ti1 Tryz.func215 8 Z λw L hR=>?_
 have hs:=hR
 obtain ⟨rfl,ls⟩:=hs.slen
 refine Ew Z1<|Ei Z<|Eu<|Eq_<|Ew Z2<|Em Z<|Ey Z ((b5H us_Methods Z Z).yd)<|Ent.b (λq4=>?_)<|λq4=>?_
 ·refine Eu<|r9 Z<|Ew Z1<|Ei Z<|Eu<|E.ret<|a5h<|m8 (A:=[]) (Own.nil (E:=U9) (e:=a6M) (a:=none)) Z<|g9 (congrArg (ow I0 [_]) (show _=s by (cases a_s with|none=>exact hs.none_nil.symm|some x=>cases q4)))<|Fg Z Z (none,0,0) Z Z
 ·refine Eu<|Cf<|Ew Z4<|Est Z (Nb [] [] us_Methods ty_Method Z Z)<|λb5 _=>Ent.drop<|Em Z<|Est Z (M9 (E:=U9) b4d us_Methods ty_Method Z Z Z hs bn bn dc)<|λp7 _=>Ei Z<|Eu<|E.ret<|Fg Z Z (_,_,_) Z Z
theorem a9p {l:List (Int×(SL)×Int×Int×Int)} (hz:l.length≤5):TL Tryz.prog 105 [.slice a_l m_l c_l] (λw L=>Ro w L I0 [.slice a_l m_l c_l] l) I0 (exB l):=by
 refine Ti1 Tryz.func105 24 Z λw L hR=>?_
 have hl:=hR
 obtain ⟨rfl,ll⟩:=hl.slen
 refine Ew Z1<|Ei Z<|Ev Z3<|Em Z<|El Z (a9G fc) Z (λhA=>hA.ro hl)<|λa7 c7 l7=>Ei Z<|Eu<|Eq_<|Ew Z3<|Em Z<|Yln us_Methods Z<|Em Z<|Eu<|E.block<|Lo (κ:=Nat) (λg=>g≤l.length) (λg=>[(3,.slice a7 (l).length c7),(8,.slice a7 (l).length c7),(9,.int .i64 (↑((l).length):Int)),(10,.int .i64 (g:Int))]) (λg=>[ow I0 [.slice a7 (l).length c7]<|(l.take g).map V9++l.drop g]) (λg=>l.length-g) 0 (Nat.zero_le _)<|λg pg=>?_
 have jx:=c2p (l:=l) (g:=g)
 refine Ew Z1<|Ylt Z<|l3 (λq11=>?_)<|λq11=>?_
 ·refine Eu<|Eq_<|Ct<|Eq_<|E.block<|Ew Z6<|Em Z<|R1 m0 om λab13 ae13=>X9 (x:=l[g]) g (c3Q (show g<l.length by omega)) λce13=>d8<|b5B λoe13 oi13_0 oi13_2 oi13_3 oi13_4=>?_
  subst oe13
  refine Ix us_Methods ty_Method Z ae13 g Z om<|Ey Z (l4 (cs:=[_,_,_,_,_]) ty_Method Z (Has.hole ae13 m0) Z)<|Est Z (N.alloc ty_Method dc)<|λb5 _=>Ei Z<|Est Z (Ns [_,_,_,_,_] ty_Method Z)<|λ_ _=>Ev Z3<|Lz fo_Method_2 j8 Z m0 Z<|Ey Z ((Y.neq Z Z).yd)<|l3 (λq17=>?_)<|λq17=>?_
  ·refine Eu<|r9 Z<|Ez Z5<|Em Z<|Em Z<|Ix us_Methods ty_Method Z ae13 g Z om<|Ey Z ((D3 fo_Method_0 j8 dc Z).yd)<|d8<|Est Z (c4P (f:=0) (kk:=5) (vs:=[_]) (ce':=[_,_,_,_,_]) j8 Z Z Z Z Z ae13 Z Z bl Z Z)<|λ_ _=>En<|o6<|Et<|Ez Z2<|Yad Z om om<|Em Z<|Eu<|U1 (a2e (x:=(-1,l[g].2.1,l[g].2.2.1,l[g].2.2.2.1,l[g].2.2.2.2)) i6 oi13_2 oi13_3 oi13_4) Z<|d8<|Ent.drop ?_
   exact u7 br (g+1) rs (b9i<|c2n om q17) om om
  ·refine Eu<|r8 Z<|v6<|o6<|Et<|Ez Z2<|Yad Z om om<|Em Z<|Eu<|d8<|U1 (a2e (x:=l[g]) oi13_0 oi13_2 oi13_3 oi13_4) Z<|d8<|Ent.drop ?_
   exact u7 br (g+1) rs (b9i<|c1R om q17) om om
 ·refine Eu<|Eq_<|r8 Z<|E.exit<|l2<|l2<|u4<|Et<|Ew Z2<|Em Z<|Ei Z<|Eu<|E.ret<|g9 (congrArg (ow I0 [_]) (show _=exB l by exact c2y om))<|Fg Z Z (_,_,_) Z Z
theorem b7r {l:List (Int×(SL)×Int×Int×Int)} (hz:l.length≤5):TL Tryz.prog 110 [.slice a_l m_l c_l] (λw L=>Ro w L I0 [.slice a_l m_l c_l] l) I0 (exB l):=by
 refine Ti1 Tryz.func110 26 Z λw L hR=>?_
 have hl:=hR
 obtain ⟨rfl,ll⟩:=hl.slen
 refine Ew Z1<|Ei Z<|Ev Z2<|Est Z (Nb [] [] us_Methods ty_Method Z Z)<|λb6 _=>Ent.drop<|Ei Z<|Eu<|Eq_<|Ew Z1<|Ei Z<|Eu<|E.block<|m8 (A:=[]) (Own.nil (E:=U9) (e:=a6M) (a:=(some ⟨b6,0,none⟩))) Z<|g9 (congrArg (ow I0 [_]) (show _=(l.take 0).map V9 from by first|rfl|(simp;done)|grind[d1,d2,t1,t2]))<|Lo (κ:=Nat×SL) (λg=>g.1≤l.length∧True) (λg=>[(0,.slice a_l l.length c_l),(3,.slice g.2.1 g.2.2.1 g.2.2.2),(4,.int .i64 (↑g.1:Int))]) (λg=>[ow I0 [.slice g.2.1 g.2.2.1 g.2.2.2]<|(l.take g.1).map V9]) (λg=>l.length-g.1) (0,(some ⟨b6,0,none⟩),0,0) ⟨Nat.zero_le _,by simp⟩<|λg pg=>?_
 obtain ⟨g,aA0_0,mA0_0,cA0_0⟩:=g
 try dsimp only at pg
 try dsimp only
 obtain ⟨pk,pa⟩:=pg
 refine f0 m0 ?_
 rintro rfl laA0_0
 refine Eq_<|Ew Z4<|Em Z<|Em Z<|Yln us_Methods Z<|Ylt Z<|l3 (λq10=>?_)<|λq10=>?_
 ·refine Eu<|Ct<|Eq_<|E.block<|Ew Z6<|Em Z<|Em Z ?_
  obtain ⟨eb15,eo15,ec15,ea15,er15,el15,eh15⟩:=hl.elem g om
  obtain ⟨rfl,ei15_0,ei15_2,ei15_3,ei15_4⟩:=a9y er15
  refine Ix us_Methods ty_Method Z ea15 g Z om<|Ey Z (l4 (cs:=[_,_,_,_,_]) ty_Method Z (eh15 _) Z)<|Est Z (N.alloc ty_Method dc)<|λb5 _=>Est Z (Ns [_,_,_,_,_] ty_Method Z)<|λ_ _=>Eu<|Eq_<|Ew Z3<|Lz fo_Method_2 j8 Z m0 Z<|Ey Z ((Y.neq Z Z).yd)<|l3 (λq19=>?_)<|λq19=>?_
  ·refine Eu<|r9 Z<|Ez Z2<|Ey Z ((D3 fo_Method_0 j8 dc Z).yd)<|Est Z (Ns [_,_,_,_,_] j8 Z)<|λ_ _=>Eu<|Ez Z5<|Em Z<|Ey Z (l4 (cs:=[_,_,_,_,_]) ty_Method Z (Has.pt m0) Z)<|Est Z (Nb [_] [_,_,_,_,_] us_Methods ty_Method Z Z)<|λb23 _=>i9<|Est Z (w3 (E:=U9) (ex:=(-1,l[g].2.1,l[g].2.2.1,l[g].2.2.2.1,l[g].2.2.2.2)) us_Methods ty_Method Z Z Z (a2e (x:=(-1,l[g].2.1,l[g].2.2.1,l[g].2.2.2.1,l[g].2.2.2.2)) i6 ei15_2 ei15_3 ei15_4) Z bn bn dc)<|λp24 _=>Ei Z<|En<|o6<|Et<|Ez Z3<|Em Z<|Yad Z om om<|Ei Z<|Eu<|d8<|Ent.drop<|g9 (congrArg (ow I0 [_]) (show _=(l.take<|g+1).map V9 from by first|exact b4t om q19|exact b4Q om q19)) ?_
   exact Ea (g+1,p24.1,(((l.take g).map V9).length+1),p24.2) ⟨oz,trivial⟩
  ·refine Eu<|Cf<|Ez Z5<|Em Z<|Ey Z (l4 (cs:=[_,_,_,_,_]) ty_Method Z (Has.pt m0) Z)<|Est Z (Nb [_] [_,_,_,_,_] us_Methods ty_Method Z Z)<|λb23 _=>i9<|Est Z (w3 (E:=U9) (ex:=l[g]) us_Methods ty_Method Z Z Z (a2e (x:=l[g]) ei15_0 ei15_2 ei15_3 ei15_4) Z bn bn dc)<|λp24 _=>Ei Z<|En<|o6<|Et<|Ez Z3<|Em Z<|Yad Z om om<|Ei Z<|Eu<|d8<|Ent.drop<|g9 (congrArg (ow I0 [_]) (show _=(l.take<|g+1).map V9 from by first|exact b4t om q19|exact b4Q om q19)) ?_
   exact Ea (g+1,p24.1,(((l.take g).map V9).length+1),p24.2) ⟨oz,trivial⟩
 ·refine Eu<|r8 Z<|E.exit<|l2<|l2<|u4<|Et<|Ew Z2<|Em Z<|Ei Z<|Eu<|E.ret<|g9 (congrArg (ow I0 [_]) (show _=exB l by exact c2S om))<|Fg Z Z (_,_,_) Z Z
theorem b0Y:TB Tryz.prog 217 [.agg #[.int .i64 G5,.slice F6 H9 F5,.int .i64 D6,.int .i64 G4,.int .i64 D7],.agg #[.int .i64 l6,.slice w5 C0 w4]] (λw L=>I64 G5∧Ro w L eIs [.slice F6 H9 F5] t8∧I64 D6∧I64 G4∧I64 D7∧I64 l6∧Ro w L eIs [.slice w5 C0 w4] f9) (true):=by
 refine Ti2 Tryz.func217 5 Z λw L hR=>?_
 obtain ⟨Y1,F4,R9,V1,S0,M0,y5⟩:=hR
 obtain ⟨rfl,a0p⟩:=F4.slen
 obtain ⟨rfl,R4⟩:=y5.slen
 refine Ew Z3<|Est Z (N.box (cs:=[_,_,_,_,_]) Z dc Z)<|λb2 _=>Est Z (N.box (cs:=[_,_]) Z dc Z)<|λb3 _=>Ei Z<|Ev Z1<|Ei Z<|Eu<|E.ret<|Fg Z Z () Z Z
theorem a5O:TB Tryz.prog 306 [.agg #[.int .i64 G5,.slice F6 H9 F5,.int .i64 D6,.int .i64 G4,.int .i64 D7],.pointer (some ⟨b_a,0,none⟩),.pointer (some ⟨b_bound,0,none⟩),.pointer (some ⟨b_is,0,none⟩)] (λw L=>(I64 G5∧Ro w L eIs [.slice F6 H9 F5] t8∧I64 D6∧I64 G4∧I64 D7)∧RoPt w L b_a [.int .i64 l6,.slice w5 C0 w4]∧I64 l6∧Ro w L eIs [.slice w5 C0 w4] f9∧RoPt w L b_bound [.slice a_bound m_bound c_bound]∧Ro w L eIs [.slice a_bound m_bound c_bound] J8∧RoPt w L b_is [.func (.func 217) #[] #[]]) (M4 (G5,t8,D6,G4,D7) (l6,f9) J8):=by
 refine Ti4 Tryz.func306 16 Z λw L hR=>?_
 obtain ⟨⟨Y1,F4,R9,V1,S0⟩,hb_a,M0,y5,hb_bound,hbound,hb_is⟩:=hR
 obtain ⟨rfl,a0p⟩:=F4.slen
 obtain ⟨rfl,R4⟩:=y5.slen
 obtain ⟨rfl,lbound⟩:=hbound.slen
 refine Ew Z2<|Est Z (N.box (cs:=[_,_,_,_,_]) Z dc Z)<|λb4 _=>Ei Z<|Ev Z11<|Ey Z (l4 (cs:=[_,_,_,_,_]) ty_Method Z (Has.pt m0) Z)<|Ey Z (l4 (cs:=[_,_]) ty_Atom Z (hb_a.has) Z)<|Ey Z (z7 ty_Is Z (hb_bound.has) Z)<|E0 Z b1R Z (λhA=>⟨Y1,hA.ro F4,R9,V1,S0,M0,hA.ro y5,hA.ro hbound⟩)<|Ent.b (λq9=>?_)<|λq9=>?_
 ·refine Em Z<|Ey Z (z7 ty_Fma Z (hb_is.has) Z)<|Ey Z (l4 (cs:=[_,_,_,_,_]) ty_Method Z (Has.pt m0) Z)<|Ey Z (l4 (cs:=[_,_]) ty_Atom Z (hb_a.has) Z)<|E0 Z b0Y Z (λhA=>⟨Y1,hA.ro F4,R9,V1,S0,M0,hA.ro y5⟩)<|Ypt Z<|Ei Z<|Eu<|E.ret<|Fb Z Z (by grind[d1,d2,t1,t2])
 ·refine Em Z<|Es Z<|Es Z<|Es Z<|Es Z<|Ypf Z<|Ei Z<|Eu<|E.ret<|Fb Z Z (by grind[d1,d2,t1,t2])
theorem a3s {b_atoms:Nat} {b_l:Nat} {b_done:Nat} {a_done:Option Addr} {m_done c_done:Nat} {done:List Bool}:Tr Tryz.prog 305 [.pointer (some ⟨b_atoms,0,none⟩),.pointer (some ⟨b_l,0,none⟩),.pointer (some ⟨b_bound,0,none⟩),.pointer (some ⟨b_is,0,none⟩),.pointer (some ⟨b_done,0,none⟩)] (λw L=>(True)∧RoPt w L b_atoms [.slice a_atoms m_atoms c_atoms]∧Ro w L v8 [.slice a_atoms m_atoms c_atoms] d7∧RoPt w L b_l [.slice a_l m_l c_l]∧Ro w L F0 [.slice a_l m_l c_l] l∧RoPt w L b_bound [.slice a_bound m_bound c_bound]∧Ro w L eIs [.slice a_bound m_bound c_bound] J8∧RoPt w L b_is [.func (.func 217) #[] #[]]∧RoPt w L b_done [.slice a_done m_done c_done]∧Ro w L eBs [.slice a_done m_done c_done] done∧done.length=d7.length) [] (κ:=Unit) (λk=>True) (λk=>.tuple #[.agg #[.int .i64 ((F7 l J8 d7 done 0).1),.int .i64 ((F7 l J8 d7 done 0).2.1)],.bool ((F7 l J8 d7 done 0).2.2)]) (λk=>[]):=by
 refine Ti5 Tryz.func305 34 Z λw L hR=>?_
 obtain ⟨_,hb_atoms,hatoms,hb_l,hl,hb_bound,hbound,hb_is,hb_done,hdone,as0⟩:=hR
 obtain ⟨rfl,latoms⟩:=hatoms.slen
 obtain ⟨rfl,ll⟩:=hl.slen
 obtain ⟨rfl,lbound⟩:=hbound.slen
 obtain ⟨rfl,ldone⟩:=hdone.slen
 refine Ew Z2<|Est Z (N.alloc ty_Step dc)<|λb5 _=>Ei Z<|Eu<|Eq_<|Ew Z3<|Ey Z (z7 ty_Atoms Z (hb_atoms.has) Z)<|Yln us_Atoms Z<|Em Z<|Eu<|E.block<|Lo (κ:=Nat) (λg=>g≤d7.length∧F7 l J8 d7 done 0=F7 l J8 (d7.drop g) (done.drop g) g) (λg=>[(1,.pointer<|some ⟨b_l,0,none⟩),(2,.pointer<|some ⟨b_bound,0,none⟩),(3,.pointer<|some ⟨b_is,0,none⟩),(4,.pointer<|some ⟨b_done,0,none⟩),(5,.pointer<|some ⟨b5,0,none⟩),(10,.slice a_atoms d7.length c_atoms),(11,.int .i64 (↑d7.length:Int)),(12,.int .i64 (g:Int))]) (λg=>[pt b5 148 [.int .i64 0,.int .i64 0]]) (λg=>d7.length-g) 0 ⟨Nat.zero_le _,by simp⟩<|λg pg=>?_
 obtain ⟨pk,pa⟩:=pg
 refine Ew Z1<|Ylt Z<|l3 (λq13=>?_)<|λq13=>?_
 ·refine Eu<|Eq_<|Ct<|Eq_<|E.block<|Ew Z6<|Em Z ?_
  obtain ⟨eb15,eo15,ec15,ea15,er15,el15,eh15⟩:=hatoms.elem g om
  obtain ⟨xa15_0,xc15_0,rfl,ei15_0,xh15_0⟩:=L6 er15
  have:=xh15_0.slen.2
  refine Ix us_Atoms ty_Atom Z ea15 g Z om<|Ey Z (l4 (cs:=[_,_]) ty_Atom Z (eh15 _) Z)<|Est Z (N.alloc ty_Atom dc)<|λb8 _=>Ei Z<|Est Z (Ns [_,_] ty_Atom Z)<|λ_ _=>Ev Z4<|Ey Z (z7 ty_Methods Z (hb_l.has) Z)<|Ey Z ((Y.fn (vs:=[_,_,_]) Z).yd)<|Est Z (b2q (a4k (f:=(λz=>M4 z d7[g] J8)) (D_f:=(λ_=>True)) (by intros;exact trivial)) Z Z Z dc<|λw Lp hA=>⟨hA.ro hl,a8D (RR:=λw L=>RoPt w L b8 [.int .i64 d7[g].1,.slice xa15_0 d7[g].2.length xc15_0]∧I64 d7[g].1∧Ro w L eIs [.slice xa15_0 d7[g].2.length xc15_0] d7[g].2∧RoPt w L b_bound [.slice a_bound J8.length c_bound]∧Ro w L eIs [.slice a_bound J8.length c_bound] J8∧RoPt w L b_is [.func (.func 217) #[] #[]]) (D:=(λ_=>True)) (λhd=>a5O)<|λw' hk=>⟨(hA.pt m0).keep hk,ei15_0,(hA.ro xh15_0).keep hk,(hA.rop hb_bound).keep hk,(hA.ro hbound).keep hk,(hA.rop hb_is).keep hk⟩⟩)<|λ_ _=>Ei Z<|Ev Z9<|Ey Z (z7 ty_Bs Z (hb_done.has) Z)<|Em Z ?_
  obtain ⟨eb22,eo22,ea22,eh22⟩:=hdone.elemB g om
  refine Il us_Bs ty_B Z ea22 g Z om Z (eh22 _)<|Ent.b (λq23=>?_)<|λq23=>?_
  ·refine Yno true Z<|Em Z<|Es Z<|Es Z<|Ypf Z<|Eu<|r8 Z<|v6<|o6<|Et<|Ez Z2<|Yad Z om om<|Em Z<|Eu<|Ent.drop ?_
   exact u7 br (g+1) rs (.refl _) ⟨by omega,by exact pa.trans (a6G om om (by first|(rw[q23];simp;done)|(unfold I5;simp[q27])))⟩ om
  ·refine Yno false Z<|Em Z<|Em Z<|Ey Z ((Y.geq Z Z).yd)<|l3 (λq27=>?_)<|λq27=>?_
   ·refine Ypt Z<|Eu<|r9 Z<|Ew Z5<|Em Z<|Em Z<|Ey Z ((J2 (pvs:=[_,_]) (cs:=[_,_]) ty_Step pl_Step Z Z).yd)<|d8<|Est Z (Ns [_,_] ty_Step Z)<|λ_ _=>Ei Z ?_
    exact Eu<|E.ret<|v7<|a5h<|a5h<|v7<|a5h<|a1z br Z Z Z m0 ty_Step Z () trivial (by rw[show ((F7 l J8 d7 done 0).1)=((g:Int)) from (by rw[pa,a6Q om om (by rw[q23];exact decide_eq_true q27)];try rfl)];rw[show ((F7 l J8 d7 done 0).2.1)=(J0 (λz=>M4 z d7[g] J8) l) from (by rw[pa,a6Q om om (by rw[q23];exact decide_eq_true q27)];try rfl)];rw[show ((F7 l J8 d7 done 0).2.2)=(true) from (by rw[pa,a6Q om om (by rw[q23];exact decide_eq_true q27)];try rfl)];try rfl) (J:=_) (.refl _)<|.inl Z
   ·refine Ypt Z<|Eu<|r8 Z<|v6<|o6<|Et<|Ez Z2<|Yad Z om om<|Em Z<|Eu<|Ent.drop ?_
    exact u7 br (g+1) rs (.refl _) ⟨by omega,by exact pa.trans (a6G om om (by first|(rw[q23];simp;done)|(unfold I5;simp[q27])))⟩ om
 ·refine Eu<|Eq_<|r8 Z<|E.exit<|l2<|l2<|u4<|Et<|Ew Z3<|Ey Z ((J2 (pvs:=[]) (cs:=[_,_]) ty_Step pl_Step Z Z).yd)<|Est Z (Ns [_,_] ty_Step Z)<|λ_ _=>Ei Z ?_
  exact Eu<|E.ret<|a1z br Z Z Z m0 ty_Step Z () trivial (by rw[show ((F7 l J8 d7 done 0).1)=(0) from (by rw[pa,a6H om])];rw[show ((F7 l J8 d7 done 0).2.1)=(0) from (by rw[pa,a6H om])];rw[show ((F7 l J8 d7 done 0).2.2)=(false) from (by rw[pa,a6H om])];try rfl) (J:=_) (.refl _)<|.inl Z
theorem a8c (hl:l.length≤1000) (ha:d7.length≤1000) (ht:∀a∈d7,a.2.length≤3):Tr Tryz.prog 216 [.slice a_l m_l c_l,.slice a_atoms m_atoms c_atoms,.func (.func 217) #[] #[]] (λw L=>Ro w L F0 [.slice a_l m_l c_l] l∧Ro w L v8 [.slice a_atoms m_atoms c_atoms] d7) [] (κ:=(SL)×(SL)) (λk=>True) (λk=>.tuple #[.slice k.1.1 k.1.2.1 k.1.2.2,.slice k.2.1 k.2.2.1 k.2.2.2]) (λk=>[ow Q6 [.slice k.1.1 k.1.2.1 k.1.2.2] ((grF l d7).1),ow eBs [.slice k.2.1 k.2.2.1 k.2.2.2] ((grF l d7).2.1)]):=by
 refine Ti3 Tryz.func216 50 Z λw L hR=>?_
 obtain ⟨hl,hatoms⟩:=hR
 obtain ⟨rfl,ll⟩:=hl.slen
 obtain ⟨rfl,latoms⟩:=hatoms.slen
 refine Ew Z5<|Est Z (N.box (cs:=[_]) Z dc Z)<|λb3 _=>Est Z (N.box (cs:=[_]) Z dc Z)<|λb4 _=>Est Z (N.box (cs:=[_]) Z dc Z)<|λb5 _=>Ei Z<|Ei Z<|Ev Z2<|Est Z (Nb [] [] us_Steps ty_Step Z Z)<|λb14 _=>Ent.drop<|Ei Z<|Ev Z5<|Ey Z (z7 ty_Atoms Z (Has.pt<|mS m0) Z)<|Yln us_Atoms Z<|Est Z (c3U (m:=d7.length) us_Bs ty_B Z Z Z mx om dc)<|λb17 _=>m8 (A:=[_]) (c0U (E:=Enc.bool) (e:=tB) (zx:=false) Own.bool mx) Z<|Est Z (N.alloc ty_Bs dc)<|λb9 _=>Est Z (Ns [_] ty_Bs Z)<|λ_ _=>Ev Z3<|Est Z (Nb [] [] us_Is j8 Z Z)<|λb18 _=>Ent.drop<|Est Z (N.alloc ty_Is dc)<|λb10 _=>Est Z (Ns [_] ty_Is Z)<|λ_ _=>Ev Z2<|Ey Z ((Y.fn (vs:=[_,_,_,_,_]) Z).yd)<|Ei Z<|Eu<|Eq_<|Ew Z8<|Em Z<|E0 Z a3s Z (λhA=>⟨trivial,⟨(hA.pt<|mS<|mS<|mS<|mS m0),(hA.ro hatoms),(hA.pt<|mS<|mS<|mS<|mS<|mS m0),(hA.ro hl),(hA.pt m0),(b9o),(hA.pt<|mS<|mS<|mS m0),(hA.pt<|mS m0),(hA.ow<|mS<|mS m0),(by first|exact List.length_replicate .. |exact a2u)⟩⟩)<|Em Z<|Ey Z ((Y.ext Z Z).yd)<|Ey Z ((Y.ext Z Z).yd)<|Est Z (N.alloc ty_Step dc)<|λb12 _=>Est Z (Ns [_,_] ty_Step Z)<|λ_ _=>Ei Z<|Eu<|E.block<|m8 (A:=[]) (Own.nil (E:=a3r) (e:=tStep) (a:=(some ⟨b14,0,none⟩))) Z<|g9 (congrArg (ow Q6 [_]) (show _=(grI l d7 0).1 from by first|rfl|simp))<|d8<|g9 (congrArg (λz=>pt b12 148 [.int .i64 z,.int .i64<|(F7 l ([]) d7 (List.replicate d7.length false) 0).2.1]) (show (F7 l ([]) d7 (List.replicate d7.length false) 0).1=(F7 l (grI l d7 0).2.2 d7 (grI l d7 0).2.1 0).1 from by first|rfl|simp))<|g9 (congrArg (λz=>pt b12 148 [.int .i64<|(F7 l (grI l d7 0).2.2 d7 (grI l d7 0).2.1 0).1,.int .i64 z]) (show (F7 l ([]) d7 (List.replicate d7.length false) 0).2.1=(F7 l (grI l d7 0).2.2 d7 (grI l d7 0).2.1 0).2.1 from by first|rfl|simp))<|m8 (A:=[]) (Own.nil (E:=Enc.int) (e:=tI) (a:=(some ⟨b18,0,none⟩))) Z<|g9 (congrArg (ow eIs [_]) (show _=(grI l d7 0).2.2 from by first|rfl|simp))<|u6<|g9 (congrArg (ow eBs [_]) (show _=(grI l d7 0).2.1 from by first|rfl|simp))<|E.loop (κ:=Nat×Option Addr×Nat×Nat×Nat×Option Addr×Nat×Nat×SL) (λg=>g.1≤d7.length∧grP l d7 g.1) (λg=>[(4,.pointer<|some ⟨b4,0,none⟩),(8,.slice g.2.1 g.2.2.1 g.2.2.2.1),(9,.pointer<|some ⟨b9,0,none⟩),(10,.pointer<|some ⟨b10,0,none⟩),(11,.func (.func 305) #[] #[.pointer<|some ⟨b4,0,none⟩,.pointer<|some ⟨b3,0,none⟩,.pointer<|some ⟨b10,0,none⟩,.pointer<|some ⟨b5,0,none⟩,.pointer<|some ⟨b9,0,none⟩]),(12,.pointer<|some ⟨g.2.2.2.2.1,0,none⟩),(13,.bool<|(F7 l (grI l d7 g.1).2.2 d7 (grI l d7 g.1).2.1 0).2.2)]) (λg=>[ow eBs [.slice g.2.2.2.2.2.2.2.2.1 g.2.2.2.2.2.2.2.2.2.1 g.2.2.2.2.2.2.2.2.2.2]<|(grI l d7 g.1).2.1,ow eIs [.slice g.2.2.2.2.2.1 g.2.2.2.2.2.2.1 g.2.2.2.2.2.2.2.1]<|(grI l d7 g.1).2.2,pt g.2.2.2.2.1 148 [.int .i64<|(F7 l (grI l d7 g.1).2.2 d7 (grI l d7 g.1).2.1 0).1,.int .i64<|(F7 l (grI l d7 g.1).2.2 d7 (grI l d7 g.1).2.1 0).2.1],ow Q6 [.slice g.2.1 g.2.2.1 g.2.2.2.1]<|(grI l d7 g.1).1,pt b10 24 [.slice g.2.2.2.2.2.1 g.2.2.2.2.2.2.1 g.2.2.2.2.2.2.2.1],pt b9 140 [.slice g.2.2.2.2.2.2.2.2.1 g.2.2.2.2.2.2.2.2.2.1 g.2.2.2.2.2.2.2.2.2.2],pt b5 228 [.func (.func 217) #[] #[]],pt b4 26 [.slice a_atoms d7.length c_atoms],pt b3 25 [.slice a_l l.length c_l]]) (λg=>d7.length-g.1) (0,(some ⟨b14,0,none⟩),0,0,b12,(some ⟨b18,0,none⟩),0,0,(some ⟨b17,0,none⟩),d7.length,d7.length) ⟨Nat.zero_le _,b6h⟩ ⟨Z,Z,Z,Z,Z,Z,frB (by first|rfl|simp),trivial⟩ (.refl _)<|λg pg=>?_
 obtain ⟨g,aA0_0,mA0_0,cA0_0,bA0_1,aA0_3,mA0_3,cA0_3,aA0_4,mA0_4,cA0_4⟩:=g
 try dsimp only at pg
 try dsimp only
 obtain ⟨pk,pa⟩:=pg
 have jb:=c2z (l:=l) (d7:=d7) (n:=g) ht
 have jd:=a2u (l:=l) (d7:=d7) (n:=g)
 have js:=b3I (l:=l) (d7:=d7) (n:=g)
 refine f0 (mS<|mS<|mS m0) ?_
 rintro rfl laA0_0
 refine f0 (mS m0) ?_
 rintro rfl laA0_3
 refine f0 m0 ?_
 rintro rfl laA0_4
 refine Eq_<|Ew Z1<|Em Z<|Ent.b (λq25=>?_)<|λq25=>?_
 ·have jl:=c0X pa q25
  obtain ⟨jn1,jn2,jn3,jn4⟩:=c5I (l:=l) (d7:=d7) (n:=g) q25
  refine Eu<|Ct<|Eq_<|E.block<|Ew Z5<|Ey Z (z7 ty_Bs Z (Has.pt<|mS<|mS<|mS<|mS<|mS m0) Z)<|Lz fo_Step_0 j8 Z (mS<|mS m0) Z<|R1 m0 om λab34 ae34=>Ix us_Bs ty_B Z ae34 (((F7 l (grI l d7 g).2.2 d7 (grI l d7 g).2.1 0).1).toNat) om om<|Est Z (N.set (E:=Enc.bool) (j:=((F7 l (grI l d7 g).2.2 d7 (grI l d7 g).2.1 0).1).toNat) (ex:=true) (ce:=[_]) ty_B Z Z Z Z Own.bool ae34 (Nat.zero_add _) Z om)<|λ_ _=>Eu<|Eq_<|D.region (λj=> !(Nat.beq j 7)&& !(Nat.beq j 8)) mixed<|Dy 0 Z (z7 ty_Is Z (Has.pt<|mS<|mS<|mS<|mS m0) Z)<|Dy 1 Z (z7 ty_Atoms Z (Has.pt<|mS<|mS<|mS<|mS<|mS<|mS<|mS m0) Z)<|Df 2 3 fo_Step_0 j8 Z (Hz (mS<|mS m0) 0 Z) ?_
  obtain ⟨eb39,eo39,ec39,ea39,er39,el39,eh39⟩:=hatoms.elem (((F7 l (grI l d7 g).2.2 d7 (grI l d7 g).2.1 0).1).toNat) om
  obtain ⟨xa39_0,xc39_0,rfl,ei39_0,xh39_0⟩:=L6 er39
  have:=xh39_0.slen.2
  refine Dyp 4 Z (y6 us_Atoms ty_Atom Z ea39 Z (((F7 l (grI l d7 g).2.2 d7 (grI l d7 g).2.1 0).1).toNat) om om)<|Dyp 5 Z (D3 fo_Atom_1 ty_Is dc Z) ?_
  have jt:=ht _ (List.getElem_mem (show ((F7 l (grI l d7 g).2.2 d7 (grI l d7 g).2.1 0).1).toNat<d7.length by omega))
  refine Dy 6 Z (z7 ty_Is Z ((eh39 _).sub (cs':=[_]) 1 Z) Z)<|d8<|w6 7 Z Z kr (λh=>by cases h) (b6Z (E:=Enc.int) Plain.int us_Is j8 Z Z Z xh39_0 Z bn bn dc)<|λp42 _=>s6<|w6 8 Z Z kr (λh=>by cases h) (Ns [_] ty_Is rfl)<|λ_ _=>o4 kr<|Et<|Ez Z5<|Em Z<|Ey Z (l4 (cs:=[_,_]) ty_Step Z (Has.pt<|mS<|mS<|mS m0) Z)<|Est Z (Nb [_] [_,_] us_Steps ty_Step Z Z)<|λb45 _=>u6<|Est Z (w3 (E:=a3r) (ex:=((F7 l (grI l d7 g).2.2 d7 (grI l d7 g).2.1 0).1,(F7 l (grI l d7 g).2.2 d7 (grI l d7 g).2.1 0).2.1)) us_Steps ty_Step Z Z Z (a4G (x:=((F7 l (grI l d7 g).2.2 d7 (grI l d7 g).2.1 0).1,(F7 l (grI l d7 g).2.2 d7 (grI l d7 g).2.1 0).2.1)) i6 i6) Z bn bn dc)<|λp46 _=>Ei Z<|En<|o6<|Et<|Eq_<|Ew Z1<|Ey Z (l4 (cs:=[_,_]) ty_Step Z (Has.pt<|mS<|mS<|mS<|mS m0) Z)<|Eu<|Ez Z2<|Est Z (N.alloc ty_Step dc)<|λb12 _=>Est Z (Ns [_,_] ty_Step Z)<|λ_ _=>Eu<|Ez Z7<|s6<|g9 (congrArg (ow eBs [_]) (show _=(grI l d7<|g+1).2.1 from by exact c4O q25))<|s6<|g9 (congrArg (ow eIs [_]) (show _=(grI l d7<|g+1).2.2 from by exact c4l q25 om))<|Em Z<|E0 Z a3s Z (λhA=>⟨trivial,⟨(hA.pt<|mS<|mS<|mS<|mS<|mS<|mS<|mS<|mS m0),(hA.ro hatoms),(hA.pt<|mS<|mS<|mS<|mS<|mS<|mS<|mS<|mS<|mS m0),(hA.ro hl),(hA.pt<|mS<|mS<|mS<|mS m0),(hA.ow m0),(hA.pt<|mS<|mS<|mS<|mS<|mS<|mS<|mS m0),(hA.pt<|mS<|mS<|mS<|mS<|mS<|mS m0),(hA.ow<|mS m0),(by first|exact List.length_replicate .. |exact a2u)⟩⟩)<|Em Z<|Ey Z ((Y.ext Z Z).yd)<|Ey Z ((Y.ext Z Z).yd)<|i9<|Est Z (Ns [_,_] ty_Step Z)<|λ_ _=>Ei Z<|Eu<|g9 (congrArg (λz=>pt b12 148 [.int .i64 z,.int .i64<|(F7 l ((grI l d7<|g+1).2.2) d7 ((grI l d7<|g+1).2.1) 0).2.1]) (show (F7 l ((grI l d7<|g+1).2.2) d7 ((grI l d7<|g+1).2.1) 0).1=(F7 l (grI l d7<|g+1).2.2 d7 (grI l d7<|g+1).2.1 0).1 from by first|exact b3J q25|rfl))<|g9 (congrArg (λz=>pt b12 148 [.int .i64<|(F7 l (grI l d7<|g+1).2.2 d7 (grI l d7<|g+1).2.1 0).1,.int .i64 z]) (show (F7 l ((grI l d7<|g+1).2.2) d7 ((grI l d7<|g+1).2.1) 0).2.1=(F7 l (grI l d7<|g+1).2.2 d7 (grI l d7<|g+1).2.1 0).2.1 from by first|exact b3J q25|rfl))<|u6<|Ent.drop<|n0<|g9 (congrArg (ow Q6 [_]) (show _=(grI l d7<|g+1).1 from by first|exact b3J q25|rfl))<|B4<|B4<|B4<|B4<|B4<|u6<|s4<|H1<|B4 ?_
  exact u7 br (g+1,p46.1,(((grI l d7 g).1).length+1),p46.2,b12,p42.1,(((grI l d7 g).2.2).length+d7[((F7 l (grI l d7 g).2.2 d7 (grI l d7 g).2.1 0).1).toNat].2.length),p42.2,aA0_4,_,cA0_4) ⟨Z,Z,Z,Z,Z,Z,frB (by first|exact b3J q25|rfl),trivial⟩ (.refl _) ⟨oz,(show grP l d7 (g+1) from by exact b6P pa q25)⟩ oz
 ·have jf:=c2P pa q25
  refine Eu<|r8 Z<|E.exit<|l2<|l2<|u4<|Et<|Eq_<|D.region (λj=>true) mixed<|Dm 0 Z<|Dy 1 Z (z7 ty_Bs Z (Has.pt<|mS<|mS<|mS<|mS<|mS m0) Z)<|Dyp 2 Z (E5 Z)<|Dyp 3 Z (E5 Z)<|o4 kr<|Et<|E.ret<|g9 (congrArg (ow eBs [_]) (show _=(grF l d7).2.1 by rw[jf]))<|n0<|g9 (congrArg (ow Q6 [_]) (show _=(grF l d7).1 by rw[jf]))<|d8<|d8<|b2n br Z Z Z ((_,_,_),(_,_,_)) trivial Z (J:=_) (.refl _)<|.inl Z
theorem a7h (hl:l.length≤1000) (ha:d7.length≤1000) (ht:∀a∈d7,a.2.length≤3):Tr Tryz.prog 106 [.slice a_l m_l c_l,.slice a_atoms m_atoms c_atoms] (λw L=>Ro w L F0 [.slice a_l m_l c_l] l∧Ro w L v8 [.slice a_atoms m_atoms c_atoms] d7) [] (κ:=(SL)×(SL)) (λk=>True) (λk=>.tuple #[.slice k.1.1 k.1.2.1 k.1.2.2,.slice k.2.1 k.2.2.1 k.2.2.2]) (λk=>[ow Q6 [.slice k.1.1 k.1.2.1 k.1.2.2] ((grF l d7).1),ow eBs [.slice k.2.1 k.2.2.1 k.2.2.2] ((grF l d7).2.1)]):=by
 refine Ti2 Tryz.func106 11 Z λw L hR=>?_
 obtain ⟨hl,hatoms⟩:=hR
 obtain ⟨rfl,ll⟩:=hl.slen
 obtain ⟨rfl,latoms⟩:=hatoms.slen
 refine Ew Z2<|Ei Z<|Ei Z<|Ev Z7<|Em Z<|Em Z<|Est Z (N.call (a8c fc fc fc) Z Z Z dc Z<|λw Lp hA=>⟨hA.ro hl,hA.ro hatoms⟩)<|λk8 _=>?_
 obtain ⟨⟨a8_0,m8_0,c8_0⟩,⟨a8_1,m8_1,c8_1⟩⟩:=k8
 refine f0 m0 ?_
 rintro rfl l8_0
 refine f0 (mS m0) ?_
 rintro rfl l8_1
 refine Ey Z ((Y.ext Z Z).yd)<|Ey Z ((Y.ext Z Z).yd)<|Ei Z<|Ei Z<|Eu<|E.ret<|d8<|d8<|d8<|d8<|b2n br Z Z Z ((_,_,_),(_,_,_)) trivial Z (J:=_) (.refl _)<|.inl Z
theorem b1N:Tr Tryz.prog 111 [.slice a_l m_l c_l,.agg #[.int .i64 l6,.slice w5 C0 w4],.slice a_bound m_bound c_bound] (λw L=>Ro w L F0 [.slice a_l m_l c_l] l∧I64 l6∧Ro w L eIs [.slice w5 C0 w4] f9∧Ro w L eIs [.slice a_bound m_bound c_bound] J8) [] (κ:=Unit) (λk=>True) (λk=>.int .i64 (I5 l (l6,f9) J8)) (λk=>[]):=by
 refine Ti3 Tryz.func111 22 Z λw L hR=>?_
 obtain ⟨hl,M0,y5,hbound⟩:=hR
 obtain ⟨rfl,ll⟩:=hl.slen
 obtain ⟨rfl,R4⟩:=y5.slen
 obtain ⟨rfl,lbound⟩:=hbound.slen
 refine Ew Z2<|Est Z (N.box (cs:=[_,_]) Z dc Z)<|λb4 _=>Ei Z<|Eu<|Eq_<|Ew Z1<|Ei Z<|Eu<|E.block<|Lo (κ:=Nat) (λg=>g≤l.length∧∀x∈l.take g,M4 x (l6,f9) J8=false) (λg=>[(0,.slice a_l l.length c_l),(2,.slice a_bound J8.length c_bound),(4,.pointer<|some ⟨b4,0,none⟩),(7,.int .i64 (g:Int))]) (λg=>[pt b4 111 [.int .i64 l6,.slice w5 f9.length w4]]) (λg=>l.length-g) 0 ⟨Nat.zero_le _,by simp⟩<|λg pg=>?_
 obtain ⟨pk,pa⟩:=pg
 refine Eq_<|Ew Z4<|Em Z<|Em Z<|Yln us_Methods Z<|Ylt Z<|l3 (λq11=>?_)<|λq11=>?_
 ·refine Eu<|Ct<|Eq_<|E.block<|Eq_<|D.region (λj=>true) mixed<|Dm 0 Z<|Dm 1 Z ?_
  obtain ⟨eb16,eo16,ec16,ea16,er16,el16,eh16⟩:=hl.elem g om
  obtain ⟨xa16_0,xc16_0,rfl,ei16_0,xh16_0,ei16_2,ei16_3,ei16_4⟩:=P9 er16
  have:=xh16_0.slen.2
  refine Dyp 2 Z (y6 us_Methods ty_Method Z ea16 Z g Z om)<|Dy 3 Z (l4 (cs:=[_,_,_,_,_]) ty_Method Z (eh16 _) Z)<|Dy 4 Z (l4 (cs:=[_,_]) ty_Atom Z (Has.pt m0) Z)<|Dm 5 Z<|D0 6 Z a6s Z (λhA=>⟨ei16_0,hA.ro xh16_0,ei16_2,ei16_3,ei16_4,M0,hA.ro y5,hA.ro hbound⟩)<|Ent.b (λq20=>?_)<|λq20=>?_
  ·refine o4 kr<|Et<|r9 Z<|Ew Z2<|Em Z<|Ei Z<|Eu<|E.ret<|v7<|a5h<|a5h<|v7<|a5h<|Fg Z Z () (congrArg (Value.int .i64) (by first|exact P3 (p:=λm=>M4 m (l6,f9) J8) om pa q20|exact O4 (p:=λm=>M4 m (l6,f9) J8) om pa)) Z
  ·refine o4 kr<|Et<|r8 Z<|v6<|o6<|Et<|Ez Z3<|Em Z<|Yad Z om om<|Ei Z ?_
   exact Eu<|u7 br (g+1) rs (.refl _) ⟨by omega,by exact X3 (p:=λm=>M4 m (l6,f9) J8) om pa q20⟩ om
 ·refine Eu<|r8 Z<|E.exit<|l2<|l2<|u4<|Et<|Ew Z1<|Ei Z<|Eu<|E.ret<|Fg Z Z () (congrArg (Value.int .i64) (by first|exact P3 (p:=λm=>M4 m (l6,f9) J8) om pa q20|exact O4 (p:=λm=>M4 m (l6,f9) J8) om pa)) Z
theorem a7n (hz:J8.length≤1000) (ht:f9.length≤3):TL Tryz.prog 221 [.slice a_bound m_bound c_bound,.agg #[.int .i64 l6,.slice w5 C0 w4]] (λw L=>Ro w L eIs [.slice a_bound m_bound c_bound] J8∧I64 l6∧Ro w L eIs [.slice w5 C0 w4] f9) eIs (a3c J8 (l6,f9)):=by
 refine Ti2 Tryz.func221 31 Z λw L hR=>?_
 obtain ⟨hbound,M0,y5⟩:=hR
 obtain ⟨rfl,lbound⟩:=hbound.slen
 obtain ⟨rfl,R4⟩:=y5.slen
 refine Ew Z2<|Est Z (N.box (cs:=[_,_]) Z dc Z)<|λb3 _=>Ei Z<|Ev Z4<|Est Z (Nb [] [] us_Is j8 Z Z)<|λb7 _=>Ent.drop<|Em Z<|Est Z (M9 (E:=Enc.int) Plain.int us_Is j8 Z Z Z hbound bn bn dc)<|λp9 _=>Ei Z<|Eu<|Eq_<|Ew Z1<|Ei Z<|Eu<|E.block<|g9 (congrArg (ow eIs [_]) (show _=((f9.take 0).filter λt=>inR t 10 17).foldl O9 J8 from by first|rfl|(simp;done)|grind[d1,d2,t1,t2]))<|Lo (κ:=Nat×SL) (λg=>g.1≤f9.length∧True) (λg=>[(3,.pointer<|some ⟨b3,0,none⟩),(5,.slice g.2.1 g.2.2.1 g.2.2.2),(6,.int .i64 (↑g.1:Int))]) (λg=>[ow eIs [.slice g.2.1 g.2.2.1 g.2.2.2]<|((f9.take g.1).filter λt=>inR t 10 17).foldl O9 J8,pt b3 111 [.int .i64 l6,.slice w5 f9.length w4]]) (λg=>f9.length-g.1) (0,p9.1,J8.length,p9.2) ⟨Nat.zero_le _,by simp⟩<|λg pg=>?_
 obtain ⟨g,aA0_0,mA0_0,cA0_0⟩:=g
 try dsimp only at pg
 try dsimp only
 obtain ⟨pk,pa⟩:=pg
 have jf:=a4V (b:=J8) (t:=(f9.take g).filter λt=>inR t 10 17)
 have jg:=List.length_filter_le (λt=>inR t 10 17) (f9.take g)
 have jh:=List.length_take_le g f9
 refine f0 m0 ?_
 rintro rfl laA0_0
 refine Eq_<|Ew Z5<|Em Z<|Lz fo_Atom_1 ty_Is Z (mS m0) Z<|Yln us_Is Z<|Ylt Z<|l3 (λq14=>?_)<|λq14=>?_
 ·refine Eu<|Ct<|Eq_<|E.block<|Ew Z6<|Lz fo_Atom_1 ty_Is Z (mS m0) Z<|Em Z ?_
  obtain ⟨eb20,eo20,ea20,ei20,eh20⟩:=y5.elemI g om
  refine Il us_Is j8 Z ea20 g Z om Z (eh20 _)<|E0 Z a0N Z (λ_=>trivial)<|Ent.b (λq22=>?_)<|λq22=>?_
  ·refine Eu<|r9 Z<|Ez Z8<|Em Z<|Lz fo_Atom_1 ty_Is Z (mS m0) Z<|Em Z<|Il us_Is j8 Z ea20 g Z om Z (eh20 _)<|Est Z (N.call (pre:=[_]) (a5b fc) Z Z Z dc Z<|λw Lp hA=>ei20)<|λk29 _=>?_
   obtain ⟨a29,m29,c29⟩:=k29
   refine f0 m0 ?_
   rintro rfl l29
   refine Ei Z<|En<|o6<|Et<|Ez Z3<|Em Z<|Yad Z om om<|Ei Z<|Eu<|g9 (congrArg (ow eIs [_]) (show _=((f9.take<|g+1).filter λt=>inR t 10 17).foldl O9 J8 from by first|exact b8K om q22|exact b8g om q22))<|d8<|d8 ?_
   exact Ea (g+1,a29,_,c29) ⟨oz,trivial⟩
  ·refine Eu<|r8 Z<|v6<|o6<|Et<|Ez Z3<|Em Z<|Yad Z om om<|Ei Z<|Eu<|g9 (congrArg (ow eIs [_]) (show _=((f9.take<|g+1).filter λt=>inR t 10 17).foldl O9 J8 from by first|exact b8K om q22|exact b8g om q22))<|d8<|d8 ?_
   exact Ea (g+1,aA0_0,_,cA0_0) ⟨oz,trivial⟩
 ·refine Eu<|r8 Z<|E.exit<|l2<|l2<|u4<|Et<|Ew Z2<|Em Z<|Ei Z<|Eu<|E.ret<|g9 (congrArg (ow eIs [_]) (show _=a3c J8 (l6,f9) by rw[List.take_of_length_le om];rfl))<|Fg Z Z (_,_,_) Z Z
theorem a5v {r7:Option Addr} {u5 r6:Nat} {d9:List Int} {o1:Option Addr} {s9 o0:Nat} {c6:List IL} (hl:l.length≤1000) (ha:c6.length≤100) (ht:∀a∈c6,a.2.length≤3):TL Tryz.prog 109 [.slice a_l m_l c_l,.agg #[.slice r7 u5 r6,.slice o1 s9 o0]] (λw L=>Ro w L F0 [.slice a_l m_l c_l] l∧Ro w L eIs [.slice r7 u5 r6] d9∧Ro w L v8 [.slice o1 s9 o0] c6) Q6 ((grF l c6).1):=by
 refine Ti2 Tryz.func109 62 Z λw L hR=>?_
 obtain ⟨hl,s7,o2⟩:=hR
 obtain ⟨rfl,ll⟩:=hl.slen
 obtain ⟨rfl,I8⟩:=s7.slen
 obtain ⟨rfl,G9⟩:=o2.slen
 refine Ew Z2<|Est Z (N.box (cs:=[_,_]) Z dc Z)<|λb3 _=>Ei Z<|Ev Z2<|Est Z (Nb [] [] us_Steps ty_Step Z Z)<|λb11 _=>Ent.drop<|Ei Z<|Ev Z2<|Est Z (Nb [] [] us_Is j8 Z Z)<|λb12 _=>Ent.drop<|Ei Z<|Ev Z2<|Est Z (Nb [] [] us_Is j8 Z Z)<|λb13 _=>Ent.drop<|Ei Z<|Eu<|Eq_<|Ew Z1<|Ei Z<|Eu<|E.block<|m8 (A:=[]) (Own.nil (E:=a3r) (e:=tStep) (a:=(some ⟨b11,0,none⟩))) Z<|g9 (congrArg (ow Q6 [_]) (show _=(grI l c6 0).1 from by rfl))<|m8 (A:=[]) (Own.nil (E:=Enc.int) (e:=tI) (a:=(some ⟨b12,0,none⟩))) Z<|g9 (congrArg (ow eIs [_]) (show _=grV l c6 0 from by rfl))<|m8 (A:=[]) (Own.nil (E:=Enc.int) (e:=tI) (a:=(some ⟨b13,0,none⟩))) Z<|g9 (congrArg (ow eIs [_]) (show _=((grI l c6 0).1).map (λx=>x.1) from by rfl))<|Lo (κ:=Nat×Option Addr×Nat×Nat×Option Addr×Nat×Nat×SL) (λr=>r.1≤c6.length∧True) (λr=>[(0,.slice a_l l.length c_l),(3,.pointer<|some ⟨b3,0,none⟩),(5,.slice r.2.1 r.2.2.1 r.2.2.2.1),(6,.slice r.2.2.2.2.1 r.2.2.2.2.2.1 r.2.2.2.2.2.2.1),(7,.slice r.2.2.2.2.2.2.2.1 r.2.2.2.2.2.2.2.2.1 r.2.2.2.2.2.2.2.2.2),(8,.int .i64 (↑r.1:Int))]) (λr=>[ow eIs [.slice r.2.2.2.2.2.2.2.1 r.2.2.2.2.2.2.2.2.1 r.2.2.2.2.2.2.2.2.2]<|((grI l c6 r.1).1).map (λx=>x.1),ow eIs [.slice r.2.2.2.2.1 r.2.2.2.2.2.1 r.2.2.2.2.2.2.1]<|grV l c6 r.1,ow Q6 [.slice r.2.1 r.2.2.1 r.2.2.2.1]<|(grI l c6 r.1).1,pt b3 28 [.slice r7 d9.length r6,.slice o1 c6.length o0]]) (λr=>c6.length-r.1) (0,(some ⟨b11,0,none⟩),0,0,(some ⟨b12,0,none⟩),0,0,(some ⟨b13,0,none⟩),0,0) ⟨Nat.zero_le _,by simp⟩<|λr pr=>?_
 obtain ⟨r,aA0_0,mA0_0,cA0_0,aA0_1,mA0_1,cA0_1,aA0_2,mA0_2,cA0_2⟩:=r
 try dsimp only at pr
 try dsimp only
 obtain ⟨pk,pa⟩:=pr
 have jb:=c2e (l:=l) (d7:=c6) (n:=r) ht
 have js:=b3I (l:=l) (d7:=c6) (n:=r)
 have ju:(((grI l c6 r).1).map λx=>x.1).length=((grI l c6 r).1).length:=List.length_map ..
 refine f0 (mS<|mS m0) ?_
 rintro rfl laA0_0
 refine f0 (mS m0) ?_
 rintro rfl laA0_1
 refine f0 m0 ?_
 rintro rfl laA0_2
 refine Eq_<|Ew Z5<|Em Z<|Lz fo_Query_1 ty_Atoms Z (mS<|mS<|mS m0) Z<|Yln us_Atoms Z<|Ylt Z<|l3 (λq18=>?_)<|λq18=>?_
 ·refine Eu<|Ct<|Eq_<|E.block<|Ew Z1<|Ei Z<|Eu<|E.block<|Lo (κ:=Nat×Option Addr×Nat×Nat×Option Addr×Nat×Nat×SL) (λg=>g.1≤c6.length∧sgI l c6 r g.1) (λg=>[(0,.slice a_l l.length c_l),(3,.pointer<|some ⟨b3,0,none⟩),(5,.slice g.2.1 g.2.2.1 g.2.2.2.1),(6,.slice g.2.2.2.2.1 g.2.2.2.2.2.1 g.2.2.2.2.2.2.1),(7,.slice g.2.2.2.2.2.2.2.1 g.2.2.2.2.2.2.2.2.1 g.2.2.2.2.2.2.2.2.2),(8,.int .i64 (r:Int)),(9,.int .i64 (↑g.1:Int))]) (λg=>[ow eIs [.slice g.2.2.2.2.2.2.2.1 g.2.2.2.2.2.2.2.2.1 g.2.2.2.2.2.2.2.2.2]<|((grI l c6 r).1).map (λx=>x.1),ow eIs [.slice g.2.2.2.2.1 g.2.2.2.2.2.1 g.2.2.2.2.2.2.1]<|grV l c6 r,ow Q6 [.slice g.2.1 g.2.2.1 g.2.2.2.1]<|(grI l c6 r).1,pt b3 28 [.slice r7 d9.length r6,.slice o1 c6.length o0]]) (λg=>c6.length-g.1) (0,aA0_0,((grI l c6 r).1).length,cA0_0,aA0_1,(grV l c6 r).length,cA0_1,aA0_2,(((grI l c6 r).1).map (λx=>x.1)).length,cA0_2) ⟨Nat.zero_le _,c2t⟩<|λg pg=>?_
  obtain ⟨g,aA1_0,mA1_0,cA1_0,aA1_1,mA1_1,cA1_1,aA1_2,mA1_2,cA1_2⟩:=g
  try dsimp only at pg
  try dsimp only
  obtain ⟨pk,pa⟩:=pg
  refine f0 (mS<|mS m0) ?_
  rintro rfl laA1_0
  refine f0 (mS m0) ?_
  rintro rfl laA1_1
  refine f0 m0 ?_
  rintro rfl laA1_2
  refine Eq_<|Ew Z5<|Em Z<|Lz fo_Query_1 ty_Atoms Z (mS<|mS<|mS m0) Z<|Yln us_Atoms Z<|Ylt Z<|l3 (λq25=>?_)<|λq25=>?_
  ·refine Eu<|Ct<|Eq_<|E.block<|Ew Z9<|Em Z<|Lz fo_Query_1 ty_Atoms Z (mS<|mS<|mS m0) Z<|Em Z ?_
   obtain ⟨eb32,eo32,ec32,ea32,er32,el32,eh32⟩:=o2.elem g om
   obtain ⟨xa32_0,xc32_0,rfl,ei32_0,xh32_0⟩:=L6 er32
   have:=xh32_0.slen.2
   refine Ix us_Atoms ty_Atom Z ea32 g Z om<|Ey Z (l4 (cs:=[_,_]) ty_Atom Z (eh32 _) Z)<|Em Z<|E0 Z b1N Z (λhA=>⟨hA.ro hl,ei32_0,hA.ro xh32_0,hA.ow<|mS m0⟩)<|Ei Z<|Ev Z8<|Em Z<|Ey Z ((Y.geq Z Z).yd)<|l3 (λq37=>?_)<|λq37=>?_
   ·have jm:=b9X (l:=l) (a:=c6[g]) (b:=grV l c6 r)
    refine Em Z<|Em Z<|Em Z<|E0 Z a0Q Z (λhA=>hA.ow m0)<|Ent.b (λq41=>?_)<|λq41=>?_
    ·refine Yno true Z<|Ypt Z<|Eu<|r8 Z<|v6<|o6<|Et<|Ez Z3<|Em Z<|Yad Z om om<|Ei Z<|Eu<|n0<|n0<|n0<|n0 ?_
     exact Ea (g+1,aA1_0,_,cA1_0,aA1_1,_,cA1_1,aA1_2,_,cA1_2) ⟨oz,(show sgI l c6 r (g+1) from by first|exact b6a pa om q37|exact b6v pa om q41)⟩
    ·refine Yno false Z<|Ypt Z<|Eu<|r9 Z<|Ew Z7<|Em Z<|Em Z<|Em Z<|Ey Z ((J2 (pvs:=[_,_]) (cs:=[_,_]) ty_Step pl_Step Z Z).yd)<|Est Z (Nb [_] [_,_] us_Steps ty_Step Z Z)<|λb48 _=>n0<|Est Z (w3 (E:=a3r) (ex:=((g:Int),I5 l c6[g]<|grV l c6 r)) us_Steps ty_Step Z Z Z (a4G (x:=((g:Int),I5 l c6[g]<|grV l c6 r)) i6 i6) Z bn bn dc)<|λp49 _=>Ei Z<|Ev Z5<|Em Z<|Em Z<|Est Z (Nb [_] [_] us_Is j8 Z Z)<|λb52 _=>i9<|Est Z (w3 (E:=Enc.int) (ex:=(g:Int)) us_Is j8 Z Z Z (Own.int i6) Z bn bn dc)<|λp53 _=>Ei Z<|Ev Z8<|Em Z<|Lz fo_Query_1 ty_Atoms Z (mS<|mS<|mS m0) Z<|Em Z<|Ix us_Atoms ty_Atom Z ea32 g Z om<|Ey Z (l4 (cs:=[_,_]) ty_Atom Z (eh32 _) Z)<|El Z (a7n fo<|ht _<|List.getElem_mem om) Z (λhA=>⟨hA.ow<|mS<|mS m0,ei32_0,hA.ro xh32_0⟩)<|λa60 c60 l60=>?_
     refine Ei Z<|Eu<|E.exit<|c4V Z<|l2<|l2<|u4<|o6<|Et<|Ez Z3<|Em Z<|Yad Z om om<|Ei Z<|Eu<|n0<|Ent.drop<|i9<|g9 (congrArg (ow Q6 [_]) (show _=(grI l c6<|r+1).1 from by first|exact sg1 pa om q37 q41|exact sg2 pa om q37 q41|exact sg3 pa om q37 q41|exact congrArg (λz=>z.1) (se1 pa om)|exact se2 pa om|exact congrArg (λz=>z.1.map λx=>x.1) (se1 pa om)))<|d8<|g9 (congrArg (ow eIs [_]) (show _=grV l c6 (r+1) from by first|exact sg1 pa om q37 q41|exact sg2 pa om q37 q41|exact sg3 pa om q37 q41|exact congrArg (λz=>z.1) (se1 pa om)|exact se2 pa om|exact congrArg (λz=>z.1.map λx=>x.1) (se1 pa om)))<|i9<|g9 (congrArg (ow eIs [_]) (show _=((grI l c6<|r+1).1).map (λx=>x.1) from by first|exact sg1 pa om q37 q41|exact sg2 pa om q37 q41|exact sg3 pa om q37 q41|exact congrArg (λz=>z.1) (se1 pa om)|exact se2 pa om|exact congrArg (λz=>z.1.map λx=>x.1) (se1 pa om)))<|n0<|n0<|n0<|n0 ?_
     exact Ea (r+1,p49.1,(((grI l c6 r).1).length+1),p49.2,a60,_,c60,p53.1,((((grI l c6 r).1).map (λx=>x.1)).length+1),p53.2) ⟨oz,trivial⟩
   ·refine Em Z<|Es Z<|Es Z<|Es Z<|Es Z<|Ypf Z<|Eu<|r8 Z<|v6<|o6<|Et<|Ez Z3<|Em Z<|Yad Z om om<|Ei Z<|Eu<|n0<|n0<|n0<|n0 ?_
    exact Ea (g+1,aA1_0,_,cA1_0,aA1_1,_,cA1_1,aA1_2,_,cA1_2) ⟨oz,(show sgI l c6 r (g+1) from by first|exact b6a pa om q37|exact b6v pa om q41)⟩
  ·refine Eu<|r8 Z<|E.exit<|l2<|l2<|u4<|o6<|Et<|Ez Z3<|Em Z<|Yad Z om om<|Ei Z<|Eu<|i9<|g9 (congrArg (ow Q6 [_]) (show _=(grI l c6<|r+1).1 from by first|exact sg1 pa om q37 q41|exact sg2 pa om q37 q41|exact sg3 pa om q37 q41|exact congrArg (λz=>z.1) (se1 pa om)|exact se2 pa om|exact congrArg (λz=>z.1.map λx=>x.1) (se1 pa om)))<|i9<|g9 (congrArg (ow eIs [_]) (show _=grV l c6 (r+1) from by first|exact sg1 pa om q37 q41|exact sg2 pa om q37 q41|exact sg3 pa om q37 q41|exact congrArg (λz=>z.1) (se1 pa om)|exact se2 pa om|exact congrArg (λz=>z.1.map λx=>x.1) (se1 pa om)))<|i9<|g9 (congrArg (ow eIs [_]) (show _=((grI l c6<|r+1).1).map (λx=>x.1) from by first|exact sg1 pa om q37 q41|exact sg2 pa om q37 q41|exact sg3 pa om q37 q41|exact congrArg (λz=>z.1) (se1 pa om)|exact se2 pa om|exact congrArg (λz=>z.1.map λx=>x.1) (se1 pa om)))<|n0<|n0<|n0<|n0 ?_
   exact Ea (r+1,aA1_0,_,cA1_0,aA1_1,_,cA1_1,aA1_2,_,cA1_2) ⟨oz,trivial⟩
 ·refine Eu<|r8 Z<|E.exit<|l2<|l2<|u4<|Et<|Ew Z2<|Em Z<|Ei Z<|Eu<|E.ret<|i9<|g9 (congrArg (ow Q6 [_]) (show _=(grF l c6).1 by rw[show r=c6.length from by omega];rfl))<|Fg Z Z (_,_,_) Z Z
end Go.Proofs.YthapcdhdfaibkaaGreatDoor
