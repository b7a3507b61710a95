import Derived.Test.YthapcdhdfaibkaaGreatDoorBl
import Derived.Test.YthapcdhdfaibkaaGreatDoorT11
section
namespace Go.Proofs.YthapcdhdfaibkaaGreatDoor
open Go.RowKit
set_option linter.all false
set_option maxHeartbeats 2000000
attribute [local irreducible] Nop Yd Yp Ent Has Tr FnP FnP2 Src
theorem a9l {a_s:Option Addr} {m_s c_s:Nat} {s:List IL} {del_g:FuncId} {del_c:List Value} {D_del:IL→Prop} {del:IL→Bool} (hD_del:∀x∈s,D_del x):Tr Tryz.prog 192 [.slice a_s m_s c_s,.func (.func del_g) #[] del_c.toArray] (λw L=>FnP Tryz.prog w L del_g del_c I3 a1U D_del del) [ow t7 [.slice a_s m_s c_s] s] (κ:=SL) (λk=>True) (λk=>.slice k.1 k.2.1 k.2.2) (λk=>[ow t7 [.slice k.1 k.2.1 k.2.2] (s.filter (λx=> !del x))]):=by
 refine Ti2 Tryz.func192 42 Z λw L hR=>?_
 have hdel:=hR
 refine f0 m0 ?_
 rintro rfl ls
 refine Ew Z1<|Ei Z ?_
 refine Ev Z4<|Em Z ?_
 refine Em Z ?_
 refine E0 Z (a3b (f:=del) (D_f:=D_del) hD_del) Z (λhA=>⟨hA.ow m0,hA.fn hdel⟩) ?_
 refine Ei Z ?_
 have hrg:=a3i (p:=del) (s:=s)
 refine Eu<|Eq_<|Ew Z2<|Em Z ?_
 refine Yeq Z<|l3 (λq12=>?_)<|λq12=>?_
 ·refine Eu<|r9 Z<|Ew Z2<|Em Z ?_
  refine Ei Z ?_
  refine Eu<|E.ret<|a5h<|g9 (congrArg (ow t7 [_]) (show _=s.filter (λx=> !del x) from (b5K om).symm)) ?_
  exact Fg Z Z (_,_,_) Z Z
 ·obtain ⟨i0,hi0⟩:∃i0:Nat,J0 del s=(i0:Int):=⟨(J0 del s).toNat,by omega⟩
  obtain ⟨f1,f2,f3,f4⟩:=b5i hi0
  refine Eu<|Cf<|Eq_<|Ew Z3<|Em Z ?_
  refine Yad Z om om ?_
  refine Ei Z ?_
  refine Eu<|E.block<|a4b λcs hcs=>?_
  replace hcs:cs.length=s.length*2:=hcs
  show Ent _ _ _ _ (row tFact 2 a_s s.length c_s cs::_) _
  refine a3X m0 λhms=>?_
  refine a3Z m0 om λsb hsb _=>?_
  subst hsb
  refine d8 ?_
  have hsp:s=s.take i0++([s[i0]]++s.drop (i0+1)):=by
   rw[List.singleton_append, ←List.drop_eq_getElem_cons f1,List.take_append_drop]
  refine g9 (congrArg (els I3 cs) hsp) ?_
  refine b0w λka kb hab hka=>?_
  refine d8 ?_
  refine b0w λkb1 kb2 hb12 hkb=>?_
  subst hb12
  refine Ent.drop ?_
  replace hka:ka.length=i0*2:=by rw[hka,List.length_take,Nat.min_eq_left om];rfl
  replace hkb:kb1.length=2:=hkb
  have hinit:=c0R (k:=2) hcs f1 hab hka hkb
  refine d8 ?_
  refine g9 (congrArg (els I3 ka) f4.symm) ?_
  refine d8 ?_
  refine E.loop (κ:=Nat×Nat×List Value×List Value×List Value) (λg=>DfI 2 s.length g.2.1 g.1 g.2.2.1 g.2.2.2.1 g.2.2.2.2∧g.2.1=((s.take g.1).filter (λx=> !del x)).length) (λg=>[(0,.slice (some ⟨sb,0,none⟩) s.length c_s),(1,.func (.func del_g) #[] del_c.toArray),(5,.int .i64 (g.2.1:Int)),(6,.int .i64 (g.1:Int))]) (λg=>[els I3 g.2.2.2.2<|s.drop g.1,els I3 g.2.2.2.1<|(s.take g.1).filter (λx=> !del x),row tFact 2 (some ⟨sb,0,none⟩) s.length c_s g.2.2.1]) (λg=>s.length-g.1) (i0+1,i0,cs,ka,kb2) ⟨hinit,by rw[f4,List.length_take,Nat.min_eq_left om]⟩ ⟨Z,Z,frI hi0,frI om,trivial⟩ (.refl _)<|λg pg=>?_
  obtain ⟨j,i,cur,kc,rc⟩:=g
  try dsimp only at pg
  obtain ⟨hI,hi⟩:=pg
  try dsimp only
  have hlt:=hI.lt
  have hle:=hI.le
  refine Eq_<|Ew Z4<|Em Z ?_
  refine Em Z ?_
  refine Yln us_Facts Z ?_
  refine Ylt Z<|l3 (λq19=>?_)<|λq19=>?_
  ·have hj:j<s.length:=by omega
   have hd:s.drop j=[s[j]]++s.drop (j+1):=by rw[List.drop_eq_getElem_cons hj];rfl
   refine g9 (congrArg (els I3 rc) hd) ?_
   refine b0w λc1 c2 hc hc1=>?_
   subst hc
   replace hc1:c1.length=2:=hc1
   refine a2D m0 λh1e=>?_
   refine Eu<|Ct<|Eq_<|E.block<|Ew Z6<|Em Z ?_
   refine Em Z ?_
   refine Ix us_Facts ty_Fact Z Z j Z hj ?_
   refine Ey Z (l4 (cs:=c1) ty_Fact Z (show Has _ _ _ sb (0+j*2) c1 from by rw[Nat.zero_add];exact a4a (mS<|mS<|mS m0) j (rest:=c2) hI.r1) hc1) ?_
   refine Est Z (N.alloc ty_Fact dc)<|λb7 _=>?_
   refine Est Z (b3O (vs:=c1) (cs':=c1) ty_Fact Z Z Z hc1 (List.all_eq_true.2 h1e) bl (by simp))<|λ_ _=>?_
   refine Ev Z4<|Em Z ?_
   refine Ey Z (l4 (cs:=c1) ty_Fact Z (Has.pt m0) hc1) ?_
   refine Est Z (N.fn (cs:=c1) hdel Z Z Z dc (λw Lp hA=>hA.els1<|mS m0)<|hD_del _<|List.getElem_mem hj)<|λ_ _=>Ent.b (λq28=>?_)<|λq28=>?_
   ·refine Yno true Z ?_
    refine Eu<|r8 Z<|v6<|o6<|Et<|Ez Z3<|Em Z ?_
    refine Yad Z om om ?_
    refine Ei Z ?_
    have hK:(s.take (j+1)).filter (λx=> !del x)=(s.take j).filter (λx=> !del x):=by rw[a3d hj,if_neg (by simp[q28])]
    refine Eu<|Ent.drop ?_
    refine Ent.drop ?_
    refine d8 ?_
    refine g9 (congrArg (els I3 kc) hK.symm) ?_
    refine d8 ?_
    exact Ea (j+1,i,cur,kc,c2) ⟨hI.skip hj hc1,by rw[hK];exact hi⟩
   ·refine Yno false Z ?_
    refine Eu<|r9 Z<|Ew Z5<|Em Z ?_
    refine Em Z ?_
    refine Ey Z (l4 (cs:=c1) ty_Fact Z (Has.pt m0) hc1) ?_
    refine Ix us_Facts ty_Fact Z Z i Z om ?_
    refine s6 ?_
    refine Est Z (c3T (i:=i) (vs:=c1) ty_Fact Z (Nat.zero_add _) Z Z hc1 h1e om Z)<|λ_ _=>?_
    refine Eu<|Ez Z3<|Em Z ?_
    refine Yad Z om om ?_
    refine Ei Z ?_
    refine En<|o6<|Et<|Ez Z3<|Em Z ?_
    refine Yad Z om om ?_
    refine Ei Z ?_
    have hK:(s.take (j+1)).filter (λx=> !del x)=(s.take j).filter (λx=> !del x)++[s[j]]:=by rw[a3d hj,if_pos (by simp[q28])]
    refine Eu<|d8 ?_
    refine Ent.drop ?_
    refine d8 ?_
    refine n0 ?_
    refine c0I ?_
    refine g9 (congrArg (els I3<|kc++c1) hK.symm) ?_
    refine i9 ?_
    exact Ea (j+1,i+1,cur.take (i*2)++c1++cur.drop (i*2+2),kc++c1,c2) ⟨hI.put hj hc1,by rw[hK,List.length_append, ←hi];rfl⟩
  ·obtain rfl:j=s.length:=by omega
   refine Ent.drop ?_
   refine Eu<|r8 Z<|E.exit<|l2<|l2<|u4<|Et<|Ew Z4<|Em Z ?_
   refine Em Z ?_
   refine Ey Z ((a0S (l:=i) us_Facts ty_Fact Z Z om om).yd) ?_
   refine d8 ?_
   refine Est Z (c1q (p:=i) (q:=s.length-i) us_Facts ty_Fact (by simp[Value.oneCell']) Z Z om om om Z)<|λ_ _=>?_
   refine Ev Z4<|Em Z ?_
   refine Em Z ?_
   refine Ey Z ((a2T (h:=i) us_Facts ty_Fact Z Z om).yd) ?_
   refine Ei Z ?_
   refine g9 (congrArg (row tFact 2 (some ⟨sb,0,none⟩) i c_s) hI.k1) ?_
   refine Eu<|E.ret<|a1M (E:=I3) hi mx ?_
   refine g9 (congrArg (ow t7 [_]) (show _=s.filter (λx=> !del x) from by rw[List.take_length])) ?_
   exact Fg Z Z (_,_,_) Z Z
end Go.Proofs.YthapcdhdfaibkaaGreatDoor
end
section
namespace Go.Proofs.YthapcdhdfaibkaaGreatDoor
open Go.RowKit
set_option linter.all false
theorem FnP.keep {P:Program} {α:Type} {E:Enc α} {w w':World} {L:List Nat} {g:FuncId} {caps:List Value} {val:List Value→Value} {D:α→Prop} {p:α→Bool} (h:FnP P w L g caps E val D p) (k:Keep w L w'):FnP P w' [] g caps E val D p:=
  λw2 k2=>h w2 ⟨Nat.le_trans k.size k2.size,λb hb hn=>(k2.keep b (Nat.lt_of_lt_of_le hb k.size) (by simp)).trans (k.keep b hb hn)⟩
variable {P:Program} {n:Nat} {fr:Fr}
theorem c6f {x y u:Operand} {T e:TypeId} {agg:Bool} {k:Nat} {z:List Value} {by':Nat} {a:Option Addr} {m c:Nat} {l h:Int} (hT:P.underlying T=some (.slice e)) (ht:TyOk P e agg k z by') (hx:ev fr x=some (.slice a m c)) (hy:ev fr y=some (.int .i64 l)) (hu:ev fr u=some (.int .i64 h)) (h0:0≤l) (h1:l≤h) (h2:h.toNat≤c):
    Yp P n fr (.slice T x (some y) (some u) none) (.slice (if c=l.toNat then a else a.map (·.add (l.toNat*k))) (h.toNat-l.toNat) (c-l.toNat)):=λac hf w' d t p af g=>by
  obtain ⟨l,rfl⟩:=Int.eq_ofNat_of_zero_le h0
  obtain ⟨h,rfl⟩:=Int.eq_ofNat_of_zero_le (show 0≤h by omega)
  have h1':l≤h:=by omega
  simp only[Int.toNat_natCast] at h2
  simp[execOp,hf.ev hx,hf.ev hy,hf.ev hu,Instr.sliceAt,Instr.slice,Instr.sliceBounds,a1m h1',a1m h2,run_underlying hT,ht.run_sizeOf]
end Go.Proofs.YthapcdhdfaibkaaGreatDoor
end
section
namespace Go.Proofs.YthapcdhdfaibkaaGreatDoor
open Go.RowKit
set_option linter.all false
set_option maxHeartbeats 2000000
attribute [local irreducible] Nop Yd Yp Ent Has Tr FnP FnP2 Src K8 Q7 R5 S1 E8
variable {r5:Int} {l:List (Int×List Int×Int×Int×Int)} {s8:List Int} {m_l c_l G1 C8:Nat} {a_l C9:Option Addr}
theorem b0G {a_s:Option Addr} {m_s c_s:Nat} {s:List Int}:TB Tryz.prog 167 [.slice a_s m_s c_s,.slice a_l m_l c_l,.agg #[.int .i64 r5,.slice C9 G1 C8]] (λw L=>Ro w L eIs [.slice a_s m_s c_s] s∧Ro w L F0 [.slice a_l m_l c_l] l∧I64 r5∧Ro w L eIs [.slice C9 G1 C8] s8) (T0 s l (r5,s8)):=by
 refine Ti3 Tryz.func167 48 Z λw L hR=>?_
 obtain ⟨hs,hl,P2,D9⟩:=hR
 obtain ⟨rfl,ls⟩:=hs.slen
 obtain ⟨rfl,ll⟩:=hl.slen
 obtain ⟨rfl,Y5⟩:=D9.slen
 refine Ew Z2<|Est Z (N.box (cs:=[_,_]) Z dc Z)<|λb5 _=>Ei Z<|Eu<|Eq_<|Eq_<|D.region (λj=>true) mixed<|Dm 0 Z<|Dm 1 Z<|D0 2 Z a2Q Z (λhA=>⟨hA.ro hs,hA.ro hl⟩)<|Ent.b (λq10=>?_)<|λq10=>?_
 ·refine Dyp 3 Z (Y.not (b:=true) Z)<|Dm 4 Z<|Df 5 6 fo_Access_0 j8 Z (Hz m0 0 Z)<|Dm 7 Z<|Dyp 8 Z (Y.len us_Methods Z)<|Dyp 9 Z (Y.sub Z Z om om)<|D0 10 Z H3 Z (λ_=>trivial)<|Ent.b (λq18=>?_)<|λq18=>?_
  ·have zz:=V8 q18
   refine Dyp 11 Z (Y.not (b:=true) Z)<|Dyp 12 Z (J3 Z Z)<|Dm 13 Z<|Df 14 15 fo_Access_1 ty_Is Z (Hz m0 1 Z)<|Dyp 16 Z (Y.len us_Is Z)<|Dm 17 Z<|Df 18 19 fo_Access_0 j8 Z (Hz m0 0 Z) ?_
   obtain ⟨eb28,eo28,ec28,ea28,er28,el28,eh28⟩:=hl.elem r5.toNat om
   obtain ⟨xa28_0,xc28_0,rfl,ei28_0,xh28_0,ei28_2,ei28_3,ei28_4⟩:=P9 er28
   have:=xh28_0.slen.2
   refine Dyp 20 Z (y6 us_Methods ty_Method Z ea28 Z r5.toNat om om)<|Df 21 22 fo_Method_1 ty_Is Z (Hs (eh28 _) 1 Z)<|Dyp 23 Z (Y.len us_Is Z)<|Dyp 24 Z (Y.neq Z Z)<|l3 (λq32=>?_)<|λq32=>?_
   ·refine Dyp 25 Z (J3 Z Z)<|o4 kr<|Et<|r9 Z<|Ew Z1<|Ei Z<|Eu<|E.ret<|a5h<|Fb Z Z (by grind[T0,U6,S3,d1,d2,t1,t2])
   ·refine Dyp 25 Z (J3 Z Z)<|o4 kr<|Et<|Cf<|Eq_<|Ew Z1<|Ei Z<|Eu<|E.block<|Lo (κ:=Nat) (λg=>g≤s8.length∧S3 s8=S3 (s8.drop g)) (λg=>[(5,.pointer<|some ⟨b5,0,none⟩),(7,.int .i64 (g:Int))]) (λg=>[pt b5 105 [.int .i64 r5,.slice C9 s8.length C8]]) (λg=>s8.length-g) 0 ⟨Nat.zero_le _,by simp⟩<|λg pg=>?_
    obtain ⟨pk,pa⟩:=pg
    refine Eq_<|Ew Z5<|Em Z<|Lz fo_Access_1 ty_Is Z m0 Z<|Yln us_Is Z<|Ylt Z<|l3 (λq38=>?_)<|λq38=>?_
    ·refine Eu<|Ct<|Eq_<|E.block<|Ew Z7<|Lz fo_Access_1 ty_Is Z m0 Z<|Em Z ?_
     obtain ⟨eb44,eo44,ea44,ei44,eh44⟩:=D9.elemI g om
     refine Il us_Is j8 Z ea44 g Z om Z (eh44 _)<|E0 Z H3 Z (λ_=>trivial)<|Ent.b (λq46=>?_)<|λq46=>?_
     ·refine Yno true Z<|Eu<|r8 Z<|v6<|o6<|Et<|Ez Z3<|Em Z<|Yad Z om om<|Ei Z ?_
      exact Eu<|u7 br (g+1) ⟨Z,Z,trivial⟩ (.refl _) ⟨by omega,by grind[S3,d1,d2,t1,t2]⟩ om
     ·refine Yno false Z<|Eu<|r9 Z<|Ew Z1<|Ei Z<|Eu<|E.ret<|v7<|a5h<|a5h<|v7<|a5h<|Fb Z Z (by grind[T0,U6,S3,d1,d2,t1,t2])
    ·refine Eu<|r8 Z<|E.exit<|l2<|l2<|u4<|Et<|Ew Z1<|Ei Z<|Eu<|E.ret<|Fb Z Z (by grind[T0,U6,S3,d1,d2,t1,t2])
  ·refine Dyp 11 Z (Y.not (b:=false) Z)<|Dyp 12 Z (J3 Z Z)<|Dm 13 Z<|Dsk 14 Z<|Dsk 15 Z<|Dsk 16 Z<|Dsk 17 Z<|Dsk 18 Z<|Dsk 19 Z<|Dsk 20 Z<|Dsk 21 Z<|Dsk 22 Z<|Dsk 23 Z<|Dsk 24 Z<|Dyp 25 Z (J9 Z Z)<|o4 kr<|Et<|r9 Z<|Ew Z1<|Ei Z<|Eu<|E.ret<|a5h<|Fb Z Z (by grind[T0,U6,S3,d1,d2,t1,t2])
 ·refine Dyp 3 Z (Y.not (b:=false) Z)<|Dm 4 Z<|Dsk 5 Z<|Dsk 6 Z<|Dsk 7 Z<|Dsk 8 Z<|Dsk 9 Z<|Dsk 10 Z<|Dsk 11 Z<|Dyp 12 Z (J9 Z Z)<|Dm 13 Z<|Dsk 14 Z<|Dsk 15 Z<|Dsk 16 Z<|Dsk 17 Z<|Dsk 18 Z<|Dsk 19 Z<|Dsk 20 Z<|Dsk 21 Z<|Dsk 22 Z<|Dsk 23 Z<|Dsk 24 Z<|Dyp 25 Z (J9 Z Z)<|o4 kr<|Et<|r9 Z<|Ew Z1<|Ei Z<|Eu<|E.ret<|a5h<|Fb Z Z (by grind[T0,U6,S3,d1,d2,t1,t2])
theorem b1s {a_facts:Option Addr} {m_facts c_facts:Nat} {d6:List IL} (hma:0≤r5∧r5.toNat<l.length) (hv:(atM l r5).2.1.length≤s8.length) (hif:∀f∈d6,f.1=(atM l r5).1→∀i∈(atM l r5).2.1,0≤i∧i<f.2.length) (hfl:d6.length≤1048576) (hfe:∀f∈d6,f.2.length≤1048576):TL Tryz.prog 72 [.slice a_l m_l c_l,.slice a_facts m_facts c_facts,.agg #[.int .i64 r5,.slice C9 G1 C8]] (λw L=>Ro w L F0 [.slice a_l m_l c_l] l∧Ro w L t7 [.slice a_facts m_facts c_facts] d6∧I64 r5∧Ro w L eIs [.slice C9 G1 C8] s8) t7 (d6.filter (X5 (atM l r5) s8)):=by
 refine Ti3 Tryz.func72 17 Z λw L hR=>?_
 obtain ⟨hl,hfacts,P2,D9⟩:=hR
 obtain ⟨rfl,ll⟩:=hl.slen
 obtain ⟨rfl,lfacts⟩:=hfacts.slen
 obtain ⟨rfl,Y5⟩:=D9.slen
 rw[U6 hma.2] at hv hif
 refine Ew Z2<|Est Z (N.box (cs:=[_,_]) Z dc Z)<|λb5 _=>Ei Z<|Ev Z7<|Em Z<|Lz fo_Access_0 j8 Z m0 Z ?_
 obtain ⟨eb11,eo11,ec11,ea11,er11,el11,eh11⟩:=hl.elem r5.toNat om
 obtain ⟨xa11_0,xc11_0,rfl,ei11_0,xh11_0,ei11_2,ei11_3,ei11_4⟩:=P9 er11
 have:=xh11_0.slen.2
 refine Ix us_Methods ty_Method Z ea11 r5.toNat om om<|Ey Z (l4 (cs:=[_,_,_,_,_]) ty_Method Z (eh11 _) Z)<|Est Z (N.alloc ty_Method dc)<|λb7 _=>Est Z (Ns [_,_,_,_,_] ty_Method Z)<|λ_ _=>Ev Z5<|Em Z<|El Z (a9S fo hfe) Z (λhA=>hA.ro hfacts)<|λa14 c14 l14=>Ey Z ((Y.fn (vs:=[_,_]) Z).yd)<|Est Z (N.call (pre:=[_]) (a9l (del:=(λz=> !X5 l[r5.toNat] s8 z)) (D_del:=(λz=>(l[r5.toNat].2.1.length≤s8.length)∧(z.1=l[r5.toNat].1→∀i∈l[r5.toNat].2.1,0≤i∧i<z.2.length))) (by exact λf hf=>⟨hv,hif f hf⟩)) Z Z Z dc Z<|λw Lp hA=>a7c (RR:=λw L=>RoPt w L b7 [.int .i64 l[r5.toNat].1,.slice xa11_0 l[r5.toNat].2.1.length xc11_0,.int .i64 l[r5.toNat].2.2.1,.int .i64 l[r5.toNat].2.2.2.1,.int .i64 l[r5.toNat].2.2.2.2]∧I64 l[r5.toNat].1∧Ro w L eIs [.slice xa11_0 l[r5.toNat].2.1.length xc11_0] l[r5.toNat].2.1∧I64 l[r5.toNat].2.2.1∧I64 l[r5.toNat].2.2.2.1∧I64 l[r5.toNat].2.2.2.2∧RoPt w L b5 [.int .i64 r5,.slice C9 s8.length C8]∧I64 r5∧Ro w L eIs [.slice C9 s8.length C8] s8) (D:=(λz=>(l[r5.toNat].2.1.length≤s8.length)∧(z.1=l[r5.toNat].1→∀i∈l[r5.toNat].2.1,0≤i∧i<z.2.length))) (λhd=>a9H hd.1 hd.2)<|λw' hk=>⟨(hA.pt m0).keep hk,ei11_0,(hA.ro xh11_0).keep hk,ei11_2,ei11_3,ei11_4,(hA.pt<|mS m0).keep hk,P2,(hA.ro D9).keep hk⟩)<|λk16 _=>?_
 obtain ⟨a16,m16,c16⟩:=k16
 refine f0 m0 ?_
 rintro rfl l16
 refine Ei Z<|Eu<|E.ret<|g9 (congrArg (ow t7 [_]) (show _=d6.filter (X5 (atM l r5) s8) by rw[U6 hma.2];exact b7X))<|Fg Z Z (_,_,_) Z Z
end Go.Proofs.YthapcdhdfaibkaaGreatDoor
end
