import Derived.Test.YthapcdhdfaibkaaGreatDoorIb
section
namespace Go.Proofs.YthapcdhdfaibkaaGreatDoor
open Go.RowKit
set_option linter.all false
section
variable {n:Nat} {w0:World} {L0:List Nat} {fr:Fr} {H R:List HP} {G:Act→World→Prop} {α:Type} {E:Enc α} {e:TypeId} {a:Option Addr} {m c:Nat} {xs:List α}
end
section
variable {P:Program} {Q:Exit→Act→World→Prop} {n:Nat} {w0:World} {L0:List Nat} {fr:Fr} {H R pre:List HP} {d:Nat} {ty:TypeId} {pos:String} {af:Array Edge} {g:Option (Nat×Bool)}
theorem Y.nil {x:Operand} {ad:Addr} (hx:ev fr x=some (.pointer (some ad))):Yp P n fr (.nilCheck x) (.pointer (some ad)):=λa h w' d t p af g=>by
  simp[execOp,h.ev hx]
end
end Go.Proofs.YthapcdhdfaibkaaGreatDoor
end
section
namespace Go.Proofs.YthapcdhdfaibkaaGreatDoor
open Go.RowKit
set_option linter.all false
set_option maxHeartbeats 2000000
attribute [local irreducible] Nop Yd Yp Ent Has Tr FnP FnP2 Src K8 Q7 R5 S1 E8
variable {n:Int} {s:List Int} {b_c m_b c_b m_s c_s:Nat} {a_b a_s:Option Addr}
theorem a3z {a_code:Option Addr} {m_code c_code:Nat} {code:List UInt8} (hcl:code.length≤1048576):Tr Tryz.prog 66 [.slice a_code m_code c_code] (λw L=>Ro w L a0f [.slice a_code m_code c_code] code) [] (κ:=Nat) (λk=>True) (λk=>.pointer (some ⟨k,0,none⟩)) (λk=>[cur k a_code m_code c_code]):=by
 refine Ti1 Tryz.func66 32 Z λw L hR=>?_
 have hcode:=hR
 obtain ⟨rfl,lcode⟩:=hcode.slen
 refine Ew Z1<|Ei Z<|Ev Z4<|Em Z<|Yln us_U8s Z<|Yad Z om om<|Ei Z<|Eu<|Eq_<|Ew Z1<|Ei Z<|Eu<|E.block<|Lo (κ:=Nat×Int) (λg=>g.1≤code.length∧0≤g.2∧g.2≤2000000000) (λg=>[(0,.slice a_code code.length c_code),(3,.int .i64 g.2),(4,.int .i64 (↑g.1:Int))]) (λg=>[]) (λg=>code.length-g.1) (0,(10101+(↑code.length:Int))) ⟨Nat.zero_le _,by omega⟩<|λg pg=>?_
 obtain ⟨g,hh⟩:=g
 try dsimp only at pg
 try dsimp only
 obtain ⟨pk,pa⟩:=pg
 refine Eq_<|Ew Z8<|Em Z<|Em Z<|Yln us_U8s Z<|Ylt Z<|l3 (λq11=>?_)<|λq11=>?_
 ·refine Em Z<|Em Z<|Ylt Z<|l3 (λq14=>?_)<|λq14=>?_
  ·refine Ypt Z<|Eu<|Ct<|Eq_<|E.block<|Ez Z11<|Em Z<|Ey Z ((b1p Z Z om).yd)<|Em Z<|Em Z ?_
   obtain ⟨eb22,eo22,ea22,eh22⟩:=hcode.elemU g om
   have u822:0≤(↑code[g].toNat:Int)∧(↑code[g].toNat:Int)≤255:=ub8
   refine Il us_U8s b0T Z ea22 g Z om Z (eh22 _)<|Ey Z ((c1l a8M b7a Z om).yd)<|Yad Z om om<|Yad Z om om<|Ey Z ((Y.and Z Z).yd)<|Ei Z<|En<|o6<|Et<|Ez Z3<|Em Z<|Yad Z om om<|Ei Z ?_
   exact Eu<|u7 br (g+1,(a0P (((hh*131)+(↑code[g].toNat:Int))+7) 1073741823)) rs (.refl _) ⟨oz,(show 0≤(a0P (((hh*131)+(↑code[g].toNat:Int))+7) 1073741823)∧(a0P (((hh*131)+(↑code[g].toNat:Int))+7) 1073741823)≤2000000000 from by exact ⟨c1g.1,by have:=(c1g (a:=hh*131+(↑code[g].toNat:Int)+7)).2;omega⟩)⟩ oz
  ·refine Ypt Z<|Eu<|r8 Z<|E.exit<|l2<|l2<|u4<|Et<|Ew Z5<|Em Z<|Em Z<|Ey Z ((J2 (pvs:=[_,_]) (cs:=[_,_,_]) ty_l1Cur pl_l1Cur Z Z).yd)<|Est Z (N.box (cs:=[_,_,_]) Z dc Z)<|λb31 _=>Ei Z<|Eu<|E.ret<|Ent.curC om (by unfold I64;omega)<|Fg Z Z b31 Z Z
 ·refine Em Z<|Es Z<|Es Z<|Ypf Z<|Eu<|r8 Z<|E.exit<|l2<|l2<|u4<|Et<|Ew Z5<|Em Z<|Em Z<|Ey Z ((J2 (pvs:=[_,_]) (cs:=[_,_,_]) ty_l1Cur pl_l1Cur Z Z).yd)<|Est Z (N.box (cs:=[_,_,_]) Z dc Z)<|λb31 _=>Ei Z<|Eu<|E.ret<|Ent.curC om (by unfold I64;omega)<|Fg Z Z b31 Z Z
theorem a2d {bs:List UInt8}:Tr Tryz.prog 223 [.pointer (some ⟨b_c,0,none⟩)] (λw L=>Ro w L a0f [.slice a_b m_b c_b] bs) [cur b_c a_b m_b c_b] (κ:=Int) (λk=>0≤k∧k≤255) (λk=>.int .i64 k) (λk=>[cur b_c a_b m_b c_b]):=by
 refine Ti1 Tryz.func223 58 Z λw L hR=>?_
 have hbs:=hR
 obtain ⟨rfl,lb⟩:=hbs.slen
 refine Ent.curO λci ch hci hch=>Ew Z1<|Ei Z<|Ev Z10<|Em Z<|Em Z<|Ey Z ((Y.nil Z).yd)<|Lz fo_l1Cur_2 j8 Z m0 Z<|Ey Z ((b9q Z Z).yd)<|Ey Z ((c3Z Z Z).yd)<|Ey Z ((Y.nil Z).yd)<|Ey Z ((D3 fo_l1Cur_2 j8 dc Z).yd)<|Est Z (Ns [_,_,_] j8 Z)<|λ_ _=>Eu<|Eq_<|D.region (λj=>true) mixed<|Dm 0 Z<|Dyp 1 Z (Y.nil Z)<|Df 2 3 fo_l1Cur_2 j8 Z (Hz m0 2 Z)<|Dyp 4 Z (b9p Z Z om om)<|Dm 5 Z<|Dyp 6 Z (Y.nil Z)<|Df 7 8 fo_l1Cur_2 j8 Z (Hz m0 2 Z)<|Dyp 9 Z (b9p Z Z om om)<|Dyp 10 Z (Y.xor Z Z)<|Dyp 11 Z (Y.and Z Z)<|Dyp 12 Z (E5 Z)<|o4 kr<|Et<|Eq_<|Eq_<|D.region (λj=>true) mixed<|Dm 0 Z<|Dyp 1 Z (Y.nil Z)<|Df 2 3 fo_l1Cur_1 j8 Z (Hz m0 1 Z)<|Dm 4 Z<|Dyp 5 Z (Y.nil Z)<|Df 6 7 fo_l1Cur_0 ty_U8s Z (Hz m0 0 Z)<|Dyp 8 Z (Y.len us_U8s Z)<|Dyp 9 Z (Y.lss Z Z)<|l3 (λq34=>?_)<|λq34=>?_
 ·refine o4 kr<|Et<|r9 Z<|Eq_<|D.region (λj=>true) mixed<|Dm 0 Z<|Dm 1 Z<|Dyp 2 Z (Y.nil Z)<|Df 3 4 fo_l1Cur_0 ty_U8s Z (Hz m0 0 Z)<|Dm 5 Z<|Dyp 6 Z (Y.nil Z)<|Df 7 8 fo_l1Cur_1 j8 Z (Hz m0 1 Z) ?_
  obtain ⟨eb44,eo44,ea44,eh44⟩:=hbs.elemU ci.toNat om
  have u844:0≤(↑bs[ci.toNat].toNat:Int)∧(↑bs[ci.toNat].toNat:Int)≤255:=ub8
  refine Dyp 9 Z (y6 us_U8s b0T Z ea44 Z ci.toNat om om)<|Dy 10 Z (z7 b0T Z (eh44 _) Z)<|Dyp 11 Z (c1l a8M b7a Z om) ?_
  have ja:0≤(a0P (a5R ((IntKind.i64.wrap ((IntKind.i64.wrap (ch*6364136223846793005))+1442695040888963407))/2^(33:Int).toNat) ((IntKind.i64.wrap ((IntKind.i64.wrap (ch*6364136223846793005))+1442695040888963407))/2^(45:Int).toNat)) 255)∧(a0P (a5R ((IntKind.i64.wrap ((IntKind.i64.wrap (ch*6364136223846793005))+1442695040888963407))/2^(33:Int).toNat) ((IntKind.i64.wrap ((IntKind.i64.wrap (ch*6364136223846793005))+1442695040888963407))/2^(45:Int).toNat)) 255)≤255:=b5n
  refine Dyp 12 Z (Y.add Z Z om om)<|Dyp 13 Z (Y.and Z Z)<|Dyp 14 Z (E5 Z)<|o4 kr<|Et<|Ez Z9<|Em Z<|Em Z<|Ey Z ((Y.nil Z).yd)<|Lz fo_l1Cur_1 j8 Z m0 Z<|Yad Z om om<|Ey Z ((Y.nil Z).yd)<|Ey Z ((D3 fo_l1Cur_1 j8 dc Z).yd)<|Est Z (Ns [_,_,_] j8 Z)<|λ_ _=>Ev Z2<|Em Z<|Ei Z<|Eu<|E.ret<|Ent.curC om (by first|exact b5g _|assumption)<|F.r1 br Z Z (a0P ((a0P (a5R ((IntKind.i64.wrap<|(IntKind.i64.wrap<|ch*6364136223846793005)+1442695040888963407)/2^(33:Int).toNat)<|(IntKind.i64.wrap<|(IntKind.i64.wrap<|ch*6364136223846793005)+1442695040888963407)/2^(45:Int).toNat) 255)+(↑bs[ci.toNat].toNat:Int)) 255) (show 0≤(a0P ((a0P (a5R ((IntKind.i64.wrap<|(IntKind.i64.wrap<|ch*6364136223846793005)+1442695040888963407)/2^(33:Int).toNat)<|(IntKind.i64.wrap<|(IntKind.i64.wrap<|ch*6364136223846793005)+1442695040888963407)/2^(45:Int).toNat) 255)+(↑bs[ci.toNat].toNat:Int)) 255)∧(a0P ((a0P (a5R ((IntKind.i64.wrap<|(IntKind.i64.wrap<|ch*6364136223846793005)+1442695040888963407)/2^(33:Int).toNat)<|(IntKind.i64.wrap<|(IntKind.i64.wrap<|ch*6364136223846793005)+1442695040888963407)/2^(45:Int).toNat) 255)+(↑bs[ci.toNat].toNat:Int)) 255)≤255 from by exact b5n) Z (J:=_) (.refl _)<|.inl Z
 ·refine o4 kr<|Et<|Cf<|Ew Z2<|Em Z<|Ei Z<|Eu<|E.ret<|Ent.curC om (by first|exact b5g _|assumption)<|F.r1 br Z Z (a0P (a5R ((IntKind.i64.wrap<|(IntKind.i64.wrap<|ch*6364136223846793005)+1442695040888963407)/2^(33:Int).toNat)<|(IntKind.i64.wrap<|(IntKind.i64.wrap<|ch*6364136223846793005)+1442695040888963407)/2^(45:Int).toNat) 255) (show 0≤(a0P (a5R ((IntKind.i64.wrap<|(IntKind.i64.wrap<|ch*6364136223846793005)+1442695040888963407)/2^(33:Int).toNat)<|(IntKind.i64.wrap<|(IntKind.i64.wrap<|ch*6364136223846793005)+1442695040888963407)/2^(45:Int).toNat) 255)∧(a0P (a5R ((IntKind.i64.wrap<|(IntKind.i64.wrap<|ch*6364136223846793005)+1442695040888963407)/2^(33:Int).toNat)<|(IntKind.i64.wrap<|(IntKind.i64.wrap<|ch*6364136223846793005)+1442695040888963407)/2^(45:Int).toNat) 255)≤255 from by exact b5n) Z (J:=_) (.refl _)<|.inl Z
theorem B5 {bs:List UInt8}:Tr Tryz.prog 112 [.pointer (some ⟨b_c,0,none⟩),.int .i64 n] (λw L=>Ro w L a0f [.slice a_b m_b c_b] bs) [cur b_c a_b m_b c_b] (κ:=Int) (λk=>0≤k∧(n≤0→k=0)∧(0<n→k<n)) (λk=>.int .i64 k) (λk=>[cur b_c a_b m_b c_b]):=by
 refine Ti2 Tryz.func112 37 Z λw L hR=>?_
 have hbs:=hR
 obtain ⟨rfl,lb⟩:=hbs.slen
 refine Ew Z1<|Ei Z<|Eu<|Eq_<|Ew Z2<|Em Z<|Ey Z ((Y.leq Z Z).yd)<|l3 (λq10=>?_)<|λq10=>?_
 ·refine Eu<|r9 Z<|Ew Z1<|Ei Z<|Eu<|E.ret<|a5h<|F.r1 br Z Z 0 (show 0≤(0:Int)∧(n≤0→(0:Int)=0)∧(0<n→(0:Int)<n) from by first|omega|exact b1w om) Z (J:=_) (.refl _)<|.inl Z
 ·refine Eu<|Cf<|Eq_<|Ew Z2<|Em Z<|Ey Z ((Y.leq Z Z).yd)<|l3 (λq12=>?_)<|λq12=>?_
  ·refine Eu<|r9 Z<|Ew Z5<|Em Z<|Est Z (N.call (pre:=[_]) a2d Z Z Z dc Z<|λw Lp hA=>hA.ro hbs)<|λx14 o14=>?_
   try dsimp only at o14
   try (conv=>arg 5;dsimp only[ca,na])
   refine Em Z<|Ey Z ((a8E Z Z om om).yd)<|Ei Z<|Eu<|E.ret<|a5h<|F.r1 br Z Z (x14 % n) (show 0≤(x14 % n)∧(n≤0→(x14 % n)=0)∧(0<n→(x14 % n)<n) from by first|omega|exact b1w om) Z (J:=_) (.refl _)<|.inl Z
  ·refine Eu<|Cf<|Ew Z3<|Em Z<|Est Z (N.call (pre:=[_]) a2d Z Z Z dc Z<|λw Lp hA=>hA.ro hbs)<|λx18 o18=>?_
   try dsimp only at o18
   try (conv=>arg 5;dsimp only[ca,na])
   refine Ei Z<|Ev Z3<|Em Z<|Est Z (N.call (pre:=[_]) a2d Z Z Z dc Z<|λw Lp hA=>hA.ro hbs)<|λx20 o20=>?_
   try dsimp only at o20
   try (conv=>arg 5;dsimp only[ca,na])
   refine Ei Z<|Ev Z3<|Em Z<|Est Z (N.call (pre:=[_]) a2d Z Z Z dc Z<|λw Lp hA=>hA.ro hbs)<|λx22 o22=>?_
   try dsimp only at o22
   try (conv=>arg 5;dsimp only[ca,na])
   refine Ei Z<|Ev Z3<|Em Z<|Est Z (N.call (pre:=[_]) a2d Z Z Z dc Z<|λw Lp hA=>hA.ro hbs)<|λx24 o24=>?_
   try dsimp only at o24
   try (conv=>arg 5;dsimp only[ca,na])
   refine Ei Z<|Ev Z13<|Em Z<|Ey Z ((b1p Z Z om).yd)<|Em Z<|Ey Z ((b1p Z Z om).yd)<|Yad Z om om<|Em Z<|Ey Z ((b1p Z Z om).yd)<|Yad Z om om<|Em Z<|Yad Z om om<|Em Z<|Ey Z ((a8E Z Z om om).yd)<|Ei Z<|Eu<|E.ret<|F.r1 br Z Z (((((x18*16777216)+(x20*65536))+(x22*256))+x24) % n) (show 0≤(((((x18*16777216)+(x20*65536))+(x22*256))+x24) % n)∧(n≤0→(((((x18*16777216)+(x20*65536))+(x22*256))+x24) % n)=0)∧(0<n→(((((x18*16777216)+(x20*65536))+(x22*256))+x24) % n)<n) from by first|omega|exact b1w om) Z (J:=_) (.refl _)<|.inl Z
theorem R7 {bs:List UInt8}:Tr Tryz.prog 113 [.pointer (some ⟨b_c,0,none⟩),.int .i64 n] (λw L=>Ro w L a0f [.slice a_b m_b c_b] bs) [cur b_c a_b m_b c_b] (κ:=Bool) (λk=>True) (λk=>.bool k) (λk=>[cur b_c a_b m_b c_b]):=by
 refine Ti2 Tryz.func113 9 Z λw L hR=>?_
 have hbs:=hR
 obtain ⟨rfl,lb⟩:=hbs.slen
 refine Ew Z1<|Ei Z<|Ev Z5<|Em Z<|Em Z<|Est Z (N.call (pre:=[_]) B5 Z Z Z dc Z<|λw Lp hA=>hA.ro hbs)<|λx7 o7=>?_
 try dsimp only at o7
 try (conv=>arg 5;dsimp only[ca,na])
 refine Yeq Z<|Ei Z<|Eu<|E.ret<|F.r1 br Z Z (decide (x7=0)) (show True from by trivial) Z (J:=_) (.refl _)<|.inl Z
theorem K4 {a_list:Option Addr} {m_list c_list:Nat} {list:List Int} {bs:List UInt8} (hl:0<list.length):Tr Tryz.prog 290 [.pointer (some ⟨b_c,0,none⟩),.slice a_list m_list c_list] (λw L=>Ro w L eIs [.slice a_list m_list c_list] list∧Ro w L a0f [.slice a_b m_b c_b] bs) [cur b_c a_b m_b c_b] (κ:=Int) (λk=>k∈list) (λk=>.int .i64 k) (λk=>[cur b_c a_b m_b c_b]):=by
 refine Ti2 Tryz.func290 12 Z λw L hR=>?_
 obtain ⟨hlist,hbs⟩:=hR
 obtain ⟨rfl,llist⟩:=hlist.slen
 obtain ⟨rfl,lb⟩:=hbs.slen
 refine Ew Z1<|Ei Z<|Ev Z8<|Em Z<|Em Z<|Em Z<|Yln us_Is Z<|Est Z (N.call (pre:=[_]) B5 Z Z Z dc Z<|λw Lp hA=>hA.ro hbs)<|λx9 o9=>?_
 try dsimp only at o9
 try (conv=>arg 5;dsimp only[ca,na])
 obtain ⟨eb10,eo10,ea10,ei10,eh10⟩:=hlist.elemI x9.toNat om
 refine Il us_Is j8 Z ea10 x9.toNat om om Z (eh10 _)<|Ei Z<|Eu<|E.ret<|F.r1 br Z Z list[x9.toNat] (show list[x9.toNat]∈list from by exact List.getElem_mem _) Z (J:=_) (.refl _)<|.inl Z
theorem a5H {bs:List UInt8}:Tr Tryz.prog 284 [.pointer (some ⟨b_c,0,none⟩)] (λw L=>Ro w L a0f [.slice a_b m_b c_b] bs) [cur b_c a_b m_b c_b] (κ:=(List Int)×SL) (λk=>1≤k.1.length∧k.1.length≤3∧∀z∈k.1,1≤z∧z≤3) (λk=>.slice k.2.1 k.2.2.1 k.2.2.2) (λk=>[ow eIs [.slice k.2.1 k.2.2.1 k.2.2.2] k.1,cur b_c a_b m_b c_b]):=by
 refine Ti1 Tryz.func284 24 Z λw L hR=>?_
 have hbs:=hR
 obtain ⟨rfl,lb⟩:=hbs.slen
 refine Ew Z1<|Ei Z<|Ev Z2<|Est Z (Nb [] [] us_Is j8 Z Z)<|λb6 _=>Ent.drop<|Ei Z<|Eu<|Eq_<|Ew Z4<|Em Z<|Est Z (N.call (pre:=[_]) B5 Z Z Z dc Z<|λw Lp hA=>hA.ro hbs)<|λx8 o8=>?_
 try dsimp only at o8
 try (conv=>arg 5;dsimp only[ca,na])
 refine Yad Z om om<|Ei Z<|Eu<|E.block<|m8 (A:=[]) (Own.nil (E:=Enc.int) (e:=tI) (a:=(some ⟨b6,0,none⟩))) Z<|E.loop (κ:=Nat×(List Int)×SL) (λg=>g.1≤(1+x8).toNat∧g.2.1.length=g.1∧∀z∈g.2.1,1≤z∧z≤3) (λg=>[(0,.pointer<|some ⟨b_c,0,none⟩),(3,.slice g.2.2.1 g.2.2.2.1 g.2.2.2.2),(4,.int .i64<|1+x8-(↑g.1:Int))]) (λg=>[ow eIs [.slice g.2.2.1 g.2.2.2.1 g.2.2.2.2] g.2.1,cur b_c a_b bs.length c_b]) (λg=>(1+x8).toNat-g.1) (0,[],(some ⟨b6,0,none⟩),0,0) ⟨Nat.zero_le _,by simp⟩ ⟨Z,Z,frI om,trivial⟩ (.refl _)<|λg pg=>?_
 obtain ⟨g,ys,aA0_0,mA0_0,cA0_0⟩:=g
 try dsimp only at pg
 try dsimp only
 obtain ⟨pk,pa⟩:=pg
 refine f0 m0 ?_
 rintro rfl laA0_0
 refine Eq_<|Ew Z2<|Em Z<|Ey Z ((Y.gtr Z Z).yd)<|l3 (λq11=>?_)<|λq11=>?_
 ·refine Eu<|Ct<|Eq_<|E.block<|Ew Z4<|Em Z<|d8<|Est Z (N.call (pre:=[_]) B5 Z Z Z dc Z<|λw Lp hA=>hA.ro hbs)<|λx15 o15=>?_
  try dsimp only at o15
  try (conv=>arg 5;dsimp only[ca,na])
  refine Yad Z om om<|Ei Z<|Eu<|Eq_<|Ew Z2<|Em Z<|Est Z (N.call (pre:=[_]) R7 Z Z Z dc Z<|λw Lp hA=>hA.ro hbs)<|λo18 o18=>?_
  try dsimp only at o18
  try (conv=>arg 5;dsimp only[ca,na])
  refine Ent.b (λq18=>?_)<|λq18=>?_
  ·refine Eu<|r9 Z<|Ez Z1<|Ei Z<|Eu<|Ez Z5<|Em Z<|Em Z<|Est Z (Nb [_] [_] us_Is j8 Z Z)<|λb21 _=>i9<|Est Z (w3 (E:=Enc.int) (ex:=3) us_Is j8 Z Z Z (Own.int i6) Z bn bn dc)<|λp22 _=>Ei Z<|En<|o6<|Et<|Ez Z3<|Em Z<|Ey Z ((Y.sub Z Z om om).yd)<|Ei Z<|Eu<|d8<|d8 ?_
   exact u7 br (g+1,ys++[3],p22.1,((ys).length+1),p22.2) ⟨Z,Z,frI om,trivial⟩ (.refl _) ⟨oz,(show (ys++[3]).length=(g+1)∧∀z∈(ys++[3]),1≤z∧z≤3 from by exact b4U pa om)⟩ oz
  ·refine Eu<|Cf<|Ez Z5<|Em Z<|Em Z<|Est Z (Nb [_] [_] us_Is j8 Z Z)<|λb21 _=>i9<|Est Z (w3 (E:=Enc.int) (ex:=(1+x15)) us_Is j8 Z Z Z (Own.int i6) Z bn bn dc)<|λp22 _=>Ei Z<|En<|o6<|Et<|Ez Z3<|Em Z<|Ey Z ((Y.sub Z Z om om).yd)<|Ei Z<|Eu<|d8<|d8 ?_
   exact u7 br (g+1,ys++[(1+x15)],p22.1,((ys).length+1),p22.2) ⟨Z,Z,frI om,trivial⟩ (.refl _) ⟨oz,(show (ys++[(1+x15)]).length=(g+1)∧∀z∈(ys++[(1+x15)]),1≤z∧z≤3 from by exact b4U pa om)⟩ oz
 ·refine Eu<|r8 Z<|E.exit<|l2<|l2<|u4<|Et<|Ew Z2<|Em Z<|Ei Z<|Eu<|E.ret<|d8<|d8<|F.r1 br Z Z (ys,(_,_,_)) (show 1≤ys.length∧ys.length≤3∧∀z∈ys,1≤z∧z≤3 from by exact c1w pa om om) Z (J:=_) (.refl _)<|.inl Z
theorem a7F {bs:List UInt8}:Tr Tryz.prog 288 [.pointer (some ⟨b_c,0,none⟩)] (λw L=>Ro w L a0f [.slice a_b m_b c_b] bs) [cur b_c a_b m_b c_b] (κ:=(List Int)×SL) (λk=>1≤k.1.length∧k.1.length≤4) (λk=>.slice k.2.1 k.2.2.1 k.2.2.2) (λk=>[ow eIs [.slice k.2.1 k.2.2.1 k.2.2.2] k.1,cur b_c a_b m_b c_b]):=by
 refine Ti1 Tryz.func288 15 Z λw L hR=>?_
 have hbs:=hR
 obtain ⟨rfl,lb⟩:=hbs.slen
 refine Ew Z1<|Ei Z<|Ev Z3<|Em Z<|Est Z (N.call (pre:=[_]) a5H Z Z Z dc Z<|λw Lp hA=>hA.ro hbs)<|λk5 o5=>?_
 obtain ⟨xs5,⟨a5,m5,c5⟩⟩:=k5
 try dsimp only at o5
 try (conv=>arg 4;dsimp only)
 try (conv=>arg 5;dsimp only[ca,na])
 refine f0 m0 ?_
 rintro rfl l5
 refine Ei Z<|Eu<|Eq_<|Ew Z2<|Em Z<|d8<|Est Z (N.call (pre:=[_]) R7 Z Z Z dc Z<|λw Lp hA=>hA.ro hbs)<|λo7 o7=>?_
 try dsimp only at o7
 try (conv=>arg 5;dsimp only[ca,na])
 refine Ent.b (λq7=>?_)<|λq7=>?_
 ·refine Eu<|r9 Z<|Ez Z7<|Em Z<|Em Z<|Est Z (Nb [_,_,_] [_,_,_] us_Is j8 Z Z)<|λb10 _=>m8 (A:=[_]) (Own.ints (e:=tI) (xs:=[0,1,4]) Z (by simp[maxLen]) (by simp only[List.forall_mem_cons];exact ⟨i6,i6,i6,List.forall_mem_nil _⟩)) Z<|d8<|Est Z (N.call (pre:=[_]) (K4 dc) Z Z Z dc Z<|λw Lp hA=>⟨hA.ow m0,hA.ro hbs⟩)<|λx11 o11=>?_
  try dsimp only at o11
  try (conv=>arg 5;dsimp only[ca,na])
  have jp: -10≤x11∧x11≤10:=by simp at o11;omega
  refine Est Z (Nb [_] [_] us_Is j8 Z Z)<|λb12 _=>n0<|Est Z (w3 (E:=Enc.int) (ex:=x11) us_Is j8 Z Z Z (Own.int i6) Z bn bn dc)<|λp13 _=>Ei Z<|Ev Z2<|Em Z<|Ei Z<|Eu<|E.ret<|d8<|d8 ?_
  exact F.r1 br Z Z (xs5++[x11],(_,_,_)) (show 1≤(xs5++[x11]).length∧(xs5++[x11]).length≤4 from by first|(simp only[List.length_append,List.length_singleton];omega)|omega) Z (J:=_) (.refl _)<|.inl Z
 ·refine Eu<|Cf<|Ew Z2<|Em Z<|Ei Z<|Eu<|E.ret<|d8<|d8<|d8 ?_
  exact F.r1 br Z Z (xs5,(_,_,_)) (show 1≤xs5.length∧xs5.length≤4 from by first|(simp only[List.length_append,List.length_singleton];omega)|omega) Z (J:=_) (.refl _)<|.inl Z
theorem a7j {wide:Int} {bs:List UInt8} (h1:1≤s.length) (hsz:∀z∈s,1≤z∧z≤3) (hw:1≤wide∧wide≤100):Tr Tryz.prog 289 [.pointer (some ⟨b_c,0,none⟩),.slice a_s m_s c_s,.int .i64 wide] (λw L=>Ro w L eIs [.slice a_s m_s c_s] s∧Ro w L a0f [.slice a_b m_b c_b] bs) [cur b_c a_b m_b c_b] (κ:=Int×(List Int)×SL) (λk=>(0≤k.1∧k.1<s.length)∧1≤k.2.1.length∧k.2.1.length≤3) (λk=>.agg #[.int .i64 k.1,.slice k.2.2.1 k.2.2.2.1 k.2.2.2.2]) (λk=>[ow eIs [.slice k.2.2.1 k.2.2.2.1 k.2.2.2.2] k.2.1,cur b_c a_b m_b c_b]):=by
 refine Ti3 Tryz.func289 34 Z λw L hR=>?_
 obtain ⟨hs,hbs⟩:=hR
 obtain ⟨rfl,ls⟩:=hs.slen
 obtain ⟨rfl,lb⟩:=hbs.slen
 refine Ew Z1<|Est Z (N.alloc ty_Fact dc)<|λb6 _=>Ev Z7<|Em Z<|Em Z<|Yln us_Is Z<|d8<|Est Z (N.call (pre:=[_]) B5 Z Z Z dc Z<|λw Lp hA=>hA.ro hbs)<|λx13 o13=>?_
 try dsimp only at o13
 try (conv=>arg 5;dsimp only[ca,na])
 have jx:x13.toNat<s.length:=by omega
 have jz:=hsz _ (List.getElem_mem jx)
 refine Ey Z ((J2 (pvs:=[_]) (cs:=[_,_]) ty_Fact a6u Z Z).yd)<|Est Z (N.alloc ty_Fact dc)<|λb7 _=>Est Z (Ns [_,_] ty_Fact Z)<|λ_ _=>Eu<|Eq_<|Ew Z1<|Ei Z<|Eu<|E.block<|m8 (A:=[]) (Own.nil (E:=Enc.int) (e:=tI) (a:=none)) Z<|Lo (κ:=Nat×(List Int)×SL) (λg=>g.1≤s[x13.toNat].toNat∧g.2.1.length=g.1) (λg=>[(0,.pointer<|some ⟨b_c,0,none⟩),(1,.slice a_s s.length c_s),(2,.int .i64 wide),(6,.pointer<|some ⟨b6,0,none⟩),(7,.pointer<|some ⟨b7,0,none⟩),(8,.int .i64 (↑g.1:Int))]) (λg=>[ow eIs [.slice g.2.2.1 g.2.2.2.1 g.2.2.2.2] g.2.1,pt b7 85 [.int .i64 x13,.slice g.2.2.1 g.2.2.2.1 g.2.2.2.2],cur b_c a_b bs.length c_b,pt b6 85 [.int .i64 0,.slice none 0 0]]) (λg=>s[x13.toNat].toNat-g.1) (0,[],none,0,0) ⟨Nat.zero_le _,by rfl⟩<|λg pg=>?_
 obtain ⟨g,ys,aA0_0,mA0_0,cA0_0⟩:=g
 try dsimp only at pg
 try dsimp only
 obtain ⟨pk,pa⟩:=pg
 refine f0 m0 ?_
 rintro rfl laA0_0
 refine Eq_<|Ew Z7<|Em Z<|Em Z<|Lz fo_Fact_0 j8 Z (mS m0) Z ?_
 obtain ⟨eb19,eo19,ea19,ei19,eh19⟩:=hs.elemI x13.toNat om
 refine Il us_Is j8 Z ea19 x13.toNat om om Z (eh19 _)<|Ylt Z<|l3 (λq21=>?_)<|λq21=>?_
 ·refine Eu<|Ct<|Eq_<|E.block<|Ew Z4<|Em Z<|Em Z<|i9<|Est Z (N.call (pre:=[_]) B5 Z Z Z dc Z<|λw Lp hA=>hA.ro hbs)<|λx26 o26=>?_
  try dsimp only at o26
  try (conv=>arg 5;dsimp only[ca,na])
  refine Ei Z<|Eu<|Ez Z7<|Lz fo_Fact_1 ty_Is Z (mS<|mS m0) Z<|Em Z<|Est Z (Nb [_] [_] us_Is j8 Z Z)<|λb30 _=>i9<|Est Z (w3 (E:=Enc.int) (ex:=x26) us_Is j8 Z Z Z (Own.int i6) Z bn bn dc)<|λp31 _=>Ey Z ((D3 fo_Fact_1 ty_Is dc Z).yd)<|i9<|Est Z (Ns [_,_] ty_Is Z)<|λ_ _=>En<|o6<|Et<|Ez Z3<|Em Z<|Yad Z om om<|Ei Z<|Eu<|n0<|n0<|i9<|n0 ?_
  exact Ea (g+1,ys++[x26],p31.1,((ys).length+1),p31.2) ⟨oz,(show (ys++[x26]).length=(g+1) from by simp[pa])⟩
 ·refine Eu<|r8 Z<|E.exit<|l2<|l2<|u4<|Et<|Ew Z2<|Ey Z (l4 (cs:=[_,_]) ty_Fact Z (Has.pt<|mS m0) Z)<|n0<|Est Z (Ns [_,_] ty_Fact Z)<|λ_ _=>Eu<|E.ret<|d8<|n0<|d8<|N7 br Z Z (mS<|mS m0) ty_Fact Z (x13,ys,(_,_,_)) (show (0≤x13∧x13<s.length)∧1≤ys.length∧ys.length≤3 from by omega) Z (J:=_) (.refl _)<|.inl Z
theorem b1t {most:Int} {bs:List UInt8} (h1:1≤s.length) (hsz:∀z∈s,1≤z∧z≤3) (hm:0≤most∧most≤8):Tr Tryz.prog 185 [.pointer (some ⟨b_c,0,none⟩),.slice a_s m_s c_s,.int .i64 most] (λw L=>Ro w L eIs [.slice a_s m_s c_s] s∧Ro w L a0f [.slice a_b m_b c_b] bs) [cur b_c a_b m_b c_b] (κ:=(List IL)×SL) (λk=>(↑k.1.length:Int)≤most∧∀f∈k.1,1≤f.2.length∧f.2.length≤3) (λk=>.slice k.2.1 k.2.2.1 k.2.2.2) (λk=>[ow t7 [.slice k.2.1 k.2.2.1 k.2.2.2] k.1,cur b_c a_b m_b c_b]):=by
 refine Ti3 Tryz.func185 24 Z λw L hR=>?_
 obtain ⟨hs,hbs⟩:=hR
 obtain ⟨rfl,ls⟩:=hs.slen
 obtain ⟨rfl,lb⟩:=hbs.slen
 refine Ew Z1<|Ei Z<|Ev Z2<|Est Z (Nb [] [] us_Facts ty_Fact Z Z)<|λb9 _=>Ent.drop<|Ei Z<|Eu<|Eq_<|Ew Z5<|Em Z<|Em Z<|Yad Z om om<|Est Z (N.call (pre:=[_]) B5 Z Z Z dc Z<|λw Lp hA=>hA.ro hbs)<|λx13 o13=>?_
 try dsimp only at o13
 try (conv=>arg 5;dsimp only[ca,na])
 refine Ei Z<|Eu<|E.block<|m8 (A:=[]) (Own.nil (E:=I3) (e:=tFact) (a:=(some ⟨b9,0,none⟩))) Z<|E.loop (κ:=Nat×(List<|IL)×SL) (λg=>g.1≤(x13).toNat∧g.2.1.length≤g.1∧∀f∈g.2.1,1≤f.2.length∧f.2.length≤3) (λg=>[(0,.pointer<|some ⟨b_c,0,none⟩),(1,.slice a_s s.length c_s),(7,.slice g.2.2.1 g.2.2.2.1 g.2.2.2.2),(8,.int .i64<|x13-(↑g.1:Int))]) (λg=>[ow t7 [.slice g.2.2.1 g.2.2.2.1 g.2.2.2.2] g.2.1,cur b_c a_b bs.length c_b]) (λg=>(x13).toNat-g.1) (0,[],(some ⟨b9,0,none⟩),0,0) ⟨Nat.zero_le _,by simp⟩ ⟨Z,Z,Z,frI om,trivial⟩ (.refl _)<|λg pg=>?_
 obtain ⟨g,ys,aA0_0,mA0_0,cA0_0⟩:=g
 try dsimp only at pg
 try dsimp only
 obtain ⟨pk,pa⟩:=pg
 refine f0 m0 ?_
 rintro rfl laA0_0
 refine Eq_<|Ew Z2<|Em Z<|Ey Z ((Y.gtr Z Z).yd)<|l3 (λq15=>?_)<|λq15=>?_
 ·refine Eu<|Ct<|Eq_<|E.block<|Ez Z6<|Em Z<|Em Z<|Em Z<|d8<|Est Z (N.call (pre:=[_]) (a7j fo fo fo) Z Z Z dc Z<|λw Lp hA=>⟨hA.ro hs,hA.ro hbs⟩)<|λk21 o21=>?_
  obtain ⟨rl21,vs21,⟨a21,m21,c21⟩⟩:=k21
  try dsimp only at o21
  try (conv=>arg 4;dsimp only)
  try (conv=>arg 5;dsimp only[ca,na])
  refine f0 m0 ?_
  rintro rfl l21
  refine El Z (a3S om (λx hx=>Nat.le_trans (pa.2 x hx).2 dc) om) Z (λhA=>⟨hA.ow<|mS<|mS m0,i6,hA.ow m0⟩)<|λa22 c22 l22=>Ei Z<|En<|o6<|Et<|Ez Z3<|Em Z<|Ey Z ((Y.sub Z Z om om).yd)<|Ei Z<|Eu<|d8<|Ent.drop<|i9<|Ent.drop<|d8<|d8 ?_
  exact u7 br (g+1,F3 ys (rl21,vs21),a22,_,c22) ⟨Z,Z,Z,frI om,trivial⟩ (.refl _) ⟨oz,(show (F3 ys (rl21,vs21)).length≤(g+1)∧∀f∈(F3 ys (rl21,vs21)),1≤f.2.length∧f.2.length≤3 from by exact b9O pa o21.2)⟩ oz
 ·refine Eu<|r8 Z<|E.exit<|l2<|l2<|u4<|Et<|Ew Z2<|Em Z<|Ei Z<|Eu<|E.ret<|d8<|d8<|F.r1 br Z Z (ys,(_,_,_)) (show (↑ys.length:Int)≤most∧∀f∈ys,1≤f.2.length∧f.2.length≤3 from by exact ⟨by omega,pa.2⟩) Z (J:=_) (.refl _)<|.inl Z
theorem a4P {bs:List UInt8}:Tr Tryz.prog 186 [.pointer (some ⟨b_c,0,none⟩),.slice a_s m_s c_s] (λw L=>Ro w L eIs [.slice a_s m_s c_s] s∧Ro w L a0f [.slice a_b m_b c_b] bs) [cur b_c a_b m_b c_b] (κ:=Int×(List Int)×SL) (λk=>(-1≤k.1∧k.1≤10)∧1≤k.2.1.length∧k.2.1.length≤4) (λk=>.agg #[.int .i64 k.1,.slice k.2.2.1 k.2.2.2.1 k.2.2.2.2]) (λk=>[ow eIs [.slice k.2.2.1 k.2.2.2.1 k.2.2.2.2] k.2.1,cur b_c a_b m_b c_b]):=by
 refine Ti2 Tryz.func186 37 Z λw L hR=>?_
 obtain ⟨hs,hbs⟩:=hR
 obtain ⟨rfl,ls⟩:=hs.slen
 obtain ⟨rfl,lb⟩:=hbs.slen
 have js0:0≤s.length:=Nat.zero_le _
 refine Ew Z1<|Est Z (N.alloc ty_Fact dc)<|λb4 _=>Ev Z4<|Est Z (Nb [_] [_] us_Is j8 Z Z)<|λb6 _=>m8 (A:=_::_) (V2 (E:=Enc.int) (e:=tI)<|Own.int i6) Z<|Ey Z ((J2 (pvs:=[_]) (cs:=[_,_]) ty_Fact a6u Z Z).yd)<|Est Z (N.alloc ty_Fact dc)<|λb5 _=>Est Z (Ns [_,_] ty_Fact Z)<|λ_ _=>Eu<|Eq_<|Ew Z2<|Em Z<|E0 Z M7 Z (λhA=>hA.ro hs)<|Ent.b (λq9=>?_)<|λq9=>?_
 ·have js:=a0b q9
  refine Eu<|r9 Z<|Ez Z4<|Em Z<|Em Z<|n0<|Est Z (N.call (pre:=[_]) (a7j (a0b q9).1 (a0b q9).2.2 fo) Z Z Z dc Z<|λw Lp hA=>⟨hA.ro hs,hA.ro hbs⟩)<|λk12 o12=>?_
  obtain ⟨rl12,vs12,⟨a12,m12,c12⟩⟩:=k12
  try dsimp only at o12
  try (conv=>arg 4;dsimp only)
  try (conv=>arg 5;dsimp only[ca,na])
  refine f0 m0 ?_
  rintro rfl l12
  refine i9<|Est Z (Ns [_,_] ty_Fact Z)<|λ_ _=>Eu<|Eq_<|Ew Z2<|Em Z<|i9<|Est Z (N.call (pre:=[_]) B5 Z Z Z dc Z<|λw Lp hA=>hA.ro hbs)<|λx14 o14=>?_
  try dsimp only at o14
  try (conv=>arg 5;dsimp only[ca,na])
  refine Eu<|E.block<|Ew Z2<|Yeq Z<|Ei Z<|l3 (λq15=>?_)<|λq15=>?_
  ·refine Eu<|r9 Z<|Ez Z5<|Em Z<|Est Z (N.call (pre:=[_]) B5 Z Z Z dc Z<|λw Lp hA=>hA.ro hbs)<|λx18 o18=>?_
   try dsimp only at o18
   try (conv=>arg 5;dsimp only[ca,na])
   refine Ey Z ((Y.sub Z Z om om).yd)<|Ey Z ((D3 fo_Fact_0 j8 dc Z).yd)<|d8<|Est Z (Ns [_,_] j8 Z)<|λ_ _=>En<|o6<|Et<|Ew Z2<|Ey Z (l4 (cs:=[_,_]) ty_Fact Z (Has.pt m0) Z)<|s6<|Est Z (Ns [_,_] ty_Fact Z)<|λ_ _=>Eu<|E.ret<|n0<|n0<|d8 ?_
   exact N7 br Z Z (mS<|mS m0) ty_Fact Z ((x18-1),vs12,(_,_,_)) (show (-1≤(x18-1)∧(x18-1)≤10)∧1≤vs12.length∧vs12.length≤4 from by first|omega|(simp only[List.length_set,List.length_append,List.length_cons,List.length_nil];omega)) Z (J:=_) (.refl _)<|.inl Z
  ·refine Eu<|r8 Z<|Ew Z2<|Yeq Z<|Ei Z<|l3 (λq21=>?_)<|λq21=>?_
   ·refine Eu<|r9 Z<|U3 [b5,b4] (λj=> !(Nat.beq j 6)) mixed<|C7 0 Z Z dc (D3 fo_Fact_1 ty_Is dc Z) kr<|a1y 1 Z Z dc (W4 ty_Is Z ((X7.pt (mS m0) (by simp)).sub (cs':=[_]) 1 Z) Z) kr<|C7 2 Z Z dc (P5 Z) kr<|G7 3 Z Z kr (λ_ _=>SameI.out) (Nb [_,_,_] [_,_,_] us_Is j8 Z Z)<|λb26 _=>m8 (A:=[_]) (Own.ints (e:=tI) (xs:=[-1,9,10]) Z (by simp[maxLen]) (by simp only[List.forall_mem_cons];exact ⟨i6,i6,i6,List.forall_mem_nil _⟩)) Z<|d8<|G7 4 Z Z kr (λ_ _=>SameI.out) (N.call (pre:=[_]) (K4 dc) Z Z Z dc Z<|λw Lp hA=>⟨hA.ow m0,hA.ro hbs⟩)<|λx27 o27=>?_
    try dsimp only at o27
    try (conv=>arg 5;dsimp only[ca,na])
    have jp: -10≤x27∧x27≤10:=by simp at o27;omega
    refine R1 (mS<|mS<|mS m0) om λab28 ae28=>C7 5 Z Z dc (y6 us_Is j8 Z ae28 Z 0 Z om) kr<|n0<|G7 6 Z Z kr (λ_ _=>SameI.out) (N.set (E:=Enc.int) (j:=0) (ex:=x27) (ce:=[_]) j8 Z Z Z Z (Own.int i6) ae28 (Nat.zero_add _) Z (by first|(simp;omega)|omega|(simp;done)))<|λ_ _=>X4 kr<|o6<|Et<|Ew Z2<|Ey Z (l4 (cs:=[_,_]) ty_Fact Z (Has.pt<|mS<|mS<|mS m0) Z)<|u6<|Est Z (Ns [_,_] ty_Fact Z)<|λ_ _=>Eu<|E.ret<|d8<|i9<|d8 ?_
    exact N7 br Z Z (mS<|mS m0) ty_Fact Z (rl12,vs12.set 0 x27,(_,_,_)) (show (-1≤rl12∧rl12≤10)∧1≤(vs12.set 0 x27).length∧(vs12.set 0 x27).length≤4 from by first|omega|(simp only[List.length_set,List.length_append,List.length_cons,List.length_nil];omega)) Z (J:=_) (.refl _)<|.inl Z
   ·refine Eu<|r8 Z<|Ew Z2<|Yeq Z<|Ei Z<|l3 (λq29=>?_)<|λq29=>?_
    ·refine Eu<|r9 Z<|Ez Z6<|Lz fo_Fact_1 ty_Is Z (mS m0) Z<|Est Z (Nb [_] [_] us_Is j8 Z Z)<|λb33 _=>n0<|Est Z (w3 (E:=Enc.int) (ex:=1) us_Is j8 Z Z Z (Own.int i6) Z bn bn dc)<|λp34 _=>Ey Z ((D3 fo_Fact_1 ty_Is dc Z).yd)<|i9<|Est Z (Ns [_,_] ty_Is Z)<|λ_ _=>En<|o6<|Et<|Ew Z2<|Ey Z (l4 (cs:=[_,_]) ty_Fact Z (Has.pt m0) Z)<|s6<|Est Z (Ns [_,_] ty_Fact Z)<|λ_ _=>Eu<|E.ret<|i9<|n0<|d8 ?_
     exact N7 br Z Z (mS<|mS m0) ty_Fact Z (rl12,vs12++[1],(_,_,_)) (show (-1≤rl12∧rl12≤10)∧1≤(vs12++[1]).length∧(vs12++[1]).length≤4 from by first|omega|(simp only[List.length_set,List.length_append,List.length_cons,List.length_nil];omega)) Z (J:=_) (.refl _)<|.inl Z
    ·refine Eu<|r8 Z<|v6<|o6<|Et<|Ew Z2<|Ey Z (l4 (cs:=[_,_]) ty_Fact Z (Has.pt<|mS m0) Z)<|s6<|Est Z (Ns [_,_] ty_Fact Z)<|λ_ _=>Eu<|E.ret<|n0<|i9<|d8 ?_
     exact N7 br Z Z (mS<|mS m0) ty_Fact Z (rl12,vs12,(_,_,_)) (show (-1≤rl12∧rl12≤10)∧1≤vs12.length∧vs12.length≤4 from by first|omega|(simp only[List.length_set,List.length_append,List.length_cons,List.length_nil];omega)) Z (J:=_) (.refl _)<|.inl Z
 ·refine Eu<|Cf<|Eq_<|Ew Z2<|Em Z<|n0<|Est Z (N.call (pre:=[_]) B5 Z Z Z dc Z<|λw Lp hA=>hA.ro hbs)<|λx14 o14=>?_
  try dsimp only at o14
  try (conv=>arg 5;dsimp only[ca,na])
  refine Eu<|E.block<|Ew Z2<|Yeq Z<|Ei Z<|l3 (λq15=>?_)<|λq15=>?_
  ·refine Eu<|r9 Z<|Ez Z5<|Em Z<|Est Z (N.call (pre:=[_]) B5 Z Z Z dc Z<|λw Lp hA=>hA.ro hbs)<|λx18 o18=>?_
   try dsimp only at o18
   try (conv=>arg 5;dsimp only[ca,na])
   refine Ey Z ((Y.sub Z Z om om).yd)<|Ey Z ((D3 fo_Fact_0 j8 dc Z).yd)<|d8<|Est Z (Ns [_,_] j8 Z)<|λ_ _=>En<|o6<|Et<|Ew Z2<|Ey Z (l4 (cs:=[_,_]) ty_Fact Z (Has.pt m0) Z)<|n0<|Est Z (Ns [_,_] ty_Fact Z)<|λ_ _=>Eu<|E.ret<|n0<|n0<|d8 ?_
   exact N7 br Z Z (mS<|mS m0) ty_Fact Z ((x18-1),[1],(_,_,_)) (show (-1≤(x18-1)∧(x18-1)≤10)∧1≤([1]:List Int).length∧([1]:List Int).length≤4 from by first|omega|(simp only[List.length_set,List.length_append,List.length_cons,List.length_nil];omega)) Z (J:=_) (.refl _)<|.inl Z
  ·refine Eu<|r8 Z<|Ew Z2<|Yeq Z<|Ei Z<|l3 (λq21=>?_)<|λq21=>?_
   ·refine Eu<|r9 Z<|U3 [b5,b4] (λj=> !(Nat.beq j 6)) mixed<|C7 0 Z Z dc (D3 fo_Fact_1 ty_Is dc Z) kr<|a1y 1 Z Z dc (W4 ty_Is Z ((X7.pt (mS m0) (by simp)).sub (cs':=[_]) 1 Z) Z) kr<|C7 2 Z Z dc (P5 Z) kr<|G7 3 Z Z kr (λ_ _=>SameI.out) (Nb [_,_,_] [_,_,_] us_Is j8 Z Z)<|λb26 _=>m8 (A:=[_]) (Own.ints (e:=tI) (xs:=[-1,9,10]) Z (by simp[maxLen]) (by simp only[List.forall_mem_cons];exact ⟨i6,i6,i6,List.forall_mem_nil _⟩)) Z<|d8<|G7 4 Z Z kr (λ_ _=>SameI.out) (N.call (pre:=[_]) (K4 dc) Z Z Z dc Z<|λw Lp hA=>⟨hA.ow m0,hA.ro hbs⟩)<|λx27 o27=>?_
    try dsimp only at o27
    try (conv=>arg 5;dsimp only[ca,na])
    have jp: -10≤x27∧x27≤10:=by simp at o27;omega
    refine C7 5 Z Z dc (y6 us_Is j8 Z Z Z 0 Z om) kr<|n0<|G7 6 Z Z kr (λ_ _=>SameI.out) (N.set (E:=Enc.int) (j:=0) (ex:=x27) (ce:=[_]) j8 Z Z Z Z (Own.int i6) Z (Nat.zero_add _) Z (by first|(simp;omega)|omega|(simp;done)))<|λ_ _=>X4 kr<|o6<|Et<|Ew Z2<|Ey Z (l4 (cs:=[_,_]) ty_Fact Z (Has.pt<|mS<|mS<|mS m0) Z)<|s6<|Est Z (Ns [_,_] ty_Fact Z)<|λ_ _=>Eu<|E.ret<|d8<|i9<|d8 ?_
    exact N7 br Z Z (mS<|mS m0) ty_Fact Z (0,([1]).set 0 x27,(_,_,_)) (show (-1≤(0:Int)∧(0:Int)≤10)∧1≤(([1]).set 0 x27).length∧(([1]).set 0 x27).length≤4 from by first|omega|(simp only[List.length_set,List.length_append,List.length_cons,List.length_nil];omega)) Z (J:=_) (.refl _)<|.inl Z
   ·refine Eu<|r8 Z<|Ew Z2<|Yeq Z<|Ei Z<|l3 (λq29=>?_)<|λq29=>?_
    ·refine Eu<|r9 Z<|Ez Z6<|Lz fo_Fact_1 ty_Is Z (mS m0) Z<|Est Z (Nb [_] [_] us_Is j8 Z Z)<|λb33 _=>n0<|Est Z (w3 (E:=Enc.int) (ex:=1) us_Is j8 Z Z Z (Own.int i6) Z bn bn dc)<|λp34 _=>Ey Z ((D3 fo_Fact_1 ty_Is dc Z).yd)<|i9<|Est Z (Ns [_,_] ty_Is Z)<|λ_ _=>En<|o6<|Et<|Ew Z2<|Ey Z (l4 (cs:=[_,_]) ty_Fact Z (Has.pt m0) Z)<|n0<|Est Z (Ns [_,_] ty_Fact Z)<|λ_ _=>Eu<|E.ret<|i9<|n0<|d8 ?_
     exact N7 br Z Z (mS<|mS m0) ty_Fact Z (0,([1])++[1],(_,_,_)) (show (-1≤(0:Int)∧(0:Int)≤10)∧1≤(([1])++[1]).length∧(([1])++[1]).length≤4 from by first|omega|(simp only[List.length_set,List.length_append,List.length_cons,List.length_nil];omega)) Z (J:=_) (.refl _)<|.inl Z
    ·refine Eu<|r8 Z<|v6<|o6<|Et<|Ew Z2<|Ey Z (l4 (cs:=[_,_]) ty_Fact Z (Has.pt<|mS m0) Z)<|n0<|Est Z (Ns [_,_] ty_Fact Z)<|λ_ _=>Eu<|E.ret<|n0<|i9<|d8 ?_
     exact N7 br Z Z (mS<|mS m0) ty_Fact Z (0,[1],(_,_,_)) (show (-1≤(0:Int)∧(0:Int)≤10)∧1≤([1]:List Int).length∧([1]:List Int).length≤4 from by first|omega|(simp only[List.length_set,List.length_append,List.length_cons,List.length_nil];omega)) Z (J:=_) (.refl _)<|.inl Z
theorem a9b {bs:List UInt8}:Tr Tryz.prog 68 [.pointer (some ⟨b_c,0,none⟩),.slice a_s m_s c_s] (λw L=>Ro w L eIs [.slice a_s m_s c_s] s∧Ro w L a0f [.slice a_b m_b c_b] bs) [cur b_c a_b m_b c_b] (κ:=(List IL)×SL) (λk=>k.1.length≤9∧∀f∈k.1,1≤f.2.length∧f.2.length≤4) (λk=>.slice k.2.1 k.2.2.1 k.2.2.2) (λk=>[ow t7 [.slice k.2.1 k.2.2.1 k.2.2.2] k.1,cur b_c a_b m_b c_b]):=by
 refine Ti2 Tryz.func68 21 Z λw L hR=>?_
 obtain ⟨hs,hbs⟩:=hR
 obtain ⟨rfl,ls⟩:=hs.slen
 obtain ⟨rfl,lb⟩:=hbs.slen
 refine Ew Z1<|Ei Z<|Ev Z2<|Est Z (Nb [] [] us_Facts ty_Fact Z Z)<|λb6 _=>Ent.drop<|Ei Z<|Eu<|Eq_<|Ew Z2<|Em Z<|E0 Z M7 Z (λhA=>hA.ro hs)<|Ent.b (λq8=>?_)<|λq8=>?_
 ·refine Eu<|r9 Z<|Ez Z4<|Em Z<|Em Z<|Est Z (N.call (pre:=[_]) (b1t (a0b q8).1 (a0b q8).2.2 fo) Z Z Z dc Z<|λw Lp hA=>⟨hA.ro hs,hA.ro hbs⟩)<|λk11 o11=>?_
  obtain ⟨fl11,⟨a11,m11,c11⟩⟩:=k11
  try dsimp only at o11
  try (conv=>arg 4;dsimp only)
  try (conv=>arg 5;dsimp only[ca,na])
  refine f0 m0 ?_
  rintro rfl l11
  refine Ei Z<|Eu<|Eq_<|Ew Z2<|Em Z<|d8<|Est Z (N.call (pre:=[_]) R7 Z Z Z dc Z<|λw Lp hA=>hA.ro hbs)<|λo13 o13=>?_
  try dsimp only at o13
  try (conv=>arg 5;dsimp only[ca,na])
  refine Ent.b (λq13=>?_)<|λq13=>?_
  ·refine Eu<|r9 Z<|Ez Z7<|Em Z<|Em Z<|Em Z<|Est Z (N.call (pre:=[_]) a4P Z Z Z dc Z<|λw Lp hA=>⟨hA.ro hs,hA.ro hbs⟩)<|λk17 o17=>?_
   obtain ⟨rl17,vs17,⟨a17,m17,c17⟩⟩:=k17
   try dsimp only at o17
   try (conv=>arg 4;dsimp only)
   try (conv=>arg 5;dsimp only[ca,na])
   refine f0 m0 ?_
   rintro rfl l17
   refine Est Z (Nb [_] [_,_] us_Facts ty_Fact Z Z)<|λb18 _=>d8<|d8<|n0<|Est Z (w3 (E:=I3) (ex:=(rl17,vs17)) us_Facts ty_Fact Z Z Z (N3 (x:=(rl17,vs17)) i6 Own.ow) Z bn bn dc)<|λp19 _=>Ei Z<|Ev Z2<|Em Z<|Ei Z<|Eu<|E.ret<|d8<|d8<|F.r1 br Z Z (fl11++[(rl17,vs17)],(_,_,_)) (show (fl11++[(rl17,vs17)]).length≤9∧∀f∈(fl11++[(rl17,vs17)]),1≤f.2.length∧f.2.length≤4 from by first|exact a6F Z|exact a5x o11|exact a5F o11 o17.2|exact a5t o17.2) Z (J:=_) (.refl _)<|.inl Z
  ·refine Eu<|Cf<|Ew Z2<|Em Z<|Ei Z<|Eu<|E.ret<|d8<|d8<|d8<|F.r1 br Z Z (fl11,(_,_,_)) (show fl11.length≤9∧∀f∈fl11,1≤f.2.length∧f.2.length≤4 from by first|exact a6F Z|exact a5x o11|exact a5F o11 o17.2|exact a5t o17.2) Z (J:=_) (.refl _)<|.inl Z
 ·refine Eu<|Cf<|Eq_<|Ew Z2<|Em Z<|Est Z (N.call (pre:=[_]) R7 Z Z Z dc Z<|λw Lp hA=>hA.ro hbs)<|λo13 o13=>?_
  try dsimp only at o13
  try (conv=>arg 5;dsimp only[ca,na])
  refine Ent.b (λq13=>?_)<|λq13=>?_
  ·refine Eu<|r9 Z<|Ez Z7<|Em Z<|Em Z<|Em Z<|Est Z (N.call (pre:=[_]) a4P Z Z Z dc Z<|λw Lp hA=>⟨hA.ro hs,hA.ro hbs⟩)<|λk17 o17=>?_
   obtain ⟨rl17,vs17,⟨a17,m17,c17⟩⟩:=k17
   try dsimp only at o17
   try (conv=>arg 4;dsimp only)
   try (conv=>arg 5;dsimp only[ca,na])
   refine f0 m0 ?_
   rintro rfl l17
   refine Est Z (Nb [_] [_,_] us_Facts ty_Fact Z Z)<|λb18 _=>m8 (A:=[]) (Own.nil (E:=I3) (e:=tFact) (a:=(some ⟨b6,0,none⟩))) Z<|i9<|i9<|i9<|Est Z (w3 (E:=I3) (ex:=(rl17,vs17)) us_Facts ty_Fact Z Z Z (N3 (x:=(rl17,vs17)) i6 Own.ow) Z bn bn dc)<|λp19 _=>Ei Z<|Ev Z2<|Em Z<|Ei Z<|Eu<|E.ret<|d8<|d8<|F.r1 br Z Z ([]++[(rl17,vs17)],(_,_,_)) (show ([]++[(rl17,vs17)]:List IL).length≤9∧∀f∈([]++[(rl17,vs17)]:List IL),1≤f.2.length∧f.2.length≤4 from by first|exact a6F Z|exact a5x o11|exact a5F o11 o17.2|exact a5t o17.2) Z (J:=_) (.refl _)<|.inl Z
  ·refine Eu<|Cf<|Ew Z2<|Em Z<|Ei Z<|Eu<|E.ret<|m8 (A:=[]) (Own.nil (E:=I3) (e:=tFact) (a:=(some ⟨b6,0,none⟩))) Z<|d8<|d8<|F.r1 br Z Z ([],((some ⟨b6,0,none⟩),0,0)) (show ([]:List IL).length≤9∧∀f∈([]:List IL),1≤f.2.length∧f.2.length≤4 from by first|exact a6F Z|exact a5x o11|exact a5F o11 o17.2|exact a5t o17.2) Z (J:=_) (.refl _)<|.inl Z
end Go.Proofs.YthapcdhdfaibkaaGreatDoor
end
