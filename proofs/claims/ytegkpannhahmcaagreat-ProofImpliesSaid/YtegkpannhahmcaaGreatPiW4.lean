/- Part 4 of what the statement rests on: a verified evaluator over pure values, the conditions of the program's functions, and their plain laws. -/
import Derived.Test.YtegkpannhahmcaaGreatPiW3
namespace Go.Pf.Vc
open Go Go.Pf
set_option maxRecDepth 100000
def yaO (a0:ybc) (a1:yaG) (a2:yau) (a3:ybn) (a4:yao) (x97930201_1:List PV→List PV→List PV→List PV→Int→Int→Bool→Prop) (x97930201_2:List PV→List PV→List PV→List PV→List PV→List PV→List PV→List PV→Int→Int→Bool→Prop):Nat→List PV→List PV→List PV→List PV→List PV→List PV→List PV→List PV→Int→Int→Prop
 | 0,_,_,_,_,_,_,_,_,_,_=>False
 | n97930201+1,l0,l1,l2,l3,l4,l5,l6,l7,i8,i9 =>
 (cbr (decide (i9<i8))
 (∃ n97930200:Nat,yaJ a0 a1 a2 a3 a4
 (fun yl468 yl469 yl470 yl471 yi472 yi473 yb474=>(x97930201_1 yl468 yl469 yl470 yl471 yi472 yi473 yb474))
 (fun yl475 yl476 yl477 yl478 yl479 yl480 yl481 yl482 _ yi484 yi485 _ _ _=>(lt (IntKind.i64.wrap (yi485+(1:Int))) (fun yi489 =>
 (yaO a0 a1 a2 a3 a4 x97930201_1 x97930201_2 n97930201 yl475 yl476 yl477 yl478 yl479 yl480 yl481 yl482 yi484 yi489))))
 n97930200 l0 l1 l2 l3 l4 l5 l6 l7 i9 i8 i9 (((List.length l4):Nat):Int) (0:Int))
 (x97930201_2 l0 l1 l2 l3 l4 l5 l6 l7 i8 i9 false))
def yaP (a0:ybc) (a1:yaG) (a2:yau) (a3:ybn) (a4:yao) (x97930201_1:List PV→List PV→List PV→List PV→Int→Int→Bool→Prop) (x97930201_3:List PV→List PV→List PV→List PV→List PV→List PV→List PV→List PV→Int→Int→Bool→Prop):Nat→List PV→List PV→List PV→List PV→List PV→List PV→List PV→List PV→Int→Int→Prop
 | 0,_,_,_,_,_,_,_,_,_,_=>False
 | n97930201+1,l0,l1,l2,l3,l4,l5,l6,l7,i8,i9 =>
 (cbr (decide (i9<i8))
 (∃ n97930200:Nat,yaK a0 a1 a2 a3 a4
 (fun yl762 yl763 yl764 yl765 yi766 yi767 yb768=>(x97930201_1 yl762 yl763 yl764 yl765 yi766 yi767 yb768))
 (fun yl769 yl770 yl771 yl772 yl773 yl774 yl775 yl776 _ yi778 yi779 _ _ _=>(lt (IntKind.i64.wrap (yi779+(1:Int))) (fun yi783 =>
 (yaP a0 a1 a2 a3 a4 x97930201_1 x97930201_3 n97930201 yl769 yl770 yl771 yl772 yl773 yl774 yl775 yl776 yi778 yi783))))
 n97930200 l0 l1 l2 l3 l4 l5 l6 l7 i9 i8 i9 (((List.length l4):Nat):Int) (0:Int))
 (x97930201_3 l0 l1 l2 l3 l4 l5 l6 l7 i8 i9 false))
def yaQ (a0:ybc) (a1:yaG) (a2:yau) (a3:ybn) (a4:yao) (x97930201_1:List PV→List PV→List PV→List PV→Int→Int→Bool→Prop) (x97930201_4:List PV→List PV→List PV→List PV→List PV→List PV→List PV→List PV→Int→Int→Bool→Prop):Nat→List PV→List PV→List PV→List PV→List PV→List PV→List PV→List PV→Int→Int→Prop
 | 0,_,_,_,_,_,_,_,_,_,_=>False
 | n97930201+1,l0,l1,l2,l3,l4,l5,l6,l7,i8,i9 =>
 (cbr (decide (i9<i8))
 (∃ n97930200:Nat,yaL a0 a1 a2 a3 a4
 (fun yl1024 yl1025 yl1026 yl1027 yi1028 yi1029 yb1030=>(x97930201_1 yl1024 yl1025 yl1026 yl1027 yi1028 yi1029 yb1030))
 (fun yl1031 yl1032 yl1033 yl1034 yl1035 yl1036 yl1037 yl1038 _ yi1040 yi1041 _ _ _=>(lt (IntKind.i64.wrap (yi1041+(1:Int))) (fun yi1045 =>
 (yaQ a0 a1 a2 a3 a4 x97930201_1 x97930201_4 n97930201 yl1031 yl1032 yl1033 yl1034 yl1035 yl1036 yl1037 yl1038 yi1040 yi1045))))
 n97930200 l0 l1 l2 l3 l4 l5 l6 l7 i9 i8 i9 (((List.length l4):Nat):Int) (0:Int))
 (x97930201_4 l0 l1 l2 l3 l4 l5 l6 l7 i8 i9 false))
def yaR (a0:ybc) (a1:yaG) (a2:yau) (a3:ybn) (a4:yao) (x97930201_1:List PV→List PV→List PV→List PV→Int→Int→Bool→Prop) (x97930201_5:List PV→List PV→List PV→List PV→List PV→List PV→List PV→List PV→Int→Int→Bool→Prop):Nat→List PV→List PV→List PV→List PV→List PV→List PV→List PV→List PV→Int→Int→Prop
 | 0,_,_,_,_,_,_,_,_,_,_=>False
 | n97930201+1,l0,l1,l2,l3,l4,l5,l6,l7,i8,i9 =>
 (cbr (decide (i9<i8))
 (∃ n97930200:Nat,yaM a0 a1 a2 a3 a4
 (fun yl1958 yl1959 yl1960 yl1961 yi1962 yi1963 yb1964=>(x97930201_1 yl1958 yl1959 yl1960 yl1961 yi1962 yi1963 yb1964))
 (fun yl1965 yl1966 yl1967 yl1968 yl1969 yl1970 yl1971 yl1972 _ yi1974 yi1975 _ _ _=>(lt (IntKind.i64.wrap (yi1975+(1:Int))) (fun yi1979 =>
 (yaR a0 a1 a2 a3 a4 x97930201_1 x97930201_5 n97930201 yl1965 yl1966 yl1967 yl1968 yl1969 yl1970 yl1971 yl1972 yi1974 yi1979))))
 n97930200 l0 l1 l2 l3 l4 l5 l6 l7 i9 i8 i9 (((List.length l4):Nat):Int) (0:Int))
 (x97930201_5 l0 l1 l2 l3 l4 l5 l6 l7 i8 i9 false))
def ygN (a0:ybc) (a1:yaG) (a2:yau) (a3:ybn) (a4:yao) (p0 p1 p2 p3:List PV) (p4:Int) (K:Int→Int→Bool→Prop):Prop :=
 (cbr (p4 ==(1:Int))
 (jn (fun (yj1349:List PV→List PV→List PV→List PV→Int→Int→Bool→Prop) =>
 (∃ n97930201:Nat,yaN a0 a1 a2 a3 a4
 (fun yl1376 yl1377 yl1378 yl1379 _ _ _ _ _ _ _=>(yj1349 yl1376 yl1377 yl1378 yl1379 (0:Int) (0:Int) false))
 (fun yl1387 yl1388 yl1389 yl1390 yi1391 yi1392 yb1393=>(yj1349 yl1387 yl1388 yl1389 yl1390 yi1391 yi1392 yb1393))
 n97930201 p0 p1 p2 p3 p0 p1 p2 p3 (((List.length p0):Nat):Int) (0:Int)))
 (fun yl1342 yl1343 yl1344 yl1345 yi1346 yi1347 yb1348=>(jn (fun (yj1356:Bool→Prop) =>
 (cbr (!yb1348)
 (a1 yl1342 yl1343 yl1344 yl1345 (fun yb1357 =>
 (yj1356 yb1357)))
 (yj1356 false)))
 (fun yb1355=>(cbr yb1355
 (K (-1:Int) (-1:Int) true)
 (K yi1346 yi1347 yb1348))))))
 (cbr (p4 ==(2:Int))
 (jn (fun (yj1527:List PV→List PV→List PV→List PV→Int→Int→Bool→Prop) =>
 (∃ n97930201:Nat,yaO a0 a1 a2 a3 a4
 (fun yl1546 yl1547 yl1548 yl1549 yi1550 yi1551 yb1552=>(yj1527 yl1546 yl1547 yl1548 yl1549 yi1550 yi1551 yb1552))
 (fun yl1553 yl1554 yl1555 yl1556 _ _ _ _ _ _ _=>(yj1527 yl1553 yl1554 yl1555 yl1556 (0:Int) (0:Int) false))
 n97930201 p0 p1 p2 p3 p0 p1 p2 p3 (((List.length p0):Nat):Int) (0:Int)))
 (fun _ _ _ _ yi1524 yi1525 yb1526=>(K yi1524 yi1525 yb1526)))
 (cbr (p4 ==(4:Int))
 (jn (fun (yj1697:List PV→List PV→List PV→List PV→Int→Int→Bool→Prop) =>
 (∃ n97930201:Nat,yaP a0 a1 a2 a3 a4
 (fun yl1716 yl1717 yl1718 yl1719 yi1720 yi1721 yb1722=>(yj1697 yl1716 yl1717 yl1718 yl1719 yi1720 yi1721 yb1722))
 (fun yl1723 yl1724 yl1725 yl1726 _ _ _ _ _ _ _=>(yj1697 yl1723 yl1724 yl1725 yl1726 (0:Int) (0:Int) false))
 n97930201 p0 p1 p2 p3 p0 p1 p2 p3 (((List.length p0):Nat):Int) (0:Int)))
 (fun _ _ _ _ yi1694 yi1695 yb1696=>(K yi1694 yi1695 yb1696)))
 (cbr (p4 ==(8:Int))
 (jn (fun (yj1867:List PV→List PV→List PV→List PV→Int→Int→Bool→Prop) =>
 (∃ n97930201:Nat,yaQ a0 a1 a2 a3 a4
 (fun yl1886 yl1887 yl1888 yl1889 yi1890 yi1891 yb1892=>(yj1867 yl1886 yl1887 yl1888 yl1889 yi1890 yi1891 yb1892))
 (fun yl1893 yl1894 yl1895 yl1896 _ _ _ _ _ _ _=>(yj1867 yl1893 yl1894 yl1895 yl1896 (0:Int) (0:Int) false))
 n97930201 p0 p1 p2 p3 p0 p1 p2 p3 (((List.length p0):Nat):Int) (0:Int)))
 (fun _ _ _ _ yi1864 yi1865 yb1866=>(K yi1864 yi1865 yb1866)))
 (jn (fun (yj2113:List PV→List PV→List PV→List PV→Int→Int→Bool→Prop) =>
 (∃ n97930201:Nat,yaR a0 a1 a2 a3 a4
 (fun yl2132 yl2133 yl2134 yl2135 yi2136 yi2137 yb2138=>(yj2113 yl2132 yl2133 yl2134 yl2135 yi2136 yi2137 yb2138))
 (fun yl2139 yl2140 yl2141 yl2142 _ _ _ _ _ _ _=>(yj2113 yl2139 yl2140 yl2141 yl2142 (0:Int) (0:Int) false))
 n97930201 p0 p1 p2 p3 p0 p1 p2 p3 (((List.length p0):Nat):Int) (0:Int)))
 (fun _ _ _ _ yi2110 yi2111 yb2112=>(K yi2110 yi2111 yb2112)))))))
def yal (p0 p1 p2 p3:List PV) (p4:Int) (K:Int→Int→Bool→Prop):Prop:=ygN yah yac yae yaj yad p0 p1 p2 p3 p4 K
def yco (w:yav) (as:List PV) (K:PV→Prop):Prop :=
 match as with
 | [(.eptr [(.agg [(.data p0),(.data p1),(.data p2),(.data p3)])] 0 0),(.int .u8 p4)]=>w p0 p1 p2 p3 p4 (fun r0 r1 r2=>K (.tup [(.int .i64 r0),(.int .i64 r1),(.bool r2)]))
 | _=>False
def yj2 (as:List PV) (K:PV→Prop):Prop:=yco yal as K
def ycd (F:Frm) (H:Hp) (A0:List PV→List PV→List PV→List PV→List PV→List PV→List PV→List PV→Int→Int→Int→Int→Int→Prop) (A1:List PV→List PV→List PV→List PV→List PV→List PV→List PV→List PV→Int→Int→Int→Int→Int→Prop) (A2:List PV→List PV→List PV→List PV→List PV→List PV→List PV→List PV→Int→Int→Int→Int→Int→Prop) (A3:List PV→List PV→List PV→List PV→List PV→List PV→List PV→List PV→Int→Int→Int→Int→Int→Prop) (A4:List PV→List PV→List PV→List PV→List PV→List PV→List PV→List PV→Int→Int→Int→Int→Int→Prop):Prop :=
 match F,H with
 | [(0,.v (.eptr [(.agg [(.data l4),(.data l5),(.data l6),(.data l7)])] 0 0)),(1,.v (.fn (.func q0) [] [(.ptr 0 1 0 0)])),(7,.v (.int .i64 i8)),(13,.v (.int .i64 i9)),(14,.v (.int .i64 i10)),(21,.v (.int .i64 i11)),(22,.v (.int .i64 i12))],[⟨false,false,1,[(.eptr [(.agg [(.data l0),(.data l1),(.data l2),(.data l3)])] 0 0)]⟩]=>bif Nat.beq q0 ya2 then (A0 l0 l1 l2 l3 l4 l5 l6 l7 i8 i9 i10 i11 i12) else bif Nat.beq q0 ya3 then (A1 l0 l1 l2 l3 l4 l5 l6 l7 i8 i9 i10 i11 i12) else bif Nat.beq q0 ya4 then (A2 l0 l1 l2 l3 l4 l5 l6 l7 i8 i9 i10 i11 i12) else bif Nat.beq q0 ya5 then (A3 l0 l1 l2 l3 l4 l5 l6 l7 i8 i9 i10 i11 i12) else bif Nat.beq q0 ya6 then (A4 l0 l1 l2 l3 l4 l5 l6 l7 i8 i9 i10 i11 i12) else False
 | _,_=>False
def yce (F:Frm) (H:Hp) (A0:List PV→List PV→List PV→List PV→List PV→List PV→List PV→List PV→Int→Int→Prop) (A1:List PV→List PV→List PV→List PV→List PV→List PV→List PV→List PV→Int→Int→Prop) (A2:List PV→List PV→List PV→List PV→List PV→List PV→List PV→List PV→Int→Int→Prop) (A3:List PV→List PV→List PV→List PV→List PV→List PV→List PV→List PV→Int→Int→Prop) (A4:List PV→List PV→List PV→List PV→List PV→List PV→List PV→List PV→Int→Int→Prop):Prop :=
 match F,H with
 | [(0,.v (.eptr [(.agg [(.data l4),(.data l5),(.data l6),(.data l7)])] 0 0)),(1,.v (.fn (.func q0) [] [(.ptr 0 1 0 0)])),(13,.v (.int .i64 i8)),(14,.v (.int .i64 i9))],[⟨false,false,1,[(.eptr [(.agg [(.data l0),(.data l1),(.data l2),(.data l3)])] 0 0)]⟩]=>bif Nat.beq q0 ya2 then (A0 l0 l1 l2 l3 l4 l5 l6 l7 i8 i9) else bif Nat.beq q0 ya3 then (A1 l0 l1 l2 l3 l4 l5 l6 l7 i8 i9) else bif Nat.beq q0 ya4 then (A2 l0 l1 l2 l3 l4 l5 l6 l7 i8 i9) else bif Nat.beq q0 ya5 then (A3 l0 l1 l2 l3 l4 l5 l6 l7 i8 i9) else bif Nat.beq q0 ya6 then (A4 l0 l1 l2 l3 l4 l5 l6 l7 i8 i9) else False
 | _,_=>False
def ye1 (Q:Ex→Frm→Hp→Prop):List PV→List PV→List PV→List PV→List PV→List PV→List PV→List PV→Int→Int→Int→Int→Int→Bool→Prop:=(fun l0 l1 l2 l3 l4 l5 l6 l7 i8 i9 i10 i11 i12 b13=>Q (.exit 2) [(0,.v (.eptr [(.agg [(.data l4),(.data l5),(.data l6),(.data l7)])] 0 0)),(1,.v (.fn (.func ya2) [] [(.ptr 0 1 0 0)])),(7,.v (.int .i64 i8)),(13,.v (.int .i64 i9)),(14,.v (.int .i64 i10)),(21,.v (.int .i64 i11)),(22,.v (.int .i64 i12)),(23,.v (.bool b13))] [⟨false,false,1,([(.eptr [(.agg [(.data l0),(.data l1),(.data l2),(.data l3)])] 0 0)]:List PV)⟩])
def yas (Q:Ex→Frm→Hp→Prop):List PV→List PV→List PV→List PV→Int→Int→Bool→Prop:=(fun l0 l1 l2 l3 i4 i5 b6=>Q .ret [(4,.v (.int .i64 i4)),(5,.v (.int .i64 i5)),(6,.v (.bool b6))] [⟨false,false,1,([(.eptr [(.agg [(.data l0),(.data l1),(.data l2),(.data l3)])] 0 0)]:List PV)⟩])
def ye2 (Q:Ex→Frm→Hp→Prop):List PV→List PV→List PV→List PV→List PV→List PV→List PV→List PV→Int→Int→Int→Int→Int→Bool→Prop:=(fun l0 l1 l2 l3 l4 l5 l6 l7 i8 i9 i10 i11 i12 b13=>Q (.exit 2) [(0,.v (.eptr [(.agg [(.data l4),(.data l5),(.data l6),(.data l7)])] 0 0)),(1,.v (.fn (.func ya3) [] [(.ptr 0 1 0 0)])),(7,.v (.int .i64 i8)),(13,.v (.int .i64 i9)),(14,.v (.int .i64 i10)),(21,.v (.int .i64 i11)),(22,.v (.int .i64 i12)),(23,.v (.bool b13))] [⟨false,false,1,([(.eptr [(.agg [(.data l0),(.data l1),(.data l2),(.data l3)])] 0 0)]:List PV)⟩])
def ye3 (Q:Ex→Frm→Hp→Prop):List PV→List PV→List PV→List PV→List PV→List PV→List PV→List PV→Int→Int→Int→Int→Int→Bool→Prop:=(fun l0 l1 l2 l3 l4 l5 l6 l7 i8 i9 i10 i11 i12 b13=>Q (.exit 2) [(0,.v (.eptr [(.agg [(.data l4),(.data l5),(.data l6),(.data l7)])] 0 0)),(1,.v (.fn (.func ya4) [] [(.ptr 0 1 0 0)])),(7,.v (.int .i64 i8)),(13,.v (.int .i64 i9)),(14,.v (.int .i64 i10)),(21,.v (.int .i64 i11)),(22,.v (.int .i64 i12)),(23,.v (.bool b13))] [⟨false,false,1,([(.eptr [(.agg [(.data l0),(.data l1),(.data l2),(.data l3)])] 0 0)]:List PV)⟩])
def ye4 (Q:Ex→Frm→Hp→Prop):List PV→List PV→List PV→List PV→List PV→List PV→List PV→List PV→Int→Int→Int→Int→Int→Bool→Prop:=(fun l0 l1 l2 l3 l4 l5 l6 l7 i8 i9 i10 i11 i12 b13=>Q (.exit 2) [(0,.v (.eptr [(.agg [(.data l4),(.data l5),(.data l6),(.data l7)])] 0 0)),(1,.v (.fn (.func ya5) [] [(.ptr 0 1 0 0)])),(7,.v (.int .i64 i8)),(13,.v (.int .i64 i9)),(14,.v (.int .i64 i10)),(21,.v (.int .i64 i11)),(22,.v (.int .i64 i12)),(23,.v (.bool b13))] [⟨false,false,1,([(.eptr [(.agg [(.data l0),(.data l1),(.data l2),(.data l3)])] 0 0)]:List PV)⟩])
def ye5 (Q:Ex→Frm→Hp→Prop):List PV→List PV→List PV→List PV→List PV→List PV→List PV→List PV→Int→Int→Int→Int→Int→Bool→Prop:=(fun l0 l1 l2 l3 l4 l5 l6 l7 i8 i9 i10 i11 i12 b13=>Q (.exit 2) [(0,.v (.eptr [(.agg [(.data l4),(.data l5),(.data l6),(.data l7)])] 0 0)),(1,.v (.fn (.func ya6) [] [(.ptr 0 1 0 0)])),(7,.v (.int .i64 i8)),(13,.v (.int .i64 i9)),(14,.v (.int .i64 i10)),(21,.v (.int .i64 i11)),(22,.v (.int .i64 i12)),(23,.v (.bool b13))] [⟨false,false,1,([(.eptr [(.agg [(.data l0),(.data l1),(.data l2),(.data l3)])] 0 0)]:List PV)⟩])
def ye6 (Q:Ex→Frm→Hp→Prop):List PV→List PV→List PV→List PV→List PV→List PV→List PV→List PV→Int→Int→Bool→Prop:=(fun l0 l1 l2 l3 l4 l5 l6 l7 i8 i9 b10=>Q (.exit 0) [(0,.v (.eptr [(.agg [(.data l4),(.data l5),(.data l6),(.data l7)])] 0 0)),(1,.v (.fn (.func ya2) [] [(.ptr 0 1 0 0)])),(13,.v (.int .i64 i8)),(14,.v (.int .i64 i9)),(15,.v (.bool b10))] [⟨false,false,1,([(.eptr [(.agg [(.data l0),(.data l1),(.data l2),(.data l3)])] 0 0)]:List PV)⟩])
def yat (Q:Ex→Frm→Hp→Prop):List PV→List PV→List PV→List PV→Int→Int→Bool→Prop:=(fun l0 l1 l2 l3 i4 i5 b6=>Q .ret [(4,.v (.int .i64 i4)),(5,.v (.int .i64 i5)),(6,.v (.bool b6))] [⟨false,false,1,([(.eptr [(.agg [(.data l0),(.data l1),(.data l2),(.data l3)])] 0 0)]:List PV)⟩])
def ye7 (Q:Ex→Frm→Hp→Prop):List PV→List PV→List PV→List PV→List PV→List PV→List PV→List PV→Int→Int→Bool→Prop:=(fun l0 l1 l2 l3 l4 l5 l6 l7 i8 i9 b10=>Q (.exit 0) [(0,.v (.eptr [(.agg [(.data l4),(.data l5),(.data l6),(.data l7)])] 0 0)),(1,.v (.fn (.func ya3) [] [(.ptr 0 1 0 0)])),(13,.v (.int .i64 i8)),(14,.v (.int .i64 i9)),(15,.v (.bool b10))] [⟨false,false,1,([(.eptr [(.agg [(.data l0),(.data l1),(.data l2),(.data l3)])] 0 0)]:List PV)⟩])
def ye8 (Q:Ex→Frm→Hp→Prop):List PV→List PV→List PV→List PV→List PV→List PV→List PV→List PV→Int→Int→Bool→Prop:=(fun l0 l1 l2 l3 l4 l5 l6 l7 i8 i9 b10=>Q (.exit 0) [(0,.v (.eptr [(.agg [(.data l4),(.data l5),(.data l6),(.data l7)])] 0 0)),(1,.v (.fn (.func ya4) [] [(.ptr 0 1 0 0)])),(13,.v (.int .i64 i8)),(14,.v (.int .i64 i9)),(15,.v (.bool b10))] [⟨false,false,1,([(.eptr [(.agg [(.data l0),(.data l1),(.data l2),(.data l3)])] 0 0)]:List PV)⟩])
def ye9 (Q:Ex→Frm→Hp→Prop):List PV→List PV→List PV→List PV→List PV→List PV→List PV→List PV→Int→Int→Bool→Prop:=(fun l0 l1 l2 l3 l4 l5 l6 l7 i8 i9 b10=>Q (.exit 0) [(0,.v (.eptr [(.agg [(.data l4),(.data l5),(.data l6),(.data l7)])] 0 0)),(1,.v (.fn (.func ya5) [] [(.ptr 0 1 0 0)])),(13,.v (.int .i64 i8)),(14,.v (.int .i64 i9)),(15,.v (.bool b10))] [⟨false,false,1,([(.eptr [(.agg [(.data l0),(.data l1),(.data l2),(.data l3)])] 0 0)]:List PV)⟩])
def yfa (Q:Ex→Frm→Hp→Prop):List PV→List PV→List PV→List PV→List PV→List PV→List PV→List PV→Int→Int→Bool→Prop:=(fun l0 l1 l2 l3 l4 l5 l6 l7 i8 i9 b10=>Q (.exit 0) [(0,.v (.eptr [(.agg [(.data l4),(.data l5),(.data l6),(.data l7)])] 0 0)),(1,.v (.fn (.func ya6) [] [(.ptr 0 1 0 0)])),(13,.v (.int .i64 i8)),(14,.v (.int .i64 i9)),(15,.v (.bool b10))] [⟨false,false,1,([(.eptr [(.agg [(.data l0),(.data l1),(.data l2),(.data l3)])] 0 0)]:List PV)⟩])
def ybo (a0:ybc) (a1:yaG) (a2:yau) (a3:ybn) (a4:yao) (Q:Ex→Frm→Hp→Prop) (n:Nat) (F:Frm) (H:Hp):Prop:=ycd F H (fun l0 l1 l2 l3 l4 l5 l6 l7 i8 i9 i10 i11 i12=>yaI a0 a1 a2 a3 a4 (ye1 Q) (yas Q) n l0 l1 l2 l3 l4 l5 l6 l7 i8 i9 i10 i11 i12) (fun l0 l1 l2 l3 l4 l5 l6 l7 i8 i9 i10 i11 i12=>yaJ a0 a1 a2 a3 a4 (yas Q) (ye2 Q) n l0 l1 l2 l3 l4 l5 l6 l7 i8 i9 i10 i11 i12) (fun l0 l1 l2 l3 l4 l5 l6 l7 i8 i9 i10 i11 i12=>yaK a0 a1 a2 a3 a4 (yas Q) (ye3 Q) n l0 l1 l2 l3 l4 l5 l6 l7 i8 i9 i10 i11 i12) (fun l0 l1 l2 l3 l4 l5 l6 l7 i8 i9 i10 i11 i12=>yaL a0 a1 a2 a3 a4 (yas Q) (ye4 Q) n l0 l1 l2 l3 l4 l5 l6 l7 i8 i9 i10 i11 i12) (fun l0 l1 l2 l3 l4 l5 l6 l7 i8 i9 i10 i11 i12=>yaM a0 a1 a2 a3 a4 (yas Q) (ye5 Q) n l0 l1 l2 l3 l4 l5 l6 l7 i8 i9 i10 i11 i12)
def ybp (a0:ybc) (a1:yaG) (a2:yau) (a3:ybn) (a4:yao) (Q:Ex→Frm→Hp→Prop) (n:Nat) (F:Frm) (H:Hp):Prop:=yce F H (fun l0 l1 l2 l3 l4 l5 l6 l7 i8 i9=>yaN a0 a1 a2 a3 a4 (ye6 Q) (yat Q) n l0 l1 l2 l3 l4 l5 l6 l7 i8 i9) (fun l0 l1 l2 l3 l4 l5 l6 l7 i8 i9=>yaO a0 a1 a2 a3 a4 (yat Q) (ye7 Q) n l0 l1 l2 l3 l4 l5 l6 l7 i8 i9) (fun l0 l1 l2 l3 l4 l5 l6 l7 i8 i9=>yaP a0 a1 a2 a3 a4 (yat Q) (ye8 Q) n l0 l1 l2 l3 l4 l5 l6 l7 i8 i9) (fun l0 l1 l2 l3 l4 l5 l6 l7 i8 i9=>yaQ a0 a1 a2 a3 a4 (yat Q) (ye9 Q) n l0 l1 l2 l3 l4 l5 l6 l7 i8 i9) (fun l0 l1 l2 l3 l4 l5 l6 l7 i8 i9=>yaR a0 a1 a2 a3 a4 (yat Q) (yfa Q) n l0 l1 l2 l3 l4 l5 l6 l7 i8 i9)
def yaz (a0:ybc) (a1:yaG) (a2:yau) (a3:ybn) (a4:yao):LP:=fun id F H Q =>
 bif Nat.beq id 97930200 then ycd F H (fun l0 l1 l2 l3 l4 l5 l6 l7 i8 i9 i10 i11 i12=>∃ n:Nat,yaI a0 a1 a2 a3 a4 (ye1 Q) (yas Q) n l0 l1 l2 l3 l4 l5 l6 l7 i8 i9 i10 i11 i12) (fun l0 l1 l2 l3 l4 l5 l6 l7 i8 i9 i10 i11 i12=>∃ n:Nat,yaJ a0 a1 a2 a3 a4 (yas Q) (ye2 Q) n l0 l1 l2 l3 l4 l5 l6 l7 i8 i9 i10 i11 i12) (fun l0 l1 l2 l3 l4 l5 l6 l7 i8 i9 i10 i11 i12=>∃ n:Nat,yaK a0 a1 a2 a3 a4 (yas Q) (ye3 Q) n l0 l1 l2 l3 l4 l5 l6 l7 i8 i9 i10 i11 i12) (fun l0 l1 l2 l3 l4 l5 l6 l7 i8 i9 i10 i11 i12=>∃ n:Nat,yaL a0 a1 a2 a3 a4 (yas Q) (ye4 Q) n l0 l1 l2 l3 l4 l5 l6 l7 i8 i9 i10 i11 i12) (fun l0 l1 l2 l3 l4 l5 l6 l7 i8 i9 i10 i11 i12=>∃ n:Nat,yaM a0 a1 a2 a3 a4 (yas Q) (ye5 Q) n l0 l1 l2 l3 l4 l5 l6 l7 i8 i9 i10 i11 i12) else
 bif Nat.beq id 97930201 then yce F H (fun l0 l1 l2 l3 l4 l5 l6 l7 i8 i9=>∃ n:Nat,yaN a0 a1 a2 a3 a4 (ye6 Q) (yat Q) n l0 l1 l2 l3 l4 l5 l6 l7 i8 i9) (fun l0 l1 l2 l3 l4 l5 l6 l7 i8 i9=>∃ n:Nat,yaO a0 a1 a2 a3 a4 (yat Q) (ye7 Q) n l0 l1 l2 l3 l4 l5 l6 l7 i8 i9) (fun l0 l1 l2 l3 l4 l5 l6 l7 i8 i9=>∃ n:Nat,yaP a0 a1 a2 a3 a4 (yat Q) (ye8 Q) n l0 l1 l2 l3 l4 l5 l6 l7 i8 i9) (fun l0 l1 l2 l3 l4 l5 l6 l7 i8 i9=>∃ n:Nat,yaQ a0 a1 a2 a3 a4 (yat Q) (ye9 Q) n l0 l1 l2 l3 l4 l5 l6 l7 i8 i9) (fun l0 l1 l2 l3 l4 l5 l6 l7 i8 i9=>∃ n:Nat,yaR a0 a1 a2 a3 a4 (yat Q) (yfa Q) n l0 l1 l2 l3 l4 l5 l6 l7 i8 i9) else
 False
def ya0 (a0:ybc) (a1:yaG) (a2:yau) (a3:ybn) (a4:yao):SE:=⟨(E ef0),lookS [(ygf,yjK a0),(ycT,yfW a1),(ycQ,yd5 a2),(yhp,ykY a3),(ybi,ydn a4)],lookI [(ya2,yja),(ya3,yjb),(ya4,yjc),(ya5,yjd),(ya6,yje)],yaz a0 a1 a2 a3 a4⟩
def yj4 (a0:ybc) (a1:yaG) (a2:yau) (a3:ybn) (a4:yao):SE:=⟨(E ef0),lookS [(ygf,yjK a0),(ycT,yfW a1),(ycQ,yd5 a2),(yhp,ykY a3),(ybi,ydn a4)],lookI [(ycg,ytb),(ya2,yja),(ya3,yjb),(ya4,yjc),(ya5,yjd),(ya6,yje)],yaz a0 a1 a2 a3 a4⟩
theorem yjN:SEOk (ya0 yah yac yae yaj yad):=yam ⟨(ynO ef0 effG0),yiq,(yeY ef0 effG0),(yoF ef0 effG0),(ye0 ef0 effG0),trivial⟩ ⟨⟨by kernel_rfl,by kernel_rfl,rfl,fun as=>yab (by kernel_rfl) as,effG0.num _ (by kernel_rfl),(yag (by kernel_rfl))⟩,⟨by kernel_rfl,by kernel_rfl,rfl,fun as=>yab (by kernel_rfl) as,effG0.num _ (by kernel_rfl),(yag (by kernel_rfl))⟩,⟨by kernel_rfl,by kernel_rfl,rfl,fun as=>yab (by kernel_rfl) as,effG0.num _ (by kernel_rfl),(yag (by kernel_rfl))⟩,⟨by kernel_rfl,by kernel_rfl,rfl,fun as=>yab (by kernel_rfl) as,effG0.num _ (by kernel_rfl),(yag (by kernel_rfl))⟩,⟨by kernel_rfl,by kernel_rfl,rfl,fun as=>yab (by kernel_rfl) as,effG0.num _ (by kernel_rfl),(yag (by kernel_rfl))⟩,trivial⟩ effG0.ok
theorem ymJ (a0 a1 a2 a3 a4 Q n l0 l1 l2 l3 l4 l5 l6 l7 i8 i9 i10 i11 i12):WC (E ef0) (callW (ya0 a0 a1 a2 a3 a4) 10) (yaz a0 a1 a2 a3 a4) yeU [(0,.v (.eptr [(.agg [(.data l4),(.data l5),(.data l6),(.data l7)])] 0 0)),(1,.v (.fn (.func ya2) [] [(.ptr 0 1 0 0)])),(7,.v (.int .i64 i8)),(13,.v (.int .i64 i9)),(14,.v (.int .i64 i10)),(21,.v (.int .i64 i11)),(22,.v (.int .i64 i12))] [⟨false,false,1,([(.eptr [(.agg [(.data l0),(.data l1),(.data l2),(.data l3)])] 0 0)]:List PV)⟩] (fun x F' H'=>match x with | .norm=>ybo a0 a1 a2 a3 a4 Q n F' H' | .exit i=>Q (.exit i) F' H' | .ret=>Q .ret F' H')=yaI a0 a1 a2 a3 a4 (ye1 Q) (yas Q) (n+1) l0 l1 l2 l3 l4 l5 l6 l7 i8 i9 i10 i11 i12:=by kernel_rfl
theorem ymK (a0 a1 a2 a3 a4 Q n l0 l1 l2 l3 l4 l5 l6 l7 i8 i9 i10 i11 i12):WC (E ef0) (callW (ya0 a0 a1 a2 a3 a4) 10) (yaz a0 a1 a2 a3 a4) yeU [(0,.v (.eptr [(.agg [(.data l4),(.data l5),(.data l6),(.data l7)])] 0 0)),(1,.v (.fn (.func ya3) [] [(.ptr 0 1 0 0)])),(7,.v (.int .i64 i8)),(13,.v (.int .i64 i9)),(14,.v (.int .i64 i10)),(21,.v (.int .i64 i11)),(22,.v (.int .i64 i12))] [⟨false,false,1,([(.eptr [(.agg [(.data l0),(.data l1),(.data l2),(.data l3)])] 0 0)]:List PV)⟩] (fun x F' H'=>match x with | .norm=>ybo a0 a1 a2 a3 a4 Q n F' H' | .exit i=>Q (.exit i) F' H' | .ret=>Q .ret F' H')=yaJ a0 a1 a2 a3 a4 (yas Q) (ye2 Q) (n+1) l0 l1 l2 l3 l4 l5 l6 l7 i8 i9 i10 i11 i12:=by kernel_rfl
theorem ymL (a0 a1 a2 a3 a4 Q n l0 l1 l2 l3 l4 l5 l6 l7 i8 i9 i10 i11 i12):WC (E ef0) (callW (ya0 a0 a1 a2 a3 a4) 10) (yaz a0 a1 a2 a3 a4) yeU [(0,.v (.eptr [(.agg [(.data l4),(.data l5),(.data l6),(.data l7)])] 0 0)),(1,.v (.fn (.func ya4) [] [(.ptr 0 1 0 0)])),(7,.v (.int .i64 i8)),(13,.v (.int .i64 i9)),(14,.v (.int .i64 i10)),(21,.v (.int .i64 i11)),(22,.v (.int .i64 i12))] [⟨false,false,1,([(.eptr [(.agg [(.data l0),(.data l1),(.data l2),(.data l3)])] 0 0)]:List PV)⟩] (fun x F' H'=>match x with | .norm=>ybo a0 a1 a2 a3 a4 Q n F' H' | .exit i=>Q (.exit i) F' H' | .ret=>Q .ret F' H')=yaK a0 a1 a2 a3 a4 (yas Q) (ye3 Q) (n+1) l0 l1 l2 l3 l4 l5 l6 l7 i8 i9 i10 i11 i12:=by kernel_rfl
theorem ymM (a0 a1 a2 a3 a4 Q n l0 l1 l2 l3 l4 l5 l6 l7 i8 i9 i10 i11 i12):WC (E ef0) (callW (ya0 a0 a1 a2 a3 a4) 10) (yaz a0 a1 a2 a3 a4) yeU [(0,.v (.eptr [(.agg [(.data l4),(.data l5),(.data l6),(.data l7)])] 0 0)),(1,.v (.fn (.func ya5) [] [(.ptr 0 1 0 0)])),(7,.v (.int .i64 i8)),(13,.v (.int .i64 i9)),(14,.v (.int .i64 i10)),(21,.v (.int .i64 i11)),(22,.v (.int .i64 i12))] [⟨false,false,1,([(.eptr [(.agg [(.data l0),(.data l1),(.data l2),(.data l3)])] 0 0)]:List PV)⟩] (fun x F' H'=>match x with | .norm=>ybo a0 a1 a2 a3 a4 Q n F' H' | .exit i=>Q (.exit i) F' H' | .ret=>Q .ret F' H')=yaL a0 a1 a2 a3 a4 (yas Q) (ye4 Q) (n+1) l0 l1 l2 l3 l4 l5 l6 l7 i8 i9 i10 i11 i12:=by kernel_rfl
theorem ymN (a0 a1 a2 a3 a4 Q n l0 l1 l2 l3 l4 l5 l6 l7 i8 i9 i10 i11 i12):WC (E ef0) (callW (ya0 a0 a1 a2 a3 a4) 10) (yaz a0 a1 a2 a3 a4) yeU [(0,.v (.eptr [(.agg [(.data l4),(.data l5),(.data l6),(.data l7)])] 0 0)),(1,.v (.fn (.func ya6) [] [(.ptr 0 1 0 0)])),(7,.v (.int .i64 i8)),(13,.v (.int .i64 i9)),(14,.v (.int .i64 i10)),(21,.v (.int .i64 i11)),(22,.v (.int .i64 i12))] [⟨false,false,1,([(.eptr [(.agg [(.data l0),(.data l1),(.data l2),(.data l3)])] 0 0)]:List PV)⟩] (fun x F' H'=>match x with | .norm=>ybo a0 a1 a2 a3 a4 Q n F' H' | .exit i=>Q (.exit i) F' H' | .ret=>Q .ret F' H')=yaM a0 a1 a2 a3 a4 (yas Q) (ye5 Q) (n+1) l0 l1 l2 l3 l4 l5 l6 l7 i8 i9 i10 i11 i12:=by kernel_rfl
theorem yo5:LpOk (E ef0) (yaz yah yac yae yaj yad) yeU:=(yag (by kernel_rfl))
theorem yhB:∀ F H Q,yaz yah yac yae yaj yad 97930200 F H Q→LoopT (E ef0) yeU F H Q:=by
 intro F H Q h
 have go:=LoopT.intro (yaC (yjN) 10) (yo5) (ybo yah yac yae yaj yad Q) (by
   intro F H h
   unfold ybo ycd at h
   split at h
   · rcases ybE h with ⟨rfl,h⟩ | h
     · exact h
     rcases ybE h with ⟨rfl,h⟩ | h
     · exact h
     rcases ybE h with ⟨rfl,h⟩ | h
     · exact h
     rcases ybE h with ⟨rfl,h⟩ | h
     · exact h
     rcases ybE h with ⟨rfl,h⟩ | h
     · exact h
     exact h.elim
   · exact h) (by
   intro n F H h
   unfold ybo ycd at h
   split at h
   · rcases ybE h with ⟨rfl,h⟩ | h
     · exact (ymJ ..).mpr h
     rcases ybE h with ⟨rfl,h⟩ | h
     · exact (ymK ..).mpr h
     rcases ybE h with ⟨rfl,h⟩ | h
     · exact (ymL ..).mpr h
     rcases ybE h with ⟨rfl,h⟩ | h
     · exact (ymM ..).mpr h
     rcases ybE h with ⟨rfl,h⟩ | h
     · exact (ymN ..).mpr h
     exact h.elim
   · exact h.elim)
 have h:ycd F H _ _ _ _ _:=h
 unfold ycd at h
 split at h
 · rcases ybE h with ⟨rfl,h⟩ | h
   · obtain ⟨n,h⟩:=h;exact go n _ _ h
   rcases ybE h with ⟨rfl,h⟩ | h
   · obtain ⟨n,h⟩:=h;exact go n _ _ h
   rcases ybE h with ⟨rfl,h⟩ | h
   · obtain ⟨n,h⟩:=h;exact go n _ _ h
   rcases ybE h with ⟨rfl,h⟩ | h
   · obtain ⟨n,h⟩:=h;exact go n _ _ h
   rcases ybE h with ⟨rfl,h⟩ | h
   · obtain ⟨n,h⟩:=h;exact go n _ _ h
   exact h.elim
 · exact h.elim
theorem ymO (a0 a1 a2 a3 a4 Q n l0 l1 l2 l3 l4 l5 l6 l7 i8 i9):WC (E ef0) (callW (ya0 a0 a1 a2 a3 a4) 10) (yaz a0 a1 a2 a3 a4) yfI [(0,.v (.eptr [(.agg [(.data l4),(.data l5),(.data l6),(.data l7)])] 0 0)),(1,.v (.fn (.func ya2) [] [(.ptr 0 1 0 0)])),(13,.v (.int .i64 i8)),(14,.v (.int .i64 i9))] [⟨false,false,1,([(.eptr [(.agg [(.data l0),(.data l1),(.data l2),(.data l3)])] 0 0)]:List PV)⟩] (fun x F' H'=>match x with | .norm=>ybp a0 a1 a2 a3 a4 Q n F' H' | .exit i=>Q (.exit i) F' H' | .ret=>Q .ret F' H')=yaN a0 a1 a2 a3 a4 (ye6 Q) (yat Q) (n+1) l0 l1 l2 l3 l4 l5 l6 l7 i8 i9:=by kernel_rfl
theorem ymP (a0 a1 a2 a3 a4 Q n l0 l1 l2 l3 l4 l5 l6 l7 i8 i9):WC (E ef0) (callW (ya0 a0 a1 a2 a3 a4) 10) (yaz a0 a1 a2 a3 a4) yfI [(0,.v (.eptr [(.agg [(.data l4),(.data l5),(.data l6),(.data l7)])] 0 0)),(1,.v (.fn (.func ya3) [] [(.ptr 0 1 0 0)])),(13,.v (.int .i64 i8)),(14,.v (.int .i64 i9))] [⟨false,false,1,([(.eptr [(.agg [(.data l0),(.data l1),(.data l2),(.data l3)])] 0 0)]:List PV)⟩] (fun x F' H'=>match x with | .norm=>ybp a0 a1 a2 a3 a4 Q n F' H' | .exit i=>Q (.exit i) F' H' | .ret=>Q .ret F' H')=yaO a0 a1 a2 a3 a4 (yat Q) (ye7 Q) (n+1) l0 l1 l2 l3 l4 l5 l6 l7 i8 i9:=by kernel_rfl
theorem ymQ (a0 a1 a2 a3 a4 Q n l0 l1 l2 l3 l4 l5 l6 l7 i8 i9):WC (E ef0) (callW (ya0 a0 a1 a2 a3 a4) 10) (yaz a0 a1 a2 a3 a4) yfI [(0,.v (.eptr [(.agg [(.data l4),(.data l5),(.data l6),(.data l7)])] 0 0)),(1,.v (.fn (.func ya4) [] [(.ptr 0 1 0 0)])),(13,.v (.int .i64 i8)),(14,.v (.int .i64 i9))] [⟨false,false,1,([(.eptr [(.agg [(.data l0),(.data l1),(.data l2),(.data l3)])] 0 0)]:List PV)⟩] (fun x F' H'=>match x with | .norm=>ybp a0 a1 a2 a3 a4 Q n F' H' | .exit i=>Q (.exit i) F' H' | .ret=>Q .ret F' H')=yaP a0 a1 a2 a3 a4 (yat Q) (ye8 Q) (n+1) l0 l1 l2 l3 l4 l5 l6 l7 i8 i9:=by kernel_rfl
theorem ymR (a0 a1 a2 a3 a4 Q n l0 l1 l2 l3 l4 l5 l6 l7 i8 i9):WC (E ef0) (callW (ya0 a0 a1 a2 a3 a4) 10) (yaz a0 a1 a2 a3 a4) yfI [(0,.v (.eptr [(.agg [(.data l4),(.data l5),(.data l6),(.data l7)])] 0 0)),(1,.v (.fn (.func ya5) [] [(.ptr 0 1 0 0)])),(13,.v (.int .i64 i8)),(14,.v (.int .i64 i9))] [⟨false,false,1,([(.eptr [(.agg [(.data l0),(.data l1),(.data l2),(.data l3)])] 0 0)]:List PV)⟩] (fun x F' H'=>match x with | .norm=>ybp a0 a1 a2 a3 a4 Q n F' H' | .exit i=>Q (.exit i) F' H' | .ret=>Q .ret F' H')=yaQ a0 a1 a2 a3 a4 (yat Q) (ye9 Q) (n+1) l0 l1 l2 l3 l4 l5 l6 l7 i8 i9:=by kernel_rfl
theorem ymS (a0 a1 a2 a3 a4 Q n l0 l1 l2 l3 l4 l5 l6 l7 i8 i9):WC (E ef0) (callW (ya0 a0 a1 a2 a3 a4) 10) (yaz a0 a1 a2 a3 a4) yfI [(0,.v (.eptr [(.agg [(.data l4),(.data l5),(.data l6),(.data l7)])] 0 0)),(1,.v (.fn (.func ya6) [] [(.ptr 0 1 0 0)])),(13,.v (.int .i64 i8)),(14,.v (.int .i64 i9))] [⟨false,false,1,([(.eptr [(.agg [(.data l0),(.data l1),(.data l2),(.data l3)])] 0 0)]:List PV)⟩] (fun x F' H'=>match x with | .norm=>ybp a0 a1 a2 a3 a4 Q n F' H' | .exit i=>Q (.exit i) F' H' | .ret=>Q .ret F' H')=yaR a0 a1 a2 a3 a4 (yat Q) (yfa Q) (n+1) l0 l1 l2 l3 l4 l5 l6 l7 i8 i9:=by kernel_rfl
theorem yo6:LpOk (E ef0) (yaz yah yac yae yaj yad) yfI:=(ya8 (l:=[(97930200,yeU)]) ⟨yhB,trivial⟩ (by kernel_rfl))
theorem yn6:∀ F H Q,yaz yah yac yae yaj yad 97930201 F H Q→LoopT (E ef0) yfI F H Q:=by
 intro F H Q h
 have go:=LoopT.intro (yaC (yjN) 10) (yo6) (ybp yah yac yae yaj yad Q) (by
   intro F H h
   unfold ybp yce at h
   split at h
   · rcases ybE h with ⟨rfl,h⟩ | h
     · exact h
     rcases ybE h with ⟨rfl,h⟩ | h
     · exact h
     rcases ybE h with ⟨rfl,h⟩ | h
     · exact h
     rcases ybE h with ⟨rfl,h⟩ | h
     · exact h
     rcases ybE h with ⟨rfl,h⟩ | h
     · exact h
     exact h.elim
   · exact h) (by
   intro n F H h
   unfold ybp yce at h
   split at h
   · rcases ybE h with ⟨rfl,h⟩ | h
     · exact (ymO ..).mpr h
     rcases ybE h with ⟨rfl,h⟩ | h
     · exact (ymP ..).mpr h
     rcases ybE h with ⟨rfl,h⟩ | h
     · exact (ymQ ..).mpr h
     rcases ybE h with ⟨rfl,h⟩ | h
     · exact (ymR ..).mpr h
     rcases ybE h with ⟨rfl,h⟩ | h
     · exact (ymS ..).mpr h
     exact h.elim
   · exact h.elim)
 have h:yce F H _ _ _ _ _:=h
 unfold yce at h
 split at h
 · rcases ybE h with ⟨rfl,h⟩ | h
   · obtain ⟨n,h⟩:=h;exact go n _ _ h
   rcases ybE h with ⟨rfl,h⟩ | h
   · obtain ⟨n,h⟩:=h;exact go n _ _ h
   rcases ybE h with ⟨rfl,h⟩ | h
   · obtain ⟨n,h⟩:=h;exact go n _ _ h
   rcases ybE h with ⟨rfl,h⟩ | h
   · obtain ⟨n,h⟩:=h;exact go n _ _ h
   rcases ybE h with ⟨rfl,h⟩ | h
   · obtain ⟨n,h⟩:=h;exact go n _ _ h
   exact h.elim
 · exact h.elim
theorem yqN:SEOk (yj4 yah yac yae yaj yad):=yam ⟨(ynO ef0 effG0),yiq,(yeY ef0 effG0),(yoF ef0 effG0),(ye0 ef0 effG0),trivial⟩ ⟨⟨by kernel_rfl,by kernel_rfl,rfl,fun as=>yab (by kernel_rfl) as,effG0.num _ (by kernel_rfl),(ya8 (l:=[(97930200,yeU),(97930201,yfI)]) ⟨yhB,yn6,trivial⟩ (by kernel_rfl))⟩,⟨by kernel_rfl,by kernel_rfl,rfl,fun as=>yab (by kernel_rfl) as,effG0.num _ (by kernel_rfl),(yag (by kernel_rfl))⟩,⟨by kernel_rfl,by kernel_rfl,rfl,fun as=>yab (by kernel_rfl) as,effG0.num _ (by kernel_rfl),(yag (by kernel_rfl))⟩,⟨by kernel_rfl,by kernel_rfl,rfl,fun as=>yab (by kernel_rfl) as,effG0.num _ (by kernel_rfl),(yag (by kernel_rfl))⟩,⟨by kernel_rfl,by kernel_rfl,rfl,fun as=>yab (by kernel_rfl) as,effG0.num _ (by kernel_rfl),(yag (by kernel_rfl))⟩,⟨by kernel_rfl,by kernel_rfl,rfl,fun as=>yab (by kernel_rfl) as,effG0.num _ (by kernel_rfl),(yag (by kernel_rfl))⟩,trivial⟩ effG0.ok
theorem yrt (a0 a1 a2 a3 a4 p0 p1 p2 p3 p4 K):WP (yj4 a0 a1 a2 a3 a4) 11 yrE [(.eptr [(.agg [(.data p0),(.data p1),(.data p2),(.data p3)])] 0 0),(.int .u8 p4)] K=ygN a0 a1 a2 a3 a4 p0 p1 p2 p3 p4 (fun r0 r1 r2=>K (.tup [(.int .i64 r0),(.int .i64 r1),(.bool r2)])):=by kernel_rfl
theorem ydd:OkF (E ef0) yj2 ybb:=by
 intro as K h
 unfold yj2 yco at h
 split at h
 · exact WP_ok (yqN) (yag (by kernel_rfl)) (by kernel_rfl) (by kernel_rfl) (fun _=>yab (by kernel_rfl) _) (effG0.num _ (by kernel_rfl)) ((yrt ..).mpr h)
 · exact h.elim
abbrev ydX:Type:=List PV→List PV→(Int→List PV→Int→Prop)→Prop
def ycJ (a0:yaW) (a1:yau) (a2:yap) (a3:ybr) (a4:yav) (x20643600_2:List PV→List PV→List PV→List PV→Int→Int→Bool→Prop) (x20643600_3:List PV→List PV→List PV→List PV→Int→Prop):Nat→List PV→List PV→List PV→List PV→Int→Int→Prop
 | 0,_,_,_,_,_,_=>False
 | n20643600+1,l0,l1,l2,l3,i6,i7 =>
 (cbr (decide (i7<i6))
 (asr (decide ((0:Int)≤i7))
 (asr (decide (i7<(((List.length l1):Nat):Int)))
 (lt (List.getD l1 (i7.toNat) .nils) (fun yr80 =>
 (asr (conf (.agg [.i .i64,.d,.d]) yr80)
 (a1 (intOfV (cellAt yr80 0)) (datOfV (cellAt yr80 1)) (datOfV (cellAt yr80 2)) (fun yi81 _ =>
 (asr (decide ((0:Int)≤i7))
 (asr (decide (i7<(((List.length l3):Nat):Int)))
 (lt (List.getD l3 (i7.toNat) .nils) (fun yr90 =>
 (asr (conf (.one (.d)) yr90)
 (asr (decide ((0:Int)≤i7))
 (asr (decide (i7<(((List.length (datOfV yr90)):Nat):Int)))
 (lt (List.getD (datOfV yr90) (i7.toNat) .nils) (fun yr91 =>
 (asr (conf (.agg [.i .i64,.i .i64]) yr91)
 (a2 yi81 (fun yi92 yi93 =>
 (a3 (intOfV (cellAt yr91 0)) (intOfV (cellAt yr91 1)) yi92 yi93 (fun yi94 yi95 yi96 =>
 (cbr (yi96 !=(0:Int))
 (x20643600_3 l0 l1 l2 l3 yi96)
 (asr (decide ((List.length l0)=(List.length l0)))
 (asr (decide ((0+(List.length l0))≤(List.length l0)))
 (asr (!(decide (((0+(List.length l0))+1)≤(List.length l0))))
 (asr (decide ((List.length l0)=(List.length l0)))
 (asr (decide ((((List.length l0)+1)+64)*(16+1)≤room))
 (lt (IntKind.i64.wrap (i7+(1:Int))) (fun yi97 =>
 (asr (decide ((List.length (l0++([(.agg [(.int .i64 yi94),(.int .i64 yi95)])]:List PV)))=List.length (l0++([(.agg [(.int .i64 yi94),(.int .i64 yi95)])]:List PV)))&&decide ((List.length (l0++([(.agg [(.int .i64 yi94),(.int .i64 yi95)])]:List PV)))=List.length (l0++([(.agg [(.int .i64 yi94),(.int .i64 yi95)])]:List PV))))
 (ycJ a0 a1 a2 a3 a4 x20643600_2 x20643600_3 n20643600 (l0++([(.agg [(.int .i64 yi94),(.int .i64 yi95)])]:List PV)) l1 l2 l3 i6 yi97)))))))))))))))))))))))))))))))
 (x20643600_2 l0 l1 l2 l3 i6 i7 false))
def yee (a0:yaW) (a1:yau) (a2:yap) (a3:ybr) (a4:yav) (x20643600_0:List PV→List PV→List PV→Int→Int→Bool→Prop) (x20643600_1:List PV→List PV→List PV→Int→Prop) (x20643600_2:List PV→List PV→List PV→List PV→Int→Int→Bool→Prop) (x20643600_3:List PV→List PV→List PV→List PV→Int→Prop):Nat→List PV→List PV→List PV→Int→Int→Prop
 | 0,_,_,_,_,_=>False
 | n20643600+1,l0,l1,l2,i3,i4 =>
 (cbr (decide (i4<i3))
 (asr (decide ((0:Int)≤i4))
 (asr (decide (i4<(((List.length l0):Nat):Int)))
 (lt (List.getD l0 (i4.toNat) .nils) (fun yr39 =>
 (asr (conf (.agg [.i .i64,.d,.d]) yr39)
 (a1 (intOfV (cellAt yr39 0)) (datOfV (cellAt yr39 1)) (datOfV (cellAt yr39 2)) (fun yi40 _ =>
 (asr (decide ((0:Int)≤i4))
 (asr (decide (i4<(((List.length l2):Nat):Int)))
 (lt (List.getD l2 (i4.toNat) .nils) (fun yr49 =>
 (asr (conf (.one (.d)) yr49)
 (asr (decide ((0:Int)≤i4))
 (asr (decide (i4<(((List.length (datOfV yr49)):Nat):Int)))
 (lt (List.getD (datOfV yr49) (i4.toNat) .nils) (fun yr50 =>
 (asr (conf (.agg [.i .i64,.i .i64]) yr50)
 (a2 yi40 (fun yi51 yi52 =>
 (a3 (intOfV (cellAt yr50 0)) (intOfV (cellAt yr50 1)) yi51 yi52 (fun yi53 yi54 yi55 =>
 (cbr (yi55 !=(0:Int))
 (x20643600_1 l0 l1 l2 yi55)
 (lt (IntKind.i64.wrap (i4+(1:Int))) (fun yi56 =>
 (asr (decide (1=List.length ([(.agg [(.int .i64 yi53),(.int .i64 yi54)])]:List PV))&&decide (1=List.length ([(.agg [(.int .i64 yi53),(.int .i64 yi54)])]:List PV)))
 (ycJ a0 a1 a2 a3 a4 x20643600_2 x20643600_3 n20643600 ([(.agg [(.int .i64 yi53),(.int .i64 yi54)])]:List PV) l0 l1 l2 i3 yi56))))))))))))))))))))))))))
 (x20643600_0 l0 l1 l2 i3 i4 false))
def yfr (a0:yaW) (a1:yau) (a2:yap) (a3:ybr) (a4:yav) (x65264200_0:List PV→List PV→List PV→Int→Int→List PV→Int→Bool→Prop):Nat→List PV→List PV→List PV→Int→Int→List PV→Int→Prop
 | 0,_,_,_,_,_,_,_=>False
 | n65264200+1,l0,l1,l2,i3,i4,l5,i6 =>
 (cbr (decide (i6<(5:Int)))
 (jn (fun (yj275:Int→Prop) =>
 (asr (!(decide (i6<(0:Int))))
 (lt (IntKind.u8.wrap ((1:Int)*2 ^ (min i6.toNat IntKind.u8.bits))) (fun yi281 =>
 (a4 l0 l1 l2 ([]:List PV) yi281 (fun _ _ yb284 =>
 (cbr (!yb284)
 (asr (!(decide (i6<(0:Int))))
 (lt (IntKind.u8.wrap ((1:Int)*2 ^ (min i6.toNat IntKind.u8.bits))) (fun yi285 =>
 (lt (IntKind.u8.wrap (BitVec.ofInt IntKind.u8.bits i4|||BitVec.ofInt IntKind.u8.bits yi285).toNat) (fun yi286 =>
 (yj275 yi286))))))
 (yj275 i4))))))))
 (fun yi274=>(lt (IntKind.i64.wrap (i6+(1:Int))) (fun yi276 =>
 (yfr a0 a1 a2 a3 a4 x65264200_0 n65264200 l0 l1 l2 i3 yi274 l5 yi276)))))
 (x65264200_0 l0 l1 l2 i3 i4 l5 i6 false))
def ybH (a0:yaW) (a1:yau) (a2:yap) (a3:ybr) (a4:yav) (x65264200_1:List PV→List PV→List PV→List PV→Int→Int→List PV→Int→Bool→Prop):Nat→List PV→List PV→List PV→List PV→Int→Int→List PV→Int→Prop
 | 0,_,_,_,_,_,_,_,_=>False
 | n65264200+1,l0,l1,l2,l3,i6,i7,l8,i9 =>
 (cbr (decide (i9<(5:Int)))
 (jn (fun (yj320:Int→Prop) =>
 (asr (!(decide (i9<(0:Int))))
 (lt (IntKind.u8.wrap ((1:Int)*2 ^ (min i9.toNat IntKind.u8.bits))) (fun yi326 =>
 (asr (decide ((List.length l0)=(List.length l0)))
 (asr (decide ((0+(List.length l0))≤(List.length l0)))
 (a4 l1 l2 l3 (List.take (List.length l0) l0) yi326 (fun _ _ yb329 =>
 (cbr (!yb329)
 (asr (!(decide (i9<(0:Int))))
 (lt (IntKind.u8.wrap ((1:Int)*2 ^ (min i9.toNat IntKind.u8.bits))) (fun yi330 =>
 (lt (IntKind.u8.wrap (BitVec.ofInt IntKind.u8.bits i7|||BitVec.ofInt IntKind.u8.bits yi330).toNat) (fun yi331 =>
 (yj320 yi331))))))
 (yj320 i7))))))))))
 (fun yi319=>(lt (IntKind.i64.wrap (i9+(1:Int))) (fun yi321 =>
 (asr (decide ((List.length l0)=List.length l0)&&decide ((List.length l0)=List.length l0))
 (ybH a0 a1 a2 a3 a4 x65264200_1 n65264200 l0 l1 l2 l3 i6 yi319 l8 yi321))))))
 (x65264200_1 l0 l1 l2 l3 i6 i7 l8 i9 false))
def ygD (a0:yaW) (a1:yau) (a2:yap) (a3:ybr) (a4:yav) (p0 p1:List PV) (K:Int→List PV→Int→Prop):Prop :=
 (a0 p0 p1 (fun yl14 yi15 =>
 (cbr (yi15 !=(0:Int))
 (cbr (yi15 ==(0:Int))
 False
 (cbr (yi15 !=(0:Int))
 (K (0:Int) ([]:List PV) yi15)
 False))
 (jn (fun (yj263:List PV→List PV→List PV→Int→Prop) =>
 (jn (fun (yj308:List PV→List PV→List PV→List PV→Int→Prop) =>
 (∃ n20643600:Nat,yee a0 a1 a2 a3 a4
 (fun yl372 yl373 yl374 _ _ _=>(yj263 yl372 yl373 yl374 (0:Int)))
 (fun yl378 yl379 yl380 yi381=>(yj263 yl378 yl379 yl380 yi381))
 (fun yl382 yl383 yl384 yl385 _ _ _=>(yj308 yl382 yl383 yl384 yl385 (0:Int)))
 (fun yl389 yl390 yl391 yl392 yi393=>(yj308 yl389 yl390 yl391 yl392 yi393))
 n20643600 p0 p1 yl14 (((List.length p0):Nat):Int) (0:Int)))
 (fun yl303 yl304 yl305 yl306 yi307=>(cbr (yi307 !=(0:Int))
 (K (0:Int) ([]:List PV) yi307)
 (asr (decide ((List.length yl303)=List.length yl303)&&decide ((List.length yl303)=List.length yl303))
 (∃ n65264200:Nat,ybH a0 a1 a2 a3 a4
 (fun _ _ _ _ _ yi346 yl347 _ _=>(K yi346 yl347 (0:Int)))
 n65264200 yl303 yl304 yl305 yl306 (0:Int) (0:Int) yl306 (0:Int)))))))
 (fun yl259 yl260 yl261 yi262=>(cbr (yi262 !=(0:Int))
 (K (0:Int) ([]:List PV) yi262)
 (∃ n65264200:Nat,yfr a0 a1 a2 a3 a4
 (fun _ _ _ _ yi299 yl300 _ _=>(K yi299 yl300 (0:Int)))
 n65264200 yl259 yl260 yl261 (0:Int) (0:Int) yl261 (0:Int))))))))
def ya9 (p0 p1:List PV) (K:Int→List PV→Int→Prop):Prop:=ygD yaq yae yak yaS yal p0 p1 K
def ylh (w:ydX) (as:List PV) (K:PV→Prop):Prop :=
 match as with
 | [(.data p0),(.agg [(.data p1)])]=>w p0 p1 (fun r0 r1 r2=>K (.tup [(.agg [(.int .u8 r0),(.data r1)]),(.int .i64 r2)]))
 | _=>False
def yuh (as:List PV) (K:PV→Prop):Prop:=ylh ya9 as K
def yfs (F:Frm) (H:Hp) (A0:List PV→List PV→List PV→Int→Int→Prop) (A1:List PV→List PV→List PV→List PV→Int→Int→Prop):Prop :=
 match F,H with
 | [(0,.v (.ptr 0 1 0 0)),(12,.v (.int .i64 i3)),(13,.v (.int .i64 i4))],[⟨false,false,4,[(.agg [(.data l0),(.data l1),(.data l2),.nils])]⟩]=>(A0 l0 l1 l2 i3 i4)
 | [(0,.v (.ptr 0 1 0 0)),(12,.v (.int .i64 i6)),(13,.v (.int .i64 i7))],[⟨false,false,4,[(.agg [(.data l1),(.data l2),(.data l3),(.own 1 0 t4 t5 none)])]⟩,⟨false,true,2,l0⟩]=>asr (decide (t4=List.length l0)&&decide (t5=List.length l0)) (A1 l0 l1 l2 l3 i6 i7)
 | _,_=>False
def yft (F:Frm) (H:Hp) (A0:List PV→List PV→List PV→Int→Int→List PV→Int→Prop) (A1:List PV→List PV→List PV→List PV→Int→Int→List PV→Int→Prop):Prop :=
 match F,H with
 | [(4,.box (.agg [(.int .u8 i3),.nils])),(6,.v (.ptr 0 1 0 0)),(8,.box (.agg [(.int .u8 i4),(.data l5)])),(32,.v (.int .i64 i6))],[⟨false,false,4,[(.agg [(.data l0),(.data l1),(.data l2),.nils])]⟩]=>(A0 l0 l1 l2 i3 i4 l5 i6)
 | [(4,.box (.agg [(.int .u8 i6),.nils])),(6,.v (.ptr 0 1 0 0)),(8,.box (.agg [(.int .u8 i7),(.data l8)])),(32,.v (.int .i64 i9))],[⟨false,false,4,[(.agg [(.data l1),(.data l2),(.data l3),(.own 1 0 t4 t5 none)])]⟩,⟨false,true,2,l0⟩]=>asr (decide (t4=List.length l0)&&decide (t5=List.length l0)) (A1 l0 l1 l2 l3 i6 i7 l8 i9)
 | _,_=>False
def ykH (Q:Ex→Frm→Hp→Prop):List PV→List PV→List PV→Int→Int→Bool→Prop:=(fun l0 l1 l2 i3 i4 b5=>Q (.exit 0) [(0,.v (.ptr 0 1 0 0)),(12,.v (.int .i64 i3)),(13,.v (.int .i64 i4)),(14,.v (.bool b5))] [⟨false,false,4,([(.agg [(.data l0),(.data l1),(.data l2),.nils])]:List PV)⟩])
def ykI (Q:Ex→Frm→Hp→Prop):List PV→List PV→List PV→Int→Prop:=(fun l0 l1 l2 i3=>Q .ret [(2,.v (.int .i64 i3))] [⟨false,false,4,([(.agg [(.data l0),(.data l1),(.data l2),.nils])]:List PV)⟩])
def yef (Q:Ex→Frm→Hp→Prop):List PV→List PV→List PV→List PV→Int→Int→Bool→Prop:=(fun l0 l1 l2 l3 i6 i7 b8=>Q (.exit 0) [(0,.v (.ptr 0 1 0 0)),(12,.v (.int .i64 i6)),(13,.v (.int .i64 i7)),(14,.v (.bool b8))] [⟨false,false,4,([(.agg [(.data l1),(.data l2),(.data l3),(.own 1 0 (List.length l0) (List.length l0) none)])]:List PV)⟩,⟨false,true,2,l0⟩])
def yeg (Q:Ex→Frm→Hp→Prop):List PV→List PV→List PV→List PV→Int→Prop:=(fun l0 l1 l2 l3 i6=>Q .ret [(2,.v (.int .i64 i6))] [⟨false,false,4,([(.agg [(.data l1),(.data l2),(.data l3),(.own 1 0 (List.length l0) (List.length l0) none)])]:List PV)⟩,⟨false,true,2,l0⟩])
def ykJ (Q:Ex→Frm→Hp→Prop):List PV→List PV→List PV→Int→Int→List PV→Int→Bool→Prop:=(fun l0 l1 l2 i3 i4 l5 i6 b7=>Q (.exit 0) [(4,.box (.agg [(.int .u8 i3),.nils])),(6,.v (.ptr 0 1 0 0)),(8,.box (.agg [(.int .u8 i4),(.data l5)])),(32,.v (.int .i64 i6)),(33,.v (.bool b7))] [⟨false,false,4,([(.agg [(.data l0),(.data l1),(.data l2),.nils])]:List PV)⟩])
def ykK (Q:Ex→Frm→Hp→Prop):List PV→List PV→List PV→List PV→Int→Int→List PV→Int→Bool→Prop:=(fun l0 l1 l2 l3 i6 i7 l8 i9 b10=>Q (.exit 0) [(4,.box (.agg [(.int .u8 i6),.nils])),(6,.v (.ptr 0 1 0 0)),(8,.box (.agg [(.int .u8 i7),(.data l8)])),(32,.v (.int .i64 i9)),(33,.v (.bool b10))] [⟨false,false,4,([(.agg [(.data l1),(.data l2),(.data l3),(.own 1 0 (List.length l0) (List.length l0) none)])]:List PV)⟩,⟨false,true,2,l0⟩])
def yhj (a0:yaW) (a1:yau) (a2:yap) (a3:ybr) (a4:yav) (Q:Ex→Frm→Hp→Prop) (n:Nat) (F:Frm) (H:Hp):Prop:=yfs F H (fun l0 l1 l2 i3 i4=>yee a0 a1 a2 a3 a4 (ykH Q) (ykI Q) (yef Q) (yeg Q) n l0 l1 l2 i3 i4) (fun l0 l1 l2 l3 i6 i7=>ycJ a0 a1 a2 a3 a4 (yef Q) (yeg Q) n l0 l1 l2 l3 i6 i7)
def yhk (a0:yaW) (a1:yau) (a2:yap) (a3:ybr) (a4:yav) (Q:Ex→Frm→Hp→Prop) (n:Nat) (F:Frm) (H:Hp):Prop:=yft F H (fun l0 l1 l2 i3 i4 l5 i6=>yfr a0 a1 a2 a3 a4 (ykJ Q) n l0 l1 l2 i3 i4 l5 i6) (fun l0 l1 l2 l3 i6 i7 l8 i9=>ybH a0 a1 a2 a3 a4 (ykK Q) n l0 l1 l2 l3 i6 i7 l8 i9)
def ycO (a0:yaW) (a1:yau) (a2:yap) (a3:ybr) (a4:yav):LP:=fun id F H Q =>
 bif Nat.beq id 20643600 then yfs F H (fun l0 l1 l2 i3 i4=>∃ n:Nat,yee a0 a1 a2 a3 a4 (ykH Q) (ykI Q) (yef Q) (yeg Q) n l0 l1 l2 i3 i4) (fun l0 l1 l2 l3 i6 i7=>∃ n:Nat,ycJ a0 a1 a2 a3 a4 (yef Q) (yeg Q) n l0 l1 l2 l3 i6 i7) else
 bif Nat.beq id 65264200 then yft F H (fun l0 l1 l2 i3 i4 l5 i6=>∃ n:Nat,yfr a0 a1 a2 a3 a4 (ykJ Q) n l0 l1 l2 i3 i4 l5 i6) (fun l0 l1 l2 l3 i6 i7 l8 i9=>∃ n:Nat,ybH a0 a1 a2 a3 a4 (ykK Q) n l0 l1 l2 l3 i6 i7 l8 i9) else
 False
def yh0 (a0:yaW) (a1:yau) (a2:yap) (a3:ybr) (a4:yav):SE:=⟨(E ef0),lookS [(yaY,yep a0),(ycQ,yd5 a1),(ybx,ycU a2),(yfA,yhu a3),(ybb,yco a4)],lookI [(ydg,yhq)],ycO a0 a1 a2 a3 a4⟩
def yui (a0:yaW) (a1:yau) (a2:yap) (a3:ybr) (a4:yav):SE:=⟨(E ef0),lookS [(yaY,yep a0),(ycQ,yd5 a1),(ybx,ycU a2),(yfA,yhu a3),(ybb,yco a4)],lookI [(ydg,yhq),(yej,ynq)],ycO a0 a1 a2 a3 a4⟩
theorem ysz:SEOk (yh0 yaq yae yak yaS yal):=yam ⟨(yfp ef0 effG0),(yeY ef0 effG0),(yen ef0 effG0),(yjj ef0 effG0),ydd,trivial⟩ ⟨⟨by kernel_rfl,by kernel_rfl,rfl,fun as=>yab (by kernel_rfl) as,effG0.num _ (by kernel_rfl),(yag (by kernel_rfl))⟩,trivial⟩ effG0.ok
theorem yty (a0 a1 a2 a3 a4 Q n l0 l1 l2 i3 i4):WC (E ef0) (callW (yh0 a0 a1 a2 a3 a4) 10) (ycO a0 a1 a2 a3 a4) yek [(0,.v (.ptr 0 1 0 0)),(12,.v (.int .i64 i3)),(13,.v (.int .i64 i4))] [⟨false,false,4,([(.agg [(.data l0),(.data l1),(.data l2),.nils])]:List PV)⟩] (fun x F' H'=>match x with | .norm=>yhj a0 a1 a2 a3 a4 Q n F' H' | .exit i=>Q (.exit i) F' H' | .ret=>Q .ret F' H')=yee a0 a1 a2 a3 a4 (ykH Q) (ykI Q) (yef Q) (yeg Q) (n+1) l0 l1 l2 i3 i4:=by kernel_rfl
theorem ytz (a0 a1 a2 a3 a4 Q n l0 l1 l2 l3 i6 i7):WC (E ef0) (callW (yh0 a0 a1 a2 a3 a4) 10) (ycO a0 a1 a2 a3 a4) yek [(0,.v (.ptr 0 1 0 0)),(12,.v (.int .i64 i6)),(13,.v (.int .i64 i7))] [⟨false,false,4,([(.agg [(.data l1),(.data l2),(.data l3),(.own 1 0 (List.length l0) (List.length l0) none)])]:List PV)⟩,⟨false,true,2,l0⟩] (fun x F' H'=>match x with | .norm=>yhj a0 a1 a2 a3 a4 Q n F' H' | .exit i=>Q (.exit i) F' H' | .ret=>Q .ret F' H')=ycJ a0 a1 a2 a3 a4 (yef Q) (yeg Q) (n+1) l0 l1 l2 l3 i6 i7:=by kernel_rfl
theorem yxY:LpOk (E ef0) (ycO yaq yae yak yaS yal) yek:=(yag (by kernel_rfl))
theorem ywJ:∀ F H Q,ycO yaq yae yak yaS yal 20643600 F H Q→LoopT (E ef0) yek F H Q:=by
 intro F H Q h
 have go:=LoopT.intro (yaC (ysz) 10) (yxY) (yhj yaq yae yak yaS yal Q) (by
   intro F H h
   unfold yhj yfs at h
   split at h
   · exact h
   · obtain ⟨hg,k⟩:=yai.1 h
     clear h
     have h:=k
     clear k
     try simp only [Bool.and_eq_true,decide_eq_true_eq] at hg
     obtain ⟨g0,g1⟩:=hg;subst g0;subst g1;exact h
   · exact h) (by
   intro n F H h
   unfold yhj yfs at h
   split at h
   · exact (yty ..).mpr h
   · obtain ⟨hg,k⟩:=yai.1 h
     clear h
     have h:=k
     clear k
     try simp only [Bool.and_eq_true,decide_eq_true_eq] at hg
     obtain ⟨g0,g1⟩:=hg;subst g0;subst g1;exact (ytz ..).mpr h
   · exact h.elim)
 have h:yfs F H _ _:=h
 unfold yfs at h
 split at h
 · obtain ⟨n,h⟩:=h;exact go n _ _ h
 · obtain ⟨hg,n,h⟩:=yai.1 h;exact go n _ _ (yai.2 ⟨hg,h⟩)
 · exact h.elim
theorem ytA (a0 a1 a2 a3 a4 Q n l0 l1 l2 i3 i4 l5 i6):WC (E ef0) (callW (yh0 a0 a1 a2 a3 a4) 10) (ycO a0 a1 a2 a3 a4) yki [(4,.box (.agg [(.int .u8 i3),.nils])),(6,.v (.ptr 0 1 0 0)),(8,.box (.agg [(.int .u8 i4),(.data l5)])),(32,.v (.int .i64 i6))] [⟨false,false,4,([(.agg [(.data l0),(.data l1),(.data l2),.nils])]:List PV)⟩] (fun x F' H'=>match x with | .norm=>yhk a0 a1 a2 a3 a4 Q n F' H' | .exit i=>Q (.exit i) F' H' | .ret=>Q .ret F' H')=yfr a0 a1 a2 a3 a4 (ykJ Q) (n+1) l0 l1 l2 i3 i4 l5 i6:=by kernel_rfl
theorem ytB (a0 a1 a2 a3 a4 Q n l0 l1 l2 l3 i6 i7 l8 i9):WC (E ef0) (callW (yh0 a0 a1 a2 a3 a4) 10) (ycO a0 a1 a2 a3 a4) yki [(4,.box (.agg [(.int .u8 i6),.nils])),(6,.v (.ptr 0 1 0 0)),(8,.box (.agg [(.int .u8 i7),(.data l8)])),(32,.v (.int .i64 i9))] [⟨false,false,4,([(.agg [(.data l1),(.data l2),(.data l3),(.own 1 0 (List.length l0) (List.length l0) none)])]:List PV)⟩,⟨false,true,2,l0⟩] (fun x F' H'=>match x with | .norm=>yhk a0 a1 a2 a3 a4 Q n F' H' | .exit i=>Q (.exit i) F' H' | .ret=>Q .ret F' H')=ybH a0 a1 a2 a3 a4 (ykK Q) (n+1) l0 l1 l2 l3 i6 i7 l8 i9:=by kernel_rfl
theorem yxZ:LpOk (E ef0) (ycO yaq yae yak yaS yal) yki:=(yag (by kernel_rfl))
theorem ywK:∀ F H Q,ycO yaq yae yak yaS yal 65264200 F H Q→LoopT (E ef0) yki F H Q:=by
 intro F H Q h
 have go:=LoopT.intro (yaC (ysz) 10) (yxZ) (yhk yaq yae yak yaS yal Q) (by
   intro F H h
   unfold yhk yft at h
   split at h
   · exact h
   · obtain ⟨hg,k⟩:=yai.1 h
     clear h
     have h:=k
     clear k
     try simp only [Bool.and_eq_true,decide_eq_true_eq] at hg
     obtain ⟨g0,g1⟩:=hg;subst g0;subst g1;exact h
   · exact h) (by
   intro n F H h
   unfold yhk yft at h
   split at h
   · exact (ytA ..).mpr h
   · obtain ⟨hg,k⟩:=yai.1 h
     clear h
     have h:=k
     clear k
     try simp only [Bool.and_eq_true,decide_eq_true_eq] at hg
     obtain ⟨g0,g1⟩:=hg;subst g0;subst g1;exact (ytB ..).mpr h
   · exact h.elim)
 have h:yft F H _ _:=h
 unfold yft at h
 split at h
 · obtain ⟨n,h⟩:=h;exact go n _ _ h
 · obtain ⟨hg,n,h⟩:=yai.1 h;exact go n _ _ (yai.2 ⟨hg,h⟩)
 · exact h.elim
theorem yAQ:SEOk (yui yaq yae yak yaS yal):=yam ⟨(yfp ef0 effG0),(yeY ef0 effG0),(yen ef0 effG0),(yjj ef0 effG0),ydd,trivial⟩ ⟨⟨by kernel_rfl,by kernel_rfl,rfl,fun as=>yab (by kernel_rfl) as,effG0.num _ (by kernel_rfl),(yag (by kernel_rfl))⟩,⟨by kernel_rfl,by kernel_rfl,rfl,fun as=>yab (by kernel_rfl) as,effG0.num _ (by kernel_rfl),(ya8 (l:=[(20643600,yek)]) ⟨ywJ,trivial⟩ (by kernel_rfl))⟩,trivial⟩ effG0.ok
theorem yCz (a0 a1 a2 a3 a4 p0 p1 K):WP (yui a0 a1 a2 a3 a4) 11 yEc [(.data p0),(.agg [(.data p1)])] K=ygD a0 a1 a2 a3 a4 p0 p1 (fun r0 r1 r2=>K (.tup [(.agg [(.int .u8 r0),(.data r1)]),(.int .i64 r2)])):=by kernel_rfl
theorem yo7:OkF (E ef0) yuh yeG:=by
 intro as K h
 unfold yuh ylh at h
 split at h
 · exact WP_ok (yAQ) (ya8 (l:=[(65264200,yki)]) ⟨ywK,trivial⟩ (by kernel_rfl)) (by kernel_rfl) (by kernel_rfl) (fun _=>yab (by kernel_rfl) _) (effG0.num _ (by kernel_rfl)) ((yCz ..).mpr h)
 · exact h.elim
abbrev yfb:Type:=List PV→List PV→Int→(Int→Int→Bool→Int→Prop)→Prop
def ycm (a0:yeb) (a1:yaW) (a2:yau) (a3:yap) (a4:ybr) (a5:yav) (x2:List PV→List PV→List PV→List PV→Int→Int→Bool→Prop) (x3:List PV→List PV→List PV→List PV→Int→Prop):Nat→List PV→List PV→List PV→List PV→Int→Int→Prop
 | 0,_,_,_,_,_,_=>False
 | n+1,l0,l1,l2,l3,i6,i7 =>
 (cbr (decide (i7<i6))
 (asr (decide ((0:Int)≤i7))
 (asr (decide (i7<(((List.length l1):Nat):Int)))
 (lt (List.getD l1 (i7.toNat) .nils) (fun yr160 =>
 (asr (conf (.agg [.i .i64,.d,.d]) yr160)
 (a2 (intOfV (cellAt yr160 0)) (datOfV (cellAt yr160 1)) (datOfV (cellAt yr160 2)) (fun yi161 _ =>
 (asr (decide ((0:Int)≤i7))
 (asr (decide (i7<(((List.length l3):Nat):Int)))
 (lt (List.getD l3 (i7.toNat) .nils) (fun yr170 =>
 (asr (conf (.one (.d)) yr170)
 (asr (decide ((0:Int)≤i7))
 (asr (decide (i7<(((List.length (datOfV yr170)):Nat):Int)))
 (lt (List.getD (datOfV yr170) (i7.toNat) .nils) (fun yr171 =>
 (asr (conf (.agg [.i .i64,.i .i64]) yr171)
 (a3 yi161 (fun yi172 yi173 =>
 (a4 (intOfV (cellAt yr171 0)) (intOfV (cellAt yr171 1)) yi172 yi173 (fun yi174 yi175 yi176 =>
 (cbr (yi176 !=(0:Int))
 (x3 l0 l1 l2 l3 yi176)
 (asr (decide ((List.length l0)=(List.length l0)))
 (asr (decide ((0+(List.length l0))≤(List.length l0)))
 (asr (!(decide (((0+(List.length l0))+1)≤(List.length l0))))
 (asr (decide ((List.length l0)=(List.length l0)))
 (asr (decide ((((List.length l0)+1)+64)*(16+1)≤room))
 (lt (IntKind.i64.wrap (i7+(1:Int))) (fun yi177 =>
 (asr (decide ((List.length (l0++([(.agg [(.int .i64 yi174),(.int .i64 yi175)])]:List PV)))=List.length (l0++([(.agg [(.int .i64 yi174),(.int .i64 yi175)])]:List PV)))&&decide ((List.length (l0++([(.agg [(.int .i64 yi174),(.int .i64 yi175)])]:List PV)))=List.length (l0++([(.agg [(.int .i64 yi174),(.int .i64 yi175)])]:List PV))))
 (ycm a0 a1 a2 a3 a4 a5 x2 x3 n (l0++([(.agg [(.int .i64 yi174),(.int .i64 yi175)])]:List PV)) l1 l2 l3 i6 yi177)))))))))))))))))))))))))))))))
 (x2 l0 l1 l2 l3 i6 i7 false))
def ydD (a0:yeb) (a1:yaW) (a2:yau) (a3:yap) (a4:ybr) (a5:yav) (x0:List PV→List PV→List PV→Int→Int→Bool→Prop) (x1:List PV→List PV→List PV→Int→Prop) (x2:List PV→List PV→List PV→List PV→Int→Int→Bool→Prop) (x3:List PV→List PV→List PV→List PV→Int→Prop):Nat→List PV→List PV→List PV→Int→Int→Prop
 | 0,_,_,_,_,_=>False
 | n+1,l0,l1,l2,i3,i4 =>
 (cbr (decide (i4<i3))
 (asr (decide ((0:Int)≤i4))
 (asr (decide (i4<(((List.length l0):Nat):Int)))
 (lt (List.getD l0 (i4.toNat) .nils) (fun yr119 =>
 (asr (conf (.agg [.i .i64,.d,.d]) yr119)
 (a2 (intOfV (cellAt yr119 0)) (datOfV (cellAt yr119 1)) (datOfV (cellAt yr119 2)) (fun yi120 _ =>
 (asr (decide ((0:Int)≤i4))
 (asr (decide (i4<(((List.length l2):Nat):Int)))
 (lt (List.getD l2 (i4.toNat) .nils) (fun yr129 =>
 (asr (conf (.one (.d)) yr129)
 (asr (decide ((0:Int)≤i4))
 (asr (decide (i4<(((List.length (datOfV yr129)):Nat):Int)))
 (lt (List.getD (datOfV yr129) (i4.toNat) .nils) (fun yr130 =>
 (asr (conf (.agg [.i .i64,.i .i64]) yr130)
 (a3 yi120 (fun yi131 yi132 =>
 (a4 (intOfV (cellAt yr130 0)) (intOfV (cellAt yr130 1)) yi131 yi132 (fun yi133 yi134 yi135 =>
 (cbr (yi135 !=(0:Int))
 (x1 l0 l1 l2 yi135)
 (lt (IntKind.i64.wrap (i4+(1:Int))) (fun yi136 =>
 (asr (decide (1=List.length ([(.agg [(.int .i64 yi133),(.int .i64 yi134)])]:List PV))&&decide (1=List.length ([(.agg [(.int .i64 yi133),(.int .i64 yi134)])]:List PV)))
 (ycm a0 a1 a2 a3 a4 a5 x2 x3 n ([(.agg [(.int .i64 yi133),(.int .i64 yi134)])]:List PV) l0 l1 l2 i3 yi136))))))))))))))))))))))))))
 (x0 l0 l1 l2 i3 i4 false))
def yjO (a0:yeb) (a1:yaW) (a2:yau) (a3:yap) (a4:ybr) (a5:yav) (p0 p1:List PV) (p2:Int) (K:Int→Int→Bool→Int→Prop):Prop :=
 (a0 p0 p1 (fun yi3 =>
 (cbr (yi3 !=(0:Int))
 (K (0:Int) (0:Int) false yi3)
 (jn (fun (yj436:Bool→Prop) =>
 (cbr (p2 ==(8:Int))
 (yj436 true)
 (jn (fun (yj704:Bool→Prop) =>
 (cbr (p2 ==(1:Int))
 (yj704 true)
 (cbr (p2 ==(2:Int))
 (yj704 true)
 (cbr (p2 ==(4:Int))
 (yj704 true)
 (yj704 (p2 ==(16:Int)))))))
 (fun yb703=>(cbr yb703
 (yj436 false)
 (K (0:Int) (0:Int) false (2:Int)))))))
 (fun yb435=>(a1 p0 p1 (fun yl451 yi452 =>
 (cbr (yi452 !=(0:Int))
 (jn (fun (yj460:Bool→Prop) =>
 (cbr (yi452 ==(0:Int))
 (yj460 yb435)
 (yj460 false)))
 (fun yb459=>(cbr yb459
 False
 (cbr (yi452 !=(0:Int))
 (K (0:Int) (0:Int) false yi452)
 False))))
 (jn (fun (yj573:List PV→List PV→List PV→Int→Prop) =>
 (cbr yb435
 (jn (fun (yj637:List PV→List PV→List PV→Int→Prop) =>
 (jn (fun (yj643:List PV→List PV→List PV→List PV→Int→Prop) =>
 (∃ n:Nat,ydD a0 a1 a2 a3 a4 a5
 (fun yl672 yl673 yl674 _ _ _=>(yj637 yl672 yl673 yl674 (0:Int)))
 (fun yl678 yl679 yl680 yi681=>(yj637 yl678 yl679 yl680 yi681))
 (fun yl682 yl683 yl684 yl685 _ _ _=>(yj643 yl682 yl683 yl684 yl685 (0:Int)))
 (fun yl689 yl690 yl691 yl692 yi693=>(yj643 yl689 yl690 yl691 yl692 yi693))
 n p0 p1 yl451 (((List.length p0):Nat):Int) (0:Int)))
 (fun yl638 yl639 yl640 yl641 yi642=>(cbr (yi642 !=(0:Int))
 (K (0:Int) (0:Int) false yi642)
 (asr (decide ((List.length yl638)=(List.length yl638)))
 (asr (decide ((0+(List.length yl638))≤(List.length yl638)))
 (a5 yl639 yl640 yl641 (List.take (List.length yl638) yl638) p2 (fun yi647 yi648 yb649 =>
 (K yi647 yi648 yb649 (0:Int))))))))))
 (fun yl633 yl634 yl635 yi636=>(yj573 yl633 yl634 yl635 yi636)))
 (yj573 p0 p1 yl451 (0:Int))))
 (fun yl569 yl570 yl571 yi572=>(cbr (yi572 !=(0:Int))
 (K (0:Int) (0:Int) false yi572)
 (a5 yl569 yl570 yl571 ([]:List PV) p2 (fun yi577 yi578 yb579 =>
 (K yi577 yi578 yb579 (0:Int)))))))))))))))
def ybd (p0 p1:List PV) (p2:Int) (K:Int→Int→Bool→Int→Prop):Prop:=yjO ybk yaq yae yak yaS yal p0 p1 p2 K
def yjP (w:yfb) (as:List PV) (K:PV→Prop):Prop :=
 match as with
 | [(.data p0),(.agg [(.data p1)]),(.int .u8 p2)]=>w p0 p1 p2 (fun r0 r1 r2 r3=>K (.tup [(.int .i64 r0),(.int .i64 r1),(.bool r2),(.int .i64 r3)]))
 | _=>False
def ysA (as:List PV) (K:PV→Prop):Prop:=yjP ybd as K
def yeE (F:Frm) (H:Hp) (A0:List PV→List PV→List PV→Int→Int→Prop) (A1:List PV→List PV→List PV→List PV→Int→Int→Prop):Prop :=
 match F,H with
 | [(0,.v (.ptr 0 1 0 0)),(12,.v (.int .i64 i3)),(13,.v (.int .i64 i4))],[⟨false,false,4,[(.agg [(.data l0),(.data l1),(.data l2),.nils])]⟩]=>(A0 l0 l1 l2 i3 i4)
 | [(0,.v (.ptr 0 1 0 0)),(12,.v (.int .i64 i6)),(13,.v (.int .i64 i7))],[⟨false,false,4,[(.agg [(.data l1),(.data l2),(.data l3),(.own 1 0 t4 t5 none)])]⟩,⟨false,true,2,l0⟩]=>asr (decide (t4=List.length l0)&&decide (t5=List.length l0)) (A1 l0 l1 l2 l3 i6 i7)
 | _,_=>False
def yjQ (Q:Ex→Frm→Hp→Prop):List PV→List PV→List PV→Int→Int→Bool→Prop:=(fun l0 l1 l2 i3 i4 b5=>Q (.exit 0) [(0,.v (.ptr 0 1 0 0)),(12,.v (.int .i64 i3)),(13,.v (.int .i64 i4)),(14,.v (.bool b5))] [⟨false,false,4,([(.agg [(.data l0),(.data l1),(.data l2),.nils])]:List PV)⟩])
def yjR (Q:Ex→Frm→Hp→Prop):List PV→List PV→List PV→Int→Prop:=(fun l0 l1 l2 i3=>Q .ret [(2,.v (.int .i64 i3))] [⟨false,false,4,([(.agg [(.data l0),(.data l1),(.data l2),.nils])]:List PV)⟩])
def ydE (Q:Ex→Frm→Hp→Prop):List PV→List PV→List PV→List PV→Int→Int→Bool→Prop:=(fun l0 l1 l2 l3 i6 i7 b8=>Q (.exit 0) [(0,.v (.ptr 0 1 0 0)),(12,.v (.int .i64 i6)),(13,.v (.int .i64 i7)),(14,.v (.bool b8))] [⟨false,false,4,([(.agg [(.data l1),(.data l2),(.data l3),(.own 1 0 (List.length l0) (List.length l0) none)])]:List PV)⟩,⟨false,true,2,l0⟩])
def ydF (Q:Ex→Frm→Hp→Prop):List PV→List PV→List PV→List PV→Int→Prop:=(fun l0 l1 l2 l3 i6=>Q .ret [(2,.v (.int .i64 i6))] [⟨false,false,4,([(.agg [(.data l1),(.data l2),(.data l3),(.own 1 0 (List.length l0) (List.length l0) none)])]:List PV)⟩,⟨false,true,2,l0⟩])
def yf8 (a0:yeb) (a1:yaW) (a2:yau) (a3:yap) (a4:ybr) (a5:yav) (Q:Ex→Frm→Hp→Prop) (n:Nat) (F:Frm) (H:Hp):Prop:=yeE F H (fun l0 l1 l2 i3 i4=>ydD a0 a1 a2 a3 a4 a5 (yjQ Q) (yjR Q) (ydE Q) (ydF Q) n l0 l1 l2 i3 i4) (fun l0 l1 l2 l3 i6 i7=>ycm a0 a1 a2 a3 a4 a5 (ydE Q) (ydF Q) n l0 l1 l2 l3 i6 i7)
def yfu (a0:yeb) (a1:yaW) (a2:yau) (a3:yap) (a4:ybr) (a5:yav):LP:=fun id F H Q =>
 bif Nat.beq id 20643600 then yeE F H (fun l0 l1 l2 i3 i4=>∃ n:Nat,ydD a0 a1 a2 a3 a4 a5 (yjQ Q) (yjR Q) (ydE Q) (ydF Q) n l0 l1 l2 i3 i4) (fun l0 l1 l2 l3 i6 i7=>∃ n:Nat,ycm a0 a1 a2 a3 a4 a5 (ydE Q) (ydF Q) n l0 l1 l2 l3 i6 i7) else
 False
def ynR (a0:yeb) (a1:yaW) (a2:yau) (a3:yap) (a4:ybr) (a5:yav):SE:=⟨(E ef0),lookS [(ycq,yhg a0),(yaY,yep a1),(ycQ,yd5 a2),(ybx,ycU a3),(yfA,yhu a4),(ybb,yco a5)],lookI [(ydg,yhq)],yfu a0 a1 a2 a3 a4 a5⟩
def ysB (a0:yeb) (a1:yaW) (a2:yau) (a3:yap) (a4:ybr) (a5:yav):SE:=⟨(E ef0),lookS [(ycq,yhg a0),(yaY,yep a1),(ycQ,yd5 a2),(ybx,ycU a3),(yfA,yhu a4),(ybb,yco a5)],lookI [(ydg,yhq),(yej,ynq)],yfu a0 a1 a2 a3 a4 a5⟩
theorem yzh:SEOk (ynR ybk yaq yae yak yaS yal):=yam ⟨(yjJ ef0 effG0),(yfp ef0 effG0),(yeY ef0 effG0),(yen ef0 effG0),(yjj ef0 effG0),ydd,trivial⟩ ⟨⟨by kernel_rfl,by kernel_rfl,rfl,fun as=>yab (by kernel_rfl) as,effG0.num _ (by kernel_rfl),(yag (by kernel_rfl))⟩,trivial⟩ effG0.ok
theorem ysC (a0 a1 a2 a3 a4 a5 Q n l0 l1 l2 i3 i4):WC (E ef0) (callW (ynR a0 a1 a2 a3 a4 a5) 10) (yfu a0 a1 a2 a3 a4 a5) yek [(0,.v (.ptr 0 1 0 0)),(12,.v (.int .i64 i3)),(13,.v (.int .i64 i4))] [⟨false,false,4,([(.agg [(.data l0),(.data l1),(.data l2),.nils])]:List PV)⟩] (fun x F' H'=>match x with | .norm=>yf8 a0 a1 a2 a3 a4 a5 Q n F' H' | .exit i=>Q (.exit i) F' H' | .ret=>Q .ret F' H')=ydD a0 a1 a2 a3 a4 a5 (yjQ Q) (yjR Q) (ydE Q) (ydF Q) (n+1) l0 l1 l2 i3 i4:=by kernel_rfl
theorem ysD (a0 a1 a2 a3 a4 a5 Q n l0 l1 l2 l3 i6 i7):WC (E ef0) (callW (ynR a0 a1 a2 a3 a4 a5) 10) (yfu a0 a1 a2 a3 a4 a5) yek [(0,.v (.ptr 0 1 0 0)),(12,.v (.int .i64 i6)),(13,.v (.int .i64 i7))] [⟨false,false,4,([(.agg [(.data l1),(.data l2),(.data l3),(.own 1 0 (List.length l0) (List.length l0) none)])]:List PV)⟩,⟨false,true,2,l0⟩] (fun x F' H'=>match x with | .norm=>yf8 a0 a1 a2 a3 a4 a5 Q n F' H' | .exit i=>Q (.exit i) F' H' | .ret=>Q .ret F' H')=ycm a0 a1 a2 a3 a4 a5 (ydE Q) (ydF Q) (n+1) l0 l1 l2 l3 i6 i7:=by kernel_rfl
theorem ywL:LpOk (E ef0) (yfu ybk yaq yae yak yaS yal) yek:=(yag (by kernel_rfl))
theorem yvf:∀ F H Q,yfu ybk yaq yae yak yaS yal 20643600 F H Q→LoopT (E ef0) yek F H Q:=by
 intro F H Q h
 have go:=LoopT.intro (yaC (yzh) 10) (ywL) (yf8 ybk yaq yae yak yaS yal Q) (by
   intro F H h
   unfold yf8 yeE at h
   split at h
   · exact h
   · obtain ⟨hg,k⟩:=yai.1 h
     clear h
     have h:=k
     clear k
     try simp only [Bool.and_eq_true,decide_eq_true_eq] at hg
     obtain ⟨g0,g1⟩:=hg;subst g0;subst g1;exact h
   · exact h) (by
   intro n F H h
   unfold yf8 yeE at h
   split at h
   · exact (ysC ..).mpr h
   · obtain ⟨hg,k⟩:=yai.1 h
     clear h
     have h:=k
     clear k
     try simp only [Bool.and_eq_true,decide_eq_true_eq] at hg
     obtain ⟨g0,g1⟩:=hg;subst g0;subst g1;exact (ysD ..).mpr h
   · exact h.elim)
 have h:yeE F H _ _:=h
 unfold yeE at h
 split at h
 · obtain ⟨n,h⟩:=h;exact go n _ _ h
 · obtain ⟨hg,n,h⟩:=yai.1 h;exact go n _ _ (yai.2 ⟨hg,h⟩)
 · exact h.elim
theorem yzi:SEOk (ysB ybk yaq yae yak yaS yal):=yam ⟨(yjJ ef0 effG0),(yfp ef0 effG0),(yeY ef0 effG0),(yen ef0 effG0),(yjj ef0 effG0),ydd,trivial⟩ ⟨⟨by kernel_rfl,by kernel_rfl,rfl,fun as=>yab (by kernel_rfl) as,effG0.num _ (by kernel_rfl),(yag (by kernel_rfl))⟩,⟨by kernel_rfl,by kernel_rfl,rfl,fun as=>yab (by kernel_rfl) as,effG0.num _ (by kernel_rfl),(ya8 (l:=[(20643600,yek)]) ⟨yvf,trivial⟩ (by kernel_rfl))⟩,trivial⟩ effG0.ok
theorem yAR (a0 a1 a2 a3 a4 a5 p0 p1 p2 K):WP (ysB a0 a1 a2 a3 a4 a5) 11 yBK [(.data p0),(.agg [(.data p1)]),(.int .u8 p2)] K=yjO a0 a1 a2 a3 a4 a5 p0 p1 p2 (fun r0 r1 r2 r3=>K (.tup [(.int .i64 r0),(.int .i64 r1),(.bool r2),(.int .i64 r3)])):=by kernel_rfl
theorem ynS:OkF (E ef0) ysA yeS:=by
 intro as K h
 unfold ysA yjP at h
 split at h
 · exact WP_ok (yzi) (yag (by kernel_rfl)) (by kernel_rfl) (by kernel_rfl) (fun _=>yab (by kernel_rfl) _) (effG0.num _ (by kernel_rfl)) ((yAR ..).mpr h)
 · exact h.elim
abbrev yie:Type:=List PV→List PV→Int→(Int→Int→Int→Prop)→Prop
def ykL (a0:yfb) (p0 p1:List PV) (p2:Int) (K:Int→Int→Int→Prop):Prop :=
 (a0 p0 p1 p2 (fun yi4 yi5 yb6 yi7 =>
 (jn (fun (yj11:Bool→Prop) =>
 (cbr (yi7 ==(0:Int))
 (yj11 (!yb6))
 (yj11 false)))
 (fun yb10=>(cbr yb10
 (K (0:Int) (0:Int) (6:Int))
 (K yi4 yi5 yi7))))))
def yf9 (p0 p1:List PV) (p2:Int) (K:Int→Int→Int→Prop):Prop:=ykL ybd p0 p1 p2 K
def ykM (w:yie) (as:List PV) (K:PV→Prop):Prop :=
 match as with
 | [(.data p0),(.agg [(.data p1)]),(.int .u8 p2)]=>w p0 p1 p2 (fun r0 r1 r2=>K (.tup [(.int .i64 r0),(.int .i64 r1),(.int .i64 r2)]))
 | _=>False
def ypz (as:List PV) (K:PV→Prop):Prop:=ykM yf9 as K
def yx0 (_:yfb):LP:=fun _ _ _ _ =>
 False
def ypA (a0:yfb):SE:=⟨(E ef0),lookS [(yeS,yjP a0)],lookI [],yx0 a0⟩
theorem ywM:SEOk (ypA ybd):=yam ⟨ynS,trivial⟩ trivial effG0.ok
theorem yx1 (a0 p0 p1 p2 K):WP (ypA a0) 11 yyQ [(.data p0),(.agg [(.data p1)]),(.int .u8 p2)] K=ykL a0 p0 p1 p2 (fun r0 r1 r2=>K (.tup [(.int .i64 r0),(.int .i64 r1),(.int .i64 r2)])):=by kernel_rfl
theorem yx2:OkF (E ef0) ypz yf6:=by
 intro as K h
 unfold ypz ykM at h
 split at h
 · exact WP_ok (ywM) (yag (by kernel_rfl)) (by kernel_rfl) (by kernel_rfl) (fun _=>yab (by kernel_rfl) _) (effG0.num _ (by kernel_rfl)) ((yx1 ..).mpr h)
 · exact h.elim
abbrev yli:Type:=List PV→List PV→Int→(Bool→Int→Prop)→Prop
def ynT (a0:yfb) (p0 p1:List PV) (p2:Int) (K:Bool→Int→Prop):Prop :=
 (a0 p0 p1 p2 (fun _ _ yb6 yi7 =>
 (jn (fun (yj9:Bool→Prop) =>
 (cbr (!yb6)
 (yj9 (yi7 ==(0:Int)))
 (yj9 false)))
 (fun yb8=>(K yb8 yi7)))))
def yh1 (p0 p1:List PV) (p2:Int) (K:Bool→Int→Prop):Prop:=ynT ybd p0 p1 p2 K
def ynU (w:yli) (as:List PV) (K:PV→Prop):Prop :=
 match as with
 | [(.data p0),(.agg [(.data p1)]),(.int .u8 p2)]=>w p0 p1 p2 (fun r0 r1=>K (.tup [(.bool r0),(.int .i64 r1)]))
 | _=>False
def ysE (as:List PV) (K:PV→Prop):Prop:=ynU yh1 as K
def yAS (_:yfb):LP:=fun _ _ _ _ =>
 False
def ysF (a0:yfb):SE:=⟨(E ef0),lookS [(yeS,yjP a0)],lookI [],yAS a0⟩
theorem yzj:SEOk (ysF ybd):=yam ⟨ynS,trivial⟩ trivial effG0.ok
theorem yAT (a0 p0 p1 p2 K):WP (ysF a0) 11 yBL [(.data p0),(.agg [(.data p1)]),(.int .u8 p2)] K=ynT a0 p0 p1 p2 (fun r0 r1=>K (.tup [(.bool r0),(.int .i64 r1)])):=by kernel_rfl
theorem yAU:OkF (E ef0) ysE yhX:=by
 intro as K h
 unfold ysE ynU at h
 split at h
 · exact WP_ok (yzj) (yag (by kernel_rfl)) (by kernel_rfl) (by kernel_rfl) (fun _=>yab (by kernel_rfl) _) (effG0.num _ (by kernel_rfl)) ((yAT ..).mpr h)
 · exact h.elim
end Go.Pf.Vc
namespace Go.Pf.Vc
open Go Go.Pf
set_option linter.unusedVariables false
theorem yzk (p0:List PV) (p1:List PV) (r0:Int) (h:∀ K:Int→Prop,K r0→ybk p0 p1 K) (K:Int→Prop):ybk p0 p1 K=K r0 :=
 propext ⟨fun k=>detC (yjJ [] ybg) (as:=[(.data p0),(.agg [(.data p1)])]) (x:=(.int .i64 r0)) (fun K' k'=>h (fun r0=>K' (.int .i64 r0)) k') (K:=fun x=>match x with | (.int .i64 r0)=>K r0 | _=>False) k,h K⟩
theorem yzl (p0:List PV) (p1:List PV) (r0:List PV) (r1:Int) (h:∀ K:List PV→Int→Prop,K r0 r1→yaq p0 p1 K) (K:List PV→Int→Prop):yaq p0 p1 K=K r0 r1 :=
 propext ⟨fun k=>detC (yfp [] ybg) (as:=[(.data p0),(.agg [(.data p1)])]) (x:=(.tup [(.data r0),(.int .i64 r1)])) (fun K' k'=>h (fun r0 r1=>K' (.tup [(.data r0),(.int .i64 r1)])) k') (K:=fun x=>match x with | (.tup [(.data r0),(.int .i64 r1)])=>K r0 r1 | _=>False) k,h K⟩
theorem ywN (p0:Int) (p1:Int) (p2:Int) (p3:Int) (p4:List PV) (r0:Bool) (h:∀ K:Bool→Prop,K r0→ybw p0 p1 p2 p3 p4 K) (K:Bool→Prop):ybw p0 p1 p2 p3 p4 K=K r0 :=
 propext ⟨fun k=>detC (ykG [] ybg) (as:=[(.agg [(.int .i64 p0),(.int .i64 p1),(.int .i64 p2),(.int .i64 p3)]),(.eptr [(.data p4)] 0 0)]) (x:=(.bool r0)) (fun K' k'=>h (fun r0=>K' (.bool r0)) k') (K:=fun x=>match x with | (.bool r0)=>K r0 | _=>False) k,h K⟩
theorem yzm (p0:List PV) (p1:List PV) (r0:Bool) (h:∀ K:Bool→Prop,K r0→yah p0 p1 K) (K:Bool→Prop):yah p0 p1 K=K r0 :=
 propext ⟨fun k=>detC (ynO [] ybg) (as:=[(.data p0),(.data p1)]) (x:=(.bool r0)) (fun K' k'=>h (fun r0=>K' (.bool r0)) k') (K:=fun x=>match x with | (.bool r0)=>K r0 | _=>False) k,h K⟩
theorem ytC (p0:List PV) (p1:List PV) (p2:List PV) (p3:List PV) (r0:Bool) (h:∀ K:Bool→Prop,K r0→yac p0 p1 p2 p3 K) (K:Bool→Prop):yac p0 p1 p2 p3 K=K r0 :=
 propext ⟨fun k=>detC yiq (as:=[(.eptr [(.agg [(.data p0),(.data p1),(.data p2),(.data p3)])] 0 0)]) (x:=(.bool r0)) (fun K' k'=>h (fun r0=>K' (.bool r0)) k') (K:=fun x=>match x with | (.bool r0)=>K r0 | _=>False) k,h K⟩
theorem yqO (p0:List PV) (p1:List PV) (p2:List PV) (p3:List PV) (p4:Int) (r0:Int) (r1:Int) (r2:Bool) (h:∀ K:Int→Int→Bool→Prop,K r0 r1 r2→yal p0 p1 p2 p3 p4 K) (K:Int→Int→Bool→Prop):yal p0 p1 p2 p3 p4 K=K r0 r1 r2 :=
 propext ⟨fun k=>detC ydd (as:=[(.eptr [(.agg [(.data p0),(.data p1),(.data p2),(.data p3)])] 0 0),(.int .u8 p4)]) (x:=(.tup [(.int .i64 r0),(.int .i64 r1),(.bool r2)])) (fun K' k'=>h (fun r0 r1 r2=>K' (.tup [(.int .i64 r0),(.int .i64 r1),(.bool r2)])) k') (K:=fun x=>match x with | (.tup [(.int .i64 r0),(.int .i64 r1),(.bool r2)])=>K r0 r1 r2 | _=>False) k,h K⟩
theorem yjS (p0:List PV) (p1:List PV) (r0:Int) (r1:List PV) (r2:Int) (h:∀ K:Int→List PV→Int→Prop,K r0 r1 r2→ya9 p0 p1 K) (K:Int→List PV→Int→Prop):ya9 p0 p1 K=K r0 r1 r2 :=
 propext ⟨fun k=>detC yo7 (as:=[(.data p0),(.agg [(.data p1)])]) (x:=(.tup [(.agg [(.int .u8 r0),(.data r1)]),(.int .i64 r2)])) (fun K' k'=>h (fun r0 r1 r2=>K' (.tup [(.agg [(.int .u8 r0),(.data r1)]),(.int .i64 r2)])) k') (K:=fun x=>match x with | (.tup [(.agg [(.int .u8 r0),(.data r1)]),(.int .i64 r2)])=>K r0 r1 r2 | _=>False) k,h K⟩
theorem yzn (p0:List PV) (p1:List PV) (p2:Int) (r0:Int) (r1:Int) (r2:Bool) (r3:Int) (h:∀ K:Int→Int→Bool→Int→Prop,K r0 r1 r2 r3→ybd p0 p1 p2 K) (K:Int→Int→Bool→Int→Prop):ybd p0 p1 p2 K=K r0 r1 r2 r3 :=
 propext ⟨fun k=>detC ynS (as:=[(.data p0),(.agg [(.data p1)]),(.int .u8 p2)]) (x:=(.tup [(.int .i64 r0),(.int .i64 r1),(.bool r2),(.int .i64 r3)])) (fun K' k'=>h (fun r0 r1 r2 r3=>K' (.tup [(.int .i64 r0),(.int .i64 r1),(.bool r2),(.int .i64 r3)])) k') (K:=fun x=>match x with | (.tup [(.int .i64 r0),(.int .i64 r1),(.bool r2),(.int .i64 r3)])=>K r0 r1 r2 r3 | _=>False) k,h K⟩
end Go.Pf.Vc
namespace Go.Pf.Vc
open Go Go.Pf
set_option maxRecDepth 100000
abbrev yiP:Type:=List PV→List PV→(Bool→Prop)→Prop
def yqP (a0:yor) (a1:yos) (p0 p1:List PV) (K:Bool→Prop):Prop :=
 (jn (fun (yj3:Bool→Prop) =>
 (a0 p0 p1 (fun yb4 =>
 (cbr (!yb4)
 (a1 p0 p1 (fun yi5 =>
 (yj3 (yi5 ==(0:Int)))))
 (yj3 false)))))
 (fun yb2=>(K yb2)))
def yeP (p0 p1:List PV) (K:Bool→Prop):Prop:=yqP yhe yhf p0 p1 K
def yqQ (w:yiP) (as:List PV) (K:PV→Prop):Prop :=
 match as with
 | [(.data p0),(.agg [(.data p1)])]=>w p0 p1 (fun r0=>K (.bool r0))
 | _=>False
def ywO (as:List PV) (K:PV→Prop):Prop:=yqQ yeP as K
def yEW (_:yor) (_:yos):LP:=fun _ _ _ _ =>
 False
def ywP (e:List (Nat×EffF)) (a0:yor) (a1:yos):SE:=⟨(E e),lookS [(ylo,yqy a0),(yls,yqG a1)],lookI [],yEW a0 a1⟩
theorem yCA (e:List (Nat×EffF)) (he:EG e):SEOk (ywP e yhe yhf):=yam ⟨(ywv e he),(ywC e he),trivial⟩ trivial he.ok
theorem yEX (e:List (Nat×EffF)) (a0 a1 p0 p1 K):WP (ywP e a0 a1) 6 yF7 [(.data p0),(.agg [(.data p1)])] K=yqP a0 a1 p0 p1 (fun r0=>K (.bool r0)):=by kernel_rfl
theorem yEY (e:List (Nat×EffF)) (he:EG e):OkF (E e) ywO ylt:=by
 intro as K h
 unfold ywO yqQ at h
 split at h
 · exact WP_ok (yCA e he) (yag (by kernel_rfl)) (by kernel_rfl) (by kernel_rfl) (fun _=>yab (by kernel_rfl) _) (he.num _ (by kernel_rfl)) ((yEX ..).mpr h)
 · exact h.elim
abbrev yjT:Type:=Int→Int→(Int→Int→Int→Int→Prop)→Prop
def yDc (a0:yhZ) (p0 p1:Int) (K:Int→Int→Int→Int→Prop):Prop :=
 (a0 p0 (fun yi4 yi5 =>
 (a0 p1 (fun yi6 yi7 =>
 (K yi4 yi5 yi6 yi7)))))
def ydt (p0 p1:Int) (K:Int→Int→Int→Int→Prop):Prop:=yDc yjx p0 p1 K
def ys1 (w:yjT) (as:List PV) (K:PV→Prop):Prop :=
 match as with
 | [(.int .i64 p0),(.int .i64 p1)]=>w p0 p1 (fun r0 r1 r2 r3=>K (.agg [(.int .i64 r0),(.int .i64 r1),(.int .i64 r2),(.int .i64 r3)]))
 | _=>False
def yDd (as:List PV) (K:PV→Prop):Prop:=ys1 ydt as K
def yKn (_:yhZ):LP:=fun _ _ _ _ =>
 False
def yDe (e:List (Nat×EffF)) (a0:yhZ):SE:=⟨(E e),lookS [(yg2,yps a0)],lookI [],yKn a0⟩
theorem yID (e:List (Nat×EffF)) (he:EG e):SEOk (yDe e yjx):=yam ⟨(yxK e he),trivial⟩ trivial he.ok
theorem yKo (e:List (Nat×EffF)) (a0 p0 p1 K):WP (yDe e a0) 6 yLr [(.int .i64 p0),(.int .i64 p1)] K=yDc a0 p0 p1 (fun r0 r1 r2 r3=>K (.agg [(.int .i64 r0),(.int .i64 r1),(.int .i64 r2),(.int .i64 r3)])):=by kernel_rfl
theorem yDf (e:List (Nat×EffF)) (he:EG e):OkF (E e) yDd yhV:=by
 intro as K h
 unfold yDd ys1 at h
 split at h
 · exact WP_ok (yID e he) (yag (by kernel_rfl)) (by kernel_rfl) (by kernel_rfl) (fun _=>yab (by kernel_rfl) _) (he.num _ (by kernel_rfl)) ((yKo ..).mpr h)
 · exact h.elim
abbrev yot:Type:=List PV→(List PV→Prop)→Prop
def yga (x1:List PV→List PV→Int→Bool→Prop):Nat→List PV→List PV→Int→Prop
 | 0,_,_,_=>False
 | n+1,l0,l1,i4 =>
 (cbr (decide (i4<(((List.length l1):Nat):Int)))
 (asr (decide ((0:Int)≤i4))
 (asr (decide (i4<(((List.length l1):Nat):Int)))
 (lt (List.getD l1 (i4.toNat) .nils) (fun yr4 =>
 (asr (conf (.agg [.i .i64,.i .i64,.i .i64,.i .i64]) yr4)
 (asr (decide ((List.length l0)=(List.length l0)))
 (asr (decide ((0+(List.length l0))≤(List.length l0)))
 (asr (!(decide (((0+(List.length l0))+1)≤(List.length l0))))
 (asr (decide ((List.length l0)=(List.length l0)))
 (asr (decide ((((List.length l0)+1)+64)*(24+1)≤room))
 (lt (IntKind.i64.wrap (i4+(1:Int))) (fun yi5 =>
 (asr (decide ((List.length (l0++([(.data ([(.agg [(.int .i64 (intOfV (cellAt yr4 0))),(.int .i64 (intOfV (cellAt yr4 1))),(.int .i64 (intOfV (cellAt yr4 2))),(.int .i64 (intOfV (cellAt yr4 3)))])]:List PV))]:List PV)))=List.length (l0++([(.data ([(.agg [(.int .i64 (intOfV (cellAt yr4 0))),(.int .i64 (intOfV (cellAt yr4 1))),(.int .i64 (intOfV (cellAt yr4 2))),(.int .i64 (intOfV (cellAt yr4 3)))])]:List PV))]:List PV)))&&decide ((List.length (l0++([(.data ([(.agg [(.int .i64 (intOfV (cellAt yr4 0))),(.int .i64 (intOfV (cellAt yr4 1))),(.int .i64 (intOfV (cellAt yr4 2))),(.int .i64 (intOfV (cellAt yr4 3)))])]:List PV))]:List PV)))=List.length (l0++([(.data ([(.agg [(.int .i64 (intOfV (cellAt yr4 0))),(.int .i64 (intOfV (cellAt yr4 1))),(.int .i64 (intOfV (cellAt yr4 2))),(.int .i64 (intOfV (cellAt yr4 3)))])]:List PV))]:List PV))))
 (yga x1 n (l0++([(.data ([(.agg [(.int .i64 (intOfV (cellAt yr4 0))),(.int .i64 (intOfV (cellAt yr4 1))),(.int .i64 (intOfV (cellAt yr4 2))),(.int .i64 (intOfV (cellAt yr4 3)))])]:List PV))]:List PV)) l1 yi5))))))))))))))
 (x1 l0 l1 i4 false))
def ygb (x0:List PV→Int→Bool→Prop) (x1:List PV→List PV→Int→Bool→Prop):Nat→List PV→Int→Prop
 | 0,_,_=>False
 | n+1,l0,i1 =>
 (cbr (decide (i1<(((List.length l0):Nat):Int)))
 (asr (decide ((0:Int)≤i1))
 (asr (decide (i1<(((List.length l0):Nat):Int)))
 (lt (List.getD l0 (i1.toNat) .nils) (fun yr1 =>
 (asr (conf (.agg [.i .i64,.i .i64,.i .i64,.i .i64]) yr1)
 (lt (IntKind.i64.wrap (i1+(1:Int))) (fun yi2 =>
 (asr (decide (1=List.length ([(.data ([(.agg [(.int .i64 (intOfV (cellAt yr1 0))),(.int .i64 (intOfV (cellAt yr1 1))),(.int .i64 (intOfV (cellAt yr1 2))),(.int .i64 (intOfV (cellAt yr1 3)))])]:List PV))]:List PV))&&decide (1=List.length ([(.data ([(.agg [(.int .i64 (intOfV (cellAt yr1 0))),(.int .i64 (intOfV (cellAt yr1 1))),(.int .i64 (intOfV (cellAt yr1 2))),(.int .i64 (intOfV (cellAt yr1 3)))])]:List PV))]:List PV)))
 (yga x1 n ([(.data ([(.agg [(.int .i64 (intOfV (cellAt yr1 0))),(.int .i64 (intOfV (cellAt yr1 1))),(.int .i64 (intOfV (cellAt yr1 2))),(.int .i64 (intOfV (cellAt yr1 3)))])]:List PV))]:List PV) l0 yi2)))))))))
 (x0 l0 i1 false))
def yqR (p0:List PV) (K:List PV→Prop):Prop :=
 (∃ n:Nat,ygb
 (fun _ _ _=>(K ([]:List PV)))
 (fun yl16 _ _ _=>(asr (decide ((List.length yl16)=(List.length yl16)))
 (asr (decide ((0+(List.length yl16))≤(List.length yl16)))
 (K (List.take (List.length yl16) yl16)))))
 n p0 (0:Int))
def yeQ (p0:List PV) (K:List PV→Prop):Prop:=yqR p0 K
def yqS (w:yot) (as:List PV) (K:PV→Prop):Prop :=
 match as with
 | [(.data p0)]=>w p0 (fun r0=>K (.agg [(.data r0)]))
 | _=>False
def ywQ (as:List PV) (K:PV→Prop):Prop:=yqS yeQ as K
def ygE (F:Frm) (H:Hp) (A0:List PV→Int→Prop) (A1:List PV→List PV→Int→Prop):Prop :=
 match F,H with
 | [(0,.v (.data l0)),(2,.box (.agg [.nils])),(3,.box (.agg [.nils])),(4,.v (.int .i64 i1))],[]=>(A0 l0 i1)
 | [(0,.v (.data l1)),(2,.box (.agg [.nils])),(3,.box (.agg [(.own 0 0 t2 t3 none)])),(4,.v (.int .i64 i4))],[⟨false,true,1,l0⟩]=>asr (decide (t2=List.length l0)&&decide (t3=List.length l0)) (A1 l0 l1 i4)
 | _,_=>False
def ymj (Q:Ex→Frm→Hp→Prop):List PV→Int→Bool→Prop:=(fun l0 i1 b2=>Q (.exit 0) [(0,.v (.data l0)),(2,.box (.agg [.nils])),(3,.box (.agg [.nils])),(4,.v (.int .i64 i1)),(8,.v (.bool b2))] [])
def yeF (Q:Ex→Frm→Hp→Prop):List PV→List PV→Int→Bool→Prop:=(fun l0 l1 i4 b5=>Q (.exit 0) [(0,.v (.data l1)),(2,.box (.agg [.nils])),(3,.box (.agg [(.own 0 0 (List.length l0) (List.length l0) none)])),(4,.v (.int .i64 i4)),(8,.v (.bool b5))] [⟨false,true,1,l0⟩])
def yh2 (Q:Ex→Frm→Hp→Prop) (n:Nat) (F:Frm) (H:Hp):Prop:=ygE F H (fun l0 i1=>ygb (ymj Q) (yeF Q) n l0 i1) (fun l0 l1 i4=>yga (yeF Q) n l0 l1 i4)
def yjU:LP:=fun id F H Q =>
 bif Nat.beq id 99620800 then ygE F H (fun l0 i1=>∃ n:Nat,ygb (ymj Q) (yeF Q) n l0 i1) (fun l0 l1 i4=>∃ n:Nat,yga (yeF Q) n l0 l1 i4) else
 False
def ymT (e:List (Nat×EffF)):SE:=⟨(E e),lookS [],lookI [],yjU⟩
theorem yuj (e:List (Nat×EffF)) (he:EG e):SEOk (ymT e):=yam trivial trivial he.ok
theorem yvg (e:List (Nat×EffF)) ( Q n l0 i1):WC (E e) (callW (ymT e) 5) (yjU) ykc [(0,.v (.data l0)),(2,.box (.agg [.nils])),(3,.box (.agg [.nils])),(4,.v (.int .i64 i1))] [] (fun x F' H'=>match x with | .norm=>yh2 Q n F' H' | .exit i=>Q (.exit i) F' H' | .ret=>Q .ret F' H')=ygb (ymj Q) (yeF Q) (n+1) l0 i1:=by kernel_rfl
theorem yvh (e:List (Nat×EffF)) ( Q n l0 l1 i4):WC (E e) (callW (ymT e) 5) (yjU) ykc [(0,.v (.data l1)),(2,.box (.agg [.nils])),(3,.box (.agg [(.own 0 0 (List.length l0) (List.length l0) none)])),(4,.v (.int .i64 i4))] [⟨false,true,1,l0⟩] (fun x F' H'=>match x with | .norm=>yh2 Q n F' H' | .exit i=>Q (.exit i) F' H' | .ret=>Q .ret F' H')=yga (yeF Q) (n+1) l0 l1 i4:=by kernel_rfl
theorem yzo (e:List (Nat×EffF)) (_:EG e):LpOk (E e) (yjU) ykc:=(yag (by kernel_rfl))
theorem yx3 (e:List (Nat×EffF)) (he:EG e):∀ F H Q,yjU 99620800 F H Q→LoopT (E e) ykc F H Q:=by
 intro F H Q h
 have go:=LoopT.intro (yaC (yuj e he) 5) (yzo e he) (yh2 Q) (by
   intro F H h
   unfold yh2 ygE at h
   split at h
   · exact h
   · obtain ⟨hg,k⟩:=yai.1 h
     clear h
     have h:=k
     clear k
     try simp only [Bool.and_eq_true,decide_eq_true_eq] at hg
     obtain ⟨g0,g1⟩:=hg;subst g0;subst g1;exact h
   · exact h) (by
   intro n F H h
   unfold yh2 ygE at h
   split at h
   · exact (yvg ..).mpr h
   · obtain ⟨hg,k⟩:=yai.1 h
     clear h
     have h:=k
     clear k
     try simp only [Bool.and_eq_true,decide_eq_true_eq] at hg
     obtain ⟨g0,g1⟩:=hg;subst g0;subst g1;exact (yvh ..).mpr h
   · exact h.elim)
 have h:ygE F H _ _:=h
 unfold ygE at h
 split at h
 · obtain ⟨n,h⟩:=h;exact go n _ _ h
 · obtain ⟨hg,n,h⟩:=yai.1 h;exact go n _ _ (yai.2 ⟨hg,h⟩)
 · exact h.elim
theorem yEZ (e:List (Nat×EffF)) ( p0 K):WP (ymT e) 6 yF8 [(.data p0)] K=yqR p0 (fun r0=>K (.agg [(.data r0)])):=by kernel_rfl
theorem ywR (e:List (Nat×EffF)) (he:EG e):OkF (E e) ywQ yix:=by
 intro as K h
 unfold ywQ yqS at h
 split at h
 · exact WP_ok (yuj e he) (ya8 (l:=[(99620800,ykc)]) ⟨yx3 e he,trivial⟩ (by kernel_rfl)) (by kernel_rfl) (by kernel_rfl) (fun _=>yab (by kernel_rfl) _) (he.num _ (by kernel_rfl)) ((yEZ ..).mpr h)
 · exact h.elim
abbrev ys2:Type:=(List PV→Prop)→Prop
def yAV (K:List PV→Prop):Prop :=
 (K ([(.agg [(.int .i64 (2:Int)),(.data ([(.int .i64 (0:Int)),(.int .i64 (2:Int))]:List PV)),(.data ([(.int .i64 (1:Int))]:List PV))]),(.agg [(.int .i64 (2:Int)),(.data ([(.int .i64 (0:Int)),(.int .i64 (1:Int)),(.int .i64 (2:Int))]:List PV)),(.data ([(.int .i64 (3:Int)),(.int .i64 (1:Int))]:List PV))])]:List PV))
def ys3 (K:List PV→Prop):Prop:=yAV  K
def yvi (w:ys2) (as:List PV) (K:PV→Prop):Prop :=
 match as with
 | []=>w  (fun r0=>K (.data r0))
 | _=>False
def yAW (as:List PV) (K:PV→Prop):Prop:=yvi ys3 as K
def yIE:LP:=fun _ _ _ _ =>
 False
def yAX (e:List (Nat×EffF)):SE:=⟨(E e),lookS [],lookI [],yIE⟩
theorem yGD (e:List (Nat×EffF)) (he:EG e):SEOk (yAX e):=yam trivial trivial he.ok
theorem yIF (e:List (Nat×EffF)) ( K):WP (yAX e) 6 yKe [] K=yAV  (fun r0=>K (.data r0)):=by kernel_rfl
theorem yIG (e:List (Nat×EffF)) (he:EG e):OkF (E e) yAW yge:=by
 intro as K h
 unfold yAW yvi at h
 split at h
 · exact WP_ok (yGD e he) (yag (by kernel_rfl)) (by kernel_rfl) (by kernel_rfl) (fun _=>yab (by kernel_rfl) _) (he.num _ (by kernel_rfl)) ((yIF ..).mpr h)
 · exact h.elim
abbrev ylj:Type:=List PV→List PV→Int→Int→Int→(Bool→Prop)→Prop
def ynV (a0:yie) (a1:yli) (p0 p1:List PV) (p2 p3 p4:Int) (K:Bool→Prop):Prop :=
 (a0 p0 p1 p2 (fun yi3 yi4 yi5 =>
 (a1 p0 p1 p2 (fun yb8 yi9 =>
 (jn (fun (yj11:Bool→Prop) =>
 (cbr (yi5 ==(0:Int))
 (cbr (yi3 == p3)
 (cbr (yi4 == p4)
 (cbr (yi9 ==(0:Int))
 (yj11 (!yb8))
 (yj11 false))
 (yj11 false))
 (yj11 false))
 (yj11 false)))
 (fun yb10=>(K yb10)))))))
def yh3 (p0 p1:List PV) (p2 p3 p4:Int) (K:Bool→Prop):Prop:=ynV yf9 yh1 p0 p1 p2 p3 p4 K
def ynW (w:ylj) (as:List PV) (K:PV→Prop):Prop :=
 match as with
 | [(.data p0),(.agg [(.data p1)]),(.int .u8 p2),(.int .i64 p3),(.int .i64 p4)]=>w p0 p1 p2 p3 p4 (fun r0=>K (.bool r0))
 | _=>False
def ysG (as:List PV) (K:PV→Prop):Prop:=ynW yh3 as K
def yAY (_:yie) (_:yli):LP:=fun _ _ _ _ =>
 False
def ysH (a0:yie) (a1:yli):SE:=⟨(E ef0),lookS [(yf6,ykM a0),(yhX,ynU a1)],lookI [],yAY a0 a1⟩
theorem yzp:SEOk (ysH yf9 yh1):=yam ⟨yx2,yAU,trivial⟩ trivial effG0.ok
theorem yAZ (a0 a1 p0 p1 p2 p3 p4 K):WP (ysH a0 a1) 6 yBM [(.data p0),(.agg [(.data p1)]),(.int .u8 p2),(.int .i64 p3),(.int .i64 p4)] K=ynV a0 a1 p0 p1 p2 p3 p4 (fun r0=>K (.bool r0)):=by kernel_rfl
theorem yA0:OkF (E ef0) ysG yeT:=by
 intro as K h
 unfold ysG ynW at h
 split at h
 · exact WP_ok (yzp) (yag (by kernel_rfl)) (by kernel_rfl) (by kernel_rfl) (fun _=>yab (by kernel_rfl) _) (effG0.num _ (by kernel_rfl)) ((yAZ ..).mpr h)
 · exact h.elim
abbrev yiQ:Type:=(Bool→Prop)→Prop
def yqT (a0:yjT) (a1:yot) (a2:ys2) (a3:yaW) (a4:ydX) (a5:yhZ) (a6:yia) (a7:ylj) (K:Bool→Prop):Prop :=
 (a0 (0:Int) (1:Int) (fun yi18 yi19 yi20 yi21 =>
 (a0 (1:Int) (2:Int) (fun yi22 yi23 yi24 yi25 =>
 (a1 ([(.agg [(.int .i64 yi18),(.int .i64 yi19),(.int .i64 yi20),(.int .i64 yi21)]),(.agg [(.int .i64 yi22),(.int .i64 yi23),(.int .i64 yi24),(.int .i64 yi25)])]:List PV) (fun yl26 =>
 (a0 (1:Int) (2:Int) (fun yi27 yi28 yi29 yi30 =>
 (a0 (0:Int) (1:Int) (fun yi31 yi32 yi33 yi34 =>
 (a1 ([(.agg [(.int .i64 yi27),(.int .i64 yi28),(.int .i64 yi29),(.int .i64 yi30)]),(.agg [(.int .i64 yi31),(.int .i64 yi32),(.int .i64 yi33),(.int .i64 yi34)])]:List PV) (fun yl35 =>
 (a2  (fun yl39 =>
 (a3 yl39 yl26 (fun yl40 yi41 =>
 (a2  (fun yl46 =>
 (a4 yl46 yl26 (fun yi47 _ yi49 =>
 (a2  (fun yl54 =>
 (a4 yl54 yl35 (fun yi55 _ yi57 =>
 (a5 (1:Int) (fun yi62 yi63 =>
 (a5 (3:Int) (fun yi64 yi65 =>
 (jn (fun (yj74:Bool→Prop) =>
 (cbr (yi41 ==(0:Int))
 (a6 yl40 ([(.data ([(.agg [(.int .i64 yi62),(.int .i64 yi63)]),(.agg [(.int .i64 yi62),(.int .i64 yi63)])]:List PV)),(.data ([(.agg [(.int .i64 yi64),(.int .i64 yi65)]),(.agg [(.int .i64 yi62),(.int .i64 yi63)])]:List PV))]:List PV) (fun yb75 =>
 (cbr yb75
 (cbr (yi49 ==(0:Int))
 (cbr (yi47 ==(17:Int))
 (cbr (yi57 ==(0:Int))
 (cbr (yi55 ==(23:Int))
 (a2  (fun yl76 =>
 (a7 yl76 yl26 (2:Int) (1:Int) (1:Int) (fun yb77 =>
 (cbr yb77
 (a2  (fun yl78 =>
 (a7 yl78 yl26 (4:Int) (1:Int) (0:Int) (fun yb79 =>
 (cbr yb79
 (a2  (fun yl80 =>
 (a7 yl80 yl26 (8:Int) (1:Int) (0:Int) (fun yb81 =>
 (yj74 yb81)))))
 (yj74 false))))))
 (yj74 false))))))
 (yj74 false))
 (yj74 false))
 (yj74 false))
 (yj74 false))
 (yj74 false))))
 (yj74 false)))
 (fun yb73=>(K yb73)))))))))))))))))))))))))))))))
def ydu (K:Bool→Prop):Prop:=yqT ydt yeQ ys3 yaq ya9 yjx yda yh3  K
def yqU (w:yiQ) (as:List PV) (K:PV→Prop):Prop :=
 match as with
 | []=>w  (fun r0=>K (.bool r0))
 | _=>False
def ywS (as:List PV) (K:PV→Prop):Prop:=yqU ydu as K
def yE0 (_:yjT) (_:yot) (_:ys2) (_:yaW) (_:ydX) (_:yhZ) (_:yia) (_:ylj):LP:=fun _ _ _ _ =>
 False
def ywT (a0:yjT) (a1:yot) (a2:ys2) (a3:yaW) (a4:ydX) (a5:yhZ) (a6:yia) (a7:ylj):SE:=⟨(E ef0),lookS [(yhV,ys1 a0),(yix,yqS a1),(yge,yvi a2),(yaY,yep a3),(yeG,ylh a4),(yg2,yps a5),(yf5,ykE a6),(yeT,ynW a7)],lookI [],yE0 a0 a1 a2 a3 a4 a5 a6 a7⟩
theorem yCB:SEOk (ywT ydt yeQ ys3 yaq ya9 yjx yda yh3):=yam ⟨(yDf ef0 effG0),(ywR ef0 effG0),(yIG ef0 effG0),(yfp ef0 effG0),yo7,(yxK ef0 effG0),(ypv ef0 effG0),yA0,trivial⟩ trivial effG0.ok
theorem yE1 (a0 a1 a2 a3 a4 a5 a6 a7 K):WP (ywT a0 a1 a2 a3 a4 a5 a6 a7) 6 yGj [] K=yqT a0 a1 a2 a3 a4 a5 a6 a7  (fun r0=>K (.bool r0)):=by kernel_rfl
theorem yE2:OkF (E ef0) ywS yfB:=by
 intro as K h
 unfold ywS yqU at h
 split at h
 · exact WP_ok (yCB) (yag (by kernel_rfl)) (by kernel_rfl) (by kernel_rfl) (fun _=>yab (by kernel_rfl) _) (effG0.num _ (by kernel_rfl)) ((yE1 ..).mpr h)
 · exact h.elim
abbrev yvj:Type:=List PV→List PV→(Bool→Prop)→Prop
def yaA (a0:yiP) (a1:yiQ) (a2:ydX) (a3:ymY) (a4:yjT) (a5:ygr) (x0:List PV→Int→List PV→Int→Bool→Prop) (x1:Bool→Prop):Nat→List PV→Int→List PV→Int→Prop
 | 0,_,_,_,_=>False
 | n+1,l0,i1,l2,i3 =>
 (cbr (decide (i3<(((List.length l0):Nat):Int)))
 (jn (fun yj65 =>
 (asr (decide ((0:Int)≤i3))
 (asr (decide (i3<(((List.length l2):Nat):Int)))
 (lt (List.getD l2 (i3.toNat) .nils) (fun yr71 =>
 (asr (conf (.one (.d)) yr71)
 (a3 (datOfV yr71) (fun yi72 yi73 yi74 =>
 (asr (decide ((0:Int)≤i3))
 (asr (decide (i3<(((List.length l0):Nat):Int)))
 (lt (List.getD l0 (i3.toNat) .nils) (fun yr84 =>
 (asr (conf (.agg [.i .i64,.d,.d]) yr84)
 (asr (decide ((0:Int)<(((List.length l0):Nat):Int)))
 (lt (List.getD l0 0 .nils) (fun yr85 =>
 (asr (conf (.agg [.i .i64,.d,.d]) yr85)
 (a4 (0:Int) (intOfV (cellAt yr85 0)) (fun yi86 yi87 yi88 yi89 =>
 (a5 (intOfV (cellAt yr84 0)) (datOfV (cellAt yr84 1)) (datOfV (cellAt yr84 2)) ([(.agg [(.int .i64 yi86),(.int .i64 yi87),(.int .i64 yi88),(.int .i64 yi89)])]:List PV) (fun yi90 yi91 yi92 =>
 (cbr (yi74 !=(0:Int))
 yj65
 (jn (fun (yj94:Bool→Prop) =>
 (cbr (yi92 !=(0:Int))
 (yj94 true)
 (yj94 (!((yi90 == yi72)&&((yi91 == yi73)&&true))))))
 (fun yb93=>(cbr yb93
 (x1 false)
 yj65)))))))))))))))))))))))))
 (lt (IntKind.i64.wrap (i3+(1:Int))) (fun yi66 =>
 (yaA a0 a1 a2 a3 a4 a5 x0 x1 n l0 i1 l2 yi66))))
 (x0 l0 i1 l2 i3 false))
def yhT (a0:yiP) (a1:yiQ) (a2:ydX) (a3:ymY) (a4:yjT) (a5:ygr) (p0 p1:List PV) (K:Bool→Prop):Prop :=
 (a0 p0 p1 (fun yb5 =>
 (cbr (!yb5)
 (a1  (fun yb7 =>
 (K yb7)))
 (a2 p0 p1 (fun yi11 yl12 yi13 =>
 (cbr (yi13 !=(0:Int))
 (jn (fun (yj20:Bool→Prop) =>
 (cbr (yi13 ==(16:Int))
 (a1  (fun yb21 =>
 (yj20 yb21)))
 (yj20 false)))
 (fun yb19=>(K yb19)))
 (lt (IntKind.u8.wrap (BitVec.ofInt IntKind.u8.bits yi11&&&BitVec.ofInt IntKind.u8.bits (1:Int)).toNat) (fun yi25 =>
 (lt (IntKind.u8.wrap (BitVec.ofInt IntKind.u8.bits yi11&&&BitVec.ofInt IntKind.u8.bits (2:Int)).toNat) (fun yi26 =>
 (lt (IntKind.u8.wrap (BitVec.ofInt IntKind.u8.bits yi11&&&BitVec.ofInt IntKind.u8.bits (4:Int)).toNat) (fun yi27 =>
 (jn (fun (yj31:Bool→Prop) =>
 (cbr (yi25 !=(0:Int))
 (cbr (yi27 !=(0:Int))
 (cbr (!(yi26 !=(0:Int)))
 (yj31 true)
 (cbr (yi25 !=(0:Int))
 (cbr (yi26 !=(0:Int))
 (cbr (!(yi27 !=(0:Int)))
 (cbr ((((List.length p0):Nat):Int) ==(2:Int))
 (yj31 true)
 (yj31 ((((List.length yl12):Nat):Int) !=(((List.length p0):Nat):Int))))
 (yj31 ((((List.length yl12):Nat):Int) !=(((List.length p0):Nat):Int))))
 (yj31 ((((List.length yl12):Nat):Int) !=(((List.length p0):Nat):Int))))
 (yj31 ((((List.length yl12):Nat):Int) !=(((List.length p0):Nat):Int)))))
 (cbr (yi25 !=(0:Int))
 (cbr (yi26 !=(0:Int))
 (cbr (!(yi27 !=(0:Int)))
 (cbr ((((List.length p0):Nat):Int) ==(2:Int))
 (yj31 true)
 (yj31 ((((List.length yl12):Nat):Int) !=(((List.length p0):Nat):Int))))
 (yj31 ((((List.length yl12):Nat):Int) !=(((List.length p0):Nat):Int))))
 (yj31 ((((List.length yl12):Nat):Int) !=(((List.length p0):Nat):Int))))
 (yj31 ((((List.length yl12):Nat):Int) !=(((List.length p0):Nat):Int)))))
 (cbr (yi25 !=(0:Int))
 (cbr (yi26 !=(0:Int))
 (cbr (!(yi27 !=(0:Int)))
 (cbr ((((List.length p0):Nat):Int) ==(2:Int))
 (yj31 true)
 (yj31 ((((List.length yl12):Nat):Int) !=(((List.length p0):Nat):Int))))
 (yj31 ((((List.length yl12):Nat):Int) !=(((List.length p0):Nat):Int))))
 (yj31 ((((List.length yl12):Nat):Int) !=(((List.length p0):Nat):Int))))
 (yj31 ((((List.length yl12):Nat):Int) !=(((List.length p0):Nat):Int))))))
 (fun yb30=>(cbr yb30
 (K false)
 (cbr (!(yi25 !=(0:Int)))
 (a1  (fun yb35 =>
 (K yb35)))
 (∃ n:Nat,yaA a0 a1 a2 a3 a4 a5
 (fun _ _ _ _ _=>(a1  (fun yb107 =>
 (K yb107))))
 (fun yb108=>(K yb108))
 n p0 yi11 yl12 (0:Int))))))))))))))))))
def yfX (p0 p1:List PV) (K:Bool→Prop):Prop:=yhT yeP ydu ya9 ycV ydt yar p0 p1 K
def ymr (w:yvj) (as:List PV) (K:PV→Prop):Prop :=
 match as with
 | [(.data p0),(.agg [(.data p1)])]=>w p0 p1 (fun r0=>K (.bool r0))
 | _=>False
def yms (as:List PV) (K:PV→Prop):Prop:=ymr yfX as K
def ycK (F:Frm) (H:Hp) (A0:List PV→Int→List PV→Int→Prop):Prop :=
 match F,H with
 | [(0,.v (.data l0)),(5,.box (.agg [(.int .u8 i1),(.data l2)])),(10,.v (.int .i64 i3))],[]=>(A0 l0 i1 l2 i3)
 | _,_=>False
def yfY (Q:Ex→Frm→Hp→Prop):List PV→Int→List PV→Int→Bool→Prop:=(fun l0 i1 l2 i3 b4=>Q (.exit 0) [(0,.v (.data l0)),(5,.box (.agg [(.int .u8 i1),(.data l2)])),(10,.v (.int .i64 i3)),(82,.v (.bool b4))] [])
def yfZ (Q:Ex→Frm→Hp→Prop):Bool→Prop:=(fun b0=>Q .ret [(4,.v (.bool b0))] [])
def yeR (a0:yiP) (a1:yiQ) (a2:ydX) (a3:ymY) (a4:yjT) (a5:ygr) (Q:Ex→Frm→Hp→Prop) (n:Nat) (F:Frm) (H:Hp):Prop:=ycK F H (fun l0 i1 l2 i3=>yaA a0 a1 a2 a3 a4 a5 (yfY Q) (yfZ Q) n l0 i1 l2 i3)
def yfg (a0:yiP) (a1:yiQ) (a2:ydX) (a3:ymY) (a4:yjT) (a5:ygr):LP:=fun id F H Q =>
 bif Nat.beq id 90112000 then ycK F H (fun l0 i1 l2 i3=>∃ n:Nat,yaA a0 a1 a2 a3 a4 a5 (yfY Q) (yfZ Q) n l0 i1 l2 i3) else
 False
def yhU (a0:yiP) (a1:yiQ) (a2:ydX) (a3:ymY) (a4:yjT) (a5:ygr):SE:=⟨(E ef0),lookS [(ylt,yqQ a0),(yfB,yqU a1),(yeG,ylh a2),(ypi,yu2 a3),(yhV,ys1 a4),(yby,yjs a5)],lookI [],yfg a0 a1 a2 a3 a4 a5⟩
theorem ylH:SEOk (yhU yeP ydu ya9 ycV ydt yar):=yam ⟨(yEY ef0 effG0),yE2,yo7,(yIC ef0 effG0),(yDf ef0 effG0),(ynJ ef0 effG0),trivial⟩ trivial effG0.ok
theorem yn7 (a0 a1 a2 a3 a4 a5 Q n l0 i1 l2 i3):WC (E ef0) (callW (yhU a0 a1 a2 a3 a4 a5) 5) (yfg a0 a1 a2 a3 a4 a5) ynw [(0,.v (.data l0)),(5,.box (.agg [(.int .u8 i1),(.data l2)])),(10,.v (.int .i64 i3))] [] (fun x F' H'=>match x with | .norm=>yeR a0 a1 a2 a3 a4 a5 Q n F' H' | .exit i=>Q (.exit i) F' H' | .ret=>Q .ret F' H')=yaA a0 a1 a2 a3 a4 a5 (yfY Q) (yfZ Q) (n+1) l0 i1 l2 i3:=by kernel_rfl
theorem yqV:LpOk (E ef0) (yfg yeP ydu ya9 ycV ydt yar) ynw:=(yag (by kernel_rfl))
theorem ypB:∀ F H Q,yfg yeP ydu ya9 ycV ydt yar 90112000 F H Q→LoopT (E ef0) ynw F H Q:=by
 intro F H Q h
 have go:=LoopT.intro (yaC (ylH) 5) (yqV) (yeR yeP ydu ya9 ycV ydt yar Q) (by
   intro F H h
   unfold yeR ycK at h
   split at h
   · exact h
   · exact h) (by
   intro n F H h
   unfold yeR ycK at h
   split at h
   · exact (yn7 ..).mpr h
   · exact h.elim)
 have h:ycK F H _:=h
 unfold ycK at h
 split at h
 · obtain ⟨n,h⟩:=h;exact go n _ _ h
 · exact h.elim
theorem ytD (a0 a1 a2 a3 a4 a5 p0 p1 K):WP (yhU a0 a1 a2 a3 a4 a5) 6 yuC [(.data p0),(.agg [(.data p1)])] K=yhT a0 a1 a2 a3 a4 a5 p0 p1 (fun r0=>K (.bool r0)):=by kernel_rfl
theorem ytE:OkF (E ef0) yms yih:=by
 intro as K h
 unfold yms ymr at h
 split at h
 · exact WP_ok (ylH) (ya8 (l:=[(90112000,ynw)]) ⟨ypB,trivial⟩ (by kernel_rfl)) (by kernel_rfl) (by kernel_rfl) (fun _=>yab (by kernel_rfl) _) (effG0.num _ (by kernel_rfl)) ((ytD ..).mpr h)
 · exact h.elim
end Go.Pf.Vc
namespace Go.Pf.Vc
open Go Go.Pf
set_option linter.unusedVariables false
theorem yCC (p0:List PV) (r0:List PV) (h:∀ K:List PV→Prop,K r0→yeQ p0 K) (K:List PV→Prop):yeQ p0 K=K r0 :=
 propext ⟨fun k=>detC (ywR [] ybg) (as:=[(.data p0)]) (x:=(.agg [(.data r0)])) (fun K' k'=>h (fun r0=>K' (.agg [(.data r0)])) k') (K:=fun x=>match x with | (.agg [(.data r0)])=>K r0 | _=>False) k,h K⟩
end Go.Pf.Vc
namespace Go.Pf.Vc
open Go Go.Pf
def I64 (n:Int):Prop:=-9223372036854775808≤n∧n≤9223372036854775807
def U64 (n:Int):Prop:=0≤n∧n≤18446744073709551615
theorem wu64' (n:Int):IntKind.u64.wrap n=n % 18446744073709551616:=by
 simp only [IntKind.wrap,IntKind.signed,IntKind.bits,Bool.false_and,Bool.false_eq_true,if_false]
 rfl
theorem wi64' (n:Int):IntKind.i64.wrap n=if n % 18446744073709551616≥9223372036854775808 then n % 18446744073709551616-18446744073709551616 else n % 18446744073709551616:=by
 have e1:(2:Int) ^ 64=18446744073709551616:=rfl
 have e2:(2:Int) ^ (64-1)=9223372036854775808:=rfl
 simp only [IntKind.wrap,IntKind.signed,IntKind.bits,Bool.true_and,e1,e2]
 by_cases h:n % 18446744073709551616≥9223372036854775808 <;> simp [h]
theorem wu64 {n:Int} (h:U64 n):IntKind.u64.wrap n=n:=by
 unfold U64 at h
 rw [wu64']
 omega
theorem wi64 {n:Int} (h:I64 n):IntKind.i64.wrap n=n:=by
 unfold I64 at h
 rw [wi64']
 split <;> omega
theorem yaf {x y:Prop}:cbr true x y=x:=rfl
theorem yaa {x y:Prop}:cbr false x y=y:=rfl
theorem yay {x:Prop}:asr true x=x:=rfl
theorem ylk {p:Int} (h:I64 p) (K:Int→Prop):ycc p K=K (p.natAbs:Int):=by
 unfold I64 at h
 unfold ycc yoA
 by_cases hp:p<0
 · have e:IntKind.u64.wrap ((0:Int)-IntKind.u64.wrap p)=(p.natAbs:Int):=by
     rw [wu64',wu64']
     omega
   rw [decide_eq_true hp,yaf,e]
 · rw [decide_eq_false hp,yaa,wu64 ⟨by omega,by omega⟩]
   congr 1
   omega
theorem yGE (x:Int→Int→Bool→Prop):∀ (n a b:Nat),b<n→ydK x n (a:Int) (b:Int)=x ((Nat.gcd a b:Nat):Int) 0 false
 | 0,a,b,h=>by omega
 | n+1,a,b,h=>by
   unfold ydK
   by_cases hb:b=0
   · subst hb
     simp [cbr]
   · have h1:(b:Int)>0:=by omega
     have h2:¬((b:Int)=0):=by omega
     rw [decide_eq_true h1,yaf,decide_eq_false h2,Bool.not_false,yay]
     have e:Int.tmod (a:Int) (b:Int)=((a % b:Nat):Int):=by rw [Int.tmod_eq_emod_of_nonneg (by omega)];omega
     rw [e,yGE x n b (a % b) (by have:=Nat.mod_lt a (show b>0 by omega);omega)]
     rw [Nat.gcd_comm a b,Nat.gcd_rec b a,Nat.gcd_comm]
theorem yx4 (a b:Nat) (K:Int→Prop) (h:K ((Nat.gcd a b:Nat):Int)):ybI (a:Int) (b:Int) K:=by
 unfold ybI ypR
 exact ⟨b+1,by rw [yGE _ (b+1) a b (by omega)];exact h⟩
def RV (n d:Int):Prop:=1≤d∧d≤1000000000000000000∧-1000000000000000000≤n∧n≤1000000000000000000∧Nat.gcd n.natAbs d.natAbs=1
instance (n d:Int):Decidable (RV n d):=by unfold RV;infer_instance
def chk (n d:Int):Int:=if RV n d then 0 else 8
theorem yA1 {n d:Int} (hn:I64 n) (hd:I64 d) {K:Int→Prop} (h:K (chk n d)):ycL n d K:=by
 unfold ycL ynx
 by_cases h1:d<1
 · have e:chk n d=8:=if_neg fun h=>by have:=h.1;omega
   rw [decide_eq_true h1,yaf,← e];exact h
 · have hd':=hd;have hn':=hn
   unfold I64 at hd' hn'
   have ed:IntKind.u64.wrap d=((d.natAbs:Nat):Int):=by rw [wu64 ⟨by omega,by omega⟩];omega
   rw [decide_eq_false h1,yaa,ylk hn,ed]
   by_cases h2:((if ((d.natAbs:Nat):Int)>((n.natAbs:Nat):Int) then ((d.natAbs:Nat):Int) else ((n.natAbs:Nat):Int))>1000000000000000000)
   · have e:chk n d=8:=if_neg fun h=>by
       obtain ⟨a1,a2,a3,a4,_⟩:=h
       revert h2;split <;> omega
     rw [decide_eq_true h2,yaf,← e];exact h
   · rw [decide_eq_false h2,yaa,ylk hn]
     refine yx4 _ _ _ ?_
     have h3:0<Nat.gcd n.natAbs d.natAbs:=Nat.gcd_pos_of_pos_right _ (by omega)
     have h4:d≤1000000000000000000∧-1000000000000000000≤n∧n≤1000000000000000000:=by
       revert h2;split <;> omega
     by_cases h5:((Nat.gcd n.natAbs d.natAbs:Nat):Int)>1
     · have e:chk n d=8:=if_neg fun h=>by have:=h.2.2.2.2;omega
       rw [decide_eq_true h5,yaf,← e];exact h
     · have e:chk n d=0:=if_pos ⟨by omega,h4.1,h4.2.1,h4.2.2,by omega⟩
       rw [decide_eq_false h5,yaa,← e];exact h
end Go.Pf.Vc
namespace Go.Pf.Vc
open Go Go.Pf
theorem mask32 {p:Int} (h:U64 p):IntKind.u64.wrap (BitVec.ofInt IntKind.u64.bits p&&&BitVec.ofInt IntKind.u64.bits (4294967295:Int)).toNat=p % 4294967296:=by
 unfold U64 at h
 have e1:(BitVec.ofInt 64 p).toNat=p.toNat:=by
   rw [BitVec.toNat_ofInt];omega
 have e2:(BitVec.ofInt 64 (4294967295:Int)).toNat=4294967295:=rfl
 have e3:(BitVec.ofInt IntKind.u64.bits p&&&BitVec.ofInt IntKind.u64.bits (4294967295:Int)).toNat=p.toNat % 4294967296:=by
   show (BitVec.ofInt 64 p&&&BitVec.ofInt 64 (4294967295:Int)).toNat=_
   rw [BitVec.toNat_and,e1,e2]
   exact Nat.and_two_pow_sub_one_eq_mod p.toNat 32
 rw [e3,wu64']
 omega
theorem fdiv32 (p:Int):Int.fdiv p 4294967296=p / 4294967296:=by
 rw [Int.fdiv_eq_ediv_of_nonneg _ (by omega)]
theorem ynX {a b:Int} (ha:U64 a) (hb:U64 b) (K:Int→Int→Prop):yeu a b K=K (a*b / 18446744073709551616) (a*b % 18446744073709551616):=by
 unfold yeu yuH
 simp only [fdiv32]
 rw [mask32 ha,mask32 hb]
 unfold U64 at ha hb
 have ha':=ha;have hb':=hb
 obtain ⟨x1,hx1⟩:∃ x,x=a / 4294967296:=⟨_,rfl⟩
 obtain ⟨x0,hx0⟩:∃ x,x=a % 4294967296:=⟨_,rfl⟩
 obtain ⟨y1,hy1⟩:∃ x,x=b / 4294967296:=⟨_,rfl⟩
 obtain ⟨y0,hy0⟩:∃ x,x=b % 4294967296:=⟨_,rfl⟩
 rw [← hx1,← hx0,← hy1,← hy0]
 have b1:0≤x1∧x1≤4294967295:=by omega
 have b2:0≤x0∧x0≤4294967295:=by omega
 have b3:0≤y1∧y1≤4294967295:=by omega
 have b4:0≤y0∧y0≤4294967295:=by omega
 have pb:∀ x y:Int,0≤x∧x≤4294967295→0≤y∧y≤4294967295→0≤x*y∧x*y≤18446744065119617025:=by
   intro x y hx hy
   refine ⟨Int.mul_nonneg hx.1 hy.1,?_⟩
   have:=Int.mul_le_mul hx.2 hy.2 hy.1 (by omega:(0:Int)≤4294967295)
   omega
 have p1:=pb x1 y1 b1 b3
 have p2:=pb x1 y0 b1 b4
 have p3:=pb x0 y1 b2 b3
 have p4:=pb x0 y0 b2 b4
 have ea:a=x1*4294967296+x0:=by omega
 have eb:b=y1*4294967296+y0:=by omega
 have eab:a*b=x1*y1*18446744073709551616+x1*y0*4294967296+x0*y1*4294967296+x0*y0:=by
   rw [ea,eb];grind
 obtain ⟨P,hP⟩:∃ x,x=x1*y1:=⟨_,rfl⟩
 obtain ⟨Q,hQ⟩:∃ x,x=x1*y0:=⟨_,rfl⟩
 obtain ⟨R,hR⟩:∃ x,x=x0*y1:=⟨_,rfl⟩
 obtain ⟨S,hS⟩:∃ x,x=x0*y0:=⟨_,rfl⟩
 rw [← hP] at p1;rw [← hQ] at p2;rw [← hR] at p3;rw [← hS] at p4
 rw [← hP,← hQ,← hR,← hS] at eab ⊢
 have w1:IntKind.u64.wrap S=S:=wu64 ⟨by omega,by omega⟩
 have w2:IntKind.u64.wrap Q=Q:=wu64 ⟨by omega,by omega⟩
 have w3:IntKind.u64.wrap R=R:=wu64 ⟨by omega,by omega⟩
 have w4:IntKind.u64.wrap P=P:=wu64 ⟨by omega,by omega⟩
 rw [w1,w2,w3,w4]
 have w5:IntKind.u64.wrap (Q+S / 4294967296)=Q+S / 4294967296:=wu64 ⟨by omega,by omega⟩
 rw [w5,mask32 ⟨by omega,by omega⟩]
 have w6:IntKind.u64.wrap ((Q+S / 4294967296) % 4294967296+R)=(Q+S / 4294967296) % 4294967296+R:=wu64 ⟨by omega,by omega⟩
 rw [w6]
 have w7:IntKind.u64.wrap (P+(Q+S / 4294967296) / 4294967296)=P+(Q+S / 4294967296) / 4294967296:=by
   have:a*b / 18446744073709551616≤18446744073709551615:=by
     have h1:a*b≤18446744073709551615*18446744073709551615:=by
       have:=Int.mul_le_mul ha'.2 hb'.2 hb'.1 (by omega:(0:Int)≤18446744073709551615)
       exact this
     omega
   exact wu64 ⟨by omega,by omega⟩
 rw [w7]
 have hab:a*b≤18446744073709551615*18446744073709551615:=Int.mul_le_mul ha'.2 hb'.2 hb'.1 (by omega:(0:Int)≤18446744073709551615)
 rw [eab] at hab ⊢
 rw [wu64',wu64']
 congr 1
 omega
theorem yN8 {a b:Int} {K:Int→Prop} (h:K (if a=0 then b else a)):yel [.int .i64 a,.int .i64 b] K:=by
 unfold yel yhC
 refine ⟨3,?_⟩
 have e1:IntKind.i64.wrap 1=1:=by decide
 have e2:IntKind.i64.wrap 2=2:=by decide
 by_cases ha:a=0
 · by_cases hb:b=0
   · simp [ybm,yaf,yaa,yay,conf,confC,intOfV,e1,e2,ha,hb] at h ⊢;exact h
   · have e3:(b != 0)=true:=by simpa using hb
     simp [ybm,yaf,yaa,yay,conf,confC,intOfV,e1,e2,ha,e3] at h ⊢;exact h
 · have e3:(a != 0)=true:=by simpa using ha
   simp [ybm,yaf,yaa,yay,conf,confC,intOfV,e1,e2,ha,e3] at h ⊢;exact h
def chk2 (a b c d:Int):Int:=if chk a b=0 then chk c d else chk a b
theorem ysI {a b c d:Int} (ha:I64 a) (hb:I64 b) (hc:I64 c) (hd:I64 d) {K:Int→Prop} (h:K (chk2 a b c d)):ybG a b c d K:=by
 unfold ybG ynz
 exact yA1 ha hb (yA1 hc hd (yN8 h))
end Go.Pf.Vc
namespace Go.Pf.Vc
open Go Go.Pf
def cmp3 (a b:Int):Int:=if a<b then -1 else if a>b then 1 else 0
theorem yE3 (a b:Int) (K:Int→Prop):ydP a b K=K (cmp3 a b):=by
 unfold ydP yg5
 simp only [ygQ,yii,bne_self_eq_false,yaa,cmp3]
 by_cases h:a<b
 · simp [h,yaf]
 · by_cases h2:a>b
   · simp [h,h2,yaf,yaa]
   · simp [h,h2,yaa]
theorem ywU (a b:Int) (K:Int→Prop):ydq a b K=K (cmp3 a b):=by
 unfold ydq ygG
 simp only [yfN,yhF,bne_self_eq_false,yaa,cmp3]
 by_cases h:a<b
 · simp [h,yaf]
 · by_cases h2:a>b
   · simp [h,h2,yaf,yaa]
   · simp [h,h2,yaa]
theorem yMZ {a b:Int} {K:Int→Prop} (h:K (if a=0 then b else a)):yjg [.int .i64 a,.int .i64 b] K:=by
 unfold yjg yoB
 refine ⟨3,?_⟩
 have e1:IntKind.i64.wrap 1=1:=by decide
 have e2:IntKind.i64.wrap 2=2:=by decide
 by_cases ha:a=0
 · by_cases hb:b=0
   · simp [ycD,yaf,yaa,yay,conf,confC,intOfV,e1,e2,ha,hb] at h ⊢;exact h
   · have e3:(b != 0)=true:=by simpa using hb
     simp [ycD,yaf,yaa,yay,conf,confC,intOfV,e1,e2,ha,e3] at h ⊢;exact h
 · have e3:(a != 0)=true:=by simpa using ha
   simp [ycD,yaf,yaa,yay,conf,confC,intOfV,e1,e2,ha,e3] at h ⊢;exact h
theorem I64.of {n:Int} (h1:-1000000000000000000≤n) (h2:n≤1000000000000000000):I64 n:=⟨by omega,by omega⟩
theorem ydG {a b c d:Int}:chk2 a b c d=0↔RV a b∧RV c d:=by
 unfold chk2 chk
 by_cases h1:RV a b <;> by_cases h2:RV c d <;> simp [h1,h2]
def cmpR (a b c d:Int):Int:=cmp3 (a*d) (c*b)
theorem yKp {x y:Int} (_:0≤x) (_:0≤y):(if cmp3 (x / 18446744073709551616) (y / 18446744073709551616)=0 then cmp3 (x % 18446744073709551616) (y % 18446744073709551616) else cmp3 (x / 18446744073709551616) (y / 18446744073709551616))=cmp3 x y:=by
 unfold cmp3
 split <;> rename_i h <;> revert h <;> repeat' split <;> intro h <;> omega
theorem U64.abs {n:Int} (h:I64 n):U64 ((n.natAbs:Nat):Int):=by unfold I64 at h;unfold U64;omega
theorem yLs {a b c d:Int} (ha:I64 a) (hb:I64 b) (hc:I64 c) (hd:I64 d) {K:Int→Int→Prop} (h:K (if chk2 a b c d=0 then cmpR a b c d else 0) (chk2 a b c d)):ybK a b c d K:=by
 unfold ybK ypV
 refine ysI ha hb hc hd ?_
 by_cases hk:chk2 a b c d=0
 · rw [if_pos hk] at h
   rw [hk] at h ⊢
   obtain ⟨⟨b1,b2,a1,a2,_⟩,d1,d2,c1,c2,_⟩:=ydG.1 hk
   simp only [bne_self_eq_false,yaa]
   by_cases hs:decide (a<0)=decide (c<0)
   · have e:(decide (a<0) != decide (c<0))=false:=by rw [hs];simp
     rw [e,yaa,ylk ha,wu64 ⟨by omega,by omega⟩,ynX (U64.abs ha) ⟨by omega,by omega⟩,ylk hc,wu64 ⟨by omega,by omega⟩,ynX (U64.abs hc) ⟨by omega,by omega⟩,ywU,ywU]
     refine yMZ ?_
     have p1:0≤((a.natAbs:Nat):Int)*d:=Int.mul_nonneg (by omega) (by omega)
     have p2:0≤((c.natAbs:Nat):Int)*b:=Int.mul_nonneg (by omega) (by omega)
     rw [yKp p1 p2]
     by_cases hneg:a<0
     · have hcn:c<0:=by simpa [hneg] using hs.symm
       rw [decide_eq_true hneg,yaf]
       have e1:((a.natAbs:Nat):Int)*d=-(a*d):=by
         rw [show ((a.natAbs:Nat):Int)=-a by omega,Int.neg_mul]
       have e2:((c.natAbs:Nat):Int)*b=-(c*b):=by
         rw [show ((c.natAbs:Nat):Int)=-c by omega,Int.neg_mul]
       have e3:IntKind.i64.wrap (0-cmp3 (((a.natAbs:Nat):Int)*d) (((c.natAbs:Nat):Int)*b))=cmpR a b c d:=by
         rw [e1,e2]
         unfold cmpR cmp3
         rw [wi64 (by unfold I64;repeat' split <;> omega)]
         repeat' split <;> omega
       rw [e3];exact h
     · have hcn:¬c<0:=by simpa [hneg] using hs.symm
       rw [decide_eq_false hneg,yaa,show ((a.natAbs:Nat):Int)=a by omega,show ((c.natAbs:Nat):Int)=c by omega]
       exact h
   · have e:(decide (a<0) != decide (c<0))=true:=by simpa using hs
     rw [e,yaf,yE3]
     have e2:cmp3 a c=cmpR a b c d:=by
       unfold cmpR cmp3
       by_cases hneg:a<0
       · have hcn:¬c<0:=by intro hcn;simp [hneg,hcn] at hs
         have q1:a*d<0:=Int.mul_neg_of_neg_of_pos hneg (by omega)
         have q2:0≤c*b:=Int.mul_nonneg (by omega) (by omega)
         rw [if_pos (by omega),if_pos (by omega)]
       · have hcn:c<0:=by
           by_cases hcn:c<0
           · exact hcn
           · simp [hneg,hcn] at hs
         have q1:c*b<0:=Int.mul_neg_of_neg_of_pos hcn (by omega)
         have q2:0≤a*d:=Int.mul_nonneg (by omega) (by omega)
         rw [if_neg (by omega),if_pos (by omega),if_neg (by omega),if_pos (by omega)]
     rw [e2];exact h
 · rw [if_neg hk] at h
   have e:(chk2 a b c d != 0)=true:=by simpa using hk
   rw [e,yaf];exact h
end Go.Pf.Vc
namespace Go.Pf.Vc
open Go Go.Pf
def blen (x:Nat):Nat:=if x=0 then 0 else x.log2+1
theorem yJp (x:Nat):x<2 ^ blen x:=by
 unfold blen
 split
 · rename_i h;subst h;decide
 · exact Nat.lt_log2_self
theorem yzz {x:Nat} (h:x≠0):2 ^ (blen x-1)≤x:=by
 unfold blen
 rw [if_neg h]
 exact Nat.log2_self_le h
theorem yM0 {x m:Nat} (h1:2 ^ m≤x) (h2:x<2 ^ (m+1)):blen x=m+1:=by
 have hx:x≠0:=by have:=Nat.two_pow_pos m;omega
 unfold blen
 rw [if_neg hx]
 congr 1
 have a:=Nat.log2_self_le hx
 have b:=Nat.lt_log2_self (n:=x)
 have c1:¬(x.log2<m):=fun h=>by
   have:=Nat.pow_le_pow_right (show 0<2 by omega) (show x.log2+1≤m by omega)
   omega
 have c2:¬(m<x.log2):=fun h=>by
   have:=Nat.pow_le_pow_right (show 0<2 by omega) (show m+1≤x.log2 by omega)
   omega
 omega
theorem yLt {x k:Nat} (h:2 ^ k≤x):blen x=k+blen (x / 2 ^ k):=by
 have hp:=Nat.two_pow_pos k
 have hq:x / 2 ^ k≠0:=by
   have:=Nat.div_pos h hp
   omega
 have h1:=yzz hq
 have h2:=yJp (x / 2 ^ k)
 obtain ⟨m,hm⟩:∃ m,blen (x / 2 ^ k)=m+1:=⟨blen (x / 2 ^ k)-1,by
   have:blen (x / 2 ^ k)≠0:=by unfold blen;rw [if_neg hq];omega
   omega⟩
 rw [hm] at h1 h2 ⊢
 rw [Nat.add_sub_cancel] at h1
 have:=yM0 (x:=x) (m:=k+m) (by
     rw [Nat.pow_add]
     calc 2 ^ k*2 ^ m≤2 ^ k*(x / 2 ^ k):=Nat.mul_le_mul_left _ h1
       _≤x:=Nat.mul_div_le _ _) (by
     rw [show k+m+1=k+(m+1) by omega,Nat.pow_add]
     rw [Nat.mul_comm]
     exact (Nat.div_lt_iff_lt_mul hp).1 h2)
 omega
theorem yN9:∀ x:Nat,x<256→intOfV (List.getD len8tab x .nils)=(blen x:Int):=by decide +kernel
theorem wu8 {n:Int} (h0:0≤n) (h1:n<256):IntKind.u8.wrap n=n:=by
 have e1:(2:Int) ^ 8=256:=rfl
 simp only [IntKind.wrap,IntKind.signed,IntKind.bits,Bool.false_and,Bool.false_eq_true,if_false,e1]
 omega
theorem yM1 {n:Int} (h0:0≤n) (h1:n<256):intOfV (List.getD len8tab (IntKind.u8.wrap n).toNat .nils)=(blen n.toNat:Int):=by
 rw [wu8 h0 h1]
 exact yN9 n.toNat (by omega)
theorem blen8 {n:Nat} (h:n<256):blen n≤8:=by
 by_cases h0:n=0
 · subst h0;decide
 · have:=yzz h0
   have h2:blen n-1<8:=by
     refine Nat.lt_of_not_le fun hc=>?_
     have:=Nat.pow_le_pow_right (show 0<2 by omega) hc
     omega
   omega
theorem leaf8 {n k:Int} (h0:0≤n) (h1:n<256) (hk:0≤k∧k≤56) {m:Int} (hm:m=k+blen n.toNat) {K:Int→Prop} (h:K m) :
   asr (decide ((0:Int)≤(IntKind.u8.wrap n))) (asr (decide ((IntKind.u8.wrap n)<(256:Int))) (K (IntKind.i64.wrap (k+(IntKind.i64.wrap (intOfV (List.getD len8tab ((IntKind.u8.wrap n).toNat) .nils))))))):=by
 have hb:=blen8 (n:=n.toNat) (by omega)
 have e1:IntKind.i64.wrap (blen n.toNat:Int)=blen n.toNat:=wi64 (by unfold I64;omega)
 have e2:IntKind.i64.wrap (k+blen n.toNat:Int)=k+blen n.toNat:=wi64 (by unfold I64;omega)
 rw [yM1 h0 h1,wu8 h0 h1,decide_eq_true h0,yay,decide_eq_true h1,yay,e1,e2,← hm]
 exact h
theorem fdivn (p q:Int) (hq:0≤q):Int.fdiv p q=p / q:=Int.fdiv_eq_ediv_of_nonneg _ hq
theorem yLu {p:Int} (hp:U64 p) {K:Int→Prop} (h:K (blen p.toNat:Int)):ypp p K:=by
 unfold U64 at hp
 unfold ypp yuJ
 simp only [fdivn _ 4294967296 (by omega),fdivn _ 65536 (by omega),fdivn _ 256 (by omega)]
 have key:∀ (k:Nat) (q:Int),2 ^ k≤p.toNat→q=p / (2 ^ k:Nat)→(blen p.toNat:Int)=k+blen q.toNat:=by
   intro k q hk hq
   have e:q.toNat=p.toNat / 2 ^ k:=by
     rw [hq]
     obtain ⟨m,rfl⟩:∃ m:Nat,p=m:=⟨p.toNat,by omega⟩
     rw [← Int.natCast_ediv,Int.toNat_natCast,Int.toNat_natCast]
   rw [e]
   have:=yLt hk
   omega
 by_cases h1:p≥4294967296
 · rw [decide_eq_true h1,yaf]
   by_cases h2:p / 4294967296≥65536
   · rw [decide_eq_true h2,yaf]
     by_cases h3:p / 4294967296 / 65536≥256
     · rw [decide_eq_true h3,yaf]
       exact leaf8 (by omega) (by omega) (by omega) (key 56 _ (by omega) (by omega)) h
     · rw [decide_eq_false h3,yaa]
       exact leaf8 (by omega) (by omega) (by omega) (key 48 _ (by omega) (by omega)) h
   · rw [decide_eq_false h2,yaa]
     by_cases h3:p / 4294967296≥256
     · rw [decide_eq_true h3,yaf]
       exact leaf8 (by omega) (by omega) (by omega) (key 40 _ (by omega) (by omega)) h
     · rw [decide_eq_false h3,yaa]
       exact leaf8 (by omega) (by omega) (by omega) (key 32 _ (by omega) (by omega)) h
 · rw [decide_eq_false h1,yaa]
   by_cases h2:p≥65536
   · rw [decide_eq_true h2,yaf]
     by_cases h3:p / 65536≥256
     · rw [decide_eq_true h3,yaf]
       exact leaf8 (by omega) (by omega) (by omega) (key 24 _ (by omega) (by omega)) h
     · rw [decide_eq_false h3,yaa]
       exact leaf8 (by omega) (by omega) (by omega) (key 16 _ (by omega) (by omega)) h
   · rw [decide_eq_false h2,yaa]
     by_cases h3:p≥256
     · rw [decide_eq_true h3,yaf]
       exact leaf8 (by omega) (by omega) (by omega) (key 8 _ (by omega) (by omega)) h
     · rw [decide_eq_false h3,yaa]
       exact leaf8 (by omega) (by omega) (by omega) (by simp) h
theorem ywV {p:Int} (hp:U64 p) {K:Int→Prop} (h:K (64-blen p.toNat:Int)):ya7 p K:=by
 unfold ya7 yhH
 refine yLu hp ?_
 have hb:blen p.toNat≤64:=by
   unfold U64 at hp
   by_cases h0:p.toNat=0
   · rw [h0];decide
   · have:=yzz h0
     have h2:blen p.toNat-1<64:=by
       refine Nat.lt_of_not_le fun hc=>?_
       have:=Nat.pow_le_pow_right (show 0<2 by omega) hc
       omega
     omega
 rw [wi64 (by unfold I64;omega)]
 exact h
end Go.Pf.Vc
namespace Go.Pf.Vc
open Go Go.Pf
structure DI (y yn1 yn0 u un q r:Int):Prop where
 hy:y=yn1*4294967296+yn0
 h1:2147483648≤yn1∧yn1≤4294967295
 h0:0≤yn0∧yn0≤4294967295
 hn:0≤un∧un≤4294967295
 hu:q*yn1+r=u
 hq:0≤q∧q≤4294967297
 hr:0≤r∧r≤4294967295
 hlt:u<y
 hU:u*4294967296+un<(q+1)*y
def DG (y u un q:Int):Prop:=0≤q∧q≤4294967295∧q*y≤u*4294967296+un∧u*4294967296+un<(q+1)*y
theorem DI.step {y yn1 yn0 u un q r:Int} (h:DI y yn1 yn0 u un q r) {A B C:Prop}
   (hA:DG y u un (q-1)→0≤q-1→q-1≤4294967296→A)
   (hB:DI y yn1 yn0 u un (q-1) (r+yn1)→B)
   (hC:DG y u un q→C) :
   cbr (decide (q≥(4294967296:Int)))
     (cbr (decide ((IntKind.u64.wrap (r+yn1))≥(4294967296:Int))) A B)
     (cbr (decide ((IntKind.u64.wrap (q*yn0))>(IntKind.u64.wrap ((IntKind.u64.wrap ((4294967296:Int)*r))+un))))
       (cbr (decide ((IntKind.u64.wrap (r+yn1))≥(4294967296:Int))) A B) C):=by
 have h':=h
 obtain ⟨hy,h1,h0,hn,hu,hq,hr,hlt,hU⟩:=h
 have e1:IntKind.u64.wrap (r+yn1)=r+yn1:=wu64 ⟨by omega,by omega⟩
 have eq1:q*y=q*yn1*4294967296+q*yn0:=by rw [hy];grind
 have eq2:(q-1)*y=q*y-y:=by grind
 have eq3:(q-1)*yn1=q*yn1-yn1:=by grind
 have eq4:(q-1+1)*y=q*y:=by grind
 have eq5:(q-1)*yn0=q*yn0-yn0:=by grind
 have big:u*4294967296+un<q*y→cbr (decide ((IntKind.u64.wrap (r+yn1))≥(4294967296:Int))) A B:=by
   intro hb
   have q1:0≤q-1:=by
     refine Int.not_lt.1 fun hc=>?_
     have hq0:q=0:=by omega
     subst hq0
     simp at hb hu
     omega
   rw [e1]
   by_cases hc:r+yn1≥4294967296
   · rw [decide_eq_true hc,yaf]
     have hp:(q-1)*yn0≤4294967296*4294967295:=Int.mul_le_mul (by omega) h0.2 h0.1 (by omega)
     have hle:(q-1)*y≤u*4294967296+un:=by
       have:(q-1)*y=(q-1)*yn1*4294967296+(q-1)*yn0:=by rw [hy];grind
       omega
     have hlt32:q-1≤4294967295:=by
       refine Int.not_lt.1 fun hc=>?_
       have:4294967296*y≤(q-1)*y:=Int.mul_le_mul_of_nonneg_right (by omega) (by omega)
       omega
     exact hA ⟨q1,hlt32,hle,by rw [eq4];exact hb⟩ q1 (by omega)
   · rw [decide_eq_false hc,yaa]
     exact hB ⟨hy,h1,h0,hn,by rw [eq3];omega,⟨q1,by omega⟩,⟨by omega,by omega⟩,hlt,by rw [eq4];exact hb⟩
 by_cases ha:q≥4294967296
 · rw [decide_eq_true ha,yaf]
   refine big ?_
   have:4294967296*y≤q*y:=Int.mul_le_mul_of_nonneg_right (by omega) (by omega)
   omega
 · rw [decide_eq_false ha,yaa]
   have hp:q*yn0≤4294967295*4294967295:=Int.mul_le_mul (by omega) h0.2 h0.1 (by omega)
   have hp0:0≤q*yn0:=Int.mul_nonneg hq.1 h0.1
   have w1:IntKind.u64.wrap (q*yn0)=q*yn0:=wu64 ⟨hp0,by omega⟩
   have w2:IntKind.u64.wrap ((4294967296:Int)*r)=4294967296*r:=wu64 ⟨by omega,by omega⟩
   have w3:IntKind.u64.wrap ((4294967296:Int)*r+un)=4294967296*r+un:=wu64 ⟨by omega,by omega⟩
   rw [w1,w2,w3]
   by_cases hb:q*yn0>4294967296*r+un
   · rw [decide_eq_true hb,yaf]
     exact big (by omega)
   · rw [decide_eq_false hb,yaa]
     exact hC ⟨hq.1,by omega,by omega,hU⟩
theorem L0_of (W:Int→(Int→Prop)→Prop) {y yn1 yn0 u un:Int} (s v un0:Int) {x0 x1:Int→Int→Int→Int→Int→Int→Int→Int→Int→Bool→Prop}
   (hx:∀ q r b,DG y u un q→x0 y s yn1 yn0 v un un0 q r b) (hx1:∀ q r b,DG y u un q→x1 y s yn1 yn0 v un un0 q r b) :
   ∀ (n:Nat) (q r:Int) (b:Bool),DI y yn1 yn0 u un q r→4294967296≤r+n*2147483648→ycM W x0 x1 (n+1) y s yn1 yn0 v un un0 q r b:=by
 intro n
 induction n with
 | zero =>
   intro q r b h hn
   have:=h.hr.2
   exact absurd hn (by omega)
 | succ n ih =>
   intro q r b h hn
   unfold ycM
   refine h.step (fun g a1 a2=>?_) (fun g=>?_) (fun g=>hx1 _ _ _ g)
   · rw [wu64 (n:=q-1) ⟨by omega,by omega⟩]
     exact hx _ _ _ g
   · have e1:IntKind.u64.wrap (q-1)=q-1:=wu64 ⟨g.hq.1,by have:=g.hq.2;omega⟩
     have e2:IntKind.u64.wrap (r+yn1)=r+yn1:=wu64 ⟨g.hr.1,by have:=g.hr.2;omega⟩
     rw [e1,e2]
     exact ih _ _ _ g (by have:=h.h1.1;omega)
theorem L1_of (W:Int→(Int→Prop)→Prop) {y yn1 yn0 u un:Int} (s q1 v:Int) {x0 x1:Int→Int→Int→Int→Int→Int→Int→Int→Int→Bool→Prop}
   (hx:∀ q r b,DG y u un q→x0 y s yn1 yn0 un q1 r v q b) (hx1:∀ q r b,DG y u un q→x1 y s yn1 yn0 un q1 r v q b) :
   ∀ (n:Nat) (q r:Int) (b:Bool),DI y yn1 yn0 u un q r→4294967296≤r+n*2147483648→ycN W x0 x1 (n+1) y s yn1 yn0 un q1 r v q b:=by
 intro n
 induction n with
 | zero =>
   intro q r b h hn
   have:=h.hr.2
   exact absurd hn (by omega)
 | succ n ih =>
   intro q r b h hn
   unfold ycN
   refine h.step (fun g a1 a2=>?_) (fun g=>?_) (fun g=>hx1 _ _ _ g)
   · rw [wu64 (n:=q-1) ⟨by omega,by omega⟩]
     exact hx _ _ _ g
   · have e1:IntKind.u64.wrap (q-1)=q-1:=wu64 ⟨g.hq.1,by have:=g.hq.2;omega⟩
     have e2:IntKind.u64.wrap (r+yn1)=r+yn1:=wu64 ⟨g.hr.1,by have:=g.hr.2;omega⟩
     rw [e1,e2]
     exact ih _ _ _ g (by have:=h.h1.1;omega)
theorem yOa (W:Int→(Int→Prop)→Prop) {y yn1 yn0 u un:Int} (s v un0:Int) {x0 x1:Int→Int→Int→Int→Int→Int→Int→Int→Int→Bool→Prop}
   (hx:∀ q r b,DG y u un q→x0 y s yn1 yn0 v un un0 q r b) (hx1:∀ q r b,DG y u un q→x1 y s yn1 yn0 v un un0 q r b) (q r:Int) (h:DI y yn1 yn0 u un q r):ygi W x0 x1 3 y s yn1 yn0 v un un0 q r:=by
 have:=L0_of W s v un0 hx hx1 2 q r true h (by have:=h.hr.1;omega)
 unfold ycM at this
 unfold ygi
 exact this
theorem yOb (W:Int→(Int→Prop)→Prop) {y yn1 yn0 u un:Int} (s q1 v:Int) {x0 x1:Int→Int→Int→Int→Int→Int→Int→Int→Int→Bool→Prop}
   (hx:∀ q r b,DG y u un q→x0 y s yn1 yn0 un q1 r v q b) (hx1:∀ q r b,DG y u un q→x1 y s yn1 yn0 un q1 r v q b) (q r:Int) (h:DI y yn1 yn0 u un q r):yd4 W x0 x1 3 y s yn1 yn0 un q1 r v q:=by
 have:=L1_of W s q1 v hx hx1 2 q r true h (by have:=h.hr.1;omega)
 unfold ycN at this
 unfold yd4
 exact this
end Go.Pf.Vc
namespace Go.Pf.Vc
open Go Go.Pf
theorem DI.init {y yn1 yn0 u un:Int} (hy:y=yn1*4294967296+yn0) (h1:2147483648≤yn1∧yn1≤4294967295) (h0:0≤yn0∧yn0≤4294967295) (hn:0≤un∧un≤4294967295)
   (hu:0≤u) (hlt:u<y):DI y yn1 yn0 u un (u / yn1) (u-u / yn1*yn1):=by
 have a1:=Int.mul_ediv_add_emod u yn1
 have a2:=Int.emod_nonneg u (show yn1≠0 by omega)
 have a3:=Int.emod_lt_of_pos u (show 0<yn1 by omega)
 have a4:u / yn1*yn1=yn1*(u / yn1):=Int.mul_comm _ _
 have a5:0≤u / yn1:=Int.ediv_nonneg hu (by omega)
 have a6:u / yn1≤4294967297:=by
   refine Int.not_lt.1 fun hc=>?_
   have:yn1*4294967298≤yn1*(u / yn1):=Int.mul_le_mul_of_nonneg_left (by omega) (by omega)
   omega
 refine ⟨hy,h1,h0,hn,by omega,⟨a5,a6⟩,⟨by omega,by omega⟩,hlt,?_⟩
 have e:(u / yn1+1)*y=yn1*(u / yn1)*4294967296+yn1*4294967296+(u / yn1+1)*yn0:=by
   obtain ⟨t,ht⟩:∃ t,t=u / yn1:=⟨_,rfl⟩
   rw [← ht,hy];grind
 have:0≤(u / yn1+1)*yn0:=Int.mul_nonneg (by omega) h0.1
 omega
theorem or_eq {a b:Int} {k:Nat} (ha:0≤a) (hb:0≤b∧b<2 ^ k) (hab:a*2 ^ k≤18446744073709551615∧b≤18446744073709551615) (hs:a*2 ^ k+b≤18446744073709551615) :
   IntKind.u64.wrap (BitVec.ofInt IntKind.u64.bits (a*2 ^ k)|||BitVec.ofInt IntKind.u64.bits b).toNat=a*2 ^ k+b:=by
 obtain ⟨x,rfl⟩:∃ x:Nat,a=x:=⟨a.toNat,by omega⟩
 obtain ⟨z,rfl⟩:∃ z:Nat,b=z:=⟨b.toNat,by omega⟩
 have ec:((x:Int)*2 ^ k)=((2 ^ k*x:Nat):Int):=by push_cast;exact Int.mul_comm _ _
 rw [ec] at hab hs ⊢
 have hz:z<2 ^ k:=by have:=hb.2;exact_mod_cast this
 have e:(BitVec.ofInt IntKind.u64.bits ((2 ^ k*x:Nat):Int)|||BitVec.ofInt IntKind.u64.bits (z:Int)).toNat=2 ^ k*x+z:=by
   show (BitVec.ofInt 64 ((2 ^ k*x:Nat):Int)|||BitVec.ofInt 64 (z:Int)).toNat=_
   rw [BitVec.toNat_or,BitVec.toNat_ofInt,BitVec.toNat_ofInt]
   have e1:(((2 ^ k*x:Nat):Int) % (2 ^ 64:Nat)).toNat=2 ^ k*x:=by omega
   have e2:((z:Int) % (2 ^ 64:Nat)).toNat=z:=by omega
   rw [e1,e2,Nat.two_pow_add_eq_or_of_lt hz]
 rw [e,wu64 ⟨by omega,by omega⟩]
 push_cast;rfl
theorem yJq {u un q y:Int} (h0:0≤u*4294967296+un-q*y) (h1:u*4294967296+un-q*y≤18446744073709551615) :
   IntKind.u64.wrap (IntKind.u64.wrap (IntKind.u64.wrap (u*4294967296)+un)-IntKind.u64.wrap (q*y))=u*4294967296+un-q*y:=by
 simp only [wu64']
 omega
theorem tdivn {a b:Int} (h:0≤a):Int.tdiv a b=a / b:=Int.tdiv_eq_ediv_of_nonneg h
theorem tmodn {a b:Int} (h:0≤a):Int.tmod a b=a % b:=Int.tmod_eq_emod_of_nonneg h
theorem yGF {h l y:Int} (hh:U64 h) (hl:U64 l) (hy:U64 y) (hlt:h<y) {K:Int→Int→Prop}
   (k:K ((h*18446744073709551616+l) / y) ((h*18446744073709551616+l) % y)):ygj h l y K:=by
 unfold U64 at hh hl hy
 unfold ygj yuL
 have b1:(y ==(0:Int))=false:=beq_eq_false_iff_ne.2 (by omega)
 have b2:decide (y≤h)=false:=decide_eq_false (by omega)
 have b3:(!(decide (y=(0:Int))))=true:=by rw [decide_eq_false (by omega)];rfl
 rw [b1,yaa,b2,yaa,b3]
 by_cases h0:h=0
 · subst h0
   have:((0:Int) == 0)=true:=rfl
   rw [this,yaf,yay,yay,tdivn hl.1,tmodn hl.1]
   have e:(0:Int)*18446744073709551616+l=l:=by omega
   rw [e] at k
   have b4:l / y≤l:=Int.ediv_le_self _ hl.1
   rw [wu64 ⟨Int.ediv_nonneg hl.1 (by omega),by omega⟩]
   exact k
 · have b4:(h ==(0:Int))=false:=beq_eq_false_iff_ne.2 h0
   rw [b4,yaa]
   refine ywV ⟨by omega,by omega⟩ ?_
   have hyn:y.toNat≠0:=by omega
   have c1:=yJp y.toNat
   have c2:=yzz hyn
   have c3:blen y.toNat≤64:=by
     refine Nat.le_of_not_lt fun hc=>?_
     have:=Nat.pow_le_pow_right (show 0<2 by omega) (show 64≤blen y.toNat-1 by omega)
     omega
   have c4:1≤blen y.toNat:=by
     refine Nat.le_of_not_lt fun hc=>?_
     have:blen y.toNat=0:=by omega
     rw [this] at c1
     omega
   obtain ⟨m,hm⟩:∃ m,m=64-blen y.toNat:=⟨_,rfl⟩
   have es:(64-(blen y.toNat:Int))=(m:Int):=by omega
   rw [es]
   have m63:m≤63:=by omega
   have e1:IntKind.u64.wrap (m:Int)=m:=wu64 ⟨by omega,by omega⟩
   have e2:IntKind.u64.wrap ((64:Int)-m)=((64-m:Nat):Int):=by
     rw [wu64 ⟨by omega,by omega⟩];omega
   have e3:min ((m:Int)).toNat IntKind.u64.bits=m:=by
     show min ((m:Int)).toNat 64=m
     rw [Int.toNat_natCast];omega
   have e4:min (((64-m:Nat):Int)).toNat IntKind.u64.bits=64-m:=by
     show min (((64-m:Nat):Int)).toNat 64=64-m
     rw [Int.toNat_natCast];omega
   simp only [e1]
   rw [e2,e3,e4]
   have p64:(2:Int) ^ (64-m)*2 ^ m=18446744073709551616:=by
     rw [← Int.pow_add,show 64-m+m=64 by omega];rfl
   have p63:(2:Int) ^ (63-m)*2 ^ m=9223372036854775808:=by
     rw [← Int.pow_add,show 63-m+m=63 by omega];rfl
   have tp:(0:Int)<2 ^ m:=Int.pow_pos (by omega)
   have tp':(0:Int)<2 ^ (64-m):=Int.pow_pos (by omega)
   have y1:y<(2:Int) ^ (64-m):=by
     have:blen y.toNat=64-m:=by omega
     rw [this] at c1
     have c1':((y.toNat:Nat):Int)<((2 ^ (64-m):Nat):Int):=by exact_mod_cast c1
     push_cast at c1'
     omega
   have y2:(2:Int) ^ (63-m)≤y:=by
     have:blen y.toNat-1=63-m:=by omega
     rw [this] at c2
     have c2':((2 ^ (63-m):Nat):Int)≤((y.toNat:Nat):Int):=by exact_mod_cast c2
     push_cast at c2'
     omega
   have Y1:y*2 ^ m<18446744073709551616:=by
     have:=Int.mul_lt_mul_of_pos_right y1 tp
     omega
   have Y2:9223372036854775808≤y*2 ^ m:=by
     have:=Int.mul_le_mul_of_nonneg_right y2 (show (0:Int)≤2 ^ m by omega)
     omega
   have H1:(h+1)*2 ^ m≤y*2 ^ m:=Int.mul_le_mul_of_nonneg_right (by omega) (by omega)
   have H2:(h+1)*2 ^ m=h*2 ^ m+2 ^ m:=by grind
   have H0:0≤h*2 ^ m:=Int.mul_nonneg hh.1 (by omega)
   have fd:Int.fdiv l (2 ^ (64-m))=l / 2 ^ (64-m):=fdivn _ _ (by omega)
   have L1:=Int.mul_ediv_add_emod l (2 ^ (64-m))
   have L2:=Int.emod_nonneg l (show (2:Int) ^ (64-m)≠0 by omega)
   have L3:=Int.emod_lt_of_pos l tp'
   have L4:0≤l / 2 ^ (64-m):=Int.ediv_nonneg hl.1 (by omega)
   have L5:l / 2 ^ (64-m)<2 ^ m:=by
     refine Int.ediv_lt_of_lt_mul tp' ?_
     rw [Int.mul_comm,p64];omega
   have w1:IntKind.u64.wrap (y*2 ^ m)=y*2 ^ m:=wu64 ⟨by omega,by omega⟩
   have w2:IntKind.u64.wrap (h*2 ^ m)=h*2 ^ m:=wu64 ⟨by omega,by omega⟩
   have w3:IntKind.u64.wrap (BitVec.ofInt IntKind.u64.bits (h*2 ^ m)|||BitVec.ofInt IntKind.u64.bits (l / 2 ^ (64-m))).toNat=h*2 ^ m+l / 2 ^ (64-m) :=
     or_eq hh.1 ⟨L4,L5⟩ ⟨by omega,by omega⟩ (by omega)
   have w4:IntKind.u64.wrap (l*2 ^ m)=l % 2 ^ (64-m)*2 ^ m:=by
     have e:l*2 ^ m=(l / 2 ^ (64-m))*18446744073709551616+l % 2 ^ (64-m)*2 ^ m:=by
       rw [← p64]
       obtain ⟨a,ha⟩:∃ a,a=l / 2 ^ (64-m):=⟨_,rfl⟩
       obtain ⟨b,hb⟩:∃ b,b=l % 2 ^ (64-m):=⟨_,rfl⟩
       obtain ⟨t,ht⟩:∃ t,t=(2:Int) ^ m:=⟨_,rfl⟩
       obtain ⟨t',ht'⟩:∃ t,t=(2:Int) ^ (64-m):=⟨_,rfl⟩
       rw [← ha,← hb,← ht'] at L1
       rw [← ha,← hb,← ht,← ht']
       rw [← L1];grind
     have e5:l % 2 ^ (64-m)*2 ^ m<18446744073709551616:=by
       rw [← p64];exact Int.mul_lt_mul_of_pos_right L3 tp
     have e6:0≤l % 2 ^ (64-m)*2 ^ m:=Int.mul_nonneg L2 (by omega)
     rw [e,wu64'];omega
   have e5:l % 2 ^ (64-m)*2 ^ m<18446744073709551616:=by
     rw [← p64];exact Int.mul_lt_mul_of_pos_right L3 tp
   have e6:0≤l % 2 ^ (64-m)*2 ^ m:=Int.mul_nonneg L2 (by omega)
   have eN:(h*18446744073709551616+l)*2 ^ m=(h*2 ^ m+l / 2 ^ (64-m))*18446744073709551616+l % 2 ^ (64-m)*2 ^ m:=by
     rw [← p64]
     obtain ⟨a,ha⟩:∃ a,a=l / 2 ^ (64-m):=⟨_,rfl⟩
     obtain ⟨b,hb⟩:∃ b,b=l % 2 ^ (64-m):=⟨_,rfl⟩
     obtain ⟨t,ht⟩:∃ t,t=(2:Int) ^ m:=⟨_,rfl⟩
     obtain ⟨t',ht'⟩:∃ t,t=(2:Int) ^ (64-m):=⟨_,rfl⟩
     rw [← ha,← hb,← ht'] at L1
     rw [← ha,← hb,← ht,← ht']
     rw [← L1];grind
   have U1:h*2 ^ m+l / 2 ^ (64-m)<y*2 ^ m:=by omega
   have U0:0≤h*2 ^ m+l / 2 ^ (64-m):=by omega
   rw [fd,w1,w2,w3,w4]
   have b5:(!(decide ((m:Int)<0)))=true:=by rw [decide_eq_false (by omega)];rfl
   have b6:(!(decide (((64-m:Nat):Int)<0)))=true:=by rw [decide_eq_false (by omega)];rfl
   rw [b5,b6,yay,yay,yay,yay]
   generalize h*2 ^ m+l / 2 ^ (64-m)=u at *
   generalize hl0:l % 2 ^ (64-m)*2 ^ m=v at *
   generalize hY:y*2 ^ m=Y at *
   rw [fdivn Y _ (by omega),fdivn v _ (by omega),mask32 ⟨by omega,by omega⟩,mask32 ⟨by omega,by omega⟩,tdivn U0]
   have b7:(!(decide (Y / 4294967296=(0:Int))))=true:=by rw [decide_eq_false (by omega)];rfl
   rw [b7,yay]
   obtain ⟨yn1,hyn1⟩:∃ a,a=Y / 4294967296:=⟨_,rfl⟩
   obtain ⟨yn0,hyn0⟩:∃ a,a=Y % 4294967296:=⟨_,rfl⟩
   obtain ⟨un1,hun1⟩:∃ a,a=v / 4294967296:=⟨_,rfl⟩
   obtain ⟨un0,hun0⟩:∃ a,a=v % 4294967296:=⟨_,rfl⟩
   rw [← hyn1,← hyn0,← hun1,← hun0]
   have d1:2147483648≤yn1∧yn1≤4294967295:=by omega
   have d0:0≤yn0∧yn0≤4294967295:=by omega
   have dn1:0≤un1∧un1≤4294967295:=by omega
   have dn0:0≤un0∧un0≤4294967295:=by omega
   have dY:Y=yn1*4294967296+yn0:=by omega
   have g1:=DI.init dY d1 d0 dn1 U0 U1
   have x1:IntKind.u64.wrap (u / yn1)=u / yn1:=wu64 ⟨g1.hq.1,by have:=g1.hq.2;omega⟩
   have x2:IntKind.u64.wrap (u-IntKind.u64.wrap (u / yn1*yn1))=u-u / yn1*yn1:=by
     have r1:=g1.hr.1
     have r2:0≤u / yn1*yn1:=Int.mul_nonneg g1.hq.1 (by omega)
     have r3:=g1.hr.2
     rw [wu64 (n:=u / yn1*yn1) ⟨r2,by omega⟩,wu64 ⟨r1,by omega⟩]
   rw [x1,x2]
   have fin:∀ q1:Int,DG Y u un1 q1→∀ (un21:Int),un21=u*4294967296+un1-q1*Y→∀ q0,DG Y un21 un0 q0 →
       K (IntKind.u64.wrap ((IntKind.u64.wrap (q1*(4294967296:Int)))+q0)) (Int.fdiv (IntKind.u64.wrap ((IntKind.u64.wrap ((IntKind.u64.wrap (un21*(4294967296:Int)))+un0))-(IntKind.u64.wrap (q0*Y)))) (2 ^ (min ((m:Int)).toNat IntKind.u64.bits))):=by
     intro q1 G1 un21 e21 q0 G0
     obtain ⟨a1,a2,a3,a4⟩:=G1
     obtain ⟨c1,c2,c3,c4⟩:=G0
     have s1:(q1+1)*Y=q1*Y+Y:=by grind
     have s0:(q0+1)*Y=q0*Y+Y:=by grind
     have w5:IntKind.u64.wrap (q1*4294967296)=q1*4294967296:=wu64 ⟨by omega,by omega⟩
     have w6:IntKind.u64.wrap (q1*4294967296+q0)=q1*4294967296+q0:=wu64 ⟨by omega,by omega⟩
     rw [yJq (by omega) (by omega),w5,w6,e3,fdivn _ _ (by omega)]
     have eT:un21*4294967296+un0-q0*Y=(h*18446744073709551616+l-(q1*4294967296+q0)*y)*2 ^ m:=by
       have f1:(q1*4294967296+q0)*Y=q1*Y*4294967296+q0*Y:=by grind
       have f2:(h*18446744073709551616+l-(q1*4294967296+q0)*y)*2 ^ m=(h*18446744073709551616+l)*2 ^ m-(q1*4294967296+q0)*Y:=by
         rw [← hY,Int.sub_mul,Int.mul_assoc (q1*4294967296+q0)]
       rw [f2,f1,eN]
       omega
     rw [eT,Int.mul_ediv_cancel _ (by omega)]
     have r0:0≤h*18446744073709551616+l-(q1*4294967296+q0)*y:=by
       refine Int.not_lt.1 fun hc=>?_
       have:=Int.mul_neg_of_neg_of_pos hc tp
       omega
     have r1:h*18446744073709551616+l-(q1*4294967296+q0)*y<y:=by
       refine Int.not_le.1 fun hc=>?_
       have:=Int.mul_le_mul_of_nonneg_right hc (show (0:Int)≤2 ^ m by omega)
       omega
     obtain ⟨Q,hQ⟩:∃ Q,Q=q1*4294967296+q0:=⟨_,rfl⟩
     rw [← hQ] at r0 r1 ⊢
     have z1:(h*18446744073709551616+l) / y=Q:=by
       have:h*18446744073709551616+l=(h*18446744073709551616+l-Q*y)+Q*y:=by omega
       rw [this,Int.add_mul_ediv_right _ _ (by omega),Int.ediv_eq_zero_of_lt r0 r1];omega
     have z2:(h*18446744073709551616+l) % y=h*18446744073709551616+l-Q*y:=by
       have:=Int.mul_ediv_add_emod (h*18446744073709551616+l) y
       rw [z1,Int.mul_comm] at this
       omega
     rw [z1,z2] at k
     exact k
   have mid:∀ q:Int,DG Y u un1 q→∀ (X:Int→Int→Int→Int→Int→Int→Int→Int→Int→Bool→Prop),(∀ q0 r0 b0,DG Y (u*4294967296+un1-q*Y) un0 q0→X Y m yn1 yn0 un0 q r0 (u*4294967296+un1-q*Y) q0 b0) →
       asr (!(decide (yn1=(0:Int)))) (∃ n:Nat,yd4 ya7 X X n Y m yn1 yn0 un0 q ((IntKind.u64.wrap ((IntKind.u64.wrap ((IntKind.u64.wrap ((IntKind.u64.wrap (u*(4294967296:Int)))+un1))-(IntKind.u64.wrap (q*Y))))-(IntKind.u64.wrap ((IntKind.u64.wrap (Int.tdiv (IntKind.u64.wrap ((IntKind.u64.wrap ((IntKind.u64.wrap (u*(4294967296:Int)))+un1))-(IntKind.u64.wrap (q*Y)))) yn1))*yn1))))) (IntKind.u64.wrap ((IntKind.u64.wrap ((IntKind.u64.wrap (u*(4294967296:Int)))+un1))-(IntKind.u64.wrap (q*Y)))) (IntKind.u64.wrap (Int.tdiv (IntKind.u64.wrap ((IntKind.u64.wrap ((IntKind.u64.wrap (u*(4294967296:Int)))+un1))-(IntKind.u64.wrap (q*Y)))) yn1))):=by
     intro q G X hX
     obtain ⟨a1,a2,a3,a4⟩:=G
     have s1:(q+1)*Y=q*Y+Y:=by grind
     have b8:(!(decide (yn1=(0:Int))))=true:=by rw [decide_eq_false (by omega)];rfl
     rw [b8,yay,yJq (by omega) (by omega),tdivn (by omega)]
     have g0:=DI.init dY d1 d0 dn0 (u:=u*4294967296+un1-q*Y) (by omega) (by omega)
     generalize u*4294967296+un1-q*Y=u2 at *
     have x1:IntKind.u64.wrap (u2 / yn1)=u2 / yn1:=wu64 ⟨g0.hq.1,by have:=g0.hq.2;omega⟩
     have x2:IntKind.u64.wrap (u2-IntKind.u64.wrap (u2 / yn1*yn1))=u2-u2 / yn1*yn1:=by
       have r1:=g0.hr.1
       have r2:0≤u2 / yn1*yn1:=Int.mul_nonneg g0.hq.1 (by omega)
       have r3:=g0.hr.2
       have r4:=g0.hlt
       rw [wu64 (n:=u2 / yn1*yn1) ⟨r2,by omega⟩,wu64 ⟨r1,by omega⟩]
     rw [x1,x2]
     exact ⟨3,yOb _ _ _ _ (fun q0 r0 b0 g=>hX q0 r0 b0 g) (fun q0 r0 b0 g=>hX q0 r0 b0 g) _ _ g0⟩
   have leaf:∀ {P:Prop},P→asr (!(decide ((m:Int)<0))) P:=fun p=>by rw [b5,yay];exact p
   refine ⟨3,yOa _ _ _ _ (fun q r b G=>?_) (fun q r b G=>?_) _ _ g1⟩
   · exact mid q G _ (fun q0 r0 b0 G0=>leaf (fin q G _ rfl q0 G0))
   · exact mid q G _ (fun q0 r0 b0 G0=>leaf (fin q G _ rfl q0 G0))
end Go.Pf.Vc
namespace Go.Pf.Vc
open Go Go.Pf
theorem yLv {h l y:Int} (hh:U64 h) (hl:U64 l) (hy:U64 y) (h0:0<y) {K:Int→Prop}
   (k:K ((h*18446744073709551616+l) % y)):yiE h l y K:=by
 unfold yiE yuM
 have b3:(!(decide (y=(0:Int))))=true:=by rw [decide_eq_false (by omega)];rfl
 have a1:=Int.emod_nonneg h (show y≠0 by omega)
 have a2:=Int.emod_lt_of_pos h h0
 have hh':=hh
 unfold U64 at hh hy
 rw [b3,yay,tmodn hh.1]
 refine yGF ⟨a1,by omega⟩ hl ⟨by omega,by omega⟩ a2 ?_
 have e:(h % y*18446744073709551616+l) % y=(h*18446744073709551616+l) % y:=by
   rw [Int.add_emod,Int.mul_emod,Int.emod_emod,← Int.mul_emod,← Int.add_emod]
 rw [e]
 exact k
def outS (s:Bool) (a b:Int) (K:Int→Int→Int→Prop):Prop :=
 if a≤1000000000000000000∧b≤1000000000000000000 then K (if s then -a else a) b 0 else K 0 0 16
theorem ys4 {s:Bool} {a b:Int} (ha:0≤a) (hb:0≤b) (K:Int→Int→Int→Prop):ybD s a b K=outS s a b K:=by
 unfold ybD ylO outS
 by_cases h:a≤1000000000000000000∧b≤1000000000000000000
 · have e:decide ((if b>a then b else a)>(1000000000000000000:Int))=false:=by
     refine decide_eq_false ?_
     split <;> omega
   have w1:IntKind.i64.wrap a=a:=wi64 ⟨by omega,by omega⟩
   have w2:IntKind.i64.wrap b=b:=wi64 ⟨by omega,by omega⟩
   have w3:IntKind.i64.wrap (0-a)=-a:=by rw [wi64 ⟨by omega,by omega⟩];omega
   rw [e,yaa,if_pos h,w1,w2,w3]
   cases s
   · rfl
   · rfl
 · have e:decide ((if b>a then b else a)>(1000000000000000000:Int))=true:=by
     refine decide_eq_true ?_
     split <;> omega
   rw [e,yaf,if_neg h]
theorem Make_of {n d:Int} (hn:I64 n) (hd:I64 d) {K:Int→Int→Int→Prop}
   (k:if d=0 then K 0 0 18 else outS (decide (n<0) != decide (d<0)) ((n.natAbs / Nat.gcd n.natAbs d.natAbs:Nat):Int) ((d.natAbs / Nat.gcd n.natAbs d.natAbs:Nat):Int) K):yaj n d K:=by
 unfold yaj yoE
 by_cases h:d=0
 · rw [if_pos h] at k
   have:(d ==(0:Int))=true:=beq_iff_eq.2 h
   rw [this,yaf]
   exact k
 · rw [if_neg h] at k
   have:(d ==(0:Int))=false:=beq_eq_false_iff_ne.2 h
   rw [this,yaa,ylk hn,ylk hd]
   refine yx4 _ _ _ ?_
   have gp:0<Nat.gcd n.natAbs d.natAbs:=Nat.gcd_pos_of_pos_right _ (by omega)
   have b3:(!(decide (((Nat.gcd n.natAbs d.natAbs:Nat):Int)=(0:Int))))=true:=by rw [decide_eq_false (by omega)];rfl
   unfold I64 at hn hd
   have u1:n.natAbs / Nat.gcd n.natAbs d.natAbs≤n.natAbs:=Nat.div_le_self _ _
   have u2:d.natAbs / Nat.gcd n.natAbs d.natAbs≤d.natAbs:=Nat.div_le_self _ _
   rw [b3,yay,yay,tdivn (by omega),tdivn (by omega),← Int.natCast_ediv,← Int.natCast_ediv]
   generalize n.natAbs / Nat.gcd n.natAbs d.natAbs=A at *
   generalize d.natAbs / Nat.gcd n.natAbs d.natAbs=B at *
   rw [wu64 (n:=(A:Int)) ⟨by omega,by omega⟩,wu64 (n:=(B:Int)) ⟨by omega,by omega⟩,ys4 (by omega) (by omega)]
   exact k
end Go.Pf.Vc
namespace Go.Pf.Vc
open Go Go.Pf
def numM (a c:Int) (b d:Int):Nat:=(a.natAbs / Nat.gcd a.natAbs d.natAbs)*(c.natAbs / Nat.gcd c.natAbs b.natAbs)
def denM (a c:Int) (b d:Int):Nat:=(b.natAbs / Nat.gcd c.natAbs b.natAbs)*(d.natAbs / Nat.gcd a.natAbs d.natAbs)
theorem yIH {a b c d:Int} (ha:I64 a) (hb:I64 b) (hc:I64 c) (hd:I64 d) {K:Int→Int→Int→Prop}
   (k:if chk2 a b c d=0 then outS (decide (a<0) != decide (c<0)) (numM a c b d) (denM a c b d) K else K 0 0 (chk2 a b c d)):yci a b c d K:=by
 unfold yci yp0
 refine ysI ha hb hc hd ?_
 by_cases h:chk2 a b c d=0
 · rw [if_pos h] at k
   have:(chk2 a b c d !=(0:Int))=false:=by rw [h];rfl
   rw [this,yaa,ylk ha,ylk hc]
   obtain ⟨⟨b1,b2,a1,a2,_⟩,d1,d2,c1,c2,_⟩:=ydG.1 h
   have wb:IntKind.u64.wrap b=((b.natAbs:Nat):Int):=by rw [wu64 ⟨by omega,by omega⟩];omega
   have wd:IntKind.u64.wrap d=((d.natAbs:Nat):Int):=by rw [wu64 ⟨by omega,by omega⟩];omega
   rw [wb,wd]
   refine yx4 _ _ _ (yx4 _ _ _ ?_)
   unfold numM denM at k
   have g1:0<Nat.gcd a.natAbs d.natAbs:=Nat.gcd_pos_of_pos_right _ (by omega)
   have g2:0<Nat.gcd c.natAbs b.natAbs:=Nat.gcd_pos_of_pos_right _ (by omega)
   obtain ⟨g3,h3⟩:∃ g,g=Nat.gcd a.natAbs d.natAbs:=⟨_,rfl⟩
   obtain ⟨g4,h4⟩:∃ g,g=Nat.gcd c.natAbs b.natAbs:=⟨_,rfl⟩
   rw [← h3,← h4] at k ⊢
   rw [← h3] at g1;rw [← h4] at g2
   have n3:(!(decide ((g3:Int)=(0:Int))))=true:=by rw [decide_eq_false (by omega)];rfl
   have n4:(!(decide ((g4:Int)=(0:Int))))=true:=by rw [decide_eq_false (by omega)];rfl
   rw [n3,n4,yay,yay,tdivn (by omega),tdivn (by omega),tdivn (by omega),tdivn (by omega),← Int.natCast_ediv,← Int.natCast_ediv,← Int.natCast_ediv,← Int.natCast_ediv]
   have q1:a.natAbs / g3≤a.natAbs:=Nat.div_le_self _ _
   have q2:c.natAbs / g4≤c.natAbs:=Nat.div_le_self _ _
   have q3:b.natAbs / g4≤b.natAbs:=Nat.div_le_self _ _
   have q4:d.natAbs / g3≤d.natAbs:=Nat.div_le_self _ _
   generalize a.natAbs / g3=A at *
   generalize c.natAbs / g4=C at *
   generalize b.natAbs / g4=B at *
   generalize d.natAbs / g3=D at *
   rw [wu64 (n:=(A:Int)) ⟨by omega,by omega⟩,wu64 (n:=(C:Int)) ⟨by omega,by omega⟩,wu64 (n:=(B:Int)) ⟨by omega,by omega⟩,wu64 (n:=(D:Int)) ⟨by omega,by omega⟩,
     ynX ⟨by omega,by omega⟩ ⟨by omega,by omega⟩,yay,yay,ynX ⟨by omega,by omega⟩ ⟨by omega,by omega⟩]
   have m1:A*C≤1000000000000000000*1000000000000000000:=Nat.mul_le_mul (by omega) (by omega)
   have m2:B*D≤1000000000000000000*1000000000000000000:=Nat.mul_le_mul (by omega) (by omega)
   rw [← Int.natCast_mul,← Int.natCast_mul]
   generalize A*C=M at *
   generalize B*D=N at *
   have wm:IntKind.u64.wrap ((M:Int) / 18446744073709551616+(N:Int) / 18446744073709551616)=(M:Int) / 18446744073709551616+(N:Int) / 18446744073709551616:=wu64 ⟨by omega,by omega⟩
   rw [wm]
   by_cases hb:(M:Int) / 18446744073709551616+(N:Int) / 18446744073709551616>0
   · rw [decide_eq_true hb,yaf]
     unfold outS at k
     rw [if_neg (by omega)] at k
     exact k
   · rw [decide_eq_false hb,yaa]
     have eM:(M:Int) % 18446744073709551616=M:=by omega
     have eN:(N:Int) % 18446744073709551616=N:=by omega
     rw [eM,eN]
     by_cases h0:(M:Int)>0
     · rw [decide_eq_true h0,yaf,ys4 (by omega) (by omega)]
       exact k
     · rw [decide_eq_false h0,yaa,ys4 (by omega) (by omega)]
       have hz:M=0:=by omega
       subst hz
       unfold outS at k ⊢
       by_cases hN:(N:Int)≤1000000000000000000
       · rw [if_pos ⟨by omega,hN⟩] at k ⊢
         have e:(if (decide (a<0) != decide (c<0))=true then -((0:Nat):Int) else ((0:Nat):Int))=0:=by split <;> rfl
         rw [e] at k
         exact k
       · rw [if_neg (by omega)] at k ⊢
         exact k
 · rw [if_neg h] at k
   have:(chk2 a b c d !=(0:Int))=true:=by rw [bne_iff_ne];exact h
   rw [this,yaf]
   exact k
theorem RV.swap {c d:Int} (h:RV c d) (h0:0<c):RV d c:=by
 obtain ⟨d1,d2,c1,c2,g⟩:=h
 exact ⟨by omega,c2,by omega,d2,by rw [Nat.gcd_comm];exact g⟩
theorem RV.swapn {c d:Int} (h:RV c d) (h0:c<0):RV (-d) (-c):=by
 obtain ⟨d1,d2,c1,c2,g⟩:=h
 exact ⟨by omega,by omega,by omega,by omega,by rw [Int.natAbs_neg,Int.natAbs_neg,Nat.gcd_comm];exact g⟩
theorem yOc {a b c d:Int} (ha:I64 a) (hb:I64 b) (hc:I64 c) (hd:I64 d) {K:Int→Int→Int→Prop}
   (k:if chk2 a b c d=0 then (if c=0 then K 0 0 18 else outS (decide (a<0) != decide (c<0)) (numM a d b c) (denM a d b c) K) else K 0 0 (chk2 a b c d)):yaS a b c d K:=by
 unfold yaS yp2
 refine ysI ha hb hc hd ?_
 by_cases h:chk2 a b c d=0
 · rw [if_pos h] at k
   have:(chk2 a b c d !=(0:Int))=false:=by rw [h];rfl
   rw [this,yaa]
   obtain ⟨hab,hcd⟩:=ydG.1 h
   obtain ⟨d1,d2,c1,c2,_⟩:=id hcd
   by_cases h0:c=0
   · rw [if_pos h0] at k
     have:(c ==(0:Int))=true:=beq_iff_eq.2 h0
     rw [this,yaf]
     exact k
   · rw [if_neg h0] at k
     have:(c ==(0:Int))=false:=beq_eq_false_iff_ne.2 h0
     rw [this,yaa]
     by_cases hn:c<0
     · rw [decide_eq_true hn] at k
       rw [decide_eq_true hn,yaf,wi64 (n:=0-d) ⟨by omega,by omega⟩,wi64 (n:=0-c) ⟨by omega,by omega⟩,Int.zero_sub,Int.zero_sub]
       have e:chk2 a b (-d) (-c)=0:=ydG.2 ⟨hab,hcd.swapn hn⟩
       refine yIH ha hb ⟨by omega,by omega⟩ ⟨by omega,by omega⟩ ?_
       rw [if_pos e,decide_eq_true (show -d<0 by omega)]
       unfold numM denM at k ⊢
       rw [Int.natAbs_neg,Int.natAbs_neg]
       exact k
     · rw [decide_eq_false hn] at k
       rw [decide_eq_false hn,yaa]
       have e:chk2 a b d c=0:=ydG.2 ⟨hab,hcd.swap (by omega)⟩
       refine yIH ha hb hd hc ?_
       rw [if_pos e,decide_eq_false (show ¬d<0 by omega)]
       exact k
 · rw [if_neg h] at k
   have:(chk2 a b c d !=(0:Int))=true:=by rw [bne_iff_ne];exact h
   rw [this,yaf]
   exact k
end Go.Pf.Vc
namespace Go.Pf.Vc
open Go Go.Pf
theorem yM2 {s:Bool} {hi lo p1 p3:Int} {g:Nat} (hh:U64 hi) (hl:U64 lo) (hg:0<g) (g1:(g:Int)≤1000000000000000000)
    (h1:0≤p1∧p1≤1000000000000000000) (h3:0≤p3∧p3≤1000000000000000000) {K:Int→Int→Int→Prop}
    (k:outS s (((hi*18446744073709551616+lo).toNat / Nat.gcd (hi*18446744073709551616+lo).toNat g:Nat):Int)
      (((p1.toNat / g)*(p3.toNat / Nat.gcd (hi*18446744073709551616+lo).toNat g):Nat):Int) K) :
    (yiE hi lo (g:Int) (fun (yi12:Int) =>
 (ybI yi12 (g:Int) (fun (yi13:Int) =>
 (cbr (decide (hi≥yi13))
 (K (0:Int) (0:Int) (16:Int))
 (ygj hi lo yi13 (fun (yi14:Int) (_:Int) =>
 (asr (!(decide ((g:Int)=(0:Int))))
 (asr (!(decide (yi13=(0:Int))))
 (yeu (IntKind.u64.wrap (Int.tdiv (IntKind.u64.wrap p1) (g:Int))) (IntKind.u64.wrap (Int.tdiv (IntKind.u64.wrap p3) yi13)) (fun (yi16:Int) (yi17:Int) =>
 (cbr (decide (yi16>(0:Int)))
 (K (0:Int) (0:Int) (16:Int))
 (ybD s yi14 yi17 (fun (yi18:Int) (yi19:Int) (yi20:Int) =>
 (K yi18 yi19 yi20))))))))))))))):=by
  unfold U64 at hh hl
  obtain ⟨X,hX⟩:∃ X:Nat,X=(hi*18446744073709551616+lo).toNat:=⟨_,rfl⟩
  have eX:hi*18446744073709551616+lo=(X:Int):=by omega
  rw [← hX] at k
  refine yLv hh hl ⟨by omega,by omega⟩ (by omega) ?_
  rw [eX,← Int.natCast_emod]
  refine yx4 _ _ _ ?_
  have eg:Nat.gcd (X % g) g=Nat.gcd X g:=by rw [Nat.gcd_comm,Nat.gcd_comm X,Nat.gcd_rec g X,Nat.gcd_comm]
  rw [eg]
  have gp:0<Nat.gcd X g:=Nat.gcd_pos_of_pos_right _ hg
  have gl:Nat.gcd X g≤g:=Nat.le_of_dvd hg (Nat.gcd_dvd_right _ _)
  generalize Nat.gcd X g=G at *
  by_cases hb:hi≥(G:Int)
  · rw [decide_eq_true hb,yaf]
    unfold outS at k
    have:18446744073709551616≤X / G:=by
      rw [Nat.le_div_iff_mul_le gp]
      omega
    rw [if_neg (by omega)] at k
    exact k
  · rw [decide_eq_false hb,yaa]
    refine yGF hh hl ⟨by omega,by omega⟩ (by omega) ?_
    rw [eX]
    have n3:(!(decide ((g:Int)=(0:Int))))=true:=by rw [decide_eq_false (by omega)];rfl
    have n4:(!(decide ((G:Int)=(0:Int))))=true:=by rw [decide_eq_false (by omega)];rfl
    have e1:IntKind.u64.wrap p1=(p1.toNat:Int):=by rw [wu64 ⟨by omega,by omega⟩];omega
    have e3:IntKind.u64.wrap p3=(p3.toNat:Int):=by rw [wu64 ⟨by omega,by omega⟩];omega
    rw [n3,n4,yay,yay,e1,e3,tdivn (by omega),tdivn (by omega),← Int.natCast_ediv,← Int.natCast_ediv,← Int.natCast_ediv]
    have q1:p1.toNat / g≤p1.toNat:=Nat.div_le_self _ _
    have q3:p3.toNat / G≤p3.toNat:=Nat.div_le_self _ _
    generalize p1.toNat / g=A at *
    generalize p3.toNat / G=B at *
    generalize X / G=N at *
    rw [wu64 (n:=(A:Int)) ⟨by omega,by omega⟩,wu64 (n:=(B:Int)) ⟨by omega,by omega⟩,ynX ⟨by omega,by omega⟩ ⟨by omega,by omega⟩,← Int.natCast_mul]
    generalize A*B=D at *
    by_cases hd:((D:Int) / 18446744073709551616)>0
    · rw [decide_eq_true hd,yaf]
      unfold outS at k
      rw [if_neg (by omega)] at k
      exact k
    · rw [decide_eq_false hd,yaa]
      have eD:(D:Int) % 18446744073709551616=D:=by omega
      rw [eD,ys4 (by omega) (by omega)]
      exact k
end Go.Pf.Vc
namespace Go.Pf.Vc
open Go Go.Pf
theorem yGG {p q c:Int} {K:Int→Int→Prop} (hc:c.toNat≤1) (k:K (((p.toNat+q.toNat+c.toNat) % 18446744073709551616:Nat):Int) (((p.toNat+q.toNat+c.toNat) / 18446744073709551616:Nat):Int)):yj8 p q c K:=by
 unfold yj8
 rw [decide_eq_true hc,yay]
 exact k
theorem yGH {p q c:Int} {K:Int→Int→Prop} (hc:c.toNat≤1) (k:K (((p.toNat+18446744073709551616-q.toNat-c.toNat) % 18446744073709551616:Nat):Int) ((if q.toNat+c.toNat≤p.toNat then 0 else 1:Nat):Int)):yka p q c K:=by
 unfold yka
 rw [decide_eq_true hc,yay]
 have e:(bif Nat.ble (q.toNat+c.toNat) p.toNat then 0 else 1:Nat)=(if q.toNat+c.toNat≤p.toNat then 0 else 1:Nat):=by
   by_cases h:q.toNat+c.toNat≤p.toNat
   · rw [if_pos h,show Nat.ble (q.toNat+c.toNat) p.toNat=true from Nat.ble_eq_true_of_le h];rfl
   · rw [if_neg h]
     cases hb:Nat.ble (q.toNat+c.toNat) p.toNat
     · rfl
     · exact absurd (Nat.le_of_ble_eq_true hb) h
 rw [e]
 exact k
theorem yLw {X Y:Int} (hx:0≤X) (hy:0≤Y) (hs:X+Y<340282366920938463463374607431768211456) {F:Int→Int→Int→Int→Prop}
   (h:∀ c1 c2,F ((X+Y) % 18446744073709551616) c1 ((X+Y) / 18446744073709551616) c2) :
   yj8 (X % 18446744073709551616) (Y % 18446744073709551616) 0 (fun lo c1=>yj8 (X / 18446744073709551616) (Y / 18446744073709551616) c1 (fun hi c2=>F lo c1 hi c2)):=by
 obtain ⟨x,rfl⟩:∃ x:Nat,X=x:=⟨X.toNat,by omega⟩
 obtain ⟨y,rfl⟩:∃ y:Nat,Y=y:=⟨Y.toNat,by omega⟩
 refine yGG (by decide) (yGG (by omega) ?_)
 have e1:(((((x:Int) % 18446744073709551616).toNat+((y:Int) % 18446744073709551616).toNat+(0:Int).toNat) % 18446744073709551616:Nat):Int)=((x:Int)+y) % 18446744073709551616:=by omega
 have e2:(((((x:Int) / 18446744073709551616).toNat+((y:Int) / 18446744073709551616).toNat+(((((x:Int) % 18446744073709551616).toNat+((y:Int) % 18446744073709551616).toNat+(0:Int).toNat) / 18446744073709551616:Nat):Int).toNat) % 18446744073709551616:Nat):Int)=((x:Int)+y) / 18446744073709551616:=by omega
 rw [e1,e2]
 exact h _ _
theorem ywW {X Y:Int} (hy:0≤Y) (hxy:Y≤X) (hs:X<340282366920938463463374607431768211456) {F:Int→Int→Int→Int→Prop}
   (h:∀ c1 c2,F ((X-Y) % 18446744073709551616) c1 ((X-Y) / 18446744073709551616) c2) :
   yka (X % 18446744073709551616) (Y % 18446744073709551616) 0 (fun lo c1=>yka (X / 18446744073709551616) (Y / 18446744073709551616) c1 (fun hi c2=>F lo c1 hi c2)):=by
 obtain ⟨x,rfl⟩:∃ x:Nat,X=x:=⟨X.toNat,by omega⟩
 obtain ⟨y,rfl⟩:∃ y:Nat,Y=y:=⟨Y.toNat,by omega⟩
 refine yGH (by decide) (yGH (by split <;> omega) ?_)
 have e1:(((((x:Int) % 18446744073709551616).toNat+18446744073709551616-((y:Int) % 18446744073709551616).toNat-(0:Int).toNat) % 18446744073709551616:Nat):Int)=((x:Int)-y) % 18446744073709551616:=by omega
 rw [e1]
 by_cases hb:((y:Int) % 18446744073709551616).toNat+(0:Int).toNat≤((x:Int) % 18446744073709551616).toNat
 · rw [if_pos hb]
   have e2:(((((x:Int) / 18446744073709551616).toNat+18446744073709551616-((y:Int) / 18446744073709551616).toNat-((0:Nat):Int).toNat) % 18446744073709551616:Nat):Int)=((x:Int)-y) / 18446744073709551616:=by omega
   rw [e2]
   exact h _ _
 · rw [if_neg hb]
   have e2:(((((x:Int) / 18446744073709551616).toNat+18446744073709551616-((y:Int) / 18446744073709551616).toNat-((1:Nat):Int).toNat) % 18446744073709551616:Nat):Int)=((x:Int)-y) / 18446744073709551616:=by omega
   rw [e2]
   exact h _ _
end Go.Pf.Vc
namespace Go.Pf.Vc
open Go Go.Pf
def outA (s:Bool) (Z p1 p3:Int) (g:Nat) (K:Int→Int→Int→Prop):Prop :=
 if Z=0 then K 0 1 0 else outS s ((Z.toNat / Nat.gcd Z.toNat g:Nat):Int) (((p1.toNat / g)*(p3.toNat / Nat.gcd Z.toNat g):Nat):Int) K
theorem yA2 {s:Bool} {Z p1 p3:Int} {g:Nat} (hz:0≤Z) (hz2:Z<340282366920938463463374607431768211456) (hg:0<g) (g1:(g:Int)≤1000000000000000000)
    (h1:0≤p1∧p1≤1000000000000000000) (h3:0≤p3∧p3≤1000000000000000000) {K:Int→Int→Int→Prop}
    (k:outA s Z p1 p3 g K) :
    cbr (Z / 18446744073709551616 ==(0:Int)) (cbr (Z % 18446744073709551616 ==(0:Int)) (K 0 1 0) (yiE (Z / 18446744073709551616) (Z % 18446744073709551616) (g:Int) (fun (yi12:Int) =>
 (ybI yi12 (g:Int) (fun (yi13:Int) =>
 (cbr (decide ((Z / 18446744073709551616)≥yi13))
 (K (0:Int) (0:Int) (16:Int))
 (ygj (Z / 18446744073709551616) (Z % 18446744073709551616) yi13 (fun (yi14:Int) (_:Int) =>
 (asr (!(decide ((g:Int)=(0:Int))))
 (asr (!(decide (yi13=(0:Int))))
 (yeu (IntKind.u64.wrap (Int.tdiv (IntKind.u64.wrap p1) (g:Int))) (IntKind.u64.wrap (Int.tdiv (IntKind.u64.wrap p3) yi13)) (fun (yi16:Int) (yi17:Int) =>
 (cbr (decide (yi16>(0:Int)))
 (K (0:Int) (0:Int) (16:Int))
 (ybD s yi14 yi17 (fun (yi18:Int) (yi19:Int) (yi20:Int) =>
 (K yi18 yi19 yi20)))))))))))))))) (yiE (Z / 18446744073709551616) (Z % 18446744073709551616) (g:Int) (fun (yi12:Int) =>
 (ybI yi12 (g:Int) (fun (yi13:Int) =>
 (cbr (decide ((Z / 18446744073709551616)≥yi13))
 (K (0:Int) (0:Int) (16:Int))
 (ygj (Z / 18446744073709551616) (Z % 18446744073709551616) yi13 (fun (yi14:Int) (_:Int) =>
 (asr (!(decide ((g:Int)=(0:Int))))
 (asr (!(decide (yi13=(0:Int))))
 (yeu (IntKind.u64.wrap (Int.tdiv (IntKind.u64.wrap p1) (g:Int))) (IntKind.u64.wrap (Int.tdiv (IntKind.u64.wrap p3) yi13)) (fun (yi16:Int) (yi17:Int) =>
 (cbr (decide (yi16>(0:Int)))
 (K (0:Int) (0:Int) (16:Int))
 (ybD s yi14 yi17 (fun (yi18:Int) (yi19:Int) (yi20:Int) =>
 (K yi18 yi19 yi20))))))))))))))):=by
  unfold outA at k
  have eZ:Z / 18446744073709551616*18446744073709551616+Z % 18446744073709551616=Z:=by omega
  by_cases h0:Z=0
  · rw [if_pos h0] at k
    subst h0
    have e1:((0:Int) / 18446744073709551616 ==(0:Int))=true:=by decide
    have e2:((0:Int) % 18446744073709551616 ==(0:Int))=true:=by decide
    rw [e1,yaf,e2,yaf]
    exact k
  · rw [if_neg h0] at k
    have t:=yM2 (s:=s) (hi:=Z / 18446744073709551616) (lo:=Z % 18446744073709551616) (p1:=p1) (p3:=p3) (g:=g) (K:=K) ⟨by omega,by omega⟩ ⟨by omega,by omega⟩ hg g1 h1 h3 (by rw [eZ];exact k)
    cases h4:(Z / 18446744073709551616 ==(0:Int))
    · rw [yaa];exact t
    · rw [yaf]
      cases h2:(Z % 18446744073709551616 ==(0:Int))
      · rw [yaa];exact t
      · have:=beq_iff_eq.1 h2
        have:=beq_iff_eq.1 h4
        exact absurd (show Z=0 by omega) h0
theorem yvk {s s':Bool} {Z Z' p1 p3:Int} {g:Nat} {K:Int→Int→Int→Prop} (k:outA s' Z' p1 p3 g K) (hz:Z=Z') (hs:Z≠0→s=s'):outA s Z p1 p3 g K:=by
 subst hz
 unfold outA at k ⊢
 by_cases h:Z=0
 · rw [if_pos h] at k ⊢;exact k
 · rw [if_neg h] at k ⊢;rw [hs h];exact k
theorem yLx {a b c d:Int} (ha:I64 a) (hb:I64 b) (hc:I64 c) (hd:I64 d) {K:Int→Int→Int→Prop}
   (k:if chk2 a b c d=0 then outA (decide (a*(d / (Nat.gcd b.natAbs d.natAbs:Nat))+c*(b / (Nat.gcd b.natAbs d.natAbs:Nat))<0))
       ((a*(d / (Nat.gcd b.natAbs d.natAbs:Nat))+c*(b / (Nat.gcd b.natAbs d.natAbs:Nat))).natAbs:Int) b d (Nat.gcd b.natAbs d.natAbs) K
     else K 0 0 (chk2 a b c d)):yaE a b c d K:=by
 unfold yaE ypX
 refine ysI ha hb hc hd ?_
 by_cases h:chk2 a b c d=0
 · rw [if_pos h] at k
   have:(chk2 a b c d !=(0:Int))=false:=by rw [h];rfl
   rw [this,yaa]
   obtain ⟨⟨b1,b2,a1,a2,_⟩,d1,d2,c1,c2,_⟩:=ydG.1 h
   have wb:IntKind.u64.wrap b=((b.natAbs:Nat):Int):=by rw [wu64 ⟨by omega,by omega⟩];omega
   have wd:IntKind.u64.wrap d=((d.natAbs:Nat):Int):=by rw [wu64 ⟨by omega,by omega⟩];omega
   have g1:0<Nat.gcd b.natAbs d.natAbs:=Nat.gcd_pos_of_pos_right _ (by omega)
   have g2:Nat.gcd b.natAbs d.natAbs≤d.natAbs:=Nat.le_of_dvd (by omega) (Nat.gcd_dvd_right _ _)
   have go:ybI (IntKind.u64.wrap b) (IntKind.u64.wrap d)=ybI ((b.natAbs:Nat):Int) ((d.natAbs:Nat):Int):=by rw [wb,wd]
   rw [go]
   refine yx4 _ _ _ ?_
   generalize Nat.gcd b.natAbs d.natAbs=g at *
   have n3:(!(decide ((g:Int)=(0:Int))))=true:=by rw [decide_eq_false (by omega)];rfl
   have q1:0≤b / (g:Int):=Int.ediv_nonneg (by omega) (by omega)
   have q2:0≤d / (g:Int):=Int.ediv_nonneg (by omega) (by omega)
   have q3:b / (g:Int)≤b:=Int.ediv_le_self _ (by omega)
   have q4:d / (g:Int)≤d:=Int.ediv_le_self _ (by omega)
   have ed:IntKind.u64.wrap (Int.tdiv (IntKind.u64.wrap d) (g:Int))=d / (g:Int):=by
     rw [wu64 (n:=d) ⟨by omega,by omega⟩,tdivn (by omega),wu64 ⟨by omega,by omega⟩]
   have eb:IntKind.u64.wrap (Int.tdiv (IntKind.u64.wrap b) (g:Int))=b / (g:Int):=by
     rw [wu64 (n:=b) ⟨by omega,by omega⟩,tdivn (by omega),wu64 ⟨by omega,by omega⟩]
   have yo8:∀ {c:Bool} {P:Prop},c=true→P→asr c P:=fun h p=>by rw [h,yay];exact p
   rw [ylk ha]
   refine yo8 n3 ?_
   rw [ynX (U64.abs ha) (by rw [ed];exact ⟨by omega,by omega⟩),ylk hc]
   refine yo8 n3 ?_
   rw [ynX (U64.abs hc) (by rw [eb];exact ⟨by omega,by omega⟩)]
   obtain ⟨X,hX⟩:∃ X,X=((a.natAbs:Nat):Int)*IntKind.u64.wrap (Int.tdiv (IntKind.u64.wrap d) (g:Int)):=⟨_,rfl⟩
   obtain ⟨Y,hY⟩:∃ Y,Y=((c.natAbs:Nat):Int)*IntKind.u64.wrap (Int.tdiv (IntKind.u64.wrap b) (g:Int)):=⟨_,rfl⟩
   rw [← hX,← hY]
   rw [ed] at hX;rw [eb] at hY
   have X0:0≤X:=by rw [hX];exact Int.mul_nonneg (by omega) q2
   have Y0:0≤Y:=by rw [hY];exact Int.mul_nonneg (by omega) q1
   have X1:X≤1000000000000000000*1000000000000000000:=by rw [hX];exact Int.mul_le_mul (by omega) (by omega) q2 (by omega)
   have Y1:Y≤1000000000000000000*1000000000000000000:=by rw [hY];exact Int.mul_le_mul (by omega) (by omega) q1 (by omega)
   have ax:a*(d / (g:Int))=if a<0 then -X else X:=by
     split
     · rw [hX,show ((a.natAbs:Nat):Int)=-a by omega,Int.neg_mul,Int.neg_neg]
     · rw [hX,show ((a.natAbs:Nat):Int)=a by omega]
   have cy:c*(b / (g:Int))=if c<0 then -Y else Y:=by
     split
     · rw [hY,show ((c.natAbs:Nat):Int)=-c by omega,Int.neg_mul,Int.neg_neg]
     · rw [hY,show ((c.natAbs:Nat):Int)=c by omega]
   rw [ax,cy] at k
   clear hX hY ax cy ed eb n3
   by_cases hs:decide (a<0)=decide (c<0)
   · have e:(decide (a<0) == decide (c<0))=true:=beq_iff_eq.2 hs
     rw [e,yaf]
     refine yLw X0 Y0 (by omega) (fun c1 c2=>?_)
     refine yA2 (by omega) (by omega) g1 (by omega) ⟨by omega,b2⟩ ⟨by omega,d2⟩ (yvk k ?_ ?_)
     · by_cases h1:a<0
       · have h2:c<0:=by simpa [h1] using hs.symm
         rw [if_pos h1,if_pos h2];omega
       · have h2:¬c<0:=by simpa [h1] using hs.symm
         rw [if_neg h1,if_neg h2];omega
     · intro h0
       by_cases h1:a<0
       · have h2:c<0:=by simpa [h1] using hs.symm
         rw [if_pos h1,if_pos h2,decide_eq_true h1,decide_eq_true (by omega)]
       · have h2:¬c<0:=by simpa [h1] using hs.symm
         rw [if_neg h1,if_neg h2,decide_eq_false h1,decide_eq_false (by omega)]
   · have e:(decide (a<0) == decide (c<0))=false:=beq_eq_false_iff_ne.2 hs
     rw [e,yaa]
     have h12:(a<0∧¬c<0)∨(¬a<0∧c<0):=by
       by_cases h1:a<0 <;> by_cases h2:c<0 <;> simp [h1,h2] at hs ⊢
     by_cases hlt:X<Y
     · have kk:outA (!decide (a<0)) (Y-X) b d g K:=by
         refine yvk k ?_ ?_
         · rcases h12 with ⟨h1,h2⟩ | ⟨h1,h2⟩
           · rw [if_pos h1,if_neg h2];omega
           · rw [if_neg h1,if_pos h2];omega
         · intro h0
           rcases h12 with ⟨h1,h2⟩ | ⟨h1,h2⟩
           · rw [if_pos h1,if_neg h2,decide_eq_true h1,decide_eq_false (by omega)];rfl
           · rw [if_neg h1,if_pos h2,decide_eq_false h1,decide_eq_true (by omega)];rfl
       by_cases h1:X / 18446744073709551616<Y / 18446744073709551616
       · rw [decide_eq_true h1,yaf]
         refine ywW X0 (by omega) (by omega) (fun c1 c2=>?_)
         exact yA2 (by omega) (by omega) g1 (by omega) ⟨by omega,b2⟩ ⟨by omega,d2⟩ kk
       · have e1:(X / 18446744073709551616 == Y / 18446744073709551616)=true:=beq_iff_eq.2 (by omega)
         rw [decide_eq_false h1,yaa,e1,yaf,decide_eq_true (show X % 18446744073709551616<Y % 18446744073709551616 by have:=beq_iff_eq.1 e1;omega),yaf]
         refine ywW X0 (by omega) (by omega) (fun c1 c2=>?_)
         exact yA2 (by omega) (by omega) g1 (by omega) ⟨by omega,b2⟩ ⟨by omega,d2⟩ kk
     · have kk:outA (decide (a<0)) (X-Y) b d g K:=by
         refine yvk k ?_ ?_
         · rcases h12 with ⟨h1,h2⟩ | ⟨h1,h2⟩
           · rw [if_pos h1,if_neg h2];omega
           · rw [if_neg h1,if_pos h2];omega
         · intro h0
           rcases h12 with ⟨h1,h2⟩ | ⟨h1,h2⟩
           · rw [if_pos h1,if_neg h2,decide_eq_true h1,decide_eq_true (by omega)]
           · rw [if_neg h1,if_pos h2,decide_eq_false h1,decide_eq_false (by omega)]
       have h1:¬X / 18446744073709551616<Y / 18446744073709551616:=by omega
       rw [decide_eq_false h1,yaa]
       cases e1:(X / 18446744073709551616 == Y / 18446744073709551616)
       · rw [yaa]
         refine ywW Y0 (by omega) (by omega) (fun c1 c2=>?_)
         exact yA2 (by omega) (by omega) g1 (by omega) ⟨by omega,b2⟩ ⟨by omega,d2⟩ kk
       · rw [yaf,decide_eq_false (show ¬X % 18446744073709551616<Y % 18446744073709551616 by have:=beq_iff_eq.1 e1;omega),yaa]
         refine ywW Y0 (by omega) (by omega) (fun c1 c2=>?_)
         exact yA2 (by omega) (by omega) g1 (by omega) ⟨by omega,b2⟩ ⟨by omega,d2⟩ kk
 · rw [if_neg h] at k
   have:(chk2 a b c d !=(0:Int))=true:=by rw [bne_iff_ne];exact h
   rw [this,yaf]
   exact k
end Go.Pf.Vc
namespace Go.Pf.Vc
open Go Go.Pf
theorem RV.neg {c d:Int} (h:RV c d):RV (-c) d:=by
 obtain ⟨d1,d2,c1,c2,g⟩:=h
 exact ⟨d1,d2,by omega,by omega,by rw [Int.natAbs_neg];exact g⟩
theorem yOd {a b c d:Int} (ha:I64 a) (hb:I64 b) (hc:I64 c) (hd:I64 d) {K:Int→Int→Int→Prop}
   (k:if chk2 a b c d=0 then outA (decide (a*(d / (Nat.gcd b.natAbs d.natAbs:Nat))+-c*(b / (Nat.gcd b.natAbs d.natAbs:Nat))<0))
       ((a*(d / (Nat.gcd b.natAbs d.natAbs:Nat))+-c*(b / (Nat.gcd b.natAbs d.natAbs:Nat))).natAbs:Int) b d (Nat.gcd b.natAbs d.natAbs) K
     else K 0 0 (chk2 a b c d)):yc0 a b c d K:=by
 unfold yc0 ypY
 refine ysI ha hb hc hd ?_
 by_cases h:chk2 a b c d=0
 · rw [if_pos h] at k
   have:(chk2 a b c d !=(0:Int))=false:=by rw [h];rfl
   rw [this,yaa]
   obtain ⟨hab,hcd⟩:=ydG.1 h
   obtain ⟨d1,d2,c1,c2,_⟩:=id hcd
   rw [wi64 (n:=0-c) ⟨by omega,by omega⟩,Int.zero_sub]
   refine yLx ha hb ⟨by omega,by omega⟩ hd ?_
   rw [if_pos (ydG.2 ⟨hab,hcd.neg⟩)]
   exact k
 · rw [if_neg h] at k
   have:(chk2 a b c d !=(0:Int))=true:=by rw [bne_iff_ne];exact h
   rw [this,yaf]
   exact k
end Go.Pf.Vc
namespace Go.Pf.Vc
open Go Go.Pf
def ints (l:List Int):List PV:=l.map (PV.int .i64)
theorem ycs (l:List Int):(ints l).length=l.length:=List.length_map ..
theorem yJr {l:List Int} {i:Nat} (h:i<l.length):List.getD (ints l) i .nils=.int .i64 (l.getD i 0):=by
 unfold ints
 rw [List.getD_eq_getElem?_getD,List.getD_eq_getElem?_getD,List.getElem?_map,List.getElem?_eq_getElem h]
 rfl
theorem yeq {l:List Int} {i:Nat} (h:i<l.length):intOfV (List.getD (ints l) i .nils)=l.getD i 0:=by
 rw [yJr h];rfl
theorem ykN {l:List Int} {i:Nat} (h:i<l.length):conf (.one (.i .i64)) (List.getD (ints l) i .nils)=true:=by
 rw [yJr h];rfl
theorem yo8 {c:Bool} {P:Prop} (h:c=true) (p:P):asr c P:=by rw [h,yay];exact p
theorem asr_d {c:Prop} [Decidable c] {P:Prop} (h:c) (p:P):asr (decide c) P:=yo8 (decide_eq_true h) p
end Go.Pf.Vc
namespace Go.Pf.Vc
open Go Go.Pf
theorem cbr_d {c:Prop} [Decidable c] {P Q:Prop} (h:c) (p:P):cbr (decide c) P Q:=by rw [decide_eq_true h,yaf];exact p
theorem cbr_n {c:Prop} [Decidable c] {P Q:Prop} (h:¬c) (q:Q):cbr (decide c) P Q:=by rw [decide_eq_false h,yaa];exact q
def mnf (m x:Int):Int:=if x<m then x else m
theorem yLy {l:List Int} (hl:l.length<9223372036854775807) (x0:List PV→Int→Int→Bool→Prop) :
   ∀ (rest:List Int) (i:Nat) (m:Int) (n:Nat),l.drop i=rest→i≤l.length→rest.length<n→x0 (ints l) (rest.foldl mnf m) (l.length:Int) false →
     ybL x0 n (ints l) m (i:Int):=by
 intro rest
 induction rest with
 | nil =>
   intro i m n hd hi hn k
   have:i=l.length:=by
     have:=congrArg List.length hd
     rw [List.length_drop] at this
     have h2:([]:List Int).length=0:=rfl
     omega
   match n,hn with
   | n+1,_ =>
     unfold ybL
     rw [ycs,this]
     exact cbr_n (by omega) k
 | cons x t ih =>
   intro i m n hd hi hn k
   have hlt:i<l.length:=by
     have:=congrArg List.length hd
     rw [List.length_drop,List.length_cons] at this
     omega
   have hx:l.getD i 0=x:=by
     have:=List.getElem_drop (xs:=l) (i:=i) (j:=0) (h:=by rw [hd];exact Nat.zero_lt_succ _)
     rw [List.getD_eq_getElem?_getD,List.getElem?_eq_getElem hlt]
     simp only [hd,List.getElem_cons_zero,Nat.add_zero] at this
     exact this.symm
   have ht:l.drop (i+1)=t:=by rw [← List.tail_drop,hd];rfl
   match n,hn with
   | n+1,hn =>
     unfold ybL
     rw [ycs]
     refine cbr_d (by omega) ?_
     refine asr_d (by omega) (asr_d (by omega) (yo8 (ykN (by omega)) ?_))
     rw [Int.toNat_natCast,yeq hlt,hx,wi64 (n:=(i:Int)+1) ⟨by omega,by omega⟩]
     exact ih (i+1) _ n ht (by omega) (by rw [List.length_cons] at hn;omega) k
theorem yOe {l:List Int} (hl:l.length<9223372036854775807) {x:Int} {t:List Int} (e:l=x::t) {K:Int→Prop} (k:K (t.foldl mnf x)):yc1 (ints l) K:=by
 have h0:0<l.length:=by rw [e];exact Nat.zero_lt_succ _
 unfold yc1 yko
 rw [ycs]
 refine cbr_n (by omega) (asr_d (by omega) (yo8 (ykN h0) ⟨l.length+1,?_⟩))
 have e0:l.getD 0 0=x:=by rw [e];rfl
 rw [yeq h0,e0]
 refine yLy hl _ t 1 x _ (by rw [e];rfl) (by omega) (by rw [e,List.length_cons];omega) ?_
 exact k
def mxf (m x:Int):Int:=if x>m then x else m
theorem yLz {l:List Int} (hl:l.length<9223372036854775807) (x0:List PV→Int→Int→Bool→Prop) :
   ∀ (rest:List Int) (i:Nat) (m:Int) (n:Nat),l.drop i=rest→i≤l.length→rest.length<n→x0 (ints l) (rest.foldl mxf m) (l.length:Int) false →
     ybM x0 n (ints l) m (i:Int):=by
 intro rest
 induction rest with
 | nil =>
   intro i m n hd hi hn k
   have:i=l.length:=by
     have:=congrArg List.length hd
     rw [List.length_drop] at this
     have h2:([]:List Int).length=0:=rfl
     omega
   match n,hn with
   | n+1,_ =>
     unfold ybM
     rw [ycs,this]
     exact cbr_n (by omega) k
 | cons x t ih =>
   intro i m n hd hi hn k
   have hlt:i<l.length:=by
     have:=congrArg List.length hd
     rw [List.length_drop,List.length_cons] at this
     omega
   have hx:l.getD i 0=x:=by
     have:=List.getElem_drop (xs:=l) (i:=i) (j:=0) (h:=by rw [hd];exact Nat.zero_lt_succ _)
     rw [List.getD_eq_getElem?_getD,List.getElem?_eq_getElem hlt]
     simp only [hd,List.getElem_cons_zero,Nat.add_zero] at this
     exact this.symm
   have ht:l.drop (i+1)=t:=by rw [← List.tail_drop,hd];rfl
   match n,hn with
   | n+1,hn =>
     unfold ybM
     rw [ycs]
     refine cbr_d (by omega) ?_
     refine asr_d (by omega) (asr_d (by omega) (yo8 (ykN (by omega)) ?_))
     rw [Int.toNat_natCast,yeq hlt,hx,wi64 (n:=(i:Int)+1) ⟨by omega,by omega⟩]
     exact ih (i+1) _ n ht (by omega) (by rw [List.length_cons] at hn;omega) k
theorem yLA {l:List Int} (hl:l.length<9223372036854775807) {x:Int} {t:List Int} (e:l=x::t) {K:Int→Prop} (k:K (t.foldl mxf x)):yc2 (ints l) K:=by
 have h0:0<l.length:=by rw [e];exact Nat.zero_lt_succ _
 unfold yc2 ykr
 rw [ycs]
 refine cbr_n (by omega) (asr_d (by omega) (yo8 (ykN h0) ⟨l.length+1,?_⟩))
 have e0:l.getD 0 0=x:=by rw [e];rfl
 rw [yeq h0,e0]
 refine yLz hl _ t 1 x _ (by rw [e];rfl) (by omega) (by rw [e,List.length_cons];omega) ?_
 exact k
end Go.Pf.Vc
namespace Go.Pf.Vc
open Go Go.Pf
def incr (l:List Int) (i:Nat):Prop:=∀ j,i≤j→j+1<l.length→l.getD j 0<l.getD (j+1) 0
theorem yII {l:List Int} {p2:List PV} {p0:Int} (hl:l.length<9223372036854775807) (W1 W2:List PV→(Int→Prop)→Prop) (x0:Int→Prop) (x1:Int→List PV→List PV→Int→Int→Bool→Prop) :
   ∀ (r i n:Nat),i+r+1=l.length→r<n→(incr l i→x1 p0 (ints l) p2 ((l.length:Int)-1) ((l.length:Int)-1) false)→(¬incr l i→x0 8) →
     ycE W1 W2 x0 x1 n p0 (ints l) p2 ((l.length:Int)-1) (i:Int):=by
 intro r
 induction r with
 | zero =>
   intro i n hi hn k _
   match n,hn with
   | n+1,_ =>
     unfold ycE
     have e:(i:Int)=(l.length:Int)-1:=by omega
     refine cbr_n (by omega) ?_
     rw [e]
     exact k (fun j h1 h2=>by omega)
 | succ r ih =>
   intro i n hi hn k k0
   match n,hn with
   | n+1,hn =>
     unfold ycE
     rw [wi64 (n:=(i:Int)+1) ⟨by omega,by omega⟩,ycs]
     have e1:((i:Int)+1)=((i+1:Nat):Int):=by omega
     rw [e1,Int.toNat_natCast,Int.toNat_natCast]
     refine cbr_d (by omega) (asr_d (by omega) (asr_d (by omega) (yo8 (ykN (by omega)) (asr_d (by omega) (asr_d (by omega) (yo8 (ykN (by omega)) ?_))))))
     rw [yeq (by omega),yeq (by omega)]
     by_cases h:l.getD i 0≥l.getD (i+1) 0
     · exact cbr_d h (k0 fun hc=>absurd (hc i (Nat.le_refl _) (by omega)) (by omega))
     · refine cbr_n h (ih (i+1) n (by omega) (by omega) (fun hc=>k fun j h1 h2=>?_) (fun hc=>k0 fun hd=>hc fun j h1 h2=>hd j (by omega) h2))
       by_cases hj:j=i
       · subst hj;omega
       · exact hc j (by omega) h2
end Go.Pf.Vc
namespace Go.Pf.Vc
open Go Go.Pf
def small (q:Rat):Prop:=-1000000000000000000≤q.num∧q.num≤1000000000000000000∧(q.den:Int)≤1000000000000000000
instance (q:Rat):Decidable (small q):=by unfold small;infer_instance
theorem small.rv {q:Rat} (h:small q):RV q.num q.den:=by
 obtain ⟨h1,h2,h3⟩:=h
 have:=q.den_pos
 exact ⟨by omega,h3,h1,h2,q.reduced⟩
theorem yE4 {n d:Int} (h:RV n d):∃ q:Rat,small q∧q.num=n∧(q.den:Int)=d:=by
 obtain ⟨h1,h2,h3,h4,h5⟩:=h
 refine ⟨⟨n,d.toNat,by omega,?_⟩,⟨h3,h4,by show ((d.toNat:Nat):Int)≤_;omega⟩,rfl,by show ((d.toNat:Nat):Int)=_;omega⟩
 have:d.natAbs=d.toNat:=by omega
 rw [this] at h5
 exact h5
theorem small.i1 {q:Rat} (h:small q):I64 q.num:=⟨by have:=h.1;omega,by have:=h.2.1;omega⟩
theorem small.i2 {q:Rat} (h:small q):I64 (q.den:Int):=⟨by omega,by have:=h.2.2;omega⟩
theorem ykO {q r:Rat} (h:small q) (k:small r):chk2 q.num q.den r.num r.den=0:=ydG.2 ⟨h.rv,k.rv⟩
def fitK (q:Rat) (K:Int→Int→Int→Prop):Prop:=if small q then K q.num q.den 0 else K 0 0 16
theorem yA3 {q:Rat} {s:Bool} {a b:Int} (ha:a=(q.num.natAbs:Int)) (hb:b=(q.den:Int)) (hs:q.num≠0→s=decide (q.num<0)) (K:Int→Int→Int→Prop):outS s a b K=fitK q K:=by
 unfold outS fitK
 subst ha hb
 by_cases h:small q
 · have h':=h
   obtain ⟨h1,h2,h3⟩:=h
   rw [if_pos (show _∧_ from ⟨by omega,h3⟩),if_pos h']
   have e:(if s=true then -((q.num.natAbs:Nat):Int) else ((q.num.natAbs:Nat):Int))=q.num:=by
     by_cases h0:q.num=0
     · rw [h0];cases s <;> rfl
     · rw [hs h0]
       by_cases h1:q.num<0
       · rw [decide_eq_true h1,if_pos rfl];omega
       · rw [decide_eq_false h1,if_neg (by simp)];omega
   rw [e]
 · rw [if_neg h,if_neg]
   intro h2
   exact h ⟨by omega,by omega,h2.2⟩
theorem yGI (x:Int) (g:Nat):(Int.tdiv x g).natAbs=x.natAbs / g:=by rw [Int.natAbs_tdiv,Int.natAbs_natCast];rfl
theorem yDg {x:Int} {g:Nat} (h:(g:Int)∣x) (hx:x≠0):decide (Int.tdiv x g<0)=decide (x<0):=by
 obtain ⟨k,rfl⟩:=h
 have hg:(g:Int)≠0:=fun e=>hx (by rw [e,Int.zero_mul])
 rw [Int.mul_tdiv_cancel_left _ hg]
 have h1:(g:Int)>0:=by have:=Int.natCast_nonneg g;omega
 have:(g:Int)*k<0↔k<0:=by
   constructor
   · intro h;refine Int.not_le.1 fun hk=>?_
     have:=Int.mul_nonneg (show 0≤(g:Int) by omega) hk
     omega
   · intro h;exact Int.mul_neg_of_pos_of_neg h1 h
 simp only [this]
theorem yKq (q r:Rat):(q*r).num=Int.tdiv q.num (Nat.gcd q.num.natAbs r.den)*Int.tdiv r.num (Nat.gcd r.num.natAbs q.den) ∧
   (q*r).den=(q.den / Nat.gcd r.num.natAbs q.den)*(r.den / Nat.gcd q.num.natAbs r.den):=by
 have e:q*r=Rat.mul q r:=rfl
 rw [e]
 delta Rat.mul
 constructor
 · simp only [Int.divExact_eq_tdiv]
 · simp only [Nat.divExact_eq_div]
theorem ypC (x:Int) (d:Nat):((Nat.gcd x.natAbs d:Nat):Int)∣x:=by
 rw [← Int.dvd_natAbs,Int.ofNat_dvd];exact Nat.gcd_dvd_left _ _
theorem yJs {x:Int} {g:Nat} (h:(g:Int)∣x) (hx:x≠0):Int.tdiv x g≠0:=by
 obtain ⟨k,rfl⟩:=h
 have hg:(g:Int)≠0:=fun e=>hx (by rw [e,Int.zero_mul])
 rw [Int.mul_tdiv_cancel_left _ hg]
 intro e;rw [e,Int.mul_zero] at hx;exact hx rfl
theorem yLB {x y:Int} (hx:x≠0) (hy:y≠0):decide (x*y<0)=(decide (x<0) != decide (y<0)):=by
 by_cases h1:x<0 <;> by_cases h2:y<0
 · have:=Int.mul_pos_of_neg_of_neg h1 h2
   simp [h1,h2];omega
 · have:=Int.mul_neg_of_neg_of_pos h1 (show 0<y by omega)
   simp [h1,h2];omega
 · have:=Int.mul_neg_of_pos_of_neg (show 0<x by omega) h2
   simp [h1,h2];omega
 · have:=Int.mul_pos (show 0<x by omega) (show 0<y by omega)
   simp [h1,h2];omega
theorem yJt (q r:Rat) (K:Int→Int→Int→Prop):outS (decide (q.num<0) != decide (r.num<0)) (numM q.num r.num q.den r.den) (denM q.num r.num q.den r.den) K=fitK (q*r) K:=by
 obtain ⟨e1,e2⟩:=yKq q r
 refine yA3 ?_ ?_ ?_ K
 · rw [e1,Int.natAbs_mul,yGI,yGI]
   simp only [numM,Int.natAbs_natCast]
 · rw [e2]
   simp only [denM,Int.natAbs_natCast]
 · intro h
   rw [e1] at h ⊢
   have h1:q.num≠0:=fun e=>h (by rw [e,Int.zero_tdiv,Int.zero_mul])
   have h2:r.num≠0:=fun e=>h (by rw [e,Int.zero_tdiv,Int.mul_zero])
   rw [yLB (yJs (ypC _ _) h1) (yJs (ypC _ _) h2),yDg (ypC _ _) h1,yDg (ypC _ _) h2]
theorem ywX {w:(Int→Int→Int→Prop)→Prop} {q:Rat} (det:∀ r0 r1 r2,(∀ K:Int→Int→Int→Prop,K r0 r1 r2→w K)→∀ K,w K=K r0 r1 r2) (h:∀ K,fitK q K→w K) (K:Int→Int→Int→Prop):w K=fitK q K:=by
 unfold fitK at h ⊢
 by_cases hs:small q
 · simp only [if_pos hs] at h ⊢
   exact det _ _ _ h K
 · simp only [if_neg hs] at h ⊢
   exact det _ _ _ h K
theorem yJu {q r:Rat} (hq:small q) (hr:small r) (K:Int→Int→Int→Prop):yci q.num q.den r.num r.den K=fitK (q*r) K :=
 ywX (fun r0 r1 r2 h K=>yB3 _ _ _ _ r0 r1 r2 h K) (fun K k=>yIH hq.i1 hq.i2 hr.i1 hr.i2 (by rw [if_pos (ykO hq hr),yJt];exact k)) K
theorem yKr {r:Rat} (h:r≠0):(r⁻¹).num=(if r.num<0 then -(r.den:Int) else r.den)∧(r⁻¹).den=r.num.natAbs:=by
 have h0:r.num≠0:=fun e=>h (Rat.num_eq_zero.1 e)
 constructor
 · rw [Rat.num_inv]
   by_cases h1:r.num<0
   · rw [if_pos h1,Int.sign_eq_neg_one_of_neg h1];omega
   · rw [if_neg h1,Int.sign_eq_one_of_pos (by omega)];omega
 · rw [Rat.den_inv,if_neg h0]
theorem yM3 {q r:Rat} (hq:small q) (hr:small r) (h0:r≠0) (K:Int→Int→Int→Prop):yaS q.num q.den r.num r.den K=fitK (q / r) K:=by
 have hn:r.num≠0:=fun e=>h0 (Rat.num_eq_zero.1 e)
 refine ywX (fun r0 r1 r2 h K=>yB4 _ _ _ _ r0 r1 r2 h K) (fun K k=>yOc hq.i1 hq.i2 hr.i1 hr.i2 ?_) K
 rw [if_pos (ykO hq hr),if_neg hn]
 rw [Rat.div_def,← yJt] at k
 obtain ⟨e1,e2⟩:=yKr h0
 rw [e1,e2] at k
 have s:decide ((if r.num<0 then -(r.den:Int) else (r.den:Int))<0)=decide (r.num<0):=by
   have:=r.den_pos
   split
   · rename_i h;simp only [h];simp;omega
   · rename_i h;simp only [h];simp
 rw [s] at k
 have hd:(if r.num<0 then -(r.den:Int) else (r.den:Int)).natAbs=r.den:=by split <;> omega
 unfold numM denM at k ⊢
 simp only [hd,Int.natAbs_natCast] at k ⊢
 exact k
end Go.Pf.Vc
namespace Go.Pf.Vc
open Go Go.Pf
theorem yKs (q r:Rat):(q+r).num=(q.num*(r.den / Nat.gcd q.den r.den:Nat)+r.num*(q.den / Nat.gcd q.den r.den:Nat)) / (Nat.gcd (q.num*(r.den / Nat.gcd q.den r.den:Nat)+r.num*(q.den / Nat.gcd q.den r.den:Nat)).natAbs (Nat.gcd q.den r.den):Nat) ∧
   (q+r).den=(q.den / Nat.gcd q.den r.den)*r.den / Nat.gcd (q.num*(r.den / Nat.gcd q.den r.den:Nat)+r.num*(q.den / Nat.gcd q.den r.den:Nat)).natAbs (Nat.gcd q.den r.den):=by
 have e:q+r=Rat.add q r:=rfl
 rw [e]
 delta Rat.add
 by_cases hg:q.den.gcd r.den=1
 · simp only [hg,dif_pos,Nat.div_one,Nat.gcd_one_right,Int.natCast_one,Int.ediv_one,and_self]
 · simp only [hg,dif_neg,not_false_eq_true,Rat.maybeNormalize_eq]
   constructor
   · first | rfl | simp only [Int.divExact_eq_tdiv]
   · first | rfl | simp only []
theorem yLC {q r:Rat} {Z:Int} {g:Nat} (e1:(q+r).num=Z / (Nat.gcd Z.natAbs g:Nat)) (e2:(q+r).den=(q.den / g)*r.den / Nat.gcd Z.natAbs g) (hgp:0<g) (hgd:g∣r.den) (K:Int→Int→Int→Prop) :
   outA (decide (Z<0)) (Z.natAbs:Int) q.den r.den g K=fitK (q+r) K:=by
 unfold outA
 by_cases h0:Z=0
 · subst h0
   have:(q+r)=0:=by
     apply Rat.num_eq_zero.1
     rw [e1];simp
   rw [this,if_pos (by rfl)]
   unfold fitK
   rw [if_pos (by decide)];rfl
 · have hne:¬((Z.natAbs:Nat):Int)=0:=by omega
   rw [if_neg hne]
   have hdv:((Nat.gcd Z.natAbs g:Nat):Int)∣Z:=ypC _ _
   have hhp:0<Nat.gcd Z.natAbs g:=Nat.gcd_pos_of_pos_right _ hgp
   have hhg:Nat.gcd Z.natAbs g∣r.den:=Nat.dvd_trans (Nat.gcd_dvd_right _ _) hgd
   refine yA3 ?_ ?_ ?_ K
   · rw [e1,Int.natAbs_ediv_of_dvd hdv];simp
   · rw [e2];simp only [Int.toNat_natCast];rw [Nat.mul_div_assoc _ hhg]
   · intro h
     rw [e1]
     obtain ⟨k,hk⟩:=hdv
     revert hhp hk
     generalize Nat.gcd Z.natAbs g=h
     intro hhp hk
     have e:Z / (h:Int)=k:=by rw [hk,Int.mul_ediv_cancel_left _ (by omega)]
     rw [e]
     have:Z<0↔k<0:=by
       rw [hk]
       constructor
       · intro hk;refine Int.not_le.1 fun hk2=>?_
         have:=Int.mul_nonneg (show 0≤(h:Int) by omega) hk2
         omega
       · intro hk;exact Int.mul_neg_of_pos_of_neg (by omega) hk
     simp only [this]
theorem yE5 (q r:Rat) (K:Int→Int→Int→Prop) :
   outA (decide (q.num*((r.den:Int) / (Nat.gcd (q.den:Int).natAbs (r.den:Int).natAbs:Nat))+r.num*((q.den:Int) / (Nat.gcd (q.den:Int).natAbs (r.den:Int).natAbs:Nat))<0))
     ((q.num*((r.den:Int) / (Nat.gcd (q.den:Int).natAbs (r.den:Int).natAbs:Nat))+r.num*((q.den:Int) / (Nat.gcd (q.den:Int).natAbs (r.den:Int).natAbs:Nat))).natAbs:Int) q.den r.den (Nat.gcd (q.den:Int).natAbs (r.den:Int).natAbs) K=fitK (q+r) K:=by
 obtain ⟨e1,e2⟩:=yKs q r
 rw [Int.natCast_ediv,Int.natCast_ediv] at e1 e2
 exact yLC e1 e2 (Nat.gcd_pos_of_pos_left _ q.den_pos) (Nat.gcd_dvd_right _ _) K
theorem ys5 {q r:Rat} (hq:small q) (hr:small r) (K:Int→Int→Int→Prop):yaE q.num q.den r.num r.den K=fitK (q+r) K :=
 ywX (fun r0 r1 r2 h K=>yB1 _ _ _ _ r0 r1 r2 h K) (fun K k=>yLx hq.i1 hq.i2 hr.i1 hr.i2 (by rw [if_pos (ykO hq hr),yE5];exact k)) K
theorem yJv {q r:Rat} (hq:small q) (hr:small r) (K:Int→Int→Int→Prop):yc0 q.num q.den r.num r.den K=fitK (q-r) K :=
 ywX (fun r0 r1 r2 h K=>yB2 _ _ _ _ r0 r1 r2 h K) (fun K k=>yOd hq.i1 hq.i2 hr.i1 hr.i2 (by
   rw [if_pos (ykO hq hr)]
   rw [Rat.sub_eq_add_neg,← yE5] at k
   exact k)) K
theorem yLD {n d:Int} (hd:d≠0) (K:Int→Int→Int→Prop):outS (decide (n<0) != decide (d<0)) ((n.natAbs / Nat.gcd n.natAbs d.natAbs:Nat):Int) ((d.natAbs / Nat.gcd n.natAbs d.natAbs:Nat):Int) K=fitK ((n:Rat) / (d:Rat)) K:=by
 have e:(n:Rat) / (d:Rat)=mkRat (if d<0 then -n else n) d.natAbs:=by
   rw [Rat.mkRat_eq_div]
   split
   · rename_i h
     have h1:((d.natAbs:Nat):Int)=-d:=by omega
     have h2:((d.natAbs:Nat):Rat)=-(d:Rat):=by rw [← Rat.intCast_natCast,h1,Rat.intCast_neg]
     rw [h2,Rat.intCast_neg]
     have h3:(d:Rat)≠0:=fun e=>hd (Rat.intCast_eq_zero_iff.1 e)
     grind
   · rename_i h
     have h1:((d.natAbs:Nat):Int)=d:=by omega
     have h2:((d.natAbs:Nat):Rat)=(d:Rat):=by rw [← Rat.intCast_natCast,h1]
     rw [h2]
 have h0:d.natAbs≠0:=by omega
 have hab:(if d<0 then -n else n).natAbs=n.natAbs:=by split <;> omega
 rw [e]
 refine yA3 ?_ ?_ ?_ K
 · rw [Rat.num_mkRat,if_neg h0,hab,Int.natAbs_ediv_of_dvd,Int.natAbs_natCast,hab,Nat.gcd_comm]
   rw [← Int.dvd_natAbs,Int.ofNat_dvd,hab];exact Nat.gcd_dvd_right _ _
 · rw [Rat.den_mkRat,if_neg h0,hab,Nat.gcd_comm]
 · rw [Rat.num_mkRat,if_neg h0,hab]
   have hdv:((Nat.gcd d.natAbs n.natAbs:Nat):Int)∣(if d<0 then -n else n):=by
     rw [← Int.dvd_natAbs,Int.ofNat_dvd,hab];exact Nat.gcd_dvd_right _ _
   have hp:0<Nat.gcd d.natAbs n.natAbs:=Nat.gcd_pos_of_pos_left _ (by omega)
   obtain ⟨k,hk⟩:=hdv
   rw [hk,Int.mul_ediv_cancel_left _ (by omega)]
   intro hk0
   generalize Nat.gcd d.natAbs n.natAbs=g at *
   have h1:(g:Int)*k<0↔k<0:=by
     constructor
     · intro hk;refine Int.not_le.1 fun hk2=>?_
       have:=Int.mul_nonneg (show 0≤(g:Int) by omega) hk2
       omega
     · intro hk;exact Int.mul_neg_of_pos_of_neg (by omega) hk
   have h2:(g:Int)*k≠0:=fun e=>by rcases Int.mul_eq_zero.1 e with e | e <;> omega
   by_cases hd2:d<0
   · rw [if_pos hd2] at hk
     by_cases hn:n<0
     · have:¬k<0:=by omega
       simp [hd2,hn,this]
     · have:k<0:=by omega
       simp [hd2,this];omega
   · rw [if_neg hd2] at hk
     by_cases hn:n<0
     · have:k<0:=by omega
       simp [hd2,hn,this]
     · have:¬k<0:=by omega
       simp [hd2,this];omega
theorem yLE {n d:Int} (hn:I64 n) (hd:I64 d) (h0:d≠0) (K:Int→Int→Int→Prop):yaj n d K=fitK ((n:Rat) / (d:Rat)) K :=
 ywX (fun r0 r1 r2 h K=>yAp _ _ r0 r1 r2 h K) (fun K k=>Make_of hn hd (by rw [if_neg h0,yLD h0];exact k)) K
def cmpQ (q r:Rat):Int:=if q<r then -1 else if r<q then 1 else 0
theorem yJw (q r:Rat):cmpR q.num q.den r.num r.den=cmpQ q r:=by
 unfold cmpR cmp3 cmpQ
 simp only [Rat.lt_iff]
theorem yzA {q r:Rat} (hq:small q) (hr:small r) (K:Int→Int→Prop):ybK q.num q.den r.num r.den K=K (cmpQ q r) 0 :=
 yB0 _ _ _ _ _ _ (fun K k=>yLs hq.i1 hq.i2 hr.i1 hr.i2 (by rw [ykO hq hr,if_pos rfl,yJw];exact k)) K
theorem yKt {n d:Int} (hn:I64 n) (hd:I64 d) (K:Int→Prop):ycL n d K=K (chk n d) :=
 yyW _ _ _ (fun _ k=>yA1 hn hd k) K
end Go.Pf.Vc
namespace Go.Pf.Vc
open Go Go.Pf
theorem ywY {p:Int} (h:I64 p) (K:Int→Prop):yhy p K=K (p.natAbs:Int):=by
 unfold I64 at h
 unfold yhy yuT
 by_cases hp:p<0
 · have e0:IntKind.i64.wrap (p+1)=p+1:=wi64 ⟨by omega,by omega⟩
   have e1:IntKind.i64.wrap ((0:Int)-(p+1))=-(p+1):=by rw [wi64 ⟨by omega,by omega⟩];omega
   have e2:IntKind.u64.wrap (-(p+1))=-(p+1):=wu64 ⟨by omega,by omega⟩
   have e3:IntKind.u64.wrap (-(p+1)+1)=(p.natAbs:Int):=by rw [wu64 ⟨by omega,by omega⟩];omega
   rw [decide_eq_true hp,yaf,e0,e1,e2,e3]
 · rw [decide_eq_false hp,yaa,wu64 ⟨by omega,by omega⟩]
   congr 1
   omega
theorem yDh (x:Int→Int→Bool→Prop):∀ (n a b:Nat),b<n→yeZ x n (a:Int) (b:Int)=x ((Nat.gcd a b:Nat):Int) 0 false
 | 0,a,b,h=>by omega
 | n+1,a,b,h=>by
   unfold yeZ
   by_cases hb:b=0
   · subst hb
     simp [cbr]
   · have h1:((b:Int) != 0)=true:=by simp;omega
     have h2:¬((b:Int)=0):=by omega
     rw [h1,yaf,decide_eq_false h2,Bool.not_false,yay]
     have e:Int.tmod (a:Int) (b:Int)=((a % b:Nat):Int):=by rw [Int.tmod_eq_emod_of_nonneg (by omega)];omega
     rw [e,yDh x n b (a % b) (by have:=Nat.mod_lt a (show b>0 by omega);omega)]
     rw [Nat.gcd_comm a b,Nat.gcd_rec b a,Nat.gcd_comm]
theorem yE6 (a b:Nat) (K:Int→Prop):yez (a:Int) (b:Int) K=K ((Nat.gcd a b:Nat):Int):=by
 refine yGC _ _ _ (fun K h=>?_) K
 unfold yez yuV
 exact ⟨b+1,by rw [yDh _ (b+1) a b (by omega)];exact h⟩
theorem bne_f {a b:Int} (h:a=b):(a != b)=false:=by simp [h]
theorem bne_t {a b:Int} (h:a≠b):(a != b)=true:=by simp [h]
theorem beq_f {a b:Int} (h:a≠b):(a == b)=false:=by simp [h]
theorem beq_t {a b:Int} (h:a=b):(a == b)=true:=by simp [h]
theorem ypD {n d:Int} (hn:I64 n) (_:I64 d) (K:Int→Prop):ybN n d K=K (chk n d):=by
 unfold ybN yqd
 by_cases h1:d<1
 · rw [decide_eq_true h1,yaf,chk,if_neg (fun h=>by have:=h.1;omega)]
 · rw [decide_eq_false h1,yaa]
   by_cases h2:d>1000000000000000000
   · rw [decide_eq_true h2,yaf,chk,if_neg (fun h=>by have:=h.2.1;omega)]
   · rw [decide_eq_false h2,yaa]
     by_cases h3:n < -1000000000000000000
     · rw [decide_eq_true h3,yaf,chk,if_neg (fun h=>by have:=h.2.2.1;omega)]
     · rw [decide_eq_false h3,yaa]
       by_cases h4:n>1000000000000000000
       · rw [decide_eq_true h4,yaf,chk,if_neg (fun h=>by have:=h.2.2.2.1;omega)]
       · have ed:IntKind.u64.wrap d=((d.natAbs:Nat):Int):=by rw [wu64 ⟨by omega,by omega⟩];omega
         rw [decide_eq_false h4,yaa,ywY hn,ed,yE6]
         by_cases h5:Nat.gcd n.natAbs d.natAbs=1
         · rw [h5,bne_f (by rfl),yaa,chk,if_pos ⟨by omega,by omega,by omega,by omega,h5⟩]
         · rw [bne_t (by omega),yaf,chk,if_neg (fun h=>h5 h.2.2.2.2)]
theorem yGJ {a b c d:Int} (ha:I64 a) (hb:I64 b) (hc:I64 c) (hd:I64 d) (K:Int→Prop):yil a b c d K=K (chk2 a b c d):=by
 unfold yil ysa
 rw [ypD ha hb,ypD ha hb,ypD hc hd,chk2]
 by_cases h:chk a b=0
 · rw [bne_f h,yaa,if_pos h]
 · rw [bne_t h,yaf,if_neg h]
theorem or32 {m s:Int} (_:0≤m) (hs:0≤s∧s<4294967296):IntKind.u64.wrap (BitVec.ofInt IntKind.u64.bits (IntKind.u64.wrap (m*4294967296))|||BitVec.ofInt IntKind.u64.bits s).toNat=m % 4294967296*4294967296+s:=by
 have e:IntKind.u64.wrap (m*4294967296)=m % 4294967296*2 ^ 32:=by rw [wu64'];omega
 rw [e,or_eq (k:=32) (by omega) ⟨hs.1,by omega⟩ ⟨by omega,by omega⟩ (by omega)]
 omega
theorem yLF {a b:Int} (ha:U64 a) (hb:U64 b) (K:Int→Int→Prop):yeL a b K=K (a*b / 18446744073709551616) (a*b % 18446744073709551616):=by
 unfold yeL yqf
 simp only [fdiv32]
 rw [mask32 ha,mask32 hb]
 unfold U64 at ha hb
 have ha':=ha;have hb':=hb
 obtain ⟨x1,hx1⟩:∃ x,x=a / 4294967296:=⟨_,rfl⟩
 obtain ⟨x0,hx0⟩:∃ x,x=a % 4294967296:=⟨_,rfl⟩
 obtain ⟨y1,hy1⟩:∃ x,x=b / 4294967296:=⟨_,rfl⟩
 obtain ⟨y0,hy0⟩:∃ x,x=b % 4294967296:=⟨_,rfl⟩
 rw [← hx1,← hx0,← hy1,← hy0]
 have b1:0≤x1∧x1≤4294967295:=by omega
 have b2:0≤x0∧x0≤4294967295:=by omega
 have b3:0≤y1∧y1≤4294967295:=by omega
 have b4:0≤y0∧y0≤4294967295:=by omega
 have pb:∀ x y:Int,0≤x∧x≤4294967295→0≤y∧y≤4294967295→0≤x*y∧x*y≤18446744065119617025:=by
   intro x y hx hy
   refine ⟨Int.mul_nonneg hx.1 hy.1,?_⟩
   have:=Int.mul_le_mul hx.2 hy.2 hy.1 (by omega:(0:Int)≤4294967295)
   omega
 have p1:=pb x1 y1 b1 b3
 have p2:=pb x1 y0 b1 b4
 have p3:=pb x0 y1 b2 b3
 have p4:=pb x0 y0 b2 b4
 have ea:a=x1*4294967296+x0:=by omega
 have eb:b=y1*4294967296+y0:=by omega
 have eab:a*b=x1*y1*18446744073709551616+x1*y0*4294967296+x0*y1*4294967296+x0*y0:=by
   rw [ea,eb];grind
 obtain ⟨P,hP⟩:∃ x,x=x1*y1:=⟨_,rfl⟩
 obtain ⟨Q,hQ⟩:∃ x,x=x1*y0:=⟨_,rfl⟩
 obtain ⟨R,hR⟩:∃ x,x=x0*y1:=⟨_,rfl⟩
 obtain ⟨S,hS⟩:∃ x,x=x0*y0:=⟨_,rfl⟩
 rw [← hP] at p1;rw [← hQ] at p2;rw [← hR] at p3;rw [← hS] at p4
 rw [← hP,← hQ,← hR,← hS] at eab ⊢
 have w1:IntKind.u64.wrap S=S:=wu64 ⟨by omega,by omega⟩
 have w2:IntKind.u64.wrap Q=Q:=wu64 ⟨by omega,by omega⟩
 have w3:IntKind.u64.wrap R=R:=wu64 ⟨by omega,by omega⟩
 have w4:IntKind.u64.wrap P=P:=wu64 ⟨by omega,by omega⟩
 rw [w1,w2,w3,w4,mask32 (p:=Q) ⟨by omega,by omega⟩,mask32 (p:=S) ⟨by omega,by omega⟩]
 have w5:IntKind.u64.wrap (Q % 4294967296+R)=Q % 4294967296+R:=wu64 ⟨by omega,by omega⟩
 rw [w5]
 have w6:IntKind.u64.wrap (Q % 4294967296+R+S / 4294967296)=Q % 4294967296+R+S / 4294967296:=wu64 ⟨by omega,by omega⟩
 rw [w6,or32 (by omega) ⟨by omega,by omega⟩]
 have hab:a*b≤18446744073709551615*18446744073709551615:=Int.mul_le_mul ha'.2 hb'.2 hb'.1 (by omega:(0:Int)≤18446744073709551615)
 rw [eab] at hab ⊢
 have w7:IntKind.u64.wrap (P+Q / 4294967296)=P+Q / 4294967296:=wu64 ⟨by omega,by omega⟩
 rw [w7,wu64 ⟨by omega,by omega⟩]
 congr 1 <;> omega
theorem yE7 {X Y:Int} (hx:0≤X) (hy:0≤Y) (hs:X+Y<340282366920938463463374607431768211456) (K:Int→Int→Prop) :
   ydh (X / 18446744073709551616) (X % 18446744073709551616) (Y / 18446744073709551616) (Y % 18446744073709551616) K=K ((X+Y) / 18446744073709551616) ((X+Y) % 18446744073709551616):=by
 unfold ydh yse
 rw [wu64',wu64',wu64']
 by_cases h:(X % 18446744073709551616+Y % 18446744073709551616) % 18446744073709551616<X % 18446744073709551616
 · rw [decide_eq_true h,yaf]
   congr 1 <;> omega
 · rw [decide_eq_false h,yaa]
   congr 1 <;> omega
theorem yGK {X Y:Int} (hy:0≤Y) (hs:Y≤X) (hx:X<340282366920938463463374607431768211456) (K:Int→Int→Prop) :
   yhb (X / 18446744073709551616) (X % 18446744073709551616) (Y / 18446744073709551616) (Y % 18446744073709551616) K=K ((X-Y) / 18446744073709551616) ((X-Y) % 18446744073709551616):=by
 unfold yhb ymC
 rw [wu64',wu64',wu64']
 by_cases h:X % 18446744073709551616<Y % 18446744073709551616
 · rw [decide_eq_true h,yaf]
   congr 1 <;> omega
 · rw [decide_eq_false h,yaa]
   congr 1 <;> omega
theorem ywZ {X Y:Int} (_:0≤X) (_:0≤Y) (K:Bool→Prop) :
   yin (X / 18446744073709551616) (X % 18446744073709551616) (Y / 18446744073709551616) (Y % 18446744073709551616) K=K (decide (X<Y)):=by
 unfold yin ysb
 by_cases h:X / 18446744073709551616<Y / 18446744073709551616
 · rw [decide_eq_true h,yaf,decide_eq_true (by omega)]
 · rw [decide_eq_false h,yaa]
   by_cases h2:X / 18446744073709551616=Y / 18446744073709551616
   · rw [beq_t h2,yaf]
     congr 1
     rw [decide_eq_decide];omega
   · rw [beq_f h2,yaa,decide_eq_false (by omega)]
theorem and63 {i:Int} (h:0≤i∧i≤127):IntKind.i64.wrap (BitVec.ofInt IntKind.i64.bits i&&&BitVec.ofInt IntKind.i64.bits (63:Int)).toNat=i % 64:=by
 have e1:(BitVec.ofInt 64 i).toNat=i.toNat:=by
   rw [BitVec.toNat_ofInt];omega
 have e2:(BitVec.ofInt 64 (63:Int)).toNat=63:=rfl
 have e3:(BitVec.ofInt IntKind.i64.bits i&&&BitVec.ofInt IntKind.i64.bits (63:Int)).toNat=i.toNat % 64:=by
   show (BitVec.ofInt 64 i&&&BitVec.ofInt 64 (63:Int)).toNat=_
   rw [BitVec.toNat_and,e1,e2]
   exact Nat.and_two_pow_sub_one_eq_mod i.toNat 6
 rw [e3,wi64 ⟨by omega,by omega⟩]
 omega
theorem and1 {p:Int} (h:U64 p):IntKind.u64.wrap (BitVec.ofInt IntKind.u64.bits p&&&BitVec.ofInt IntKind.u64.bits (1:Int)).toNat=p % 2:=by
 unfold U64 at h
 have e1:(BitVec.ofInt 64 p).toNat=p.toNat:=by
   rw [BitVec.toNat_ofInt];omega
 have e2:(BitVec.ofInt 64 (1:Int)).toNat=1:=rfl
 have e3:(BitVec.ofInt IntKind.u64.bits p&&&BitVec.ofInt IntKind.u64.bits (1:Int)).toNat=p.toNat % 2:=by
   show (BitVec.ofInt 64 p&&&BitVec.ofInt 64 (1:Int)).toNat=_
   rw [BitVec.toNat_and,e1,e2]
   exact Nat.and_two_pow_sub_one_eq_mod p.toNat 1
 rw [e3,wu64']
 omega
theorem or1 {m s:Int} (hm:0≤m∧m≤9223372036854775807) (hs:0≤s∧s<2):IntKind.u64.wrap (BitVec.ofInt IntKind.u64.bits (m*2)|||BitVec.ofInt IntKind.u64.bits s).toNat=m*2+s:=by
 have:=or_eq (a:=m) (b:=s) (k:=1) hm.1 ⟨hs.1,by omega⟩ ⟨by omega,by omega⟩ (by omega)
 simpa using this
theorem ysJ (i:Nat):(2:Int) ^ i=((2 ^ i:Nat):Int):=by rw [Int.natCast_pow];rfl
theorem yM4 {W:Nat} (hW:W=2 ^ 64) {A:Int} (hA:0≤A) {i:Nat} (hi:i<64):A % (W:Int) / (2 ^ i:Int) % ((2:Nat):Int)=A / (2 ^ i:Int) % ((2:Nat):Int):=by
 obtain ⟨a,rfl⟩:∃ a:Nat,A=a:=⟨A.toNat,by omega⟩
 have:(a % W / 2 ^ i % 2:Nat)=a / 2 ^ i % 2:=by
   have e:W=2 ^ i*2 ^ (64-i):=by rw [← Nat.pow_add];rw [show i+(64-i)=64 by omega,hW]
   rw [e,Nat.mod_mul_right_div_self]
   have e2:2 ^ (64-i)=2*2 ^ (63-i):=by rw [show 64-i=(63-i)+1 by omega,Nat.pow_succ,Nat.mul_comm]
   rw [e2,Nat.mod_mul_right_mod]
 rw [ysJ,← Int.natCast_emod,← Int.natCast_ediv,← Int.natCast_emod,← Int.natCast_ediv,← Int.natCast_emod,this]
theorem yOf {A:Int} (hA:0≤A) {i:Nat} (hi:i<64):A % 18446744073709551616 / (2 ^ i:Int) % 2=A / (2 ^ i:Int) % 2:=yM4 (W:=18446744073709551616) rfl hA hi
theorem yM5 {W:Nat} (hW:W=2 ^ 64) {A:Int} (hA:0≤A) {i:Nat} (hi:64≤i):A / (W:Int) / (2 ^ (i-64):Int)=A / (2 ^ i:Int):=by
 obtain ⟨a,rfl⟩:∃ a:Nat,A=a:=⟨A.toNat,by omega⟩
 have:(a / W / 2 ^ (i-64):Nat)=a / 2 ^ i:=by
   have e:(2 ^ i:Nat)=W*2 ^ (i-64):=by
     rw [hW,← Nat.pow_add,show 64+(i-64)=i by omega]
   rw [e,Nat.div_div_eq_div_mul]
 rw [ysJ,ysJ,← Int.natCast_ediv,← Int.natCast_ediv,← Int.natCast_ediv,this]
theorem yOg {A:Int} (hA:0≤A) {i:Nat} (hi:64≤i):A / 18446744073709551616 / (2 ^ (i-64):Int)=A / (2 ^ i:Int):=yM5 (W:=18446744073709551616) rfl hA hi
theorem yLG {d B q r b:Int} (hd:0<d) (hq:B / d=q) (hr:B % d=r) (hb:0≤b∧b≤1) :
   (2*B+b) / d=(if 2*r+b≥d then 2*q+1 else 2*q)∧(2*B+b) % d=(if 2*r+b≥d then 2*r+b-d else 2*r+b):=by
 have h1:=Int.mul_ediv_add_emod B d
 have h2:=Int.emod_nonneg B (show d≠0 by omega)
 have h3:=Int.emod_lt_of_pos B hd
 rw [hq,hr] at h1
 rw [hr] at h2 h3
 split
 · refine (Int.ediv_emod_unique hd).2 ⟨?_,by omega,by omega⟩
   grind
 · refine (Int.ediv_emod_unique hd).2 ⟨?_,by omega,by omega⟩
   grind
end Go.Pf.Vc
namespace Go.Pf.Vc
open Go Go.Pf
theorem yIJ {A d:Int} (hA:0≤A∧A<340282366920938463463374607431768211456) (hd:0<d∧d<9223372036854775808) {x0:Int→Int→Int→Int→Int→Int→Int→Int→Int→Bool→Prop}
   (k0:x0 d (A / 18446744073709551616) (A % 18446744073709551616) 0 0 (A / d / 18446744073709551616) (A / d % 18446744073709551616) (A % d) (-1) false) :
   ∀ (k n:Nat),k≤128→k<n→ybl ydh x0 n d (A / 18446744073709551616) (A % 18446744073709551616) 0 0
     (A / 2 ^ k / d / 18446744073709551616) (A / 2 ^ k / d % 18446744073709551616) (A / 2 ^ k % d) ((k:Int)-1):=by
 intro k
 induction k with
 | zero =>
   intro n _ hn
   match n,hn with
   | n+1,_ =>
     unfold ybl
     rw [decide_eq_false (by omega),yaa]
     have e:A / 2 ^ 0=A:=by rw [Int.pow_zero,Int.ediv_one]
     rw [e]
     exact k0
 | succ k ih =>
   intro n hk hn
   match n,hn with
   | n+1,hn =>
     unfold ybl
     have e8:((k+1:Nat):Int)-1=(k:Int):=by omega
     rw [e8,decide_eq_true (by omega),yaf]
     rw [and63 (i:=(k:Int)) ⟨by omega,by omega⟩]
     have en:(!decide ((k:Int) % 64<0))=true:=by rw [decide_eq_false (by omega)];rfl
     have em:min ((k:Int) % 64).toNat IntKind.u64.bits=k % 64:=by show min _ 64=_;omega
     rw [en,yay,yay,em]
     have pp:∀ m:Nat,(0:Int)≤2 ^ m:=fun m=>by rw [ysJ];exact Int.natCast_nonneg _
     have p1:∀ m:Nat,(0:Int)<2 ^ m:=fun m=>by rw [ysJ];exact Int.natCast_pos.2 (Nat.two_pow_pos m)
     simp only [fdivn _ _ (pp _)]
     have hC0:0≤A / 2 ^ k:=Int.ediv_nonneg hA.1 (pp _)
     have hCA:A / 2 ^ k≤A:=Int.ediv_le_self _ hA.1
     have hBC:A / 2 ^ (k+1)=A / 2 ^ k / 2:=by
       rw [Int.pow_succ,Int.ediv_ediv_of_nonneg (pp k)]
     obtain ⟨C,hC⟩:∃ C,C=A / 2 ^ k:=⟨_,rfl⟩
     have ih2:=ih n (by omega) (by omega)
     rw [← hC] at hC0 hCA hBC ih2
     rw [hBC]
     obtain ⟨b,hb⟩:∃ b,b=C % 2:=⟨_,rfl⟩
     have hCb:C=2*(C / 2)+b:=by omega
     obtain ⟨s1,s2⟩:=yLG (B:=C / 2) (b:=b) hd.1 rfl rfl ⟨by omega,by omega⟩
     rw [← hCb] at s1 s2
     have r0:=Int.emod_nonneg (C / 2) (show d≠0 by omega)
     have r1:=Int.emod_lt_of_pos (C / 2) hd.1
     have q0:0≤C / 2 / d:=Int.ediv_nonneg (by omega) (by omega)
     have q1:C / 2 / d≤C / 2:=Int.ediv_le_self _ (by omega)
     rw [s1,s2] at ih2
     obtain ⟨q,hq⟩:∃ q,q=C / 2 / d:=⟨_,rfl⟩
     obtain ⟨r,hr⟩:∃ r,r=C / 2 % d:=⟨_,rfl⟩
     rw [← hq,← hr] at ih2
     rw [← hq] at q0 q1
     rw [← hr] at r0 r1
     rw [← hq,← hr]
     have e2:IntKind.u64.wrap (r*2)=r*2:=wu64 ⟨by omega,by omega⟩
     rw [e2,wi64 (n:=(k:Int)-1) ⟨by omega,by omega⟩]
     rw [yE7 q0 q0 (by omega),yE7 q0 q0 (by omega)]
     have hlo:0≤A % 18446744073709551616 / 2 ^ (k % 64)∧A % 18446744073709551616 / 2 ^ (k % 64)≤18446744073709551615:=by
       refine ⟨Int.ediv_nonneg (by omega) (pp _),?_⟩
       have:=Int.ediv_le_self (a:=A % 18446744073709551616) (2 ^ (k % 64)) (by omega)
       omega
     have hhi:0≤A / 18446744073709551616 / 2 ^ (k % 64)∧A / 18446744073709551616 / 2 ^ (k % 64)≤18446744073709551615:=by
       refine ⟨Int.ediv_nonneg (by omega) (pp _),?_⟩
       have:=Int.ediv_le_self (a:=A / 18446744073709551616) (2 ^ (k % 64)) (by omega)
       omega
     rw [and1 hlo,and1 hhi]
     have go:∀ bb:Int,bb=b→cbr (decide (IntKind.u64.wrap (BitVec.ofInt IntKind.u64.bits (r*2)|||BitVec.ofInt IntKind.u64.bits bb).toNat≥d))
         (ybl ydh x0 n d (A / 18446744073709551616) (A % 18446744073709551616) 0 0 ((q+q) / 18446744073709551616) (IntKind.u64.wrap (BitVec.ofInt IntKind.u64.bits ((q+q) % 18446744073709551616)|||BitVec.ofInt IntKind.u64.bits (1:Int)).toNat) (IntKind.u64.wrap ((IntKind.u64.wrap (BitVec.ofInt IntKind.u64.bits (r*2)|||BitVec.ofInt IntKind.u64.bits bb).toNat)-d)) ((k:Int)-1))
         (ybl ydh x0 n d (A / 18446744073709551616) (A % 18446744073709551616) 0 0 ((q+q) / 18446744073709551616) ((q+q) % 18446744073709551616) (IntKind.u64.wrap (BitVec.ofInt IntKind.u64.bits (r*2)|||BitVec.ofInt IntKind.u64.bits bb).toNat) ((k:Int)-1)):=by
       intro bb hbb
       rw [hbb,or1 ⟨r0,by omega⟩ ⟨by omega,by omega⟩]
       by_cases hge:2*r+b≥d
       · rw [if_pos hge,if_pos hge] at ih2
         rw [decide_eq_true (show r*2+b≥d by omega),yaf,wu64 (n:=r*2+b-d) ⟨by omega,by omega⟩]
         have e3:(q+q) % 18446744073709551616=((q % 9223372036854775808)*2):=by omega
         rw [e3,or1 ⟨by omega,by omega⟩ ⟨by omega,by omega⟩]
         have e4:(q+q) / 18446744073709551616=(2*q+1) / 18446744073709551616:=by omega
         have e5:q % 9223372036854775808*2+1=(2*q+1) % 18446744073709551616:=by omega
         rw [e4,e5,show r*2+b-d=2*r+b-d by omega]
         exact ih2
       · rw [if_neg hge,if_neg hge] at ih2
         rw [decide_eq_false (show ¬r*2+b≥d by omega),yaa,show q+q=2*q by omega,show r*2+b=2*r+b by omega]
         exact ih2
     by_cases h64:(k:Int)≥64
     · rw [decide_eq_true h64,yaf]
       refine go _ ?_
       rw [show k % 64=k-64 by omega,yOg hA.1 (by omega),← hC,hb]
     · rw [decide_eq_false h64,yaa]
       refine go _ ?_
       rw [show k % 64=k by omega,yOf hA.1 (by omega),← hC,hb]
theorem yLH {A d:Int} (hA:0≤A∧A<340282366920938463463374607431768211456) (hd:0<d∧d<9223372036854775808) (K:Int→Int→Int→Prop) :
   yd6 (A / 18446744073709551616) (A % 18446744073709551616) d K=K (A / d / 18446744073709551616) (A / d % 18446744073709551616) (A % d):=by
 refine yCm _ _ _ _ _ _ (fun K h=>?_) K
 unfold yd6 yqh
 refine ⟨129,?_⟩
 have e:=yIJ (x0:=fun yi4 yi5 yi6 yi7 yi8 yi9 yi10 yi11 yi12 yb13=>K yi9 yi10 yi11) hA hd h 128 129 (by omega) (by omega)
 have z:A / 2 ^ 128=0:=Int.ediv_eq_zero_of_lt hA.1 hA.2
 rw [z,Int.zero_ediv,Int.zero_emod] at e
 exact e
theorem yM6 {s:Bool} {X Y:Int} (hx:0≤X) (hy:0≤Y) (K:Int→Int→Int→Prop) :
   ykA s (X / 18446744073709551616) (X % 18446744073709551616) (Y / 18446744073709551616) (Y % 18446744073709551616) K=outS s X Y K:=by
 unfold ykA ysf outS
 by_cases h:X≤1000000000000000000∧Y≤1000000000000000000
 · have e1:IntKind.i64.wrap (X % 18446744073709551616)=X:=by rw [show X % 18446744073709551616=X by omega,wi64 ⟨by omega,by omega⟩]
   have e2:IntKind.i64.wrap (Y % 18446744073709551616)=Y:=by rw [show Y % 18446744073709551616=Y by omega,wi64 ⟨by omega,by omega⟩]
   rw [if_pos h,decide_eq_false (by omega),yaa,decide_eq_false (by omega),yaa,decide_eq_false (by omega),yaa,decide_eq_false (by omega),yaa,e1,e2]
   cases s
   · rw [yaa];rfl
   · rw [yaf,wi64 ⟨by omega,by omega⟩,Int.zero_sub];rfl
 · rw [if_neg h]
   by_cases h1:X / 18446744073709551616>0
   · rw [decide_eq_true h1,yaf]
   · rw [decide_eq_false h1,yaa]
     by_cases h2:Y / 18446744073709551616>0
     · rw [decide_eq_true h2,yaf]
     · rw [decide_eq_false h2,yaa]
       by_cases h3:X % 18446744073709551616>1000000000000000000
       · rw [decide_eq_true h3,yaf]
       · rw [decide_eq_false h3,yaa,decide_eq_true (by omega),yaf]
end Go.Pf.Vc
namespace Go.Pf.Vc
open Go Go.Pf
theorem yE8 {g:Int} (h:g≠0) {P:Prop}:asr (!(decide (g=(0:Int)))) P=P:=by
 rw [decide_eq_false h];rfl
theorem wuN {n:Nat} (h:(n:Int)≤18446744073709551615):IntKind.u64.wrap (n:Int)=n:=wu64 ⟨by omega,h⟩
theorem tdivN (a b:Nat):Int.tdiv (a:Int) (b:Int)=((a / b:Nat):Int):=by
 rw [Int.tdiv_eq_ediv_of_nonneg (by omega),Int.natCast_ediv]
theorem yDi {A d:Nat} (hA:A<340282366920938463463374607431768211456) (hd:0<d∧d<9223372036854775808) (K:Int→Int→Int→Prop) :
   yd6 ((A:Int) / 18446744073709551616) ((A:Int) % 18446744073709551616) d K=K (((A / d:Nat):Int) / 18446744073709551616) (((A / d:Nat):Int) % 18446744073709551616) ((A % d:Nat):Int):=by
 rw [yLH ⟨by omega,by omega⟩ ⟨by omega,by omega⟩,Int.natCast_ediv,Int.natCast_emod]
theorem ypE {a b:Nat} (ha:a≤18446744073709551615) (hb:b≤18446744073709551615) (K:Int→Int→Prop) :
   yeL (a:Int) (b:Int) K=K (((a*b:Nat):Int) / 18446744073709551616) (((a*b:Nat):Int) % 18446744073709551616):=by
 rw [yLF ⟨by omega,by omega⟩ ⟨by omega,by omega⟩,Int.natCast_mul]
theorem yKu {a b c d:Int} {K:Int→Int→Prop} {Z:Prop} (h:∀ u v,K u v=Z):yhb a b c d K=Z:=by
 unfold yhb ymC
 simp only [h]
 by_cases e:b<d
 · rw [decide_eq_true e,yaf]
 · rw [decide_eq_false e,yaa]
theorem yM7 {s:Bool} {Z p1 p3 g:Nat} (hZ:Z<340282366920938463463374607431768211456) (hg:0<g) (g1:g≤1000000000000000000) (h1:p1≤1000000000000000000) (h3:p3≤1000000000000000000) (K:Int→Int→Int→Prop) :
   cbr (((Z:Int) / 18446744073709551616 ==(0:Int))&&(((Z:Int) % 18446744073709551616 ==(0:Int))&&true)) (K 0 1 0)
     (yd6 ((Z:Int) / 18446744073709551616) ((Z:Int) % 18446744073709551616) (g:Int) (fun _ _ yi30 =>
       (yez yi30 (g:Int) (fun yi31 =>
         (yd6 ((Z:Int) / 18446744073709551616) ((Z:Int) % 18446744073709551616) yi31 (fun yi32 yi33 _ =>
           (asr (!(decide ((g:Int)=(0:Int)))) (asr (!(decide (yi31=(0:Int))))
             (yeL (IntKind.u64.wrap (Int.tdiv (IntKind.u64.wrap (p1:Int)) (g:Int))) (IntKind.u64.wrap (Int.tdiv (IntKind.u64.wrap (p3:Int)) yi31)) (fun yi35 yi36 =>
               (ykA s yi32 yi33 yi35 yi36 (fun yi37 yi38 yi39=>K yi37 yi38 yi39))))))))))))=outA s (Z:Int) p1 p3 g K:=by
 unfold outA
 by_cases h0:Z=0
 · subst h0;rfl
 · have e:(((Z:Int) / 18446744073709551616 ==(0:Int))&&(((Z:Int) % 18446744073709551616 ==(0:Int))&&true))=false:=by
     by_cases e1:(Z:Int) / 18446744073709551616=0
     · rw [beq_t e1,beq_f (by omega)];rfl
     · rw [beq_f e1];rfl
   have hg0:0<Nat.gcd Z g:=Nat.gcd_pos_of_pos_right _ hg
   have hgg:Nat.gcd Z g≤g:=Nat.gcd_le_right _ hg
   have eg:Nat.gcd (Z % g) g=Nat.gcd Z g:=by rw [Nat.gcd_comm Z g,Nat.gcd_rec g Z]
   have q1:p1 / g≤p1:=Nat.div_le_self _ _
   have q3:p3 / Nat.gcd Z g≤p3:=Nat.div_le_self _ _
   rw [e,yaa,if_neg (by omega),yDi hZ ⟨hg,by omega⟩]
   simp only [yE6,eg]
   rw [yDi hZ ⟨hg0,by omega⟩,yE8 (by omega),yE8 (by omega),wuN (by omega),wuN (by omega),tdivN,tdivN,wuN (by omega),wuN (by omega),ypE (by omega) (by omega)]
   rw [yM6 (Int.natCast_nonneg _) (Int.natCast_nonneg _)]
   simp only [Int.toNat_natCast]
theorem yM8 {q r:Rat} (hq:small q) (hr:small r) (K:Int→Int→Int→Prop):yeA q.num q.den r.num r.den K=fitK (q+r) K:=by
 unfold yeA yuZ
 rw [yGJ hq.i1 hq.i2 hr.i1 hr.i2,ykO hq hr,bne_f rfl,yaa,← yE5]
 obtain ⟨a1,a2,a3⟩:=hq
 obtain ⟨b1,b2,b3⟩:=hr
 have dq:=q.den_pos
 have dr:=r.den_pos
 have g0:0<Nat.gcd q.den r.den:=Nat.gcd_pos_of_pos_left _ dq
 have gl:Nat.gcd q.den r.den≤q.den:=Nat.gcd_le_left _ dq
 have w1:yez (IntKind.u64.wrap (q.den:Int)) (IntKind.u64.wrap (r.den:Int))=yez (q.den:Int) (r.den:Int):=by rw [wuN (by omega),wuN (by omega)]
 rw [w1,yE6,ywY ⟨by omega,by omega⟩,yE8 (by omega)]
 show _=outA (decide (q.num*((r.den:Int) / (Nat.gcd q.den r.den:Nat))+r.num*((q.den:Int) / (Nat.gcd q.den r.den:Nat))<0)) ((q.num*((r.den:Int) / (Nat.gcd q.den r.den:Nat))+r.num*((q.den:Int) / (Nat.gcd q.den r.den:Nat))).natAbs:Int) q.den r.den (Nat.gcd q.den r.den) K
 obtain ⟨g,hg⟩:∃ g,g=Nat.gcd q.den r.den:=⟨_,rfl⟩
 rw [← hg] at g0 gl ⊢
 have q3:r.den / g≤r.den:=Nat.div_le_self _ _
 have q4:q.den / g≤q.den:=Nat.div_le_self _ _
 have t1:IntKind.u64.wrap (Int.tdiv (IntKind.u64.wrap (r.den:Int)) (g:Int))=((r.den / g:Nat):Int):=by rw [wuN (by omega),tdivN,wuN (by omega)]
 have t2:IntKind.u64.wrap (Int.tdiv (IntKind.u64.wrap (q.den:Int)) (g:Int))=((q.den / g:Nat):Int):=by rw [wuN (by omega),tdivN,wuN (by omega)]
 rw [t1,ypE (by omega) (by omega)]
 rw [ywY ⟨by omega,by omega⟩,yE8 (by omega),t2,ypE (by omega) (by omega)]
 rw [← Int.natCast_ediv,← Int.natCast_ediv]
 obtain ⟨x,hx⟩:∃ x,x=r.den / g:=⟨_,rfl⟩
 obtain ⟨y,hy⟩:∃ y,y=q.den / g:=⟨_,rfl⟩
 rw [← hx] at q3 ⊢
 rw [← hy] at q4 ⊢
 have X1:q.num.natAbs*x≤1000000000000000000*1000000000000000000:=Nat.mul_le_mul (by omega) (by omega)
 have Y1:r.num.natAbs*y≤1000000000000000000*1000000000000000000:=Nat.mul_le_mul (by omega) (by omega)
 have ax:q.num*(x:Int)=if q.num<0 then -((q.num.natAbs*x:Nat):Int) else ((q.num.natAbs*x:Nat):Int):=by
   rw [Int.natCast_mul]
   split
   · rw [show ((q.num.natAbs:Nat):Int)=-q.num by omega,Int.neg_mul,Int.neg_neg]
   · rw [show ((q.num.natAbs:Nat):Int)=q.num by omega]
 have cy:r.num*(y:Int)=if r.num<0 then -((r.num.natAbs*y:Nat):Int) else ((r.num.natAbs*y:Nat):Int):=by
   rw [Int.natCast_mul]
   split
   · rw [show ((r.num.natAbs:Nat):Int)=-r.num by omega,Int.neg_mul,Int.neg_neg]
   · rw [show ((r.num.natAbs:Nat):Int)=r.num by omega]
 rw [ax,cy]
 obtain ⟨X,hX⟩:∃ X,X=q.num.natAbs*x:=⟨_,rfl⟩
 obtain ⟨Y,hY⟩:∃ Y,Y=r.num.natAbs*y:=⟨_,rfl⟩
 rw [← hX] at X1 ⊢
 rw [← hY] at Y1 ⊢
 rw [yE7 (by omega) (by omega) (by omega)]
 have fin:=fun (s:Bool) (Z:Nat) (hZ:Z<340282366920938463463374607431768211456)=>yM7 (s:=s) (Z:=Z) (p1:=q.den) (p3:=r.den) (g:=g) hZ g0 (by omega) (by omega) (by omega) K
 simp only [t2,← hy] at fin
 have cong:∀ (s s':Bool) (Z Z':Int),Z=Z'→(Z≠0→s=s')→outA s Z q.den r.den g K=outA s' Z' q.den r.den g K:=by
   intro s s' Z Z' h1 h2
   subst h1
   by_cases h:Z=0
   · unfold outA;rw [if_pos h,if_pos h]
   · rw [h2 h]
 by_cases hs:decide (q.num<0)=decide (r.num<0)
 · have e:(decide (q.num<0) != decide (r.num<0))=false:=by rw [hs];simp
   rw [e,yaa,show (X:Int)+Y=((X+Y:Nat):Int) by omega]
   rw [fin (decide (q.num<0)) (X+Y) (by omega)]
   refine cong _ _ _ _ ?_ ?_
   · by_cases h1:q.num<0
     · have h2:r.num<0:=by simpa [h1] using hs.symm
       rw [if_pos h1,if_pos h2];omega
     · have h2:¬r.num<0:=by simpa [h1] using hs.symm
       rw [if_neg h1,if_neg h2];omega
   · intro h0
     by_cases h1:q.num<0
     · have h2:r.num<0:=by simpa [h1] using hs.symm
       rw [if_pos h1,if_pos h2,decide_eq_true h1,decide_eq_true (by omega)]
     · have h2:¬r.num<0:=by simpa [h1] using hs.symm
       rw [if_neg h1,if_neg h2,decide_eq_false h1,decide_eq_false (by omega)]
 · have e:(decide (q.num<0) != decide (r.num<0))=true:=by simpa using hs
   have h12:(q.num<0∧¬r.num<0)∨(¬q.num<0∧r.num<0):=by
     by_cases h1:q.num<0 <;> by_cases h2:r.num<0 <;> simp [h1,h2] at hs ⊢
   rw [e,yaf]
   by_cases hlt:X<Y
   · refine yKu (fun u v=>?_)
     rw [ywZ (by omega) (by omega),decide_eq_true (by omega),yaf,yGK (by omega) (by omega) (by omega)]
     have ez:(Y:Int)-X=((Y-X:Nat):Int):=by omega
     rw [ez]
     rw [fin (decide (r.num<0)) (Y-X) (by omega)]
     refine cong _ _ _ _ ?_ ?_
     · rcases h12 with ⟨h1,h2⟩ | ⟨h1,h2⟩
       · rw [if_pos h1,if_neg h2];omega
       · rw [if_neg h1,if_pos h2];omega
     · intro h0
       rcases h12 with ⟨h1,h2⟩ | ⟨h1,h2⟩
       · rw [if_pos h1,if_neg h2,decide_eq_false h2,decide_eq_false (by omega)]
       · rw [if_neg h1,if_pos h2,decide_eq_true h2,decide_eq_true (by omega)]
   · rw [yGK (by omega) (by omega) (by omega),ywZ (by omega) (by omega),decide_eq_false (by omega),yaa]
     have ez:(X:Int)-Y=((X-Y:Nat):Int):=by omega
     rw [ez]
     rw [fin (decide (q.num<0)) (X-Y) (by omega)]
     refine cong _ _ _ _ ?_ ?_
     · rcases h12 with ⟨h1,h2⟩ | ⟨h1,h2⟩
       · rw [if_pos h1,if_neg h2];omega
       · rw [if_neg h1,if_pos h2];omega
     · intro h0
       rcases h12 with ⟨h1,h2⟩ | ⟨h1,h2⟩
       · rw [if_pos h1,if_neg h2,decide_eq_true h1,decide_eq_true (by omega)]
       · rw [if_neg h1,if_pos h2,decide_eq_false h1,decide_eq_false (by omega)]
theorem small.neg {q:Rat} (hq:small q):small (-q):=by
 obtain ⟨a1,a2,a3⟩:=hq
 unfold small
 rw [Rat.neg_num,Rat.neg_den]
 omega
theorem yGL {q r:Rat} (hq:small q) (hr:small r) (K:Bool→Prop):ycx q.num q.den r.num r.den K=K (decide (q<r)):=by
 unfold ycx ysc
 have hq':=hq;have hr':=hr
 obtain ⟨a1,a2,a3⟩:=hq
 obtain ⟨b1,b2,b3⟩:=hr
 have dq:=q.den_pos
 have dr:=r.den_pos
 have e:decide (q<r)=decide (q.num*r.den<r.num*q.den):=by rw [decide_eq_decide];exact Rat.lt_iff q r
 rw [e]
 by_cases hs:(decide (q.num<0) != decide (r.num<0))=true
 · rw [hs,yaf]
   by_cases h1:q.num<0
   · have h2:¬r.num<0:=by simpa [h1] using hs
     have p1:q.num*r.den<0:=Int.mul_neg_of_neg_of_pos h1 (by omega)
     have p2:0≤r.num*q.den:=Int.mul_nonneg (by omega) (by omega)
     rw [decide_eq_true h1,decide_eq_true (by omega)]
   · have h2:r.num<0:=by simpa [h1] using hs
     have p1:r.num*q.den<0:=Int.mul_neg_of_neg_of_pos h2 (by omega)
     have p2:0≤q.num*r.den:=Int.mul_nonneg (by omega) (by omega)
     rw [decide_eq_false h1,decide_eq_false (by omega)]
 · have hs':(decide (q.num<0) != decide (r.num<0))=false:=by simpa using hs
   rw [hs',yaa,ywY hq'.i1,wuN (by omega),ypE (by omega) (by omega),ywY hr'.i1,wuN (by omega),ypE (by omega) (by omega),ywZ (Int.natCast_nonneg _) (Int.natCast_nonneg _),ywZ (Int.natCast_nonneg _) (Int.natCast_nonneg _),Int.natCast_mul,Int.natCast_mul]
   by_cases h1:q.num<0
   · have h2:r.num<0:=by simpa [h1] using hs'
     rw [decide_eq_true h1,yaf,show ((q.num.natAbs:Nat):Int)=-q.num by omega,show ((r.num.natAbs:Nat):Int)=-r.num by omega,Int.neg_mul,Int.neg_mul]
     congr 1
     rw [decide_eq_decide];omega
   · have h2:¬r.num<0:=by simpa [h1] using hs'
     rw [decide_eq_false h1,yaa,show ((q.num.natAbs:Nat):Int)=q.num by omega,show ((r.num.natAbs:Nat):Int)=r.num by omega]
theorem yOh (n:Int) (K:Int→Int→Prop):yjx n K=K (n:Rat).num (n:Rat).den:=rfl
end Go.Pf.Vc
namespace Go.Pf.Vc
open Go Go.Pf
theorem cbT {c:Prop} [Decidable c] {P Q:Prop} (h:c):cbr (decide c) P Q=P:=by rw [decide_eq_true h,yaf]
theorem cbF {c:Prop} [Decidable c] {P Q:Prop} (h:¬c):cbr (decide c) P Q=Q:=by rw [decide_eq_false h,yaa]
theorem cnT {a b:Int} {P Q:Prop} (h:a≠b):cbr (a != b) P Q=P:=by rw [bne_t h,yaf]
theorem cnF {a b:Int} {P Q:Prop} (h:a=b):cbr (a != b) P Q=Q:=by rw [bne_f h,yaa]
theorem ceT {a b:Int} {P Q:Prop} (h:a=b):cbr (a == b) P Q=P:=by rw [beq_t h,yaf]
theorem ceF {a b:Int} {P Q:Prop} (h:a≠b):cbr (a == b) P Q=Q:=by rw [beq_f h,yaa]
theorem asT {c:Prop} [Decidable c] {P:Prop} (h:c):asr (decide c) P=P:=by rw [decide_eq_true h,yay]
theorem asC {l:List Int} {i:Nat} {P:Prop} (h:i<l.length):asr (conf (.one (.i .i64)) (List.getD (ints l) i .nils)) P=P:=by rw [ykN h,yay]
theorem wib {n:Int} (h1:-9223372036854775808≤n) (h2:n≤9223372036854775807):IntKind.i64.wrap n=n:=wi64 ⟨h1,h2⟩
theorem cast1 (i:Nat):(i:Int)+1=((i+1:Nat):Int):=by omega
theorem ygF {x:Int} (h:-1000000000000000000≤x∧x≤1000000000000000000):small (x:Rat):=by
 unfold small
 rw [Rat.num_intCast,Rat.den_intCast]
 omega
def allD (dens:List Int):Prop:=∀ d∈dens,0≤d∧d≤12
def someD (dens:List Int):Prop:=∃ d∈dens,0<d
instance (l:List Int):Decidable (allD l):=by unfold allD;infer_instance
instance (l:List Int):Decidable (someD l):=by unfold someD;infer_instance
def VC (len:Int) (cuts dens:List Int):Prop :=
 1≤len∧len≤1000∧2≤cuts.length∧cuts.length≤40∧dens.length+1=cuts.length∧cuts.getD 0 0=0∧cuts.getD (cuts.length-1) 0=len∧incr cuts 0∧allD dens∧someD dens
theorem yLI (l:List Int):incr l 0↔∀ j,j<l.length→j+1<l.length→l.getD j 0<l.getD (j+1) 0:=⟨fun h j _ h2=>h j (by omega) h2,fun h j _ h2=>h j (by omega) h2⟩
instance (l:List Int):Decidable (incr l 0):=decidable_of_iff _ (yLI l).symm
instance (len:Int) (cuts dens:List Int):Decidable (VC len cuts dens):=by unfold VC;infer_instance
def ckC (len:Int) (cuts dens:List Int):Int:=if len>1000∨cuts.length>40 then 4 else if VC len cuts dens then 0 else 8
theorem yJx (l:List Int) (x:Int):(l.foldl mnf x<0)↔¬(∀ d∈x::l,0≤d):=by
 induction l generalizing x with
 | nil=>simp
 | cons y t ih =>
   rw [List.foldl_cons,ih]
   unfold mnf
   simp only [List.forall_mem_cons]
   split
   · constructor
     · intro h h2;exact h ⟨h2.2.1,h2.2.2⟩
     · intro h h2;exact h ⟨by omega,h2.1,h2.2⟩
   · constructor
     · intro h h2;exact h ⟨h2.1,h2.2.2⟩
     · intro h h2;exact h ⟨h2.1,by omega,h2.2⟩
theorem yw0 (l:List Int) (x k:Int):(l.foldl mxf x>k)↔¬(∀ d∈x::l,d≤k):=by
 induction l generalizing x with
 | nil=>simp
 | cons y t ih =>
   rw [List.foldl_cons,ih]
   unfold mxf
   simp only [List.forall_mem_cons]
   split
   · constructor
     · intro h h2;exact h ⟨h2.2.1,h2.2.2⟩
     · intro h h2;exact h ⟨by omega,h2.1,h2.2⟩
   · constructor
     · intro h h2;exact h ⟨h2.1,h2.2.2⟩
     · intro h h2;exact h ⟨h2.1,by omega,h2.2⟩
theorem ymZ {len:Int} {cuts dens:List Int} (h1:cuts.length<4611686018427387904) (h2:dens.length<4611686018427387904) (K:Int→Prop) :
   yan len (ints cuts) (ints dens) K=K (ckC len cuts dens):=by
 refine yAs _ _ _ _ (fun K k=>?_) K
 unfold yan yoG
 simp only [ycs]
 have bad:¬(len>1000∨cuts.length>40)→¬VC len cuts dens→K 8:=fun h h2=>by
   rw [ckC,if_neg h,if_neg h2] at k;exact k
 by_cases a1:len>1000
 · rw [cbT a1];rw [ckC,if_pos (.inl a1)] at k;exact k
 rw [cbF a1]
 by_cases a2:cuts.length>40
 · rw [cbT (by omega)];rw [ckC,if_pos (.inr a2)] at k;exact k
 have a12:¬(len>1000∨cuts.length>40):=by omega
 rw [cbF (by omega)]
 by_cases a3:len<1
 · rw [cbT a3];exact bad a12 (fun h=>by have:=h.1;omega)
 rw [cbF a3]
 by_cases a4:cuts.length<2
 · rw [cbT (by omega)];exact bad a12 (fun h=>by have:=h.2.2.1;omega)
 rw [cbF (by omega),wib (n:=(cuts.length:Int)-1) (by omega) (by omega)]
 by_cases a5:dens.length+1=cuts.length
 case neg=>rw [cnT (by omega)];exact bad a12 (fun h=>a5 h.2.2.2.2.1)
 rw [cnF (by omega),asT (by omega),asC (by omega),yeq (by omega)]
 by_cases a6:cuts.getD 0 0=0
 case neg=>rw [cnT a6];exact bad a12 (fun h=>a6 h.2.2.2.2.2.1)
 rw [cnF a6,asT (by omega),asT (by omega),asC (by omega),yeq (by omega)]
 have en:((cuts.length:Int)-1).toNat=cuts.length-1:=by omega
 rw [en]
 by_cases a7:cuts.getD (cuts.length-1) 0=len
 case neg=>rw [cnT a7];exact bad a12 (fun h=>a7 h.2.2.2.2.2.2.1)
 rw [cnF a7]
 refine ⟨cuts.length+1,?_⟩
 refine yII (by omega) _ _ _ _ (cuts.length-1) 0 _ (by omega) (by omega) (fun hi=>?_) (fun hi=>bad a12 (fun h=>hi h.2.2.2.2.2.2.2.1))
 obtain ⟨x,t,e⟩:∃ x t,dens=x::t:=by
   cases dens with
   | nil=>exfalso;have:([]:List Int).length=0:=rfl;omega
   | cons x t=>exact ⟨x,t,rfl⟩
 refine yOe (by omega) e ?_
 by_cases b1:t.foldl mnf x<0
 · rw [cbT b1]
   rw [yJx] at b1
   exact bad a12 (fun h=>b1 fun d hd=>(h.2.2.2.2.2.2.2.2.1 d (by rw [e];exact hd)).1)
 rw [cbF b1]
 refine yLA (by omega) e ?_
 by_cases b2:t.foldl mxf x>12
 · rw [cbT b2]
   rw [yw0] at b2
   exact bad a12 (fun h=>b2 fun d hd=>(h.2.2.2.2.2.2.2.2.1 d (by rw [e];exact hd)).2)
 rw [cbF b2]
 refine yLA (by omega) e ?_
 have c1:∀ d∈dens,0≤d:=by rw [yJx,Classical.not_not,← e] at b1;exact b1
 have c2:∀ d∈dens,d≤12:=by rw [yw0,Classical.not_not,← e] at b2;exact b2
 by_cases b3:t.foldl mxf x=0
 · rw [ceT b3]
   refine bad a12 (fun h=>?_)
   obtain ⟨d,hd,h0⟩:=h.2.2.2.2.2.2.2.2.2
   have:¬(t.foldl mxf x>0):=by omega
   rw [yw0,Classical.not_not,← e] at this
   have:=this d hd
   omega
 · rw [ceF b3]
   have b4:t.foldl mxf x>0:=by
     refine Int.not_le.1 fun hle=>b3 ?_
     have:t.foldl mxf x>-1:=by
       rw [yw0]
       intro h
       have h1:=h x (List.mem_cons_self ..)
       have h2:=c1 x (by rw [e];exact List.mem_cons_self ..)
       omega
     omega
   rw [yw0,← e] at b4
   have b5:someD dens:=by
     refine Classical.byContradiction fun hn=>b4 fun d hd=>?_
     exact Int.not_lt.1 fun hlt=>hn ⟨d,hd,hlt⟩
   rw [ckC,if_neg a12,if_pos ⟨by omega,by omega,by omega,by omega,a5,a6,a7,hi,fun d hd=>⟨c1 d hd,c2 d hd⟩,b5⟩] at k
   exact k
theorem ysK (n:Int) (K:Int→Int→Prop):ydm n K=K (n:Rat).num (n:Rat).den:=rfl
theorem yjV {q r:Rat} (hq:small q) (hr:small r) (K:Bool→Prop):ydr q.num q.den r.num r.den K=K (decide (q<r)):=by
 unfold ydr yp5
 rw [yzA hq hr]
 congr 1
 rw [decide_eq_decide,cmpQ]
 by_cases h:q<r
 · simp [h]
 · by_cases h2:r<q <;> simp [h,h2]
def PT (len:Int) (n d:Int):Prop:=RV n d∧0≤n∧n≤len*d
instance (len n d:Int):Decidable (PT len n d):=by unfold PT;infer_instance
theorem yOi {len n d:Int} (h:PT len n d):∃ q:Rat,small q∧q.num=n∧(q.den:Int)=d∧0≤q∧q≤(len:Rat):=by
 obtain ⟨h1,h2,h3⟩:=h
 obtain ⟨q,e1,e2,e3⟩:=yE4 h1
 refine ⟨q,e1,e2,e3,?_,?_⟩
 · rw [← Rat.num_nonneg,e2];exact h2
 · rw [Rat.le_iff,e2,e3,Rat.num_intCast,Rat.den_intCast];simpa using h3
theorem yA4 (x:Int) (q:Rat):((x:Rat)<q)↔x*(q.den:Int)<q.num:=by
 rw [Rat.lt_iff,Rat.num_intCast,Rat.den_intCast];simp
theorem yGM {len:Int} (hl:-1000000000000000000≤len∧len≤1000000000000000000) {n d:Int} (hn:I64 n) (hd:I64 d) (a b:List PV) (K:Bool→Prop) :
   ydW len a b n d K=K (decide (PT len n d)):=by
 unfold ydW yoI
 rw [yKt hn hd]
 by_cases h:RV n d
 · obtain ⟨q,e1,e2,e3⟩:=yE4 h
   rw [chk,if_pos h,ceT rfl]
   by_cases h0:n≥0
   · rw [cbT h0,ysK,← e2,← e3,yjV (ygF hl) e1]
     congr 1
     have:((len:Rat)<q)↔len*(q.den:Int)<q.num:=yA4 _ _
     by_cases h3:(len:Rat)<q
     · have h4:=this.1 h3
       rw [decide_eq_true h3,decide_eq_false];rfl
       intro hp;have:=hp.2.2;omega
     · have h4:¬_:=fun x=>h3 (this.2 x)
       rw [decide_eq_false h3,decide_eq_true];rfl
       exact ⟨e1.rv,by omega,by omega⟩
   · rw [cbF h0,decide_eq_false]
     intro hp;have:=hp.2.1;omega
 · rw [chk,if_neg h,ceF (by decide),decide_eq_false]
   intro hp;exact h hp.1
end Go.Pf.Vc
namespace Go.Pf.Vc
open Go Go.Pf
section
variable {len:Int} {cuts dens:List Int}
theorem VC.step (h:VC len cuts dens) {i:Nat} (hi:i+1<cuts.length):cuts.getD i 0<cuts.getD (i+1) 0:=h.2.2.2.2.2.2.2.1 i (Nat.zero_le _) hi
theorem VC.mono (h:VC len cuts dens) {i:Nat}:∀ {j:Nat},i≤j→j<cuts.length→cuts.getD i 0≤cuts.getD j 0
 | 0,hij,_=>by
   have:i=0:=by omega
   subst this;exact Int.le_refl _
 | j+1,hij,hj=>by
   by_cases e:i=j+1
   · subst e;exact Int.le_refl _
   · have h1:=h.mono (i:=i) (j:=j) (by omega) (by omega)
     have h2:=h.step (i:=j) hj
     omega
theorem VC.lo (h:VC len cuts dens) {i:Nat} (hi:i<cuts.length):0≤cuts.getD i 0:=by
 have:=h.mono (Nat.zero_le i) hi
 rw [h.2.2.2.2.2.1] at this;exact this
theorem VC.hi (h:VC len cuts dens) {i:Nat} (hi:i<cuts.length):cuts.getD i 0≤len:=by
 have:=h.mono (i:=i) (j:=cuts.length-1) (by omega) (by omega)
 rw [h.2.2.2.2.2.2.1] at this;exact this
theorem VC.den (h:VC len cuts dens) {i:Nat} (hi:i<dens.length):0≤dens.getD i 0∧dens.getD i 0≤12:=by
 rw [List.getD_eq_getElem?_getD,List.getElem?_eq_getElem hi]
 exact h.2.2.2.2.2.2.2.2.1 _ (List.getElem_mem hi)
theorem VC.l1 (h:VC len cuts dens):dens.length+1=cuts.length:=h.2.2.2.2.1
theorem VC.l2 (h:VC len cuts dens):cuts.length≤40:=h.2.2.2.1
theorem VC.len0 (h:VC len cuts dens):1≤len∧len≤1000:=⟨h.1,h.2.1⟩
theorem VC.sc (h:VC len cuts dens) {i:Nat} (hi:i<cuts.length):small ((cuts.getD i 0:Int):Rat):=ygF (by have:=h.lo hi;have:=h.hi hi;have:=h.len0;omega)
theorem VC.sd (h:VC len cuts dens) {i:Nat} (hi:i<dens.length):small ((dens.getD i 0:Int):Rat):=ygF (by have:=h.den hi;omega)
theorem yA5 (h:ckC len cuts dens=0):VC len cuts dens:=by
 unfold ckC at h
 split at h
 · omega
 · split at h
   · assumption
   · omega
theorem VC.ck (h:VC len cuts dens):ckC len cuts dens=0:=by
 rw [ckC,if_neg (by have:=h.l2;have:=h.len0;omega),if_pos h]
def totS (cuts dens:List Int):Nat→Nat→Int→Int
 | 0,_,s=>s
 | r+1,i,s=>totS cuts dens r (i+1) (s+dens.getD i 0*(cuts.getD (i+1) 0-cuts.getD i 0))
def totC (cuts dens:List Int):Int:=totS cuts dens dens.length 0 0
theorem mul12 {d x:Int} (h:0≤d∧d≤12) (hx:0≤x):0≤d*x∧d*x≤12*x:=⟨Int.mul_nonneg h.1 hx,Int.mul_le_mul_of_nonneg_right h.2 hx⟩
theorem yA6 (h:VC len cuts dens):∀ (r i:Nat) (s:Int),i+r=dens.length→0≤s→s≤12*cuts.getD i 0→0≤totS cuts dens r i s∧totS cuts dens r i s≤12*len
 | 0,i,s,hi,h0,h1=>by
   have:=h.l1
   have:=h.hi (i:=i) (by omega)
   unfold totS
   omega
 | r+1,i,s,hi,h0,h1=>by
   unfold totS
   have l1:=h.l1
   have h2:=h.step (i:=i) (by omega)
   have h3:=mul12 (h.den (i:=i) (by omega)) (x:=cuts.getD (i+1) 0-cuts.getD i 0) (by omega)
   exact yA6 h r (i+1) _ (by omega) (by omega) (by omega)
theorem ykP (h:VC len cuts dens):0≤totC cuts dens∧totC cuts dens≤12000:=by
 have l1:=h.l1
 have h0:=h.lo (i:=0) (by omega)
 have:=yA6 h dens.length 0 0 (by omega) (by omega) (by omega)
 have h2:=h.len0
 unfold totC;omega
theorem yA7 (h:VC len cuts dens) (W:Int→List PV→List PV→(Int→Prop)→Prop) (x0:Int→List PV→List PV→Int→List PV→Int→Int→Bool→Prop) :
   ∀ (r i n:Nat) (s:Int),i+r=dens.length→r<n→0≤s→s≤12*cuts.getD i 0 →
     ycF W x0 n len (ints cuts) (ints dens) s (ints dens) dens.length i=x0 len (ints cuts) (ints dens) (totS cuts dens r i s) (ints dens) dens.length dens.length false
 | 0,i,n+1,s,hi,hn,h0,h1=>by
   unfold ycF totS
   rw [cbF (by omega)]
   have:(i:Int)=dens.length:=by omega
   rw [this]
 | r+1,i,n+1,s,hi,hn,h0,h1=>by
   unfold ycF
   have l1:=h.l1;have l2:=h.l2
   have h2:=h.step (i:=i) (by omega)
   have h3:=mul12 (h.den (i:=i) (by omega)) (x:=cuts.getD (i+1) 0-cuts.getD i 0) (by omega)
   have a1:=h.lo (i:=i) (by omega)
   have a2:=h.hi (i:=i+1) (by omega)
   have a3:=h.len0
   have e1:=wib (n:=(i:Int)+1) (by omega) (by omega)
   have e2:=wib (n:=cuts.getD (i+1) 0-cuts.getD i 0) (by omega) (by omega)
   have e3:=wib (n:=dens.getD i 0*(cuts.getD (i+1) 0-cuts.getD i 0)) (by omega) (by omega)
   have e4:=wib (n:=s+dens.getD i 0*(cuts.getD (i+1) 0-cuts.getD i 0)) (by omega) (by omega)
   rw [cbT (by omega),ycs,ycs,e1,cast1,Int.toNat_natCast,Int.toNat_natCast,asT (by omega),asT (by omega),asC (by omega),asT (by omega),asT (by omega),asC (by omega),asT (by omega),asT (by omega),asC (by omega),yeq (by omega),yeq (by omega),yeq (by omega),e2,e3,e4]
   exact yA7 h W x0 r (i+1) n _ (by omega) (by omega) (by omega) (by omega)
theorem yDj (h1:cuts.length<4611686018427387904) (h2:dens.length<4611686018427387904) (K:Int→Int→Prop) :
   yae len (ints cuts) (ints dens) K=if ckC len cuts dens=0 then K (totC cuts dens) 0 else K 0 (ckC len cuts dens):=by
 by_cases h:ckC len cuts dens=0
 · rw [if_pos h]
   refine yAu _ _ _ _ _ (fun K k=>?_) K
   unfold yae yk3
   have hv:=yA5 h
   rw [ymZ h1 h2,h,cnF rfl]
   refine ⟨dens.length+1,?_⟩
   have l1:=hv.l1
   have a1:=hv.lo (i:=0) (by omega)
   rw [ycs]
   have:=yA7 hv yan (fun yi1 yl2 yl3 yi4 yl5 yi6 yi7 yb8=>(K yi4 (0:Int))) dens.length 0 (dens.length+1) 0 (by omega) (by omega) (by omega) (by omega)
   rw [show ((0:Nat):Int)=0 from rfl] at this
   rw [this]
   exact k
 · rw [if_neg h]
   unfold yae yk3
   rw [ymZ h1 h2,cnT h]
def exK (e:Except Int Rat) (K:Int→Int→Int→Prop):Prop:=match e with | .ok q=>K q.num q.den 0 | .error c=>K 0 0 c
def fit {α:Type} (q:Rat) (k:Rat→Except Int α):Except Int α:=if small q then k q else .error 16
def valS (cuts dens:List Int) (b:Rat):Nat→Nat→Rat→Rat→Except Int Rat
 | 0,_,_,sum=>.ok sum
 | r+1,i,p,sum =>
   let en:Rat:=if b<(cuts.getD (i+1) 0:Int) then b else (cuts.getD (i+1) 0:Int)
   if dens.getD i 0=0∨¬p<en then valS cuts dens b r (i+1) (if p<en then en else p) sum
   else fit (en-p) fun l=>fit (l*(dens.getD i 0:Int)) fun w=>fit (sum+w) fun s=>valS cuts dens b r (i+1) en s
def valC (cuts dens:List Int) (a b:Rat):Except Int Rat:=valS cuts dens b dens.length 0 a 0
theorem ys6 {q:Rat} {K:Int→Int→Int→Prop}:fitK q K=if small q then K q.num q.den 0 else K 0 0 16:=rfl
theorem yA8 (h:VC len cuts dens) {b:Rat} (hb:small b) (an ad:Int) (W1:Int→List PV→List PV→(Int→Prop)→Prop) (W2:Int→List PV→List PV→Int→Int→(Bool→Prop)→Prop) (K:Int→Int→Int→Prop) :
   ∀ (r i n:Nat) (p sum:Rat),i+r=dens.length→r<n→small p→small sum →
     yaU W1 W2 ydr ydm yc0 yci yaE (fun yi37 yi38 yi39=>(K yi37 yi38 yi39)) (fun _ _ _ _ _ _ _ yi47 yi48 _ _ _ _ _ _=>(K yi47 yi48 (0:Int)))
       n len (ints cuts) (ints dens) b.num b.den an ad sum.num sum.den p.num p.den (ints dens) dens.length i=exK (valS cuts dens b r i p sum) K
 | 0,i,n+1,p,sum,hi,hn,hp,hs=>by
   unfold yaU valS
   rw [cbF (by omega)];rfl
 | r+1,i,n+1,p,sum,hi,hn,hp,hs=>by
   unfold yaU
   have l1:=h.l1;have l2:=h.l2
   have sc:=h.sc (i:=i+1) (by omega)
   have sd:=h.sd (i:=i) (by omega)
   have e1:=wib (n:=(i:Int)+1) (by omega) (by omega)
   rw [cbT (by omega),ycs,ycs,e1,cast1,Int.toNat_natCast,Int.toNat_natCast,asT (by omega),asT (by omega),asC (by omega),asT (by omega),asT (by omega),asC (by omega),yeq (by omega),yeq (by omega),ysK,yjV hb sc]
   have ih:=fun p sum hp hs=>yA8 h hb an ad W1 W2 K r (i+1) n p sum (by omega) (by omega) hp hs
   unfold valS
   by_cases hbc:b<((cuts.getD (i+1) 0:Int):Rat)
   · rw [cbT hbc]
     simp only [if_pos hbc]
     by_cases hd:dens.getD i 0=0
     · rw [ceT hd,if_pos (.inl hd),yjV hp hb]
       by_cases hpb:p<b
       · rw [cbT hpb,if_pos hpb];exact ih b sum hb hs
       · rw [cbF hpb,if_neg hpb];exact ih p sum hp hs
     · rw [ceF hd,yjV hp hb]
       by_cases hpb:p<b
       · have hc:¬(dens.getD i 0=0∨¬p<b):=by simp [hpb];exact hd
         rw [if_neg hc,decide_eq_true hpb,Bool.not_true,yaa,yJv hb hp,ys6]
         by_cases s1:small (b-p)
         · rw [if_pos s1,cnF rfl,ysK,yJu s1 sd,ys6,fit,if_pos s1]
           by_cases s2:small ((b-p)*(dens.getD i 0:Int))
           · rw [if_pos s2,cnF rfl,ys5 hs s2,ys6,fit,if_pos s2]
             by_cases s3:small (sum+(b-p)*(dens.getD i 0:Int))
             · rw [if_pos s3,cnF rfl,fit,if_pos s3];exact ih b _ hb s3
             · rw [if_neg s3,cnT (by decide),fit,if_neg s3];rfl
           · rw [if_neg s2,cnT (by decide),fit,if_neg s2];rfl
         · rw [if_neg s1,cnT (by decide),fit,if_neg s1];rfl
       · rw [if_pos (.inr hpb),decide_eq_false hpb,Bool.not_false,yaf,yjV hp hb,cbF hpb,if_neg hpb];exact ih p sum hp hs
   · rw [cbF hbc]
     simp only [if_neg hbc]
     obtain ⟨c,hc⟩:∃ c:Rat,c=((cuts.getD (i+1) 0:Int):Rat):=⟨_,rfl⟩
     rw [← hc] at sc ⊢
     by_cases hd:dens.getD i 0=0
     · rw [ceT hd,if_pos (.inl hd),yjV hp sc]
       by_cases hpb:p<c
       · rw [cbT hpb,if_pos hpb];exact ih c sum sc hs
       · rw [cbF hpb,if_neg hpb];exact ih p sum hp hs
     · rw [ceF hd,yjV hp sc]
       by_cases hpb:p<c
       · have hcc:¬(dens.getD i 0=0∨¬p<c):=by simp [hpb];exact hd
         rw [if_neg hcc,decide_eq_true hpb,Bool.not_true,yaa,yJv sc hp,ys6]
         by_cases s1:small (c-p)
         · rw [if_pos s1,cnF rfl,ysK,yJu s1 sd,ys6,fit,if_pos s1]
           by_cases s2:small ((c-p)*(dens.getD i 0:Int))
           · rw [if_pos s2,cnF rfl,ys5 hs s2,ys6,fit,if_pos s2]
             by_cases s3:small (sum+(c-p)*(dens.getD i 0:Int))
             · rw [if_pos s3,cnF rfl,fit,if_pos s3];exact ih c _ sc s3
             · rw [if_neg s3,cnT (by decide),fit,if_neg s3];rfl
           · rw [if_neg s2,cnT (by decide),fit,if_neg s2];rfl
         · rw [if_neg s1,cnT (by decide),fit,if_neg s1];rfl
       · rw [if_pos (.inr hpb),decide_eq_false hpb,Bool.not_false,yaf,yjV hp sc,cbF hpb,if_neg hpb];exact ih p sum hp hs
end
end Go.Pf.Vc
namespace Go.Pf.Vc
open Go Go.Pf
def rt (n d:Int):Rat:=mkRat n d.toNat
theorem yf0 (q:Rat):rt q.num q.den=q:=by unfold rt;rw [Int.toNat_natCast,Rat.mkRat_self]
theorem rt_of {n d:Int} (h:RV n d):small (rt n d)∧(rt n d).num=n∧((rt n d).den:Int)=d:=by
 obtain ⟨q,h1,h2,h3⟩:=yE4 h
 subst h2 h3
 rw [yf0];exact ⟨h1,rfl,rfl⟩
theorem PT.pt {len n d:Int} (h:PT len n d):small (rt n d)∧(rt n d).num=n∧((rt n d).den:Int)=d∧0≤rt n d∧rt n d≤(len:Rat):=by
 obtain ⟨q,h1,h2,h3,h4,h5⟩:=yOi h
 subst h2 h3
 rw [yf0];exact ⟨h1,rfl,rfl,h4,h5⟩
theorem PT_of {len:Int} {q:Rat} (h:small q) (h0:0≤q) (h1:q≤(len:Rat)):PT len q.num q.den:=by
 refine ⟨h.rv,Rat.num_nonneg.2 h0,?_⟩
 rw [Rat.le_iff,Rat.num_intCast,Rat.den_intCast] at h1
 simpa using h1
section
variable {len:Int} {cuts dens:List Int}
def valR (len:Int) (cuts dens:List Int) (an ad bn bd:Int):Except Int Rat :=
 if ckC len cuts dens=0 then (if PT len an ad∧PT len bn bd∧¬rt bn bd<rt an ad then valC cuts dens (rt an ad) (rt bn bd) else .error 2) else .error (ckC len cuts dens)
theorem yOj {w:(Int→Int→Int→Prop)→Prop} {e:Except Int Rat} (det:∀ r0 r1 r2,(∀ K:Int→Int→Int→Prop,K r0 r1 r2→w K)→∀ K,w K=K r0 r1 r2) (h:∀ K,exK e K→w K) (K:Int→Int→Int→Prop):w K=exK e K:=by
 cases e with
 | ok q=>exact det _ _ _ h K
 | error c=>exact det _ _ _ h K
theorem yDk (h1:cuts.length<4611686018427387904) (h2:dens.length<4611686018427387904) {an ad bn bd:Int} (ha:I64 an) (ha':I64 ad) (hb:I64 bn) (hb':I64 bd) (K:Int→Int→Int→Prop) :
   yaF len (ints cuts) (ints dens) an ad bn bd K=exK (valR len cuts dens an ad bn bd) K:=by
 refine yOj (fun r0 r1 r2 h K=>yAt _ _ _ _ _ _ _ r0 r1 r2 h K) (fun K k=>?_) K
 unfold yaF yoK
 rw [ymZ h1 h2]
 unfold valR at k
 by_cases h:ckC len cuts dens=0
 case neg=>rw [cnT h];rw [if_neg h] at k;exact k
 have hv:=yA5 h
 have hl:=hv.len0
 rw [if_pos h] at k
 rw [cnF h,yGM (by omega) ha ha']
 by_cases p1:PT len an ad
 case neg=>rw [decide_eq_false p1,Bool.not_false,yaf];rw [if_neg (fun x=>p1 x.1)] at k;exact k
 rw [decide_eq_true p1,Bool.not_true,yaa,yGM (by omega) hb hb']
 by_cases p2:PT len bn bd
 case neg=>rw [decide_eq_false p2,Bool.not_false,yaf];rw [if_neg (fun x=>p2 x.2.1)] at k;exact k
 rw [decide_eq_true p2,Bool.not_true,yaa]
 obtain ⟨s1,e1,e2,_,_⟩:=p1.pt
 obtain ⟨s2,f1,f2,_,_⟩:=p2.pt
 have hless:=yjV s2 s1
 rw [e1,e2,f1,f2] at hless
 rw [hless]
 by_cases p3:rt bn bd<rt an ad
 · rw [cbT p3];rw [if_neg (fun x=>x.2.2 p3)] at k;exact k
 rw [cbF p3]
 rw [if_pos ⟨p1,p2,p3⟩] at k
 rw [ysK,ycs]
 refine ⟨dens.length+1,?_⟩
 have:=yA8 hv s2 0 0 yan ydW K dens.length 0 (dens.length+1) (rt an ad) 0 (by omega) (by omega) s1 (by decide)
 rw [e1,e2,f1,f2] at this
 exact this.mpr k
end
end Go.Pf.Vc
namespace Go.Pf.Vc
open Go Go.Pf
section
variable {len:Int} {cuts dens:List Int}
def okD (cuts dens:List Int) (i:Nat):Prop:=∀ j,i≤j→j<dens.length→cuts.getD j 0<cuts.getD (j+1) 0∧0≤dens.getD j 0∧dens.getD j 0≤12
theorem ysL (l1:dens.length+1=cuts.length) (l2:dens.length<4611686018427387904) (x0:Int→Prop) (x1:Int→List PV→List PV→Bool→Int→Bool→Prop) (P:Prop)
   (hbad:¬okD cuts dens 0→x0 8=P) (hgood:∀ b:Bool,okD cuts dens 0→b=decide (∃ j,j<dens.length∧0<dens.getD j 0)→x1 len (ints cuts) (ints dens) b dens.length false=P) :
   ∀ (r i n:Nat) (b:Bool),i+r=dens.length→r<n→(∀ j,j<i→cuts.getD j 0<cuts.getD (j+1) 0∧0≤dens.getD j 0∧dens.getD j 0≤12)→b=decide (∃ j,j<i∧0<dens.getD j 0) →
     ycv x0 x1 n len (ints cuts) (ints dens) b i=P
 | 0,i,n+1,b,hi,hn,hj,hb=>by
   unfold ycv
   rw [ycs,cbF (by omega),show (i:Int)=dens.length by omega]
   refine hgood b (fun j _ h=>hj j (by omega)) ?_
   rw [hb,decide_eq_decide]
   rw [show i=dens.length by omega]
 | r+1,i,n+1,b,hi,hn,hj,hb=>by
   unfold ycv
   have e1:=wib (n:=(i:Int)+1) (by omega) (by omega)
   rw [ycs,ycs,cbT (by omega),e1,cast1,Int.toNat_natCast,Int.toNat_natCast,asT (by omega),asT (by omega),asC (by omega),asT (by omega),asT (by omega),asC (by omega),yeq (by omega),yeq (by omega)]
   have bad:¬(cuts.getD i 0<cuts.getD (i+1) 0∧0≤dens.getD i 0∧dens.getD i 0≤12)→x0 8=P:=fun h=>hbad fun hk=>h (hk i (by omega) (by omega))
   by_cases a1:cuts.getD (i+1) 0≤cuts.getD i 0
   · rw [cbT a1];exact bad (by omega)
   rw [cbF a1,asT (by omega),asT (by omega),asC (by omega),yeq (by omega)]
   by_cases a2:dens.getD i 0<0
   · rw [cbT a2];exact bad (by omega)
   rw [cbF a2,asT (by omega),asT (by omega),asC (by omega)]
   by_cases a3:dens.getD i 0>12
   · rw [cbT a3];exact bad (by omega)
   rw [cbF a3]
   have hj2:∀ j,j<i+1→cuts.getD j 0<cuts.getD (j+1) 0∧0≤dens.getD j 0∧dens.getD j 0≤12:=by
     intro j hlt
     by_cases e:j=i
     · subst e;omega
     · exact hj j (by omega)
   have ex:∀ c:Bool,(c=true↔(b=true∨0<dens.getD i 0))→c=decide (∃ j,j<i+1∧0<dens.getD j 0):=by
     intro c hc
     rw [Bool.eq_iff_iff,hc,hb,decide_eq_true_iff,decide_eq_true_iff]
     constructor
     · rintro (⟨j,h1,h2⟩ | h)
       · exact ⟨j,by omega,h2⟩
       · exact ⟨i,by omega,h⟩
     · rintro ⟨j,h1,h2⟩
       by_cases e:j=i
       · subst e;exact .inr h2
       · exact .inl ⟨j,by omega,h2⟩
   cases b with
   | true =>
     rw [yaf]
     exact ysL l1 l2 x0 x1 P hbad hgood r (i+1) n true (by omega) (by omega) hj2 (ex _ (by simp))
   | false =>
     rw [yaa,asT (by omega),asT (by omega),asC (by omega)]
     exact ysL l1 l2 x0 x1 P hbad hgood r (i+1) n _ (by omega) (by omega) hj2 (ex _ (by simp))
theorem yDl (h1:cuts.length<4611686018427387904) (h2:dens.length<4611686018427387904) (K:Int→Prop) :
   ybO len (ints cuts) (ints dens) K=K (ckC len cuts dens):=by
 refine yCp _ _ _ _ (fun K k=>?_) K
 unfold ybO yqo
 simp only [ycs]
 have bad:¬(len>1000∨cuts.length>40)→¬VC len cuts dens→K 8:=fun h h2=>by
   rw [ckC,if_neg h,if_neg h2] at k;exact k
 by_cases a1:len>1000
 · rw [cbT a1];rw [ckC,if_pos (.inl a1)] at k;exact k
 rw [cbF a1]
 by_cases a2:cuts.length>40
 · rw [cbT (by omega)];rw [ckC,if_pos (.inr a2)] at k;exact k
 have a12:¬(len>1000∨cuts.length>40):=by omega
 rw [cbF (by omega)]
 by_cases a3:len<1
 · rw [cbT a3];exact bad a12 (fun h=>by have:=h.1;omega)
 rw [cbF a3]
 by_cases a4:cuts.length<2
 · rw [cbT (by omega)];exact bad a12 (fun h=>by have:=h.2.2.1;omega)
 rw [cbF (by omega),wib (n:=(cuts.length:Int)-1) (by omega) (by omega)]
 by_cases a5:dens.length+1=cuts.length
 case neg=>rw [cnT (by omega)];exact bad a12 (fun h=>a5 h.2.2.2.2.1)
 rw [cnF (by omega),asT (by omega),asC (by omega),yeq (by omega)]
 by_cases a6:cuts.getD 0 0=0
 case neg=>rw [cnT a6];exact bad a12 (fun h=>a6 h.2.2.2.2.2.1)
 rw [cnF a6,asT (by omega),asT (by omega),asC (by omega),yeq (by omega)]
 have en:((cuts.length:Int)-1).toNat=cuts.length-1:=by omega
 rw [en]
 by_cases a7:cuts.getD (cuts.length-1) 0=len
 case neg=>rw [cnT a7];exact bad a12 (fun h=>a7 h.2.2.2.2.2.2.1)
 rw [cnF a7]
 have mem:∀ d,d∈dens↔∃ j,j<dens.length∧dens.getD j 0=d:=by
   intro d
   rw [List.mem_iff_getElem]
   constructor
   · rintro ⟨j,hj,e⟩;exact ⟨j,hj,by rw [List.getD_eq_getElem?_getD,List.getElem?_eq_getElem hj];exact e⟩
   · rintro ⟨j,hj,e⟩;exact ⟨j,hj,by rw [List.getD_eq_getElem?_getD,List.getElem?_eq_getElem hj] at e;exact e⟩
 refine ⟨dens.length+1,?_⟩
 refine (ysL a5 h2 _ _ (K (ckC len cuts dens)) (fun hk=>?_) (fun b hk hb=>?_) dens.length 0 (dens.length+1) false (by omega) (by omega) (fun j h=>by omega) (by simp)).mpr k
 · have hv:¬VC len cuts dens:=fun h=>hk fun j _ hj=>⟨h.step (by omega),h.den hj⟩
   rw [ckC,if_neg a12,if_neg hv]
 · have hsome:someD dens↔∃ j,j<dens.length∧0<dens.getD j 0:=by
     constructor
     · rintro ⟨d,hd,h0⟩
       obtain ⟨j,hj,e⟩:=(mem d).1 hd
       exact ⟨j,hj,by rw [e];exact h0⟩
     · rintro ⟨j,hj,h0⟩;exact ⟨_,(mem _).2 ⟨j,hj,rfl⟩,h0⟩
   have hv:VC len cuts dens↔someD dens:=by
     refine ⟨fun h=>h.2.2.2.2.2.2.2.2.2,fun h=>⟨by omega,by omega,by omega,by omega,a5,a6,a7,fun j _ hj=>(hk j (by omega) (by omega)).1,fun d hd=>?_,h⟩⟩
     obtain ⟨j,hj,e⟩:=(mem d).1 hd
     rw [← e];exact (hk j (by omega) hj).2
   rw [ckC,if_neg a12]
   by_cases hs:someD dens
   · rw [if_pos (hv.2 hs),hb,decide_eq_true (hsome.1 hs)];rfl
   · rw [if_neg (fun x=>hs (hv.1 x)),hb,decide_eq_false (fun x=>hs (hsome.2 x))];rfl
theorem yDm (hl:-1000000000000000000≤len∧len≤1000000000000000000) {n d:Int} (hn:I64 n) (hd:I64 d) (K:Bool→Prop) :
   yeN len n d K=K (decide (PT len n d)):=by
 unfold yeN yqr
 rw [ypD hn hd]
 by_cases h:RV n d
 · obtain ⟨q,e1,e2,e3⟩:=yE4 h
   rw [chk,if_pos h,ceT rfl]
   by_cases h0:n≥0
   · rw [cbT h0,yOh,← e2,← e3,yGL (ygF hl) e1]
     congr 1
     have:((len:Rat)<q)↔len*(q.den:Int)<q.num:=yA4 _ _
     by_cases h3:(len:Rat)<q
     · have h4:=this.1 h3
       rw [decide_eq_true h3,decide_eq_false];rfl
       intro hp;have:=hp.2.2;omega
     · have h4:¬_:=fun x=>h3 (this.2 x)
       rw [decide_eq_false h3,decide_eq_true];rfl
       exact ⟨e1.rv,by omega,by omega⟩
   · rw [cbF h0,decide_eq_false]
     intro hp;have:=hp.2.1;omega
 · rw [chk,if_neg h,ceF (by decide),decide_eq_false]
   intro hp;exact h hp.1
end
end Go.Pf.Vc
namespace Go.Pf.Vc
open Go Go.Pf
section
variable {len:Int} {cuts dens:List Int}
theorem yIK {α:Type} {q:Rat} {k:Rat→Except Int α} (h:small q):fit q k=k q:=if_pos h
theorem add_zero (q:Rat):q+0=q:=by grind
end
end Go.Pf.Vc
namespace Go.Pf.Vc
open Go Go.Pf
structure Ck where
 len:Int
 cuts:List Int
 dens:List Int
instance:Inhabited Ck:=⟨⟨0,[],[]⟩⟩
def encC (c:Ck):PV:=.agg [.int .i64 c.len,.data (ints c.cuts),.data (ints c.dens)]
def cks (l:List Ck):List PV:=l.map encC
def Ck.fin (c:Ck):Prop:=c.cuts.length<4611686018427387904∧c.dens.length<4611686018427387904
def Ck.err (c:Ck):Int:=ckC c.len c.cuts c.dens
def Ck.ok (c:Ck):Prop:=VC c.len c.cuts c.dens
instance (c:Ck):Decidable c.ok:=by unfold Ck.ok;infer_instance
theorem yba (l:List Ck):(cks l).length=l.length:=List.length_map ..
theorem yf1 {l:List Ck} {i:Nat} (h:i<l.length):List.getD (cks l) i .nils=encC (l.getD i default):=by
 unfold cks
 rw [List.getD_eq_getElem?_getD,List.getD_eq_getElem?_getD,List.getElem?_map,List.getElem?_eq_getElem h]
 rfl
theorem ybT {α:Type} {l:List α} {i:Nat} (d:α) (h:i<l.length):l.drop i=l.getD i d::l.drop (i+1):=by
 rw [List.drop_eq_getElem_cons h,List.getD_eq_getElem?_getD,List.getElem?_eq_getElem h];rfl
theorem asCk {c:Ck} {P:Prop}:asr (conf (.agg [.i .i64,.d,.d]) (encC c)) P=P:=rfl
theorem ck0 (c:Ck):intOfV (cellAt (encC c) 0)=c.len:=rfl
theorem ck1 (c:Ck):datOfV (cellAt (encC c) 1)=ints c.cuts:=rfl
theorem ck2 (c:Ck):datOfV (cellAt (encC c) 2)=ints c.dens:=rfl
def firstE:List Ck→Int
 | []=>0
 | c::t=>if c.err=0 then firstE t else c.err
def lensOk (n:Int):List Ck→Bool
 | []=>true
 | c::t=>decide (c.len=n)&&lensOk n t
def deskE (l:List Ck) (m:Nat):Int :=
 if l.length>6 then 4 else if m>2000 then 4 else if l.length=0 then 8 else if firstE l=0 then (if lensOk (l.getD 0 default).len l then 0 else 8) else firstE l
section
variable {l:List Ck}
def finC (l:List Ck):Prop:=∀ i,i<l.length→(l.getD i default).fin
theorem aCheck0 (hf:finC l) (hl:l.length<4611686018427387904) (x0:Int→Prop) (x1:List PV→List PV→List PV→Int→Int→Bool→Prop) (lg:List PV) :
   ∀ (r i n:Nat),i+r=l.length→r<n→yc4 yan x0 x1 n (cks l) lg (cks l) l.length i =
     if firstE (l.drop i)=0 then x1 (cks l) lg (cks l) l.length l.length false else x0 (firstE (l.drop i))
 | 0,i,n+1,hi,hn=>by
   unfold yc4
   rw [cbF (by omega),List.drop_of_length_le (by omega),show (i:Int)=l.length by omega];rfl
 | r+1,i,n+1,hi,hn=>by
   unfold yc4
   have e1:=wib (n:=(i:Int)+1) (by omega) (by omega)
   obtain ⟨f1,f2⟩:=hf i (by omega)
   rw [cbT (by omega),yba,Int.toNat_natCast,yf1 (by omega),asT (by omega),asT (by omega),asCk,ck0,ck1,ck2,ymZ (by omega) (by omega),ybT default (by omega),firstE,e1,cast1]
   show cbr ((l.getD i default).err != 0) _ _=_
   by_cases h:(l.getD i default).err=0
   · rw [cnF h,if_pos h];exact aCheck0 hf hl x0 x1 lg r (i+1) n (by omega) (by omega)
   · rw [cnT h,if_neg h,if_neg h];rfl
theorem aCheck1 (hl:l.length<4611686018427387904) (x0:Int→Prop) (x1:List PV→List PV→List PV→Int→Int→Bool→Prop) (lg:List PV) (W) :
   ∀ (r i n:Nat),i+r=l.length→r<n→ycu W x0 x1 n (cks l) lg (cks l) l.length i =
     if lensOk (l.getD 0 default).len (l.drop i) then x1 (cks l) lg (cks l) l.length l.length false else x0 8
 | 0,i,n+1,hi,hn=>by
   unfold ycu
   rw [cbF (by omega),List.drop_of_length_le (by omega),show (i:Int)=l.length by omega];rfl
 | r+1,i,n+1,hi,hn=>by
   unfold ycu
   have e1:=wib (n:=(i:Int)+1) (by omega) (by omega)
   rw [cbT (by omega),yba,Int.toNat_natCast,yf1 (by omega),yf1 (by omega),asT (by omega),asT (by omega),asCk,asT (by omega),asCk,ck0,ck0,ybT default (by omega),lensOk,e1,cast1]
   by_cases h:(l.getD i default).len=(l.getD 0 default).len
   · rw [cnF h,decide_eq_true h,Bool.true_and];exact aCheck1 hl x0 x1 lg W r (i+1) n (by omega) (by omega)
   · rw [cnT h,decide_eq_false h,Bool.false_and,if_neg (by simp)]
end
end Go.Pf.Vc
