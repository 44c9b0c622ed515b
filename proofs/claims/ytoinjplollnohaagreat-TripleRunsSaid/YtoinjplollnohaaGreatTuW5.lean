/- Part 5. -/
import Derived.Test.YtoinjplollnohaaGreatTuW4
open Go.IntKind (i64 u8 u64)
open List (length getD take drop replicate set map isEmpty)
noncomputable section
namespace Go.Pf.Vc
open Go Go.Pf
set_option maxRecDepth 100000
set_option maxHeartbeats 0
def Aa (a0:cA) (a1:cD) (a2:dU) (a3 a4:cV) (a5:gB) (a6:eE) (a7:bH) (x0:Ls→Ls→aS (J4 (Int→Prop))):Nat→Ls→Ls→aS (aS (aS (Bool→Bool→Bool→Prop)))
 | _,b,c,d,e,f,g,h,i,j,k,l,m,o,p,q,r,s,t,u,v,w,z,A,B,C,D,E,F,G,H,I,J,L,M,N,O,P,R,S,T,U,V,W,X,Y,Z,y0,y1,y2,y3,y4,y5,y6=>
 (a6 X Y Z y0 y1 y2 y4 y5 y6 (fun y7=>(aA (decide (y7=0)) (aA (decide (y3=0)) (a7 X Y X Y (fun y8=>(∃ m0:Nat,tZ a0 a1 a2 a3 a4 a5 a6 a7 (fun y9 y10 y11 y12 y13 y14 y15 y16 y17 y18 y19 y20 y21 y22 y23 y24 y25 y26 y27 y28 y29 y30 y31 y32 y33 y34 y35 y36 y37 y38 y39 y40 y41 y42 y43 y44 y45 y46 y47 y48 y49 y50 y51 y52 y53 y54 y55 y56 y57 y58 y59 y60=>(∃ m1:Nat,rY a0 a1 a2 a3 a4 a5 a6 a7 x0 m1 y9 y10 y11 y12 y13 y14 y15 y16 y17 y18 y19 y20 y21 y22 y23 y24 y25 y26 y27 y28 y29 y30 y31 y32 y33 y34 y35 y36 y37 y38 y39 y40 y41 y42 y43 y44 y45 y46 y47 y48 y49 y50 y51 y52 y53 y54 y55 y56 y57 y58 y59 y60)) (fun y9 y10 y11 y12 y13 y14 y15 y16 y17 y18 y19 y20 y21 y22 y23 y24 y25 y26 y27 y28 y29 y30 y31 y32 y33 y34 y35 y36 y37 y38 y39 y40 y41 y42 y43 y44 y45 y46 y47 y48 y49 y50 y51 y52 y53 y54 y55 y56 y57 y58 y59 y60 y61 y62 y63=>(∃ m1:Nat,rZ a0 a1 a2 a3 a4 a5 a6 a7 x0 m1 y9 y10 y11 y12 y13 y14 y15 y16 y17 y18 y19 y20 y21 y22 y23 y24 y25 y26 y27 y28 y29 y30 y31 y32 y33 y34 y35 y36 y37 y38 y39 y40 y41 y42 y43 y44 y45 y46 y47 y48 y49 y50 y51 y52 y53 y54 y55 y56 y57 y58 y59 y60 y61 y62 y63)) m0 b c d e f g h i j k l m o p q r s t u v w z A B C D E F G H I J L M N O P R S T U V W X Y Z y0 y1 y2 y3 y4 y5 y6 y7 y8))) (aA (decide (y3=1)) (a7 X Y Z y0 (fun y8=>(∃ m0:Nat,tZ a0 a1 a2 a3 a4 a5 a6 a7 (fun y9 y10 y11 y12 y13 y14 y15 y16 y17 y18 y19 y20 y21 y22 y23 y24 y25 y26 y27 y28 y29 y30 y31 y32 y33 y34 y35 y36 y37 y38 y39 y40 y41 y42 y43 y44 y45 y46 y47 y48 y49 y50 y51 y52 y53 y54 y55 y56 y57 y58 y59 y60=>(∃ m1:Nat,rY a0 a1 a2 a3 a4 a5 a6 a7 x0 m1 y9 y10 y11 y12 y13 y14 y15 y16 y17 y18 y19 y20 y21 y22 y23 y24 y25 y26 y27 y28 y29 y30 y31 y32 y33 y34 y35 y36 y37 y38 y39 y40 y41 y42 y43 y44 y45 y46 y47 y48 y49 y50 y51 y52 y53 y54 y55 y56 y57 y58 y59 y60)) (fun y9 y10 y11 y12 y13 y14 y15 y16 y17 y18 y19 y20 y21 y22 y23 y24 y25 y26 y27 y28 y29 y30 y31 y32 y33 y34 y35 y36 y37 y38 y39 y40 y41 y42 y43 y44 y45 y46 y47 y48 y49 y50 y51 y52 y53 y54 y55 y56 y57 y58 y59 y60 y61 y62 y63=>(∃ m1:Nat,rZ a0 a1 a2 a3 a4 a5 a6 a7 x0 m1 y9 y10 y11 y12 y13 y14 y15 y16 y17 y18 y19 y20 y21 y22 y23 y24 y25 y26 y27 y28 y29 y30 y31 y32 y33 y34 y35 y36 y37 y38 y39 y40 y41 y42 y43 y44 y45 y46 y47 y48 y49 y50 y51 y52 y53 y54 y55 y56 y57 y58 y59 y60 y61 y62 y63)) m0 b c d e f g h i j k l m o p q r s t u v w z A B C D E F G H I J L M N O P R S T U V W X Y Z y0 y1 y2 y3 y4 y5 y6 y7 y8))) (aA (decide (y3=2)) (a7 X Y y1 y2 (fun y8=>(∃ m0:Nat,tZ a0 a1 a2 a3 a4 a5 a6 a7 (fun y9 y10 y11 y12 y13 y14 y15 y16 y17 y18 y19 y20 y21 y22 y23 y24 y25 y26 y27 y28 y29 y30 y31 y32 y33 y34 y35 y36 y37 y38 y39 y40 y41 y42 y43 y44 y45 y46 y47 y48 y49 y50 y51 y52 y53 y54 y55 y56 y57 y58 y59 y60=>(∃ m1:Nat,rY a0 a1 a2 a3 a4 a5 a6 a7 x0 m1 y9 y10 y11 y12 y13 y14 y15 y16 y17 y18 y19 y20 y21 y22 y23 y24 y25 y26 y27 y28 y29 y30 y31 y32 y33 y34 y35 y36 y37 y38 y39 y40 y41 y42 y43 y44 y45 y46 y47 y48 y49 y50 y51 y52 y53 y54 y55 y56 y57 y58 y59 y60)) (fun y9 y10 y11 y12 y13 y14 y15 y16 y17 y18 y19 y20 y21 y22 y23 y24 y25 y26 y27 y28 y29 y30 y31 y32 y33 y34 y35 y36 y37 y38 y39 y40 y41 y42 y43 y44 y45 y46 y47 y48 y49 y50 y51 y52 y53 y54 y55 y56 y57 y58 y59 y60 y61 y62 y63=>(∃ m1:Nat,rZ a0 a1 a2 a3 a4 a5 a6 a7 x0 m1 y9 y10 y11 y12 y13 y14 y15 y16 y17 y18 y19 y20 y21 y22 y23 y24 y25 y26 y27 y28 y29 y30 y31 y32 y33 y34 y35 y36 y37 y38 y39 y40 y41 y42 y43 y44 y45 y46 y47 y48 y49 y50 y51 y52 y53 y54 y55 y56 y57 y58 y59 y60 y61 y62 y63)) m0 b c d e f g h i j k l m o p q r s t u v w z A B C D E F G H I J L M N O P R S T U V W X Y Z y0 y1 y2 y3 y4 y5 y6 y7 y8))) False))) (aA (decide (y7=1)) (aA (decide (y3=0)) (a7 Z y0 X Y (fun y8=>(∃ m0:Nat,tZ a0 a1 a2 a3 a4 a5 a6 a7 (fun y9 y10 y11 y12 y13 y14 y15 y16 y17 y18 y19 y20 y21 y22 y23 y24 y25 y26 y27 y28 y29 y30 y31 y32 y33 y34 y35 y36 y37 y38 y39 y40 y41 y42 y43 y44 y45 y46 y47 y48 y49 y50 y51 y52 y53 y54 y55 y56 y57 y58 y59 y60=>(∃ m1:Nat,rY a0 a1 a2 a3 a4 a5 a6 a7 x0 m1 y9 y10 y11 y12 y13 y14 y15 y16 y17 y18 y19 y20 y21 y22 y23 y24 y25 y26 y27 y28 y29 y30 y31 y32 y33 y34 y35 y36 y37 y38 y39 y40 y41 y42 y43 y44 y45 y46 y47 y48 y49 y50 y51 y52 y53 y54 y55 y56 y57 y58 y59 y60)) (fun y9 y10 y11 y12 y13 y14 y15 y16 y17 y18 y19 y20 y21 y22 y23 y24 y25 y26 y27 y28 y29 y30 y31 y32 y33 y34 y35 y36 y37 y38 y39 y40 y41 y42 y43 y44 y45 y46 y47 y48 y49 y50 y51 y52 y53 y54 y55 y56 y57 y58 y59 y60 y61 y62 y63=>(∃ m1:Nat,rZ a0 a1 a2 a3 a4 a5 a6 a7 x0 m1 y9 y10 y11 y12 y13 y14 y15 y16 y17 y18 y19 y20 y21 y22 y23 y24 y25 y26 y27 y28 y29 y30 y31 y32 y33 y34 y35 y36 y37 y38 y39 y40 y41 y42 y43 y44 y45 y46 y47 y48 y49 y50 y51 y52 y53 y54 y55 y56 y57 y58 y59 y60 y61 y62 y63)) m0 b c d e f g h i j k l m o p q r s t u v w z A B C D E F G H I J L M N O P R S T U V W X Y Z y0 y1 y2 y3 y4 y5 y6 y7 y8))) (aA (decide (y3=1)) (a7 Z y0 Z y0 (fun y8=>(∃ m0:Nat,tZ a0 a1 a2 a3 a4 a5 a6 a7 (fun y9 y10 y11 y12 y13 y14 y15 y16 y17 y18 y19 y20 y21 y22 y23 y24 y25 y26 y27 y28 y29 y30 y31 y32 y33 y34 y35 y36 y37 y38 y39 y40 y41 y42 y43 y44 y45 y46 y47 y48 y49 y50 y51 y52 y53 y54 y55 y56 y57 y58 y59 y60=>(∃ m1:Nat,rY a0 a1 a2 a3 a4 a5 a6 a7 x0 m1 y9 y10 y11 y12 y13 y14 y15 y16 y17 y18 y19 y20 y21 y22 y23 y24 y25 y26 y27 y28 y29 y30 y31 y32 y33 y34 y35 y36 y37 y38 y39 y40 y41 y42 y43 y44 y45 y46 y47 y48 y49 y50 y51 y52 y53 y54 y55 y56 y57 y58 y59 y60)) (fun y9 y10 y11 y12 y13 y14 y15 y16 y17 y18 y19 y20 y21 y22 y23 y24 y25 y26 y27 y28 y29 y30 y31 y32 y33 y34 y35 y36 y37 y38 y39 y40 y41 y42 y43 y44 y45 y46 y47 y48 y49 y50 y51 y52 y53 y54 y55 y56 y57 y58 y59 y60 y61 y62 y63=>(∃ m1:Nat,rZ a0 a1 a2 a3 a4 a5 a6 a7 x0 m1 y9 y10 y11 y12 y13 y14 y15 y16 y17 y18 y19 y20 y21 y22 y23 y24 y25 y26 y27 y28 y29 y30 y31 y32 y33 y34 y35 y36 y37 y38 y39 y40 y41 y42 y43 y44 y45 y46 y47 y48 y49 y50 y51 y52 y53 y54 y55 y56 y57 y58 y59 y60 y61 y62 y63)) m0 b c d e f g h i j k l m o p q r s t u v w z A B C D E F G H I J L M N O P R S T U V W X Y Z y0 y1 y2 y3 y4 y5 y6 y7 y8))) (aA (decide (y3=2)) (a7 Z y0 y1 y2 (fun y8=>(∃ m0:Nat,tZ a0 a1 a2 a3 a4 a5 a6 a7 (fun y9 y10 y11 y12 y13 y14 y15 y16 y17 y18 y19 y20 y21 y22 y23 y24 y25 y26 y27 y28 y29 y30 y31 y32 y33 y34 y35 y36 y37 y38 y39 y40 y41 y42 y43 y44 y45 y46 y47 y48 y49 y50 y51 y52 y53 y54 y55 y56 y57 y58 y59 y60=>(∃ m1:Nat,rY a0 a1 a2 a3 a4 a5 a6 a7 x0 m1 y9 y10 y11 y12 y13 y14 y15 y16 y17 y18 y19 y20 y21 y22 y23 y24 y25 y26 y27 y28 y29 y30 y31 y32 y33 y34 y35 y36 y37 y38 y39 y40 y41 y42 y43 y44 y45 y46 y47 y48 y49 y50 y51 y52 y53 y54 y55 y56 y57 y58 y59 y60)) (fun y9 y10 y11 y12 y13 y14 y15 y16 y17 y18 y19 y20 y21 y22 y23 y24 y25 y26 y27 y28 y29 y30 y31 y32 y33 y34 y35 y36 y37 y38 y39 y40 y41 y42 y43 y44 y45 y46 y47 y48 y49 y50 y51 y52 y53 y54 y55 y56 y57 y58 y59 y60 y61 y62 y63=>(∃ m1:Nat,rZ a0 a1 a2 a3 a4 a5 a6 a7 x0 m1 y9 y10 y11 y12 y13 y14 y15 y16 y17 y18 y19 y20 y21 y22 y23 y24 y25 y26 y27 y28 y29 y30 y31 y32 y33 y34 y35 y36 y37 y38 y39 y40 y41 y42 y43 y44 y45 y46 y47 y48 y49 y50 y51 y52 y53 y54 y55 y56 y57 y58 y59 y60 y61 y62 y63)) m0 b c d e f g h i j k l m o p q r s t u v w z A B C D E F G H I J L M N O P R S T U V W X Y Z y0 y1 y2 y3 y4 y5 y6 y7 y8))) False))) (aA (decide (y7=2)) (aA (decide (y3=0)) (a7 y1 y2 X Y (fun y8=>(∃ m0:Nat,tZ a0 a1 a2 a3 a4 a5 a6 a7 (fun y9 y10 y11 y12 y13 y14 y15 y16 y17 y18 y19 y20 y21 y22 y23 y24 y25 y26 y27 y28 y29 y30 y31 y32 y33 y34 y35 y36 y37 y38 y39 y40 y41 y42 y43 y44 y45 y46 y47 y48 y49 y50 y51 y52 y53 y54 y55 y56 y57 y58 y59 y60=>(∃ m1:Nat,rY a0 a1 a2 a3 a4 a5 a6 a7 x0 m1 y9 y10 y11 y12 y13 y14 y15 y16 y17 y18 y19 y20 y21 y22 y23 y24 y25 y26 y27 y28 y29 y30 y31 y32 y33 y34 y35 y36 y37 y38 y39 y40 y41 y42 y43 y44 y45 y46 y47 y48 y49 y50 y51 y52 y53 y54 y55 y56 y57 y58 y59 y60)) (fun y9 y10 y11 y12 y13 y14 y15 y16 y17 y18 y19 y20 y21 y22 y23 y24 y25 y26 y27 y28 y29 y30 y31 y32 y33 y34 y35 y36 y37 y38 y39 y40 y41 y42 y43 y44 y45 y46 y47 y48 y49 y50 y51 y52 y53 y54 y55 y56 y57 y58 y59 y60 y61 y62 y63=>(∃ m1:Nat,rZ a0 a1 a2 a3 a4 a5 a6 a7 x0 m1 y9 y10 y11 y12 y13 y14 y15 y16 y17 y18 y19 y20 y21 y22 y23 y24 y25 y26 y27 y28 y29 y30 y31 y32 y33 y34 y35 y36 y37 y38 y39 y40 y41 y42 y43 y44 y45 y46 y47 y48 y49 y50 y51 y52 y53 y54 y55 y56 y57 y58 y59 y60 y61 y62 y63)) m0 b c d e f g h i j k l m o p q r s t u v w z A B C D E F G H I J L M N O P R S T U V W X Y Z y0 y1 y2 y3 y4 y5 y6 y7 y8))) (aA (decide (y3=1)) (a7 y1 y2 Z y0 (fun y8=>(∃ m0:Nat,tZ a0 a1 a2 a3 a4 a5 a6 a7 (fun y9 y10 y11 y12 y13 y14 y15 y16 y17 y18 y19 y20 y21 y22 y23 y24 y25 y26 y27 y28 y29 y30 y31 y32 y33 y34 y35 y36 y37 y38 y39 y40 y41 y42 y43 y44 y45 y46 y47 y48 y49 y50 y51 y52 y53 y54 y55 y56 y57 y58 y59 y60=>(∃ m1:Nat,rY a0 a1 a2 a3 a4 a5 a6 a7 x0 m1 y9 y10 y11 y12 y13 y14 y15 y16 y17 y18 y19 y20 y21 y22 y23 y24 y25 y26 y27 y28 y29 y30 y31 y32 y33 y34 y35 y36 y37 y38 y39 y40 y41 y42 y43 y44 y45 y46 y47 y48 y49 y50 y51 y52 y53 y54 y55 y56 y57 y58 y59 y60)) (fun y9 y10 y11 y12 y13 y14 y15 y16 y17 y18 y19 y20 y21 y22 y23 y24 y25 y26 y27 y28 y29 y30 y31 y32 y33 y34 y35 y36 y37 y38 y39 y40 y41 y42 y43 y44 y45 y46 y47 y48 y49 y50 y51 y52 y53 y54 y55 y56 y57 y58 y59 y60 y61 y62 y63=>(∃ m1:Nat,rZ a0 a1 a2 a3 a4 a5 a6 a7 x0 m1 y9 y10 y11 y12 y13 y14 y15 y16 y17 y18 y19 y20 y21 y22 y23 y24 y25 y26 y27 y28 y29 y30 y31 y32 y33 y34 y35 y36 y37 y38 y39 y40 y41 y42 y43 y44 y45 y46 y47 y48 y49 y50 y51 y52 y53 y54 y55 y56 y57 y58 y59 y60 y61 y62 y63)) m0 b c d e f g h i j k l m o p q r s t u v w z A B C D E F G H I J L M N O P R S T U V W X Y Z y0 y1 y2 y3 y4 y5 y6 y7 y8))) (aA (decide (y3=2)) (a7 y1 y2 y1 y2 (fun y8=>(∃ m0:Nat,tZ a0 a1 a2 a3 a4 a5 a6 a7 (fun y9 y10 y11 y12 y13 y14 y15 y16 y17 y18 y19 y20 y21 y22 y23 y24 y25 y26 y27 y28 y29 y30 y31 y32 y33 y34 y35 y36 y37 y38 y39 y40 y41 y42 y43 y44 y45 y46 y47 y48 y49 y50 y51 y52 y53 y54 y55 y56 y57 y58 y59 y60=>(∃ m1:Nat,rY a0 a1 a2 a3 a4 a5 a6 a7 x0 m1 y9 y10 y11 y12 y13 y14 y15 y16 y17 y18 y19 y20 y21 y22 y23 y24 y25 y26 y27 y28 y29 y30 y31 y32 y33 y34 y35 y36 y37 y38 y39 y40 y41 y42 y43 y44 y45 y46 y47 y48 y49 y50 y51 y52 y53 y54 y55 y56 y57 y58 y59 y60)) (fun y9 y10 y11 y12 y13 y14 y15 y16 y17 y18 y19 y20 y21 y22 y23 y24 y25 y26 y27 y28 y29 y30 y31 y32 y33 y34 y35 y36 y37 y38 y39 y40 y41 y42 y43 y44 y45 y46 y47 y48 y49 y50 y51 y52 y53 y54 y55 y56 y57 y58 y59 y60 y61 y62 y63=>(∃ m1:Nat,rZ a0 a1 a2 a3 a4 a5 a6 a7 x0 m1 y9 y10 y11 y12 y13 y14 y15 y16 y17 y18 y19 y20 y21 y22 y23 y24 y25 y26 y27 y28 y29 y30 y31 y32 y33 y34 y35 y36 y37 y38 y39 y40 y41 y42 y43 y44 y45 y46 y47 y48 y49 y50 y51 y52 y53 y54 y55 y56 y57 y58 y59 y60 y61 y62 y63)) m0 b c d e f g h i j k l m o p q r s t u v w z A B C D E F G H I J L M N O P R S T U V W X Y Z y0 y1 y2 y3 y4 y5 y6 y7 y8))) False))) False)))))
def JG (a0:cA) (a1:cD) (a2:dU) (a3 a4:cV) (a5:gB) (a6:eE) (a7:bH) (x0:Ls→Ls→aS (J4 (Int→Prop))):Nat→Ls→Ls→aS (aS (J4 (J4 (J4 (Int→Int→Int→Prop)))))
 | _,b,c,d,e,f,g,h,i,j,k,l,m,o,p,q,r,s,t,u,v,w,z,A,B,C,D,E,F,G,H,I,J,L,M,N,O,P,R,S,T,U,V,W,X,Y,Z,y0,y1,y2=>
 (a6 X Y Z y0 y1 y2 false false false (fun y3=>(aA (decide (y3=0)) (∃ m0:Nat,Aa a0 a1 a2 a3 a4 a5 a6 a7 x0 m0 b c d e f g h i j k l m o p q r s t u v w z A B C D E F G H I J L M N O P R S T U V W X Y Z y0 y1 y2 y3 true false false) (aA (decide (y3=1)) (∃ m0:Nat,Aa a0 a1 a2 a3 a4 a5 a6 a7 x0 m0 b c d e f g h i j k l m o p q r s t u v w z A B C D E F G H I J L M N O P R S T U V W X Y Z y0 y1 y2 y3 false true false) (aA (decide (y3=2)) (∃ m0:Nat,Aa a0 a1 a2 a3 a4 a5 a6 a7 x0 m0 b c d e f g h i j k l m o p q r s t u v w z A B C D E F G H I J L M N O P R S T U V W X Y Z y0 y1 y2 y3 false false true) False)))))
def Oi (a0:cA) (a1:cD) (a2:dU) (a3 a4:cV) (a5:gB) (a6:eE) (a7:bH) (x0:Ls→Ls→aS (J4 (Int→Prop))):Nat→Ls→Ls→aS (aS (aS (Int→Prop)))
 | _,b,c,d,e,f,g,h,i,j,k,l,m,o,p,q,r,s,t,u,v,w,z,A,B,C,D,E,F,G,H,I,J,L,M,N,O,P,R,S,T,U,V,W,X,Y,Z,y0,y1,y2,_,_=>
 (a5 b c d B C Z y0 (fun y5 y6 y7 y8 y9=>(a5 y7 y8 y9 y5 y6 y1 y2 (fun y10 y11 y12 y13 y14=>(∃ m0:Nat,JG a0 a1 a2 a3 a4 a5 a6 a7 x0 m0 y12 y13 y14 e f g h i j k l m o p q r s t u v w z A D E F G H I J L M N O P R S T U V W X Y Z y0 y1 y2 y10 y11)))))
def XG (a0:cA) (a1:cD) (a2:dU) (a3 a4:cV) (a5:gB) (a6:eE) (a7:bH) (b c:Ls) (d:Int) (K:aS (J4 (Ls→Ls→Int→Prop))):Prop:=
 (a0 0 (fun e f=>(aB (decide (0<(((length b):Nat):Int))) (lt (getD b 0 .nils) (fun g=>(aB (aE zK g) (a0 (aC (aD g 0)) (fun h i=>(aB (decide (0<(((length b):Nat):Int))) (lt (getD b 0 .nils) (fun j=>(aB (aE zK j) (a1 (aC (aD j 0)) (fW (aD j 1)) (fW (aD j 2)) (fun k=>(a0 k (fun l m=>(aB (decide (1<(((length b):Nat):Int))) (lt (getD b 1 .nils) (fun o=>(aB (aE zK o) (a1 (aC (aD o 0)) (fW (aD o 1)) (fW (aD o 2)) (fun p=>(a0 p (fun q r=>(a2 b c d l m 1 (fun s t u v w=>(a3 u v w 0 e f s t (fun z A B C D=>(a2 B C D l m 2 (fun E F G H I=>(a3 G H I 0 e f E F (fun J L M N O=>(a4 M N O 1 e f z A (fun P R S T U=>(a4 S T U 1 z A J L (fun V W X Y Z=>(∃ m0:Nat,Oi a0 a1 a2 a3 a4 a5 a6 a7 (fun y0 y1 y2 y3 y4 y5 y6 y7 y8 y9 y10 y11 y12 y13 y14 y15 y16 y17 y18 y19 y20 y21 y22=>(K y3 y4 y5 y6 y7 y8 y9 y10 y11 y12 y13 y14 y15 y16 y17 y18 y19 y20 y21 y22 y0 y1 y2)) m0 X Y Z 0 0 0 0 0 0 0 0 0 0 0 0 0 0 0 0 0 0 0 0 q r e f z A z A J L J L h i (-1) 0 0 0 0 0 0 0 P R V W e f)))))))))))))))))))))))))))))))))))))
def yaC:Du:=XG cM ya7 yaf yag yac yaF yat yaw
def XH (w:Du) (az:Ls) (b:HB) (K:PV→Ls→Prop):Prop:=
 match az,b with
 | [(.ptr 0 1 0 0)],⟨false,true,3,[(.agg [(.data p0),(.data p1),(ic p2)])]⟩=>w p0 p1 p2 (fun r0 r1 r2 r3 r4 r5 r6 r7 r8 r9 r10 r11 r12 r13 r14 r15 r16 r17 r18 r19 r20 r21 r22=>K (.agg [(ic r0),(ic r1),(ic r2),(ic r3),(ic r4),(ic r5),(ic r6),(ic r7),(ic r8),(ic r9),(ic r10),(ic r11),(ic r12),(ic r13),(ic r14),(ic r15),(ic r16),(ic r17),(ic r18),(ic r19)]) [(.agg [(.data r20),(.data r21),(ic r22)])])
 | _,_=>False
def rm (az:Ls) (b:HB) (K:PV→Ls→Prop):Prop:=XH yaC az b K
def yqV (Q:Qx):Ls→Ls→aS (aS (J4 (J4 (J4 (Int→Int→Int→Bool→Bool→Bool→Prop ))))):=(fun b c d e f g h i j k l m o p q r s t u v w z A B C D E F G H I J L M N O P R S T U V W X Y Z y0 y1 y2 y3 y4 y5=>Q .norm [(0,.v (.ptr 0 1 0 0)),(2,.box (ga [e,f,g,h,i,j,k,l,m,o,p,q,r,s,t,u,v,w,z,A])),(9,.box (ga [B,C,D,E,F,G,H,I,J,L,M,N,O,P,R,S,T,U,V,W])),(10,.box (ga [X,Y,Z,y0,y1,y2])),(12,.box (.agg [(.bool y3),(.bool y4),(.bool y5)]))] [⟨false,true,3,([(.agg [(.data b),(.data c),(ic d)])]:Ls)⟩])
def ypc (Q:Qx):Ls→Ls→aS (aS (J4 (J4 (Int→Prop )))):=(fun b c d e f g h i j k l m o p q r s t u v w z A B C D E F G H I J L M N O P R S T U V W=>Q .norm [(2,.box (ga [e,f,g,h,i,j,k,l,m,o,p,q,r,s,t,u,v,w,z,A])),(9,.box (ga [B,C,D,E,F,G,H,I,J,L,M,N,O,P,R,S,T,U,V,W]))] [⟨false,true,3,([(.agg [(.data b),(.data c),(ic d)])]:Ls)⟩])
def ypd (Q:Qx):Ls→Ls→aS (aS (J4 (J4 (Int→Bool→Prop )))):=(fun b c d e f g h i j k l m o p q r s t u v w z A B C D E F G H I J L M N O P R S T U V W X=>Q .norm [(2,.box (ga [e,f,g,h,i,j,k,l,m,o,p,q,r,s,t,u,v,w,z,A])),(9,.box (ga [B,C,D,E,F,G,H,I,J,L,M,N,O,P,R,S,T,U,V,W])),(180,.v (.bool X))] [⟨false,true,3,([(.agg [(.data b),(.data c),(ic d)])]:Ls)⟩])
def rn (Q:Qx):Ls→Ls→aS (J4 (Int→Prop )):=(fun b c d e f g h i j k l m o p q r s t u v w z A=>Q .ret [(2,.box (ga [e,f,g,h,i,j,k,l,m,o,p,q,r,s,t,u,v,w,z,A]))] [⟨false,true,3,([(.agg [(.data b),(.data c),(ic d)])]:Ls)⟩])
def yqW (Q:Qx):Ls→Ls→aS (aS (J4 (J4 (J4 (Int→Int→Int→Bool→Bool→Bool→Prop ))))):=(fun b c d e f g h i j k l m o p q r s t u v w z A B C D E F G H I J L M N O P R S T U V W X Y Z y0 y1 y2 y3 y4 y5=>Q .norm [(0,.v (.ptr 0 1 0 0)),(2,.box (ga [e,f,g,h,i,j,k,l,m,o,p,q,r,s,t,u,v,w,z,A])),(9,.box (ga [B,C,D,E,F,G,H,I,J,L,M,N,O,P,R,S,T,U,V,W])),(10,.box (ga [X,Y,Z,y0,y1,y2])),(12,.box (.agg [(.bool y3),(.bool y4),(.bool y5)]))] [⟨false,true,3,([(.agg [(.data b),(.data c),(ic d)])]:Ls)⟩])
def ype (Q:Qx):Ls→Ls→aS (J4 (Int→Prop )):=(fun b c d e f g h i j k l m o p q r s t u v w z A=>Q .ret [(2,.box (ga [e,f,g,h,i,j,k,l,m,o,p,q,r,s,t,u,v,w,z,A]))] [⟨false,true,3,([(.agg [(.data b),(.data c),(ic d)])]:Ls)⟩])
def yqX (Q:Qx):Ls→Ls→aS (aS (J4 (J4 (J4 (Int→Int→Int→Bool→Bool→Bool→Prop ))))):=(fun b c d e f g h i j k l m o p q r s t u v w z A B C D E F G H I J L M N O P R S T U V W X Y Z y0 y1 y2 y3 y4 y5=>Q .norm [(0,.v (.ptr 0 1 0 0)),(2,.box (ga [e,f,g,h,i,j,k,l,m,o,p,q,r,s,t,u,v,w,z,A])),(9,.box (ga [B,C,D,E,F,G,H,I,J,L,M,N,O,P,R,S,T,U,V,W])),(10,.box (ga [X,Y,Z,y0,y1,y2])),(12,.box (.agg [(.bool y3),(.bool y4),(.bool y5)]))] [⟨false,true,3,([(.agg [(.data b),(.data c),(ic d)])]:Ls)⟩])
def ypf (Q:Qx):Ls→Ls→aS (J4 (Int→Prop )):=(fun b c d e f g h i j k l m o p q r s t u v w z A=>Q .ret [(2,.box (ga [e,f,g,h,i,j,k,l,m,o,p,q,r,s,t,u,v,w,z,A]))] [⟨false,true,3,([(.agg [(.data b),(.data c),(ic d)])]:Ls)⟩])
def yqY (Q:Qx):Ls→Ls→aS (aS (J4 (J4 (J4 (Int→Int→Int→Bool→Bool→Bool→Prop ))))):=(fun b c d e f g h i j k l m o p q r s t u v w z A B C D E F G H I J L M N O P R S T U V W X Y Z y0 y1 y2 y3 y4 y5=>Q .norm [(0,.v (.ptr 0 1 0 0)),(2,.box (ga [e,f,g,h,i,j,k,l,m,o,p,q,r,s,t,u,v,w,z,A])),(9,.box (ga [B,C,D,E,F,G,H,I,J,L,M,N,O,P,R,S,T,U,V,W])),(10,.box (ga [X,Y,Z,y0,y1,y2])),(12,.box (.agg [(.bool y3),(.bool y4),(.bool y5)]))] [⟨false,true,3,([(.agg [(.data b),(.data c),(ic d)])]:Ls)⟩])
def yqZ (Q:Qx):Ls→Ls→aS (aS (aS (Bool→Bool→Bool→Int→Bool→Prop ))):=(fun b c d e f g h i j k l m o p q r s t u v w z A B C D E F G H I J L M N O P R S T U V W X Y Z y0 y1 y2 y3 y4 y5 y6 y7 y8=>Q .norm [(0,.v (.ptr 0 1 0 0)),(2,.box (ga [e,f,g,h,i,j,k,l,m,o,p,q,r,s,t,u,v,w,z,A])),(9,.box (ga [B,C,D,E,F,G,H,I,J,L,M,N,O,P,R,S,T,U,V,W])),(10,.box (ga [X,Y,Z,y0,y1,y2])),(11,.v (ic y3)),(12,.box (.agg [(.bool y4),(.bool y5),(.bool y6)])),(13,.v (ic y7)),(104,.v (.bool y8))] [⟨false,true,3,([(.agg [(.data b),(.data c),(ic d)])]:Ls)⟩])
def yq0 (Q:Qx):Ls→Ls→aS (J4 (Int→Prop )):=(fun b c d e f g h i j k l m o p q r s t u v w z A=>Q .ret [(2,.box (ga [e,f,g,h,i,j,k,l,m,o,p,q,r,s,t,u,v,w,z,A]))] [⟨false,true,3,([(.agg [(.data b),(.data c),(ic d)])]:Ls)⟩])
def yq1 (Q:Qx):Ls→Ls→aS (J4 (Int→Prop )):=(fun b c d e f g h i j k l m o p q r s t u v w z A=>Q .ret [(2,.box (ga [e,f,g,h,i,j,k,l,m,o,p,q,r,s,t,u,v,w,z,A]))] [⟨false,true,3,([(.agg [(.data b),(.data c),(ic d)])]:Ls)⟩])
def rp (Q:Qx):Ls→Ls→aS (J4 (Int→Prop )):=(fun b c d e f g h i j k l m o p q r s t u v w z A=>Q .ret [(2,.box (ga [e,f,g,h,i,j,k,l,m,o,p,q,r,s,t,u,v,w,z,A]))] [⟨false,true,3,([(.agg [(.data b),(.data c),(ic d)])]:Ls)⟩])
def yq2 (Q:Qx):Ls→Ls→aS (J4 (Int→Prop )):=(fun b c d e f g h i j k l m o p q r s t u v w z A=>Q .ret [(2,.box (ga [e,f,g,h,i,j,k,l,m,o,p,q,r,s,t,u,v,w,z,A]))] [⟨false,true,3,([(.agg [(.data b),(.data c),(ic d)])]:Ls)⟩])
def yq3 (Q:Qx):Ls→Ls→aS (J4 (Int→Prop )):=(fun b c d e f g h i j k l m o p q r s t u v w z A=>Q .ret [(2,.box (ga [e,f,g,h,i,j,k,l,m,o,p,q,r,s,t,u,v,w,z,A]))] [⟨false,true,3,([(.agg [(.data b),(.data c),(ic d)])]:Ls)⟩])
def yq4 (Q:Qx):Ls→Ls→aS (J4 (Int→Prop )):=(fun b c d e f g h i j k l m o p q r s t u v w z A=>Q .ret [(2,.box (ga [e,f,g,h,i,j,k,l,m,o,p,q,r,s,t,u,v,w,z,A]))] [⟨false,true,3,([(.agg [(.data b),(.data c),(ic d)])]:Ls)⟩])
def JH:RPt:=rC (vA (lC vD (lC vD pt1))) rN
def fR:HPt:=hB false true 3 JH hN
def JI:Pat aG:=fX 12 lP (fV 13 bL fN)
def rq (a0:cA) (a1:cD) (a2:dU) (a3 a4:cV) (a5:gB) (a6:eE) (a7:bH) (Q:Qx):List St:=[⟨(pS fR (fV 0 cU (fX 2 dH (fX 9 dH (fX 10 kB (fV 11 bL JI))))) fN),JD a0 a1 a2 a3 a4 a5 a6 a7 (yqV Q)⟩]
def JJ:Pat rQ:=pS fR (fX 2 dH (fX 9 dH (fV 180 vB fN))) fN
def rr (a0:cA) (a1:cD) (a2:dU) (a3 a4:cV) (a5:gB) (a6:eE) (a7:bH) (Q:Qx):List St:=[⟨JJ,Dv a0 a1 a2 a3 a4 a5 a6 a7 (ypc Q) (ypd Q)⟩]
def ru (a0:cA) (a1:cD) (a2:dU) (a3 a4:cV) (a5:gB) (a6:eE) (a7:bH) (Q:Qx):List St:=[⟨(pS fR (fX 2 dH (fX 9 dH fN)) fN),Dw a0 a1 a2 a3 a4 a5 a6 a7 (rn Q)⟩,⟨JJ,Dx a0 a1 a2 a3 a4 a5 a6 a7 (rn Q)⟩]
def JK:Pat rQ:=pS fR (fV 0 cU (fX 2 dH (fX 9 dH (fX 10 kB (fV 11 bL (fX 12 lP (fV 13 bL (fX 14 nQ fN)))))))) fN
def rx (a0:cA) (a1:cD) (a2:dU) (a3 a4:cV) (a5:gB) (a6:eE) (a7:bH) (Q:Qx):List St:=[⟨JK,JE a0 a1 a2 a3 a4 a5 a6 a7 (yqW Q)⟩]
def ry (a0:cA) (a1:cD) (a2:dU) (a3 a4:cV) (a5:gB) (a6:eE) (a7:bH) (Q:Qx):List St:=[⟨(pS fR (fX 2 dH (fX 9 dH (fX 12 lP fN))) fN),Og a0 a1 a2 a3 a4 a5 a6 a7 (ype Q)⟩]
def rz (a0:cA) (a1:cD) (a2:dU) (a3 a4:cV) (a5:gB) (a6:eE) (a7:bH) (Q:Qx):List St:=[⟨JK,iU a0 a1 a2 a3 a4 a5 a6 a7 (yqX Q)⟩]
def Dy:Pat aG:=fX 2 dH (fX 9 dH (fX 10 kB (fX 12 lP fN)))
def sn (a0:cA) (a1:cD) (a2:dU) (a3 a4:cV) (a5:gB) (a6:eE) (a7:bH) (Q:Qx):List St:=[⟨(pS fR Dy fN),Gv a0 a1 a2 a3 a4 a5 a6 a7 (ypf Q)⟩]
def JL:Pat rQ:=pS fR (fV 0 cU (fX 2 dH (fX 9 dH (fX 10 kB (fV 11 bL (fX 12 lP (fV 13 bL (fV 104 vB fN)))))))) fN
def sr (a0:cA) (a1:cD) (a2:dU) (a3 a4:cV) (a5:gB) (a6:eE) (a7:bH) (Q:Qx):List St:=[⟨JL,tZ a0 a1 a2 a3 a4 a5 a6 a7 (yqY Q) (yqZ Q)⟩]
def ss (a0:cA) (a1:cD) (a2:dU) (a3 a4:cV) (a5:gB) (a6:eE) (a7:bH) (Q:Qx):List St:=[⟨(pS fR Dy fN),Oh a0 a1 a2 a3 a4 a5 a6 a7 (yq0 Q)⟩]
def sw (a0:cA) (a1:cD) (a2:dU) (a3 a4:cV) (a5:gB) (a6:eE) (a7:bH) (Q:Qx):List St:=[⟨(pS fR (fX 2 dH (fX 9 dH (fX 10 kB (fX 12 lP (fX 15 kB fN))))) fN),JF a0 a1 a2 a3 a4 a5 a6 a7 (yq1 Q)⟩]
def sx (a0:cA) (a1:cD) (a2:dU) (a3 a4:cV) (a5:gB) (a6:eE) (a7:bH) (Q:Qx):List St:=[⟨(pS fR (fV 0 cU Dy) fN),rY a0 a1 a2 a3 a4 a5 a6 a7 (rp Q)⟩,⟨JL,rZ a0 a1 a2 a3 a4 a5 a6 a7 (rp Q)⟩]
def sy (a0:cA) (a1:cD) (a2:dU) (a3 a4:cV) (a5:gB) (a6:eE) (a7:bH) (Q:Qx):List St:=[⟨(pS fR (fV 0 cU (fX 2 dH (fX 9 dH (fX 10 kB (fV 11 bL (fX 12 lP fN)))))) fN),Aa a0 a1 a2 a3 a4 a5 a6 a7 (yq2 Q)⟩]
def JM:Pat aG:=fX 9 dH (fX 10 kB fN)
def ta (a0:cA) (a1:cD) (a2:dU) (a3 a4:cV) (a5:gB) (a6:eE) (a7:bH) (Q:Qx):List St:=[⟨(pS fR (fV 0 cU (fX 2 dH JM)) fN),JG a0 a1 a2 a3 a4 a5 a6 a7 (yq3 Q)⟩]
def tc (a0:cA) (a1:cD) (a2:dU) (a3 a4:cV) (a5:gB) (a6:eE) (a7:bH) (Q:Qx):List St:=[⟨(pS fR (fV 0 cU (fX 2 dH (fX 6 nQ JM))) fN),Oi a0 a1 a2 a3 a4 a5 a6 a7 (yq4 Q)⟩]
def qA (a0:cA) (a1:cD) (a2:dU) (a3 a4:cV) (a5:gB) (a6:eE) (a7:bH):LP:=fG [(33428450,rq a0 a1 a2 a3 a4 a5 a6 a7),(33428454,rr a0 a1 a2 a3 a4 a5 a6 a7),(33428455,ru a0 a1 a2 a3 a4 a5 a6 a7),(33428451,rx a0 a1 a2 a3 a4 a5 a6 a7),(33428456,ry a0 a1 a2 a3 a4 a5 a6 a7),(33428452,rz a0 a1 a2 a3 a4 a5 a6 a7),(33428457,sn a0 a1 a2 a3 a4 a5 a6 a7),(33428453,sr a0 a1 a2 a3 a4 a5 a6 a7),(33428458,ss a0 a1 a2 a3 a4 a5 a6 a7),(33428459,sw a0 a1 a2 a3 a4 a5 a6 a7),(33428460,sx a0 a1 a2 a3 a4 a5 a6 a7),(33428461,sy a0 a1 a2 a3 a4 a5 a6 a7),(33428462,ta a0 a1 a2 a3 a4 a5 a6 a7),(33428463,tc a0 a1 a2 a3 a4 a5 a6 a7)]
def oW (e:Es) (a0:cA) (a1:cD) (a2:dU) (a3 a4:cV) (a5:gB) (a6:eE) (a7:bH):SE:=⟨(E e),ygn [(rR,nE.pw a0),(Fe,pQ.pw a1),(vC,Of.pw a6),(oP,mH.pw a7)],ygo [],qA a0 a1 a2 a3 a4 a5 a6 a7,ymi [(yY,Oc a2),(xD,Od a3),(pM,Oe a4),(CF,XD a5)]⟩
theorem qB (e:Es) (he:EG e):SEOk (bC (E e)) (oW e cM ya7 yaf yag yac yaF yat yaw):=xC (aK.uni _) ⟨(Ja e he),(ju e he),(XF e he),(tW e he),trivial⟩ trivial he.ok ⟨(qw e he),(qz e he),(rf e he),(yw4 e he),trivial⟩
theorem ypg (e:Es) (a0 a1 a2 a3 a4 a5 a6 a7):gA (oW e a0 a1 a2 a3 a4 a5 a6 a7) 5 a xE (rq a0 a1 a2 a3 a4 a5 a6 a7):=fun _=>⟨fun _ _=>by kernel_rfl,trivial⟩
theorem Dz (e:Es) (he:EG e):cQ (bC (E e)) (qA cM ya7 yaf yag yac yaF yat yaw) [] 33428450 (.join 33428450 xE):=fun _ _ _=>bU.stJ (aK.uni _) (cL (qB e he) 5) (cF.no _ _) (aZ (by kernel_rfl)) (ypg e _ _ _ _ _ _ _ _ _)
theorem yok (e:Es) (a0 a1 a2 a3 a4 a5 a6 a7):gA (oW e a0 a1 a2 a3 a4 a5 a6 a7) 5 a tO (rr a0 a1 a2 a3 a4 a5 a6 a7):=fun _=>⟨fun _ _=>by kernel_rfl,trivial⟩
theorem Ab (e:Es) (he:EG e):cQ (bC (E e)) (qA cM ya7 yaf yag yac yaF yat yaw) [] 33428454 (.join 33428454 tO):=fun _ _ _=>bU.stJ (aK.uni _) (cL (qB e he) 5) (cF.no _ _) (aZ (by kernel_rfl)) (yok e _ _ _ _ _ _ _ _ _)
theorem yol (e:Es) (a0 a1 a2 a3 a4 a5 a6 a7):gA (oW e a0 a1 a2 a3 a4 a5 a6 a7) 5 a tP (ru a0 a1 a2 a3 a4 a5 a6 a7):=fun _=>⟨fun _ _=>by kernel_rfl,fun _ _=>by kernel_rfl,trivial⟩
theorem Ac (e:Es) (he:EG e):cQ (bC (E e)) (qA cM ya7 yaf yag yac yaF yat yaw) [] 33428455 (.join 33428455 tP):=fun _ _ _=>bU.stJ (aK.uni _) (cL (qB e he) 5) (cF.no _ _) (aZ (by kernel_rfl)) (yol e _ _ _ _ _ _ _ _ _)
theorem yph (e:Es) (a0 a1 a2 a3 a4 a5 a6 a7):gA (oW e a0 a1 a2 a3 a4 a5 a6 a7) 5 a yZ (rx a0 a1 a2 a3 a4 a5 a6 a7):=fun _=>⟨fun _ _=>by kernel_rfl,trivial⟩
theorem Gw (e:Es) (he:EG e):cQ (bC (E e)) (qA cM ya7 yaf yag yac yaF yat yaw) [] 33428451 (.join 33428451 yZ):=fun _ _ _=>bU.stJ (aK.uni _) (cL (qB e he) 5) (cF.no _ _) (cZ (l:=[(33428450,.join 33428450 xE)]) ⟨Dz e he,trivial⟩ (by kernel_rfl)) (yph e _ _ _ _ _ _ _ _ _)
theorem yom (e:Es) (a0 a1 a2 a3 a4 a5 a6 a7):gA (oW e a0 a1 a2 a3 a4 a5 a6 a7) 5 a vG (ry a0 a1 a2 a3 a4 a5 a6 a7):=fun _=>⟨fun _ _=>by kernel_rfl,trivial⟩
theorem Bt (e:Es) (he:EG e):cQ (bC (E e)) (qA cM ya7 yaf yag yac yaF yat yaw) [] 33428456 (.join 33428456 vG):=fun _ _ _=>bU.stJ (aK.uni _) (cL (qB e he) 5) (cF.no _ _) (cZ (l:=[(33428454,.join 33428454 tO),(33428455,.join 33428455 tP)]) ⟨Ab e he,Ac e he,trivial⟩ (by kernel_rfl)) (yom e _ _ _ _ _ _ _ _ _)
theorem ypi (e:Es) (a0 a1 a2 a3 a4 a5 a6 a7):gA (oW e a0 a1 a2 a3 a4 a5 a6 a7) 5 a Ba (rz a0 a1 a2 a3 a4 a5 a6 a7):=fun _=>⟨fun _ _=>by kernel_rfl,trivial⟩
theorem JN (e:Es) (he:EG e):cQ (bC (E e)) (qA cM ya7 yaf yag yac yaF yat yaw) [] 33428452 (.join 33428452 Ba):=fun _ _ _=>bU.stJ (aK.uni _) (cL (qB e he) 5) (cF.no _ _) (cZ (l:=[(33428450,.join 33428450 xE),(33428451,.join 33428451 yZ)]) ⟨Dz e he,Gw e he,trivial⟩ (by kernel_rfl)) (ypi e _ _ _ _ _ _ _ _ _)
theorem yon (e:Es) (a0 a1 a2 a3 a4 a5 a6 a7):gA (oW e a0 a1 a2 a3 a4 a5 a6 a7) 5 a xF (sn a0 a1 a2 a3 a4 a5 a6 a7):=fun _=>⟨fun _ _=>by kernel_rfl,trivial⟩
theorem DA (e:Es) (he:EG e):cQ (bC (E e)) (qA cM ya7 yaf yag yac yaF yat yaw) [] 33428457 (.join 33428457 xF):=fun _ _ _=>bU.stJ (aK.uni _) (cL (qB e he) 5) (cF.no _ _) (cZ (l:=[(33428454,.join 33428454 tO),(33428455,.join 33428455 tP),(33428456,.join 33428456 vG)]) ⟨Ab e he,Ac e he,Bt e he,trivial⟩ (by kernel_rfl)) (yon e _ _ _ _ _ _ _ _ _)
theorem ypj (e:Es) (a0 a1 a2 a3 a4 a5 a6 a7):gA (oW e a0 a1 a2 a3 a4 a5 a6 a7) 5 a CG (sr a0 a1 a2 a3 a4 a5 a6 a7):=fun _=>⟨fun _ _=>by kernel_rfl,trivial⟩
theorem Oj (e:Es) (he:EG e):cQ (bC (E e)) (qA cM ya7 yaf yag yac yaF yat yaw) [] 33428453 (.join 33428453 CG):=fun _ _ _=>bU.stJ (aK.uni _) (cL (qB e he) 5) (cF.no _ _) (cZ (l:=[(33428450,.join 33428450 xE),(33428451,.join 33428451 yZ),(33428452,.join 33428452 Ba)]) ⟨Dz e he,Gw e he,JN e he,trivial⟩ (by kernel_rfl)) (ypj e _ _ _ _ _ _ _ _ _)
theorem ypk (e:Es) (a0 a1 a2 a3 a4 a5 a6 a7):gA (oW e a0 a1 a2 a3 a4 a5 a6 a7) 5 a zA (ss a0 a1 a2 a3 a4 a5 a6 a7):=fun _=>⟨fun _ _=>by kernel_rfl,trivial⟩
theorem Gx (e:Es) (he:EG e):cQ (bC (E e)) (qA cM ya7 yaf yag yac yaF yat yaw) [] 33428458 (.join 33428458 zA):=fun _ _ _=>bU.stJ (aK.uni _) (cL (qB e he) 5) (cF.no _ _) (cZ (l:=[(33428454,.join 33428454 tO),(33428455,.join 33428455 tP),(33428456,.join 33428456 vG),(33428457,.join 33428457 xF)]) ⟨Ab e he,Ac e he,Bt e he,DA e he,trivial⟩ (by kernel_rfl)) (ypk e _ _ _ _ _ _ _ _ _)
theorem ypl (e:Es) (a0 a1 a2 a3 a4 a5 a6 a7):gA (oW e a0 a1 a2 a3 a4 a5 a6 a7) 5 a Bb (sw a0 a1 a2 a3 a4 a5 a6 a7):=fun _=>⟨fun _ _=>by kernel_rfl,trivial⟩
theorem JO (e:Es) (he:EG e):cQ (bC (E e)) (qA cM ya7 yaf yag yac yaF yat yaw) [] 33428459 (.join 33428459 Bb):=fun _ _ _=>bU.stJ (aK.uni _) (cL (qB e he) 5) (cF.no _ _) (cZ (l:=[(33428454,.join 33428454 tO),(33428455,.join 33428455 tP),(33428456,.join 33428456 vG),(33428457,.join 33428457 xF),(33428458,.join 33428458 zA)]) ⟨Ab e he,Ac e he,Bt e he,DA e he,Gx e he,trivial⟩ (by kernel_rfl)) (ypl e _ _ _ _ _ _ _ _ _)
theorem ypm (e:Es) (a0 a1 a2 a3 a4 a5 a6 a7):gA (oW e a0 a1 a2 a3 a4 a5 a6 a7) 5 a CH (sx a0 a1 a2 a3 a4 a5 a6 a7):=fun _=>⟨fun _ _=>by kernel_rfl,fun _ _=>by kernel_rfl,trivial⟩
theorem Ok (e:Es) (he:EG e):cQ (bC (E e)) (qA cM ya7 yaf yag yac yaF yat yaw) [] 33428460 (.join 33428460 CH):=fun _ _ _=>bU.stJ (aK.uni _) (cL (qB e he) 5) (cF.no _ _) (cZ (l:=[(33428454,.join 33428454 tO),(33428455,.join 33428455 tP),(33428456,.join 33428456 vG),(33428457,.join 33428457 xF),(33428458,.join 33428458 zA),(33428459,.join 33428459 Bb)]) ⟨Ab e he,Ac e he,Bt e he,DA e he,Gx e he,JO e he,trivial⟩ (by kernel_rfl)) (ypm e _ _ _ _ _ _ _ _ _)
theorem ypn (e:Es) (a0 a1 a2 a3 a4 a5 a6 a7):gA (oW e a0 a1 a2 a3 a4 a5 a6 a7) 5 a Fm (sy a0 a1 a2 a3 a4 a5 a6 a7):=fun _=>⟨fun _ _=>by kernel_rfl,trivial⟩
theorem XI (e:Es) (he:EG e):cQ (bC (E e)) (qA cM ya7 yaf yag yac yaF yat yaw) [] 33428461 (.join 33428461 Fm):=fun _ _ _=>bU.stJ (aK.uni _) (cL (qB e he) 5) (cF.no _ _) (cZ (l:=[(33428450,.join 33428450 xE),(33428451,.join 33428451 yZ),(33428452,.join 33428452 Ba),(33428453,.join 33428453 CG),(33428454,.join 33428454 tO),(33428455,.join 33428455 tP),(33428456,.join 33428456 vG),(33428457,.join 33428457 xF),(33428458,.join 33428458 zA),(33428459,.join 33428459 Bb),(33428460,.join 33428460 CH)]) ⟨Dz e he,Gw e he,JN e he,Oj e he,Ab e he,Ac e he,Bt e he,DA e he,Gx e he,JO e he,Ok e he,trivial⟩ (by kernel_rfl)) (ypn e _ _ _ _ _ _ _ _ _)
theorem ypo (e:Es) (a0 a1 a2 a3 a4 a5 a6 a7):gA (oW e a0 a1 a2 a3 a4 a5 a6 a7) 5 a IC (ta a0 a1 a2 a3 a4 a5 a6 a7):=fun _=>⟨fun _ _=>by kernel_rfl,trivial⟩
theorem td (e:Es) (he:EG e):cQ (bC (E e)) (qA cM ya7 yaf yag yac yaF yat yaw) [] 33428462 (.join 33428462 IC):=fun _ _ _=>bU.stJ (aK.uni _) (cL (qB e he) 5) (cF.no _ _) (cZ (l:=[(33428450,.join 33428450 xE),(33428451,.join 33428451 yZ),(33428452,.join 33428452 Ba),(33428453,.join 33428453 CG),(33428454,.join 33428454 tO),(33428455,.join 33428455 tP),(33428456,.join 33428456 vG),(33428457,.join 33428457 xF),(33428458,.join 33428458 zA),(33428459,.join 33428459 Bb),(33428460,.join 33428460 CH),(33428461,.join 33428461 Fm)]) ⟨Dz e he,Gw e he,JN e he,Oj e he,Ab e he,Ac e he,Bt e he,DA e he,Gx e he,JO e he,Ok e he,XI e he,trivial⟩ (by kernel_rfl)) (ypo e _ _ _ _ _ _ _ _ _)
theorem ypp (e:Es) (a0 a1 a2 a3 a4 a5 a6 a7):gA (oW e a0 a1 a2 a3 a4 a5 a6 a7) 5 a MZ (tc a0 a1 a2 a3 a4 a5 a6 a7):=fun _=>⟨fun _ _=>by kernel_rfl,trivial⟩
theorem ypq (e:Es) (he:EG e):cQ (bC (E e)) (qA cM ya7 yaf yag yac yaF yat yaw) [] 33428463 (.join 33428463 MZ):=fun _ _ _=>bU.stJ (aK.uni _) (cL (qB e he) 5) (cF.no _ _) (cZ (l:=[(33428450,.join 33428450 xE),(33428451,.join 33428451 yZ),(33428452,.join 33428452 Ba),(33428453,.join 33428453 CG),(33428454,.join 33428454 tO),(33428455,.join 33428455 tP),(33428456,.join 33428456 vG),(33428457,.join 33428457 xF),(33428458,.join 33428458 zA),(33428459,.join 33428459 Bb),(33428460,.join 33428460 CH),(33428461,.join 33428461 Fm),(33428462,.join 33428462 IC)]) ⟨Dz e he,Gw e he,JN e he,Oj e he,Ab e he,Ac e he,Bt e he,DA e he,Gx e he,JO e he,Ok e he,XI e he,td e he,trivial⟩ (by kernel_rfl)) (ypp e _ _ _ _ _ _ _ _ _)
theorem yux (e:Es) (a0 a1 a2 a3 a4 a5 a6 a7 p0 p1 p2 K):rL (oW e a0 a1 a2 a3 a4 a5 a6 a7) 6 Tx [(.ptr 0 1 0 0)] ⟨false,true,3,[(.agg [(.data p0),(.data p1),(ic p2)])]⟩ K=XG a0 a1 a2 a3 a4 a5 a6 a7 p0 p1 p2 (fun b c d e f g h i j k l m o p q r s t u v w z A=>K (ga [b,c,d,e,f,g,h,i,j,k,l,m,o,p,q,r,s,t,u,v]) [(.agg [(.data w),(.data z),(ic A)])]):=by kernel_rfl
theorem yuy (e:Es) (he:EG e):uY (E e) rm MI:=by
 intro az b K h;unfold rm XH at h;split at h
 ·exact uS (qB e he) bA.flat (cZ (l:=[(33428450,.join 33428450 xE),(33428451,.join 33428451 yZ),(33428452,.join 33428452 Ba),(33428453,.join 33428453 CG),(33428454,.join 33428454 tO),(33428455,.join 33428455 tP),(33428456,.join 33428456 vG),(33428457,.join 33428457 xF),(33428458,.join 33428458 zA),(33428459,.join 33428459 Bb),(33428460,.join 33428460 CH),(33428461,.join 33428461 Fm),(33428462,.join 33428462 IC),(33428463,.join 33428463 MZ)]) ⟨Dz e he,Gw e he,JN e he,Oj e he,Ab e he,Ac e he,Bt e he,DA e he,Gx e he,JO e he,Ok e he,XI e he,td e he,ypq e he,trivial⟩ (by kernel_rfl)) (by kernel_rfl) (he.num _ (by kernel_rfl)) ((yux ..).mpr h)
 ·exact h.elim
abbrev DB:Type:=Ls→Ls→aS (J4 (Int→(J4 (J4 (J4 (Ls→Ls→Int→Prop))))→Prop))
def lQ (a0:cV) (a1:dU) (a2:cV) (a3:eE) (a4:cA) (x0:Ls→Ls→aS (J4 (J4 (Int→Int→Int→Bool→Bool→Bool→J4 (J4 (Bool→Prop)))))):Nat→Ls→Ls→aS (J4 (J4 (Int→Int→Int→Bool→Bool→Bool→J4 (J4 (Prop)))))
 | 0,_,_,_,_,_,_,_,_,_,_,_,_,_,_,_,_,_,_,_,_,_,_,_,_,_,_,_,_,_,_,_,_,_,_,_,_,_,_,_,_=>False
 | n+1,b,c,d,e,f,g,h,i,j,k,l,m,o,p,q,r,s,t,u,v,w,z,A,B,C,D,E,F,G,H,I,J,L,M,N,O,P,R,S,T=>
 (aA (decide (T<3)) (jn (fun (a:Ls→Ls→Int→Int→Int→Int→Int→Int→Int→Prop)=>(jn (fun (x:Int→Int→Int→Int→Int→Int→Prop)=>(a4 0 (fun U V=>(aA (decide (T=0)) (x U V O P R S) (aA (decide (T=1)) (x M N U V R S) (aA (decide (T=2)) (x M N O P U V) False)))))) (fun U V W X Y Z=>(jn (fun (y:Bool→Prop)=>(aA (decide (T=0)) (y (!H)) (aA (decide (T=1)) (y (!I)) (aA (decide (T=2)) (y (!J)) False)))) (fun y0=>(aA y0 (aA (decide (T=0)) (a0 b c d 0 t u v w (fun y1 y2 y3 y4 y5=>(aA (decide (T=0)) (a y3 y4 y5 y1 y2 W X Y Z) (aA (decide (T=1)) (a y3 y4 y5 U V y1 y2 Y Z) (aA (decide (T=2)) (a y3 y4 y5 U V W X y1 y2) False))))) (aA (decide (T=1)) (a0 b c d 0 z A B C (fun y1 y2 y3 y4 y5=>(aA (decide (T=0)) (a y3 y4 y5 y1 y2 W X Y Z) (aA (decide (T=1)) (a y3 y4 y5 U V y1 y2 Y Z) (aA (decide (T=2)) (a y3 y4 y5 U V W X y1 y2) False))))) (aA (decide (T=2)) (a0 b c d 0 D E F G (fun y1 y2 y3 y4 y5=>(aA (decide (T=0)) (a y3 y4 y5 y1 y2 W X Y Z) (aA (decide (T=1)) (a y3 y4 y5 U V y1 y2 Y Z) (aA (decide (T=2)) (a y3 y4 y5 U V W X y1 y2) False))))) False))) (a b c d U V W X Y Z))))))) (fun U V W X Y Z y0 y1 y2=>(lt (i64.wrap (T+1)) (lQ a0 a1 a2 a3 a4 x0 n U V W e f g h i j k l m o p q r s t u v w z A B C D E F G H I J L X Y Z y0 y1 y2)))) (x0 b c d e f g h i j k l m o p q r s t u v w z A B C D E F G H I J L M N O P R S T false))
def DC (a0:cV) (a1:dU) (a2:cV) (a3:eE) (a4:cA) (x0:Ls→Ls→J4 (J4 (J4 (Int→Prop)))):Nat→Ls→Ls→aS (J4 (J4 (Int→Int→Int→Bool→Bool→Bool→Int→Prop)))
 | _,b,c,d,e,f,g,h,i,j,k,l,m,o,p,q,r,s,t,u,v,w,z,A,B,C,D,E,F,G,H,I,J,L=>
 (∃ m0:Nat,lQ a0 a1 a2 a3 a4 (fun M N O _ _ _ _ _ _ _ _ _ _ _ _ y2 y3 y4 y5 y6 y7 y8 y9 y10 y11 y12 y13 y14 y15 y16 y17 y18 y19 y20 y21 y22 y23 y24 y25 _ _=>(a3 y20 y21 y22 y23 y24 y25 y16 y17 y18 (fun y28=>(jn (fun (a:Int→Int→Int→Int→Int→Int→Int→Int→Int→Int→Int→Int→Prop)=>(aA (decide (y19=0)) (aA (decide (y28=0)) (lt (i64.wrap (3-y19)) (fun y29=>(lt (i64.wrap (y29-y28)) (fun y30=>(aA (decide (y30=0)) (aA (decide (y2=0)) (aA (decide (y3=0)) (a y4 y5 y6 y7 0 0 0 0 0 0 0 0) (aA (decide (y3=1)) (a y4 y5 y6 y7 y4 y5 y6 y7 0 0 0 0) (aA (decide (y3=2)) (a y4 y5 y6 y7 0 0 0 0 y4 y5 y6 y7) False))) (aA (decide (y2=1)) (aA (decide (y3=0)) (a y4 y5 y6 y7 y4 y5 y6 y7 0 0 0 0) (aA (decide (y3=1)) (a y4 y5 y6 y7 y4 y5 y6 y7 0 0 0 0) (aA (decide (y3=2)) (a y4 y5 y6 y7 y4 y5 y6 y7 y4 y5 y6 y7) False))) (aA (decide (y2=2)) (aA (decide (y3=0)) (a y4 y5 y6 y7 0 0 0 0 y4 y5 y6 y7) (aA (decide (y3=1)) (a y4 y5 y6 y7 y4 y5 y6 y7 y4 y5 y6 y7) (aA (decide (y3=2)) (a y4 y5 y6 y7 0 0 0 0 y4 y5 y6 y7) False))) False))) (aA (decide (y30=1)) (aA (decide (y2=0)) (aA (decide (y3=0)) (a y8 y9 y10 y11 0 0 0 0 0 0 0 0) (aA (decide (y3=1)) (a y4 y5 y6 y7 y8 y9 y10 y11 0 0 0 0) (aA (decide (y3=2)) (a y4 y5 y6 y7 0 0 0 0 y8 y9 y10 y11) False))) (aA (decide (y2=1)) (aA (decide (y3=0)) (a y8 y9 y10 y11 y4 y5 y6 y7 0 0 0 0) (aA (decide (y3=1)) (a y4 y5 y6 y7 y8 y9 y10 y11 0 0 0 0) (aA (decide (y3=2)) (a y4 y5 y6 y7 y4 y5 y6 y7 y8 y9 y10 y11) False))) (aA (decide (y2=2)) (aA (decide (y3=0)) (a y8 y9 y10 y11 0 0 0 0 y4 y5 y6 y7) (aA (decide (y3=1)) (a y4 y5 y6 y7 y8 y9 y10 y11 y4 y5 y6 y7) (aA (decide (y3=2)) (a y4 y5 y6 y7 0 0 0 0 y8 y9 y10 y11) False))) False))) (aA (decide (y30=2)) (aA (decide (y2=0)) (aA (decide (y3=0)) (a y12 y13 y14 y15 0 0 0 0 0 0 0 0) (aA (decide (y3=1)) (a y4 y5 y6 y7 y12 y13 y14 y15 0 0 0 0) (aA (decide (y3=2)) (a y4 y5 y6 y7 0 0 0 0 y12 y13 y14 y15) False))) (aA (decide (y2=1)) (aA (decide (y3=0)) (a y12 y13 y14 y15 y4 y5 y6 y7 0 0 0 0) (aA (decide (y3=1)) (a y4 y5 y6 y7 y12 y13 y14 y15 0 0 0 0) (aA (decide (y3=2)) (a y4 y5 y6 y7 y4 y5 y6 y7 y12 y13 y14 y15) False))) (aA (decide (y2=2)) (aA (decide (y3=0)) (a y12 y13 y14 y15 0 0 0 0 y4 y5 y6 y7) (aA (decide (y3=1)) (a y4 y5 y6 y7 y12 y13 y14 y15 y4 y5 y6 y7) (aA (decide (y3=2)) (a y4 y5 y6 y7 0 0 0 0 y12 y13 y14 y15) False))) False))) False))))))) (aA (decide (y28=1)) (lt (i64.wrap (3-y19)) (fun y29=>(lt (i64.wrap (y29-y28)) (fun y30=>(aA (decide (y30=0)) (aA (decide (y2=0)) (aA (decide (y3=0)) (a y4 y5 y6 y7 0 0 0 0 0 0 0 0) (aA (decide (y3=1)) (a y8 y9 y10 y11 y4 y5 y6 y7 0 0 0 0) (aA (decide (y3=2)) (a y8 y9 y10 y11 0 0 0 0 y4 y5 y6 y7) False))) (aA (decide (y2=1)) (aA (decide (y3=0)) (a y4 y5 y6 y7 y4 y5 y6 y7 0 0 0 0) (aA (decide (y3=1)) (a y8 y9 y10 y11 y4 y5 y6 y7 0 0 0 0) (aA (decide (y3=2)) (a y8 y9 y10 y11 y4 y5 y6 y7 y4 y5 y6 y7) False))) (aA (decide (y2=2)) (aA (decide (y3=0)) (a y4 y5 y6 y7 0 0 0 0 y4 y5 y6 y7) (aA (decide (y3=1)) (a y8 y9 y10 y11 y4 y5 y6 y7 y4 y5 y6 y7) (aA (decide (y3=2)) (a y8 y9 y10 y11 0 0 0 0 y4 y5 y6 y7) False))) False))) (aA (decide (y30=1)) (aA (decide (y2=0)) (aA (decide (y3=0)) (a y8 y9 y10 y11 0 0 0 0 0 0 0 0) (aA (decide (y3=1)) (a y8 y9 y10 y11 y8 y9 y10 y11 0 0 0 0) (aA (decide (y3=2)) (a y8 y9 y10 y11 0 0 0 0 y8 y9 y10 y11) False))) (aA (decide (y2=1)) (aA (decide (y3=0)) (a y8 y9 y10 y11 y4 y5 y6 y7 0 0 0 0) (aA (decide (y3=1)) (a y8 y9 y10 y11 y8 y9 y10 y11 0 0 0 0) (aA (decide (y3=2)) (a y8 y9 y10 y11 y4 y5 y6 y7 y8 y9 y10 y11) False))) (aA (decide (y2=2)) (aA (decide (y3=0)) (a y8 y9 y10 y11 0 0 0 0 y4 y5 y6 y7) (aA (decide (y3=1)) (a y8 y9 y10 y11 y8 y9 y10 y11 y4 y5 y6 y7) (aA (decide (y3=2)) (a y8 y9 y10 y11 0 0 0 0 y8 y9 y10 y11) False))) False))) (aA (decide (y30=2)) (aA (decide (y2=0)) (aA (decide (y3=0)) (a y12 y13 y14 y15 0 0 0 0 0 0 0 0) (aA (decide (y3=1)) (a y8 y9 y10 y11 y12 y13 y14 y15 0 0 0 0) (aA (decide (y3=2)) (a y8 y9 y10 y11 0 0 0 0 y12 y13 y14 y15) False))) (aA (decide (y2=1)) (aA (decide (y3=0)) (a y12 y13 y14 y15 y4 y5 y6 y7 0 0 0 0) (aA (decide (y3=1)) (a y8 y9 y10 y11 y12 y13 y14 y15 0 0 0 0) (aA (decide (y3=2)) (a y8 y9 y10 y11 y4 y5 y6 y7 y12 y13 y14 y15) False))) (aA (decide (y2=2)) (aA (decide (y3=0)) (a y12 y13 y14 y15 0 0 0 0 y4 y5 y6 y7) (aA (decide (y3=1)) (a y8 y9 y10 y11 y12 y13 y14 y15 y4 y5 y6 y7) (aA (decide (y3=2)) (a y8 y9 y10 y11 0 0 0 0 y12 y13 y14 y15) False))) False))) False))))))) (aA (decide (y28=2)) (lt (i64.wrap (3-y19)) (fun y29=>(lt (i64.wrap (y29-y28)) (fun y30=>(aA (decide (y30=0)) (aA (decide (y2=0)) (aA (decide (y3=0)) (a y4 y5 y6 y7 0 0 0 0 0 0 0 0) (aA (decide (y3=1)) (a y12 y13 y14 y15 y4 y5 y6 y7 0 0 0 0) (aA (decide (y3=2)) (a y12 y13 y14 y15 0 0 0 0 y4 y5 y6 y7) False))) (aA (decide (y2=1)) (aA (decide (y3=0)) (a y4 y5 y6 y7 y4 y5 y6 y7 0 0 0 0) (aA (decide (y3=1)) (a y12 y13 y14 y15 y4 y5 y6 y7 0 0 0 0) (aA (decide (y3=2)) (a y12 y13 y14 y15 y4 y5 y6 y7 y4 y5 y6 y7) False))) (aA (decide (y2=2)) (aA (decide (y3=0)) (a y4 y5 y6 y7 0 0 0 0 y4 y5 y6 y7) (aA (decide (y3=1)) (a y12 y13 y14 y15 y4 y5 y6 y7 y4 y5 y6 y7) (aA (decide (y3=2)) (a y12 y13 y14 y15 0 0 0 0 y4 y5 y6 y7) False))) False))) (aA (decide (y30=1)) (aA (decide (y2=0)) (aA (decide (y3=0)) (a y8 y9 y10 y11 0 0 0 0 0 0 0 0) (aA (decide (y3=1)) (a y12 y13 y14 y15 y8 y9 y10 y11 0 0 0 0) (aA (decide (y3=2)) (a y12 y13 y14 y15 0 0 0 0 y8 y9 y10 y11) False))) (aA (decide (y2=1)) (aA (decide (y3=0)) (a y8 y9 y10 y11 y4 y5 y6 y7 0 0 0 0) (aA (decide (y3=1)) (a y12 y13 y14 y15 y8 y9 y10 y11 0 0 0 0) (aA (decide (y3=2)) (a y12 y13 y14 y15 y4 y5 y6 y7 y8 y9 y10 y11) False))) (aA (decide (y2=2)) (aA (decide (y3=0)) (a y8 y9 y10 y11 0 0 0 0 y4 y5 y6 y7) (aA (decide (y3=1)) (a y12 y13 y14 y15 y8 y9 y10 y11 y4 y5 y6 y7) (aA (decide (y3=2)) (a y12 y13 y14 y15 0 0 0 0 y8 y9 y10 y11) False))) False))) (aA (decide (y30=2)) (aA (decide (y2=0)) (aA (decide (y3=0)) (a y12 y13 y14 y15 0 0 0 0 0 0 0 0) (aA (decide (y3=1)) (a y12 y13 y14 y15 y12 y13 y14 y15 0 0 0 0) (aA (decide (y3=2)) (a y12 y13 y14 y15 0 0 0 0 y12 y13 y14 y15) False))) (aA (decide (y2=1)) (aA (decide (y3=0)) (a y12 y13 y14 y15 y4 y5 y6 y7 0 0 0 0) (aA (decide (y3=1)) (a y12 y13 y14 y15 y12 y13 y14 y15 0 0 0 0) (aA (decide (y3=2)) (a y12 y13 y14 y15 y4 y5 y6 y7 y12 y13 y14 y15) False))) (aA (decide (y2=2)) (aA (decide (y3=0)) (a y12 y13 y14 y15 0 0 0 0 y4 y5 y6 y7) (aA (decide (y3=1)) (a y12 y13 y14 y15 y12 y13 y14 y15 y4 y5 y6 y7) (aA (decide (y3=2)) (a y12 y13 y14 y15 0 0 0 0 y12 y13 y14 y15) False))) False))) False))))))) False))) (aA (decide (y19=1)) (aA (decide (y28=0)) (lt (i64.wrap (3-y19)) (fun y29=>(lt (i64.wrap (y29-y28)) (fun y30=>(aA (decide (y30=0)) (aA (decide (y2=0)) (aA (decide (y3=0)) (a y4 y5 y6 y7 0 0 0 0 0 0 0 0) (aA (decide (y3=1)) (a y4 y5 y6 y7 y4 y5 y6 y7 0 0 0 0) (aA (decide (y3=2)) (a y4 y5 y6 y7 0 0 0 0 y4 y5 y6 y7) False))) (aA (decide (y2=1)) (aA (decide (y3=0)) (a y4 y5 y6 y7 y8 y9 y10 y11 0 0 0 0) (aA (decide (y3=1)) (a y4 y5 y6 y7 y4 y5 y6 y7 0 0 0 0) (aA (decide (y3=2)) (a y4 y5 y6 y7 y8 y9 y10 y11 y4 y5 y6 y7) False))) (aA (decide (y2=2)) (aA (decide (y3=0)) (a y4 y5 y6 y7 0 0 0 0 y8 y9 y10 y11) (aA (decide (y3=1)) (a y4 y5 y6 y7 y4 y5 y6 y7 y8 y9 y10 y11) (aA (decide (y3=2)) (a y4 y5 y6 y7 0 0 0 0 y4 y5 y6 y7) False))) False))) (aA (decide (y30=1)) (aA (decide (y2=0)) (aA (decide (y3=0)) (a y8 y9 y10 y11 0 0 0 0 0 0 0 0) (aA (decide (y3=1)) (a y4 y5 y6 y7 y8 y9 y10 y11 0 0 0 0) (aA (decide (y3=2)) (a y4 y5 y6 y7 0 0 0 0 y8 y9 y10 y11) False))) (aA (decide (y2=1)) (aA (decide (y3=0)) (a y8 y9 y10 y11 y8 y9 y10 y11 0 0 0 0) (aA (decide (y3=1)) (a y4 y5 y6 y7 y8 y9 y10 y11 0 0 0 0) (aA (decide (y3=2)) (a y4 y5 y6 y7 y8 y9 y10 y11 y8 y9 y10 y11) False))) (aA (decide (y2=2)) (aA (decide (y3=0)) (a y8 y9 y10 y11 0 0 0 0 y8 y9 y10 y11) (aA (decide (y3=1)) (a y4 y5 y6 y7 y8 y9 y10 y11 y8 y9 y10 y11) (aA (decide (y3=2)) (a y4 y5 y6 y7 0 0 0 0 y8 y9 y10 y11) False))) False))) (aA (decide (y30=2)) (aA (decide (y2=0)) (aA (decide (y3=0)) (a y12 y13 y14 y15 0 0 0 0 0 0 0 0) (aA (decide (y3=1)) (a y4 y5 y6 y7 y12 y13 y14 y15 0 0 0 0) (aA (decide (y3=2)) (a y4 y5 y6 y7 0 0 0 0 y12 y13 y14 y15) False))) (aA (decide (y2=1)) (aA (decide (y3=0)) (a y12 y13 y14 y15 y8 y9 y10 y11 0 0 0 0) (aA (decide (y3=1)) (a y4 y5 y6 y7 y12 y13 y14 y15 0 0 0 0) (aA (decide (y3=2)) (a y4 y5 y6 y7 y8 y9 y10 y11 y12 y13 y14 y15) False))) (aA (decide (y2=2)) (aA (decide (y3=0)) (a y12 y13 y14 y15 0 0 0 0 y8 y9 y10 y11) (aA (decide (y3=1)) (a y4 y5 y6 y7 y12 y13 y14 y15 y8 y9 y10 y11) (aA (decide (y3=2)) (a y4 y5 y6 y7 0 0 0 0 y12 y13 y14 y15) False))) False))) False))))))) (aA (decide (y28=1)) (lt (i64.wrap (3-y19)) (fun y29=>(lt (i64.wrap (y29-y28)) (fun y30=>(aA (decide (y30=0)) (aA (decide (y2=0)) (aA (decide (y3=0)) (a y4 y5 y6 y7 0 0 0 0 0 0 0 0) (aA (decide (y3=1)) (a y8 y9 y10 y11 y4 y5 y6 y7 0 0 0 0) (aA (decide (y3=2)) (a y8 y9 y10 y11 0 0 0 0 y4 y5 y6 y7) False))) (aA (decide (y2=1)) (aA (decide (y3=0)) (a y4 y5 y6 y7 y8 y9 y10 y11 0 0 0 0) (aA (decide (y3=1)) (a y8 y9 y10 y11 y4 y5 y6 y7 0 0 0 0) (aA (decide (y3=2)) (a y8 y9 y10 y11 y8 y9 y10 y11 y4 y5 y6 y7) False))) (aA (decide (y2=2)) (aA (decide (y3=0)) (a y4 y5 y6 y7 0 0 0 0 y8 y9 y10 y11) (aA (decide (y3=1)) (a y8 y9 y10 y11 y4 y5 y6 y7 y8 y9 y10 y11) (aA (decide (y3=2)) (a y8 y9 y10 y11 0 0 0 0 y4 y5 y6 y7) False))) False))) (aA (decide (y30=1)) (aA (decide (y2=0)) (aA (decide (y3=0)) (a y8 y9 y10 y11 0 0 0 0 0 0 0 0) (aA (decide (y3=1)) (a y8 y9 y10 y11 y8 y9 y10 y11 0 0 0 0) (aA (decide (y3=2)) (a y8 y9 y10 y11 0 0 0 0 y8 y9 y10 y11) False))) (aA (decide (y2=1)) (aA (decide (y3=0)) (a y8 y9 y10 y11 y8 y9 y10 y11 0 0 0 0) (aA (decide (y3=1)) (a y8 y9 y10 y11 y8 y9 y10 y11 0 0 0 0) (aA (decide (y3=2)) (a y8 y9 y10 y11 y8 y9 y10 y11 y8 y9 y10 y11) False))) (aA (decide (y2=2)) (aA (decide (y3=0)) (a y8 y9 y10 y11 0 0 0 0 y8 y9 y10 y11) (aA (decide (y3=1)) (a y8 y9 y10 y11 y8 y9 y10 y11 y8 y9 y10 y11) (aA (decide (y3=2)) (a y8 y9 y10 y11 0 0 0 0 y8 y9 y10 y11) False))) False))) (aA (decide (y30=2)) (aA (decide (y2=0)) (aA (decide (y3=0)) (a y12 y13 y14 y15 0 0 0 0 0 0 0 0) (aA (decide (y3=1)) (a y8 y9 y10 y11 y12 y13 y14 y15 0 0 0 0) (aA (decide (y3=2)) (a y8 y9 y10 y11 0 0 0 0 y12 y13 y14 y15) False))) (aA (decide (y2=1)) (aA (decide (y3=0)) (a y12 y13 y14 y15 y8 y9 y10 y11 0 0 0 0) (aA (decide (y3=1)) (a y8 y9 y10 y11 y12 y13 y14 y15 0 0 0 0) (aA (decide (y3=2)) (a y8 y9 y10 y11 y8 y9 y10 y11 y12 y13 y14 y15) False))) (aA (decide (y2=2)) (aA (decide (y3=0)) (a y12 y13 y14 y15 0 0 0 0 y8 y9 y10 y11) (aA (decide (y3=1)) (a y8 y9 y10 y11 y12 y13 y14 y15 y8 y9 y10 y11) (aA (decide (y3=2)) (a y8 y9 y10 y11 0 0 0 0 y12 y13 y14 y15) False))) False))) False))))))) (aA (decide (y28=2)) (lt (i64.wrap (3-y19)) (fun y29=>(lt (i64.wrap (y29-y28)) (fun y30=>(aA (decide (y30=0)) (aA (decide (y2=0)) (aA (decide (y3=0)) (a y4 y5 y6 y7 0 0 0 0 0 0 0 0) (aA (decide (y3=1)) (a y12 y13 y14 y15 y4 y5 y6 y7 0 0 0 0) (aA (decide (y3=2)) (a y12 y13 y14 y15 0 0 0 0 y4 y5 y6 y7) False))) (aA (decide (y2=1)) (aA (decide (y3=0)) (a y4 y5 y6 y7 y8 y9 y10 y11 0 0 0 0) (aA (decide (y3=1)) (a y12 y13 y14 y15 y4 y5 y6 y7 0 0 0 0) (aA (decide (y3=2)) (a y12 y13 y14 y15 y8 y9 y10 y11 y4 y5 y6 y7) False))) (aA (decide (y2=2)) (aA (decide (y3=0)) (a y4 y5 y6 y7 0 0 0 0 y8 y9 y10 y11) (aA (decide (y3=1)) (a y12 y13 y14 y15 y4 y5 y6 y7 y8 y9 y10 y11) (aA (decide (y3=2)) (a y12 y13 y14 y15 0 0 0 0 y4 y5 y6 y7) False))) False))) (aA (decide (y30=1)) (aA (decide (y2=0)) (aA (decide (y3=0)) (a y8 y9 y10 y11 0 0 0 0 0 0 0 0) (aA (decide (y3=1)) (a y12 y13 y14 y15 y8 y9 y10 y11 0 0 0 0) (aA (decide (y3=2)) (a y12 y13 y14 y15 0 0 0 0 y8 y9 y10 y11) False))) (aA (decide (y2=1)) (aA (decide (y3=0)) (a y8 y9 y10 y11 y8 y9 y10 y11 0 0 0 0) (aA (decide (y3=1)) (a y12 y13 y14 y15 y8 y9 y10 y11 0 0 0 0) (aA (decide (y3=2)) (a y12 y13 y14 y15 y8 y9 y10 y11 y8 y9 y10 y11) False))) (aA (decide (y2=2)) (aA (decide (y3=0)) (a y8 y9 y10 y11 0 0 0 0 y8 y9 y10 y11) (aA (decide (y3=1)) (a y12 y13 y14 y15 y8 y9 y10 y11 y8 y9 y10 y11) (aA (decide (y3=2)) (a y12 y13 y14 y15 0 0 0 0 y8 y9 y10 y11) False))) False))) (aA (decide (y30=2)) (aA (decide (y2=0)) (aA (decide (y3=0)) (a y12 y13 y14 y15 0 0 0 0 0 0 0 0) (aA (decide (y3=1)) (a y12 y13 y14 y15 y12 y13 y14 y15 0 0 0 0) (aA (decide (y3=2)) (a y12 y13 y14 y15 0 0 0 0 y12 y13 y14 y15) False))) (aA (decide (y2=1)) (aA (decide (y3=0)) (a y12 y13 y14 y15 y8 y9 y10 y11 0 0 0 0) (aA (decide (y3=1)) (a y12 y13 y14 y15 y12 y13 y14 y15 0 0 0 0) (aA (decide (y3=2)) (a y12 y13 y14 y15 y8 y9 y10 y11 y12 y13 y14 y15) False))) (aA (decide (y2=2)) (aA (decide (y3=0)) (a y12 y13 y14 y15 0 0 0 0 y8 y9 y10 y11) (aA (decide (y3=1)) (a y12 y13 y14 y15 y12 y13 y14 y15 y8 y9 y10 y11) (aA (decide (y3=2)) (a y12 y13 y14 y15 0 0 0 0 y12 y13 y14 y15) False))) False))) False))))))) False))) (aA (decide (y19=2)) (aA (decide (y28=0)) (lt (i64.wrap (3-y19)) (fun y29=>(lt (i64.wrap (y29-y28)) (fun y30=>(aA (decide (y30=0)) (aA (decide (y2=0)) (aA (decide (y3=0)) (a y4 y5 y6 y7 0 0 0 0 0 0 0 0) (aA (decide (y3=1)) (a y4 y5 y6 y7 y4 y5 y6 y7 0 0 0 0) (aA (decide (y3=2)) (a y4 y5 y6 y7 0 0 0 0 y4 y5 y6 y7) False))) (aA (decide (y2=1)) (aA (decide (y3=0)) (a y4 y5 y6 y7 y12 y13 y14 y15 0 0 0 0) (aA (decide (y3=1)) (a y4 y5 y6 y7 y4 y5 y6 y7 0 0 0 0) (aA (decide (y3=2)) (a y4 y5 y6 y7 y12 y13 y14 y15 y4 y5 y6 y7) False))) (aA (decide (y2=2)) (aA (decide (y3=0)) (a y4 y5 y6 y7 0 0 0 0 y12 y13 y14 y15) (aA (decide (y3=1)) (a y4 y5 y6 y7 y4 y5 y6 y7 y12 y13 y14 y15) (aA (decide (y3=2)) (a y4 y5 y6 y7 0 0 0 0 y4 y5 y6 y7) False))) False))) (aA (decide (y30=1)) (aA (decide (y2=0)) (aA (decide (y3=0)) (a y8 y9 y10 y11 0 0 0 0 0 0 0 0) (aA (decide (y3=1)) (a y4 y5 y6 y7 y8 y9 y10 y11 0 0 0 0) (aA (decide (y3=2)) (a y4 y5 y6 y7 0 0 0 0 y8 y9 y10 y11) False))) (aA (decide (y2=1)) (aA (decide (y3=0)) (a y8 y9 y10 y11 y12 y13 y14 y15 0 0 0 0) (aA (decide (y3=1)) (a y4 y5 y6 y7 y8 y9 y10 y11 0 0 0 0) (aA (decide (y3=2)) (a y4 y5 y6 y7 y12 y13 y14 y15 y8 y9 y10 y11) False))) (aA (decide (y2=2)) (aA (decide (y3=0)) (a y8 y9 y10 y11 0 0 0 0 y12 y13 y14 y15) (aA (decide (y3=1)) (a y4 y5 y6 y7 y8 y9 y10 y11 y12 y13 y14 y15) (aA (decide (y3=2)) (a y4 y5 y6 y7 0 0 0 0 y8 y9 y10 y11) False))) False))) (aA (decide (y30=2)) (aA (decide (y2=0)) (aA (decide (y3=0)) (a y12 y13 y14 y15 0 0 0 0 0 0 0 0) (aA (decide (y3=1)) (a y4 y5 y6 y7 y12 y13 y14 y15 0 0 0 0) (aA (decide (y3=2)) (a y4 y5 y6 y7 0 0 0 0 y12 y13 y14 y15) False))) (aA (decide (y2=1)) (aA (decide (y3=0)) (a y12 y13 y14 y15 y12 y13 y14 y15 0 0 0 0) (aA (decide (y3=1)) (a y4 y5 y6 y7 y12 y13 y14 y15 0 0 0 0) (aA (decide (y3=2)) (a y4 y5 y6 y7 y12 y13 y14 y15 y12 y13 y14 y15) False))) (aA (decide (y2=2)) (aA (decide (y3=0)) (a y12 y13 y14 y15 0 0 0 0 y12 y13 y14 y15) (aA (decide (y3=1)) (a y4 y5 y6 y7 y12 y13 y14 y15 y12 y13 y14 y15) (aA (decide (y3=2)) (a y4 y5 y6 y7 0 0 0 0 y12 y13 y14 y15) False))) False))) False))))))) (aA (decide (y28=1)) (lt (i64.wrap (3-y19)) (fun y29=>(lt (i64.wrap (y29-y28)) (fun y30=>(aA (decide (y30=0)) (aA (decide (y2=0)) (aA (decide (y3=0)) (a y4 y5 y6 y7 0 0 0 0 0 0 0 0) (aA (decide (y3=1)) (a y8 y9 y10 y11 y4 y5 y6 y7 0 0 0 0) (aA (decide (y3=2)) (a y8 y9 y10 y11 0 0 0 0 y4 y5 y6 y7) False))) (aA (decide (y2=1)) (aA (decide (y3=0)) (a y4 y5 y6 y7 y12 y13 y14 y15 0 0 0 0) (aA (decide (y3=1)) (a y8 y9 y10 y11 y4 y5 y6 y7 0 0 0 0) (aA (decide (y3=2)) (a y8 y9 y10 y11 y12 y13 y14 y15 y4 y5 y6 y7) False))) (aA (decide (y2=2)) (aA (decide (y3=0)) (a y4 y5 y6 y7 0 0 0 0 y12 y13 y14 y15) (aA (decide (y3=1)) (a y8 y9 y10 y11 y4 y5 y6 y7 y12 y13 y14 y15) (aA (decide (y3=2)) (a y8 y9 y10 y11 0 0 0 0 y4 y5 y6 y7) False))) False))) (aA (decide (y30=1)) (aA (decide (y2=0)) (aA (decide (y3=0)) (a y8 y9 y10 y11 0 0 0 0 0 0 0 0) (aA (decide (y3=1)) (a y8 y9 y10 y11 y8 y9 y10 y11 0 0 0 0) (aA (decide (y3=2)) (a y8 y9 y10 y11 0 0 0 0 y8 y9 y10 y11) False))) (aA (decide (y2=1)) (aA (decide (y3=0)) (a y8 y9 y10 y11 y12 y13 y14 y15 0 0 0 0) (aA (decide (y3=1)) (a y8 y9 y10 y11 y8 y9 y10 y11 0 0 0 0) (aA (decide (y3=2)) (a y8 y9 y10 y11 y12 y13 y14 y15 y8 y9 y10 y11) False))) (aA (decide (y2=2)) (aA (decide (y3=0)) (a y8 y9 y10 y11 0 0 0 0 y12 y13 y14 y15) (aA (decide (y3=1)) (a y8 y9 y10 y11 y8 y9 y10 y11 y12 y13 y14 y15) (aA (decide (y3=2)) (a y8 y9 y10 y11 0 0 0 0 y8 y9 y10 y11) False))) False))) (aA (decide (y30=2)) (aA (decide (y2=0)) (aA (decide (y3=0)) (a y12 y13 y14 y15 0 0 0 0 0 0 0 0) (aA (decide (y3=1)) (a y8 y9 y10 y11 y12 y13 y14 y15 0 0 0 0) (aA (decide (y3=2)) (a y8 y9 y10 y11 0 0 0 0 y12 y13 y14 y15) False))) (aA (decide (y2=1)) (aA (decide (y3=0)) (a y12 y13 y14 y15 y12 y13 y14 y15 0 0 0 0) (aA (decide (y3=1)) (a y8 y9 y10 y11 y12 y13 y14 y15 0 0 0 0) (aA (decide (y3=2)) (a y8 y9 y10 y11 y12 y13 y14 y15 y12 y13 y14 y15) False))) (aA (decide (y2=2)) (aA (decide (y3=0)) (a y12 y13 y14 y15 0 0 0 0 y12 y13 y14 y15) (aA (decide (y3=1)) (a y8 y9 y10 y11 y12 y13 y14 y15 y12 y13 y14 y15) (aA (decide (y3=2)) (a y8 y9 y10 y11 0 0 0 0 y12 y13 y14 y15) False))) False))) False))))))) (aA (decide (y28=2)) (lt (i64.wrap (3-y19)) (fun y29=>(lt (i64.wrap (y29-y28)) (fun y30=>(aA (decide (y30=0)) (aA (decide (y2=0)) (aA (decide (y3=0)) (a y4 y5 y6 y7 0 0 0 0 0 0 0 0) (aA (decide (y3=1)) (a y12 y13 y14 y15 y4 y5 y6 y7 0 0 0 0) (aA (decide (y3=2)) (a y12 y13 y14 y15 0 0 0 0 y4 y5 y6 y7) False))) (aA (decide (y2=1)) (aA (decide (y3=0)) (a y4 y5 y6 y7 y12 y13 y14 y15 0 0 0 0) (aA (decide (y3=1)) (a y12 y13 y14 y15 y4 y5 y6 y7 0 0 0 0) (aA (decide (y3=2)) (a y12 y13 y14 y15 y12 y13 y14 y15 y4 y5 y6 y7) False))) (aA (decide (y2=2)) (aA (decide (y3=0)) (a y4 y5 y6 y7 0 0 0 0 y12 y13 y14 y15) (aA (decide (y3=1)) (a y12 y13 y14 y15 y4 y5 y6 y7 y12 y13 y14 y15) (aA (decide (y3=2)) (a y12 y13 y14 y15 0 0 0 0 y4 y5 y6 y7) False))) False))) (aA (decide (y30=1)) (aA (decide (y2=0)) (aA (decide (y3=0)) (a y8 y9 y10 y11 0 0 0 0 0 0 0 0) (aA (decide (y3=1)) (a y12 y13 y14 y15 y8 y9 y10 y11 0 0 0 0) (aA (decide (y3=2)) (a y12 y13 y14 y15 0 0 0 0 y8 y9 y10 y11) False))) (aA (decide (y2=1)) (aA (decide (y3=0)) (a y8 y9 y10 y11 y12 y13 y14 y15 0 0 0 0) (aA (decide (y3=1)) (a y12 y13 y14 y15 y8 y9 y10 y11 0 0 0 0) (aA (decide (y3=2)) (a y12 y13 y14 y15 y12 y13 y14 y15 y8 y9 y10 y11) False))) (aA (decide (y2=2)) (aA (decide (y3=0)) (a y8 y9 y10 y11 0 0 0 0 y12 y13 y14 y15) (aA (decide (y3=1)) (a y12 y13 y14 y15 y8 y9 y10 y11 y12 y13 y14 y15) (aA (decide (y3=2)) (a y12 y13 y14 y15 0 0 0 0 y8 y9 y10 y11) False))) False))) (aA (decide (y30=2)) (aA (decide (y2=0)) (aA (decide (y3=0)) (a y12 y13 y14 y15 0 0 0 0 0 0 0 0) (aA (decide (y3=1)) (a y12 y13 y14 y15 y12 y13 y14 y15 0 0 0 0) (aA (decide (y3=2)) (a y12 y13 y14 y15 0 0 0 0 y12 y13 y14 y15) False))) (aA (decide (y2=1)) (aA (decide (y3=0)) (a y12 y13 y14 y15 y12 y13 y14 y15 0 0 0 0) (aA (decide (y3=1)) (a y12 y13 y14 y15 y12 y13 y14 y15 0 0 0 0) (aA (decide (y3=2)) (a y12 y13 y14 y15 y12 y13 y14 y15 y12 y13 y14 y15) False))) (aA (decide (y2=2)) (aA (decide (y3=0)) (a y12 y13 y14 y15 0 0 0 0 y12 y13 y14 y15) (aA (decide (y3=1)) (a y12 y13 y14 y15 y12 y13 y14 y15 y12 y13 y14 y15) (aA (decide (y3=2)) (a y12 y13 y14 y15 0 0 0 0 y12 y13 y14 y15) False))) False))) False))))))) False))) False)))) (x0 M N O))))) m0 b c d e f g h i j k l m o p q r s t u v w z A B C D E F G H I J L 0 0 0 0 0 0 0)
def DD (a0:cV) (a1:dU) (a2:cV) (a3:eE) (a4:cA) (x0:Ls→Ls→J4 (J4 (J4 (Int→Prop)))):Nat→Ls→Ls→aS (aS (Int→Prop))
 | _,b,c,d,e,f,g,h,i,j,k,l,m,o,p,q,r,s,t,u,v,w,z,A,B,C,D,E,F,G,H,I,J,L,M,N=>
 (a3 H I J L M N false false false (fun O=>(aA (decide (O=0)) (∃ m0:Nat,DC a0 a1 a2 a3 a4 x0 m0 b c d e f g h i j k l m o p q r s t u v w z A B C D E F G true false false O) (aA (decide (O=1)) (∃ m0:Nat,DC a0 a1 a2 a3 a4 x0 m0 b c d e f g h i j k l m o p q r s t u v w z A B C D E F G false true false O) (aA (decide (O=2)) (∃ m0:Nat,DC a0 a1 a2 a3 a4 x0 m0 b c d e f g h i j k l m o p q r s t u v w z A B C D E F G false false true O) False)))))
def Ol (a0:cV) (a1:dU) (a2:cV) (a3:eE) (a4:cA) (x0:Ls→Ls→J4 (J4 (J4 (Int→Prop)))):Nat→Ls→Ls→aS (aS (Int→Int→Int→Prop))
 | _,b,c,d,_,_,_,_,_,_,_,_,_,_,_,_,_,s,t,u,v,_,_,_,B,C,D,E,F,G,H,I,J,L,M,N,O,P=>
 (a0 b c d P s t u v (fun R S T U V=>(a1 T U V R S 1 (fun W X Y Z y0=>(a2 Y Z y0 P s t W X (fun y1 y2 y3 y4 y5=>(a1 y3 y4 y5 R S 2 (fun y6 y7 y8 y9 y10=>(a2 y8 y9 y10 P s t y6 y7 (fun y11 y12 y13 y14 y15=>(a0 y13 y14 y15 O s t y1 y2 (fun y16 y17 y18 y19 y20=>(a0 y18 y19 y20 O y1 y2 y11 y12 (fun y21 y22 y23 y24 y25=>(a0 y23 y24 y25 O y11 y12 u v (fun y26 y27 y28 y29 y30=>(∃ m0:Nat,DD a0 a1 a2 a3 a4 x0 m0 y28 y29 y30 B C D E F G H I J L M N O P s t y1 y2 y1 y2 y11 y12 y11 y12 u v y16 y17 y21 y22 y26 y27)))))))))))))))))
def Om (a0:cV) (a1:dU) (a2:cV) (a3:eE) (a4:cA) (x0:Ls→Ls→J4 (J4 (J4 (Int→Prop)))):Nat→Ls→Ls→aS (aS (Int→Int→Int→Bool→Prop))
 | _,b,c,d,_,_,_,_,_,_,_,_,_,_,_,_,_,s,t,u,v,_,_,_,B,C,D,E,F,G,H,I,J,L,M,N,O,P,_=>
 (a0 b c d P s t u v (fun S T U V W=>(a1 U V W S T 1 (fun X Y Z y0 y1=>(a2 Z y0 y1 P s t X Y (fun y2 y3 y4 y5 y6=>(a1 y4 y5 y6 S T 2 (fun y7 y8 y9 y10 y11=>(a2 y9 y10 y11 P s t y7 y8 (fun y12 y13 y14 y15 y16=>(a0 y14 y15 y16 O s t y2 y3 (fun y17 y18 y19 y20 y21=>(a0 y19 y20 y21 O y2 y3 y12 y13 (fun y22 y23 y24 y25 y26=>(a0 y24 y25 y26 O y12 y13 u v (fun y27 y28 y29 y30 y31=>(∃ m0:Nat,DD a0 a1 a2 a3 a4 x0 m0 y29 y30 y31 B C D E F G H I J L M N O P s t y2 y3 y2 y3 y12 y13 y12 y13 u v y17 y18 y22 y23 y27 y28)))))))))))))))))
def XJ (a0:cV) (a1:dU) (a2:cV) (a3:eE) (a4:cA) (b c:Ls) (d e f g h i j k l m o p q r s t u v w z A:Int) (K:J4 (J4 (J4 (Ls→Ls→Int→Prop)))):Prop:=
 (aA (A==r) (∃ m0:Nat,Ol a0 a1 a2 a3 a4 (fun B C D E F G H I J L M N O P R=>(K E F G H I J L M N O P R B C D)) m0 b c d e f g h i j k l m o p q r s t u v w z A 0 0 0 0 0 0 0 0 0 0 0 0 2 1) (∃ m0:Nat,Om a0 a1 a2 a3 a4 (fun B C D E F G H I J L M N O P R=>(K E F G H I J L M N O P R B C D)) m0 b c d e f g h i j k l m o p q r s t u v w z A 0 0 0 0 0 0 0 0 0 0 0 0 1 2 false))
def gO:DB:=XJ yac yaf yag yat cM
def XK (w:DB) (az:Ls) (b:HB) (K:PV→Ls→Prop):Prop:=
 match az,b with
 | [(.ptr 0 1 0 0),(.agg [(ic p3),(ic p4),(ic p5),(ic p6),(ic p7),(ic p8),(ic p9),(ic p10),(ic p11),(ic p12),(ic p13),(ic p14),(ic p15),(ic p16),(ic p17),(ic p18),(ic p19),(ic p20),(ic p21),(ic p22)])],⟨false,true,3,[(.agg [(.data p0),(.data p1),(ic p2)])]⟩=>w p0 p1 p2 p3 p4 p5 p6 p7 p8 p9 p10 p11 p12 p13 p14 p15 p16 p17 p18 p19 p20 p21 p22 (fun r0 r1 r2 r3 r4 r5 r6 r7 r8 r9 r10 r11 r12 r13 r14=>K (.agg [(ic r0),(ic r1),(ic r2),(ic r3),(ic r4),(ic r5),(ic r6),(ic r7),(ic r8),(ic r9),(ic r10),(ic r11)]) [(.agg [(.data r12),(.data r13),(ic r14)])])
 | _,_=>False
def te (az:Ls) (b:HB) (K:PV→Ls→Prop):Prop:=XK gO az b K
def ypr (Q:Qx):Ls→Ls→aS (J4 (J4 (Int→Int→Int→Bool→Bool→Bool→J4 (J4 (Bool→Prop ))))):=(fun b c d e f g h i j k l m o p q r s t u v w z A B C D E F G H I J L M N O P R S T U=>Q (.exit 0) [(0,.v (.ptr 0 1 0 0)),(4,.box (ga [e,f,g,h,i,j,k,l,m,o,p,q])),(5,.v (ic r)),(6,.v (ic s)),(10,.box (ga [t,u,v,w,z,A,B,C,D,E,F,G])),(12,.box (.agg [(.bool H),(.bool I),(.bool J)])),(13,.v (ic L)),(14,.box (ga [M,N,O,P,R,S])),(15,.v (ic T)),(85,.v (.bool U))] [⟨false,true,3,([(.agg [(.data b),(.data c),(ic d)])]:Ls)⟩])
def yps (Q:Qx):Ls→Ls→J4 (J4 (J4 (Int→Prop ))):=(fun b c d e f g h i j k l m o p q=>Q .ret [(4,.box (ga [e,f,g,h,i,j,k,l,m,o,p,q]))] [⟨false,true,3,([(.agg [(.data b),(.data c),(ic d)])]:Ls)⟩])
def ypt (Q:Qx):Ls→Ls→J4 (J4 (J4 (Int→Prop ))):=(fun b c d e f g h i j k l m o p q=>Q .ret [(4,.box (ga [e,f,g,h,i,j,k,l,m,o,p,q]))] [⟨false,true,3,([(.agg [(.data b),(.data c),(ic d)])]:Ls)⟩])
def tf (Q:Qx):Ls→Ls→J4 (J4 (J4 (Int→Prop ))):=(fun b c d e f g h i j k l m o p q=>Q .ret [(4,.box (ga [e,f,g,h,i,j,k,l,m,o,p,q]))] [⟨false,true,3,([(.agg [(.data b),(.data c),(ic d)])]:Ls)⟩])
def tg (a0:cV) (a1:dU) (a2:cV) (a3:eE) (a4:cA) (Q:Qx):List St:=[⟨(pS fR (fV 0 cU (fX 4 iT (fV 5 bL (fV 6 bL (fX 10 iT (fX 12 lP (fV 13 bL (fX 14 kB (fV 15 bL fN))))))))) fN),lQ a0 a1 a2 a3 a4 (ypr Q)⟩]
def ti (a0:cV) (a1:dU) (a2:cV) (a3:eE) (a4:cA) (Q:Qx):List St:=[⟨(pS fR (fV 0 cU (fX 4 iT (fV 5 bL (fV 6 bL (fX 10 iT JI))))) fN),DC a0 a1 a2 a3 a4 (yps Q)⟩]
def tj (a0:cV) (a1:dU) (a2:cV) (a3:eE) (a4:cA) (Q:Qx):List St:=[⟨(pS fR (fV 0 cU (fX 4 iT (fV 5 bL (fV 6 bL (fX 10 iT (fX 11 kB fN)))))) fN),DD a0 a1 a2 a3 a4 (ypt Q)⟩]
def tk (a0:cV) (a1:dU) (a2:cV) (a3:eE) (a4:cA) (Q:Qx):List St:=[⟨(pS fR (fV 0 cU (fX 3 dH (fX 4 iT (fV 5 bL pZ)))) fN),Ol a0 a1 a2 a3 a4 (tf Q)⟩,⟨(pS fR (fV 0 cU (fX 3 dH (fX 4 iT (fV 5 bL (fV 6 bL (fV 23 vB fN)))))) fN),Om a0 a1 a2 a3 a4 (tf Q)⟩]
def JP (a0:cV) (a1:dU) (a2:cV) (a3:eE) (a4:cA):LP:=fG [(87262900,tg a0 a1 a2 a3 a4),(87262950,ti a0 a1 a2 a3 a4),(87262951,tj a0 a1 a2 a3 a4),(87262952,tk a0 a1 a2 a3 a4)]
def Gy (e:Es) (a0:cV) (a1:dU) (a2:cV) (a3:eE) (a4:cA):SE:=⟨(E e),ygn [(vC,Of.pw a3),(rR,nE.pw a4)],ygo [],JP a0 a1 a2 a3 a4,ymi [(pM,Oe a0),(yY,Oc a1),(xD,Od a2)]⟩
theorem JQ (e:Es) (he:EG e):SEOk (bC (E e)) (Gy e yac yaf yag yat cM):=xC (aK.uni _) ⟨(XF e he),(Ja e he),trivial⟩ trivial he.ok ⟨(rf e he),(qw e he),(qz e he),trivial⟩
theorem yoo (e:Es) (a0 a1 a2 a3 a4):eC (Gy e a0 a1 a2 a3 a4) 5 a CI false (tg a0 a1 a2 a3 a4):=fun _=>⟨fun _=>by kernel_rfl,fun _ _=>by kernel_rfl,trivial⟩
theorem Oo (e:Es) (he:EG e):cQ (bC (E e)) (JP yac yaf yag yat cM) [] 87262900 (.loop 87262900 CI):=fun _ _ _=>bU.st (aK.uni _) (cL (JQ e he) 5) (cF.no _ _) (aZ (by kernel_rfl)) (yoo e _ _ _ _ _ _)
theorem yop (e:Es) (a0 a1 a2 a3 a4):gA (Gy e a0 a1 a2 a3 a4) 5 a Fo (ti a0 a1 a2 a3 a4):=fun _=>⟨fun _ _=>by kernel_rfl,trivial⟩
theorem XL (e:Es) (he:EG e):cQ (bC (E e)) (JP yac yaf yag yat cM) [] 87262950 (.join 87262950 Fo):=fun _ _ _=>bU.stJ (aK.uni _) (cL (JQ e he) 5) (cF.no _ _) (cZ (l:=[(87262900,.loop 87262900 CI)]) ⟨Oo e he,trivial⟩ (by kernel_rfl)) (yop e _ _ _ _ _ _)
theorem yoq (e:Es) (a0 a1 a2 a3 a4):gA (Gy e a0 a1 a2 a3 a4) 5 a IE (tj a0 a1 a2 a3 a4):=fun _=>⟨fun _ _=>by kernel_rfl,trivial⟩
theorem tn (e:Es) (he:EG e):cQ (bC (E e)) (JP yac yaf yag yat cM) [] 87262951 (.join 87262951 IE):=fun _ _ _=>bU.stJ (aK.uni _) (cL (JQ e he) 5) (cF.no _ _) (cZ (l:=[(87262900,.loop 87262900 CI),(87262950,.join 87262950 Fo)]) ⟨Oo e he,XL e he,trivial⟩ (by kernel_rfl)) (yoq e _ _ _ _ _ _)
theorem yor (e:Es) (a0 a1 a2 a3 a4):gA (Gy e a0 a1 a2 a3 a4) 5 a Na (tk a0 a1 a2 a3 a4):=fun _=>⟨fun _ _=>by kernel_rfl,fun _ _=>by kernel_rfl,trivial⟩
theorem yos (e:Es) (he:EG e):cQ (bC (E e)) (JP yac yaf yag yat cM) [] 87262952 (.join 87262952 Na):=fun _ _ _=>bU.stJ (aK.uni _) (cL (JQ e he) 5) (cF.no _ _) (cZ (l:=[(87262900,.loop 87262900 CI),(87262950,.join 87262950 Fo),(87262951,.join 87262951 IE)]) ⟨Oo e he,XL e he,tn e he,trivial⟩ (by kernel_rfl)) (yor e _ _ _ _ _ _)
theorem ytr (e:Es) (a0 a1 a2 a3 a4 p0 p1 p2 p3 p4 p5 p6 p7 p8 p9 p10 p11 p12 p13 p14 p15 p16 p17 p18 p19 p20 p21 p22 K):rL (Gy e a0 a1 a2 a3 a4) 6 TA [(.ptr 0 1 0 0),(ga [p3,p4,p5,p6,p7,p8,p9,p10,p11,p12,p13,p14,p15,p16,p17,p18,p19,p20,p21,p22])] ⟨false,true,3,[(.agg [(.data p0),(.data p1),(ic p2)])]⟩ K=XJ a0 a1 a2 a3 a4 p0 p1 p2 p3 p4 p5 p6 p7 p8 p9 p10 p11 p12 p13 p14 p15 p16 p17 p18 p19 p20 p21 p22 (fun b c d e f g h i j k l m o p q=>K (ga [b,c,d,e,f,g,h,i,j,k,l,m]) [(.agg [(.data o),(.data p),(ic q)])]):=by kernel_rfl
theorem yts (e:Es) (he:EG e):uY (E e) te MJ:=by
 intro az b K h;unfold te XK at h;split at h
 ·exact uS (JQ e he) bA.flat (cZ (l:=[(87262900,.loop 87262900 CI),(87262950,.join 87262950 Fo),(87262951,.join 87262951 IE),(87262952,.join 87262952 Na)]) ⟨Oo e he,XL e he,tn e he,yos e he,trivial⟩ (by kernel_rfl)) (by kernel_rfl) (he.num _ (by kernel_rfl)) ((ytr ..).mpr h)
 ·exact h.elim
def iJ (a0:cX) (a1:Du) (a2:DB) (a3:bH) (a4:lK) (x0:Ls→Ls→Ls→aS (aS (aS (J4 (Int→Nat→Nat→Nat→Int→Bool→Prop))))):Nat→Ls→Ls→Ls→aS (aS (aS (J4 (Int→Nat→Nat→Nat→Int→Prop))))
 | 0,_,_,_,_,_,_,_,_,_,_,_,_,_,_,_,_,_,_,_,_,_,_,_,_,_,_,_,_,_,_,_,_,_,_,_,_,_,_,_,_,_,_,_,_,_,_,_,_,_,_,_,_,_,_,_,_,_,_,_,_=>False
 | n+1,b,c,d,e,f,g,h,i,j,k,l,m,o,p,q,r,s,t,u,v,w,z,A,B,C,D,E,F,G,H,I,J,L,M,N,O,P,R,S,T,U,V,W,X,Y,Z,y0,y1,y2,y3,y4,y5,y6,y7,y8,y9,y10,y11,y12,y13=>
 (aA (decide (y13<3)) (jn (fun (vb:Ls→Ls→Prop)=>(jn (fun (a:Ls→Prop)=>(jn (fun (x:Bool→Prop)=>(aA (decide (y13=0)) (aA (decide (V=0)) (a3 C D E F x) (aA (decide (V=1)) (a3 G H I J x) (aA (decide (V=2)) (a3 L M N O x) False))) (aA (decide (y13=1)) (aA (decide (W=0)) (a3 C D E F x) (aA (decide (W=1)) (a3 G H I J x) (aA (decide (W=2)) (a3 L M N O x) False))) (aA (decide (y13=2)) (aA (decide (X=0)) (a3 C D E F x) (aA (decide (X=1)) (a3 G H I J x) (aA (decide (X=2)) (a3 L M N O x) False))) False)))) (fun y14=>(aA y14 (aA (decide (y13=0)) (aA (decide (V=0)) (a ([(.agg [(ic C),(ic D),(ic E),(ic F)])]:Ls)) (aA (decide (V=1)) (a ([(.agg [(ic G),(ic H),(ic I),(ic J)])]:Ls)) (aA (decide (V=2)) (a ([(.agg [(ic L),(ic M),(ic N),(ic O)])]:Ls)) False))) (aA (decide (y13=1)) (aA (decide (W=0)) (a ([(.agg [(ic C),(ic D),(ic E),(ic F)])]:Ls)) (aA (decide (W=1)) (a ([(.agg [(ic G),(ic H),(ic I),(ic J)])]:Ls)) (aA (decide (W=2)) (a ([(.agg [(ic L),(ic M),(ic N),(ic O)])]:Ls)) False))) (aA (decide (y13=2)) (aA (decide (X=0)) (a ([(.agg [(ic C),(ic D),(ic E),(ic F)])]:Ls)) (aA (decide (X=1)) (a ([(.agg [(ic G),(ic H),(ic I),(ic J)])]:Ls)) (aA (decide (X=2)) (a ([(.agg [(ic L),(ic M),(ic N),(ic O)])]:Ls)) False))) False))) (jn (fun (K:Ls→Prop)=>(jn (fun (Q:Bool→Prop)=>(aA (decide (y13=0)) (a3 Y Z y0 y1 Q) (aA (decide (y13=1)) (a3 y2 y3 y4 y5 Q) (aA (decide (y13=2)) (a3 y6 y7 y8 y9 Q) False)))) (fun y15=>(aA y15 (aA (decide (y13=0)) (K ([(.agg [(ic Y),(ic Z),(ic y0),(ic y1)])]:Ls)) (aA (decide (y13=1)) (K ([(.agg [(ic y2),(ic y3),(ic y4),(ic y5)])]:Ls)) (aA (decide (y13=2)) (K ([(.agg [(ic y6),(ic y7),(ic y8),(ic y9)])]:Ls)) False))) (a4 ([]:Ls) (fun y16 _=>(aB (decide (0≤y13)) (aB (decide (y13<((y10:Nat):Int))) (aB (decide ((length b)=y11)) (aB (decide ((0+(y13.toNat))<(length b))) (lt (getD b (0+(y13.toNat)) .nils) (fun y18=>(aB (aE zD y18) (lt (i64.wrap (y13+1)) (fun y19=>(iJ a0 a1 a2 a3 a4 x0 n (set b (0+(y13.toNat)) (.data y16)) c d e f g h i j k l m o p q r s t u v w z A B C D E F G H I J L M N O P R S T U V W X Y Z y0 y1 y2 y3 y4 y5 y6 y7 y8 y9 y10 y11 y12 y19)))))))))))))))) (fun y15=>(aB (decide ((length y15)=(length y15))) (aB (decide ((0+(length y15))≤(length y15))) (a4 (take (length y15) y15) (fun y16 _=>(aB (decide (0≤y13)) (aB (decide (y13<((y10:Nat):Int))) (aB (decide ((length b)=y11)) (aB (decide ((0+(y13.toNat))<(length b))) (lt (getD b (0+(y13.toNat)) .nils) (fun y18=>(aB (aE zD y18) (vb (set b (0+(y13.toNat)) (.data y16)) y15)))))))))))))))))) (fun y14=>(jn (fun (y:Ls→Prop)=>(jn (fun (va:Bool→Prop)=>(aA (decide (y13=0)) (a3 Y Z y0 y1 va) (aA (decide (y13=1)) (a3 y2 y3 y4 y5 va) (aA (decide (y13=2)) (a3 y6 y7 y8 y9 va) False)))) (fun y15=>(aA y15 (aA (decide (y13=0)) (aB (decide ((length y14)=(length y14))) (aB (decide ((0+(length y14))≤(length y14))) (aB (!(decide (((0+(length y14))+1)≤(length y14)))) (aB (decide ((length y14)=(length y14))) (aB (decide ((((length y14)+1)+64)*(32+1)≤room)) (y (y14++([(.agg [(ic Y),(ic Z),(ic y0),(ic y1)])]:Ls)))))))) (aA (decide (y13=1)) (aB (decide ((length y14)=(length y14))) (aB (decide ((0+(length y14))≤(length y14))) (aB (!(decide (((0+(length y14))+1)≤(length y14)))) (aB (decide ((length y14)=(length y14))) (aB (decide ((((length y14)+1)+64)*(32+1)≤room)) (y (y14++([(.agg [(ic y2),(ic y3),(ic y4),(ic y5)])]:Ls)))))))) (aA (decide (y13=2)) (aB (decide ((length y14)=(length y14))) (aB (decide ((0+(length y14))≤(length y14))) (aB (!(decide (((0+(length y14))+1)≤(length y14)))) (aB (decide ((length y14)=(length y14))) (aB (decide ((((length y14)+1)+64)*(32+1)≤room)) (y (y14++([(.agg [(ic y6),(ic y7),(ic y8),(ic y9)])]:Ls)))))))) False))) (y y14))))) (fun y15=>(aB (decide ((length y15)=(length y15))) (aB (decide ((0+(length y15))≤(length y15))) (a4 (take (length y15) y15) (fun y16 _=>(aB (decide (0≤y13)) (aB (decide (y13<((y10:Nat):Int))) (aB (decide ((length b)=y11)) (aB (decide ((0+(y13.toNat))<(length b))) (lt (getD b (0+(y13.toNat)) .nils) (fun y18=>(aB (aE zD y18) (vb (set b (0+(y13.toNat)) (.data y16)) y15))))))))))))))))) (fun y14 _=>(lt (i64.wrap (y13+1)) (iJ a0 a1 a2 a3 a4 x0 n y14 c d e f g h i j k l m o p q r s t u v w z A B C D E F G H I J L M N O P R S T U V W X Y Z y0 y1 y2 y3 y4 y5 y6 y7 y8 y9 y10 y11 y12)))) (x0 b c d e f g h i j k l m o p q r s t u v w z A B C D E F G H I J L M N O P R S T U V W X Y Z y0 y1 y2 y3 y4 y5 y6 y7 y8 y9 y10 y11 y12 y13 false))
def Oq (a0:cX) (a1:Du) (a2:DB) (a3:bH) (a4:lK) (b:Ls) (K:Ls→aS (J4 (Ls→Int→Prop))):Prop:=
 (a0 b ([]:Ls) (fun c=>(aA (c !=0) (a0 b ([]:Ls) (fun d=>(K ([]:Ls) 0 0 0 0 0 0 0 0 0 0 0 0 0 0 0 0 0 0 0 0 ([]:Ls) d))) (a1 b ([]:Ls) 0 (fun d e f g h i j k l m o p q r s t u v w z A B C=>(jn (fun (a:Ls→Ls→Int→Int→Int→Int→Int→Int→Int→Int→Int→Int→Int→Int→Int→Prop)=>(jn (fun (x:Bool→Prop)=>(aA (C==0) (x (decide (q≥0))) (x false))) (fun D=>(aA D (a2 A B C d e f g h i j k l m o p q r s t u v w z (fun E F G H I J L M N O P R S T U=>(a S T U E F G H I J L M N O P R))) (a A B C 0 0 0 0 0 0 0 0 0 0 0 0))))) (fun D E F G H I J L M N O P R S T=>(aA (F !=0) (K ([]:Ls) 0 0 0 0 0 0 0 0 0 0 0 0 0 0 0 0 0 0 0 0 ([]:Ls) F) (∃ n:Nat,iJ a0 a1 a2 a3 a4 (fun U _ W _ _ _ _ _ _ _ _ _ _ _ _ _ _ _ _ _ _ _ _ _ y18 y19 y20 y21 y22 y23 y24 y25 y26 y27 y28 y29 y30 y31 y32 y33 y34 y35 y36 y37 _ _ _ _ _ _ _ _ _ _ _ _ y50 y51 _ _ _=>(aB (decide ((length U)=y51)) (aB (decide ((0+y50)≤y51)) (K (take y50 U) y18 y19 y20 y21 y22 y23 y24 y25 y26 y27 y28 y29 y30 y31 y32 y33 y34 y35 y36 y37 W 0)))) n ([(.data ([]:Ls)),(.data ([]:Ls)),(.data ([]:Ls))]:Ls) D E F 0 0 0 0 0 0 0 0 0 0 0 0 0 0 0 0 0 0 0 0 d e f g h i j k l m o p q r s t u v w z G H I J L M N O P R S T 3 3 3 0)))))))))
def Gz:NV:=Oq gK yaC gO yaB yaT
def yFG (Q:Qx):Ls→Ls→Ls→aS (aS (aS (J4 (Int→Nat→Nat→Nat→Int→Bool→Prop )))):=(fun b c d e f g h i j k l m o p q r s t u v w z A B C D E F G H I J L M N O P R S T U V W X Y Z y0 y1 y2 y3 y4 y5 y6 y7 y8 y9 y10 y11 y12 y13 y14=>Q (.exit 0) [(2,.box (.agg [.nils])),(3,.box (ga [f,g,h,i,j,k,l,m,o,p,q,r,s,t,u,v,w,z,A,B])),(6,.v (.ptr 0 1 0 0)),(7,.box (ga [C,D,E,F,G,H,I,J,L,M,N,O,P,R,S,T,U,V,W,X])),(8,.box (ga [Y,Z,y0,y1,y2,y3,y4,y5,y6,y7,y8,y9])),(9,.box (.agg [(.own 1 0 y10 y11 (some y12))])),(10,.v (ic y13)),(46,.v (.bool y14))] [⟨false,true,3,([(.agg [(.data c),(.data d),(ic e)])]:Ls)⟩,⟨false,true,1,b⟩])
def tq (a0:cX) (a1:Du) (a2:DB) (a3:bH) (a4:lK) (Q:Qx):List St:=[⟨(pS (hB false true 3 JH zV) (fX 2 (vA (lC oO lN)) (fX 3 dH (fV 6 cU (fX 7 dH (fX 8 iT (fX 9 (vA (lC (vO 1 (nK 0) nV nV nV) lN)) (fV 10 bL fN))))))) fN),fun n b c d e f g h i j k l m o p q r s t u v w z A B C D E F G H I J L M N O P R S T U V W X Y Z y0 y1 y2 y3 y4 y5 y6 y7 y8 y9 y10 y11 y12 y13=>iJ a0 a1 a2 a3 a4 (yFG Q) n e b c d f g h i j k l m o p q r s t u v w z A B C D E F G H I J L M N O P R S T U V W X Y Z y0 y1 y2 y3 y4 y5 y6 y7 y8 y9 y10 y11 y12 y13⟩]
def tu (a0:cX) (a1:Du) (a2:DB) (a3:bH) (a4:lK):LP:=fG [(45031100,tq a0 a1 a2 a3 a4)]
def XM (e:Es) (a0:cX) (a1:Du) (a2:DB) (a3:bH) (a4:lK):SE:=⟨(E e),ygn [(Mu,nW.pw a0),(Ik,CP.pw a3),(MN,CR.pw a4)],ygo [],tu a0 a1 a2 a3 a4,ymi [(MI,XH a1),(MJ,XK a2)]⟩
theorem tv (e:Es) (he:EG e):SEOk (bC (E e)) (XM e gK yaC gO yaB yaT):=xC (aK.uni _) ⟨(yIu e he),(lf e he),(mw e he),trivial⟩ trivial he.ok ⟨(yuy e he),(yts e he),trivial⟩
theorem yEe (e:Es) (a0 a1 a2 a3 a4):eC (XM e a0 a1 a2 a3 a4) 5 a TN true (tq a0 a1 a2 a3 a4):=fun _=>⟨fun _=>by kernel_rfl,fun _ _=>by kernel_rfl,trivial⟩
theorem yEf (e:Es) (he:EG e):cQ (bC (E e)) (tu gK yaC gO yaB yaT) [] 45031100 (.lG 45031100 TN):=fun _ _ _=>bU.stG (aK.uni _) (cL (tv e he) 5) (cF.no _ _) (aZ (by kernel_rfl)) (yEe e _ _ _ _ _ _)
theorem yL7 (e:Es) (a0 a1 a2 a3 a4):bN (XM e a0 a1 a2 a3 a4) 6 TM Gt (Oq a0 a1 a2 a3 a4):=fun _ _=>by kernel_rfl
theorem yL8 (e:Es) (he:EG e):bM (E e) (Gt.pw Gz) MO:=bO he (yL7 e _ _ _ _ _) (tv e he) bA.flat (cZ (l:=[(45031100,.lG 45031100 TN)]) ⟨yEf e he,trivial⟩ (by kernel_rfl))
set_option linter.unusedVariables false
theorem Ot (p0 p1 p2 p3 p4 p5:Int) (p6 p7 p8:Bool) (r0:Int) (h:∀ K:Int→Prop,K r0→yat p0 p1 p2 p3 p4 p5 p6 p7 p8 K) (K:Int→Prop):yat p0 p1 p2 p3 p4 p5 p6 p7 p8 K=K r0:=
 Aac ⟨fun k=>cE (XF [] fQ) (az:=[(.agg [(ic p0),(ic p1),(ic p2),(ic p3),(ic p4),(ic p5)]),(.agg [(.bool p6),(.bool p7),(.bool p8)])]) (x:=(ic r0)) (fun K' k'=>h (fun r0=>K' (ic r0)) k') (K:=fun x=>match x with | (ic r0)=>K r0 | _=>False) k,h K⟩
set_option maxHeartbeats 0
def XN (a0:NG) (a1 a2:NV) (a3 a4:xN) (b:Ls) (K:Bool→Prop):Prop:=
 (a0 b (fun c=>(aA c (K true) (a1 b (fun d e f g h i j k l m o p q r s t u v w z A B C=>(a2 b (fun D E F G H I J L M N O P R S T U V W X Y Z y0 y1=>(jn (fun (a:Bool→Prop)=>(a3 d D (fun y2=>(aA y2 (aA ((e==E)&&((f==F)&&((g==G)&&((h==H)&&((i==I)&&((j==J)&&((k==L)&&((l==M)&&((m==N)&&((o==O)&&((p==P)&&((q==R)&&((r==S)&&((s==T)&&((t==U)&&((u==V)&&((v==W)&&((w==X)&&((z==Y)&&((A==Z)&&true)))))))))))))))))))) (a4 B y0 (fun y3=>(aA y3 (a (C==y1)) (a false)))) (a false)) (a false))))) K))))))))
def Ou:NG:=XN Gb yhh Gz Bp Bn
def yyO (a0:NG) (a1 a2:NV) (a3 a4:xN):SE:=sE (E gI) [(LU,Jh.pw a0),(Mt,Gt.pw a1),(MO,Gt.pw a2),(MQ,Xd.pw a3),(MR,Gg.pw a4)] cG
theorem yyP (a0 a1 a2 a3 a4):bN (yyO a0 a1 a2 a3 a4) 6 dc Jh (XN a0 a1 a2 a3 a4):=fun _ _=>by kernel_rfl
theorem yyQ:bM (E gI) (Jh.pw Ou) QU:=bO kM (yyP _ _ _ _ _) (bK (aK.uni _) ⟨(km gI kM),yFF,(yL8 gI kM),(ni gI kM),(ld gI kM),trivial⟩ trivial kM.ok) bA.flat (aZ (by kernel_rfl))
def bE (n:Int):Prop:=-9223372036854775808≤n∧n≤9223372036854775807
def gL (n:Int):Prop:=0≤n∧n≤18446744073709551615
theorem oY (n:Int):u64.wrap n=n%18446744073709551616:=by simp only [IntKind.wrap,IntKind.signed,IntKind.bits,qI,kG,if_false];rfl
theorem ySO (n:Int):i64.wrap n=if n%18446744073709551616≥9223372036854775808 then n%18446744073709551616-18446744073709551616 else n%18446744073709551616:=by
 have e1:(2:Int) ^ 64=18446744073709551616:=rfl;have e2:(2:Int) ^ (64-1)=9223372036854775808:=rfl;simp only [IntKind.wrap,IntKind.signed,IntKind.bits,jU,e1,e2]
 by_cases h:n%18446744073709551616≥9223372036854775808<;>simp [h]
theorem aX {n:Int} (h:gL n):u64.wrap n=n:=by unfold gL at h;rw [oY];omega
theorem dP {n:Int} (h:bE n):i64.wrap n=n:=by unfold bE at h;rw [ySO];split<;>omega
theorem aY {x y:Prop}:aA true x y=x:=rfl
theorem aV {x y:Prop}:aA false x y=y:=rfl
theorem dI {x:Prop}:aB true x=x:=rfl
theorem Bu {p:Int} (h:bE p) (K:Int→Prop):CL p K=K (p.natAbs:Int):=by
 unfold bE at h;unfold CL TU
 by_cases hp:p<0
 ·have e:u64.wrap ((0:Int)-u64.wrap p)=(p.natAbs:Int):=by
   rw [oY,oY];omega
  rw [Os hp,aY,e]
 ·rw [Pn hp,aV,aX ⟨by omega,by omega⟩];congr 1;omega
theorem tw (x:Int→Int→Bool→Prop):∀ (n a b:Nat),b<n→II x n (a:Int) (b:Int)=x ((Nat.gcd a b:Nat):Int) 0 false
 | 0,a,b,h=>by omega
 | n+1,a,b,h=>by
  unfold II
  by_cases hb:b=0
  ·subst hb;simp [aA]
  ·have h1:(b:Int)>0:=by omega
   have h2:¬((b:Int)=0):=by omega
   rw [Os h1,aY,Pn h2,jT,dI];have e:Int.tmod (a:Int) (b:Int)=((a%b:Nat):Int):=by rw [Int.tmod_eq_emod_of_nonneg (by omega)];omega
   rw [e,tw x n b (a%b) (by have:=Nat.mod_lt a (show b>0 by omega);omega)];rw [wV a b,Nat.gcd_rec b a,wV]
theorem JR (a b:Nat) (K:Int→Prop) (h:K ((Nat.gcd a b:Nat):Int)):vH (a:Int) (b:Int) K:=by unfold vH TV;exact ⟨b+1,by rw [tw _ (b+1) a b (by omega)];exact h⟩
def RV (n d:Int):Prop:=1≤d∧d≤1000000000000000000∧-1000000000000000000≤n∧n≤1000000000000000000∧Nat.gcd n.natAbs d.natAbs=1
instance (n d:Int):Decidable (RV n d):=by unfold RV;infer_instance
def kP (n d:Int):Int:=if RV n d then 0 else 8
theorem XO {n d:Int} (hn:bE n) (hd:bE d) {K:Int→Prop} (h:K (kP n d)):rT n d K:=by
 unfold rT TY
 by_cases h1:d<1
 ·have e:kP n d=8:=Zv fun h=>by have:=h.1;omega
  rw [Os h1,aY,← e];exact h
 ·have hd':=hd;have hn':=hn;unfold bE at hd' hn';have ed:u64.wrap d=((d.natAbs:Nat):Int):=by rw [aX ⟨by omega,by omega⟩];omega
  rw [Pn h1,aV,Bu hn,ed]
  by_cases h2:((if ((d.natAbs:Nat):Int)>((n.natAbs:Nat):Int) then ((d.natAbs:Nat):Int) else ((n.natAbs:Nat):Int))>1000000000000000000)
  ·have e:kP n d=8:=Zv fun h=>by
    obtain ⟨a1,a2,a3,a4,_⟩:=h;revert h2;split<;>omega
   rw [Os h2,aY,← e];exact h
  ·rw [Pn h2,aV,Bu hn];refine JR _ _ _ ?_;have h3:0<Nat.gcd n.natAbs d.natAbs:=xX _ (by omega);have h4:d≤1000000000000000000∧-1000000000000000000≤n∧n≤1000000000000000000:=by
    revert h2;split<;>omega
   by_cases h5:((Nat.gcd n.natAbs d.natAbs:Nat):Int)>1
   ·have e:kP n d=8:=Zv fun h=>by have:=h.2.2.2.2;omega
    rw [Os h5,aY,← e];exact h
   ·have e:kP n d=0:=Tu ⟨by omega,h4.1,h4.2.1,h4.2.2,by omega⟩;rw [Pn h5,aV,← e];exact h
theorem Ad {p:Int} (h:gL p):u64.wrap (BitVec.ofInt u64.bits p&&&BitVec.ofInt u64.bits (4294967295:Int)).toNat=p%4294967296:=by
 unfold gL at h;have e1:(BitVec.ofInt 64 p).toNat=p.toNat:=by
  rw [BitVec.toNat_ofInt];omega
 have e2:(BitVec.ofInt 64 (4294967295:Int)).toNat=4294967295:=rfl;have e3:(BitVec.ofInt u64.bits p&&&BitVec.ofInt u64.bits (4294967295:Int)).toNat=p.toNat%4294967296:=by show (BitVec.ofInt 64 p&&&BitVec.ofInt 64 (4294967295:Int)).toNat=_;rw [BitVec.toNat_and,e1,e2];exact Nat.and_two_pow_sub_one_eq_mod p.toNat 32
 rw [e3,oY];omega
theorem tx (p:Int):Int.fdiv p 4294967296=p/4294967296:=by rw [Int.fdiv_eq_ediv_of_nonneg _ (by omega)]
theorem DE {a b:Int} (ha:gL a) (hb:gL b) (K:Int→Int→Prop):zJ a b K=K (a*b/18446744073709551616) (a*b%18446744073709551616):=by
 unfold zJ Uc;simp only [tx];rw [Ad ha,Ad hb];unfold gL at ha hb;have ha':=ha;have hb':=hb;obtain ⟨x1,hx1⟩:∃ x,x=a/4294967296:=⟨_,rfl⟩;obtain ⟨x0,hx0⟩:∃ x,x=a%4294967296:=⟨_,rfl⟩;obtain ⟨y1,hy1⟩:∃ x,x=b/4294967296:=⟨_,rfl⟩;obtain ⟨y0,hy0⟩:∃ x,x=b%4294967296:=⟨_,rfl⟩;rw [← hx1,← hx0,← hy1,← hy0];have b1:0≤x1∧x1≤4294967295:=by omega
 have b2:0≤x0∧x0≤4294967295:=by omega
 have b3:0≤y1∧y1≤4294967295:=by omega
 have b4:0≤y0∧y0≤4294967295:=by omega
 have pb:∀ x y:Int,0≤x∧x≤4294967295→0≤y∧y≤4294967295→0≤x*y∧x*y≤18446744065119617025:=by intro x y hx hy;refine ⟨lZ hx.1 hy.1,?_⟩;have:=mC hx.2 hy.2 hy.1 (by omega:(0:Int)≤4294967295);omega
 have p1:=pb x1 y1 b1 b3;have p2:=pb x1 y0 b1 b4;have p3:=pb x0 y1 b2 b3;have p4:=pb x0 y0 b2 b4;have ea:a=x1*4294967296+x0:=by omega
 have eb:b=y1*4294967296+y0:=by omega
 have eab:a*b=x1*y1*18446744073709551616+x1*y0*4294967296+x0*y1*4294967296+x0*y0:=by rw [ea,eb];grind
 obtain ⟨P,hP⟩:∃ x,x=x1*y1:=⟨_,rfl⟩;obtain ⟨Q,hQ⟩:∃ x,x=x1*y0:=⟨_,rfl⟩;obtain ⟨R,hR⟩:∃ x,x=x0*y1:=⟨_,rfl⟩;obtain ⟨S,hS⟩:∃ x,x=x0*y0:=⟨_,rfl⟩;rw [← hP] at p1;rw [← hQ] at p2;rw [← hR] at p3;rw [← hS] at p4;rw [← hP,← hQ,← hR,← hS] at eab ⊢;have w1:u64.wrap S=S:=aX ⟨by omega,by omega⟩;have w2:u64.wrap Q=Q:=aX ⟨by omega,by omega⟩;have w3:u64.wrap R=R:=aX ⟨by omega,by omega⟩;have w4:u64.wrap P=P:=aX ⟨by omega,by omega⟩;rw [w1,w2,w3,w4];have w5:u64.wrap (Q+S/4294967296)=Q+S/4294967296:=aX ⟨by omega,by omega⟩;rw [w5,Ad ⟨by omega,by omega⟩];have w6:u64.wrap ((Q+S/4294967296)%4294967296+R)=(Q+S/4294967296)%4294967296+R:=aX ⟨by omega,by omega⟩;rw [w6];have w7:u64.wrap (P+(Q+S/4294967296)/4294967296)=P+(Q+S/4294967296)/4294967296:=by
  have:a*b/18446744073709551616≤18446744073709551615:=by
   have h1:a*b≤18446744073709551615*18446744073709551615:=by have:=mC ha'.2 hb'.2 hb'.1 (by omega:(0:Int)≤18446744073709551615);exact this
   omega
  exact aX ⟨by omega,by omega⟩
 rw [w7];have hab:a*b≤18446744073709551615*18446744073709551615:=mC ha'.2 hb'.2 hb'.1 (by omega:(0:Int)≤18446744073709551615);rw [eab] at hab ⊢;rw [oY,oY];congr 1;omega
theorem ySe {a b:Int} {K:Int→Prop} (h:K (if a=0 then b else a)):Ng [.int .i64 a,.int .i64 b] K:=by
 unfold Ng TZ;refine ⟨3,?_⟩;have e1:i64.wrap 1=1:=by decide
 have e2:i64.wrap 2=2:=by decide
 by_cases ha:a=0
 ·by_cases hb:b=0
  ·simp [Fr,aY,aV,dI,aE,tJ,aC,e1,e2,ha,hb] at h ⊢;exact h
  ·have e3:(b !=0)=true:=by simpa using hb
   simp [Fr,aY,aV,dI,aE,tJ,aC,e1,e2,ha,e3] at h ⊢;exact h
 ·have e3:(a !=0)=true:=by simpa using ha
  simp [Fr,aY,aV,dI,aE,tJ,aC,e1,e2,ha,e3] at h ⊢;exact h
def cH (a b c d:Int):Int:=if kP a b=0 then kP c d else kP a b
theorem JS {a b c d:Int} (ha:bE a) (hb:bE b) (hc:bE c) (hd:bE d) {K:Int→Prop} (h:K (cH a b c d)):Bc a b c d K:=by unfold Bc Ub;exact XO ha hb (XO hc hd (ySe h))
def hK (a b:Int):Int:=if a<b then -1 else if a>b then 1 else 0
theorem yIv (a b:Int) (K:Int→Prop):Ni a b K=K (hK a b):=by
 unfold Ni Uj;simp only [Uh,Ug,bne_self_eq_false,aV,hK]
 by_cases h:a<b
 ·simp [h,aY]
 ·by_cases h2:a>b
  ·simp [h,h2,aY,aV]
  ·simp [h,h2,aV]
theorem tz (a b:Int) (K:Int→Prop):Nj a b K=K (hK a b):=by
 unfold Nj Un;simp only [Ul,Uk,bne_self_eq_false,aV,hK]
 by_cases h:a<b
 ·simp [h,aY]
 ·by_cases h2:a>b
  ·simp [h,h2,aY,aV]
  ·simp [h,h2,aV]
theorem yRa {a b:Int} {K:Int→Prop} (h:K (if a=0 then b else a)):Nk [.int .i64 a,.int .i64 b] K:=by
 unfold Nk Up;refine ⟨3,?_⟩;have e1:i64.wrap 1=1:=by decide
 have e2:i64.wrap 2=2:=by decide
 by_cases ha:a=0
 ·by_cases hb:b=0
  ·simp [Fv,aY,aV,dI,aE,tJ,aC,e1,e2,ha,hb] at h ⊢;exact h
  ·have e3:(b !=0)=true:=by simpa using hb
   simp [Fv,aY,aV,dI,aE,tJ,aC,e1,e2,ha,e3] at h ⊢;exact h
 ·have e3:(a !=0)=true:=by simpa using ha
  simp [Fv,aY,aV,dI,aE,tJ,aC,e1,e2,ha,e3] at h ⊢;exact h
theorem qQ {a b c d:Int}:cH a b c d=0↔RV a b∧RV c d:=by
 unfold cH kP
 by_cases h1:RV a b<;>by_cases h2:RV c d<;>simp [h1,h2]
def qC (a b c d:Int):Int:=hK (a*d) (c*b)
theorem yOn {x y:Int} (hx:0≤x) (hy:0≤y):(if hK (x/18446744073709551616) (y/18446744073709551616)=0 then hK (x%18446744073709551616) (y%18446744073709551616) else hK (x/18446744073709551616) (y/18446744073709551616))=hK x y:=by unfold hK;split<;>rename_i h<;>revert h<;>repeat' split<;>intro h<;>omega
theorem gL.abs {n:Int} (h:bE n):gL ((n.natAbs:Nat):Int):=by unfold bE at h;unfold gL;omega
theorem uc {a b c d:Int} (ha:bE a) (hb:bE b) (hc:bE c) (hd:bE d) {K:Int→Int→Prop} (h:K (if cH a b c d=0 then qC a b c d else 0) (cH a b c d)):rU a b c d K:=by
 unfold rU Ur;refine JS ha hb hc hd ?_
 by_cases hk:cH a b c d=0
 ·rw [Tu hk] at h;rw [hk] at h ⊢;obtain ⟨⟨b1,b2,a1,a2,_⟩,d1,d2,c1,c2,_⟩:=qQ.1 hk;simp only [bne_self_eq_false,aV]
  by_cases hs:decide (a<0)=decide (c<0)
  ·have e:(decide (a<0) !=decide (c<0))=false:=by rw [hs];simp
   rw [e,aV,Bu ha,aX ⟨by omega,by omega⟩,DE (gL.abs ha) ⟨by omega,by omega⟩,Bu hc,aX ⟨by omega,by omega⟩,DE (gL.abs hc) ⟨by omega,by omega⟩,tz,tz];refine yRa ?_;have p1:0≤((a.natAbs:Nat):Int)*d:=lZ (by omega) (by omega);have p2:0≤((c.natAbs:Nat):Int)*b:=lZ (by omega) (by omega);rw [yOn p1 p2]
   by_cases hneg:a<0
   ·have hcn:c<0:=by simpa [hneg] using hs.symm
    rw [Os hneg,aY];have e1:((a.natAbs:Nat):Int)*d=-(a*d):=by
     rw [show ((a.natAbs:Nat):Int)=-a by omega,AD]
    have e2:((c.natAbs:Nat):Int)*b=-(c*b):=by rw [show ((c.natAbs:Nat):Int)=-c by omega,AD]
    have e3:i64.wrap (0-hK (((a.natAbs:Nat):Int)*d) (((c.natAbs:Nat):Int)*b))=qC a b c d:=by
     rw [e1,e2];unfold qC hK;rw [dP (by unfold bE;repeat' split<;>omega)]
     repeat' split<;>omega
    rw [e3];exact h
   ·have hcn:¬c<0:=by simpa [hneg] using hs.symm
    rw [Pn hneg,aV,show ((a.natAbs:Nat):Int)=a by omega,show ((c.natAbs:Nat):Int)=c by omega];exact h
  ·have e:(decide (a<0) !=decide (c<0))=true:=by simpa using hs
   rw [e,aY,yIv];have e2:hK a c=qC a b c d:=by
    unfold qC hK
    by_cases hneg:a<0
    ·have hcn:¬c<0:=by intro hcn;simp [hneg,hcn] at hs
     have q1:a*d<0:=Eb hneg (by omega);have q2:0≤c*b:=lZ (by omega) (by omega);rw [Tu (by omega),Tu (by omega)]
    ·have hcn:c<0:=by
      by_cases hcn:c<0
      ·exact hcn
      ·simp [hneg,hcn] at hs
     have q1:c*b<0:=Eb hcn (by omega);have q2:0≤a*d:=lZ (by omega) (by omega);rw [Zv (by omega),Tu (by omega),Zv (by omega),Tu (by omega)]
   rw [e2];exact h
 ·rw [Zv hk] at h;have e:(cH a b c d !=0)=true:=by simpa using hk
  rw [e,aY];exact h
def blen (x:Nat):Nat:=if x=0 then 0 else x.log2+1
theorem ue (x:Nat):x<2 ^ blen x:=by
 unfold blen;split
 ·rename_i h;subst h;decide
 ·exact Nat.lt_log2_self
theorem Ov {x:Nat} (h:x≠0):2 ^ (blen x-1)≤x:=by unfold blen;rw [Zv h];exact Nat.log2_self_le h
theorem yRb {x m:Nat} (h1:2 ^ m≤x) (h2:x<2 ^ (m+1)):blen x=m+1:=by
 have hx:x≠0:=by have:=Nat.two_pow_pos m;omega
 unfold blen;rw [Zv hx];congr 1;have a:=Nat.log2_self_le hx;have b:=Nat.lt_log2_self (n:=x);have c1:¬(x.log2<m):=fun h=>by
  have:=GU (show 0<2 by omega) (show x.log2+1≤m by omega);omega
 have c2:¬(m<x.log2):=fun h=>by
  have:=GU (show 0<2 by omega) (show m+1≤x.log2 by omega);omega
 omega
theorem yPB {x k:Nat} (h:2 ^ k≤x):blen x=k+blen (x/2 ^ k):=by
 have hp:=Nat.two_pow_pos k;have hq:x/2 ^ k≠0:=by have:=Nat.div_pos h hp;omega
 have h1:=Ov hq;have h2:=ue (x/2 ^ k);obtain ⟨m,hm⟩:∃ m,blen (x/2 ^ k)=m+1:=⟨blen (x/2 ^ k)-1,by
  have:blen (x/2 ^ k)≠0:=by unfold blen;rw [Zv hq];omega
  omega⟩
 rw [hm] at h1 h2 ⊢;rw [Nat.add_sub_cancel] at h1;have:=yRb (x:=x) (m:=k+m) (by
   rw [Nat.pow_add]
   calc 2 ^ k*2 ^ m≤2 ^ k*(x/2 ^ k):=Nat.mul_le_mul_left _ h1
    _≤x:=Nat.mul_div_le _ _) (by
   rw [show k+m+1=k+(m+1) by omega,Nat.pow_add];rw [Nat.mul_comm];exact (Nat.div_lt_iff_lt_mul hp).1 h2)
 omega
theorem ySf:∀ x:Nat,x<256→aC (getD uW x .nils)=(blen x:Int):=by decide +kernel
theorem uf {n:Int} (h0:0≤n) (h1:n<256):u8.wrap n=n:=by have e1:(2:Int) ^ 8=256:=rfl;simp only [IntKind.wrap,IntKind.signed,IntKind.bits,qI,kG,if_false,e1];omega
theorem yRc {n:Int} (h0:0≤n) (h1:n<256):aC (getD uW (u8.wrap n).toNat .nils)=(blen n.toNat:Int):=by rw [uf h0 h1];exact ySf n.toNat (by omega)
theorem ySP {n:Nat} (h:n<256):blen n≤8:=by
 by_cases h0:n=0
 ·subst h0;decide
 ·have:=Ov h0;have h2:blen n-1<8:=by
   refine Nat.lt_of_not_le fun hc=>?_
   have:=GU (show 0<2 by omega) hc;omega
  omega
theorem Bv {n k:Int} (h0:0≤n) (h1:n<256) (hk:0≤k∧k≤56) {m:Int} (hm:m=k+blen n.toNat) {K:Int→Prop} (h:K m) :
  aB (decide ((0:Int)≤(u8.wrap n))) (aB (decide ((u8.wrap n)<(256:Int))) (K (i64.wrap (k+(i64.wrap (aC (getD uW ((u8.wrap n).toNat) .nils))))))):=by
 have hb:=ySP (n:=n.toNat) (by omega);have e1:i64.wrap (blen n.toNat:Int)=blen n.toNat:=dP (by unfold bE;omega);have e2:i64.wrap (k+blen n.toNat:Int)=k+blen n.toNat:=dP (by unfold bE;omega);rw [yRc h0 h1,uf h0 h1,Os h0,dI,Os h1,dI,e1,e2,← hm];exact h
theorem Bw (p q:Int) (hq:0≤q):Int.fdiv p q=p/q:=Int.fdiv_eq_ediv_of_nonneg _ hq
theorem yPC {p:Int} (hp:gL p) {K:Int→Prop} (h:K (blen p.toNat:Int)):Nl p K:=by
 unfold gL at hp;unfold Nl Us;simp only [Bw _ 4294967296 (by omega),Bw _ 65536 (by omega),Bw _ 256 (by omega)];have key:∀ (k:Nat) (q:Int),2 ^ k≤p.toNat→q=p/(2 ^ k:Nat)→(blen p.toNat:Int)=k+blen q.toNat:=by
  intro k q hk hq;have e:q.toNat=p.toNat/2 ^ k:=by
   rw [hq];obtain ⟨m,rfl⟩:∃ m:Nat,p=m:=⟨p.toNat,by omega⟩;rw [← mK,cP,cP]
  rw [e];have:=yPB hk;omega
 by_cases h1:p≥4294967296
 ·rw [Os h1,aY]
  by_cases h2:p/4294967296≥65536
  ·rw [Os h2,aY]
   by_cases h3:p/4294967296/65536≥256
   ·rw [Os h3,aY];exact Bv (by omega) (by omega) (by omega) (key 56 _ (by omega) (by omega)) h
   ·rw [Pn h3,aV];exact Bv (by omega) (by omega) (by omega) (key 48 _ (by omega) (by omega)) h
  ·rw [Pn h2,aV]
   by_cases h3:p/4294967296≥256
   ·rw [Os h3,aY];exact Bv (by omega) (by omega) (by omega) (key 40 _ (by omega) (by omega)) h
   ·rw [Pn h3,aV];exact Bv (by omega) (by omega) (by omega) (key 32 _ (by omega) (by omega)) h
 ·rw [Pn h1,aV]
  by_cases h2:p≥65536
  ·rw [Os h2,aY]
   by_cases h3:p/65536≥256
   ·rw [Os h3,aY];exact Bv (by omega) (by omega) (by omega) (key 24 _ (by omega) (by omega)) h
   ·rw [Pn h3,aV];exact Bv (by omega) (by omega) (by omega) (key 16 _ (by omega) (by omega)) h
  ·rw [Pn h2,aV]
   by_cases h3:p≥256
   ·rw [Os h3,aY];exact Bv (by omega) (by omega) (by omega) (key 8 _ (by omega) (by omega)) h
   ·rw [Pn h3,aV];exact Bv (by omega) (by omega) (by omega) (by simp) h
theorem yyS {p:Int} (hp:gL p) {K:Int→Prop} (h:K (64-blen p.toNat:Int)):Be p K:=by
 unfold Be Ut;refine yPC hp ?_;have hb:blen p.toNat≤64:=by
  unfold gL at hp
  by_cases h0:p.toNat=0
  ·rw [h0];decide
  ·have:=Ov h0;have h2:blen p.toNat-1<64:=by
    refine Nat.lt_of_not_le fun hc=>?_
    have:=GU (show 0<2 by omega) hc;omega
   omega
 rw [dP (by unfold bE;omega)];exact h
structure DI (y a b u un q r:Int):Prop where
 hy:y=a*4294967296+b
 h1:2147483648≤a∧a≤4294967295
 h0:0≤b∧b≤4294967295
 hn:0≤un∧un≤4294967295
 hu:q*a+r=u
 hq:0≤q∧q≤4294967297
 hr:0≤r∧r≤4294967295
 hlt:u<y
 hU:u*4294967296+un<(q+1)*y
def DG (y u un q:Int):Prop:=0≤q∧q≤4294967295∧q*y≤u*4294967296+un∧u*4294967296+un<(q+1)*y
theorem DI.step {y a b u un q r:Int} (h:DI y a b u un q r) {A B C:Prop}
  (hA:DG y u un (q-1)→0≤q-1→q-1≤4294967296→A)
  (hB:DI y a b u un (q-1) (r+a)→B)
  (hC:DG y u un q→C) :
  aA (decide (q≥(4294967296:Int)))
   (aA (decide ((u64.wrap (r+a))≥(4294967296:Int))) A B)
   (aA (decide ((u64.wrap (q*b))>(u64.wrap ((u64.wrap ((4294967296:Int)*r))+un))))
    (aA (decide ((u64.wrap (r+a))≥(4294967296:Int))) A B) C):=by
 have h':=h;obtain ⟨hy,h1,h0,hn,hu,hq,hr,hlt,hU⟩:=h;have e1:u64.wrap (r+a)=r+a:=aX ⟨by omega,by omega⟩;have eq1:q*y=q*a*4294967296+q*b:=by rw [hy];grind
 have eq2:(q-1)*y=q*y-y:=by grind
 have eq3:(q-1)*a=q*a-a:=by grind
 have eq4:(q-1+1)*y=q*y:=by grind
 have eq5:(q-1)*b=q*b-b:=by grind
 have big:u*4294967296+un<q*y→aA (decide ((u64.wrap (r+a))≥(4294967296:Int))) A B:=by
  intro hb;have q1:0≤q-1:=by
   refine Int.not_lt.1 fun hc=>?_
   have hq0:q=0:=by omega
   subst hq0;simp at hb hu;omega
  rw [e1]
  by_cases hc:r+a≥4294967296
  ·rw [Os hc,aY];have hp:(q-1)*b≤4294967296*4294967295:=mC (by omega) h0.2 h0.1 (by omega);have hle:(q-1)*y≤u*4294967296+un:=by
    have:(q-1)*y=(q-1)*a*4294967296+(q-1)*b:=by rw [hy];grind
    omega
   have hlt32:q-1≤4294967295:=by
    refine Int.not_lt.1 fun hc=>?_
    have:4294967296*y≤(q-1)*y:=BJ (by omega) (by omega);omega
   exact hA ⟨q1,hlt32,hle,by rw [eq4];exact hb⟩ q1 (by omega)
  ·rw [Pn hc,aV];exact hB ⟨hy,h1,h0,hn,by rw [eq3];omega,⟨q1,by omega⟩,⟨by omega,by omega⟩,hlt,by rw [eq4];exact hb⟩
 by_cases ha:q≥4294967296
 ·rw [Os ha,aY];refine big ?_;have:4294967296*y≤q*y:=BJ (by omega) (by omega);omega
 ·rw [Pn ha,aV];have hp:q*b≤4294967295*4294967295:=mC (by omega) h0.2 h0.1 (by omega);have hp0:0≤q*b:=lZ hq.1 h0.1;have w1:u64.wrap (q*b)=q*b:=aX ⟨hp0,by omega⟩;have w2:u64.wrap ((4294967296:Int)*r)=4294967296*r:=aX ⟨by omega,by omega⟩;have w3:u64.wrap ((4294967296:Int)*r+un)=4294967296*r+un:=aX ⟨by omega,by omega⟩;rw [w1,w2,w3]
  by_cases hb:q*b>4294967296*r+un
  ·rw [Os hb,aY];exact big (by omega)
  ·rw [Pn hb,aV];exact hC ⟨hq.1,by omega,by omega,hU⟩
theorem ySQ (W:Int→(Int→Prop)→Prop) {y a c u un:Int} (s v un0:Int) {x0 x1:Int→Int→Int→Int→Int→Int→Int→Int→Int→Bool→Prop}
  (hx:∀ q r b,DG y u un q→x0 y s a c v un un0 q r b) (hx1:∀ q r b,DG y u un q→x1 y s a c v un un0 q r b) :
  ∀ (n:Nat) (q r:Int) (b:Bool),DI y a c u un q r→4294967296≤r+n*2147483648→Bf W x0 x1 (n+1) y s a c v un un0 q r b:=by
 intro n;induction n with
 | zero =>intro q r b h hn;have:=h.hr.2;exact absurd hn (by omega)
 | succ n ih=>
  intro q r b h hn;unfold Bf;refine h.step (fun g a1 a2=>?_) (fun g=>?_) (fun g=>hx1 _ _ _ g)
  ·rw [aX (n:=q-1) ⟨by omega,by omega⟩];exact hx _ _ _ g
  ·have e1:u64.wrap (q-1)=q-1:=aX ⟨g.hq.1,by have:=g.hq.2;omega⟩;have e2:u64.wrap (r+a)=r+a:=aX ⟨g.hr.1,by have:=g.hr.2;omega⟩;rw [e1,e2];exact ih _ _ _ g (by have:=h.h1.1;omega)
theorem ySR (W:Int→(Int→Prop)→Prop) {y a c u un:Int} (s q1 v:Int) {x0 x1:Int→Int→Int→Int→Int→Int→Int→Int→Int→Bool→Prop}
  (hx:∀ q r b,DG y u un q→x0 y s a c un q1 r v q b) (hx1:∀ q r b,DG y u un q→x1 y s a c un q1 r v q b) :
  ∀ (n:Nat) (q r:Int) (b:Bool),DI y a c u un q r→4294967296≤r+n*2147483648→Bg W x0 x1 (n+1) y s a c un q1 r v q b:=by
 intro n;induction n with
 | zero =>intro q r b h hn;have:=h.hr.2;exact absurd hn (by omega)
 | succ n ih=>
  intro q r b h hn;unfold Bg;refine h.step (fun g a1 a2=>?_) (fun g=>?_) (fun g=>hx1 _ _ _ g)
  ·rw [aX (n:=q-1) ⟨by omega,by omega⟩];exact hx _ _ _ g
  ·have e1:u64.wrap (q-1)=q-1:=aX ⟨g.hq.1,by have:=g.hq.2;omega⟩;have e2:u64.wrap (r+a)=r+a:=aX ⟨g.hr.1,by have:=g.hr.2;omega⟩;rw [e1,e2];exact ih _ _ _ g (by have:=h.h1.1;omega)
theorem ySg (W:Int→(Int→Prop)→Prop) {y a c u un:Int} (s v un0:Int) {x0 x1:Int→Int→Int→Int→Int→Int→Int→Int→Int→Bool→Prop}
  (hx:∀ q r b,DG y u un q→x0 y s a c v un un0 q r b) (hx1:∀ q r b,DG y u un q→x1 y s a c v un un0 q r b) (q r:Int) (h:DI y a c u un q r):Nm W x0 x1 3 y s a c v un un0 q r:=by
 have:=ySQ W s v un0 hx hx1 2 q r true h (by have:=h.hr.1;omega);unfold Bf at this;unfold Nm;exact this
theorem ySh (W:Int→(Int→Prop)→Prop) {y a c u un:Int} (s q1 v:Int) {x0 x1:Int→Int→Int→Int→Int→Int→Int→Int→Int→Bool→Prop}
  (hx:∀ q r b,DG y u un q→x0 y s a c un q1 r v q b) (hx1:∀ q r b,DG y u un q→x1 y s a c un q1 r v q b) (q r:Int) (h:DI y a c u un q r):Fy W x0 x1 3 y s a c un q1 r v q:=by
 have:=ySR W s q1 v hx hx1 2 q r true h (by have:=h.hr.1;omega);unfold Bg at this;unfold Fy;exact this
theorem DI.init {y a b u un:Int} (hy:y=a*4294967296+b) (h1:2147483648≤a∧a≤4294967295) (h0:0≤b∧b≤4294967295) (hn:0≤un∧un≤4294967295)
  (hu:0≤u) (hlt:u<y):DI y a b u un (u/a) (u-u/a*a):=by
 have a1:=Int.mul_ediv_add_emod u a;have a2:=Ei u (show a≠0 by omega);have a3:=Ef u (show 0<a by omega);have a4:u/a*a=a*(u/a):=Int.mul_comm _ _;have a5:0≤u/a:=wQ hu (by omega);have a6:u/a≤4294967297:=by
  refine Int.not_lt.1 fun hc=>?_
  have:a*4294967298≤a*(u/a):=Int.mul_le_mul_of_nonneg_left (by omega) (by omega);omega
 refine ⟨hy,h1,h0,hn,by omega,⟨a5,a6⟩,⟨by omega,by omega⟩,hlt,?_⟩;have e:(u/a+1)*y=a*(u/a)*4294967296+a*4294967296+(u/a+1)*b:=by
  obtain ⟨t,ht⟩:∃ t,t=u/a:=⟨_,rfl⟩;rw [← ht,hy];grind
 have:0≤(u/a+1)*b:=lZ (by omega) h0.1;omega
theorem XP {a b:Int} {k:Nat} (ha:0≤a) (hb:0≤b∧b<2 ^ k) (hab:a*2 ^ k≤18446744073709551615∧b≤18446744073709551615) (hs:a*2 ^ k+b≤18446744073709551615) :
  u64.wrap (BitVec.ofInt u64.bits (a*2 ^ k)|||BitVec.ofInt u64.bits b).toNat=a*2 ^ k+b:=by
 obtain ⟨x,rfl⟩:∃ x:Nat,a=x:=⟨a.toNat,by omega⟩;obtain ⟨z,rfl⟩:∃ z:Nat,b=z:=⟨b.toNat,by omega⟩;have ec:((x:Int)*2 ^ k)=((2 ^ k*x:Nat):Int):=by push_cast;exact Int.mul_comm _ _
 rw [ec] at hab hs ⊢;have hz:z<2 ^ k:=by have:=hb.2;exact_mod_cast this
 have e:(BitVec.ofInt u64.bits ((2 ^ k*x:Nat):Int)|||BitVec.ofInt u64.bits (z:Int)).toNat=2 ^ k*x+z:=by
  show (BitVec.ofInt 64 ((2 ^ k*x:Nat):Int)|||BitVec.ofInt 64 (z:Int)).toNat=_;rw [BitVec.toNat_or,BitVec.toNat_ofInt,BitVec.toNat_ofInt];have e1:(((2 ^ k*x:Nat):Int)%(2 ^ 64:Nat)).toNat=2 ^ k*x:=by omega
  have e2:((z:Int)%(2 ^ 64:Nat)).toNat=z:=by omega
  rw [e1,e2,Nat.two_pow_add_eq_or_of_lt hz]
 rw [e,aX ⟨by omega,by omega⟩]
 push_cast;rfl
theorem ug {u un q y:Int} (h0:0≤u*4294967296+un-q*y) (h1:u*4294967296+un-q*y≤18446744073709551615) :
  u64.wrap (u64.wrap (u64.wrap (u*4294967296)+un)-u64.wrap (q*y))=u*4294967296+un-q*y:=by
 simp only [oY];omega
theorem wB {a b:Int} (h:0≤a):Int.tdiv a b=a/b:=Int.tdiv_eq_ediv_of_nonneg h
theorem uh {a b:Int} (h:0≤a):Int.tmod a b=a%b:=Int.tmod_eq_emod_of_nonneg h
theorem ui {h l y:Int} (hh:gL h) (hl:gL l) (hy:gL y) (hlt:h<y) {K:Int→Int→Prop}
  (k:K ((h*18446744073709551616+l)/y) ((h*18446744073709551616+l)%y)):Bh h l y K:=by
 unfold gL at hh hl hy;unfold Bh Uu;have b1:(y ==(0:Int))=false:=beq_eq_false_iff_ne.2 (by omega);have b2:decide (y≤h)=false:=Pn (by omega);have b3:(!(decide (y=(0:Int))))=true:=by rw [Pn (by omega)];rfl
 rw [b1,aV,b2,aV,b3]
 by_cases h0:h=0
 ·subst h0;have:((0:Int)==0)=true:=rfl;rw [this,aY,dI,dI,wB hl.1,uh hl.1];have e:(0:Int)*18446744073709551616+l=l:=by omega
  rw [e] at k;have b4:l/y≤l:=Ay _ hl.1;rw [aX ⟨wQ hl.1 (by omega),by omega⟩];exact k
 ·have b4:(h ==(0:Int))=false:=beq_eq_false_iff_ne.2 h0;rw [b4,aV];refine yyS ⟨by omega,by omega⟩ ?_;have hyn:y.toNat≠0:=by omega
  have c1:=ue y.toNat
  have c2:=Ov hyn;have c3:blen y.toNat≤64:=by
   refine Nat.le_of_not_lt fun hc=>?_
   have:=GU (show 0<2 by omega) (show 64≤blen y.toNat-1 by omega);omega
  have c4:1≤blen y.toNat:=by
   refine Nat.le_of_not_lt fun hc=>?_
   have:blen y.toNat=0:=by omega
   rw [this] at c1;omega
  obtain ⟨m,hm⟩:∃ m,m=64-blen y.toNat:=⟨_,rfl⟩;have es:(64-(blen y.toNat:Int))=(m:Int):=by omega
  rw [es];have m63:m≤63:=by omega
  have e1:u64.wrap (m:Int)=m:=aX ⟨by omega,by omega⟩;have e2:u64.wrap ((64:Int)-m)=((64-m:Nat):Int):=by rw [aX ⟨by omega,by omega⟩];omega
  have e3:min ((m:Int)).toNat u64.bits=m:=by show min ((m:Int)).toNat 64=m;rw [cP];omega
  have e4:min (((64-m:Nat):Int)).toNat u64.bits=64-m:=by show min (((64-m:Nat):Int)).toNat 64=64-m;rw [cP];omega
  simp only [e1];rw [e2,e3,e4];have p64:(2:Int) ^ (64-m)*2 ^ m=18446744073709551616:=by
   rw [← Int.pow_add,show 64-m+m=64 by omega];rfl
  have p63:(2:Int) ^ (63-m)*2 ^ m=9223372036854775808:=by rw [← Int.pow_add,show 63-m+m=63 by omega];rfl
  have tp:(0:Int)<2 ^ m:=Int.pow_pos (by omega);have tp':(0:Int)<2 ^ (64-m):=Int.pow_pos (by omega);have y1:y<(2:Int) ^ (64-m):=by
   have:blen y.toNat=64-m:=by omega
   rw [this] at c1;have c1':((y.toNat:Nat):Int)<((2 ^ (64-m):Nat):Int):=by exact_mod_cast c1
   push_cast at c1'
   omega
  have y2:(2:Int) ^ (63-m)≤y:=by
   have:blen y.toNat-1=63-m:=by omega
   rw [this] at c2;have c2':((2 ^ (63-m):Nat):Int)≤((y.toNat:Nat):Int):=by exact_mod_cast c2
   push_cast at c2'
   omega
  have Y1:y*2 ^ m<18446744073709551616:=by have:=Int.mul_lt_mul_of_pos_right y1 tp;omega
  have Y2:9223372036854775808≤y*2 ^ m:=by have:=BJ y2 (show (0:Int)≤2 ^ m by omega);omega
  have H1:(h+1)*2 ^ m≤y*2 ^ m:=BJ (by omega) (by omega);have H2:(h+1)*2 ^ m=h*2 ^ m+2 ^ m:=by grind
  have H0:0≤h*2 ^ m:=lZ hh.1 (by omega);have fd:Int.fdiv l (2 ^ (64-m))=l/2 ^ (64-m):=Bw _ _ (by omega);have L1:=Int.mul_ediv_add_emod l (2 ^ (64-m));have L2:=Ei l (show (2:Int) ^ (64-m)≠0 by omega);have L3:=Ef l tp';have L4:0≤l/2 ^ (64-m):=wQ hl.1 (by omega);have L5:l/2 ^ (64-m)<2 ^ m:=by refine Int.ediv_lt_of_lt_mul tp' ?_;rw [Int.mul_comm,p64];omega
  have w1:u64.wrap (y*2 ^ m)=y*2 ^ m:=aX ⟨by omega,by omega⟩;have w2:u64.wrap (h*2 ^ m)=h*2 ^ m:=aX ⟨by omega,by omega⟩;have w3:u64.wrap (BitVec.ofInt u64.bits (h*2 ^ m)|||BitVec.ofInt u64.bits (l/2 ^ (64-m))).toNat=h*2 ^ m+l/2 ^ (64-m):=
   XP hh.1 ⟨L4,L5⟩ ⟨by omega,by omega⟩ (by omega)
  have w4:u64.wrap (l*2 ^ m)=l%2 ^ (64-m)*2 ^ m:=by
   have e:l*2 ^ m=(l/2 ^ (64-m))*18446744073709551616+l%2 ^ (64-m)*2 ^ m:=by rw [← p64];obtain ⟨a,ha⟩:∃ a,a=l/2 ^ (64-m):=⟨_,rfl⟩;obtain ⟨b,hb⟩:∃ b,b=l%2 ^ (64-m):=⟨_,rfl⟩;obtain ⟨t,ht⟩:∃ t,t=(2:Int) ^ m:=⟨_,rfl⟩;obtain ⟨t',ht'⟩:∃ t,t=(2:Int) ^ (64-m):=⟨_,rfl⟩;rw [← ha,← hb,← ht'] at L1;rw [← ha,← hb,← ht,← ht'];rw [← L1];grind
   have e5:l%2 ^ (64-m)*2 ^ m<18446744073709551616:=by rw [← p64];exact Int.mul_lt_mul_of_pos_right L3 tp
   have e6:0≤l%2 ^ (64-m)*2 ^ m:=lZ L2 (by omega);rw [e,oY];omega
  have e5:l%2 ^ (64-m)*2 ^ m<18446744073709551616:=by rw [← p64];exact Int.mul_lt_mul_of_pos_right L3 tp
  have e6:0≤l%2 ^ (64-m)*2 ^ m:=lZ L2 (by omega);have eN:(h*18446744073709551616+l)*2 ^ m=(h*2 ^ m+l/2 ^ (64-m))*18446744073709551616+l%2 ^ (64-m)*2 ^ m:=by rw [← p64];obtain ⟨a,ha⟩:∃ a,a=l/2 ^ (64-m):=⟨_,rfl⟩;obtain ⟨b,hb⟩:∃ b,b=l%2 ^ (64-m):=⟨_,rfl⟩;obtain ⟨t,ht⟩:∃ t,t=(2:Int) ^ m:=⟨_,rfl⟩;obtain ⟨t',ht'⟩:∃ t,t=(2:Int) ^ (64-m):=⟨_,rfl⟩;rw [← ha,← hb,← ht'] at L1;rw [← ha,← hb,← ht,← ht'];rw [← L1];grind
  have U1:h*2 ^ m+l/2 ^ (64-m)<y*2 ^ m:=by omega
  have U0:0≤h*2 ^ m+l/2 ^ (64-m):=by omega
  rw [fd,w1,w2,w3,w4];have b5:(!(decide ((m:Int)<0)))=true:=by rw [Pn (by omega)];rfl
  have b6:(!(decide (((64-m:Nat):Int)<0)))=true:=by rw [Pn (by omega)];rfl
  rw [b5,b6,dI,dI,dI,dI];generalize h*2 ^ m+l/2 ^ (64-m)=u at *
  generalize hl0:l%2 ^ (64-m)*2 ^ m=v at *
  generalize hY:y*2 ^ m=Y at *
  rw [Bw Y _ (by omega),Bw v _ (by omega),Ad ⟨by omega,by omega⟩,Ad ⟨by omega,by omega⟩,wB U0];have b7:(!(decide (Y/4294967296=(0:Int))))=true:=by rw [Pn (by omega)];rfl
  rw [b7,dI];obtain ⟨c,hyn1⟩:∃ a,a=Y/4294967296:=⟨_,rfl⟩;obtain ⟨d,hyn0⟩:∃ a,a=Y%4294967296:=⟨_,rfl⟩;obtain ⟨un1,hun1⟩:∃ a,a=v/4294967296:=⟨_,rfl⟩;obtain ⟨un0,hun0⟩:∃ a,a=v%4294967296:=⟨_,rfl⟩;rw [← hyn1,← hyn0,← hun1,← hun0];have d1:2147483648≤c∧c≤4294967295:=by omega
  have d0:0≤d∧d≤4294967295:=by omega
  have dn1:0≤un1∧un1≤4294967295:=by omega
  have dn0:0≤un0∧un0≤4294967295:=by omega
  have dY:Y=c*4294967296+d:=by omega
  have g1:=DI.init dY d1 d0 dn1 U0 U1;have x1:u64.wrap (u/c)=u/c:=aX ⟨g1.hq.1,by have:=g1.hq.2;omega⟩;have x2:u64.wrap (u-u64.wrap (u/c*c))=u-u/c*c:=by have r1:=g1.hr.1;have r2:0≤u/c*c:=lZ g1.hq.1 (by omega);have r3:=g1.hr.2;rw [aX (n:=u/c*c) ⟨r2,by omega⟩,aX ⟨r1,by omega⟩]
  rw [x1,x2];have fin:∀ q1:Int,DG Y u un1 q1→∀ (un21:Int),un21=u*4294967296+un1-q1*Y→∀ q0,DG Y un21 un0 q0 →
    K (u64.wrap ((u64.wrap (q1*(4294967296:Int)))+q0)) (Int.fdiv (u64.wrap ((u64.wrap ((u64.wrap (un21*(4294967296:Int)))+un0))-(u64.wrap (q0*Y)))) (2 ^ (min ((m:Int)).toNat u64.bits))):=by
   intro q1 G1 un21 e21 q0 G0;obtain ⟨a1,a2,a3,a4⟩:=G1;obtain ⟨c1,c2,c3,c4⟩:=G0;have s1:(q1+1)*Y=q1*Y+Y:=by grind
   have s0:(q0+1)*Y=q0*Y+Y:=by grind
   have w5:u64.wrap (q1*4294967296)=q1*4294967296:=aX ⟨by omega,by omega⟩;have w6:u64.wrap (q1*4294967296+q0)=q1*4294967296+q0:=aX ⟨by omega,by omega⟩;rw [ug (by omega) (by omega),w5,w6,e3,Bw _ _ (by omega)];have eT:un21*4294967296+un0-q0*Y=(h*18446744073709551616+l-(q1*4294967296+q0)*y)*2 ^ m:=by
    have f1:(q1*4294967296+q0)*Y=q1*Y*4294967296+q0*Y:=by grind
    have f2:(h*18446744073709551616+l-(q1*4294967296+q0)*y)*2 ^ m=(h*18446744073709551616+l)*2 ^ m-(q1*4294967296+q0)*Y:=by rw [← hY,Int.sub_mul,Int.mul_assoc (q1*4294967296+q0)]
    rw [f2,f1,eN];omega
   rw [eT,Int.mul_ediv_cancel _ (by omega)];have r0:0≤h*18446744073709551616+l-(q1*4294967296+q0)*y:=by
    refine Int.not_lt.1 fun hc=>?_
    have:=Eb hc tp;omega
   have r1:h*18446744073709551616+l-(q1*4294967296+q0)*y<y:=by
    refine Int.not_le.1 fun hc=>?_
    have:=BJ hc (show (0:Int)≤2 ^ m by omega);omega
   obtain ⟨Q,hQ⟩:∃ Q,Q=q1*4294967296+q0:=⟨_,rfl⟩;rw [← hQ] at r0 r1 ⊢;have z1:(h*18446744073709551616+l)/y=Q:=by
    have:h*18446744073709551616+l=(h*18446744073709551616+l-Q*y)+Q*y:=by omega
    rw [this,Int.add_mul_ediv_right _ _ (by omega),Int.ediv_eq_zero_of_lt r0 r1];omega
   have z2:(h*18446744073709551616+l)%y=h*18446744073709551616+l-Q*y:=by have:=Int.mul_ediv_add_emod (h*18446744073709551616+l) y;rw [z1,Int.mul_comm] at this;omega
   rw [z1,z2] at k;exact k
  have mid:∀ q:Int,DG Y u un1 q→∀ (X:Int→Int→Int→Int→Int→Int→Int→Int→Int→Bool→Prop),(∀ q0 r0 b0,DG Y (u*4294967296+un1-q*Y) un0 q0→X Y m c d un0 q r0 (u*4294967296+un1-q*Y) q0 b0) →
    aB (!(decide (c=(0:Int)))) (∃ n:Nat,Fy Be X X n Y m c d un0 q ((u64.wrap ((u64.wrap ((u64.wrap ((u64.wrap (u*(4294967296:Int)))+un1))-(u64.wrap (q*Y))))-(u64.wrap ((u64.wrap (Int.tdiv (u64.wrap ((u64.wrap ((u64.wrap (u*(4294967296:Int)))+un1))-(u64.wrap (q*Y)))) c))*c))))) (u64.wrap ((u64.wrap ((u64.wrap (u*(4294967296:Int)))+un1))-(u64.wrap (q*Y)))) (u64.wrap (Int.tdiv (u64.wrap ((u64.wrap ((u64.wrap (u*(4294967296:Int)))+un1))-(u64.wrap (q*Y)))) c))):=by
   intro q G X hX;obtain ⟨a1,a2,a3,a4⟩:=G;have s1:(q+1)*Y=q*Y+Y:=by grind
   have b8:(!(decide (c=(0:Int))))=true:=by rw [Pn (by omega)];rfl
   rw [b8,dI,ug (by omega) (by omega),wB (by omega)];have g0:=DI.init dY d1 d0 dn0 (u:=u*4294967296+un1-q*Y) (by omega) (by omega);generalize u*4294967296+un1-q*Y=u2 at *
   have x1:u64.wrap (u2/c)=u2/c:=aX ⟨g0.hq.1,by have:=g0.hq.2;omega⟩;have x2:u64.wrap (u2-u64.wrap (u2/c*c))=u2-u2/c*c:=by have r1:=g0.hr.1;have r2:0≤u2/c*c:=lZ g0.hq.1 (by omega);have r3:=g0.hr.2;have r4:=g0.hlt;rw [aX (n:=u2/c*c) ⟨r2,by omega⟩,aX ⟨r1,by omega⟩]
   rw [x1,x2];exact ⟨3,ySh _ _ _ _ (fun q0 r0 b0 g=>hX q0 r0 b0 g) (fun q0 r0 b0 g=>hX q0 r0 b0 g) _ _ g0⟩
  have leaf:∀ {P:Prop},P→aB (!(decide ((m:Int)<0))) P:=fun p=>by rw [b5,dI];exact p
  refine ⟨3,ySg _ _ _ _ (fun q r b G=>?_) (fun q r b G=>?_) _ _ g1⟩
  ·exact mid q G _ (fun q0 r0 b0 G0=>leaf (fin q G _ rfl q0 G0))
  ·exact mid q G _ (fun q0 r0 b0 G0=>leaf (fin q G _ rfl q0 G0))
theorem yPE {h l y:Int} (hh:gL h) (hl:gL l) (hy:gL y) (h0:0<y) {K:Int→Prop}
  (k:K ((h*18446744073709551616+l)%y)):CM h l y K:=by
 unfold CM Uy;have b3:(!(decide (y=(0:Int))))=true:=by rw [Pn (by omega)];rfl
 have a1:=Ei h (show y≠0 by omega);have a2:=Ef h h0;have hh':=hh;unfold gL at hh hy;rw [b3,dI,uh hh.1];refine ui ⟨a1,by omega⟩ hl ⟨by omega,by omega⟩ a2 ?_;have e:(h%y*18446744073709551616+l)%y=(h*18446744073709551616+l)%y:=by rw [Int.add_emod,Int.mul_emod,Int.emod_emod,← Int.mul_emod,← Int.add_emod]
 rw [e];exact k
def gC (s:Bool) (a b:Int) (K:Int→Int→Int→Prop):Prop:=
 if a≤1000000000000000000∧b≤1000000000000000000 then K (if s then -a else a) b 0 else K 0 0 16
theorem XQ {s:Bool} {a b:Int} (ha:0≤a) (hb:0≤b) (K:Int→Int→Int→Prop):Bd s a b K=gC s a b K:=by
 unfold Bd Ue gC
 by_cases h:a≤1000000000000000000∧b≤1000000000000000000
 ·have e:decide ((if b>a then b else a)>(1000000000000000000:Int))=false:=by
   refine Pn ?_;split<;>omega
  have w1:i64.wrap a=a:=dP ⟨by omega,by omega⟩;have w2:i64.wrap b=b:=dP ⟨by omega,by omega⟩;have w3:i64.wrap (0-a)=-a:=by rw [dP ⟨by omega,by omega⟩];omega
  rw [e,aV,Tu h,w1,w2,w3]
  cases s
  ·rfl
  ·rfl
 ·have e:decide ((if b>a then b else a)>(1000000000000000000:Int))=true:=by
   refine Os ?_;split<;>omega
  rw [e,aY,Zv h]
def iV (a c:Int) (b d:Int):Nat:=(a.natAbs/Nat.gcd a.natAbs d.natAbs)*(c.natAbs/Nat.gcd c.natAbs b.natAbs)
def lD (a c:Int) (b d:Int):Nat:=(b.natAbs/Nat.gcd c.natAbs b.natAbs)*(d.natAbs/Nat.gcd a.natAbs d.natAbs)
theorem XS {a b c d:Int} (ha:bE a) (hb:bE b) (hc:bE c) (hd:bE d) {K:Int→Int→Int→Prop}
  (k:if cH a b c d=0 then gC (decide (a<0) !=decide (c<0)) (iV a c b d) (lD a c b d) K else K 0 0 (cH a b c d)):ybF a b c d K:=by
 unfold ybF Uf;refine JS ha hb hc hd ?_
 by_cases h:cH a b c d=0
 ·rw [Tu h] at k;have:(cH a b c d !=(0:Int))=false:=by rw [h];rfl
  rw [this,aV,Bu ha,Bu hc];obtain ⟨⟨b1,b2,a1,a2,_⟩,d1,d2,c1,c2,_⟩:=qQ.1 h;have wb:u64.wrap b=((b.natAbs:Nat):Int):=by rw [aX ⟨by omega,by omega⟩];omega
  have wd:u64.wrap d=((d.natAbs:Nat):Int):=by rw [aX ⟨by omega,by omega⟩];omega
  rw [wb,wd];refine JR _ _ _ (JR _ _ _ ?_);unfold iV lD at k;have g1:0<Nat.gcd a.natAbs d.natAbs:=xX _ (by omega);have g2:0<Nat.gcd c.natAbs b.natAbs:=xX _ (by omega);obtain ⟨g3,h3⟩:∃ g,g=Nat.gcd a.natAbs d.natAbs:=⟨_,rfl⟩;obtain ⟨g4,h4⟩:∃ g,g=Nat.gcd c.natAbs b.natAbs:=⟨_,rfl⟩;rw [← h3,← h4] at k ⊢;rw [← h3] at g1;rw [← h4] at g2;have n3:(!(decide ((g3:Int)=(0:Int))))=true:=by rw [Pn (by omega)];rfl
  have n4:(!(decide ((g4:Int)=(0:Int))))=true:=by rw [Pn (by omega)];rfl
  rw [n3,n4,dI,dI,wB (by omega),wB (by omega),wB (by omega),wB (by omega),← mK,← mK,← mK,← mK];have q1:a.natAbs/g3≤a.natAbs:=oG _ _;have q2:c.natAbs/g4≤c.natAbs:=oG _ _;have q3:b.natAbs/g4≤b.natAbs:=oG _ _;have q4:d.natAbs/g3≤d.natAbs:=oG _ _;generalize a.natAbs/g3=A at *
  generalize c.natAbs/g4=C at *
  generalize b.natAbs/g4=B at *
  generalize d.natAbs/g3=D at *
  rw [aX (n:=(A:Int)) ⟨by omega,by omega⟩,aX (n:=(C:Int)) ⟨by omega,by omega⟩,aX (n:=(B:Int)) ⟨by omega,by omega⟩,aX (n:=(D:Int)) ⟨by omega,by omega⟩,
   DE ⟨by omega,by omega⟩ ⟨by omega,by omega⟩,dI,dI,DE ⟨by omega,by omega⟩ ⟨by omega,by omega⟩]
  have m1:A*C≤1000000000000000000*1000000000000000000:=AB (by omega) (by omega);have m2:B*D≤1000000000000000000*1000000000000000000:=AB (by omega) (by omega);rw [← yB,← yB];generalize A*C=M at *
  generalize B*D=N at *
  have wm:u64.wrap ((M:Int)/18446744073709551616+(N:Int)/18446744073709551616)=(M:Int)/18446744073709551616+(N:Int)/18446744073709551616:=aX ⟨by omega,by omega⟩;rw [wm]
  by_cases hb:(M:Int)/18446744073709551616+(N:Int)/18446744073709551616>0
  ·rw [Os hb,aY];unfold gC at k;rw [Zv (by omega)] at k;exact k
  ·rw [Pn hb,aV];have eM:(M:Int)%18446744073709551616=M:=by omega
   have eN:(N:Int)%18446744073709551616=N:=by omega
   rw [eM,eN]
   by_cases h0:(M:Int)>0
   ·rw [Os h0,aY,XQ (by omega) (by omega)];exact k
   ·rw [Pn h0,aV,XQ (by omega) (by omega)];have hz:M=0:=by omega
    subst hz;unfold gC at k ⊢
    by_cases hN:(N:Int)≤1000000000000000000
    ·rw [Tu ⟨by omega,hN⟩] at k ⊢;have e:(if (decide (a<0) !=decide (c<0))=true then -((0:Nat):Int) else ((0:Nat):Int))=0:=by split<;>rfl
     rw [e] at k;exact k
    ·rw [Zv (by omega)] at k ⊢;exact k
 ·rw [Zv h] at k;have:(cH a b c d !=(0:Int))=true:=by rw [bne_iff_ne];exact h
  rw [this,aY];exact k
theorem RV.swap {c d:Int} (h:RV c d) (h0:0<c):RV d c:=by obtain ⟨d1,d2,c1,c2,g⟩:=h;exact ⟨by omega,c2,by omega,d2,by rw [wV];exact g⟩
theorem RV.swapn {c d:Int} (h:RV c d) (h0:c<0):RV (-d) (-c):=by obtain ⟨d1,d2,c1,c2,g⟩:=h;exact ⟨by omega,by omega,by omega,by omega,by rw [Int.natAbs_neg,Int.natAbs_neg,wV];exact g⟩
theorem ySi {a b c d:Int} (ha:bE a) (hb:bE b) (hc:bE c) (hd:bE d) {K:Int→Int→Int→Prop}
  (k:if cH a b c d=0 then (if c=0 then K 0 0 18 else gC (decide (a<0) !=decide (c<0)) (iV a d b c) (lD a d b c) K) else K 0 0 (cH a b c d)):vK a b c d K:=by
 unfold vK UC;refine JS ha hb hc hd ?_
 by_cases h:cH a b c d=0
 ·rw [Tu h] at k;have:(cH a b c d !=(0:Int))=false:=by rw [h];rfl
  rw [this,aV];obtain ⟨hab,hcd⟩:=qQ.1 h;obtain ⟨d1,d2,c1,c2,_⟩:=id hcd
  by_cases h0:c=0
  ·rw [Tu h0] at k;have:(c ==(0:Int))=true:=beq_iff_eq.2 h0;rw [this,aY];exact k
  ·rw [Zv h0] at k;have:(c ==(0:Int))=false:=beq_eq_false_iff_ne.2 h0;rw [this,aV]
   by_cases hn:c<0
   ·rw [Os hn] at k;rw [Os hn,aY,dP (n:=0-d) ⟨by omega,by omega⟩,dP (n:=0-c) ⟨by omega,by omega⟩,Int.zero_sub,Int.zero_sub];have e:cH a b (-d) (-c)=0:=qQ.2 ⟨hab,hcd.swapn hn⟩;refine XS ha hb ⟨by omega,by omega⟩ ⟨by omega,by omega⟩ ?_;rw [Tu e,Os (show -d<0 by omega)];unfold iV lD at k ⊢;rw [Int.natAbs_neg,Int.natAbs_neg];exact k
   ·rw [Pn hn] at k;rw [Pn hn,aV];have e:cH a b d c=0:=qQ.2 ⟨hab,hcd.swap (by omega)⟩;refine XS ha hb hd hc ?_;rw [Tu e,Pn (show ¬d<0 by omega)];exact k
 ·rw [Zv h] at k;have:(cH a b c d !=(0:Int))=true:=by rw [bne_iff_ne];exact h
  rw [this,aY];exact k
theorem yRd {s:Bool} {hi lo p1 p3:Int} {g:Nat} (hh:gL hi) (hl:gL lo) (hg:0<g) (g1:(g:Int)≤1000000000000000000)
   (h1:0≤p1∧p1≤1000000000000000000) (h3:0≤p3∧p3≤1000000000000000000) {K:Int→Int→Int→Prop}
   (k:gC s (((hi*18446744073709551616+lo).toNat/Nat.gcd (hi*18446744073709551616+lo).toNat g:Nat):Int)
    (((p1.toNat/g)*(p3.toNat/Nat.gcd (hi*18446744073709551616+lo).toNat g):Nat):Int) K) :
   (CM hi lo (g:Int) (fun (b:Int)=>
 (vH b (g:Int) (fun (a:Int)=>
 (aA (decide (hi≥a))
 (K (0:Int) (0:Int) (16:Int))
 (Bh hi lo a (fun (c:Int) (j:Int)=>
 (aB (!(decide ((g:Int)=(0:Int))))
 (aB (!(decide (a=(0:Int))))
 (zJ (u64.wrap (Int.tdiv (u64.wrap p1) (g:Int))) (u64.wrap (Int.tdiv (u64.wrap p3) a)) (fun (d:Int) (e:Int)=>
 (aA (decide (d>(0:Int)))
 (K (0:Int) (0:Int) (16:Int))
 (Bd s c e (fun (f:Int) (h:Int) (i:Int)=>
 (K f h i))))))))))))))):=by
  unfold gL at hh hl;obtain ⟨X,hX⟩:∃ X:Nat,X=(hi*18446744073709551616+lo).toNat:=⟨_,rfl⟩;have eX:hi*18446744073709551616+lo=(X:Int):=by omega
  rw [← hX] at k;refine yPE hh hl ⟨by omega,by omega⟩ (by omega) ?_;rw [eX,← Int.natCast_emod];refine JR _ _ _ ?_;have eg:Nat.gcd (X%g) g=Nat.gcd X g:=by rw [wV,wV X,Nat.gcd_rec g X,wV]
  rw [eg];have gp:0<Nat.gcd X g:=xX _ hg;have gl:Nat.gcd X g≤g:=Nat.le_of_dvd hg (GY _ _);generalize Nat.gcd X g=G at *
  by_cases hb:hi≥(G:Int)
  ·rw [Os hb,aY];unfold gC at k;have:18446744073709551616≤X/G:=by
    rw [Nat.le_div_iff_mul_le gp];omega
   rw [Zv (by omega)] at k;exact k
  ·rw [Pn hb,aV];refine ui hh hl ⟨by omega,by omega⟩ (by omega) ?_;rw [eX];have n3:(!(decide ((g:Int)=(0:Int))))=true:=by rw [Pn (by omega)];rfl
   have n4:(!(decide ((G:Int)=(0:Int))))=true:=by rw [Pn (by omega)];rfl
   have e1:u64.wrap p1=(p1.toNat:Int):=by rw [aX ⟨by omega,by omega⟩];omega
   have e3:u64.wrap p3=(p3.toNat:Int):=by rw [aX ⟨by omega,by omega⟩];omega
   rw [n3,n4,dI,dI,e1,e3,wB (by omega),wB (by omega),← mK,← mK,← mK];have q1:p1.toNat/g≤p1.toNat:=oG _ _;have q3:p3.toNat/G≤p3.toNat:=oG _ _;generalize p1.toNat/g=A at *
   generalize p3.toNat/G=B at *
   generalize X/G=N at *
   rw [aX (n:=(A:Int)) ⟨by omega,by omega⟩,aX (n:=(B:Int)) ⟨by omega,by omega⟩,DE ⟨by omega,by omega⟩ ⟨by omega,by omega⟩,← yB];generalize A*B=D at *
   by_cases hd:((D:Int)/18446744073709551616)>0
   ·rw [Os hd,aY];unfold gC at k;rw [Zv (by omega)] at k;exact k
   ·rw [Pn hd,aV];have eD:(D:Int)%18446744073709551616=D:=by omega
    rw [eD,XQ (by omega) (by omega)];exact k
theorem uj {p q c:Int} {K:Int→Int→Prop} (hc:c.toNat≤1) (k:K (((p.toNat+q.toNat+c.toNat)%18446744073709551616:Nat):Int) (((p.toNat+q.toNat+c.toNat)/18446744073709551616:Nat):Int)):EQ p q c K:=by unfold EQ;rw [Os hc,dI];exact k
theorem uk {p q c:Int} {K:Int→Int→Prop} (hc:c.toNat≤1) (k:K (((p.toNat+18446744073709551616-q.toNat-c.toNat)%18446744073709551616:Nat):Int) ((if q.toNat+c.toNat≤p.toNat then 0 else 1:Nat):Int)):ER p q c K:=by
 unfold ER;rw [Os hc,dI];have e:(bif Nat.ble (q.toNat+c.toNat) p.toNat then 0 else 1:Nat)=(if q.toNat+c.toNat≤p.toNat then 0 else 1:Nat):=by
  by_cases h:q.toNat+c.toNat≤p.toNat
  ·rw [Tu h,show Nat.ble (q.toNat+c.toNat) p.toNat=true from Ee h];rfl
  ·rw [Zv h]
   cases hb:Nat.ble (q.toNat+c.toNat) p.toNat
   ·rfl
   ·exact absurd (BM hb) h
 rw [e];exact k
theorem yPF {X Y:Int} (hx:0≤X) (hy:0≤Y) (hs:X+Y<340282366920938463463374607431768211456) {F:Int→Int→Int→Int→Prop}
  (h:∀ c1 c2,F ((X+Y)%18446744073709551616) c1 ((X+Y)/18446744073709551616) c2) :
  EQ (X%18446744073709551616) (Y%18446744073709551616) 0 (fun lo c1=>EQ (X/18446744073709551616) (Y/18446744073709551616) c1 (fun hi c2=>F lo c1 hi c2)):=by
 obtain ⟨x,rfl⟩:∃ x:Nat,X=x:=⟨X.toNat,by omega⟩;obtain ⟨y,rfl⟩:∃ y:Nat,Y=y:=⟨Y.toNat,by omega⟩;refine uj (by decide) (uj (by omega) ?_);have e1:(((((x:Int)%18446744073709551616).toNat+((y:Int)%18446744073709551616).toNat+(0:Int).toNat)%18446744073709551616:Nat):Int)=((x:Int)+y)%18446744073709551616:=by omega
 have e2:(((((x:Int)/18446744073709551616).toNat+((y:Int)/18446744073709551616).toNat+(((((x:Int)%18446744073709551616).toNat+((y:Int)%18446744073709551616).toNat+(0:Int).toNat)/18446744073709551616:Nat):Int).toNat)%18446744073709551616:Nat):Int)=((x:Int)+y)/18446744073709551616:=by omega
 rw [e1,e2];exact h _ _
theorem Ow {X Y:Int} (hy:0≤Y) (hxy:Y≤X) (hs:X<340282366920938463463374607431768211456) {F:Int→Int→Int→Int→Prop}
  (h:∀ c1 c2,F ((X-Y)%18446744073709551616) c1 ((X-Y)/18446744073709551616) c2) :
  ER (X%18446744073709551616) (Y%18446744073709551616) 0 (fun lo c1=>ER (X/18446744073709551616) (Y/18446744073709551616) c1 (fun hi c2=>F lo c1 hi c2)):=by
 obtain ⟨x,rfl⟩:∃ x:Nat,X=x:=⟨X.toNat,by omega⟩;obtain ⟨y,rfl⟩:∃ y:Nat,Y=y:=⟨Y.toNat,by omega⟩;refine uk (by decide) (uk (by split<;>omega) ?_);have e1:(((((x:Int)%18446744073709551616).toNat+18446744073709551616-((y:Int)%18446744073709551616).toNat-(0:Int).toNat)%18446744073709551616:Nat):Int)=((x:Int)-y)%18446744073709551616:=by omega
 rw [e1]
 by_cases hb:((y:Int)%18446744073709551616).toNat+(0:Int).toNat≤((x:Int)%18446744073709551616).toNat
 ·rw [Tu hb];have e2:(((((x:Int)/18446744073709551616).toNat+18446744073709551616-((y:Int)/18446744073709551616).toNat-((0:Nat):Int).toNat)%18446744073709551616:Nat):Int)=((x:Int)-y)/18446744073709551616:=by omega
  rw [e2];exact h _ _
 ·rw [Zv hb];have e2:(((((x:Int)/18446744073709551616).toNat+18446744073709551616-((y:Int)/18446744073709551616).toNat-((1:Nat):Int).toNat)%18446744073709551616:Nat):Int)=((x:Int)-y)/18446744073709551616:=by omega
  rw [e2];exact h _ _
def fS (s:Bool) (Z p1 p3:Int) (g:Nat) (K:Int→Int→Int→Prop):Prop:=
 if Z=0 then K 0 1 0 else gC s ((Z.toNat/Nat.gcd Z.toNat g:Nat):Int) (((p1.toNat/g)*(p3.toNat/Nat.gcd Z.toNat g):Nat):Int) K
theorem JT {s:Bool} {Z p1 p3:Int} {g:Nat} (hz:0≤Z) (hz2:Z<340282366920938463463374607431768211456) (hg:0<g) (g1:(g:Int)≤1000000000000000000)
   (h1:0≤p1∧p1≤1000000000000000000) (h3:0≤p3∧p3≤1000000000000000000) {K:Int→Int→Int→Prop}
   (k:fS s Z p1 p3 g K) :
   aA (Z/18446744073709551616 ==(0:Int)) (aA (Z%18446744073709551616 ==(0:Int)) (K 0 1 0) (CM (Z/18446744073709551616) (Z%18446744073709551616) (g:Int) (fun (b:Int)=>
 (vH b (g:Int) (fun (a:Int)=>
 (aA (decide ((Z/18446744073709551616)≥a))
 (K (0:Int) (0:Int) (16:Int))
 (Bh (Z/18446744073709551616) (Z%18446744073709551616) a (fun (c:Int) (j:Int)=>
 (aB (!(decide ((g:Int)=(0:Int))))
 (aB (!(decide (a=(0:Int))))
 (zJ (u64.wrap (Int.tdiv (u64.wrap p1) (g:Int))) (u64.wrap (Int.tdiv (u64.wrap p3) a)) (fun (d:Int) (e:Int)=>
 (aA (decide (d>(0:Int)))
 (K (0:Int) (0:Int) (16:Int))
 (Bd s c e (fun (f:Int) (h:Int) (i:Int)=>
 (K f h i)))))))))))))))) (CM (Z/18446744073709551616) (Z%18446744073709551616) (g:Int) (fun (b:Int)=>
 (vH b (g:Int) (fun (a:Int)=>
 (aA (decide ((Z/18446744073709551616)≥a))
 (K (0:Int) (0:Int) (16:Int))
 (Bh (Z/18446744073709551616) (Z%18446744073709551616) a (fun (c:Int) (j:Int)=>
 (aB (!(decide ((g:Int)=(0:Int))))
 (aB (!(decide (a=(0:Int))))
 (zJ (u64.wrap (Int.tdiv (u64.wrap p1) (g:Int))) (u64.wrap (Int.tdiv (u64.wrap p3) a)) (fun (d:Int) (e:Int)=>
 (aA (decide (d>(0:Int)))
 (K (0:Int) (0:Int) (16:Int))
 (Bd s c e (fun (f:Int) (h:Int) (i:Int)=>
 (K f h i))))))))))))))):=by
  unfold fS at k;have eZ:Z/18446744073709551616*18446744073709551616+Z%18446744073709551616=Z:=by omega
  by_cases h0:Z=0
  ·rw [Tu h0] at k;subst h0;have e1:((0:Int)/18446744073709551616 ==(0:Int))=true:=by decide
   have e2:((0:Int)%18446744073709551616 ==(0:Int))=true:=by decide
   rw [e1,aY,e2,aY];exact k
  ·rw [Zv h0] at k;have t:=yRd (s:=s) (hi:=Z/18446744073709551616) (lo:=Z%18446744073709551616) (p1:=p1) (p3:=p3) (g:=g) (K:=K) ⟨by omega,by omega⟩ ⟨by omega,by omega⟩ hg g1 h1 h3 (by rw [eZ];exact k)
   cases h4:(Z/18446744073709551616 ==(0:Int))
   ·rw [aV];exact t
   ·rw [aY]
    cases h2:(Z%18446744073709551616 ==(0:Int))
    ·rw [aV];exact t
    ·have:=beq_iff_eq.1 h2;have:=beq_iff_eq.1 h4;exact absurd (show Z=0 by omega) h0
theorem XT {s s':Bool} {Z Z' p1 p3:Int} {g:Nat} {K:Int→Int→Int→Prop} (k:fS s' Z' p1 p3 g K) (hz:Z=Z') (hs:Z≠0→s=s'):fS s Z p1 p3 g K:=by
 subst hz;unfold fS at k ⊢
 by_cases h:Z=0
 ·rw [Tu h] at k ⊢;exact k
 ·rw [Zv h] at k ⊢;rw [hs h];exact k
theorem ul {a b c d:Int} (ha:bE a) (hb:bE b) (hc:bE c) (hd:bE d) {K:Int→Int→Int→Prop}
  (k:if cH a b c d=0 then fS (decide (a*(d/(Nat.gcd b.natAbs d.natAbs:Nat))+c*(b/(Nat.gcd b.natAbs d.natAbs:Nat))<0))
    ((a*(d/(Nat.gcd b.natAbs d.natAbs:Nat))+c*(b/(Nat.gcd b.natAbs d.natAbs:Nat))).natAbs:Int) b d (Nat.gcd b.natAbs d.natAbs) K
   else K 0 0 (cH a b c d)):oS a b c d K:=by
 unfold oS UA;refine JS ha hb hc hd ?_
 by_cases h:cH a b c d=0
 ·rw [Tu h] at k;have:(cH a b c d !=(0:Int))=false:=by rw [h];rfl
  rw [this,aV];obtain ⟨⟨b1,b2,a1,a2,_⟩,d1,d2,c1,c2,_⟩:=qQ.1 h;have wb:u64.wrap b=((b.natAbs:Nat):Int):=by rw [aX ⟨by omega,by omega⟩];omega
  have wd:u64.wrap d=((d.natAbs:Nat):Int):=by rw [aX ⟨by omega,by omega⟩];omega
  have g1:0<Nat.gcd b.natAbs d.natAbs:=xX _ (by omega);have g2:Nat.gcd b.natAbs d.natAbs≤d.natAbs:=Nat.le_of_dvd (by omega) (GY _ _);have go:vH (u64.wrap b) (u64.wrap d)=vH ((b.natAbs:Nat):Int) ((d.natAbs:Nat):Int):=by rw [wb,wd]
  rw [go];refine JR _ _ _ ?_;generalize Nat.gcd b.natAbs d.natAbs=g at *
  have n3:(!(decide ((g:Int)=(0:Int))))=true:=by rw [Pn (by omega)];rfl
  have q1:0≤b/(g:Int):=wQ (by omega) (by omega);have q2:0≤d/(g:Int):=wQ (by omega) (by omega);have q3:b/(g:Int)≤b:=Ay _ (by omega);have q4:d/(g:Int)≤d:=Ay _ (by omega);have ed:u64.wrap (Int.tdiv (u64.wrap d) (g:Int))=d/(g:Int):=by rw [aX (n:=d) ⟨by omega,by omega⟩,wB (by omega),aX ⟨by omega,by omega⟩]
  have eb:u64.wrap (Int.tdiv (u64.wrap b) (g:Int))=b/(g:Int):=by rw [aX (n:=b) ⟨by omega,by omega⟩,wB (by omega),aX ⟨by omega,by omega⟩]
  have yot:∀ {c:Bool} {P:Prop},c=true→P→aB c P:=fun h p=>by rw [h,dI];exact p
  rw [Bu ha];refine yot n3 ?_;rw [DE (gL.abs ha) (by rw [ed];exact ⟨by omega,by omega⟩),Bu hc];refine yot n3 ?_;rw [DE (gL.abs hc) (by rw [eb];exact ⟨by omega,by omega⟩)];obtain ⟨X,hX⟩:∃ X,X=((a.natAbs:Nat):Int)*u64.wrap (Int.tdiv (u64.wrap d) (g:Int)):=⟨_,rfl⟩;obtain ⟨Y,hY⟩:∃ Y,Y=((c.natAbs:Nat):Int)*u64.wrap (Int.tdiv (u64.wrap b) (g:Int)):=⟨_,rfl⟩;rw [← hX,← hY];rw [ed] at hX;rw [eb] at hY;have X0:0≤X:=by rw [hX];exact lZ (by omega) q2
  have Y0:0≤Y:=by rw [hY];exact lZ (by omega) q1
  have X1:X≤1000000000000000000*1000000000000000000:=by rw [hX];exact mC (by omega) (by omega) q2 (by omega)
  have Y1:Y≤1000000000000000000*1000000000000000000:=by rw [hY];exact mC (by omega) (by omega) q1 (by omega)
  have ax:a*(d/(g:Int))=if a<0 then -X else X:=by
   split
   ·rw [hX,show ((a.natAbs:Nat):Int)=-a by omega,AD,Int.neg_neg]
   ·rw [hX,show ((a.natAbs:Nat):Int)=a by omega]
  have cy:c*(b/(g:Int))=if c<0 then -Y else Y:=by
   split
   ·rw [hY,show ((c.natAbs:Nat):Int)=-c by omega,AD,Int.neg_neg]
   ·rw [hY,show ((c.natAbs:Nat):Int)=c by omega]
  rw [ax,cy] at k;clear hX hY ax cy ed eb n3
  by_cases hs:decide (a<0)=decide (c<0)
  ·have e:(decide (a<0)==decide (c<0))=true:=beq_iff_eq.2 hs;rw [e,aY];refine yPF X0 Y0 (by omega) (fun c1 c2=>?_);refine JT (by omega) (by omega) g1 (by omega) ⟨by omega,b2⟩ ⟨by omega,d2⟩ (XT k ?_ ?_)
   ·by_cases h1:a<0
    ·have h2:c<0:=by simpa [h1] using hs.symm
     rw [Tu h1,Tu h2];omega
    ·have h2:¬c<0:=by simpa [h1] using hs.symm
     rw [Zv h1,Zv h2];omega
   ·intro h0
    by_cases h1:a<0
    ·have h2:c<0:=by simpa [h1] using hs.symm
     rw [Tu h1,Tu h2,Os h1,Os (by omega)]
    ·have h2:¬c<0:=by simpa [h1] using hs.symm
     rw [Zv h1,Zv h2,Pn h1,Pn (by omega)]
  ·have e:(decide (a<0)==decide (c<0))=false:=beq_eq_false_iff_ne.2 hs;rw [e,aV];have h12:(a<0∧¬c<0)∨(¬a<0∧c<0):=by
    by_cases h1:a<0<;>by_cases h2:c<0<;>simp [h1,h2] at hs ⊢
   by_cases hlt:X<Y
   ·have kk:fS (!decide (a<0)) (Y-X) b d g K:=by
     refine XT k ?_ ?_
     ·rcases h12 with ⟨h1,h2⟩ | ⟨h1,h2⟩
      ·rw [Tu h1,Zv h2];omega
      ·rw [Zv h1,Tu h2];omega
     ·intro h0;rcases h12 with ⟨h1,h2⟩ | ⟨h1,h2⟩
      ·rw [Tu h1,Zv h2,Os h1,Pn (by omega)];rfl
      ·rw [Zv h1,Tu h2,Pn h1,Os (by omega)];rfl
    by_cases h1:X/18446744073709551616<Y/18446744073709551616
    ·rw [Os h1,aY];refine Ow X0 (by omega) (by omega) (fun c1 c2=>?_);exact JT (by omega) (by omega) g1 (by omega) ⟨by omega,b2⟩ ⟨by omega,d2⟩ kk
    ·have e1:(X/18446744073709551616==Y/18446744073709551616)=true:=beq_iff_eq.2 (by omega);rw [Pn h1,aV,e1,aY,Os (show X%18446744073709551616<Y%18446744073709551616 by have:=beq_iff_eq.1 e1;omega),aY];refine Ow X0 (by omega) (by omega) (fun c1 c2=>?_);exact JT (by omega) (by omega) g1 (by omega) ⟨by omega,b2⟩ ⟨by omega,d2⟩ kk
   ·have kk:fS (decide (a<0)) (X-Y) b d g K:=by
     refine XT k ?_ ?_
     ·rcases h12 with ⟨h1,h2⟩ | ⟨h1,h2⟩
      ·rw [Tu h1,Zv h2];omega
      ·rw [Zv h1,Tu h2];omega
     ·intro h0;rcases h12 with ⟨h1,h2⟩ | ⟨h1,h2⟩
      ·rw [Tu h1,Zv h2,Os h1,Os (by omega)]
      ·rw [Zv h1,Tu h2,Pn h1,Pn (by omega)]
    have h1:¬X/18446744073709551616<Y/18446744073709551616:=by omega
    rw [Pn h1,aV]
    cases e1:(X/18446744073709551616==Y/18446744073709551616)
    ·rw [aV];refine Ow Y0 (by omega) (by omega) (fun c1 c2=>?_);exact JT (by omega) (by omega) g1 (by omega) ⟨by omega,b2⟩ ⟨by omega,d2⟩ kk
    ·rw [aY,Pn (show ¬X%18446744073709551616<Y%18446744073709551616 by have:=beq_iff_eq.1 e1;omega),aV];refine Ow Y0 (by omega) (by omega) (fun c1 c2=>?_);exact JT (by omega) (by omega) g1 (by omega) ⟨by omega,b2⟩ ⟨by omega,d2⟩ kk
 ·rw [Zv h] at k;have:(cH a b c d !=(0:Int))=true:=by rw [bne_iff_ne];exact h
  rw [this,aY];exact k
theorem RV.neg {c d:Int} (h:RV c d):RV (-c) d:=by obtain ⟨d1,d2,c1,c2,g⟩:=h;exact ⟨d1,d2,by omega,by omega,by rw [Int.natAbs_neg];exact g⟩
theorem ySj {a b c d:Int} (ha:bE a) (hb:bE b) (hc:bE c) (hd:bE d) {K:Int→Int→Int→Prop}
  (k:if cH a b c d=0 then fS (decide (a*(d/(Nat.gcd b.natAbs d.natAbs:Nat))+-c*(b/(Nat.gcd b.natAbs d.natAbs:Nat))<0))
    ((a*(d/(Nat.gcd b.natAbs d.natAbs:Nat))+-c*(b/(Nat.gcd b.natAbs d.natAbs:Nat))).natAbs:Int) b d (Nat.gcd b.natAbs d.natAbs) K
   else K 0 0 (cH a b c d)):yaX a b c d K:=by
 unfold yaX UB;refine JS ha hb hc hd ?_
 by_cases h:cH a b c d=0
 ·rw [Tu h] at k;have:(cH a b c d !=(0:Int))=false:=by rw [h];rfl
  rw [this,aV];obtain ⟨hab,hcd⟩:=qQ.1 h;obtain ⟨d1,d2,c1,c2,_⟩:=id hcd;rw [dP (n:=0-c) ⟨by omega,by omega⟩,Int.zero_sub];refine ul ha hb ⟨by omega,by omega⟩ hd ?_;rw [Tu (qQ.2 ⟨hab,hcd.neg⟩)];exact k
 ·rw [Zv h] at k;have:(cH a b c d !=(0:Int))=true:=by rw [bne_iff_ne];exact h
  rw [this,aY];exact k
def aR (l:List Int):List PV:=l.map (PV.int .i64)
theorem fB (l:List Int):(aR l).length=l.length:=lY ..
theorem XU {l:List Int} {i:Nat} (h:i<l.length):getD (aR l) i .nils=.int .i64 (l.getD i 0):=by unfold aR;rw [dK,dK,pE,dL h];rfl
theorem jB {l:List Int} {i:Nat} (h:i<l.length):aC (getD (aR l) i .nils)=l.getD i 0:=by rw [XU h];rfl
theorem DF {l:List Int} {i:Nat} (h:i<l.length):aE zI (getD (aR l) i .nils)=true:=by rw [XU h];rfl
theorem yot {c:Bool} {P:Prop} (h:c=true) (p:P):aB c P:=by rw [h,dI];exact p
theorem xR {c:Prop} [Decidable c] {P:Prop} (h:c) (p:P):aB (decide c) P:=yot (Os h) p
theorem Ox {c:Prop} [Decidable c] {P Q:Prop} (h:c) (p:P):aA (decide c) P Q:=by rw [Os h,aY];exact p
theorem GA {c:Prop} [Decidable c] {P Q:Prop} (h:¬c) (q:Q):aA (decide c) P Q:=by rw [Pn h,aV];exact q
def JU (m x:Int):Int:=if x<m then x else m
theorem yPH {l:List Int} (hl:l.length<9223372036854775807) (x0:List PV→Int→Int→Bool→Prop) :
  ∀ (rest:List Int) (i:Nat) (m:Int) (n:Nat),l.drop i=rest→i≤l.length→rest.length<n→x0 (aR l) (rest.foldl JU m) (l.length:Int) false →
   FA x0 n (aR l) m (i:Int):=by
 intro rest;induction rest with
 | nil=>
  intro i m n hd hi hn k;have:i=l.length:=by
   have:=Aaa length hd;rw [kR] at this;have h2:([]:List Int).length=0:=rfl;omega
  match n,hn with
  | n+1,_ =>unfold FA;rw [fB,this];exact GA (by omega) k
 | cons x t ih=>
  intro i m n hd hi hn k;have hlt:i<l.length:=by
   have:=Aaa length hd;rw [kR,eR] at this;omega
  have hx:l.getD i 0=x:=by have:=List.getElem_drop (xs:=l) (i:=i) (j:=0) (h:=by rw [hd];exact Az _);rw [dK,dL hlt];simp only [hd,List.getElem_cons_zero,wU] at this;exact this.symm
  have ht:l.drop (i+1)=t:=by rw [← List.tail_drop,hd];rfl
  match n,hn with
  | n+1,hn =>unfold FA;rw [fB];refine Ox (by omega) ?_;refine xR (by omega) (xR (by omega) (yot (DF (by omega)) ?_));rw [cP,jB hlt,hx,dP (n:=(i:Int)+1) ⟨by omega,by omega⟩];exact ih (i+1) _ n ht (by omega) (by rw [eR] at hn;omega) k
theorem ySk {l:List Int} (hl:l.length<9223372036854775807) {x:Int} {t:List Int} (e:l=x::t) {K:Int→Prop} (k:K (t.foldl JU x)):FC (aR l) K:=by
 have h0:0<l.length:=by rw [e];exact Az _
 unfold FC UE;rw [fB];refine GA (by omega) (xR (by omega) (yot (DF h0) ⟨l.length+1,?_⟩));have e0:l.getD 0 0=x:=by rw [e];rfl
 rw [jB h0,e0];refine yPH hl _ t 1 x _ (by rw [e];rfl) (by omega) (by rw [e,eR];omega) ?_;exact k
def Ae (m x:Int):Int:=if x>m then x else m
theorem yPI {l:List Int} (hl:l.length<9223372036854775807) (x0:List PV→Int→Int→Bool→Prop) :
  ∀ (rest:List Int) (i:Nat) (m:Int) (n:Nat),l.drop i=rest→i≤l.length→rest.length<n→x0 (aR l) (rest.foldl Ae m) (l.length:Int) false →
   FD x0 n (aR l) m (i:Int):=by
 intro rest;induction rest with
 | nil=>
  intro i m n hd hi hn k;have:i=l.length:=by
   have:=Aaa length hd;rw [kR] at this;have h2:([]:List Int).length=0:=rfl;omega
  match n,hn with
  | n+1,_ =>unfold FD;rw [fB,this];exact GA (by omega) k
 | cons x t ih=>
  intro i m n hd hi hn k;have hlt:i<l.length:=by
   have:=Aaa length hd;rw [kR,eR] at this;omega
  have hx:l.getD i 0=x:=by have:=List.getElem_drop (xs:=l) (i:=i) (j:=0) (h:=by rw [hd];exact Az _);rw [dK,dL hlt];simp only [hd,List.getElem_cons_zero,wU] at this;exact this.symm
  have ht:l.drop (i+1)=t:=by rw [← List.tail_drop,hd];rfl
  match n,hn with
  | n+1,hn =>unfold FD;rw [fB];refine Ox (by omega) ?_;refine xR (by omega) (xR (by omega) (yot (DF (by omega)) ?_));rw [cP,jB hlt,hx,dP (n:=(i:Int)+1) ⟨by omega,by omega⟩];exact ih (i+1) _ n ht (by omega) (by rw [eR] at hn;omega) k
theorem um {l:List Int} (hl:l.length<9223372036854775807) {x:Int} {t:List Int} (e:l=x::t) {K:Int→Prop} (k:K (t.foldl Ae x)):FE (aR l) K:=by
 have h0:0<l.length:=by rw [e];exact Az _
 unfold FE UG;rw [fB];refine GA (by omega) (xR (by omega) (yot (DF h0) ⟨l.length+1,?_⟩));have e0:l.getD 0 0=x:=by rw [e];rfl
 rw [jB h0,e0];refine yPI hl _ t 1 x _ (by rw [e];rfl) (by omega) (by rw [e,eR];omega) ?_;exact k
def wC (l:List Int) (i:Nat):Prop:=∀ j,i≤j→j+1<l.length→l.getD j 0<l.getD (j+1) 0
theorem yMa {l:List Int} {p2:List PV} {p0:Int} (hl:l.length<9223372036854775807) (W1 W2:List PV→(Int→Prop)→Prop) (x0:Int→Prop) (x1:Int→List PV→List PV→Int→Int→Bool→Prop) :
  ∀ (r i n:Nat),i+r+1=l.length→r<n→(wC l i→x1 p0 (aR l) p2 ((l.length:Int)-1) ((l.length:Int)-1) false)→(¬wC l i→x0 8) →
   FF W1 W2 x0 x1 n p0 (aR l) p2 ((l.length:Int)-1) (i:Int):=by
 intro r;induction r with
 | zero=>
  intro i n hi hn k _
  match n,hn with
  | n+1,_=>
   unfold FF;have e:(i:Int)=(l.length:Int)-1:=by omega
   refine GA (by omega) ?_;rw [e];exact k (fun j h1 h2=>by omega)
 | succ r ih=>
  intro i n hi hn k k0
  match n,hn with
  | n+1,hn=>
   unfold FF;rw [dP (n:=(i:Int)+1) ⟨by omega,by omega⟩,fB];have e1:((i:Int)+1)=((i+1:Nat):Int):=by omega
   rw [e1,cP,cP];refine Ox (by omega) (xR (by omega) (xR (by omega) (yot (DF (by omega)) (xR (by omega) (xR (by omega) (yot (DF (by omega)) ?_))))));rw [jB (by omega),jB (by omega)]
   by_cases h:l.getD i 0≥l.getD (i+1) 0
   ·exact Ox h (k0 fun hc=>absurd (hc i (cJ _) (by omega)) (by omega))
   ·refine GA h (ih (i+1) n (by omega) (by omega) (fun hc=>k fun j h1 h2=>?_) (fun hc=>k0 fun hd=>hc fun j h1 h2=>hd j (by omega) h2))
    by_cases hj:j=i
    ·subst hj;omega
    ·exact hc j (by omega) h2
def small (q:Rat):Prop:=-1000000000000000000≤q.num∧q.num≤1000000000000000000∧(q.den:Int)≤1000000000000000000
instance (q:Rat):Decidable (small q):=by unfold small;infer_instance
theorem small.rv {q:Rat} (h:small q):RV q.num q.den:=by obtain ⟨h1,h2,h3⟩:=h;have:=q.den_pos;exact ⟨by omega,h3,h1,h2,q.reduced⟩
theorem Oy {n d:Int} (h:RV n d):∃ q:Rat,small q∧q.num=n∧(q.den:Int)=d:=by
 obtain ⟨h1,h2,h3,h4,h5⟩:=h;refine ⟨⟨n,d.toNat,by omega,?_⟩,⟨h3,h4,by show ((d.toNat:Nat):Int)≤_;omega⟩,rfl,by show ((d.toNat:Nat):Int)=_;omega⟩;have:d.natAbs=d.toNat:=by omega
 rw [this] at h5;exact h5
theorem small.i1 {q:Rat} (h:small q):bE q.num:=⟨by have:=h.1;omega,by have:=h.2.1;omega⟩
theorem small.i2 {q:Rat} (h:small q):bE (q.den:Int):=⟨by omega,by have:=h.2.2;omega⟩
theorem Af {q r:Rat} (h:small q) (k:small r):cH q.num q.den r.num r.den=0:=qQ.2 ⟨h.rv,k.rv⟩
def fitK (q:Rat) (K:Int→Int→Int→Prop):Prop:=if small q then K q.num q.den 0 else K 0 0 16
theorem uo {q:Rat} {s:Bool} {a b:Int} (ha:a=(q.num.natAbs:Int)) (hb:b=(q.den:Int)) (hs:q.num≠0→s=decide (q.num<0)) (K:Int→Int→Int→Prop):gC s a b K=fitK q K:=by
 unfold gC fitK;subst ha hb
 by_cases h:small q
 ·have h':=h;obtain ⟨h1,h2,h3⟩:=h;rw [Tu (show _∧_ from ⟨by omega,h3⟩),Tu h'];have e:(if s=true then -((q.num.natAbs:Nat):Int) else ((q.num.natAbs:Nat):Int))=q.num:=by
   by_cases h0:q.num=0
   ·rw [h0];cases s<;>rfl
   ·rw [hs h0]
    by_cases h1:q.num<0
    ·rw [Os h1,Tu rfl];omega
    ·rw [Pn h1,Zv (by simp)];omega
  rw [e]
 ·rw [Zv h,Zv];intro h2;exact h ⟨by omega,by omega,h2.2⟩
theorem ur (x:Int) (g:Nat):(Int.tdiv x g).natAbs=x.natAbs/g:=by rw [Int.natAbs_tdiv,GW];rfl
theorem ut {x:Int} {g:Nat} (h:(g:Int)∣x) (hx:x≠0):decide (Int.tdiv x g<0)=decide (x<0):=by
 obtain ⟨k,rfl⟩:=h;have hg:(g:Int)≠0:=fun e=>hx (by rw [e,Int.zero_mul])
 rw [Int.mul_tdiv_cancel_left _ hg];have h1:(g:Int)>0:=by have:=wO g;omega
 have:(g:Int)*k<0↔k<0:=by
  constructor
  ·intro h;refine Int.not_le.1 fun hk=>?_
   have:=lZ (show 0≤(g:Int) by omega) hk;omega
  ·intro h;exact Int.mul_neg_of_pos_of_neg h1 h
 simp only [this]
theorem yOo (q r:Rat):(q*r).num=Int.tdiv q.num (Nat.gcd q.num.natAbs r.den)*Int.tdiv r.num (Nat.gcd r.num.natAbs q.den) ∧
  (q*r).den=(q.den/Nat.gcd r.num.natAbs q.den)*(r.den/Nat.gcd q.num.natAbs r.den):=by
 have e:q*r=Rat.mul q r:=rfl;rw [e]
 delta Rat.mul
 constructor
 ·simp only [Int.divExact_eq_tdiv]
 ·simp only [Nat.divExact_eq_div]
theorem JV (x:Int) (d:Nat):((Nat.gcd x.natAbs d:Nat):Int)∣x:=by rw [← Int.dvd_natAbs,Int.ofNat_dvd];exact Nat.gcd_dvd_left _ _
theorem uu {x:Int} {g:Nat} (h:(g:Int)∣x) (hx:x≠0):Int.tdiv x g≠0:=by
 obtain ⟨k,rfl⟩:=h;have hg:(g:Int)≠0:=fun e=>hx (by rw [e,Int.zero_mul])
 rw [Int.mul_tdiv_cancel_left _ hg];intro e;rw [e,Int.mul_zero] at hx;exact hx rfl
theorem yPK {x y:Int} (hx:x≠0) (hy:y≠0):decide (x*y<0)=(decide (x<0) !=decide (y<0)):=by
 by_cases h1:x<0<;>by_cases h2:y<0
 ·have:=Int.mul_pos_of_neg_of_neg h1 h2;simp [h1,h2];omega
 ·have:=Eb h1 (show 0<y by omega);simp [h1,h2];omega
 ·have:=Int.mul_neg_of_pos_of_neg (show 0<x by omega) h2;simp [h1,h2];omega
 ·have:=Int.mul_pos (show 0<x by omega) (show 0<y by omega);simp [h1,h2];omega
theorem XV (q r:Rat) (K:Int→Int→Int→Prop):gC (decide (q.num<0) !=decide (r.num<0)) (iV q.num r.num q.den r.den) (lD q.num r.num q.den r.den) K=fitK (q*r) K:=by
 obtain ⟨e1,e2⟩:=yOo q r;refine uo ?_ ?_ ?_ K
 ·rw [e1,Int.natAbs_mul,ur,ur];simp only [iV,GW]
 ·rw [e2];simp only [lD,GW]
 ·intro h;rw [e1] at h ⊢;have h1:q.num≠0:=fun e=>h (by rw [e,Int.zero_tdiv,Int.zero_mul])
  have h2:r.num≠0:=fun e=>h (by rw [e,Int.zero_tdiv,Int.mul_zero])
  rw [yPK (uu (JV _ _) h1) (uu (JV _ _) h2),ut (JV _ _) h1,ut (JV _ _) h2]
theorem Oz {w:(Int→Int→Int→Prop)→Prop} {q:Rat} (det:∀ r0 r1 r2,(∀ K:Int→Int→Int→Prop,K r0 r1 r2→w K)→∀ K,w K=K r0 r1 r2) (h:∀ K,fitK q K→w K) (K:Int→Int→Int→Prop):w K=fitK q K:=by
 unfold fitK at h ⊢
 by_cases hs:small q
 ·simp only [Tu hs] at h ⊢;exact det _ _ _ h K
 ·simp only [Zv hs] at h ⊢;exact det _ _ _ h K
theorem JW {q r:Rat} (hq:small q) (hr:small r) (K:Int→Int→Int→Prop):ybF q.num q.den r.num r.den K=fitK (q*r) K:=
 Oz (fun r0 r1 r2 h K=>yEY _ _ _ _ r0 r1 r2 h K) (fun K k=>XS hq.i1 hq.i2 hr.i1 hr.i2 (by rw [Tu (Af hq hr),XV];exact k)) K
theorem XW {r:Rat} (h:r≠0):(r⁻¹).num=(if r.num<0 then -(r.den:Int) else r.den)∧(r⁻¹).den=r.num.natAbs:=by
 have h0:r.num≠0:=fun e=>h (BQ.1 e)
 constructor
 ·rw [Rat.num_inv]
  by_cases h1:r.num<0
  ·rw [Tu h1,Int.sign_eq_neg_one_of_neg h1];omega
  ·rw [Zv h1,Int.sign_eq_one_of_pos (by omega)];omega
 ·rw [Rat.den_inv,Zv h0]
theorem small.inv {r:Rat} (h:small r) (h0:r≠0):small r⁻¹:=by obtain ⟨e1,e2⟩:=XW h0;obtain ⟨h1,h2,h3⟩:=h;unfold small;rw [e1,e2];split<;>omega
theorem yRe {q r:Rat} (hq:small q) (hr:small r) (h0:r≠0) (K:Int→Int→Int→Prop):vK q.num q.den r.num r.den K=fitK (q/r) K:=by
 have hn:r.num≠0:=fun e=>h0 (BQ.1 e)
 refine Oz (fun r0 r1 r2 h K=>yE2 _ _ _ _ r0 r1 r2 h K) (fun K k=>ySi hq.i1 hq.i2 hr.i1 hr.i2 ?_) K;rw [Tu (Af hq hr),Zv hn];rw [Rat.div_def,← XV] at k;obtain ⟨e1,e2⟩:=XW h0;rw [e1,e2] at k;have s:decide ((if r.num<0 then -(r.den:Int) else (r.den:Int))<0)=decide (r.num<0):=by
  have:=r.den_pos;split
  ·rename_i h;simp only [h];simp;omega
  ·rename_i h;simp only [h];simp
 rw [s] at k;have hd:(if r.num<0 then -(r.den:Int) else (r.den:Int)).natAbs=r.den:=by split<;>omega
 unfold iV lD at k ⊢;simp only [hd,GW] at k ⊢;exact k
theorem yOp (q r:Rat):(q+r).num=(q.num*(r.den/Nat.gcd q.den r.den:Nat)+r.num*(q.den/Nat.gcd q.den r.den:Nat))/(Nat.gcd (q.num*(r.den/Nat.gcd q.den r.den:Nat)+r.num*(q.den/Nat.gcd q.den r.den:Nat)).natAbs (Nat.gcd q.den r.den):Nat) ∧
  (q+r).den=(q.den/Nat.gcd q.den r.den)*r.den/Nat.gcd (q.num*(r.den/Nat.gcd q.den r.den:Nat)+r.num*(q.den/Nat.gcd q.den r.den:Nat)).natAbs (Nat.gcd q.den r.den):=by
 have e:q+r=Rat.add q r:=rfl;rw [e]
 delta Rat.add
 by_cases hg:q.den.gcd r.den=1
 ·simp only [hg,dif_pos,Nat.div_one,Nat.gcd_one_right,Int.natCast_one,Int.ediv_one,and_self]
 ·simp only [hg,dif_neg,not_false_eq_true,Rat.maybeNormalize_eq];constructor
  ·first | rfl | simp only [Int.divExact_eq_tdiv]
  ·first | rfl | simp only []
theorem yPL {q r:Rat} {Z:Int} {g:Nat} (e1:(q+r).num=Z/(Nat.gcd Z.natAbs g:Nat)) (e2:(q+r).den=(q.den/g)*r.den/Nat.gcd Z.natAbs g) (hgp:0<g) (hgd:g∣r.den) (K:Int→Int→Int→Prop) :
  fS (decide (Z<0)) (Z.natAbs:Int) q.den r.den g K=fitK (q+r) K:=by
 unfold fS
 by_cases h0:Z=0
 ·subst h0;have:(q+r)=0:=by
   apply BQ.1;rw [e1];simp
  rw [this,Tu (by rfl)];unfold fitK;rw [Tu (by decide)];rfl
 ·have hne:¬((Z.natAbs:Nat):Int)=0:=by omega
  rw [Zv hne];have hdv:((Nat.gcd Z.natAbs g:Nat):Int)∣Z:=JV _ _;have hhp:0<Nat.gcd Z.natAbs g:=xX _ hgp;have hhg:Nat.gcd Z.natAbs g∣r.den:=Nat.dvd_trans (GY _ _) hgd;refine uo ?_ ?_ ?_ K
  ·rw [e1,Int.natAbs_ediv_of_dvd hdv];simp
  ·rw [e2];simp only [cP];rw [Nat.mul_div_assoc _ hhg]
  ·intro h;rw [e1];obtain ⟨k,hk⟩:=hdv;revert hhp hk;generalize Nat.gcd Z.natAbs g=h;intro hhp hk;have e:Z/(h:Int)=k:=by rw [hk,Int.mul_ediv_cancel_left _ (by omega)]
   rw [e];have:Z<0↔k<0:=by
    rw [hk];constructor
    ·intro hk;refine Int.not_le.1 fun hk2=>?_
     have:=lZ (show 0≤(h:Int) by omega) hk2;omega
    ·intro hk;exact Int.mul_neg_of_pos_of_neg (by omega) hk
   simp only [this]
theorem XX (q r:Rat) (K:Int→Int→Int→Prop) :
  fS (decide (q.num*((r.den:Int)/(Nat.gcd (q.den:Int).natAbs (r.den:Int).natAbs:Nat))+r.num*((q.den:Int)/(Nat.gcd (q.den:Int).natAbs (r.den:Int).natAbs:Nat))<0))
   ((q.num*((r.den:Int)/(Nat.gcd (q.den:Int).natAbs (r.den:Int).natAbs:Nat))+r.num*((q.den:Int)/(Nat.gcd (q.den:Int).natAbs (r.den:Int).natAbs:Nat))).natAbs:Int) q.den r.den (Nat.gcd (q.den:Int).natAbs (r.den:Int).natAbs) K=fitK (q+r) K:=by
 obtain ⟨e1,e2⟩:=yOp q r;rw [mK,mK] at e1 e2;exact yPL e1 e2 (Nat.gcd_pos_of_pos_left _ q.den_pos) (GY _ _) K
theorem XY {q r:Rat} (hq:small q) (hr:small r) (K:Int→Int→Int→Prop):oS q.num q.den r.num r.den K=fitK (q+r) K:=
 Oz (fun r0 r1 r2 h K=>yE0 _ _ _ _ r0 r1 r2 h K) (fun K k=>ul hq.i1 hq.i2 hr.i1 hr.i2 (by rw [Tu (Af hq hr),XX];exact k)) K
theorem DH {q r:Rat} (hq:small q) (hr:small r) (K:Int→Int→Int→Prop):yaX q.num q.den r.num r.den K=fitK (q-r) K:=
 Oz (fun r0 r1 r2 h K=>yE1 _ _ _ _ r0 r1 r2 h K) (fun K k=>ySj hq.i1 hq.i2 hr.i1 hr.i2 (by
  rw [Tu (Af hq hr)];rw [Rat.sub_eq_add_neg,← XX] at k;exact k)) K
def gD (q r:Rat):Int:=if q<r then -1 else if r<q then 1 else 0
theorem uv (q r:Rat):qC q.num q.den r.num r.den=gD q r:=by unfold qC hK gD;simp only [Rat.lt_iff]
theorem XZ {q r:Rat} (hq:small q) (hr:small r) (K:Int→Int→Prop):rU q.num q.den r.num r.den K=K (gD q r) 0:=
 yEZ _ _ _ _ _ _ (fun K k=>uc hq.i1 hq.i2 hr.i1 hr.i2 (by rw [Af hq hr,Tu rfl,uv];exact k)) K
theorem uw {n d:Int} (hn:bE n) (hd:bE d) (K:Int→Prop):rT n d K=K (kP n d):=
 yBz _ _ _ (fun K k=>XO hn hd k) K
theorem Ag {p:Int} (h:bE p) (K:Int→Prop):CU p K=K (p.natAbs:Int):=by
 unfold bE at h;unfold CU VB
 by_cases hp:p<0
 ·have e0:i64.wrap (p+1)=p+1:=dP ⟨by omega,by omega⟩;have e1:i64.wrap ((0:Int)-(p+1))=-(p+1):=by rw [dP ⟨by omega,by omega⟩];omega
  have e2:u64.wrap (-(p+1))=-(p+1):=aX ⟨by omega,by omega⟩;have e3:u64.wrap (-(p+1)+1)=(p.natAbs:Int):=by rw [aX ⟨by omega,by omega⟩];omega
  rw [Os hp,aY,e0,e1,e2,e3]
 ·rw [Pn hp,aV,aX ⟨by omega,by omega⟩];congr 1;omega
theorem uy (x:Int→Int→Bool→Prop):∀ (n a b:Nat),b<n→Jb x n (a:Int) (b:Int)=x ((Nat.gcd a b:Nat):Int) 0 false
 | 0,a,b,h=>by omega
 | n+1,a,b,h=>by
  unfold Jb
  by_cases hb:b=0
  ·subst hb;simp [aA]
  ·have h1:((b:Int) !=0)=true:=by simp;omega
   have h2:¬((b:Int)=0):=by omega
   rw [h1,aY,Pn h2,jT,dI];have e:Int.tmod (a:Int) (b:Int)=((a%b:Nat):Int):=by rw [Int.tmod_eq_emod_of_nonneg (by omega)];omega
   rw [e,uy x n b (a%b) (by have:=Nat.mod_lt a (show b>0 by omega);omega)];rw [wV a b,Nat.gcd_rec b a,wV]
theorem JX (a b:Nat) (K:Int→Prop):vM (a:Int) (b:Int) K=K ((Nat.gcd a b:Nat):Int):=by refine yKb _ _ _ (fun K h=>?_) K;unfold vM VD;exact ⟨b+1,by rw [uy _ (b+1) a b (by omega)];exact h⟩
theorem sD {a b:Int} (h:a=b):(a !=b)=false:=by simp [h]
theorem JY {a b:Int} (h:a≠b):(a !=b)=true:=by simp [h]
theorem JZ {a b:Int} (h:a≠b):(a==b)=false:=by simp [h]
theorem Ya {a b:Int} (h:a=b):(a==b)=true:=by simp [h]
theorem Ka {n d:Int} (hn:bE n) (hd:bE d) (K:Int→Prop):zN n d K=K (kP n d):=by
 unfold zN VF
 by_cases h1:d<1
 ·rw [Os h1,aY,kP,Zv (fun h=>by have:=h.1;omega)]
 ·rw [Pn h1,aV]
  by_cases h2:d>1000000000000000000
  ·rw [Os h2,aY,kP,Zv (fun h=>by have:=h.2.1;omega)]
  ·rw [Pn h2,aV]
   by_cases h3:n < -1000000000000000000
   ·rw [Os h3,aY,kP,Zv (fun h=>by have:=h.2.2.1;omega)]
   ·rw [Pn h3,aV]
    by_cases h4:n>1000000000000000000
    ·rw [Os h4,aY,kP,Zv (fun h=>by have:=h.2.2.2.1;omega)]
    ·have ed:u64.wrap d=((d.natAbs:Nat):Int):=by rw [aX ⟨by omega,by omega⟩];omega
     rw [Pn h4,aV,Ag hn,ed,JX]
     by_cases h5:Nat.gcd n.natAbs d.natAbs=1
     ·rw [h5,sD (by rfl),aV,kP,Tu ⟨by omega,by omega,by omega,by omega,h5⟩]
     ·rw [JY (by omega),aY,kP,Zv (fun h=>h5 h.2.2.2.2)]
theorem Kb {a b c d:Int} (ha:bE a) (hb:bE b) (hc:bE c) (hd:bE d) (K:Int→Prop):Bk a b c d K=K (cH a b c d):=by
 unfold Bk VH;rw [Ka ha hb,Ka ha hb,Ka hc hd,cH]
 by_cases h:kP a b=0
 ·rw [sD h,aV,Tu h]
 ·rw [JY h,aY,Zv h]
theorem Yb {m s:Int} (hm:0≤m) (hs:0≤s∧s<4294967296):u64.wrap (BitVec.ofInt u64.bits (u64.wrap (m*4294967296))|||BitVec.ofInt u64.bits s).toNat=m%4294967296*4294967296+s:=by
 have e:u64.wrap (m*4294967296)=m%4294967296*2 ^ 32:=by rw [oY];omega
 rw [e,XP (k:=32) (by omega) ⟨hs.1,by omega⟩ ⟨by omega,by omega⟩ (by omega)];omega
theorem yPN {a b:Int} (ha:gL a) (hb:gL b) (K:Int→Int→Prop):Bl a b K=K (a*b/18446744073709551616) (a*b%18446744073709551616):=by
 unfold Bl VI;simp only [tx];rw [Ad ha,Ad hb];unfold gL at ha hb;have ha':=ha;have hb':=hb;obtain ⟨x1,hx1⟩:∃ x,x=a/4294967296:=⟨_,rfl⟩;obtain ⟨x0,hx0⟩:∃ x,x=a%4294967296:=⟨_,rfl⟩;obtain ⟨y1,hy1⟩:∃ x,x=b/4294967296:=⟨_,rfl⟩;obtain ⟨y0,hy0⟩:∃ x,x=b%4294967296:=⟨_,rfl⟩;rw [← hx1,← hx0,← hy1,← hy0];have b1:0≤x1∧x1≤4294967295:=by omega
 have b2:0≤x0∧x0≤4294967295:=by omega
 have b3:0≤y1∧y1≤4294967295:=by omega
 have b4:0≤y0∧y0≤4294967295:=by omega
 have pb:∀ x y:Int,0≤x∧x≤4294967295→0≤y∧y≤4294967295→0≤x*y∧x*y≤18446744065119617025:=by intro x y hx hy;refine ⟨lZ hx.1 hy.1,?_⟩;have:=mC hx.2 hy.2 hy.1 (by omega:(0:Int)≤4294967295);omega
 have p1:=pb x1 y1 b1 b3;have p2:=pb x1 y0 b1 b4;have p3:=pb x0 y1 b2 b3;have p4:=pb x0 y0 b2 b4;have ea:a=x1*4294967296+x0:=by omega
 have eb:b=y1*4294967296+y0:=by omega
 have eab:a*b=x1*y1*18446744073709551616+x1*y0*4294967296+x0*y1*4294967296+x0*y0:=by rw [ea,eb];grind
 obtain ⟨P,hP⟩:∃ x,x=x1*y1:=⟨_,rfl⟩;obtain ⟨Q,hQ⟩:∃ x,x=x1*y0:=⟨_,rfl⟩;obtain ⟨R,hR⟩:∃ x,x=x0*y1:=⟨_,rfl⟩;obtain ⟨S,hS⟩:∃ x,x=x0*y0:=⟨_,rfl⟩;rw [← hP] at p1;rw [← hQ] at p2;rw [← hR] at p3;rw [← hS] at p4;rw [← hP,← hQ,← hR,← hS] at eab ⊢;have w1:u64.wrap S=S:=aX ⟨by omega,by omega⟩;have w2:u64.wrap Q=Q:=aX ⟨by omega,by omega⟩;have w3:u64.wrap R=R:=aX ⟨by omega,by omega⟩;have w4:u64.wrap P=P:=aX ⟨by omega,by omega⟩;rw [w1,w2,w3,w4,Ad (p:=Q) ⟨by omega,by omega⟩,Ad (p:=S) ⟨by omega,by omega⟩];have w5:u64.wrap (Q%4294967296+R)=Q%4294967296+R:=aX ⟨by omega,by omega⟩;rw [w5];have w6:u64.wrap (Q%4294967296+R+S/4294967296)=Q%4294967296+R+S/4294967296:=aX ⟨by omega,by omega⟩;rw [w6,Yb (by omega) ⟨by omega,by omega⟩];have hab:a*b≤18446744073709551615*18446744073709551615:=mC ha'.2 hb'.2 hb'.1 (by omega:(0:Int)≤18446744073709551615);rw [eab] at hab ⊢;have w7:u64.wrap (P+Q/4294967296)=P+Q/4294967296:=aX ⟨by omega,by omega⟩;rw [w7,aX ⟨by omega,by omega⟩];congr 1<;>omega
theorem Yc {X Y:Int} (hx:0≤X) (hy:0≤Y) (hs:X+Y<340282366920938463463374607431768211456) (K:Int→Int→Prop) :
  xL (X/18446744073709551616) (X%18446744073709551616) (Y/18446744073709551616) (Y%18446744073709551616) K=K ((X+Y)/18446744073709551616) ((X+Y)%18446744073709551616):=by
 unfold xL VU;rw [oY,oY,oY]
 by_cases h:(X%18446744073709551616+Y%18446744073709551616)%18446744073709551616<X%18446744073709551616
 ·rw [Os h,aY];congr 1<;>omega
 ·rw [Pn h,aV];congr 1<;>omega
theorem uz {X Y:Int} (hy:0≤Y) (hs:Y≤X) (hx:X<340282366920938463463374607431768211456) (K:Int→Int→Prop) :
  FT (X/18446744073709551616) (X%18446744073709551616) (Y/18446744073709551616) (Y%18446744073709551616) K=K ((X-Y)/18446744073709551616) ((X-Y)%18446744073709551616):=by
 unfold FT NB;rw [oY,oY,oY]
 by_cases h:X%18446744073709551616<Y%18446744073709551616
 ·rw [Os h,aY];congr 1<;>omega
 ·rw [Pn h,aV];congr 1<;>omega
theorem OA {X Y:Int} (hx:0≤X) (hy:0≤Y) (K:Bool→Prop) :
  Jf (X/18446744073709551616) (X%18446744073709551616) (Y/18446744073709551616) (Y%18446744073709551616) K=K (decide (X<Y)):=by
 unfold Jf VN
 by_cases h:X/18446744073709551616<Y/18446744073709551616
 ·rw [Os h,aY,Os (by omega)]
 ·rw [Pn h,aV]
  by_cases h2:X/18446744073709551616=Y/18446744073709551616
  ·rw [Ya h2,aY];congr 1;rw [Aab];omega
  ·rw [JZ h2,aV,Pn (by omega)]
theorem ySS {i:Int} (h:0≤i∧i≤127):i64.wrap (BitVec.ofInt i64.bits i&&&BitVec.ofInt i64.bits (63:Int)).toNat=i%64:=by
 have e1:(BitVec.ofInt 64 i).toNat=i.toNat:=by rw [BitVec.toNat_ofInt];omega
 have e2:(BitVec.ofInt 64 (63:Int)).toNat=63:=rfl;have e3:(BitVec.ofInt i64.bits i&&&BitVec.ofInt i64.bits (63:Int)).toNat=i.toNat%64:=by show (BitVec.ofInt 64 i&&&BitVec.ofInt 64 (63:Int)).toNat=_;rw [BitVec.toNat_and,e1,e2];exact Nat.and_two_pow_sub_one_eq_mod i.toNat 6
 rw [e3,dP ⟨by omega,by omega⟩];omega
theorem Kc {p:Int} (h:gL p):u64.wrap (BitVec.ofInt u64.bits p&&&BitVec.ofInt u64.bits (1:Int)).toNat=p%2:=by
 unfold gL at h;have e1:(BitVec.ofInt 64 p).toNat=p.toNat:=by
  rw [BitVec.toNat_ofInt];omega
 have e2:(BitVec.ofInt 64 (1:Int)).toNat=1:=rfl;have e3:(BitVec.ofInt u64.bits p&&&BitVec.ofInt u64.bits (1:Int)).toNat=p.toNat%2:=by show (BitVec.ofInt 64 p&&&BitVec.ofInt 64 (1:Int)).toNat=_;rw [BitVec.toNat_and,e1,e2];exact Nat.and_two_pow_sub_one_eq_mod p.toNat 1
 rw [e3,oY];omega
theorem vg {m s:Int} (hm:0≤m∧m≤9223372036854775807) (hs:0≤s∧s<2):u64.wrap (BitVec.ofInt u64.bits (m*2)|||BitVec.ofInt u64.bits s).toNat=m*2+s:=by have:=XP (a:=m) (b:=s) (k:=1) hm.1 ⟨hs.1,by omega⟩ ⟨by omega,by omega⟩ (by omega);simpa using this
theorem Kd (i:Nat):(2:Int) ^ i=((2 ^ i:Nat):Int):=by rw [Int.natCast_pow];rfl
theorem yRf {W:Nat} (hW:W=2 ^ 64) {A:Int} (hA:0≤A) {i:Nat} (hi:i<64):A%(W:Int)/(2 ^ i:Int)%((2:Nat):Int)=A/(2 ^ i:Int)%((2:Nat):Int):=by
 obtain ⟨a,rfl⟩:∃ a:Nat,A=a:=⟨A.toNat,by omega⟩;have:(a%W/2 ^ i%2:Nat)=a/2 ^ i%2:=by
  have e:W=2 ^ i*2 ^ (64-i):=by rw [← Nat.pow_add];rw [show i+(64-i)=64 by omega,hW]
  rw [e,Nat.mod_mul_right_div_self];have e2:2 ^ (64-i)=2*2 ^ (63-i):=by rw [show 64-i=(63-i)+1 by omega,Nat.pow_succ,Nat.mul_comm]
  rw [e2,Nat.mod_mul_right_mod]
 rw [Kd,← Int.natCast_emod,← mK,← Int.natCast_emod,← mK,← Int.natCast_emod,this]
theorem ySl {A:Int} (hA:0≤A) {i:Nat} (hi:i<64):A%18446744073709551616/(2 ^ i:Int)%2=A/(2 ^ i:Int)%2:=yRf (W:=18446744073709551616) rfl hA hi
theorem yRg {W:Nat} (hW:W=2 ^ 64) {A:Int} (hA:0≤A) {i:Nat} (hi:64≤i):A/(W:Int)/(2 ^ (i-64):Int)=A/(2 ^ i:Int):=by
 obtain ⟨a,rfl⟩:∃ a:Nat,A=a:=⟨A.toNat,by omega⟩;have:(a/W/2 ^ (i-64):Nat)=a/2 ^ i:=by
  have e:(2 ^ i:Nat)=W*2 ^ (i-64):=by rw [hW,← Nat.pow_add,show 64+(i-64)=i by omega]
  rw [e,Nat.div_div_eq_div_mul]
 rw [Kd,Kd,← mK,← mK,← mK,this]
theorem ySm {A:Int} (hA:0≤A) {i:Nat} (hi:64≤i):A/18446744073709551616/(2 ^ (i-64):Int)=A/(2 ^ i:Int):=yRg (W:=18446744073709551616) rfl hA hi
theorem yPO {d B q r b:Int} (hd:0<d) (hq:B/d=q) (hr:B%d=r) (hb:0≤b∧b≤1) :
  (2*B+b)/d=(if 2*r+b≥d then 2*q+1 else 2*q)∧(2*B+b)%d=(if 2*r+b≥d then 2*r+b-d else 2*r+b):=by
 have h1:=Int.mul_ediv_add_emod B d;have h2:=Ei B (show d≠0 by omega);have h3:=Ef B hd;rw [hq,hr] at h1;rw [hr] at h2 h3;split
 ·refine (Int.ediv_emod_unique hd).2 ⟨?_,by omega,by omega⟩;grind
 ·refine (Int.ediv_emod_unique hd).2 ⟨?_,by omega,by omega⟩;grind
theorem yMb {A d:Int} (hA:0≤A∧A<340282366920938463463374607431768211456) (hd:0<d∧d<9223372036854775808) {x0:Int→Int→Int→Int→Int→Int→Int→Int→Int→Bool→Prop}
  (k0:x0 d (A/18446744073709551616) (A%18446744073709551616) 0 0 (A/d/18446744073709551616) (A/d%18446744073709551616) (A%d) (-1) false) :
  ∀ (k n:Nat),k≤128→k<n→vQ xL x0 n d (A/18446744073709551616) (A%18446744073709551616) 0 0
   (A/2 ^ k/d/18446744073709551616) (A/2 ^ k/d%18446744073709551616) (A/2 ^ k%d) ((k:Int)-1):=by
 intro k;induction k with
 | zero=>
  intro n _ hn
  match n,hn with
  | n+1,_=>
   unfold vQ;rw [Pn (by omega),aV];have e:A/2 ^ 0=A:=by rw [Int.pow_zero,Int.ediv_one]
   rw [e];exact k0
 | succ k ih=>
  intro n hk hn
  match n,hn with
  | n+1,hn=>
   unfold vQ;have e8:((k+1:Nat):Int)-1=(k:Int):=by omega
   rw [e8,Os (by omega),aY];rw [ySS (i:=(k:Int)) ⟨by omega,by omega⟩];have en:(!decide ((k:Int)%64<0))=true:=by rw [Pn (by omega)];rfl
   have em:min ((k:Int)%64).toNat u64.bits=k%64:=by show min _ 64=_;omega
   rw [en,dI,dI,em];have pp:∀ m:Nat,(0:Int)≤2 ^ m:=fun m=>by rw [Kd];exact wO _
   have p1:∀ m:Nat,(0:Int)<2 ^ m:=fun m=>by rw [Kd];exact Int.natCast_pos.2 (Nat.two_pow_pos m)
   simp only [Bw _ _ (pp _)];have hC0:0≤A/2 ^ k:=wQ hA.1 (pp _);have hCA:A/2 ^ k≤A:=Ay _ hA.1;have hBC:A/2 ^ (k+1)=A/2 ^ k/2:=by
    rw [Int.pow_succ,Int.ediv_ediv_of_nonneg (pp k)]
   obtain ⟨C,hC⟩:∃ C,C=A/2 ^ k:=⟨_,rfl⟩;have ih2:=ih n (by omega) (by omega);rw [← hC] at hC0 hCA hBC ih2;rw [hBC];obtain ⟨b,hb⟩:∃ b,b=C%2:=⟨_,rfl⟩;have hCb:C=2*(C/2)+b:=by omega
   obtain ⟨s1,s2⟩:=yPO (B:=C/2) (b:=b) hd.1 rfl rfl ⟨by omega,by omega⟩;rw [← hCb] at s1 s2;have r0:=Ei (C/2) (show d≠0 by omega);have r1:=Ef (C/2) hd.1;have q0:0≤C/2/d:=wQ (by omega) (by omega);have q1:C/2/d≤C/2:=Ay _ (by omega);rw [s1,s2] at ih2;obtain ⟨q,hq⟩:∃ q,q=C/2/d:=⟨_,rfl⟩;obtain ⟨r,hr⟩:∃ r,r=C/2%d:=⟨_,rfl⟩;rw [← hq,← hr] at ih2;rw [← hq] at q0 q1;rw [← hr] at r0 r1;rw [← hq,← hr];have e2:u64.wrap (r*2)=r*2:=aX ⟨by omega,by omega⟩;rw [e2,dP (n:=(k:Int)-1) ⟨by omega,by omega⟩];rw [Yc q0 q0 (by omega),Yc q0 q0 (by omega)];have hlo:0≤A%18446744073709551616/2 ^ (k%64)∧A%18446744073709551616/2 ^ (k%64)≤18446744073709551615:=by
    refine ⟨wQ (by omega) (pp _),?_⟩;have:=Ay (a:=A%18446744073709551616) (2 ^ (k%64)) (by omega);omega
   have hhi:0≤A/18446744073709551616/2 ^ (k%64)∧A/18446744073709551616/2 ^ (k%64)≤18446744073709551615:=by refine ⟨wQ (by omega) (pp _),?_⟩;have:=Ay (a:=A/18446744073709551616) (2 ^ (k%64)) (by omega);omega
   rw [Kc hlo,Kc hhi];have go:∀ bb:Int,bb=b→aA (decide (u64.wrap (BitVec.ofInt u64.bits (r*2)|||BitVec.ofInt u64.bits bb).toNat≥d))
     (vQ xL x0 n d (A/18446744073709551616) (A%18446744073709551616) 0 0 ((q+q)/18446744073709551616) (u64.wrap (BitVec.ofInt u64.bits ((q+q)%18446744073709551616)|||BitVec.ofInt u64.bits (1:Int)).toNat) (u64.wrap ((u64.wrap (BitVec.ofInt u64.bits (r*2)|||BitVec.ofInt u64.bits bb).toNat)-d)) ((k:Int)-1))
     (vQ xL x0 n d (A/18446744073709551616) (A%18446744073709551616) 0 0 ((q+q)/18446744073709551616) ((q+q)%18446744073709551616) (u64.wrap (BitVec.ofInt u64.bits (r*2)|||BitVec.ofInt u64.bits bb).toNat) ((k:Int)-1)):=by
    intro bb hbb;rw [hbb,vg ⟨r0,by omega⟩ ⟨by omega,by omega⟩]
    by_cases hge:2*r+b≥d
    ·rw [Tu hge,Tu hge] at ih2;rw [Os (show r*2+b≥d by omega),aY,aX (n:=r*2+b-d) ⟨by omega,by omega⟩];have e3:(q+q)%18446744073709551616=((q%9223372036854775808)*2):=by omega
     rw [e3,vg ⟨by omega,by omega⟩ ⟨by omega,by omega⟩];have e4:(q+q)/18446744073709551616=(2*q+1)/18446744073709551616:=by omega
     have e5:q%9223372036854775808*2+1=(2*q+1)%18446744073709551616:=by omega
     rw [e4,e5,show r*2+b-d=2*r+b-d by omega];exact ih2
    ·rw [Zv hge,Zv hge] at ih2;rw [Pn (show ¬r*2+b≥d by omega),aV,show q+q=2*q by omega,show r*2+b=2*r+b by omega];exact ih2
   by_cases h64:(k:Int)≥64
   ·rw [Os h64,aY];refine go _ ?_;rw [show k%64=k-64 by omega,ySm hA.1 (by omega),← hC,hb]
   ·rw [Pn h64,aV];refine go _ ?_;rw [show k%64=k by omega,ySl hA.1 (by omega),← hC,hb]
theorem yPP {A d:Int} (hA:0≤A∧A<340282366920938463463374607431768211456) (hd:0<d∧d<9223372036854775808) (K:Int→Int→Int→Prop) :
  zO (A/18446744073709551616) (A%18446744073709551616) d K=K (A/d/18446744073709551616) (A/d%18446744073709551616) (A%d):=by
 refine yFm _ _ _ _ _ _ (fun K h=>?_) K;unfold zO VW;refine ⟨129,?_⟩;have e:=yMb (x0:=fun f g i j k a b c l m=>K a b c) hA hd h 128 129 (by omega) (by omega);have z:A/2 ^ 128=0:=Int.ediv_eq_zero_of_lt hA.1 hA.2;rw [z,Int.zero_ediv,Int.zero_emod] at e;exact e
theorem vh {s:Bool} {X Y:Int} (hx:0≤X) (hy:0≤Y) (K:Int→Int→Int→Prop) :
  FS s (X/18446744073709551616) (X%18446744073709551616) (Y/18446744073709551616) (Y%18446744073709551616) K=gC s X Y K:=by
 unfold FS VK gC
 by_cases h:X≤1000000000000000000∧Y≤1000000000000000000
 ·have e1:i64.wrap (X%18446744073709551616)=X:=by rw [show X%18446744073709551616=X by omega,dP ⟨by omega,by omega⟩]
  have e2:i64.wrap (Y%18446744073709551616)=Y:=by rw [show Y%18446744073709551616=Y by omega,dP ⟨by omega,by omega⟩]
  rw [Tu h,Pn (by omega),aV,Pn (by omega),aV,Pn (by omega),aV,Pn (by omega),aV,e1,e2]
  cases s
  ·rw [aV];rfl
  ·rw [aY,dP ⟨by omega,by omega⟩,Int.zero_sub];rfl
 ·rw [Zv h]
  by_cases h1:X/18446744073709551616>0
  ·rw [Os h1,aY]
  ·rw [Pn h1,aV]
   by_cases h2:Y/18446744073709551616>0
   ·rw [Os h2,aY]
   ·rw [Pn h2,aV]
    by_cases h3:X%18446744073709551616>1000000000000000000
    ·rw [Os h3,aY]
    ·rw [Pn h3,aV,Os (by omega),aY]
theorem GB {g:Int} (h:g≠0) {P:Prop}:aB (!(decide (g=(0:Int)))) P=P:=by rw [Pn h];rfl
theorem nG {n:Nat} (h:(n:Int)≤18446744073709551615):u64.wrap (n:Int)=n:=aX ⟨by omega,h⟩
theorem Ke (a b:Nat):Int.tdiv (a:Int) (b:Int)=((a/b:Nat):Int):=by rw [Int.tdiv_eq_ediv_of_nonneg (by omega),mK]
theorem vi {A d:Nat} (hA:A<340282366920938463463374607431768211456) (hd:0<d∧d<9223372036854775808) (K:Int→Int→Int→Prop) :
  zO ((A:Int)/18446744073709551616) ((A:Int)%18446744073709551616) d K=K (((A/d:Nat):Int)/18446744073709551616) (((A/d:Nat):Int)%18446744073709551616) ((A%d:Nat):Int):=by
 rw [yPP ⟨by omega,by omega⟩ ⟨by omega,by omega⟩,mK,Int.natCast_emod]
theorem DJ {a b:Nat} (ha:a≤18446744073709551615) (hb:b≤18446744073709551615) (K:Int→Int→Prop) :
  Bl (a:Int) (b:Int) K=K (((a*b:Nat):Int)/18446744073709551616) (((a*b:Nat):Int)%18446744073709551616):=by
 rw [yPN ⟨by omega,by omega⟩ ⟨by omega,by omega⟩,yB]
theorem yOq {a b c d:Int} {K:Int→Int→Prop} {Z:Prop} (h:∀ u v,K u v=Z):FT a b c d K=Z:=by
 unfold FT NB;simp only [h]
 by_cases e:b<d
 ·rw [Os e,aY]
 ·rw [Pn e,aV]
theorem yRh {s:Bool} {Z p1 p3 g:Nat} (hZ:Z<340282366920938463463374607431768211456) (hg:0<g) (g1:g≤1000000000000000000) (h1:p1≤1000000000000000000) (h3:p3≤1000000000000000000) (K:Int→Int→Int→Prop) :
  aA (((Z:Int)/18446744073709551616 ==(0:Int))&&(((Z:Int)%18446744073709551616 ==(0:Int))&&true)) (K 0 1 0)
   (zO ((Z:Int)/18446744073709551616) ((Z:Int)%18446744073709551616) (g:Int) (fun _ _ b=>
    (vM b (g:Int) (fun a=>
     (zO ((Z:Int)/18446744073709551616) ((Z:Int)%18446744073709551616) a (fun c d _=>
      (aB (!(decide ((g:Int)=(0:Int)))) (aB (!(decide (a=(0:Int))))
       (Bl (u64.wrap (Int.tdiv (u64.wrap (p1:Int)) (g:Int))) (u64.wrap (Int.tdiv (u64.wrap (p3:Int)) a)) (fun f h=>
        (FS s c d f h (fun i j k=>K i j k))))))))))))=fS s (Z:Int) p1 p3 g K:=by
 unfold fS
 by_cases h0:Z=0
 ·subst h0;rfl
 ·have e:(((Z:Int)/18446744073709551616 ==(0:Int))&&(((Z:Int)%18446744073709551616 ==(0:Int))&&true))=false:=by
   by_cases e1:(Z:Int)/18446744073709551616=0
   ·rw [Ya e1,JZ (by omega)];rfl
   ·rw [JZ e1];rfl
  have hg0:0<Nat.gcd Z g:=xX _ hg;have hgg:Nat.gcd Z g≤g:=Nat.gcd_le_right _ hg;have eg:Nat.gcd (Z%g) g=Nat.gcd Z g:=by rw [wV Z g,Nat.gcd_rec g Z]
  have q1:p1/g≤p1:=oG _ _;have q3:p3/Nat.gcd Z g≤p3:=oG _ _;rw [e,aV,Zv (by omega),vi hZ ⟨hg,by omega⟩];simp only [JX,eg];rw [vi hZ ⟨hg0,by omega⟩,GB (by omega),GB (by omega),nG (by omega),nG (by omega),Ke,Ke,nG (by omega),nG (by omega),DJ (by omega) (by omega)];rw [vh (wO _) (wO _)];simp only [cP]
theorem OB {q r:Rat} (hq:small q) (hr:small r) (K:Int→Int→Int→Prop):tX q.num q.den r.num r.den K=fitK (q+r) K:=by
 unfold tX VZ;rw [Kb hq.i1 hq.i2 hr.i1 hr.i2,Af hq hr,sD rfl,aV,← XX];obtain ⟨a1,a2,a3⟩:=hq;obtain ⟨b1,b2,b3⟩:=hr;have dq:=q.den_pos;have dr:=r.den_pos;have g0:0<Nat.gcd q.den r.den:=Nat.gcd_pos_of_pos_left _ dq;have gl:Nat.gcd q.den r.den≤q.den:=Nat.gcd_le_left _ dq;have w1:vM (u64.wrap (q.den:Int)) (u64.wrap (r.den:Int))=vM (q.den:Int) (r.den:Int):=by rw [nG (by omega),nG (by omega)]
 rw [w1,JX,Ag ⟨by omega,by omega⟩,GB (by omega)];show _=fS (decide (q.num*((r.den:Int)/(Nat.gcd q.den r.den:Nat))+r.num*((q.den:Int)/(Nat.gcd q.den r.den:Nat))<0)) ((q.num*((r.den:Int)/(Nat.gcd q.den r.den:Nat))+r.num*((q.den:Int)/(Nat.gcd q.den r.den:Nat))).natAbs:Int) q.den r.den (Nat.gcd q.den r.den) K;obtain ⟨g,hg⟩:∃ g,g=Nat.gcd q.den r.den:=⟨_,rfl⟩;rw [← hg] at g0 gl ⊢;have q3:r.den/g≤r.den:=oG _ _;have q4:q.den/g≤q.den:=oG _ _;have t1:u64.wrap (Int.tdiv (u64.wrap (r.den:Int)) (g:Int))=((r.den/g:Nat):Int):=by rw [nG (by omega),Ke,nG (by omega)]
 have t2:u64.wrap (Int.tdiv (u64.wrap (q.den:Int)) (g:Int))=((q.den/g:Nat):Int):=by rw [nG (by omega),Ke,nG (by omega)]
 rw [t1,DJ (by omega) (by omega)];rw [Ag ⟨by omega,by omega⟩,GB (by omega),t2,DJ (by omega) (by omega)];rw [← mK,← mK];obtain ⟨x,hx⟩:∃ x,x=r.den/g:=⟨_,rfl⟩;obtain ⟨y,hy⟩:∃ y,y=q.den/g:=⟨_,rfl⟩;rw [← hx] at q3 ⊢;rw [← hy] at q4 ⊢;have X1:q.num.natAbs*x≤1000000000000000000*1000000000000000000:=AB (by omega) (by omega);have Y1:r.num.natAbs*y≤1000000000000000000*1000000000000000000:=AB (by omega) (by omega);have ax:q.num*(x:Int)=if q.num<0 then -((q.num.natAbs*x:Nat):Int) else ((q.num.natAbs*x:Nat):Int):=by
  rw [yB];split
  ·rw [show ((q.num.natAbs:Nat):Int)=-q.num by omega,AD,Int.neg_neg]
  ·rw [show ((q.num.natAbs:Nat):Int)=q.num by omega]
 have cy:r.num*(y:Int)=if r.num<0 then -((r.num.natAbs*y:Nat):Int) else ((r.num.natAbs*y:Nat):Int):=by
  rw [yB];split
  ·rw [show ((r.num.natAbs:Nat):Int)=-r.num by omega,AD,Int.neg_neg]
  ·rw [show ((r.num.natAbs:Nat):Int)=r.num by omega]
 rw [ax,cy];obtain ⟨X,hX⟩:∃ X,X=q.num.natAbs*x:=⟨_,rfl⟩;obtain ⟨Y,hY⟩:∃ Y,Y=r.num.natAbs*y:=⟨_,rfl⟩;rw [← hX] at X1 ⊢;rw [← hY] at Y1 ⊢;rw [Yc (by omega) (by omega) (by omega)];have fin:=fun (s:Bool) (Z:Nat) (hZ:Z<340282366920938463463374607431768211456)=>yRh (s:=s) (Z:=Z) (p1:=q.den) (p3:=r.den) (g:=g) hZ g0 (by omega) (by omega) (by omega) K
 simp only [t2,← hy] at fin;have cong:∀ (s s':Bool) (Z Z':Int),Z=Z'→(Z≠0→s=s')→fS s Z q.den r.den g K=fS s' Z' q.den r.den g K:=by
  intro s s' Z Z' h1 h2;subst h1
  by_cases h:Z=0
  ·unfold fS;rw [Tu h,Tu h]
  ·rw [h2 h]
 by_cases hs:decide (q.num<0)=decide (r.num<0)
 ·have e:(decide (q.num<0) !=decide (r.num<0))=false:=by rw [hs];simp
  rw [e,aV,show (X:Int)+Y=((X+Y:Nat):Int) by omega];rw [fin (decide (q.num<0)) (X+Y) (by omega)];refine cong _ _ _ _ ?_ ?_
  ·by_cases h1:q.num<0
   ·have h2:r.num<0:=by simpa [h1] using hs.symm
    rw [Tu h1,Tu h2];omega
   ·have h2:¬r.num<0:=by simpa [h1] using hs.symm
    rw [Zv h1,Zv h2];omega
  ·intro h0
   by_cases h1:q.num<0
   ·have h2:r.num<0:=by simpa [h1] using hs.symm
    rw [Tu h1,Tu h2,Os h1,Os (by omega)]
   ·have h2:¬r.num<0:=by simpa [h1] using hs.symm
    rw [Zv h1,Zv h2,Pn h1,Pn (by omega)]
 ·have e:(decide (q.num<0) !=decide (r.num<0))=true:=by simpa using hs
  have h12:(q.num<0∧¬r.num<0)∨(¬q.num<0∧r.num<0):=by
   by_cases h1:q.num<0<;>by_cases h2:r.num<0<;>simp [h1,h2] at hs ⊢
  rw [e,aY]
  by_cases hlt:X<Y
  ·refine yOq (fun u v=>?_);rw [OA (by omega) (by omega),Os (by omega),aY,uz (by omega) (by omega) (by omega)];have ez:(Y:Int)-X=((Y-X:Nat):Int):=by omega
   rw [ez];rw [fin (decide (r.num<0)) (Y-X) (by omega)];refine cong _ _ _ _ ?_ ?_
   ·rcases h12 with ⟨h1,h2⟩ | ⟨h1,h2⟩
    ·rw [Tu h1,Zv h2];omega
    ·rw [Zv h1,Tu h2];omega
   ·intro h0;rcases h12 with ⟨h1,h2⟩ | ⟨h1,h2⟩
    ·rw [Tu h1,Zv h2,Pn h2,Pn (by omega)]
    ·rw [Zv h1,Tu h2,Os h2,Os (by omega)]
  ·rw [uz (by omega) (by omega) (by omega),OA (by omega) (by omega),Pn (by omega),aV];have ez:(X:Int)-Y=((X-Y:Nat):Int):=by omega
   rw [ez];rw [fin (decide (q.num<0)) (X-Y) (by omega)];refine cong _ _ _ _ ?_ ?_
   ·rcases h12 with ⟨h1,h2⟩ | ⟨h1,h2⟩
    ·rw [Tu h1,Zv h2];omega
    ·rw [Zv h1,Tu h2];omega
   ·intro h0;rcases h12 with ⟨h1,h2⟩ | ⟨h1,h2⟩
    ·rw [Tu h1,Zv h2,Os h1,Os (by omega)]
    ·rw [Zv h1,Tu h2,Pn h1,Pn (by omega)]
theorem yRi {q:Rat} (hq:small q) (K:Int→Int→Prop):NA q.num q.den K=K (-q).num (-q).den:=by unfold NA VS;obtain ⟨a1,a2,a3⟩:=hq;rw [dP ⟨by omega,by omega⟩,Int.zero_sub];rfl
theorem small.neg {q:Rat} (hq:small q):small (-q):=by obtain ⟨a1,a2,a3⟩:=hq;unfold small;rw [Rat.neg_num,Rat.neg_den];omega
theorem Yd {q r:Rat} (hq:small q) (hr:small r) (K:Int→Int→Int→Prop):xM q.num q.den r.num r.den K=fitK (q-r) K:=by unfold xM Wb;rw [Kb hq.i1 hq.i2 hr.i1 hr.i2,Af hq hr,sD rfl,aV,yRi hr,OB hq hr.neg,Rat.sub_eq_add_neg]
end Go.Pf.Vc
