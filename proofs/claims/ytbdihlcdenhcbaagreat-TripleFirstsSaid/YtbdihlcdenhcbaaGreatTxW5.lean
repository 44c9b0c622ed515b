/- Part 5. -/
import Derived.Test.YtbdihlcdenhcbaaGreatTxW4
open Go.IntKind (i64 u8 u64)
open List (length getD take drop replicate set map isEmpty)
noncomputable section
namespace Go.Pf.Vc
open Go Go.Pf
set_option maxRecDepth 100000
set_option maxHeartbeats 0
def yB (a0:cC) (a1:bY) (a2:fL) (a3 a4:fC) (a5:fM) (a6:fS) (a7:bZ) (x0:Ls→Ls→bF (J4 (Int→Prop))):Nat→Ls→Ls→bF (bF (bF (Bool→Bool→Bool→Prop)))
 | _,b,c,d,e,f,g,h,i,j,k,l,m,o,p,q,r,s,t,u,v,w,z,A,B,C,D,E,F,G,H,I,J,L,M,N,O,P,R,S,T,U,V,W,X,Y,Z,y0,y1,y2,y3,y4,y5,y6=>
 (a6 X Y Z y0 y1 y2 y4 y5 y6 (fun y7=>(aB (decide (y7=0)) (aB (decide (y3=0)) (a7 X Y X Y (fun y8=>(∃ m0:Nat,sG a0 a1 a2 a3 a4 a5 a6 a7 (fun y9 y10 y11 y12 y13 y14 y15 y16 y17 y18 y19 y20 y21 y22 y23 y24 y25 y26 y27 y28 y29 y30 y31 y32 y33 y34 y35 y36 y37 y38 y39 y40 y41 y42 y43 y44 y45 y46 y47 y48 y49 y50 y51 y52 y53 y54 y55 y56 y57 y58 y59 y60=>(∃ m1:Nat,qM a0 a1 a2 a3 a4 a5 a6 a7 x0 m1 y9 y10 y11 y12 y13 y14 y15 y16 y17 y18 y19 y20 y21 y22 y23 y24 y25 y26 y27 y28 y29 y30 y31 y32 y33 y34 y35 y36 y37 y38 y39 y40 y41 y42 y43 y44 y45 y46 y47 y48 y49 y50 y51 y52 y53 y54 y55 y56 y57 y58 y59 y60)) (fun y9 y10 y11 y12 y13 y14 y15 y16 y17 y18 y19 y20 y21 y22 y23 y24 y25 y26 y27 y28 y29 y30 y31 y32 y33 y34 y35 y36 y37 y38 y39 y40 y41 y42 y43 y44 y45 y46 y47 y48 y49 y50 y51 y52 y53 y54 y55 y56 y57 y58 y59 y60 y61 y62 y63=>(∃ m1:Nat,qN a0 a1 a2 a3 a4 a5 a6 a7 x0 m1 y9 y10 y11 y12 y13 y14 y15 y16 y17 y18 y19 y20 y21 y22 y23 y24 y25 y26 y27 y28 y29 y30 y31 y32 y33 y34 y35 y36 y37 y38 y39 y40 y41 y42 y43 y44 y45 y46 y47 y48 y49 y50 y51 y52 y53 y54 y55 y56 y57 y58 y59 y60 y61 y62 y63)) m0 b c d e f g h i j k l m o p q r s t u v w z A B C D E F G H I J L M N O P R S T U V W X Y Z y0 y1 y2 y3 y4 y5 y6 y7 y8))) (aB (decide (y3=1)) (a7 X Y Z y0 (fun y8=>(∃ m0:Nat,sG a0 a1 a2 a3 a4 a5 a6 a7 (fun y9 y10 y11 y12 y13 y14 y15 y16 y17 y18 y19 y20 y21 y22 y23 y24 y25 y26 y27 y28 y29 y30 y31 y32 y33 y34 y35 y36 y37 y38 y39 y40 y41 y42 y43 y44 y45 y46 y47 y48 y49 y50 y51 y52 y53 y54 y55 y56 y57 y58 y59 y60=>(∃ m1:Nat,qM a0 a1 a2 a3 a4 a5 a6 a7 x0 m1 y9 y10 y11 y12 y13 y14 y15 y16 y17 y18 y19 y20 y21 y22 y23 y24 y25 y26 y27 y28 y29 y30 y31 y32 y33 y34 y35 y36 y37 y38 y39 y40 y41 y42 y43 y44 y45 y46 y47 y48 y49 y50 y51 y52 y53 y54 y55 y56 y57 y58 y59 y60)) (fun y9 y10 y11 y12 y13 y14 y15 y16 y17 y18 y19 y20 y21 y22 y23 y24 y25 y26 y27 y28 y29 y30 y31 y32 y33 y34 y35 y36 y37 y38 y39 y40 y41 y42 y43 y44 y45 y46 y47 y48 y49 y50 y51 y52 y53 y54 y55 y56 y57 y58 y59 y60 y61 y62 y63=>(∃ m1:Nat,qN a0 a1 a2 a3 a4 a5 a6 a7 x0 m1 y9 y10 y11 y12 y13 y14 y15 y16 y17 y18 y19 y20 y21 y22 y23 y24 y25 y26 y27 y28 y29 y30 y31 y32 y33 y34 y35 y36 y37 y38 y39 y40 y41 y42 y43 y44 y45 y46 y47 y48 y49 y50 y51 y52 y53 y54 y55 y56 y57 y58 y59 y60 y61 y62 y63)) m0 b c d e f g h i j k l m o p q r s t u v w z A B C D E F G H I J L M N O P R S T U V W X Y Z y0 y1 y2 y3 y4 y5 y6 y7 y8))) (aB (decide (y3=2)) (a7 X Y y1 y2 (fun y8=>(∃ m0:Nat,sG a0 a1 a2 a3 a4 a5 a6 a7 (fun y9 y10 y11 y12 y13 y14 y15 y16 y17 y18 y19 y20 y21 y22 y23 y24 y25 y26 y27 y28 y29 y30 y31 y32 y33 y34 y35 y36 y37 y38 y39 y40 y41 y42 y43 y44 y45 y46 y47 y48 y49 y50 y51 y52 y53 y54 y55 y56 y57 y58 y59 y60=>(∃ m1:Nat,qM a0 a1 a2 a3 a4 a5 a6 a7 x0 m1 y9 y10 y11 y12 y13 y14 y15 y16 y17 y18 y19 y20 y21 y22 y23 y24 y25 y26 y27 y28 y29 y30 y31 y32 y33 y34 y35 y36 y37 y38 y39 y40 y41 y42 y43 y44 y45 y46 y47 y48 y49 y50 y51 y52 y53 y54 y55 y56 y57 y58 y59 y60)) (fun y9 y10 y11 y12 y13 y14 y15 y16 y17 y18 y19 y20 y21 y22 y23 y24 y25 y26 y27 y28 y29 y30 y31 y32 y33 y34 y35 y36 y37 y38 y39 y40 y41 y42 y43 y44 y45 y46 y47 y48 y49 y50 y51 y52 y53 y54 y55 y56 y57 y58 y59 y60 y61 y62 y63=>(∃ m1:Nat,qN a0 a1 a2 a3 a4 a5 a6 a7 x0 m1 y9 y10 y11 y12 y13 y14 y15 y16 y17 y18 y19 y20 y21 y22 y23 y24 y25 y26 y27 y28 y29 y30 y31 y32 y33 y34 y35 y36 y37 y38 y39 y40 y41 y42 y43 y44 y45 y46 y47 y48 y49 y50 y51 y52 y53 y54 y55 y56 y57 y58 y59 y60 y61 y62 y63)) m0 b c d e f g h i j k l m o p q r s t u v w z A B C D E F G H I J L M N O P R S T U V W X Y Z y0 y1 y2 y3 y4 y5 y6 y7 y8))) False))) (aB (decide (y7=1)) (aB (decide (y3=0)) (a7 Z y0 X Y (fun y8=>(∃ m0:Nat,sG a0 a1 a2 a3 a4 a5 a6 a7 (fun y9 y10 y11 y12 y13 y14 y15 y16 y17 y18 y19 y20 y21 y22 y23 y24 y25 y26 y27 y28 y29 y30 y31 y32 y33 y34 y35 y36 y37 y38 y39 y40 y41 y42 y43 y44 y45 y46 y47 y48 y49 y50 y51 y52 y53 y54 y55 y56 y57 y58 y59 y60=>(∃ m1:Nat,qM a0 a1 a2 a3 a4 a5 a6 a7 x0 m1 y9 y10 y11 y12 y13 y14 y15 y16 y17 y18 y19 y20 y21 y22 y23 y24 y25 y26 y27 y28 y29 y30 y31 y32 y33 y34 y35 y36 y37 y38 y39 y40 y41 y42 y43 y44 y45 y46 y47 y48 y49 y50 y51 y52 y53 y54 y55 y56 y57 y58 y59 y60)) (fun y9 y10 y11 y12 y13 y14 y15 y16 y17 y18 y19 y20 y21 y22 y23 y24 y25 y26 y27 y28 y29 y30 y31 y32 y33 y34 y35 y36 y37 y38 y39 y40 y41 y42 y43 y44 y45 y46 y47 y48 y49 y50 y51 y52 y53 y54 y55 y56 y57 y58 y59 y60 y61 y62 y63=>(∃ m1:Nat,qN a0 a1 a2 a3 a4 a5 a6 a7 x0 m1 y9 y10 y11 y12 y13 y14 y15 y16 y17 y18 y19 y20 y21 y22 y23 y24 y25 y26 y27 y28 y29 y30 y31 y32 y33 y34 y35 y36 y37 y38 y39 y40 y41 y42 y43 y44 y45 y46 y47 y48 y49 y50 y51 y52 y53 y54 y55 y56 y57 y58 y59 y60 y61 y62 y63)) m0 b c d e f g h i j k l m o p q r s t u v w z A B C D E F G H I J L M N O P R S T U V W X Y Z y0 y1 y2 y3 y4 y5 y6 y7 y8))) (aB (decide (y3=1)) (a7 Z y0 Z y0 (fun y8=>(∃ m0:Nat,sG a0 a1 a2 a3 a4 a5 a6 a7 (fun y9 y10 y11 y12 y13 y14 y15 y16 y17 y18 y19 y20 y21 y22 y23 y24 y25 y26 y27 y28 y29 y30 y31 y32 y33 y34 y35 y36 y37 y38 y39 y40 y41 y42 y43 y44 y45 y46 y47 y48 y49 y50 y51 y52 y53 y54 y55 y56 y57 y58 y59 y60=>(∃ m1:Nat,qM a0 a1 a2 a3 a4 a5 a6 a7 x0 m1 y9 y10 y11 y12 y13 y14 y15 y16 y17 y18 y19 y20 y21 y22 y23 y24 y25 y26 y27 y28 y29 y30 y31 y32 y33 y34 y35 y36 y37 y38 y39 y40 y41 y42 y43 y44 y45 y46 y47 y48 y49 y50 y51 y52 y53 y54 y55 y56 y57 y58 y59 y60)) (fun y9 y10 y11 y12 y13 y14 y15 y16 y17 y18 y19 y20 y21 y22 y23 y24 y25 y26 y27 y28 y29 y30 y31 y32 y33 y34 y35 y36 y37 y38 y39 y40 y41 y42 y43 y44 y45 y46 y47 y48 y49 y50 y51 y52 y53 y54 y55 y56 y57 y58 y59 y60 y61 y62 y63=>(∃ m1:Nat,qN a0 a1 a2 a3 a4 a5 a6 a7 x0 m1 y9 y10 y11 y12 y13 y14 y15 y16 y17 y18 y19 y20 y21 y22 y23 y24 y25 y26 y27 y28 y29 y30 y31 y32 y33 y34 y35 y36 y37 y38 y39 y40 y41 y42 y43 y44 y45 y46 y47 y48 y49 y50 y51 y52 y53 y54 y55 y56 y57 y58 y59 y60 y61 y62 y63)) m0 b c d e f g h i j k l m o p q r s t u v w z A B C D E F G H I J L M N O P R S T U V W X Y Z y0 y1 y2 y3 y4 y5 y6 y7 y8))) (aB (decide (y3=2)) (a7 Z y0 y1 y2 (fun y8=>(∃ m0:Nat,sG a0 a1 a2 a3 a4 a5 a6 a7 (fun y9 y10 y11 y12 y13 y14 y15 y16 y17 y18 y19 y20 y21 y22 y23 y24 y25 y26 y27 y28 y29 y30 y31 y32 y33 y34 y35 y36 y37 y38 y39 y40 y41 y42 y43 y44 y45 y46 y47 y48 y49 y50 y51 y52 y53 y54 y55 y56 y57 y58 y59 y60=>(∃ m1:Nat,qM a0 a1 a2 a3 a4 a5 a6 a7 x0 m1 y9 y10 y11 y12 y13 y14 y15 y16 y17 y18 y19 y20 y21 y22 y23 y24 y25 y26 y27 y28 y29 y30 y31 y32 y33 y34 y35 y36 y37 y38 y39 y40 y41 y42 y43 y44 y45 y46 y47 y48 y49 y50 y51 y52 y53 y54 y55 y56 y57 y58 y59 y60)) (fun y9 y10 y11 y12 y13 y14 y15 y16 y17 y18 y19 y20 y21 y22 y23 y24 y25 y26 y27 y28 y29 y30 y31 y32 y33 y34 y35 y36 y37 y38 y39 y40 y41 y42 y43 y44 y45 y46 y47 y48 y49 y50 y51 y52 y53 y54 y55 y56 y57 y58 y59 y60 y61 y62 y63=>(∃ m1:Nat,qN a0 a1 a2 a3 a4 a5 a6 a7 x0 m1 y9 y10 y11 y12 y13 y14 y15 y16 y17 y18 y19 y20 y21 y22 y23 y24 y25 y26 y27 y28 y29 y30 y31 y32 y33 y34 y35 y36 y37 y38 y39 y40 y41 y42 y43 y44 y45 y46 y47 y48 y49 y50 y51 y52 y53 y54 y55 y56 y57 y58 y59 y60 y61 y62 y63)) m0 b c d e f g h i j k l m o p q r s t u v w z A B C D E F G H I J L M N O P R S T U V W X Y Z y0 y1 y2 y3 y4 y5 y6 y7 y8))) False))) (aB (decide (y7=2)) (aB (decide (y3=0)) (a7 y1 y2 X Y (fun y8=>(∃ m0:Nat,sG a0 a1 a2 a3 a4 a5 a6 a7 (fun y9 y10 y11 y12 y13 y14 y15 y16 y17 y18 y19 y20 y21 y22 y23 y24 y25 y26 y27 y28 y29 y30 y31 y32 y33 y34 y35 y36 y37 y38 y39 y40 y41 y42 y43 y44 y45 y46 y47 y48 y49 y50 y51 y52 y53 y54 y55 y56 y57 y58 y59 y60=>(∃ m1:Nat,qM a0 a1 a2 a3 a4 a5 a6 a7 x0 m1 y9 y10 y11 y12 y13 y14 y15 y16 y17 y18 y19 y20 y21 y22 y23 y24 y25 y26 y27 y28 y29 y30 y31 y32 y33 y34 y35 y36 y37 y38 y39 y40 y41 y42 y43 y44 y45 y46 y47 y48 y49 y50 y51 y52 y53 y54 y55 y56 y57 y58 y59 y60)) (fun y9 y10 y11 y12 y13 y14 y15 y16 y17 y18 y19 y20 y21 y22 y23 y24 y25 y26 y27 y28 y29 y30 y31 y32 y33 y34 y35 y36 y37 y38 y39 y40 y41 y42 y43 y44 y45 y46 y47 y48 y49 y50 y51 y52 y53 y54 y55 y56 y57 y58 y59 y60 y61 y62 y63=>(∃ m1:Nat,qN a0 a1 a2 a3 a4 a5 a6 a7 x0 m1 y9 y10 y11 y12 y13 y14 y15 y16 y17 y18 y19 y20 y21 y22 y23 y24 y25 y26 y27 y28 y29 y30 y31 y32 y33 y34 y35 y36 y37 y38 y39 y40 y41 y42 y43 y44 y45 y46 y47 y48 y49 y50 y51 y52 y53 y54 y55 y56 y57 y58 y59 y60 y61 y62 y63)) m0 b c d e f g h i j k l m o p q r s t u v w z A B C D E F G H I J L M N O P R S T U V W X Y Z y0 y1 y2 y3 y4 y5 y6 y7 y8))) (aB (decide (y3=1)) (a7 y1 y2 Z y0 (fun y8=>(∃ m0:Nat,sG a0 a1 a2 a3 a4 a5 a6 a7 (fun y9 y10 y11 y12 y13 y14 y15 y16 y17 y18 y19 y20 y21 y22 y23 y24 y25 y26 y27 y28 y29 y30 y31 y32 y33 y34 y35 y36 y37 y38 y39 y40 y41 y42 y43 y44 y45 y46 y47 y48 y49 y50 y51 y52 y53 y54 y55 y56 y57 y58 y59 y60=>(∃ m1:Nat,qM a0 a1 a2 a3 a4 a5 a6 a7 x0 m1 y9 y10 y11 y12 y13 y14 y15 y16 y17 y18 y19 y20 y21 y22 y23 y24 y25 y26 y27 y28 y29 y30 y31 y32 y33 y34 y35 y36 y37 y38 y39 y40 y41 y42 y43 y44 y45 y46 y47 y48 y49 y50 y51 y52 y53 y54 y55 y56 y57 y58 y59 y60)) (fun y9 y10 y11 y12 y13 y14 y15 y16 y17 y18 y19 y20 y21 y22 y23 y24 y25 y26 y27 y28 y29 y30 y31 y32 y33 y34 y35 y36 y37 y38 y39 y40 y41 y42 y43 y44 y45 y46 y47 y48 y49 y50 y51 y52 y53 y54 y55 y56 y57 y58 y59 y60 y61 y62 y63=>(∃ m1:Nat,qN a0 a1 a2 a3 a4 a5 a6 a7 x0 m1 y9 y10 y11 y12 y13 y14 y15 y16 y17 y18 y19 y20 y21 y22 y23 y24 y25 y26 y27 y28 y29 y30 y31 y32 y33 y34 y35 y36 y37 y38 y39 y40 y41 y42 y43 y44 y45 y46 y47 y48 y49 y50 y51 y52 y53 y54 y55 y56 y57 y58 y59 y60 y61 y62 y63)) m0 b c d e f g h i j k l m o p q r s t u v w z A B C D E F G H I J L M N O P R S T U V W X Y Z y0 y1 y2 y3 y4 y5 y6 y7 y8))) (aB (decide (y3=2)) (a7 y1 y2 y1 y2 (fun y8=>(∃ m0:Nat,sG a0 a1 a2 a3 a4 a5 a6 a7 (fun y9 y10 y11 y12 y13 y14 y15 y16 y17 y18 y19 y20 y21 y22 y23 y24 y25 y26 y27 y28 y29 y30 y31 y32 y33 y34 y35 y36 y37 y38 y39 y40 y41 y42 y43 y44 y45 y46 y47 y48 y49 y50 y51 y52 y53 y54 y55 y56 y57 y58 y59 y60=>(∃ m1:Nat,qM a0 a1 a2 a3 a4 a5 a6 a7 x0 m1 y9 y10 y11 y12 y13 y14 y15 y16 y17 y18 y19 y20 y21 y22 y23 y24 y25 y26 y27 y28 y29 y30 y31 y32 y33 y34 y35 y36 y37 y38 y39 y40 y41 y42 y43 y44 y45 y46 y47 y48 y49 y50 y51 y52 y53 y54 y55 y56 y57 y58 y59 y60)) (fun y9 y10 y11 y12 y13 y14 y15 y16 y17 y18 y19 y20 y21 y22 y23 y24 y25 y26 y27 y28 y29 y30 y31 y32 y33 y34 y35 y36 y37 y38 y39 y40 y41 y42 y43 y44 y45 y46 y47 y48 y49 y50 y51 y52 y53 y54 y55 y56 y57 y58 y59 y60 y61 y62 y63=>(∃ m1:Nat,qN a0 a1 a2 a3 a4 a5 a6 a7 x0 m1 y9 y10 y11 y12 y13 y14 y15 y16 y17 y18 y19 y20 y21 y22 y23 y24 y25 y26 y27 y28 y29 y30 y31 y32 y33 y34 y35 y36 y37 y38 y39 y40 y41 y42 y43 y44 y45 y46 y47 y48 y49 y50 y51 y52 y53 y54 y55 y56 y57 y58 y59 y60 y61 y62 y63)) m0 b c d e f g h i j k l m o p q r s t u v w z A B C D E F G H I J L M N O P R S T U V W X Y Z y0 y1 y2 y3 y4 y5 y6 y7 y8))) False))) False)))))
def Iq (a0:cC) (a1:bY) (a2:fL) (a3 a4:fC) (a5:fM) (a6:fS) (a7:bZ) (x0:Ls→Ls→bF (J4 (Int→Prop))):Nat→Ls→Ls→bF (bF (J4 (J4 (J4 (Int→Int→Int→Prop)))))
 | _,b,c,d,e,f,g,h,i,j,k,l,m,o,p,q,r,s,t,u,v,w,z,A,B,C,D,E,F,G,H,I,J,L,M,N,O,P,R,S,T,U,V,W,X,Y,Z,y0,y1,y2=>
 (a6 X Y Z y0 y1 y2 false false false (fun y3=>(aB (decide (y3=0)) (∃ m0:Nat,yB a0 a1 a2 a3 a4 a5 a6 a7 x0 m0 b c d e f g h i j k l m o p q r s t u v w z A B C D E F G H I J L M N O P R S T U V W X Y Z y0 y1 y2 y3 true false false) (aB (decide (y3=1)) (∃ m0:Nat,yB a0 a1 a2 a3 a4 a5 a6 a7 x0 m0 b c d e f g h i j k l m o p q r s t u v w z A B C D E F G H I J L M N O P R S T U V W X Y Z y0 y1 y2 y3 false true false) (aB (decide (y3=2)) (∃ m0:Nat,yB a0 a1 a2 a3 a4 a5 a6 a7 x0 m0 b c d e f g h i j k l m o p q r s t u v w z A B C D E F G H I J L M N O P R S T U V W X Y Z y0 y1 y2 y3 false false true) False)))))
def Mv (a0:cC) (a1:bY) (a2:fL) (a3 a4:fC) (a5:fM) (a6:fS) (a7:bZ) (x0:Ls→Ls→bF (J4 (Int→Prop))):Nat→Ls→Ls→bF (bF (bF (Int→Prop)))
 | _,b,c,d,e,f,g,h,i,j,k,l,m,o,p,q,r,s,t,u,v,w,z,A,B,C,D,E,F,G,H,I,J,L,M,N,O,P,R,S,T,U,V,W,X,Y,Z,y0,y1,y2,_,_=>
 (a5 b c d B C Z y0 (fun y5 y6 y7 y8 y9=>(a5 y7 y8 y9 y5 y6 y1 y2 (fun y10 y11 y12 y13 y14=>(∃ m0:Nat,Iq a0 a1 a2 a3 a4 a5 a6 a7 x0 m0 y12 y13 y14 e f g h i j k l m o p q r s t u v w z A D E F G H I J L M N O P R S T U V W X Y Z y0 y1 y2 y10 y11)))))
def Mw (a0:cC) (a1:bY) (a2:fL) (a3 a4:fC) (a5:fM) (a6:fS) (a7:bZ) (b c:Ls) (d:Int) (K:bF (J4 (Ls→Ls→Int→Prop))):Prop:=
 (a0 0 (fun e f=>(aA (decide (0<(((length b):Nat):Int))) (lt (getD b 0 .nils) (fun g=>(aA (aI zK g) (a0 (aJ (aQ g 0)) (fun h i=>(aA (decide (0<(((length b):Nat):Int))) (lt (getD b 0 .nils) (fun j=>(aA (aI zK j) (a1 (aJ (aQ j 0)) (eK (aQ j 1)) (eK (aQ j 2)) (fun k=>(a0 k (fun l m=>(aA (decide (1<(((length b):Nat):Int))) (lt (getD b 1 .nils) (fun o=>(aA (aI zK o) (a1 (aJ (aQ o 0)) (eK (aQ o 1)) (eK (aQ o 2)) (fun p=>(a0 p (fun q r=>(a2 b c d l m 1 (fun s t u v w=>(a3 u v w 0 e f s t (fun z A B C D=>(a2 B C D l m 2 (fun E F G H I=>(a3 G H I 0 e f E F (fun J L M N O=>(a4 M N O 1 e f z A (fun P R S T U=>(a4 S T U 1 z A J L (fun V W X Y Z=>(∃ m0:Nat,Mv a0 a1 a2 a3 a4 a5 a6 a7 (fun y0 y1 y2 y3 y4 y5 y6 y7 y8 y9 y10 y11 y12 y13 y14 y15 y16 y17 y18 y19 y20 y21 y22=>(K y3 y4 y5 y6 y7 y8 y9 y10 y11 y12 y13 y14 y15 y16 y17 y18 y19 y20 y21 y22 y0 y1 y2)) m0 X Y Z 0 0 0 0 0 0 0 0 0 0 0 0 0 0 0 0 0 0 0 0 q r e f z A z A J L J L h i (-1) 0 0 0 0 0 0 0 P R V W e f)))))))))))))))))))))))))))))))))))))
def ycj:Ms:=Mw fK yaM fB yaj yai yap yaA yaC
def Vu (w:Ms) (az:Ls) (b:HB) (K:PV→Ls→Prop):Prop:=
 match az,b with
 | [(.ptr 0 1 0 0)],⟨false,true,3,[(.agg [(.data p0),(.data p1),(ic p2)])]⟩=>w p0 p1 p2 (fun r0 r1 r2 r3 r4 r5 r6 r7 r8 r9 r10 r11 r12 r13 r14 r15 r16 r17 r18 r19 r20 r21 r22=>K (.agg [(ic r0),(ic r1),(ic r2),(ic r3),(ic r4),(ic r5),(ic r6),(ic r7),(ic r8),(ic r9),(ic r10),(ic r11),(ic r12),(ic r13),(ic r14),(ic r15),(ic r16),(ic r17),(ic r18),(ic r19)]) [(.agg [(.data r20),(.data r21),(ic r22)])])
 | _,_=>False
def aa (az:Ls) (b:HB) (K:PV→Ls→Prop):Prop:=Vu ycj az b K
def yoZ (Q:Qx):Ls→Ls→bF (bF (J4 (J4 (J4 (Int→Int→Int→Bool→Bool→Bool→Prop ))))):=(fun b c d e f g h i j k l m o p q r s t u v w z A B C D E F G H I J L M N O P R S T U V W X Y Z y0 y1 y2 y3 y4 y5=>Q .norm [(0,.v (.ptr 0 1 0 0)),(2,.box (ga [e,f,g,h,i,j,k,l,m,o,p,q,r,s,t,u,v,w,z,A])),(9,.box (ga [B,C,D,E,F,G,H,I,J,L,M,N,O,P,R,S,T,U,V,W])),(10,.box (ga [X,Y,Z,y0,y1,y2])),(12,.box (.agg [(.bool y3),(.bool y4),(.bool y5)]))] [⟨false,true,3,([(.agg [(.data b),(.data c),(ic d)])]:Ls)⟩])
def ynl (Q:Qx):Ls→Ls→bF (bF (J4 (J4 (Int→Prop )))):=(fun b c d e f g h i j k l m o p q r s t u v w z A B C D E F G H I J L M N O P R S T U V W=>Q .norm [(2,.box (ga [e,f,g,h,i,j,k,l,m,o,p,q,r,s,t,u,v,w,z,A])),(9,.box (ga [B,C,D,E,F,G,H,I,J,L,M,N,O,P,R,S,T,U,V,W]))] [⟨false,true,3,([(.agg [(.data b),(.data c),(ic d)])]:Ls)⟩])
def ynm (Q:Qx):Ls→Ls→bF (bF (J4 (J4 (Int→Bool→Prop )))):=(fun b c d e f g h i j k l m o p q r s t u v w z A B C D E F G H I J L M N O P R S T U V W X=>Q .norm [(2,.box (ga [e,f,g,h,i,j,k,l,m,o,p,q,r,s,t,u,v,w,z,A])),(9,.box (ga [B,C,D,E,F,G,H,I,J,L,M,N,O,P,R,S,T,U,V,W])),(180,.v (.bool X))] [⟨false,true,3,([(.agg [(.data b),(.data c),(ic d)])]:Ls)⟩])
def ae (Q:Qx):Ls→Ls→bF (J4 (Int→Prop )):=(fun b c d e f g h i j k l m o p q r s t u v w z A=>Q .ret [(2,.box (ga [e,f,g,h,i,j,k,l,m,o,p,q,r,s,t,u,v,w,z,A]))] [⟨false,true,3,([(.agg [(.data b),(.data c),(ic d)])]:Ls)⟩])
def yo0 (Q:Qx):Ls→Ls→bF (bF (J4 (J4 (J4 (Int→Int→Int→Bool→Bool→Bool→Prop ))))):=(fun b c d e f g h i j k l m o p q r s t u v w z A B C D E F G H I J L M N O P R S T U V W X Y Z y0 y1 y2 y3 y4 y5=>Q .norm [(0,.v (.ptr 0 1 0 0)),(2,.box (ga [e,f,g,h,i,j,k,l,m,o,p,q,r,s,t,u,v,w,z,A])),(9,.box (ga [B,C,D,E,F,G,H,I,J,L,M,N,O,P,R,S,T,U,V,W])),(10,.box (ga [X,Y,Z,y0,y1,y2])),(12,.box (.agg [(.bool y3),(.bool y4),(.bool y5)]))] [⟨false,true,3,([(.agg [(.data b),(.data c),(ic d)])]:Ls)⟩])
def ynn (Q:Qx):Ls→Ls→bF (J4 (Int→Prop )):=(fun b c d e f g h i j k l m o p q r s t u v w z A=>Q .ret [(2,.box (ga [e,f,g,h,i,j,k,l,m,o,p,q,r,s,t,u,v,w,z,A]))] [⟨false,true,3,([(.agg [(.data b),(.data c),(ic d)])]:Ls)⟩])
def yo1 (Q:Qx):Ls→Ls→bF (bF (J4 (J4 (J4 (Int→Int→Int→Bool→Bool→Bool→Prop ))))):=(fun b c d e f g h i j k l m o p q r s t u v w z A B C D E F G H I J L M N O P R S T U V W X Y Z y0 y1 y2 y3 y4 y5=>Q .norm [(0,.v (.ptr 0 1 0 0)),(2,.box (ga [e,f,g,h,i,j,k,l,m,o,p,q,r,s,t,u,v,w,z,A])),(9,.box (ga [B,C,D,E,F,G,H,I,J,L,M,N,O,P,R,S,T,U,V,W])),(10,.box (ga [X,Y,Z,y0,y1,y2])),(12,.box (.agg [(.bool y3),(.bool y4),(.bool y5)]))] [⟨false,true,3,([(.agg [(.data b),(.data c),(ic d)])]:Ls)⟩])
def yno (Q:Qx):Ls→Ls→bF (J4 (Int→Prop )):=(fun b c d e f g h i j k l m o p q r s t u v w z A=>Q .ret [(2,.box (ga [e,f,g,h,i,j,k,l,m,o,p,q,r,s,t,u,v,w,z,A]))] [⟨false,true,3,([(.agg [(.data b),(.data c),(ic d)])]:Ls)⟩])
def yo2 (Q:Qx):Ls→Ls→bF (bF (J4 (J4 (J4 (Int→Int→Int→Bool→Bool→Bool→Prop ))))):=(fun b c d e f g h i j k l m o p q r s t u v w z A B C D E F G H I J L M N O P R S T U V W X Y Z y0 y1 y2 y3 y4 y5=>Q .norm [(0,.v (.ptr 0 1 0 0)),(2,.box (ga [e,f,g,h,i,j,k,l,m,o,p,q,r,s,t,u,v,w,z,A])),(9,.box (ga [B,C,D,E,F,G,H,I,J,L,M,N,O,P,R,S,T,U,V,W])),(10,.box (ga [X,Y,Z,y0,y1,y2])),(12,.box (.agg [(.bool y3),(.bool y4),(.bool y5)]))] [⟨false,true,3,([(.agg [(.data b),(.data c),(ic d)])]:Ls)⟩])
def yo3 (Q:Qx):Ls→Ls→bF (bF (bF (Bool→Bool→Bool→Int→Bool→Prop ))):=(fun b c d e f g h i j k l m o p q r s t u v w z A B C D E F G H I J L M N O P R S T U V W X Y Z y0 y1 y2 y3 y4 y5 y6 y7 y8=>Q .norm [(0,.v (.ptr 0 1 0 0)),(2,.box (ga [e,f,g,h,i,j,k,l,m,o,p,q,r,s,t,u,v,w,z,A])),(9,.box (ga [B,C,D,E,F,G,H,I,J,L,M,N,O,P,R,S,T,U,V,W])),(10,.box (ga [X,Y,Z,y0,y1,y2])),(11,.v (ic y3)),(12,.box (.agg [(.bool y4),(.bool y5),(.bool y6)])),(13,.v (ic y7)),(104,.v (.bool y8))] [⟨false,true,3,([(.agg [(.data b),(.data c),(ic d)])]:Ls)⟩])
def yo4 (Q:Qx):Ls→Ls→bF (J4 (Int→Prop )):=(fun b c d e f g h i j k l m o p q r s t u v w z A=>Q .ret [(2,.box (ga [e,f,g,h,i,j,k,l,m,o,p,q,r,s,t,u,v,w,z,A]))] [⟨false,true,3,([(.agg [(.data b),(.data c),(ic d)])]:Ls)⟩])
def yo5 (Q:Qx):Ls→Ls→bF (J4 (Int→Prop )):=(fun b c d e f g h i j k l m o p q r s t u v w z A=>Q .ret [(2,.box (ga [e,f,g,h,i,j,k,l,m,o,p,q,r,s,t,u,v,w,z,A]))] [⟨false,true,3,([(.agg [(.data b),(.data c),(ic d)])]:Ls)⟩])
def af (Q:Qx):Ls→Ls→bF (J4 (Int→Prop )):=(fun b c d e f g h i j k l m o p q r s t u v w z A=>Q .ret [(2,.box (ga [e,f,g,h,i,j,k,l,m,o,p,q,r,s,t,u,v,w,z,A]))] [⟨false,true,3,([(.agg [(.data b),(.data c),(ic d)])]:Ls)⟩])
def yo6 (Q:Qx):Ls→Ls→bF (J4 (Int→Prop )):=(fun b c d e f g h i j k l m o p q r s t u v w z A=>Q .ret [(2,.box (ga [e,f,g,h,i,j,k,l,m,o,p,q,r,s,t,u,v,w,z,A]))] [⟨false,true,3,([(.agg [(.data b),(.data c),(ic d)])]:Ls)⟩])
def yo7 (Q:Qx):Ls→Ls→bF (J4 (Int→Prop )):=(fun b c d e f g h i j k l m o p q r s t u v w z A=>Q .ret [(2,.box (ga [e,f,g,h,i,j,k,l,m,o,p,q,r,s,t,u,v,w,z,A]))] [⟨false,true,3,([(.agg [(.data b),(.data c),(ic d)])]:Ls)⟩])
def yo8 (Q:Qx):Ls→Ls→bF (J4 (Int→Prop )):=(fun b c d e f g h i j k l m o p q r s t u v w z A=>Q .ret [(2,.box (ga [e,f,g,h,i,j,k,l,m,o,p,q,r,s,t,u,v,w,z,A]))] [⟨false,true,3,([(.agg [(.data b),(.data c),(ic d)])]:Ls)⟩])
def iV:HPt:=hB false true 3 (rC (vA (lC vD (lC vD pt1))) rN) hN
def ag (a0:cC) (a1:bY) (a2:fL) (a3 a4:fC) (a5:fM) (a6:fS) (a7:bZ) (Q:Qx):List St:=[⟨(pS iV (fV 0 gV (fX 2 cY (fX 9 cY (fX 10 kS (fV 11 cB (fX 12 lS (fV 13 cB fN))))))) fN),Im a0 a1 a2 a3 a4 a5 a6 a7 (yoZ Q)⟩]
def Ir:Pat pZ:=pS iV (fX 2 cY (fX 9 cY (fV 180 vB fN))) fN
def ah (a0:cC) (a1:bY) (a2:fL) (a3 a4:fC) (a5:fM) (a6:fS) (a7:bZ) (Q:Qx):List St:=[⟨Ir,Cu a0 a1 a2 a3 a4 a5 a6 a7 (ynl Q) (ynm Q)⟩]
def ai (a0:cC) (a1:bY) (a2:fL) (a3 a4:fC) (a5:fM) (a6:fS) (a7:bZ) (Q:Qx):List St:=[⟨(pS iV (fX 2 cY (fX 9 cY fN)) fN),Cv a0 a1 a2 a3 a4 a5 a6 a7 (ae Q)⟩,⟨Ir,Cw a0 a1 a2 a3 a4 a5 a6 a7 (ae Q)⟩]
def Is:Pat pZ:=pS iV (fV 0 gV (fX 2 cY (fX 9 cY (fX 10 kS (fV 11 cB (fX 12 lS (fV 13 cB (fX 14 nH fN)))))))) fN
def aj (a0:cC) (a1:bY) (a2:fL) (a3 a4:fC) (a5:fM) (a6:fS) (a7:bZ) (Q:Qx):List St:=[⟨Is,Io a0 a1 a2 a3 a4 a5 a6 a7 (yo0 Q)⟩]
def ak (a0:cC) (a1:bY) (a2:fL) (a3 a4:fC) (a5:fM) (a6:fS) (a7:bZ) (Q:Qx):List St:=[⟨(pS iV (fX 2 cY (fX 9 cY (fX 12 lS fN))) fN),Mt a0 a1 a2 a3 a4 a5 a6 a7 (ynn Q)⟩]
def al (a0:cC) (a1:bY) (a2:fL) (a3 a4:fC) (a5:fM) (a6:fS) (a7:bZ) (Q:Qx):List St:=[⟨Is,gW a0 a1 a2 a3 a4 a5 a6 a7 (yo1 Q)⟩]
def Cx:Pat aD:=fX 2 cY (fX 9 cY (fX 10 kS (fX 12 lS fN)))
def am (a0:cC) (a1:bY) (a2:fL) (a3 a4:fC) (a5:fM) (a6:fS) (a7:bZ) (Q:Qx):List St:=[⟨(pS iV Cx fN),FD a0 a1 a2 a3 a4 a5 a6 a7 (yno Q)⟩]
def It:Pat pZ:=pS iV (fV 0 gV (fX 2 cY (fX 9 cY (fX 10 kS (fV 11 cB (fX 12 lS (fV 13 cB (fV 104 vB fN)))))))) fN
def ap (a0:cC) (a1:bY) (a2:fL) (a3 a4:fC) (a5:fM) (a6:fS) (a7:bZ) (Q:Qx):List St:=[⟨It,sG a0 a1 a2 a3 a4 a5 a6 a7 (yo2 Q) (yo3 Q)⟩]
def aq (a0:cC) (a1:bY) (a2:fL) (a3 a4:fC) (a5:fM) (a6:fS) (a7:bZ) (Q:Qx):List St:=[⟨(pS iV Cx fN),Mu a0 a1 a2 a3 a4 a5 a6 a7 (yo4 Q)⟩]
def ar (a0:cC) (a1:bY) (a2:fL) (a3 a4:fC) (a5:fM) (a6:fS) (a7:bZ) (Q:Qx):List St:=[⟨(pS iV (fX 2 cY (fX 9 cY (fX 10 kS (fX 12 lS (fX 15 kS fN))))) fN),Ip a0 a1 a2 a3 a4 a5 a6 a7 (yo5 Q)⟩]
def au (a0:cC) (a1:bY) (a2:fL) (a3 a4:fC) (a5:fM) (a6:fS) (a7:bZ) (Q:Qx):List St:=[⟨(pS iV (fV 0 gV Cx) fN),qM a0 a1 a2 a3 a4 a5 a6 a7 (af Q)⟩,⟨It,qN a0 a1 a2 a3 a4 a5 a6 a7 (af Q)⟩]
def aw (a0:cC) (a1:bY) (a2:fL) (a3 a4:fC) (a5:fM) (a6:fS) (a7:bZ) (Q:Qx):List St:=[⟨(pS iV (fV 0 gV (fX 2 cY (fX 9 cY (fX 10 kS (fV 11 cB (fX 12 lS fN)))))) fN),yB a0 a1 a2 a3 a4 a5 a6 a7 (yo6 Q)⟩]
def Iu:Pat aD:=fX 9 cY (fX 10 kS fN)
def ay (a0:cC) (a1:bY) (a2:fL) (a3 a4:fC) (a5:fM) (a6:fS) (a7:bZ) (Q:Qx):List St:=[⟨(pS iV (fV 0 gV (fX 2 cY Iu)) fN),Iq a0 a1 a2 a3 a4 a5 a6 a7 (yo7 Q)⟩]
def bc (a0:cC) (a1:bY) (a2:fL) (a3 a4:fC) (a5:fM) (a6:fS) (a7:bZ) (Q:Qx):List St:=[⟨(pS iV (fV 0 gV (fX 2 cY (fX 6 nH Iu))) fN),Mv a0 a1 a2 a3 a4 a5 a6 a7 (yo8 Q)⟩]
def oG (a0:cC) (a1:bY) (a2:fL) (a3 a4:fC) (a5:fM) (a6:fS) (a7:bZ):LP:=gL [(33428450,ag a0 a1 a2 a3 a4 a5 a6 a7),(33428454,ah a0 a1 a2 a3 a4 a5 a6 a7),(33428455,ai a0 a1 a2 a3 a4 a5 a6 a7),(33428451,aj a0 a1 a2 a3 a4 a5 a6 a7),(33428456,ak a0 a1 a2 a3 a4 a5 a6 a7),(33428452,al a0 a1 a2 a3 a4 a5 a6 a7),(33428457,am a0 a1 a2 a3 a4 a5 a6 a7),(33428453,ap a0 a1 a2 a3 a4 a5 a6 a7),(33428458,aq a0 a1 a2 a3 a4 a5 a6 a7),(33428459,ar a0 a1 a2 a3 a4 a5 a6 a7),(33428460,au a0 a1 a2 a3 a4 a5 a6 a7),(33428461,aw a0 a1 a2 a3 a4 a5 a6 a7),(33428462,ay a0 a1 a2 a3 a4 a5 a6 a7),(33428463,bc a0 a1 a2 a3 a4 a5 a6 a7)]
def nL (e:Es) (a0:cC) (a1:bY) (a2:fL) (a3 a4:fC) (a5:fM) (a6:fS) (a7:bZ):SE:=⟨(E e),yhr [(tM,lZ.pw a0),(Er,oD.pw a1),(Al,Vs.pw a6),(rS,nJ.pw a7)],yhs [],oG a0 a1 a2 a3 a4 a5 a6 a7,yp7 [(Ey,Vo a2),(BL,Vp a3),(xL,Vq a4),(BM,Vr a5)]⟩
theorem oH (e:Es) (he:EG e):SEOk (Uni (E e)) (nL e fK yaM fB yaj yai yap yaA yaC):=Ec (aK.uni _) ⟨(LG e he),(Q6 e he),(Z9 e he),(Az e he),trivial⟩ trivial he.ok ⟨(yt9 e he),(yub e he),(yrX e he),(yud e he),trivial⟩
theorem ynp (e:Es) (a0 a1 a2 a3 a4 a5 a6 a7):gT (nL e a0 a1 a2 a3 a4 a5 a6 a7) 5 a vV (ag a0 a1 a2 a3 a4 a5 a6 a7):=fun _=>⟨fun _ _=>by kernel_rfl,trivial⟩
theorem Cy (e:Es) (he:EG e):dF (Uni (E e)) (oG fK yaM fB yaj yai yap yaA yaC) [] 33428450 (.join 33428450 vV):=fun _ _ _=>cA.stJ (aK.uni _) (cU (oH e he) 5) (cH.no _ _) (bC (by kernel_rfl)) (ynp e _ _ _ _ _ _ _ _ _)
theorem ymJ (e:Es) (a0 a1 a2 a3 a4 a5 a6 a7):gT (nL e a0 a1 a2 a3 a4 a5 a6 a7) 5 a rT (ah a0 a1 a2 a3 a4 a5 a6 a7):=fun _=>⟨fun _ _=>by kernel_rfl,trivial⟩
theorem yC (e:Es) (he:EG e):dF (Uni (E e)) (oG fK yaM fB yaj yai yap yaA yaC) [] 33428454 (.join 33428454 rT):=fun _ _ _=>cA.stJ (aK.uni _) (cU (oH e he) 5) (cH.no _ _) (bC (by kernel_rfl)) (ymJ e _ _ _ _ _ _ _ _ _)
theorem ymK (e:Es) (a0 a1 a2 a3 a4 a5 a6 a7):gT (nL e a0 a1 a2 a3 a4 a5 a6 a7) 5 a rU (ai a0 a1 a2 a3 a4 a5 a6 a7):=fun _=>⟨fun _ _=>by kernel_rfl,fun _ _=>by kernel_rfl,trivial⟩
theorem yD (e:Es) (he:EG e):dF (Uni (E e)) (oG fK yaM fB yaj yai yap yaA yaC) [] 33428455 (.join 33428455 rU):=fun _ _ _=>cA.stJ (aK.uni _) (cU (oH e he) 5) (cH.no _ _) (bC (by kernel_rfl)) (ymK e _ _ _ _ _ _ _ _ _)
theorem ynq (e:Es) (a0 a1 a2 a3 a4 a5 a6 a7):gT (nL e a0 a1 a2 a3 a4 a5 a6 a7) 5 a xM (aj a0 a1 a2 a3 a4 a5 a6 a7):=fun _=>⟨fun _ _=>by kernel_rfl,trivial⟩
theorem FE (e:Es) (he:EG e):dF (Uni (E e)) (oG fK yaM fB yaj yai yap yaA yaC) [] 33428451 (.join 33428451 xM):=fun _ _ _=>cA.stJ (aK.uni _) (cU (oH e he) 5) (cH.no _ _) (dT (l:=[(33428450,.join 33428450 vV)]) ⟨Cy e he,trivial⟩ (by kernel_rfl)) (ynq e _ _ _ _ _ _ _ _ _)
theorem ymL (e:Es) (a0 a1 a2 a3 a4 a5 a6 a7):gT (nL e a0 a1 a2 a3 a4 a5 a6 a7) 5 a tN (ak a0 a1 a2 a3 a4 a5 a6 a7):=fun _=>⟨fun _ _=>by kernel_rfl,trivial⟩
theorem AE (e:Es) (he:EG e):dF (Uni (E e)) (oG fK yaM fB yaj yai yap yaA yaC) [] 33428456 (.join 33428456 tN):=fun _ _ _=>cA.stJ (aK.uni _) (cU (oH e he) 5) (cH.no _ _) (dT (l:=[(33428454,.join 33428454 rT),(33428455,.join 33428455 rU)]) ⟨yC e he,yD e he,trivial⟩ (by kernel_rfl)) (ymL e _ _ _ _ _ _ _ _ _)
theorem ynr (e:Es) (a0 a1 a2 a3 a4 a5 a6 a7):gT (nL e a0 a1 a2 a3 a4 a5 a6 a7) 5 a Ao (al a0 a1 a2 a3 a4 a5 a6 a7):=fun _=>⟨fun _ _=>by kernel_rfl,trivial⟩
theorem Iv (e:Es) (he:EG e):dF (Uni (E e)) (oG fK yaM fB yaj yai yap yaA yaC) [] 33428452 (.join 33428452 Ao):=fun _ _ _=>cA.stJ (aK.uni _) (cU (oH e he) 5) (cH.no _ _) (dT (l:=[(33428450,.join 33428450 vV),(33428451,.join 33428451 xM)]) ⟨Cy e he,FE e he,trivial⟩ (by kernel_rfl)) (ynr e _ _ _ _ _ _ _ _ _)
theorem ymM (e:Es) (a0 a1 a2 a3 a4 a5 a6 a7):gT (nL e a0 a1 a2 a3 a4 a5 a6 a7) 5 a vY (am a0 a1 a2 a3 a4 a5 a6 a7):=fun _=>⟨fun _ _=>by kernel_rfl,trivial⟩
theorem Cz (e:Es) (he:EG e):dF (Uni (E e)) (oG fK yaM fB yaj yai yap yaA yaC) [] 33428457 (.join 33428457 vY):=fun _ _ _=>cA.stJ (aK.uni _) (cU (oH e he) 5) (cH.no _ _) (dT (l:=[(33428454,.join 33428454 rT),(33428455,.join 33428455 rU),(33428456,.join 33428456 tN)]) ⟨yC e he,yD e he,AE e he,trivial⟩ (by kernel_rfl)) (ymM e _ _ _ _ _ _ _ _ _)
theorem yns (e:Es) (a0 a1 a2 a3 a4 a5 a6 a7):gT (nL e a0 a1 a2 a3 a4 a5 a6 a7) 5 a BN (ap a0 a1 a2 a3 a4 a5 a6 a7):=fun _=>⟨fun _ _=>by kernel_rfl,trivial⟩
theorem Mx (e:Es) (he:EG e):dF (Uni (E e)) (oG fK yaM fB yaj yai yap yaA yaC) [] 33428453 (.join 33428453 BN):=fun _ _ _=>cA.stJ (aK.uni _) (cU (oH e he) 5) (cH.no _ _) (dT (l:=[(33428450,.join 33428450 vV),(33428451,.join 33428451 xM),(33428452,.join 33428452 Ao)]) ⟨Cy e he,FE e he,Iv e he,trivial⟩ (by kernel_rfl)) (yns e _ _ _ _ _ _ _ _ _)
theorem ynt (e:Es) (a0 a1 a2 a3 a4 a5 a6 a7):gT (nL e a0 a1 a2 a3 a4 a5 a6 a7) 5 a xN (aq a0 a1 a2 a3 a4 a5 a6 a7):=fun _=>⟨fun _ _=>by kernel_rfl,trivial⟩
theorem FF (e:Es) (he:EG e):dF (Uni (E e)) (oG fK yaM fB yaj yai yap yaA yaC) [] 33428458 (.join 33428458 xN):=fun _ _ _=>cA.stJ (aK.uni _) (cU (oH e he) 5) (cH.no _ _) (dT (l:=[(33428454,.join 33428454 rT),(33428455,.join 33428455 rU),(33428456,.join 33428456 tN),(33428457,.join 33428457 vY)]) ⟨yC e he,yD e he,AE e he,Cz e he,trivial⟩ (by kernel_rfl)) (ynt e _ _ _ _ _ _ _ _ _)
theorem ynu (e:Es) (a0 a1 a2 a3 a4 a5 a6 a7):gT (nL e a0 a1 a2 a3 a4 a5 a6 a7) 5 a Ap (ar a0 a1 a2 a3 a4 a5 a6 a7):=fun _=>⟨fun _ _=>by kernel_rfl,trivial⟩
theorem Iw (e:Es) (he:EG e):dF (Uni (E e)) (oG fK yaM fB yaj yai yap yaA yaC) [] 33428459 (.join 33428459 Ap):=fun _ _ _=>cA.stJ (aK.uni _) (cU (oH e he) 5) (cH.no _ _) (dT (l:=[(33428454,.join 33428454 rT),(33428455,.join 33428455 rU),(33428456,.join 33428456 tN),(33428457,.join 33428457 vY),(33428458,.join 33428458 xN)]) ⟨yC e he,yD e he,AE e he,Cz e he,FF e he,trivial⟩ (by kernel_rfl)) (ynu e _ _ _ _ _ _ _ _ _)
theorem ynv (e:Es) (a0 a1 a2 a3 a4 a5 a6 a7):gT (nL e a0 a1 a2 a3 a4 a5 a6 a7) 5 a BO (au a0 a1 a2 a3 a4 a5 a6 a7):=fun _=>⟨fun _ _=>by kernel_rfl,fun _ _=>by kernel_rfl,trivial⟩
theorem My (e:Es) (he:EG e):dF (Uni (E e)) (oG fK yaM fB yaj yai yap yaA yaC) [] 33428460 (.join 33428460 BO):=fun _ _ _=>cA.stJ (aK.uni _) (cU (oH e he) 5) (cH.no _ _) (dT (l:=[(33428454,.join 33428454 rT),(33428455,.join 33428455 rU),(33428456,.join 33428456 tN),(33428457,.join 33428457 vY),(33428458,.join 33428458 xN),(33428459,.join 33428459 Ap)]) ⟨yC e he,yD e he,AE e he,Cz e he,FF e he,Iw e he,trivial⟩ (by kernel_rfl)) (ynv e _ _ _ _ _ _ _ _ _)
theorem ynw (e:Es) (a0 a1 a2 a3 a4 a5 a6 a7):gT (nL e a0 a1 a2 a3 a4 a5 a6 a7) 5 a EC (aw a0 a1 a2 a3 a4 a5 a6 a7):=fun _=>⟨fun _ _=>by kernel_rfl,trivial⟩
theorem Vv (e:Es) (he:EG e):dF (Uni (E e)) (oG fK yaM fB yaj yai yap yaA yaC) [] 33428461 (.join 33428461 EC):=fun _ _ _=>cA.stJ (aK.uni _) (cU (oH e he) 5) (cH.no _ _) (dT (l:=[(33428450,.join 33428450 vV),(33428451,.join 33428451 xM),(33428452,.join 33428452 Ao),(33428453,.join 33428453 BN),(33428454,.join 33428454 rT),(33428455,.join 33428455 rU),(33428456,.join 33428456 tN),(33428457,.join 33428457 vY),(33428458,.join 33428458 xN),(33428459,.join 33428459 Ap),(33428460,.join 33428460 BO)]) ⟨Cy e he,FE e he,Iv e he,Mx e he,yC e he,yD e he,AE e he,Cz e he,FF e he,Iw e he,My e he,trivial⟩ (by kernel_rfl)) (ynw e _ _ _ _ _ _ _ _ _)
theorem ynx (e:Es) (a0 a1 a2 a3 a4 a5 a6 a7):gT (nL e a0 a1 a2 a3 a4 a5 a6 a7) 5 a HF (ay a0 a1 a2 a3 a4 a5 a6 a7):=fun _=>⟨fun _ _=>by kernel_rfl,trivial⟩
theorem be (e:Es) (he:EG e):dF (Uni (E e)) (oG fK yaM fB yaj yai yap yaA yaC) [] 33428462 (.join 33428462 HF):=fun _ _ _=>cA.stJ (aK.uni _) (cU (oH e he) 5) (cH.no _ _) (dT (l:=[(33428450,.join 33428450 vV),(33428451,.join 33428451 xM),(33428452,.join 33428452 Ao),(33428453,.join 33428453 BN),(33428454,.join 33428454 rT),(33428455,.join 33428455 rU),(33428456,.join 33428456 tN),(33428457,.join 33428457 vY),(33428458,.join 33428458 xN),(33428459,.join 33428459 Ap),(33428460,.join 33428460 BO),(33428461,.join 33428461 EC)]) ⟨Cy e he,FE e he,Iv e he,Mx e he,yC e he,yD e he,AE e he,Cz e he,FF e he,Iw e he,My e he,Vv e he,trivial⟩ (by kernel_rfl)) (ynx e _ _ _ _ _ _ _ _ _)
theorem yny (e:Es) (a0 a1 a2 a3 a4 a5 a6 a7):gT (nL e a0 a1 a2 a3 a4 a5 a6 a7) 5 a Lk (bc a0 a1 a2 a3 a4 a5 a6 a7):=fun _=>⟨fun _ _=>by kernel_rfl,trivial⟩
theorem ynz (e:Es) (he:EG e):dF (Uni (E e)) (oG fK yaM fB yaj yai yap yaA yaC) [] 33428463 (.join 33428463 Lk):=fun _ _ _=>cA.stJ (aK.uni _) (cU (oH e he) 5) (cH.no _ _) (dT (l:=[(33428450,.join 33428450 vV),(33428451,.join 33428451 xM),(33428452,.join 33428452 Ao),(33428453,.join 33428453 BN),(33428454,.join 33428454 rT),(33428455,.join 33428455 rU),(33428456,.join 33428456 tN),(33428457,.join 33428457 vY),(33428458,.join 33428458 xN),(33428459,.join 33428459 Ap),(33428460,.join 33428460 BO),(33428461,.join 33428461 EC),(33428462,.join 33428462 HF)]) ⟨Cy e he,FE e he,Iv e he,Mx e he,yC e he,yD e he,AE e he,Cz e he,FF e he,Iw e he,My e he,Vv e he,be e he,trivial⟩ (by kernel_rfl)) (yny e _ _ _ _ _ _ _ _ _)
theorem yrZ (e:Es) (a0 a1 a2 a3 a4 a5 a6 a7 p0 p1 p2 K):tD (nL e a0 a1 a2 a3 a4 a5 a6 a7) 6 RT [(.ptr 0 1 0 0)] ⟨false,true,3,[(.agg [(.data p0),(.data p1),(ic p2)])]⟩ K=Mw a0 a1 a2 a3 a4 a5 a6 a7 p0 p1 p2 (fun b c d e f g h i j k l m o p q r s t u v w z A=>K (ga [b,c,d,e,f,g,h,i,j,k,l,m,o,p,q,r,s,t,u,v]) [(.agg [(.data w),(.data z),(ic A)])]):=by kernel_rfl
theorem yr0 (e:Es) (he:EG e):xJ (E e) aa KZ:=by
 intro az b K h;unfold aa Vu at h;split at h
 ·exact xH (oH e he) aY.flat (dT (l:=[(33428450,.join 33428450 vV),(33428451,.join 33428451 xM),(33428452,.join 33428452 Ao),(33428453,.join 33428453 BN),(33428454,.join 33428454 rT),(33428455,.join 33428455 rU),(33428456,.join 33428456 tN),(33428457,.join 33428457 vY),(33428458,.join 33428458 xN),(33428459,.join 33428459 Ap),(33428460,.join 33428460 BO),(33428461,.join 33428461 EC),(33428462,.join 33428462 HF),(33428463,.join 33428463 Lk)]) ⟨Cy e he,FE e he,Iv e he,Mx e he,yC e he,yD e he,AE e he,Cz e he,FF e he,Iw e he,My e he,Vv e he,be e he,ynz e he,trivial⟩ (by kernel_rfl)) (by kernel_rfl) (he.num _ (by kernel_rfl)) ((yrZ ..).mpr h)
 ·exact h.elim
def Ix (a0:gI) (a1:Ms) (b c:Ls) (K:Ls→Ls→bF (J4 (Int→Prop))):Prop:=
 (a0 b c (fun d=>(aB (d !=0) (a0 b c (fun e=>(K ([]:Ls) ([]:Ls) 0 0 0 0 0 0 0 0 0 0 0 0 0 0 0 0 0 0 0 0 e))) (a1 b c 0 (fun e f g h i j k l m o p q r s t u v w z A B C D=>(aB (D !=0) (K ([]:Ls) ([]:Ls) 0 0 0 0 0 0 0 0 0 0 0 0 0 0 0 0 0 0 0 0 D) (K B C e f g h i j k l m o p q r s t u v w z A 0)))))))
def uG:Cr:=Ix Mp ycj
def yDW (e:Es) (a0:gI) (a1:Ms):SE:=⟨(E e),yhr [(KN,mX.pw a0)],yhs [],bX,yp7 [(KZ,Vu a1)]⟩
theorem yDX (e:Es) (a0 a1):bN (yDW e a0 a1) 6 I3 ypD (Ix a0 a1):=fun _ _=>by kernel_rfl
theorem bf (e:Es) (he:EG e):bL (E e) (ypD.pw uG) Hz:=bQ he (yDX e _ _) (Ec (aK.uni _) ⟨(yDV e he),trivial⟩ trivial he.ok ⟨(yr0 e he),trivial⟩) aY.flat (bC (by kernel_rfl))
set_option linter.unusedVariables false
theorem Mz (p0 p1 p2 p3 p4 p5:Int) (p6 p7 p8:Bool) (r0:Int) (h:∀ K:Int→Prop,K r0→yaA p0 p1 p2 p3 p4 p5 p6 p7 p8 K) (K:Int→Prop):yaA p0 p1 p2 p3 p4 p5 p6 p7 p8 K=K r0:=
 Aab ⟨fun k=>cI (Z9 [] dQ) (az:=[(.agg [(ic p0),(ic p1),(ic p2),(ic p3),(ic p4),(ic p5)]),(.agg [(.bool p6),(.bool p7),(.bool p8)])]) (x:=(ic r0)) (fun K' k'=>h (fun r0=>K' (ic r0)) k') (K:=fun x=>match x with | (ic r0)=>K r0 | _=>False) k,h K⟩
set_option maxHeartbeats 0
def yE (a0:AB) (a1:kQ) (a2 a3:Cr) (a4:Mn) (a5:Mc) (b c:Ls) (K:Bool→Prop):Prop:=
 (a0 b c (fun d=>(aB d (K true) (a1 b (fun e=>(aA (hO 8 c) (aB (isEmpty c) (a2 b c (fun f g h i j k l m o p q r s t u v w z A B C D E=>(a3 b c (fun F G H I J L M N O P R S T U V W X Y Z y0 y1 y2 y3=>(jn (fun (a:Bool→Prop)=>(a4  (fun y4=>(aB (y4==16) (a5 f g F G (fun y5=>(aB y5 (aB ((h==H)&&((i==I)&&((j==J)&&((k==L)&&((l==M)&&((m==N)&&((o==O)&&((p==P)&&((q==R)&&((r==S)&&((s==T)&&((t==U)&&((u==V)&&((v==W)&&((w==X)&&((z==Y)&&((A==Z)&&((B==y0)&&((C==y1)&&((D==y2)&&true)))))))))))))))))))) (aB (E==y3) (a5 b c e ([]:Ls) a) (a false)) (a false)) (a false)))) (a false))))) K))))) (aA (decide (((length c)+64)*(64+1)≤room)) (a2 b c (fun f g h i j k l m o p q r s t u v w z A B C D E=>(a3 b c (fun F G H I J L M N O P R S T U V W X Y Z y0 y1 y2 y3=>(jn (fun (n:Bool→Prop)=>(a4  (fun y4=>(aB (y4==16) (a5 f g F G (fun y5=>(aB y5 (aB ((h==H)&&((i==I)&&((j==J)&&((k==L)&&((l==M)&&((m==N)&&((o==O)&&((p==P)&&((q==R)&&((r==S)&&((s==T)&&((t==U)&&((u==V)&&((v==W)&&((w==X)&&((z==Y)&&((A==Z)&&((B==y0)&&((C==y1)&&((D==y2)&&true)))))))))))))))))))) (aB (E==y3) (aA (decide ((length c)=(length c))) (aA (decide ((0+(length c))≤(length c))) (a5 b c e (take (length c) c) n))) (n false)) (n false)) (n false)))) (n false))))) K)))))))))))))
def MA:AB:=yE yeg uA FA uG Ct uB
def yr1 (e:Es) (a0:AB) (a1:kQ) (a2 a3:Cr) (a4:Mn) (a5:Mc):SE:=sE (E e) [(Ha,Ci.pw a0),(Ek,qK.pw a1),(rR,ypD.pw a2),(Hz,ypD.pw a3),(HA,Mo.pw a4),(HC,Md.pw a5)] bX
theorem yr2 (e:Es) (a0 a1 a2 a3 a4 a5):bN (yr1 e a0 a1 a2 a3 a4 a5) 6 Sb Ci (yE a0 a1 a2 a3 a4 a5):=fun _ _=>by kernel_rfl
theorem yr3 (e:Es) (he:EG e):bL (E e) (Ci.pw MA) EB:=bQ he (yr2 e _ _ _ _ _ _) (bK (aK.uni _) ⟨(S8 e he),(LX e he),(yym e he),(bf e he),(Y7 e he),(U8 e he),trivial⟩ trivial he.ok) aY.flat (bC (by kernel_rfl))
def bG (n:Int):Prop:=-9223372036854775808≤n∧n≤9223372036854775807
def fT (n:Int):Prop:=0≤n∧n≤18446744073709551615
theorem nM (n:Int):u64.wrap n=n%18446744073709551616:=by simp only [IntKind.wrap,IntKind.signed,IntKind.bits,mJ,gE,if_false];rfl
theorem yNB (n:Int):i64.wrap n=if n%18446744073709551616≥9223372036854775808 then n%18446744073709551616-18446744073709551616 else n%18446744073709551616:=by
 have e1:(2:Int) ^ 64=18446744073709551616:=rfl;have e2:(2:Int) ^ (64-1)=9223372036854775808:=rfl;simp only [IntKind.wrap,IntKind.signed,IntKind.bits,pI,e1,e2]
 by_cases h:n%18446744073709551616≥9223372036854775808<;>simp [h]
theorem aV {n:Int} (h:fT n):u64.wrap n=n:=by unfold fT at h;rw [nM];omega
theorem cZ {n:Int} (h:bG n):i64.wrap n=n:=by unfold bG at h;rw [yNB];split<;>omega
theorem bB {x y:Prop}:aB true x y=x:=rfl
theorem aS {x y:Prop}:aB false x y=y:=rfl
theorem dX {x:Prop}:aA true x=x:=rfl
theorem AF {p:Int} (h:bG p) (K:Int→Prop):BQ p K=K (p.natAbs:Int):=by
 unfold bG at h;unfold BQ Sc
 by_cases hp:p<0
 ·have e:u64.wrap ((0:Int)-u64.wrap p)=(p.natAbs:Int):=by
   rw [nM,nM];omega
  rw [Os hp,bB,e]
 ·rw [Tx hp,aS,aV ⟨by omega,by omega⟩];congr 1;omega
theorem bg (x:Int→Int→Bool→Prop):∀ (n a b:Nat),b<n→HI x n (a:Int) (b:Int)=x ((Nat.gcd a b:Nat):Int) 0 false
 | 0,a,b,h=>by omega
 | n+1,a,b,h=>by
  unfold HI
  by_cases hb:b=0
  ·subst hb;simp [aB]
  ·have h1:(b:Int)>0:=by omega
   have h2:¬((b:Int)=0):=by omega
   rw [Os h1,bB,Tx h2,jS,dX];have e:Int.tmod (a:Int) (b:Int)=((a%b:Nat):Int):=by rw [Int.tmod_eq_emod_of_nonneg (by omega)];omega
   rw [e,bg x n b (a%b) (by have:=Nat.mod_lt a (show b>0 by omega);omega)];rw [uZ a b,Nat.gcd_rec b a,uZ]
theorem Iy (a b:Nat) (K:Int→Prop) (h:K ((Nat.gcd a b:Nat):Int)):tO (a:Int) (b:Int) K:=by unfold tO Sd;exact ⟨b+1,by rw [bg _ (b+1) a b (by omega)];exact h⟩
def RV (n d:Int):Prop:=1≤d∧d≤1000000000000000000∧-1000000000000000000≤n∧n≤1000000000000000000∧Nat.gcd n.natAbs d.natAbs=1
instance (n d:Int):Decidable (RV n d):=by unfold RV;infer_instance
def jQ (n d:Int):Int:=if RV n d then 0 else 8
theorem Vw {n d:Int} (hn:bG n) (hd:bG d) {K:Int→Prop} (h:K (jQ n d)):qF n d K:=by
 unfold qF Si
 by_cases h1:d<1
 ·have e:jQ n d=8:=WN fun h=>by have:=h.1;omega
  rw [Os h1,bB,← e];exact h
 ·have hd':=hd;have hn':=hn;unfold bG at hd' hn';have ed:u64.wrap d=((d.natAbs:Nat):Int):=by rw [aV ⟨by omega,by omega⟩];omega
  rw [Tx h1,aS,AF hn,ed]
  by_cases h2:((if ((d.natAbs:Nat):Int)>((n.natAbs:Nat):Int) then ((d.natAbs:Nat):Int) else ((n.natAbs:Nat):Int))>1000000000000000000)
  ·have e:jQ n d=8:=WN fun h=>by
    obtain ⟨a1,a2,a3,a4,_⟩:=h;revert h2;split<;>omega
   rw [Os h2,bB,← e];exact h
  ·rw [Tx h2,aS,AF hn];refine Iy _ _ _ ?_;have h3:0<Nat.gcd n.natAbs d.natAbs:=wI _ (by omega);have h4:d≤1000000000000000000∧-1000000000000000000≤n∧n≤1000000000000000000:=by
    revert h2;split<;>omega
   by_cases h5:((Nat.gcd n.natAbs d.natAbs:Nat):Int)>1
   ·have e:jQ n d=8:=WN fun h=>by have:=h.2.2.2.2;omega
    rw [Os h5,bB,← e];exact h
   ·have e:jQ n d=0:=WM ⟨by omega,h4.1,h4.2.1,h4.2.2,by omega⟩;rw [Tx h5,aS,← e];exact h
theorem yF {p:Int} (h:fT p):u64.wrap (BitVec.ofInt u64.bits p&&&BitVec.ofInt u64.bits (4294967295:Int)).toNat=p%4294967296:=by
 unfold fT at h;have e1:(BitVec.ofInt 64 p).toNat=p.toNat:=by
  rw [BitVec.toNat_ofInt];omega
 have e2:(BitVec.ofInt 64 (4294967295:Int)).toNat=4294967295:=rfl;have e3:(BitVec.ofInt u64.bits p&&&BitVec.ofInt u64.bits (4294967295:Int)).toNat=p.toNat%4294967296:=by show (BitVec.ofInt 64 p&&&BitVec.ofInt 64 (4294967295:Int)).toNat=_;rw [BitVec.toNat_and,e1,e2];exact Nat.and_two_pow_sub_one_eq_mod p.toNat 32
 rw [e3,nM];omega
theorem bh (p:Int):Int.fdiv p 4294967296=p/4294967296:=by rw [Int.fdiv_eq_ediv_of_nonneg _ (by omega)]
theorem CA {a b:Int} (ha:fT a) (hb:fT b) (K:Int→Int→Prop):xQ a b K=K (a*b/18446744073709551616) (a*b%18446744073709551616):=by
 unfold xQ Sn;simp only [bh];rw [yF ha,yF hb];unfold fT at ha hb;have ha':=ha;have hb':=hb;obtain ⟨x1,hx1⟩:∃ x,x=a/4294967296:=⟨_,rfl⟩;obtain ⟨x0,hx0⟩:∃ x,x=a%4294967296:=⟨_,rfl⟩;obtain ⟨y1,hy1⟩:∃ x,x=b/4294967296:=⟨_,rfl⟩;obtain ⟨y0,hy0⟩:∃ x,x=b%4294967296:=⟨_,rfl⟩;rw [← hx1,← hx0,← hy1,← hy0];have b1:0≤x1∧x1≤4294967295:=by omega
 have b2:0≤x0∧x0≤4294967295:=by omega
 have b3:0≤y1∧y1≤4294967295:=by omega
 have b4:0≤y0∧y0≤4294967295:=by omega
 have pb:∀ x y:Int,0≤x∧x≤4294967295→0≤y∧y≤4294967295→0≤x*y∧x*y≤18446744065119617025:=by intro x y hx hy;refine ⟨kX hx.1 hy.1,?_⟩;have:=oN hx.2 hy.2 hy.1 (by omega:(0:Int)≤4294967295);omega
 have p1:=pb x1 y1 b1 b3;have p2:=pb x1 y0 b1 b4;have p3:=pb x0 y1 b2 b3;have p4:=pb x0 y0 b2 b4;have ea:a=x1*4294967296+x0:=by omega
 have eb:b=y1*4294967296+y0:=by omega
 have eab:a*b=x1*y1*18446744073709551616+x1*y0*4294967296+x0*y1*4294967296+x0*y0:=by rw [ea,eb];grind
 obtain ⟨P,hP⟩:∃ x,x=x1*y1:=⟨_,rfl⟩;obtain ⟨Q,hQ⟩:∃ x,x=x1*y0:=⟨_,rfl⟩;obtain ⟨R,hR⟩:∃ x,x=x0*y1:=⟨_,rfl⟩;obtain ⟨S,hS⟩:∃ x,x=x0*y0:=⟨_,rfl⟩;rw [← hP] at p1;rw [← hQ] at p2;rw [← hR] at p3;rw [← hS] at p4;rw [← hP,← hQ,← hR,← hS] at eab ⊢;have w1:u64.wrap S=S:=aV ⟨by omega,by omega⟩;have w2:u64.wrap Q=Q:=aV ⟨by omega,by omega⟩;have w3:u64.wrap R=R:=aV ⟨by omega,by omega⟩;have w4:u64.wrap P=P:=aV ⟨by omega,by omega⟩;rw [w1,w2,w3,w4];have w5:u64.wrap (Q+S/4294967296)=Q+S/4294967296:=aV ⟨by omega,by omega⟩;rw [w5,yF ⟨by omega,by omega⟩];have w6:u64.wrap ((Q+S/4294967296)%4294967296+R)=(Q+S/4294967296)%4294967296+R:=aV ⟨by omega,by omega⟩;rw [w6];have w7:u64.wrap (P+(Q+S/4294967296)/4294967296)=P+(Q+S/4294967296)/4294967296:=by
  have:a*b/18446744073709551616≤18446744073709551615:=by
   have h1:a*b≤18446744073709551615*18446744073709551615:=by have:=oN ha'.2 hb'.2 hb'.1 (by omega:(0:Int)≤18446744073709551615);exact this
   omega
  exact aV ⟨by omega,by omega⟩
 rw [w7];have hab:a*b≤18446744073709551615*18446744073709551615:=oN ha'.2 hb'.2 hb'.1 (by omega:(0:Int)≤18446744073709551615);rw [eab] at hab ⊢;rw [nM,nM];congr 1;omega
theorem yM2 {a b:Int} {K:Int→Prop} (h:K (if a=0 then b else a)):Lo [.int .i64 a,.int .i64 b] K:=by
 unfold Lo Sk;refine ⟨3,?_⟩;have e1:i64.wrap 1=1:=by decide
 have e2:i64.wrap 2=2:=by decide
 by_cases ha:a=0
 ·by_cases hb:b=0
  ·simp [EE,bB,aS,dX,aI,rL,aJ,e1,e2,ha,hb] at h ⊢;exact h
  ·have e3:(b !=0)=true:=by simpa using hb
   simp [EE,bB,aS,dX,aI,rL,aJ,e1,e2,ha,e3] at h ⊢;exact h
 ·have e3:(a !=0)=true:=by simpa using ha
  simp [EE,bB,aS,dX,aI,rL,aJ,e1,e2,ha,e3] at h ⊢;exact h
def cG (a b c d:Int):Int:=if jQ a b=0 then jQ c d else jQ a b
theorem Iz {a b c d:Int} (ha:bG a) (hb:bG b) (hc:bG c) (hd:bG d) {K:Int→Prop} (h:K (cG a b c d)):Aq a b c d K:=by unfold Aq Sm;exact Vw ha hb (Vw hc hd (yM2 h))
def gJ (a b:Int):Int:=if a<b then -1 else if a>b then 1 else 0
theorem yDY (a b:Int) (K:Int→Prop):Lr a b K=K (gJ a b):=by
 unfold Lr Sw;simp only [Su,Ss,bne_self_eq_false,aS,gJ]
 by_cases h:a<b
 ·simp [h,bB]
 ·by_cases h2:a>b
  ·simp [h,h2,bB,aS]
  ·simp [h,h2,aS]
theorem bi (a b:Int) (K:Int→Prop):Lt a b K=K (gJ a b):=by
 unfold Lt SA;simp only [Sy,Sx,bne_self_eq_false,aS,gJ]
 by_cases h:a<b
 ·simp [h,bB]
 ·by_cases h2:a>b
  ·simp [h,h2,bB,aS]
  ·simp [h,h2,aS]
theorem yL1 {a b:Int} {K:Int→Prop} (h:K (if a=0 then b else a)):Lu [.int .i64 a,.int .i64 b] K:=by
 unfold Lu SC;refine ⟨3,?_⟩;have e1:i64.wrap 1=1:=by decide
 have e2:i64.wrap 2=2:=by decide
 by_cases ha:a=0
 ·by_cases hb:b=0
  ·simp [EI,bB,aS,dX,aI,rL,aJ,e1,e2,ha,hb] at h ⊢;exact h
  ·have e3:(b !=0)=true:=by simpa using hb
   simp [EI,bB,aS,dX,aI,rL,aJ,e1,e2,ha,e3] at h ⊢;exact h
 ·have e3:(a !=0)=true:=by simpa using ha
  simp [EI,bB,aS,dX,aI,rL,aJ,e1,e2,ha,e3] at h ⊢;exact h
theorem yG {a b c d:Int}:cG a b c d=0↔RV a b∧RV c d:=by
 unfold cG jQ
 by_cases h1:RV a b<;>by_cases h2:RV c d<;>simp [h1,h2]
def oI (a b c d:Int):Int:=gJ (a*d) (c*b)
theorem yJv {x y:Int} (hx:0≤x) (hy:0≤y):(if gJ (x/18446744073709551616) (y/18446744073709551616)=0 then gJ (x%18446744073709551616) (y%18446744073709551616) else gJ (x/18446744073709551616) (y/18446744073709551616))=gJ x y:=by unfold gJ;split<;>rename_i h<;>revert h<;>repeat' split<;>intro h<;>omega
theorem fT.abs {n:Int} (h:bG n):fT ((n.natAbs:Nat):Int):=by unfold bG at h;unfold fT;omega
theorem yM3 {a b c d:Int} (ha:bG a) (hb:bG b) (hc:bG c) (hd:bG d) {K:Int→Int→Prop} (h:K (if cG a b c d=0 then oI a b c d else 0) (cG a b c d)):tQ a b c d K:=by
 unfold tQ SG;refine Iz ha hb hc hd ?_
 by_cases hk:cG a b c d=0
 ·rw [WM hk] at h;rw [hk] at h ⊢;obtain ⟨⟨b1,b2,a1,a2,_⟩,d1,d2,c1,c2,_⟩:=yG.1 hk;simp only [bne_self_eq_false,aS]
  by_cases hs:decide (a<0)=decide (c<0)
  ·have e:(decide (a<0) !=decide (c<0))=false:=by rw [hs];simp
   rw [e,aS,AF ha,aV ⟨by omega,by omega⟩,CA (fT.abs ha) ⟨by omega,by omega⟩,AF hc,aV ⟨by omega,by omega⟩,CA (fT.abs hc) ⟨by omega,by omega⟩,bi,bi];refine yL1 ?_;have p1:0≤((a.natAbs:Nat):Int)*d:=kX (by omega) (by omega);have p2:0≤((c.natAbs:Nat):Int)*b:=kX (by omega) (by omega);rw [yJv p1 p2]
   by_cases hneg:a<0
   ·have hcn:c<0:=by simpa [hneg] using hs.symm
    rw [Os hneg,bB];have e1:((a.natAbs:Nat):Int)*d=-(a*d):=by
     rw [show ((a.natAbs:Nat):Int)=-a by omega,zJ]
    have e2:((c.natAbs:Nat):Int)*b=-(c*b):=by rw [show ((c.natAbs:Nat):Int)=-c by omega,zJ]
    have e3:i64.wrap (0-gJ (((a.natAbs:Nat):Int)*d) (((c.natAbs:Nat):Int)*b))=oI a b c d:=by
     rw [e1,e2];unfold oI gJ;rw [cZ (by unfold bG;repeat' split<;>omega)]
     repeat' split<;>omega
    rw [e3];exact h
   ·have hcn:¬c<0:=by simpa [hneg] using hs.symm
    rw [Tx hneg,aS,show ((a.natAbs:Nat):Int)=a by omega,show ((c.natAbs:Nat):Int)=c by omega];exact h
  ·have e:(decide (a<0) !=decide (c<0))=true:=by simpa using hs
   rw [e,bB,yDY];have e2:gJ a c=oI a b c d:=by
    unfold oI gJ
    by_cases hneg:a<0
    ·have hcn:¬c<0:=by intro hcn;simp [hneg,hcn] at hs
     have q1:a*d<0:=CW hneg (by omega);have q2:0≤c*b:=kX (by omega) (by omega);rw [WM (by omega),WM (by omega)]
    ·have hcn:c<0:=by
      by_cases hcn:c<0
      ·exact hcn
      ·simp [hneg,hcn] at hs
     have q1:c*b<0:=CW hcn (by omega);have q2:0≤a*d:=kX (by omega) (by omega);rw [WN (by omega),WM (by omega),WN (by omega),WM (by omega)]
   rw [e2];exact h
 ·rw [WN hk] at h;have e:(cG a b c d !=0)=true:=by simpa using hk
  rw [e,bB];exact h
def blen (x:Nat):Nat:=if x=0 then 0 else x.log2+1
theorem bj (x:Nat):x<2 ^ blen x:=by
 unfold blen;split
 ·rename_i h;subst h;decide
 ·exact Nat.lt_log2_self
theorem MB {x:Nat} (h:x≠0):2 ^ (blen x-1)≤x:=by unfold blen;rw [WN h];exact Nat.log2_self_le h
theorem yL2 {x m:Nat} (h1:2 ^ m≤x) (h2:x<2 ^ (m+1)):blen x=m+1:=by
 have hx:x≠0:=by have:=Nat.two_pow_pos m;omega
 unfold blen;rw [WN hx];congr 1;have a:=Nat.log2_self_le hx;have b:=Nat.lt_log2_self (n:=x);have c1:¬(x.log2<m):=fun h=>by
  have:=FZ (show 0<2 by omega) (show x.log2+1≤m by omega);omega
 have c2:¬(m<x.log2):=fun h=>by
  have:=FZ (show 0<2 by omega) (show m+1≤x.log2 by omega);omega
 omega
theorem yKG {x k:Nat} (h:2 ^ k≤x):blen x=k+blen (x/2 ^ k):=by
 have hp:=Nat.two_pow_pos k;have hq:x/2 ^ k≠0:=by have:=Nat.div_pos h hp;omega
 have h1:=MB hq;have h2:=bj (x/2 ^ k);obtain ⟨m,hm⟩:∃ m,blen (x/2 ^ k)=m+1:=⟨blen (x/2 ^ k)-1,by
  have:blen (x/2 ^ k)≠0:=by unfold blen;rw [WN hq];omega
  omega⟩
 rw [hm] at h1 h2 ⊢;rw [Nat.add_sub_cancel] at h1;have:=yL2 (x:=x) (m:=k+m) (by
   rw [Nat.pow_add]
   calc 2 ^ k*2 ^ m≤2 ^ k*(x/2 ^ k):=Nat.mul_le_mul_left _ h1
    _≤x:=Nat.mul_div_le _ _) (by
   rw [show k+m+1=k+(m+1) by omega,Nat.pow_add];rw [Nat.mul_comm];exact (Nat.div_lt_iff_lt_mul hp).1 h2)
 omega
theorem yM4:∀ x:Nat,x<256→aJ (getD tJ x .nils)=(blen x:Int):=by decide +kernel
theorem bm {n:Int} (h0:0≤n) (h1:n<256):u8.wrap n=n:=by have e1:(2:Int) ^ 8=256:=rfl;simp only [IntKind.wrap,IntKind.signed,IntKind.bits,mJ,gE,if_false,e1];omega
theorem yL3 {n:Int} (h0:0≤n) (h1:n<256):aJ (getD tJ (u8.wrap n).toNat .nils)=(blen n.toNat:Int):=by rw [bm h0 h1];exact yM4 n.toNat (by omega)
theorem yNC {n:Nat} (h:n<256):blen n≤8:=by
 by_cases h0:n=0
 ·subst h0;decide
 ·have:=MB h0;have h2:blen n-1<8:=by
   refine Nat.lt_of_not_le fun hc=>?_
   have:=FZ (show 0<2 by omega) hc;omega
  omega
theorem AG {n k:Int} (h0:0≤n) (h1:n<256) (hk:0≤k∧k≤56) {m:Int} (hm:m=k+blen n.toNat) {K:Int→Prop} (h:K m) :
  aA (decide ((0:Int)≤(u8.wrap n))) (aA (decide ((u8.wrap n)<(256:Int))) (K (i64.wrap (k+(i64.wrap (aJ (getD tJ ((u8.wrap n).toNat) .nils))))))):=by
 have hb:=yNC (n:=n.toNat) (by omega);have e1:i64.wrap (blen n.toNat:Int)=blen n.toNat:=cZ (by unfold bG;omega);have e2:i64.wrap (k+blen n.toNat:Int)=k+blen n.toNat:=cZ (by unfold bG;omega);rw [yL3 h0 h1,bm h0 h1,Os h0,dX,Os h1,dX,e1,e2,← hm];exact h
theorem AH (p q:Int) (hq:0≤q):Int.fdiv p q=p/q:=Int.fdiv_eq_ediv_of_nonneg _ hq
theorem yKH {p:Int} (hp:fT p) {K:Int→Prop} (h:K (blen p.toNat:Int)):Lw p K:=by
 unfold fT at hp;unfold Lw SI;simp only [AH _ 4294967296 (by omega),AH _ 65536 (by omega),AH _ 256 (by omega)];have key:∀ (k:Nat) (q:Int),2 ^ k≤p.toNat→q=p/(2 ^ k:Nat)→(blen p.toNat:Int)=k+blen q.toNat:=by
  intro k q hk hq;have e:q.toNat=p.toNat/2 ^ k:=by
   rw [hq];obtain ⟨m,rfl⟩:∃ m:Nat,p=m:=⟨p.toNat,by omega⟩;rw [← lH,cM,cM]
  rw [e];have:=yKG hk;omega
 by_cases h1:p≥4294967296
 ·rw [Os h1,bB]
  by_cases h2:p/4294967296≥65536
  ·rw [Os h2,bB]
   by_cases h3:p/4294967296/65536≥256
   ·rw [Os h3,bB];exact AG (by omega) (by omega) (by omega) (key 56 _ (by omega) (by omega)) h
   ·rw [Tx h3,aS];exact AG (by omega) (by omega) (by omega) (key 48 _ (by omega) (by omega)) h
  ·rw [Tx h2,aS]
   by_cases h3:p/4294967296≥256
   ·rw [Os h3,bB];exact AG (by omega) (by omega) (by omega) (key 40 _ (by omega) (by omega)) h
   ·rw [Tx h3,aS];exact AG (by omega) (by omega) (by omega) (key 32 _ (by omega) (by omega)) h
 ·rw [Tx h1,aS]
  by_cases h2:p≥65536
  ·rw [Os h2,bB]
   by_cases h3:p/65536≥256
   ·rw [Os h3,bB];exact AG (by omega) (by omega) (by omega) (key 24 _ (by omega) (by omega)) h
   ·rw [Tx h3,aS];exact AG (by omega) (by omega) (by omega) (key 16 _ (by omega) (by omega)) h
  ·rw [Tx h2,aS]
   by_cases h3:p≥256
   ·rw [Os h3,bB];exact AG (by omega) (by omega) (by omega) (key 8 _ (by omega) (by omega)) h
   ·rw [Tx h3,aS];exact AG (by omega) (by omega) (by omega) (by simp) h
theorem yvC {p:Int} (hp:fT p) {K:Int→Prop} (h:K (64-blen p.toNat:Int)):As p K:=by
 unfold As SJ;refine yKH hp ?_;have hb:blen p.toNat≤64:=by
  unfold fT at hp
  by_cases h0:p.toNat=0
  ·rw [h0];decide
  ·have:=MB h0;have h2:blen p.toNat-1<64:=by
    refine Nat.lt_of_not_le fun hc=>?_
    have:=FZ (show 0<2 by omega) hc;omega
   omega
 rw [cZ (by unfold bG;omega)];exact h
structure DI (y a b u un q r:Int):Prop where
 hy:y=a*4294967296+b
 h1:2147483648≤a∧a≤4294967295
 h0:0≤b∧b≤4294967295
 hn:0≤un∧un≤4294967295
 hu:q*a+r=u
 hq:0≤q∧q≤4294967297
 hr:0≤r∧r≤4294967295
 hlt:u<y
 hU:u*4294967296+un<(q+1)*y
def DG (y u un q:Int):Prop:=0≤q∧q≤4294967295∧q*y≤u*4294967296+un∧u*4294967296+un<(q+1)*y
theorem DI.step {y a b u un q r:Int} (h:DI y a b u un q r) {A B C:Prop}
  (hA:DG y u un (q-1)→0≤q-1→q-1≤4294967296→A)
  (hB:DI y a b u un (q-1) (r+a)→B)
  (hC:DG y u un q→C) :
  aB (decide (q≥(4294967296:Int)))
   (aB (decide ((u64.wrap (r+a))≥(4294967296:Int))) A B)
   (aB (decide ((u64.wrap (q*b))>(u64.wrap ((u64.wrap ((4294967296:Int)*r))+un))))
    (aB (decide ((u64.wrap (r+a))≥(4294967296:Int))) A B) C):=by
 have h':=h;obtain ⟨hy,h1,h0,hn,hu,hq,hr,hlt,hU⟩:=h;have e1:u64.wrap (r+a)=r+a:=aV ⟨by omega,by omega⟩;have eq1:q*y=q*a*4294967296+q*b:=by rw [hy];grind
 have eq2:(q-1)*y=q*y-y:=by grind
 have eq3:(q-1)*a=q*a-a:=by grind
 have eq4:(q-1+1)*y=q*y:=by grind
 have eq5:(q-1)*b=q*b-b:=by grind
 have big:u*4294967296+un<q*y→aB (decide ((u64.wrap (r+a))≥(4294967296:Int))) A B:=by
  intro hb;have q1:0≤q-1:=by
   refine Int.not_lt.1 fun hc=>?_
   have hq0:q=0:=by omega
   subst hq0;simp at hb hu;omega
  rw [e1]
  by_cases hc:r+a≥4294967296
  ·rw [Os hc,bB];have hp:(q-1)*b≤4294967296*4294967295:=oN (by omega) h0.2 h0.1 (by omega);have hle:(q-1)*y≤u*4294967296+un:=by
    have:(q-1)*y=(q-1)*a*4294967296+(q-1)*b:=by rw [hy];grind
    omega
   have hlt32:q-1≤4294967295:=by
    refine Int.not_lt.1 fun hc=>?_
    have:4294967296*y≤(q-1)*y:=AL (by omega) (by omega);omega
   exact hA ⟨q1,hlt32,hle,by rw [eq4];exact hb⟩ q1 (by omega)
  ·rw [Tx hc,aS];exact hB ⟨hy,h1,h0,hn,by rw [eq3];omega,⟨q1,by omega⟩,⟨by omega,by omega⟩,hlt,by rw [eq4];exact hb⟩
 by_cases ha:q≥4294967296
 ·rw [Os ha,bB];refine big ?_;have:4294967296*y≤q*y:=AL (by omega) (by omega);omega
 ·rw [Tx ha,aS];have hp:q*b≤4294967295*4294967295:=oN (by omega) h0.2 h0.1 (by omega);have hp0:0≤q*b:=kX hq.1 h0.1;have w1:u64.wrap (q*b)=q*b:=aV ⟨hp0,by omega⟩;have w2:u64.wrap ((4294967296:Int)*r)=4294967296*r:=aV ⟨by omega,by omega⟩;have w3:u64.wrap ((4294967296:Int)*r+un)=4294967296*r+un:=aV ⟨by omega,by omega⟩;rw [w1,w2,w3]
  by_cases hb:q*b>4294967296*r+un
  ·rw [Os hb,bB];exact big (by omega)
  ·rw [Tx hb,aS];exact hC ⟨hq.1,by omega,by omega,hU⟩
theorem yND (W:Int→(Int→Prop)→Prop) {y a c u un:Int} (s v un0:Int) {x0 x1:Int→Int→Int→Int→Int→Int→Int→Int→Int→Bool→Prop}
  (hx:∀ q r b,DG y u un q→x0 y s a c v un un0 q r b) (hx1:∀ q r b,DG y u un q→x1 y s a c v un un0 q r b) :
  ∀ (n:Nat) (q r:Int) (b:Bool),DI y a c u un q r→4294967296≤r+n*2147483648→Au W x0 x1 (n+1) y s a c v un un0 q r b:=by
 intro n;induction n with
 | zero =>intro q r b h hn;have:=h.hr.2;exact absurd hn (by omega)
 | succ n ih=>
  intro q r b h hn;unfold Au;refine h.step (fun g a1 a2=>?_) (fun g=>?_) (fun g=>hx1 _ _ _ g)
  ·rw [aV (n:=q-1) ⟨by omega,by omega⟩];exact hx _ _ _ g
  ·have e1:u64.wrap (q-1)=q-1:=aV ⟨g.hq.1,by have:=g.hq.2;omega⟩;have e2:u64.wrap (r+a)=r+a:=aV ⟨g.hr.1,by have:=g.hr.2;omega⟩;rw [e1,e2];exact ih _ _ _ g (by have:=h.h1.1;omega)
theorem yNE (W:Int→(Int→Prop)→Prop) {y a c u un:Int} (s q1 v:Int) {x0 x1:Int→Int→Int→Int→Int→Int→Int→Int→Int→Bool→Prop}
  (hx:∀ q r b,DG y u un q→x0 y s a c un q1 r v q b) (hx1:∀ q r b,DG y u un q→x1 y s a c un q1 r v q b) :
  ∀ (n:Nat) (q r:Int) (b:Bool),DI y a c u un q r→4294967296≤r+n*2147483648→Av W x0 x1 (n+1) y s a c un q1 r v q b:=by
 intro n;induction n with
 | zero =>intro q r b h hn;have:=h.hr.2;exact absurd hn (by omega)
 | succ n ih=>
  intro q r b h hn;unfold Av;refine h.step (fun g a1 a2=>?_) (fun g=>?_) (fun g=>hx1 _ _ _ g)
  ·rw [aV (n:=q-1) ⟨by omega,by omega⟩];exact hx _ _ _ g
  ·have e1:u64.wrap (q-1)=q-1:=aV ⟨g.hq.1,by have:=g.hq.2;omega⟩;have e2:u64.wrap (r+a)=r+a:=aV ⟨g.hr.1,by have:=g.hr.2;omega⟩;rw [e1,e2];exact ih _ _ _ g (by have:=h.h1.1;omega)
theorem yM5 (W:Int→(Int→Prop)→Prop) {y a c u un:Int} (s v un0:Int) {x0 x1:Int→Int→Int→Int→Int→Int→Int→Int→Int→Bool→Prop}
  (hx:∀ q r b,DG y u un q→x0 y s a c v un un0 q r b) (hx1:∀ q r b,DG y u un q→x1 y s a c v un un0 q r b) (q r:Int) (h:DI y a c u un q r):Lx W x0 x1 3 y s a c v un un0 q r:=by
 have:=yND W s v un0 hx hx1 2 q r true h (by have:=h.hr.1;omega);unfold Au at this;unfold Lx;exact this
theorem yM6 (W:Int→(Int→Prop)→Prop) {y a c u un:Int} (s q1 v:Int) {x0 x1:Int→Int→Int→Int→Int→Int→Int→Int→Int→Bool→Prop}
  (hx:∀ q r b,DG y u un q→x0 y s a c un q1 r v q b) (hx1:∀ q r b,DG y u un q→x1 y s a c un q1 r v q b) (q r:Int) (h:DI y a c u un q r):EK W x0 x1 3 y s a c un q1 r v q:=by
 have:=yNE W s q1 v hx hx1 2 q r true h (by have:=h.hr.1;omega);unfold Av at this;unfold EK;exact this
theorem DI.init {y a b u un:Int} (hy:y=a*4294967296+b) (h1:2147483648≤a∧a≤4294967295) (h0:0≤b∧b≤4294967295) (hn:0≤un∧un≤4294967295)
  (hu:0≤u) (hlt:u<y):DI y a b u un (u/a) (u-u/a*a):=by
 have a1:=Int.mul_ediv_add_emod u a;have a2:=Dg u (show a≠0 by omega);have a3:=Db u (show 0<a by omega);have a4:u/a*a=a*(u/a):=Int.mul_comm _ _;have a5:0≤u/a:=uT hu (by omega);have a6:u/a≤4294967297:=by
  refine Int.not_lt.1 fun hc=>?_
  have:a*4294967298≤a*(u/a):=Int.mul_le_mul_of_nonneg_left (by omega) (by omega);omega
 refine ⟨hy,h1,h0,hn,by omega,⟨a5,a6⟩,⟨by omega,by omega⟩,hlt,?_⟩;have e:(u/a+1)*y=a*(u/a)*4294967296+a*4294967296+(u/a+1)*b:=by
  obtain ⟨t,ht⟩:∃ t,t=u/a:=⟨_,rfl⟩;rw [← ht,hy];grind
 have:0≤(u/a+1)*b:=kX (by omega) h0.1;omega
theorem Vx {a b:Int} {k:Nat} (ha:0≤a) (hb:0≤b∧b<2 ^ k) (hab:a*2 ^ k≤18446744073709551615∧b≤18446744073709551615) (hs:a*2 ^ k+b≤18446744073709551615) :
  u64.wrap (BitVec.ofInt u64.bits (a*2 ^ k)|||BitVec.ofInt u64.bits b).toNat=a*2 ^ k+b:=by
 obtain ⟨x,rfl⟩:∃ x:Nat,a=x:=⟨a.toNat,by omega⟩;obtain ⟨z,rfl⟩:∃ z:Nat,b=z:=⟨b.toNat,by omega⟩;have ec:((x:Int)*2 ^ k)=((2 ^ k*x:Nat):Int):=by push_cast;exact Int.mul_comm _ _
 rw [ec] at hab hs ⊢;have hz:z<2 ^ k:=by have:=hb.2;exact_mod_cast this
 have e:(BitVec.ofInt u64.bits ((2 ^ k*x:Nat):Int)|||BitVec.ofInt u64.bits (z:Int)).toNat=2 ^ k*x+z:=by
  show (BitVec.ofInt 64 ((2 ^ k*x:Nat):Int)|||BitVec.ofInt 64 (z:Int)).toNat=_;rw [BitVec.toNat_or,BitVec.toNat_ofInt,BitVec.toNat_ofInt];have e1:(((2 ^ k*x:Nat):Int)%(2 ^ 64:Nat)).toNat=2 ^ k*x:=by omega
  have e2:((z:Int)%(2 ^ 64:Nat)).toNat=z:=by omega
  rw [e1,e2,Nat.two_pow_add_eq_or_of_lt hz]
 rw [e,aV ⟨by omega,by omega⟩]
 push_cast;rfl
theorem bo {u un q y:Int} (h0:0≤u*4294967296+un-q*y) (h1:u*4294967296+un-q*y≤18446744073709551615) :
  u64.wrap (u64.wrap (u64.wrap (u*4294967296)+un)-u64.wrap (q*y))=u*4294967296+un-q*y:=by
 simp only [nM];omega
theorem uH {a b:Int} (h:0≤a):Int.tdiv a b=a/b:=Int.tdiv_eq_ediv_of_nonneg h
theorem bq {a b:Int} (h:0≤a):Int.tmod a b=a%b:=Int.tmod_eq_emod_of_nonneg h
theorem br {h l y:Int} (hh:fT h) (hl:fT l) (hy:fT y) (hlt:h<y) {K:Int→Int→Prop}
  (k:K ((h*18446744073709551616+l)/y) ((h*18446744073709551616+l)%y)):Aw h l y K:=by
 unfold fT at hh hl hy;unfold Aw SK;have b1:(y ==(0:Int))=false:=beq_eq_false_iff_ne.2 (by omega);have b2:decide (y≤h)=false:=Tx (by omega);have b3:(!(decide (y=(0:Int))))=true:=by rw [Tx (by omega)];rfl
 rw [b1,aS,b2,aS,b3]
 by_cases h0:h=0
 ·subst h0;have:((0:Int)==0)=true:=rfl;rw [this,bB,dX,dX,uH hl.1,bq hl.1];have e:(0:Int)*18446744073709551616+l=l:=by omega
  rw [e] at k;have b4:l/y≤l:=yU _ hl.1;rw [aV ⟨uT hl.1 (by omega),by omega⟩];exact k
 ·have b4:(h ==(0:Int))=false:=beq_eq_false_iff_ne.2 h0;rw [b4,aS];refine yvC ⟨by omega,by omega⟩ ?_;have hyn:y.toNat≠0:=by omega
  have c1:=bj y.toNat
  have c2:=MB hyn;have c3:blen y.toNat≤64:=by
   refine Nat.le_of_not_lt fun hc=>?_
   have:=FZ (show 0<2 by omega) (show 64≤blen y.toNat-1 by omega);omega
  have c4:1≤blen y.toNat:=by
   refine Nat.le_of_not_lt fun hc=>?_
   have:blen y.toNat=0:=by omega
   rw [this] at c1;omega
  obtain ⟨m,hm⟩:∃ m,m=64-blen y.toNat:=⟨_,rfl⟩;have es:(64-(blen y.toNat:Int))=(m:Int):=by omega
  rw [es];have m63:m≤63:=by omega
  have e1:u64.wrap (m:Int)=m:=aV ⟨by omega,by omega⟩;have e2:u64.wrap ((64:Int)-m)=((64-m:Nat):Int):=by rw [aV ⟨by omega,by omega⟩];omega
  have e3:min ((m:Int)).toNat u64.bits=m:=by show min ((m:Int)).toNat 64=m;rw [cM];omega
  have e4:min (((64-m:Nat):Int)).toNat u64.bits=64-m:=by show min (((64-m:Nat):Int)).toNat 64=64-m;rw [cM];omega
  simp only [e1];rw [e2,e3,e4];have p64:(2:Int) ^ (64-m)*2 ^ m=18446744073709551616:=by
   rw [← Int.pow_add,show 64-m+m=64 by omega];rfl
  have p63:(2:Int) ^ (63-m)*2 ^ m=9223372036854775808:=by rw [← Int.pow_add,show 63-m+m=63 by omega];rfl
  have tp:(0:Int)<2 ^ m:=Int.pow_pos (by omega);have tp':(0:Int)<2 ^ (64-m):=Int.pow_pos (by omega);have y1:y<(2:Int) ^ (64-m):=by
   have:blen y.toNat=64-m:=by omega
   rw [this] at c1;have c1':((y.toNat:Nat):Int)<((2 ^ (64-m):Nat):Int):=by exact_mod_cast c1
   push_cast at c1'
   omega
  have y2:(2:Int) ^ (63-m)≤y:=by
   have:blen y.toNat-1=63-m:=by omega
   rw [this] at c2;have c2':((2 ^ (63-m):Nat):Int)≤((y.toNat:Nat):Int):=by exact_mod_cast c2
   push_cast at c2'
   omega
  have Y1:y*2 ^ m<18446744073709551616:=by have:=Int.mul_lt_mul_of_pos_right y1 tp;omega
  have Y2:9223372036854775808≤y*2 ^ m:=by have:=AL y2 (show (0:Int)≤2 ^ m by omega);omega
  have H1:(h+1)*2 ^ m≤y*2 ^ m:=AL (by omega) (by omega);have H2:(h+1)*2 ^ m=h*2 ^ m+2 ^ m:=by grind
  have H0:0≤h*2 ^ m:=kX hh.1 (by omega);have fd:Int.fdiv l (2 ^ (64-m))=l/2 ^ (64-m):=AH _ _ (by omega);have L1:=Int.mul_ediv_add_emod l (2 ^ (64-m));have L2:=Dg l (show (2:Int) ^ (64-m)≠0 by omega);have L3:=Db l tp';have L4:0≤l/2 ^ (64-m):=uT hl.1 (by omega);have L5:l/2 ^ (64-m)<2 ^ m:=by refine Int.ediv_lt_of_lt_mul tp' ?_;rw [Int.mul_comm,p64];omega
  have w1:u64.wrap (y*2 ^ m)=y*2 ^ m:=aV ⟨by omega,by omega⟩;have w2:u64.wrap (h*2 ^ m)=h*2 ^ m:=aV ⟨by omega,by omega⟩;have w3:u64.wrap (BitVec.ofInt u64.bits (h*2 ^ m)|||BitVec.ofInt u64.bits (l/2 ^ (64-m))).toNat=h*2 ^ m+l/2 ^ (64-m):=
   Vx hh.1 ⟨L4,L5⟩ ⟨by omega,by omega⟩ (by omega)
  have w4:u64.wrap (l*2 ^ m)=l%2 ^ (64-m)*2 ^ m:=by
   have e:l*2 ^ m=(l/2 ^ (64-m))*18446744073709551616+l%2 ^ (64-m)*2 ^ m:=by rw [← p64];obtain ⟨a,ha⟩:∃ a,a=l/2 ^ (64-m):=⟨_,rfl⟩;obtain ⟨b,hb⟩:∃ b,b=l%2 ^ (64-m):=⟨_,rfl⟩;obtain ⟨t,ht⟩:∃ t,t=(2:Int) ^ m:=⟨_,rfl⟩;obtain ⟨t',ht'⟩:∃ t,t=(2:Int) ^ (64-m):=⟨_,rfl⟩;rw [← ha,← hb,← ht'] at L1;rw [← ha,← hb,← ht,← ht'];rw [← L1];grind
   have e5:l%2 ^ (64-m)*2 ^ m<18446744073709551616:=by rw [← p64];exact Int.mul_lt_mul_of_pos_right L3 tp
   have e6:0≤l%2 ^ (64-m)*2 ^ m:=kX L2 (by omega);rw [e,nM];omega
  have e5:l%2 ^ (64-m)*2 ^ m<18446744073709551616:=by rw [← p64];exact Int.mul_lt_mul_of_pos_right L3 tp
  have e6:0≤l%2 ^ (64-m)*2 ^ m:=kX L2 (by omega);have eN:(h*18446744073709551616+l)*2 ^ m=(h*2 ^ m+l/2 ^ (64-m))*18446744073709551616+l%2 ^ (64-m)*2 ^ m:=by rw [← p64];obtain ⟨a,ha⟩:∃ a,a=l/2 ^ (64-m):=⟨_,rfl⟩;obtain ⟨b,hb⟩:∃ b,b=l%2 ^ (64-m):=⟨_,rfl⟩;obtain ⟨t,ht⟩:∃ t,t=(2:Int) ^ m:=⟨_,rfl⟩;obtain ⟨t',ht'⟩:∃ t,t=(2:Int) ^ (64-m):=⟨_,rfl⟩;rw [← ha,← hb,← ht'] at L1;rw [← ha,← hb,← ht,← ht'];rw [← L1];grind
  have U1:h*2 ^ m+l/2 ^ (64-m)<y*2 ^ m:=by omega
  have U0:0≤h*2 ^ m+l/2 ^ (64-m):=by omega
  rw [fd,w1,w2,w3,w4];have b5:(!(decide ((m:Int)<0)))=true:=by rw [Tx (by omega)];rfl
  have b6:(!(decide (((64-m:Nat):Int)<0)))=true:=by rw [Tx (by omega)];rfl
  rw [b5,b6,dX,dX,dX,dX];generalize h*2 ^ m+l/2 ^ (64-m)=u at *
  generalize hl0:l%2 ^ (64-m)*2 ^ m=v at *
  generalize hY:y*2 ^ m=Y at *
  rw [AH Y _ (by omega),AH v _ (by omega),yF ⟨by omega,by omega⟩,yF ⟨by omega,by omega⟩,uH U0];have b7:(!(decide (Y/4294967296=(0:Int))))=true:=by rw [Tx (by omega)];rfl
  rw [b7,dX];obtain ⟨c,hyn1⟩:∃ a,a=Y/4294967296:=⟨_,rfl⟩;obtain ⟨d,hyn0⟩:∃ a,a=Y%4294967296:=⟨_,rfl⟩;obtain ⟨un1,hun1⟩:∃ a,a=v/4294967296:=⟨_,rfl⟩;obtain ⟨un0,hun0⟩:∃ a,a=v%4294967296:=⟨_,rfl⟩;rw [← hyn1,← hyn0,← hun1,← hun0];have d1:2147483648≤c∧c≤4294967295:=by omega
  have d0:0≤d∧d≤4294967295:=by omega
  have dn1:0≤un1∧un1≤4294967295:=by omega
  have dn0:0≤un0∧un0≤4294967295:=by omega
  have dY:Y=c*4294967296+d:=by omega
  have g1:=DI.init dY d1 d0 dn1 U0 U1;have x1:u64.wrap (u/c)=u/c:=aV ⟨g1.hq.1,by have:=g1.hq.2;omega⟩;have x2:u64.wrap (u-u64.wrap (u/c*c))=u-u/c*c:=by have r1:=g1.hr.1;have r2:0≤u/c*c:=kX g1.hq.1 (by omega);have r3:=g1.hr.2;rw [aV (n:=u/c*c) ⟨r2,by omega⟩,aV ⟨r1,by omega⟩]
  rw [x1,x2];have fin:∀ q1:Int,DG Y u un1 q1→∀ (un21:Int),un21=u*4294967296+un1-q1*Y→∀ q0,DG Y un21 un0 q0 →
    K (u64.wrap ((u64.wrap (q1*(4294967296:Int)))+q0)) (Int.fdiv (u64.wrap ((u64.wrap ((u64.wrap (un21*(4294967296:Int)))+un0))-(u64.wrap (q0*Y)))) (2 ^ (min ((m:Int)).toNat u64.bits))):=by
   intro q1 G1 un21 e21 q0 G0;obtain ⟨a1,a2,a3,a4⟩:=G1;obtain ⟨c1,c2,c3,c4⟩:=G0;have s1:(q1+1)*Y=q1*Y+Y:=by grind
   have s0:(q0+1)*Y=q0*Y+Y:=by grind
   have w5:u64.wrap (q1*4294967296)=q1*4294967296:=aV ⟨by omega,by omega⟩;have w6:u64.wrap (q1*4294967296+q0)=q1*4294967296+q0:=aV ⟨by omega,by omega⟩;rw [bo (by omega) (by omega),w5,w6,e3,AH _ _ (by omega)];have eT:un21*4294967296+un0-q0*Y=(h*18446744073709551616+l-(q1*4294967296+q0)*y)*2 ^ m:=by
    have f1:(q1*4294967296+q0)*Y=q1*Y*4294967296+q0*Y:=by grind
    have f2:(h*18446744073709551616+l-(q1*4294967296+q0)*y)*2 ^ m=(h*18446744073709551616+l)*2 ^ m-(q1*4294967296+q0)*Y:=by rw [← hY,Int.sub_mul,Int.mul_assoc (q1*4294967296+q0)]
    rw [f2,f1,eN];omega
   rw [eT,Int.mul_ediv_cancel _ (by omega)];have r0:0≤h*18446744073709551616+l-(q1*4294967296+q0)*y:=by
    refine Int.not_lt.1 fun hc=>?_
    have:=CW hc tp;omega
   have r1:h*18446744073709551616+l-(q1*4294967296+q0)*y<y:=by
    refine Int.not_le.1 fun hc=>?_
    have:=AL hc (show (0:Int)≤2 ^ m by omega);omega
   obtain ⟨Q,hQ⟩:∃ Q,Q=q1*4294967296+q0:=⟨_,rfl⟩;rw [← hQ] at r0 r1 ⊢;have z1:(h*18446744073709551616+l)/y=Q:=by
    have:h*18446744073709551616+l=(h*18446744073709551616+l-Q*y)+Q*y:=by omega
    rw [this,Int.add_mul_ediv_right _ _ (by omega),Int.ediv_eq_zero_of_lt r0 r1];omega
   have z2:(h*18446744073709551616+l)%y=h*18446744073709551616+l-Q*y:=by have:=Int.mul_ediv_add_emod (h*18446744073709551616+l) y;rw [z1,Int.mul_comm] at this;omega
   rw [z1,z2] at k;exact k
  have mid:∀ q:Int,DG Y u un1 q→∀ (X:Int→Int→Int→Int→Int→Int→Int→Int→Int→Bool→Prop),(∀ q0 r0 b0,DG Y (u*4294967296+un1-q*Y) un0 q0→X Y m c d un0 q r0 (u*4294967296+un1-q*Y) q0 b0) →
    aA (!(decide (c=(0:Int)))) (∃ n:Nat,EK As X X n Y m c d un0 q ((u64.wrap ((u64.wrap ((u64.wrap ((u64.wrap (u*(4294967296:Int)))+un1))-(u64.wrap (q*Y))))-(u64.wrap ((u64.wrap (Int.tdiv (u64.wrap ((u64.wrap ((u64.wrap (u*(4294967296:Int)))+un1))-(u64.wrap (q*Y)))) c))*c))))) (u64.wrap ((u64.wrap ((u64.wrap (u*(4294967296:Int)))+un1))-(u64.wrap (q*Y)))) (u64.wrap (Int.tdiv (u64.wrap ((u64.wrap ((u64.wrap (u*(4294967296:Int)))+un1))-(u64.wrap (q*Y)))) c))):=by
   intro q G X hX;obtain ⟨a1,a2,a3,a4⟩:=G;have s1:(q+1)*Y=q*Y+Y:=by grind
   have b8:(!(decide (c=(0:Int))))=true:=by rw [Tx (by omega)];rfl
   rw [b8,dX,bo (by omega) (by omega),uH (by omega)];have g0:=DI.init dY d1 d0 dn0 (u:=u*4294967296+un1-q*Y) (by omega) (by omega);generalize u*4294967296+un1-q*Y=u2 at *
   have x1:u64.wrap (u2/c)=u2/c:=aV ⟨g0.hq.1,by have:=g0.hq.2;omega⟩;have x2:u64.wrap (u2-u64.wrap (u2/c*c))=u2-u2/c*c:=by have r1:=g0.hr.1;have r2:0≤u2/c*c:=kX g0.hq.1 (by omega);have r3:=g0.hr.2;have r4:=g0.hlt;rw [aV (n:=u2/c*c) ⟨r2,by omega⟩,aV ⟨r1,by omega⟩]
   rw [x1,x2];exact ⟨3,yM6 _ _ _ _ (fun q0 r0 b0 g=>hX q0 r0 b0 g) (fun q0 r0 b0 g=>hX q0 r0 b0 g) _ _ g0⟩
  have leaf:∀ {P:Prop},P→aA (!(decide ((m:Int)<0))) P:=fun p=>by rw [b5,dX];exact p
  refine ⟨3,yM5 _ _ _ _ (fun q r b G=>?_) (fun q r b G=>?_) _ _ g1⟩
  ·exact mid q G _ (fun q0 r0 b0 G0=>leaf (fin q G _ rfl q0 G0))
  ·exact mid q G _ (fun q0 r0 b0 G0=>leaf (fin q G _ rfl q0 G0))
theorem yKJ {h l y:Int} (hh:fT h) (hl:fT l) (hy:fT y) (h0:0<y) {K:Int→Prop}
  (k:K ((h*18446744073709551616+l)%y)):BT h l y K:=by
 unfold BT SP;have b3:(!(decide (y=(0:Int))))=true:=by rw [Tx (by omega)];rfl
 have a1:=Dg h (show y≠0 by omega);have a2:=Db h h0;have hh':=hh;unfold fT at hh hy;rw [b3,dX,bq hh.1];refine br ⟨a1,by omega⟩ hl ⟨by omega,by omega⟩ a2 ?_;have e:(h%y*18446744073709551616+l)%y=(h*18446744073709551616+l)%y:=by rw [Int.add_emod,Int.mul_emod,Int.emod_emod,← Int.mul_emod,← Int.add_emod]
 rw [e];exact k
def fO (s:Bool) (a b:Int) (K:Int→Int→Int→Prop):Prop:=
 if a≤1000000000000000000∧b≤1000000000000000000 then K (if s then -a else a) b 0 else K 0 0 16
theorem Vy {s:Bool} {a b:Int} (ha:0≤a) (hb:0≤b) (K:Int→Int→Int→Prop):Ar s a b K=fO s a b K:=by
 unfold Ar Sq fO
 by_cases h:a≤1000000000000000000∧b≤1000000000000000000
 ·have e:decide ((if b>a then b else a)>(1000000000000000000:Int))=false:=by
   refine Tx ?_;split<;>omega
  have w1:i64.wrap a=a:=cZ ⟨by omega,by omega⟩;have w2:i64.wrap b=b:=cZ ⟨by omega,by omega⟩;have w3:i64.wrap (0-a)=-a:=by rw [cZ ⟨by omega,by omega⟩];omega
  rw [e,aS,WM h,w1,w2,w3]
  cases s
  ·rfl
  ·rfl
 ·have e:decide ((if b>a then b else a)>(1000000000000000000:Int))=true:=by
   refine Os ?_;split<;>omega
  rw [e,bB,WN h]
def gX (a c:Int) (b d:Int):Nat:=(a.natAbs/Nat.gcd a.natAbs d.natAbs)*(c.natAbs/Nat.gcd c.natAbs b.natAbs)
def jZ (a c:Int) (b d:Int):Nat:=(b.natAbs/Nat.gcd c.natAbs b.natAbs)*(d.natAbs/Nat.gcd a.natAbs d.natAbs)
theorem Vz {a b c d:Int} (ha:bG a) (hb:bG b) (hc:bG c) (hd:bG d) {K:Int→Int→Int→Prop}
  (k:if cG a b c d=0 then fO (decide (a<0) !=decide (c<0)) (gX a c b d) (jZ a c b d) K else K 0 0 (cG a b c d)):ya7 a b c d K:=by
 unfold ya7 Sr;refine Iz ha hb hc hd ?_
 by_cases h:cG a b c d=0
 ·rw [WM h] at k;have:(cG a b c d !=(0:Int))=false:=by rw [h];rfl
  rw [this,aS,AF ha,AF hc];obtain ⟨⟨b1,b2,a1,a2,_⟩,d1,d2,c1,c2,_⟩:=yG.1 h;have wb:u64.wrap b=((b.natAbs:Nat):Int):=by rw [aV ⟨by omega,by omega⟩];omega
  have wd:u64.wrap d=((d.natAbs:Nat):Int):=by rw [aV ⟨by omega,by omega⟩];omega
  rw [wb,wd];refine Iy _ _ _ (Iy _ _ _ ?_);unfold gX jZ at k;have g1:0<Nat.gcd a.natAbs d.natAbs:=wI _ (by omega);have g2:0<Nat.gcd c.natAbs b.natAbs:=wI _ (by omega);obtain ⟨g3,h3⟩:∃ g,g=Nat.gcd a.natAbs d.natAbs:=⟨_,rfl⟩;obtain ⟨g4,h4⟩:∃ g,g=Nat.gcd c.natAbs b.natAbs:=⟨_,rfl⟩;rw [← h3,← h4] at k ⊢;rw [← h3] at g1;rw [← h4] at g2;have n3:(!(decide ((g3:Int)=(0:Int))))=true:=by rw [Tx (by omega)];rfl
  have n4:(!(decide ((g4:Int)=(0:Int))))=true:=by rw [Tx (by omega)];rfl
  rw [n3,n4,dX,dX,uH (by omega),uH (by omega),uH (by omega),uH (by omega),← lH,← lH,← lH,← lH];have q1:a.natAbs/g3≤a.natAbs:=nB _ _;have q2:c.natAbs/g4≤c.natAbs:=nB _ _;have q3:b.natAbs/g4≤b.natAbs:=nB _ _;have q4:d.natAbs/g3≤d.natAbs:=nB _ _;generalize a.natAbs/g3=A at *
  generalize c.natAbs/g4=C at *
  generalize b.natAbs/g4=B at *
  generalize d.natAbs/g3=D at *
  rw [aV (n:=(A:Int)) ⟨by omega,by omega⟩,aV (n:=(C:Int)) ⟨by omega,by omega⟩,aV (n:=(B:Int)) ⟨by omega,by omega⟩,aV (n:=(D:Int)) ⟨by omega,by omega⟩,
   CA ⟨by omega,by omega⟩ ⟨by omega,by omega⟩,dX,dX,CA ⟨by omega,by omega⟩ ⟨by omega,by omega⟩]
  have m1:A*C≤1000000000000000000*1000000000000000000:=wR (by omega) (by omega);have m2:B*D≤1000000000000000000*1000000000000000000:=wR (by omega) (by omega);rw [← uU,← uU];generalize A*C=M at *
  generalize B*D=N at *
  have wm:u64.wrap ((M:Int)/18446744073709551616+(N:Int)/18446744073709551616)=(M:Int)/18446744073709551616+(N:Int)/18446744073709551616:=aV ⟨by omega,by omega⟩;rw [wm]
  by_cases hb:(M:Int)/18446744073709551616+(N:Int)/18446744073709551616>0
  ·rw [Os hb,bB];unfold fO at k;rw [WN (by omega)] at k;exact k
  ·rw [Tx hb,aS];have eM:(M:Int)%18446744073709551616=M:=by omega
   have eN:(N:Int)%18446744073709551616=N:=by omega
   rw [eM,eN]
   by_cases h0:(M:Int)>0
   ·rw [Os h0,bB,Vy (by omega) (by omega)];exact k
   ·rw [Tx h0,aS,Vy (by omega) (by omega)];have hz:M=0:=by omega
    subst hz;unfold fO at k ⊢
    by_cases hN:(N:Int)≤1000000000000000000
    ·rw [WM ⟨by omega,hN⟩] at k ⊢;have e:(if (decide (a<0) !=decide (c<0))=true then -((0:Nat):Int) else ((0:Nat):Int))=0:=by split<;>rfl
     rw [e] at k;exact k
    ·rw [WN (by omega)] at k ⊢;exact k
 ·rw [WN h] at k;have:(cG a b c d !=(0:Int))=true:=by rw [bne_iff_ne];exact h
  rw [this,bB];exact k
theorem RV.swap {c d:Int} (h:RV c d) (h0:0<c):RV d c:=by obtain ⟨d1,d2,c1,c2,g⟩:=h;exact ⟨by omega,c2,by omega,d2,by rw [uZ];exact g⟩
theorem RV.swapn {c d:Int} (h:RV c d) (h0:c<0):RV (-d) (-c):=by obtain ⟨d1,d2,c1,c2,g⟩:=h;exact ⟨by omega,by omega,by omega,by omega,by rw [Int.natAbs_neg,Int.natAbs_neg,uZ];exact g⟩
theorem yM7 {a b c d:Int} (ha:bG a) (hb:bG b) (hc:bG c) (hd:bG d) {K:Int→Int→Int→Prop}
  (k:if cG a b c d=0 then (if c=0 then K 0 0 18 else fO (decide (a<0) !=decide (c<0)) (gX a d b c) (jZ a d b c) K) else K 0 0 (cG a b c d)):tR a b c d K:=by
 unfold tR ST;refine Iz ha hb hc hd ?_
 by_cases h:cG a b c d=0
 ·rw [WM h] at k;have:(cG a b c d !=(0:Int))=false:=by rw [h];rfl
  rw [this,aS];obtain ⟨hab,hcd⟩:=yG.1 h;obtain ⟨d1,d2,c1,c2,_⟩:=id hcd
  by_cases h0:c=0
  ·rw [WM h0] at k;have:(c ==(0:Int))=true:=beq_iff_eq.2 h0;rw [this,bB];exact k
  ·rw [WN h0] at k;have:(c ==(0:Int))=false:=beq_eq_false_iff_ne.2 h0;rw [this,aS]
   by_cases hn:c<0
   ·rw [Os hn] at k;rw [Os hn,bB,cZ (n:=0-d) ⟨by omega,by omega⟩,cZ (n:=0-c) ⟨by omega,by omega⟩,Int.zero_sub,Int.zero_sub];have e:cG a b (-d) (-c)=0:=yG.2 ⟨hab,hcd.swapn hn⟩;refine Vz ha hb ⟨by omega,by omega⟩ ⟨by omega,by omega⟩ ?_;rw [WM e,Os (show -d<0 by omega)];unfold gX jZ at k ⊢;rw [Int.natAbs_neg,Int.natAbs_neg];exact k
   ·rw [Tx hn] at k;rw [Tx hn,aS];have e:cG a b d c=0:=yG.2 ⟨hab,hcd.swap (by omega)⟩;refine Vz ha hb hd hc ?_;rw [WM e,Tx (show ¬d<0 by omega)];exact k
 ·rw [WN h] at k;have:(cG a b c d !=(0:Int))=true:=by rw [bne_iff_ne];exact h
  rw [this,bB];exact k
theorem yL4 {s:Bool} {hi lo p1 p3:Int} {g:Nat} (hh:fT hi) (hl:fT lo) (hg:0<g) (g1:(g:Int)≤1000000000000000000)
   (h1:0≤p1∧p1≤1000000000000000000) (h3:0≤p3∧p3≤1000000000000000000) {K:Int→Int→Int→Prop}
   (k:fO s (((hi*18446744073709551616+lo).toNat/Nat.gcd (hi*18446744073709551616+lo).toNat g:Nat):Int)
    (((p1.toNat/g)*(p3.toNat/Nat.gcd (hi*18446744073709551616+lo).toNat g):Nat):Int) K) :
   (BT hi lo (g:Int) (fun (b:Int)=>
 (tO b (g:Int) (fun (a:Int)=>
 (aB (decide (hi≥a))
 (K (0:Int) (0:Int) (16:Int))
 (Aw hi lo a (fun (c:Int) (j:Int)=>
 (aA (!(decide ((g:Int)=(0:Int))))
 (aA (!(decide (a=(0:Int))))
 (xQ (u64.wrap (Int.tdiv (u64.wrap p1) (g:Int))) (u64.wrap (Int.tdiv (u64.wrap p3) a)) (fun (d:Int) (e:Int)=>
 (aB (decide (d>(0:Int)))
 (K (0:Int) (0:Int) (16:Int))
 (Ar s c e (fun (f:Int) (h:Int) (i:Int)=>
 (K f h i))))))))))))))):=by
  unfold fT at hh hl;obtain ⟨X,hX⟩:∃ X:Nat,X=(hi*18446744073709551616+lo).toNat:=⟨_,rfl⟩;have eX:hi*18446744073709551616+lo=(X:Int):=by omega
  rw [← hX] at k;refine yKJ hh hl ⟨by omega,by omega⟩ (by omega) ?_;rw [eX,← Int.natCast_emod];refine Iy _ _ _ ?_;have eg:Nat.gcd (X%g) g=Nat.gcd X g:=by rw [uZ,uZ X,Nat.gcd_rec g X,uZ]
  rw [eg];have gp:0<Nat.gcd X g:=wI _ hg;have gl:Nat.gcd X g≤g:=Nat.le_of_dvd hg (Gd _ _);generalize Nat.gcd X g=G at *
  by_cases hb:hi≥(G:Int)
  ·rw [Os hb,bB];unfold fO at k;have:18446744073709551616≤X/G:=by
    rw [Nat.le_div_iff_mul_le gp];omega
   rw [WN (by omega)] at k;exact k
  ·rw [Tx hb,aS];refine br hh hl ⟨by omega,by omega⟩ (by omega) ?_;rw [eX];have n3:(!(decide ((g:Int)=(0:Int))))=true:=by rw [Tx (by omega)];rfl
   have n4:(!(decide ((G:Int)=(0:Int))))=true:=by rw [Tx (by omega)];rfl
   have e1:u64.wrap p1=(p1.toNat:Int):=by rw [aV ⟨by omega,by omega⟩];omega
   have e3:u64.wrap p3=(p3.toNat:Int):=by rw [aV ⟨by omega,by omega⟩];omega
   rw [n3,n4,dX,dX,e1,e3,uH (by omega),uH (by omega),← lH,← lH,← lH];have q1:p1.toNat/g≤p1.toNat:=nB _ _;have q3:p3.toNat/G≤p3.toNat:=nB _ _;generalize p1.toNat/g=A at *
   generalize p3.toNat/G=B at *
   generalize X/G=N at *
   rw [aV (n:=(A:Int)) ⟨by omega,by omega⟩,aV (n:=(B:Int)) ⟨by omega,by omega⟩,CA ⟨by omega,by omega⟩ ⟨by omega,by omega⟩,← uU];generalize A*B=D at *
   by_cases hd:((D:Int)/18446744073709551616)>0
   ·rw [Os hd,bB];unfold fO at k;rw [WN (by omega)] at k;exact k
   ·rw [Tx hd,aS];have eD:(D:Int)%18446744073709551616=D:=by omega
    rw [eD,Vy (by omega) (by omega)];exact k
theorem bu {p q c:Int} {K:Int→Int→Prop} (hc:c.toNat≤1) (k:K (((p.toNat+q.toNat+c.toNat)%18446744073709551616:Nat):Int) (((p.toNat+q.toNat+c.toNat)/18446744073709551616:Nat):Int)):Ed p q c K:=by unfold Ed;rw [Os hc,dX];exact k
theorem bv {p q c:Int} {K:Int→Int→Prop} (hc:c.toNat≤1) (k:K (((p.toNat+18446744073709551616-q.toNat-c.toNat)%18446744073709551616:Nat):Int) ((if q.toNat+c.toNat≤p.toNat then 0 else 1:Nat):Int)):Ee p q c K:=by
 unfold Ee;rw [Os hc,dX];have e:(bif Nat.ble (q.toNat+c.toNat) p.toNat then 0 else 1:Nat)=(if q.toNat+c.toNat≤p.toNat then 0 else 1:Nat):=by
  by_cases h:q.toNat+c.toNat≤p.toNat
  ·rw [WM h,show Nat.ble (q.toNat+c.toNat) p.toNat=true from CY h];rfl
  ·rw [WN h]
   cases hb:Nat.ble (q.toNat+c.toNat) p.toNat
   ·rfl
   ·exact absurd (yT hb) h
 rw [e];exact k
theorem yKK {X Y:Int} (hx:0≤X) (hy:0≤Y) (hs:X+Y<340282366920938463463374607431768211456) {F:Int→Int→Int→Int→Prop}
  (h:∀ c1 c2,F ((X+Y)%18446744073709551616) c1 ((X+Y)/18446744073709551616) c2) :
  Ed (X%18446744073709551616) (Y%18446744073709551616) 0 (fun lo c1=>Ed (X/18446744073709551616) (Y/18446744073709551616) c1 (fun hi c2=>F lo c1 hi c2)):=by
 obtain ⟨x,rfl⟩:∃ x:Nat,X=x:=⟨X.toNat,by omega⟩;obtain ⟨y,rfl⟩:∃ y:Nat,Y=y:=⟨Y.toNat,by omega⟩;refine bu (by decide) (bu (by omega) ?_);have e1:(((((x:Int)%18446744073709551616).toNat+((y:Int)%18446744073709551616).toNat+(0:Int).toNat)%18446744073709551616:Nat):Int)=((x:Int)+y)%18446744073709551616:=by omega
 have e2:(((((x:Int)/18446744073709551616).toNat+((y:Int)/18446744073709551616).toNat+(((((x:Int)%18446744073709551616).toNat+((y:Int)%18446744073709551616).toNat+(0:Int).toNat)/18446744073709551616:Nat):Int).toNat)%18446744073709551616:Nat):Int)=((x:Int)+y)/18446744073709551616:=by omega
 rw [e1,e2];exact h _ _
theorem MC {X Y:Int} (hy:0≤Y) (hxy:Y≤X) (hs:X<340282366920938463463374607431768211456) {F:Int→Int→Int→Int→Prop}
  (h:∀ c1 c2,F ((X-Y)%18446744073709551616) c1 ((X-Y)/18446744073709551616) c2) :
  Ee (X%18446744073709551616) (Y%18446744073709551616) 0 (fun lo c1=>Ee (X/18446744073709551616) (Y/18446744073709551616) c1 (fun hi c2=>F lo c1 hi c2)):=by
 obtain ⟨x,rfl⟩:∃ x:Nat,X=x:=⟨X.toNat,by omega⟩;obtain ⟨y,rfl⟩:∃ y:Nat,Y=y:=⟨Y.toNat,by omega⟩;refine bv (by decide) (bv (by split<;>omega) ?_);have e1:(((((x:Int)%18446744073709551616).toNat+18446744073709551616-((y:Int)%18446744073709551616).toNat-(0:Int).toNat)%18446744073709551616:Nat):Int)=((x:Int)-y)%18446744073709551616:=by omega
 rw [e1]
 by_cases hb:((y:Int)%18446744073709551616).toNat+(0:Int).toNat≤((x:Int)%18446744073709551616).toNat
 ·rw [WM hb];have e2:(((((x:Int)/18446744073709551616).toNat+18446744073709551616-((y:Int)/18446744073709551616).toNat-((0:Nat):Int).toNat)%18446744073709551616:Nat):Int)=((x:Int)-y)/18446744073709551616:=by omega
  rw [e2];exact h _ _
 ·rw [WN hb];have e2:(((((x:Int)/18446744073709551616).toNat+18446744073709551616-((y:Int)/18446744073709551616).toNat-((1:Nat):Int).toNat)%18446744073709551616:Nat):Int)=((x:Int)-y)/18446744073709551616:=by omega
  rw [e2];exact h _ _
def fE (s:Bool) (Z p1 p3:Int) (g:Nat) (K:Int→Int→Int→Prop):Prop:=
 if Z=0 then K 0 1 0 else fO s ((Z.toNat/Nat.gcd Z.toNat g:Nat):Int) (((p1.toNat/g)*(p3.toNat/Nat.gcd Z.toNat g):Nat):Int) K
theorem IA {s:Bool} {Z p1 p3:Int} {g:Nat} (hz:0≤Z) (hz2:Z<340282366920938463463374607431768211456) (hg:0<g) (g1:(g:Int)≤1000000000000000000)
   (h1:0≤p1∧p1≤1000000000000000000) (h3:0≤p3∧p3≤1000000000000000000) {K:Int→Int→Int→Prop}
   (k:fE s Z p1 p3 g K) :
   aB (Z/18446744073709551616 ==(0:Int)) (aB (Z%18446744073709551616 ==(0:Int)) (K 0 1 0) (BT (Z/18446744073709551616) (Z%18446744073709551616) (g:Int) (fun (b:Int)=>
 (tO b (g:Int) (fun (a:Int)=>
 (aB (decide ((Z/18446744073709551616)≥a))
 (K (0:Int) (0:Int) (16:Int))
 (Aw (Z/18446744073709551616) (Z%18446744073709551616) a (fun (c:Int) (j:Int)=>
 (aA (!(decide ((g:Int)=(0:Int))))
 (aA (!(decide (a=(0:Int))))
 (xQ (u64.wrap (Int.tdiv (u64.wrap p1) (g:Int))) (u64.wrap (Int.tdiv (u64.wrap p3) a)) (fun (d:Int) (e:Int)=>
 (aB (decide (d>(0:Int)))
 (K (0:Int) (0:Int) (16:Int))
 (Ar s c e (fun (f:Int) (h:Int) (i:Int)=>
 (K f h i)))))))))))))))) (BT (Z/18446744073709551616) (Z%18446744073709551616) (g:Int) (fun (b:Int)=>
 (tO b (g:Int) (fun (a:Int)=>
 (aB (decide ((Z/18446744073709551616)≥a))
 (K (0:Int) (0:Int) (16:Int))
 (Aw (Z/18446744073709551616) (Z%18446744073709551616) a (fun (c:Int) (j:Int)=>
 (aA (!(decide ((g:Int)=(0:Int))))
 (aA (!(decide (a=(0:Int))))
 (xQ (u64.wrap (Int.tdiv (u64.wrap p1) (g:Int))) (u64.wrap (Int.tdiv (u64.wrap p3) a)) (fun (d:Int) (e:Int)=>
 (aB (decide (d>(0:Int)))
 (K (0:Int) (0:Int) (16:Int))
 (Ar s c e (fun (f:Int) (h:Int) (i:Int)=>
 (K f h i))))))))))))))):=by
  unfold fE at k;have eZ:Z/18446744073709551616*18446744073709551616+Z%18446744073709551616=Z:=by omega
  by_cases h0:Z=0
  ·rw [WM h0] at k;subst h0;have e1:((0:Int)/18446744073709551616 ==(0:Int))=true:=by decide
   have e2:((0:Int)%18446744073709551616 ==(0:Int))=true:=by decide
   rw [e1,bB,e2,bB];exact k
  ·rw [WN h0] at k;have t:=yL4 (s:=s) (hi:=Z/18446744073709551616) (lo:=Z%18446744073709551616) (p1:=p1) (p3:=p3) (g:=g) (K:=K) ⟨by omega,by omega⟩ ⟨by omega,by omega⟩ hg g1 h1 h3 (by rw [eZ];exact k)
   cases h4:(Z/18446744073709551616 ==(0:Int))
   ·rw [aS];exact t
   ·rw [bB]
    cases h2:(Z%18446744073709551616 ==(0:Int))
    ·rw [aS];exact t
    ·have:=beq_iff_eq.1 h2;have:=beq_iff_eq.1 h4;exact absurd (show Z=0 by omega) h0
theorem VA {s s':Bool} {Z Z' p1 p3:Int} {g:Nat} {K:Int→Int→Int→Prop} (k:fE s' Z' p1 p3 g K) (hz:Z=Z') (hs:Z≠0→s=s'):fE s Z p1 p3 g K:=by
 subst hz;unfold fE at k ⊢
 by_cases h:Z=0
 ·rw [WM h] at k ⊢;exact k
 ·rw [WN h] at k ⊢;rw [hs h];exact k
theorem bw {a b c d:Int} (ha:bG a) (hb:bG b) (hc:bG c) (hd:bG d) {K:Int→Int→Int→Prop}
  (k:if cG a b c d=0 then fE (decide (a*(d/(Nat.gcd b.natAbs d.natAbs:Nat))+c*(b/(Nat.gcd b.natAbs d.natAbs:Nat))<0))
    ((a*(d/(Nat.gcd b.natAbs d.natAbs:Nat))+c*(b/(Nat.gcd b.natAbs d.natAbs:Nat))).natAbs:Int) b d (Nat.gcd b.natAbs d.natAbs) K
   else K 0 0 (cG a b c d)):nI a b c d K:=by
 unfold nI SR;refine Iz ha hb hc hd ?_
 by_cases h:cG a b c d=0
 ·rw [WM h] at k;have:(cG a b c d !=(0:Int))=false:=by rw [h];rfl
  rw [this,aS];obtain ⟨⟨b1,b2,a1,a2,_⟩,d1,d2,c1,c2,_⟩:=yG.1 h;have wb:u64.wrap b=((b.natAbs:Nat):Int):=by rw [aV ⟨by omega,by omega⟩];omega
  have wd:u64.wrap d=((d.natAbs:Nat):Int):=by rw [aV ⟨by omega,by omega⟩];omega
  have g1:0<Nat.gcd b.natAbs d.natAbs:=wI _ (by omega);have g2:Nat.gcd b.natAbs d.natAbs≤d.natAbs:=Nat.le_of_dvd (by omega) (Gd _ _);have go:tO (u64.wrap b) (u64.wrap d)=tO ((b.natAbs:Nat):Int) ((d.natAbs:Nat):Int):=by rw [wb,wd]
  rw [go];refine Iy _ _ _ ?_;generalize Nat.gcd b.natAbs d.natAbs=g at *
  have n3:(!(decide ((g:Int)=(0:Int))))=true:=by rw [Tx (by omega)];rfl
  have q1:0≤b/(g:Int):=uT (by omega) (by omega);have q2:0≤d/(g:Int):=uT (by omega) (by omega);have q3:b/(g:Int)≤b:=yU _ (by omega);have q4:d/(g:Int)≤d:=yU _ (by omega);have ed:u64.wrap (Int.tdiv (u64.wrap d) (g:Int))=d/(g:Int):=by rw [aV (n:=d) ⟨by omega,by omega⟩,uH (by omega),aV ⟨by omega,by omega⟩]
  have eb:u64.wrap (Int.tdiv (u64.wrap b) (g:Int))=b/(g:Int):=by rw [aV (n:=b) ⟨by omega,by omega⟩,uH (by omega),aV ⟨by omega,by omega⟩]
  have ymN:∀ {c:Bool} {P:Prop},c=true→P→aA c P:=fun h p=>by rw [h,dX];exact p
  rw [AF ha];refine ymN n3 ?_;rw [CA (fT.abs ha) (by rw [ed];exact ⟨by omega,by omega⟩),AF hc];refine ymN n3 ?_;rw [CA (fT.abs hc) (by rw [eb];exact ⟨by omega,by omega⟩)];obtain ⟨X,hX⟩:∃ X,X=((a.natAbs:Nat):Int)*u64.wrap (Int.tdiv (u64.wrap d) (g:Int)):=⟨_,rfl⟩;obtain ⟨Y,hY⟩:∃ Y,Y=((c.natAbs:Nat):Int)*u64.wrap (Int.tdiv (u64.wrap b) (g:Int)):=⟨_,rfl⟩;rw [← hX,← hY];rw [ed] at hX;rw [eb] at hY;have X0:0≤X:=by rw [hX];exact kX (by omega) q2
  have Y0:0≤Y:=by rw [hY];exact kX (by omega) q1
  have X1:X≤1000000000000000000*1000000000000000000:=by rw [hX];exact oN (by omega) (by omega) q2 (by omega)
  have Y1:Y≤1000000000000000000*1000000000000000000:=by rw [hY];exact oN (by omega) (by omega) q1 (by omega)
  have ax:a*(d/(g:Int))=if a<0 then -X else X:=by
   split
   ·rw [hX,show ((a.natAbs:Nat):Int)=-a by omega,zJ,Int.neg_neg]
   ·rw [hX,show ((a.natAbs:Nat):Int)=a by omega]
  have cy:c*(b/(g:Int))=if c<0 then -Y else Y:=by
   split
   ·rw [hY,show ((c.natAbs:Nat):Int)=-c by omega,zJ,Int.neg_neg]
   ·rw [hY,show ((c.natAbs:Nat):Int)=c by omega]
  rw [ax,cy] at k;clear hX hY ax cy ed eb n3
  by_cases hs:decide (a<0)=decide (c<0)
  ·have e:(decide (a<0)==decide (c<0))=true:=beq_iff_eq.2 hs;rw [e,bB];refine yKK X0 Y0 (by omega) (fun c1 c2=>?_);refine IA (by omega) (by omega) g1 (by omega) ⟨by omega,b2⟩ ⟨by omega,d2⟩ (VA k ?_ ?_)
   ·by_cases h1:a<0
    ·have h2:c<0:=by simpa [h1] using hs.symm
     rw [WM h1,WM h2];omega
    ·have h2:¬c<0:=by simpa [h1] using hs.symm
     rw [WN h1,WN h2];omega
   ·intro h0
    by_cases h1:a<0
    ·have h2:c<0:=by simpa [h1] using hs.symm
     rw [WM h1,WM h2,Os h1,Os (by omega)]
    ·have h2:¬c<0:=by simpa [h1] using hs.symm
     rw [WN h1,WN h2,Tx h1,Tx (by omega)]
  ·have e:(decide (a<0)==decide (c<0))=false:=beq_eq_false_iff_ne.2 hs;rw [e,aS];have h12:(a<0∧¬c<0)∨(¬a<0∧c<0):=by
    by_cases h1:a<0<;>by_cases h2:c<0<;>simp [h1,h2] at hs ⊢
   by_cases hlt:X<Y
   ·have kk:fE (!decide (a<0)) (Y-X) b d g K:=by
     refine VA k ?_ ?_
     ·rcases h12 with ⟨h1,h2⟩ | ⟨h1,h2⟩
      ·rw [WM h1,WN h2];omega
      ·rw [WN h1,WM h2];omega
     ·intro h0;rcases h12 with ⟨h1,h2⟩ | ⟨h1,h2⟩
      ·rw [WM h1,WN h2,Os h1,Tx (by omega)];rfl
      ·rw [WN h1,WM h2,Tx h1,Os (by omega)];rfl
    by_cases h1:X/18446744073709551616<Y/18446744073709551616
    ·rw [Os h1,bB];refine MC X0 (by omega) (by omega) (fun c1 c2=>?_);exact IA (by omega) (by omega) g1 (by omega) ⟨by omega,b2⟩ ⟨by omega,d2⟩ kk
    ·have e1:(X/18446744073709551616==Y/18446744073709551616)=true:=beq_iff_eq.2 (by omega);rw [Tx h1,aS,e1,bB,Os (show X%18446744073709551616<Y%18446744073709551616 by have:=beq_iff_eq.1 e1;omega),bB];refine MC X0 (by omega) (by omega) (fun c1 c2=>?_);exact IA (by omega) (by omega) g1 (by omega) ⟨by omega,b2⟩ ⟨by omega,d2⟩ kk
   ·have kk:fE (decide (a<0)) (X-Y) b d g K:=by
     refine VA k ?_ ?_
     ·rcases h12 with ⟨h1,h2⟩ | ⟨h1,h2⟩
      ·rw [WM h1,WN h2];omega
      ·rw [WN h1,WM h2];omega
     ·intro h0;rcases h12 with ⟨h1,h2⟩ | ⟨h1,h2⟩
      ·rw [WM h1,WN h2,Os h1,Os (by omega)]
      ·rw [WN h1,WM h2,Tx h1,Tx (by omega)]
    have h1:¬X/18446744073709551616<Y/18446744073709551616:=by omega
    rw [Tx h1,aS]
    cases e1:(X/18446744073709551616==Y/18446744073709551616)
    ·rw [aS];refine MC Y0 (by omega) (by omega) (fun c1 c2=>?_);exact IA (by omega) (by omega) g1 (by omega) ⟨by omega,b2⟩ ⟨by omega,d2⟩ kk
    ·rw [bB,Tx (show ¬X%18446744073709551616<Y%18446744073709551616 by have:=beq_iff_eq.1 e1;omega),aS];refine MC Y0 (by omega) (by omega) (fun c1 c2=>?_);exact IA (by omega) (by omega) g1 (by omega) ⟨by omega,b2⟩ ⟨by omega,d2⟩ kk
 ·rw [WN h] at k;have:(cG a b c d !=(0:Int))=true:=by rw [bne_iff_ne];exact h
  rw [this,bB];exact k
theorem RV.neg {c d:Int} (h:RV c d):RV (-c) d:=by obtain ⟨d1,d2,c1,c2,g⟩:=h;exact ⟨d1,d2,by omega,by omega,by rw [Int.natAbs_neg];exact g⟩
theorem yM8 {a b c d:Int} (ha:bG a) (hb:bG b) (hc:bG c) (hd:bG d) {K:Int→Int→Int→Prop}
  (k:if cG a b c d=0 then fE (decide (a*(d/(Nat.gcd b.natAbs d.natAbs:Nat))+-c*(b/(Nat.gcd b.natAbs d.natAbs:Nat))<0))
    ((a*(d/(Nat.gcd b.natAbs d.natAbs:Nat))+-c*(b/(Nat.gcd b.natAbs d.natAbs:Nat))).natAbs:Int) b d (Nat.gcd b.natAbs d.natAbs) K
   else K 0 0 (cG a b c d)):yaF a b c d K:=by
 unfold yaF SS;refine Iz ha hb hc hd ?_
 by_cases h:cG a b c d=0
 ·rw [WM h] at k;have:(cG a b c d !=(0:Int))=false:=by rw [h];rfl
  rw [this,aS];obtain ⟨hab,hcd⟩:=yG.1 h;obtain ⟨d1,d2,c1,c2,_⟩:=id hcd;rw [cZ (n:=0-c) ⟨by omega,by omega⟩,Int.zero_sub];refine bw ha hb ⟨by omega,by omega⟩ hd ?_;rw [WM (yG.2 ⟨hab,hcd.neg⟩)];exact k
 ·rw [WN h] at k;have:(cG a b c d !=(0:Int))=true:=by rw [bne_iff_ne];exact h
  rw [this,bB];exact k
def aG (l:List Int):List PV:=l.map (PV.int .i64)
theorem dI (l:List Int):(aG l).length=l.length:=yZ ..
theorem VB {l:List Int} {i:Nat} (h:i<l.length):getD (aG l) i .nils=.int .i64 (l.getD i 0):=by unfold aG;rw [eQ,eQ,wN,dU h];rfl
theorem iE {l:List Int} {i:Nat} (h:i<l.length):aJ (getD (aG l) i .nils)=l.getD i 0:=by rw [VB h];rfl
theorem CB {l:List Int} {i:Nat} (h:i<l.length):aI zI (getD (aG l) i .nils)=true:=by rw [VB h];rfl
theorem ymN {c:Bool} {P:Prop} (h:c=true) (p:P):aA c P:=by rw [h,dX];exact p
theorem wE {c:Prop} [Decidable c] {P:Prop} (h:c) (p:P):aA (decide c) P:=ymN (Os h) p
theorem MD {c:Prop} [Decidable c] {P Q:Prop} (h:c) (p:P):aB (decide c) P Q:=by rw [Os h,bB];exact p
theorem FG {c:Prop} [Decidable c] {P Q:Prop} (h:¬c) (q:Q):aB (decide c) P Q:=by rw [Tx h,aS];exact q
def IB (m x:Int):Int:=if x<m then x else m
theorem yKM {l:List Int} (hl:l.length<9223372036854775807) (x0:List PV→Int→Int→Bool→Prop) :
  ∀ (rest:List Int) (i:Nat) (m:Int) (n:Nat),l.drop i=rest→i≤l.length→rest.length<n→x0 (aG l) (rest.foldl IB m) (l.length:Int) false →
   EM x0 n (aG l) m (i:Int):=by
 intro rest;induction rest with
 | nil=>
  intro i m n hd hi hn k;have:i=l.length:=by
   have:=WO length hd;rw [kD] at this;have h2:([]:List Int).length=0:=rfl;omega
  match n,hn with
  | n+1,_ =>unfold EM;rw [dI,this];exact FG (by omega) k
 | cons x t ih=>
  intro i m n hd hi hn k;have hlt:i<l.length:=by
   have:=WO length hd;rw [kD,kI] at this;omega
  have hx:l.getD i 0=x:=by have:=List.getElem_drop (xs:=l) (i:=i) (j:=0) (h:=by rw [hd];exact yY _);rw [eQ,dU hlt];simp only [hd,List.getElem_cons_zero,uY] at this;exact this.symm
  have ht:l.drop (i+1)=t:=by rw [← List.tail_drop,hd];rfl
  match n,hn with
  | n+1,hn =>unfold EM;rw [dI];refine MD (by omega) ?_;refine wE (by omega) (wE (by omega) (ymN (CB (by omega)) ?_));rw [cM,iE hlt,hx,cZ (n:=(i:Int)+1) ⟨by omega,by omega⟩];exact ih (i+1) _ n ht (by omega) (by rw [kI] at hn;omega) k
theorem yM9 {l:List Int} (hl:l.length<9223372036854775807) {x:Int} {t:List Int} (e:l=x::t) {K:Int→Prop} (k:K (t.foldl IB x)):EN (aG l) K:=by
 have h0:0<l.length:=by rw [e];exact yY _
 unfold EN SV;rw [dI];refine FG (by omega) (wE (by omega) (ymN (CB h0) ⟨l.length+1,?_⟩));have e0:l.getD 0 0=x:=by rw [e];rfl
 rw [iE h0,e0];refine yKM hl _ t 1 x _ (by rw [e];rfl) (by omega) (by rw [e,kI];omega) ?_;exact k
def yH (m x:Int):Int:=if x>m then x else m
theorem yKN {l:List Int} (hl:l.length<9223372036854775807) (x0:List PV→Int→Int→Bool→Prop) :
  ∀ (rest:List Int) (i:Nat) (m:Int) (n:Nat),l.drop i=rest→i≤l.length→rest.length<n→x0 (aG l) (rest.foldl yH m) (l.length:Int) false →
   EQ x0 n (aG l) m (i:Int):=by
 intro rest;induction rest with
 | nil=>
  intro i m n hd hi hn k;have:i=l.length:=by
   have:=WO length hd;rw [kD] at this;have h2:([]:List Int).length=0:=rfl;omega
  match n,hn with
  | n+1,_ =>unfold EQ;rw [dI,this];exact FG (by omega) k
 | cons x t ih=>
  intro i m n hd hi hn k;have hlt:i<l.length:=by
   have:=WO length hd;rw [kD,kI] at this;omega
  have hx:l.getD i 0=x:=by have:=List.getElem_drop (xs:=l) (i:=i) (j:=0) (h:=by rw [hd];exact yY _);rw [eQ,dU hlt];simp only [hd,List.getElem_cons_zero,uY] at this;exact this.symm
  have ht:l.drop (i+1)=t:=by rw [← List.tail_drop,hd];rfl
  match n,hn with
  | n+1,hn =>unfold EQ;rw [dI];refine MD (by omega) ?_;refine wE (by omega) (wE (by omega) (ymN (CB (by omega)) ?_));rw [cM,iE hlt,hx,cZ (n:=(i:Int)+1) ⟨by omega,by omega⟩];exact ih (i+1) _ n ht (by omega) (by rw [kI] at hn;omega) k
theorem bz {l:List Int} (hl:l.length<9223372036854775807) {x:Int} {t:List Int} (e:l=x::t) {K:Int→Prop} (k:K (t.foldl yH x)):ER (aG l) K:=by
 have h0:0<l.length:=by rw [e];exact yY _
 unfold ER SX;rw [dI];refine FG (by omega) (wE (by omega) (ymN (CB h0) ⟨l.length+1,?_⟩));have e0:l.getD 0 0=x:=by rw [e];rfl
 rw [iE h0,e0];refine yKN hl _ t 1 x _ (by rw [e];rfl) (by omega) (by rw [e,kI];omega) ?_;exact k
def uI (l:List Int) (i:Nat):Prop:=∀ j,i≤j→j+1<l.length→l.getD j 0<l.getD (j+1) 0
theorem yHx {l:List Int} {p2:List PV} {p0:Int} (hl:l.length<9223372036854775807) (W1 W2:List PV→(Int→Prop)→Prop) (x0:Int→Prop) (x1:Int→List PV→List PV→Int→Int→Bool→Prop) :
  ∀ (r i n:Nat),i+r+1=l.length→r<n→(uI l i→x1 p0 (aG l) p2 ((l.length:Int)-1) ((l.length:Int)-1) false)→(¬uI l i→x0 8) →
   ES W1 W2 x0 x1 n p0 (aG l) p2 ((l.length:Int)-1) (i:Int):=by
 intro r;induction r with
 | zero=>
  intro i n hi hn k _
  match n,hn with
  | n+1,_=>
   unfold ES;have e:(i:Int)=(l.length:Int)-1:=by omega
   refine FG (by omega) ?_;rw [e];exact k (fun j h1 h2=>by omega)
 | succ r ih=>
  intro i n hi hn k k0
  match n,hn with
  | n+1,hn=>
   unfold ES;rw [cZ (n:=(i:Int)+1) ⟨by omega,by omega⟩,dI];have e1:((i:Int)+1)=((i+1:Nat):Int):=by omega
   rw [e1,cM,cM];refine MD (by omega) (wE (by omega) (wE (by omega) (ymN (CB (by omega)) (wE (by omega) (wE (by omega) (ymN (CB (by omega)) ?_))))));rw [iE (by omega),iE (by omega)]
   by_cases h:l.getD i 0≥l.getD (i+1) 0
   ·exact MD h (k0 fun hc=>absurd (hc i (bW _) (by omega)) (by omega))
   ·refine FG h (ih (i+1) n (by omega) (by omega) (fun hc=>k fun j h1 h2=>?_) (fun hc=>k0 fun hd=>hc fun j h1 h2=>hd j (by omega) h2))
    by_cases hj:j=i
    ·subst hj;omega
    ·exact hc j (by omega) h2
def small (q:Rat):Prop:=-1000000000000000000≤q.num∧q.num≤1000000000000000000∧(q.den:Int)≤1000000000000000000
instance (q:Rat):Decidable (small q):=by unfold small;infer_instance
theorem small.rv {q:Rat} (h:small q):RV q.num q.den:=by obtain ⟨h1,h2,h3⟩:=h;have:=q.den_pos;exact ⟨by omega,h3,h1,h2,q.reduced⟩
theorem ME {n d:Int} (h:RV n d):∃ q:Rat,small q∧q.num=n∧(q.den:Int)=d:=by
 obtain ⟨h1,h2,h3,h4,h5⟩:=h;refine ⟨⟨n,d.toNat,by omega,?_⟩,⟨h3,h4,by show ((d.toNat:Nat):Int)≤_;omega⟩,rfl,by show ((d.toNat:Nat):Int)=_;omega⟩;have:d.natAbs=d.toNat:=by omega
 rw [this] at h5;exact h5
theorem small.i1 {q:Rat} (h:small q):bG q.num:=⟨by have:=h.1;omega,by have:=h.2.1;omega⟩
theorem small.i2 {q:Rat} (h:small q):bG (q.den:Int):=⟨by omega,by have:=h.2.2;omega⟩
theorem yI {q r:Rat} (h:small q) (k:small r):cG q.num q.den r.num r.den=0:=yG.2 ⟨h.rv,k.rv⟩
def fitK (q:Rat) (K:Int→Int→Int→Prop):Prop:=if small q then K q.num q.den 0 else K 0 0 16
theorem ce {q:Rat} {s:Bool} {a b:Int} (ha:a=(q.num.natAbs:Int)) (hb:b=(q.den:Int)) (hs:q.num≠0→s=decide (q.num<0)) (K:Int→Int→Int→Prop):fO s a b K=fitK q K:=by
 unfold fO fitK;subst ha hb
 by_cases h:small q
 ·have h':=h;obtain ⟨h1,h2,h3⟩:=h;rw [WM (show _∧_ from ⟨by omega,h3⟩),WM h'];have e:(if s=true then -((q.num.natAbs:Nat):Int) else ((q.num.natAbs:Nat):Int))=q.num:=by
   by_cases h0:q.num=0
   ·rw [h0];cases s<;>rfl
   ·rw [hs h0]
    by_cases h1:q.num<0
    ·rw [Os h1,WM rfl];omega
    ·rw [Tx h1,WN (by simp)];omega
  rw [e]
 ·rw [WN h,WN];intro h2;exact h ⟨by omega,by omega,h2.2⟩
theorem cf (x:Int) (g:Nat):(Int.tdiv x g).natAbs=x.natAbs/g:=by rw [Int.natAbs_tdiv,Gb];rfl
theorem cg {x:Int} {g:Nat} (h:(g:Int)∣x) (hx:x≠0):decide (Int.tdiv x g<0)=decide (x<0):=by
 obtain ⟨k,rfl⟩:=h;have hg:(g:Int)≠0:=fun e=>hx (by rw [e,Int.zero_mul])
 rw [Int.mul_tdiv_cancel_left _ hg];have h1:(g:Int)>0:=by have:=uS g;omega
 have:(g:Int)*k<0↔k<0:=by
  constructor
  ·intro h;refine Int.not_le.1 fun hk=>?_
   have:=kX (show 0≤(g:Int) by omega) hk;omega
  ·intro h;exact Int.mul_neg_of_pos_of_neg h1 h
 simp only [this]
theorem yJw (q r:Rat):(q*r).num=Int.tdiv q.num (Nat.gcd q.num.natAbs r.den)*Int.tdiv r.num (Nat.gcd r.num.natAbs q.den) ∧
  (q*r).den=(q.den/Nat.gcd r.num.natAbs q.den)*(r.den/Nat.gcd q.num.natAbs r.den):=by
 have e:q*r=Rat.mul q r:=rfl;rw [e]
 delta Rat.mul
 constructor
 ·simp only [Int.divExact_eq_tdiv]
 ·simp only [Nat.divExact_eq_div]
theorem IC (x:Int) (d:Nat):((Nat.gcd x.natAbs d:Nat):Int)∣x:=by rw [← Int.dvd_natAbs,Int.ofNat_dvd];exact Nat.gcd_dvd_left _ _
theorem ci {x:Int} {g:Nat} (h:(g:Int)∣x) (hx:x≠0):Int.tdiv x g≠0:=by
 obtain ⟨k,rfl⟩:=h;have hg:(g:Int)≠0:=fun e=>hx (by rw [e,Int.zero_mul])
 rw [Int.mul_tdiv_cancel_left _ hg];intro e;rw [e,Int.mul_zero] at hx;exact hx rfl
theorem yKP {x y:Int} (hx:x≠0) (hy:y≠0):decide (x*y<0)=(decide (x<0) !=decide (y<0)):=by
 by_cases h1:x<0<;>by_cases h2:y<0
 ·have:=Int.mul_pos_of_neg_of_neg h1 h2;simp [h1,h2];omega
 ·have:=CW h1 (show 0<y by omega);simp [h1,h2];omega
 ·have:=Int.mul_neg_of_pos_of_neg (show 0<x by omega) h2;simp [h1,h2];omega
 ·have:=Int.mul_pos (show 0<x by omega) (show 0<y by omega);simp [h1,h2];omega
theorem VD (q r:Rat) (K:Int→Int→Int→Prop):fO (decide (q.num<0) !=decide (r.num<0)) (gX q.num r.num q.den r.den) (jZ q.num r.num q.den r.den) K=fitK (q*r) K:=by
 obtain ⟨e1,e2⟩:=yJw q r;refine ce ?_ ?_ ?_ K
 ·rw [e1,Int.natAbs_mul,cf,cf];simp only [gX,Gb]
 ·rw [e2];simp only [jZ,Gb]
 ·intro h;rw [e1] at h ⊢;have h1:q.num≠0:=fun e=>h (by rw [e,Int.zero_tdiv,Int.zero_mul])
  have h2:r.num≠0:=fun e=>h (by rw [e,Int.zero_tdiv,Int.mul_zero])
  rw [yKP (ci (IC _ _) h1) (ci (IC _ _) h2),cg (IC _ _) h1,cg (IC _ _) h2]
theorem MF {w:(Int→Int→Int→Prop)→Prop} {q:Rat} (det:∀ r0 r1 r2,(∀ K:Int→Int→Int→Prop,K r0 r1 r2→w K)→∀ K,w K=K r0 r1 r2) (h:∀ K,fitK q K→w K) (K:Int→Int→Int→Prop):w K=fitK q K:=by
 unfold fitK at h ⊢
 by_cases hs:small q
 ·simp only [WM hs] at h ⊢;exact det _ _ _ h K
 ·simp only [WN hs] at h ⊢;exact det _ _ _ h K
theorem CC {q r:Rat} (hq:small q) (hr:small r) (K:Int→Int→Int→Prop):ya7 q.num q.den r.num r.den K=fitK (q*r) K:=
 MF (fun r0 r1 r2 h K=>yAP _ _ _ _ r0 r1 r2 h K) (fun K k=>Vz hq.i1 hq.i2 hr.i1 hr.i2 (by rw [WM (yI hq hr),VD];exact k)) K
theorem VE {r:Rat} (h:r≠0):(r⁻¹).num=(if r.num<0 then -(r.den:Int) else r.den)∧(r⁻¹).den=r.num.natAbs:=by
 have h0:r.num≠0:=fun e=>h (AP.1 e)
 constructor
 ·rw [Rat.num_inv]
  by_cases h1:r.num<0
  ·rw [WM h1,Int.sign_eq_neg_one_of_neg h1];omega
  ·rw [WN h1,Int.sign_eq_one_of_pos (by omega)];omega
 ·rw [Rat.den_inv,WN h0]
theorem small.inv {r:Rat} (h:small r) (h0:r≠0):small r⁻¹:=by obtain ⟨e1,e2⟩:=VE h0;obtain ⟨h1,h2,h3⟩:=h;unfold small;rw [e1,e2];split<;>omega
theorem yL5 {q r:Rat} (hq:small q) (hr:small r) (h0:r≠0) (K:Int→Int→Int→Prop):tR q.num q.den r.num r.den K=fitK (q/r) K:=by
 have hn:r.num≠0:=fun e=>h0 (AP.1 e)
 refine MF (fun r0 r1 r2 h K=>yAT _ _ _ _ r0 r1 r2 h K) (fun K k=>yM7 hq.i1 hq.i2 hr.i1 hr.i2 ?_) K;rw [WM (yI hq hr),WN hn];rw [Rat.div_def,← VD] at k;obtain ⟨e1,e2⟩:=VE h0;rw [e1,e2] at k;have s:decide ((if r.num<0 then -(r.den:Int) else (r.den:Int))<0)=decide (r.num<0):=by
  have:=r.den_pos;split
  ·rename_i h;simp only [h];simp;omega
  ·rename_i h;simp only [h];simp
 rw [s] at k;have hd:(if r.num<0 then -(r.den:Int) else (r.den:Int)).natAbs=r.den:=by split<;>omega
 unfold gX jZ at k ⊢;simp only [hd,Gb] at k ⊢;exact k
theorem yJx (q r:Rat):(q+r).num=(q.num*(r.den/Nat.gcd q.den r.den:Nat)+r.num*(q.den/Nat.gcd q.den r.den:Nat))/(Nat.gcd (q.num*(r.den/Nat.gcd q.den r.den:Nat)+r.num*(q.den/Nat.gcd q.den r.den:Nat)).natAbs (Nat.gcd q.den r.den):Nat) ∧
  (q+r).den=(q.den/Nat.gcd q.den r.den)*r.den/Nat.gcd (q.num*(r.den/Nat.gcd q.den r.den:Nat)+r.num*(q.den/Nat.gcd q.den r.den:Nat)).natAbs (Nat.gcd q.den r.den):=by
 have e:q+r=Rat.add q r:=rfl;rw [e]
 delta Rat.add
 by_cases hg:q.den.gcd r.den=1
 ·simp only [hg,dif_pos,Nat.div_one,Nat.gcd_one_right,Int.natCast_one,Int.ediv_one,and_self]
 ·simp only [hg,dif_neg,not_false_eq_true,Rat.maybeNormalize_eq];constructor
  ·first | rfl | simp only [Int.divExact_eq_tdiv]
  ·first | rfl | simp only []
theorem yKQ {q r:Rat} {Z:Int} {g:Nat} (e1:(q+r).num=Z/(Nat.gcd Z.natAbs g:Nat)) (e2:(q+r).den=(q.den/g)*r.den/Nat.gcd Z.natAbs g) (hgp:0<g) (hgd:g∣r.den) (K:Int→Int→Int→Prop) :
  fE (decide (Z<0)) (Z.natAbs:Int) q.den r.den g K=fitK (q+r) K:=by
 unfold fE
 by_cases h0:Z=0
 ·subst h0;have:(q+r)=0:=by
   apply AP.1;rw [e1];simp
  rw [this,WM (by rfl)];unfold fitK;rw [WM (by decide)];rfl
 ·have hne:¬((Z.natAbs:Nat):Int)=0:=by omega
  rw [WN hne];have hdv:((Nat.gcd Z.natAbs g:Nat):Int)∣Z:=IC _ _;have hhp:0<Nat.gcd Z.natAbs g:=wI _ hgp;have hhg:Nat.gcd Z.natAbs g∣r.den:=Nat.dvd_trans (Gd _ _) hgd;refine ce ?_ ?_ ?_ K
  ·rw [e1,Int.natAbs_ediv_of_dvd hdv];simp
  ·rw [e2];simp only [cM];rw [Nat.mul_div_assoc _ hhg]
  ·intro h;rw [e1];obtain ⟨k,hk⟩:=hdv;revert hhp hk;generalize Nat.gcd Z.natAbs g=h;intro hhp hk;have e:Z/(h:Int)=k:=by rw [hk,Int.mul_ediv_cancel_left _ (by omega)]
   rw [e];have:Z<0↔k<0:=by
    rw [hk];constructor
    ·intro hk;refine Int.not_le.1 fun hk2=>?_
     have:=kX (show 0≤(h:Int) by omega) hk2;omega
    ·intro hk;exact Int.mul_neg_of_pos_of_neg (by omega) hk
   simp only [this]
theorem VF (q r:Rat) (K:Int→Int→Int→Prop) :
  fE (decide (q.num*((r.den:Int)/(Nat.gcd (q.den:Int).natAbs (r.den:Int).natAbs:Nat))+r.num*((q.den:Int)/(Nat.gcd (q.den:Int).natAbs (r.den:Int).natAbs:Nat))<0))
   ((q.num*((r.den:Int)/(Nat.gcd (q.den:Int).natAbs (r.den:Int).natAbs:Nat))+r.num*((q.den:Int)/(Nat.gcd (q.den:Int).natAbs (r.den:Int).natAbs:Nat))).natAbs:Int) q.den r.den (Nat.gcd (q.den:Int).natAbs (r.den:Int).natAbs) K=fitK (q+r) K:=by
 obtain ⟨e1,e2⟩:=yJx q r;rw [lH,lH] at e1 e2;exact yKQ e1 e2 (Nat.gcd_pos_of_pos_left _ q.den_pos) (Gd _ _) K
theorem VG {q r:Rat} (hq:small q) (hr:small r) (K:Int→Int→Int→Prop):nI q.num q.den r.num r.den K=fitK (q+r) K:=
 MF (fun r0 r1 r2 h K=>yAR _ _ _ _ r0 r1 r2 h K) (fun K k=>bw hq.i1 hq.i2 hr.i1 hr.i2 (by rw [WM (yI hq hr),VF];exact k)) K
theorem CD {q r:Rat} (hq:small q) (hr:small r) (K:Int→Int→Int→Prop):yaF q.num q.den r.num r.den K=fitK (q-r) K:=
 MF (fun r0 r1 r2 h K=>yAS _ _ _ _ r0 r1 r2 h K) (fun K k=>yM8 hq.i1 hq.i2 hr.i1 hr.i2 (by
  rw [WM (yI hq hr)];rw [Rat.sub_eq_add_neg,← VF] at k;exact k)) K
def qO (q r:Rat):Int:=if q<r then -1 else if r<q then 1 else 0
theorem yL6 (q r:Rat):oI q.num q.den r.num r.den=qO q r:=by unfold oI gJ qO;simp only [Rat.lt_iff]
theorem cj {q r:Rat} (hq:small q) (hr:small r) (K:Int→Int→Prop):tQ q.num q.den r.num r.den K=K (qO q r) 0:=
 yAQ _ _ _ _ _ _ (fun K k=>yM3 hq.i1 hq.i2 hr.i1 hr.i2 (by rw [yI hq hr,WM rfl,yL6];exact k)) K
theorem cm {n d:Int} (hn:bG n) (hd:bG d) (K:Int→Prop):qF n d K=K (jQ n d):=
 yxU _ _ _ (fun K k=>Vw hn hd k) K
theorem yJ {p:Int} (h:bG p) (K:Int→Prop):BY p K=K (p.natAbs:Int):=by
 unfold bG at h;unfold BY TF
 by_cases hp:p<0
 ·have e0:i64.wrap (p+1)=p+1:=cZ ⟨by omega,by omega⟩;have e1:i64.wrap ((0:Int)-(p+1))=-(p+1):=by rw [cZ ⟨by omega,by omega⟩];omega
  have e2:u64.wrap (-(p+1))=-(p+1):=aV ⟨by omega,by omega⟩;have e3:u64.wrap (-(p+1)+1)=(p.natAbs:Int):=by rw [aV ⟨by omega,by omega⟩];omega
  rw [Os hp,bB,e0,e1,e2,e3]
 ·rw [Tx hp,aS,aV ⟨by omega,by omega⟩];congr 1;omega
theorem co (x:Int→Int→Bool→Prop):∀ (n a b:Nat),b<n→HV x n (a:Int) (b:Int)=x ((Nat.gcd a b:Nat):Int) 0 false
 | 0,a,b,h=>by omega
 | n+1,a,b,h=>by
  unfold HV
  by_cases hb:b=0
  ·subst hb;simp [aB]
  ·have h1:((b:Int) !=0)=true:=by simp;omega
   have h2:¬((b:Int)=0):=by omega
   rw [h1,bB,Tx h2,jS,dX];have e:Int.tmod (a:Int) (b:Int)=((a%b:Nat):Int):=by rw [Int.tmod_eq_emod_of_nonneg (by omega)];omega
   rw [e,co x n b (a%b) (by have:=Nat.mod_lt a (show b>0 by omega);omega)];rw [uZ a b,Nat.gcd_rec b a,uZ]
theorem ID (a b:Nat) (K:Int→Prop):tT (a:Int) (b:Int) K=K ((Nat.gcd a b:Nat):Int):=by refine yFI _ _ _ (fun K h=>?_) K;unfold tT TG;exact ⟨b+1,by rw [co _ (b+1) a b (by omega)];exact h⟩
theorem qP {a b:Int} (h:a=b):(a !=b)=false:=by simp [h]
theorem IE {a b:Int} (h:a≠b):(a !=b)=true:=by simp [h]
theorem IF {a b:Int} (h:a≠b):(a==b)=false:=by simp [h]
theorem VH {a b:Int} (h:a=b):(a==b)=true:=by simp [h]
theorem IG {n d:Int} (hn:bG n) (hd:bG d) (K:Int→Prop):xU n d K=K (jQ n d):=by
 unfold xU TI
 by_cases h1:d<1
 ·rw [Os h1,bB,jQ,WN (fun h=>by have:=h.1;omega)]
 ·rw [Tx h1,aS]
  by_cases h2:d>1000000000000000000
  ·rw [Os h2,bB,jQ,WN (fun h=>by have:=h.2.1;omega)]
  ·rw [Tx h2,aS]
   by_cases h3:n < -1000000000000000000
   ·rw [Os h3,bB,jQ,WN (fun h=>by have:=h.2.2.1;omega)]
   ·rw [Tx h3,aS]
    by_cases h4:n>1000000000000000000
    ·rw [Os h4,bB,jQ,WN (fun h=>by have:=h.2.2.2.1;omega)]
    ·have ed:u64.wrap d=((d.natAbs:Nat):Int):=by rw [aV ⟨by omega,by omega⟩];omega
     rw [Tx h4,aS,yJ hn,ed,ID]
     by_cases h5:Nat.gcd n.natAbs d.natAbs=1
     ·rw [h5,qP (by rfl),aS,jQ,WM ⟨by omega,by omega,by omega,by omega,h5⟩]
     ·rw [IE (by omega),bB,jQ,WN (fun h=>h5 h.2.2.2.2)]
theorem MG {a b c d:Int} (ha:bG a) (hb:bG b) (hc:bG c) (hd:bG d) (K:Int→Prop):BZ a b c d K=K (cG a b c d):=by
 unfold BZ TK;rw [IG ha hb,IG ha hb,IG hc hd,cG]
 by_cases h:jQ a b=0
 ·rw [qP h,aS,WM h]
 ·rw [IE h,bB,WN h]
theorem VI {m s:Int} (hm:0≤m) (hs:0≤s∧s<4294967296):u64.wrap (BitVec.ofInt u64.bits (u64.wrap (m*4294967296))|||BitVec.ofInt u64.bits s).toNat=m%4294967296*4294967296+s:=by
 have e:u64.wrap (m*4294967296)=m%4294967296*2 ^ 32:=by rw [nM];omega
 rw [e,Vx (k:=32) (by omega) ⟨hs.1,by omega⟩ ⟨by omega,by omega⟩ (by omega)];omega
theorem yKS {a b:Int} (ha:fT a) (hb:fT b) (K:Int→Int→Prop):Ay a b K=K (a*b/18446744073709551616) (a*b%18446744073709551616):=by
 unfold Ay TL;simp only [bh];rw [yF ha,yF hb];unfold fT at ha hb;have ha':=ha;have hb':=hb;obtain ⟨x1,hx1⟩:∃ x,x=a/4294967296:=⟨_,rfl⟩;obtain ⟨x0,hx0⟩:∃ x,x=a%4294967296:=⟨_,rfl⟩;obtain ⟨y1,hy1⟩:∃ x,x=b/4294967296:=⟨_,rfl⟩;obtain ⟨y0,hy0⟩:∃ x,x=b%4294967296:=⟨_,rfl⟩;rw [← hx1,← hx0,← hy1,← hy0];have b1:0≤x1∧x1≤4294967295:=by omega
 have b2:0≤x0∧x0≤4294967295:=by omega
 have b3:0≤y1∧y1≤4294967295:=by omega
 have b4:0≤y0∧y0≤4294967295:=by omega
 have pb:∀ x y:Int,0≤x∧x≤4294967295→0≤y∧y≤4294967295→0≤x*y∧x*y≤18446744065119617025:=by intro x y hx hy;refine ⟨kX hx.1 hy.1,?_⟩;have:=oN hx.2 hy.2 hy.1 (by omega:(0:Int)≤4294967295);omega
 have p1:=pb x1 y1 b1 b3;have p2:=pb x1 y0 b1 b4;have p3:=pb x0 y1 b2 b3;have p4:=pb x0 y0 b2 b4;have ea:a=x1*4294967296+x0:=by omega
 have eb:b=y1*4294967296+y0:=by omega
 have eab:a*b=x1*y1*18446744073709551616+x1*y0*4294967296+x0*y1*4294967296+x0*y0:=by rw [ea,eb];grind
 obtain ⟨P,hP⟩:∃ x,x=x1*y1:=⟨_,rfl⟩;obtain ⟨Q,hQ⟩:∃ x,x=x1*y0:=⟨_,rfl⟩;obtain ⟨R,hR⟩:∃ x,x=x0*y1:=⟨_,rfl⟩;obtain ⟨S,hS⟩:∃ x,x=x0*y0:=⟨_,rfl⟩;rw [← hP] at p1;rw [← hQ] at p2;rw [← hR] at p3;rw [← hS] at p4;rw [← hP,← hQ,← hR,← hS] at eab ⊢;have w1:u64.wrap S=S:=aV ⟨by omega,by omega⟩;have w2:u64.wrap Q=Q:=aV ⟨by omega,by omega⟩;have w3:u64.wrap R=R:=aV ⟨by omega,by omega⟩;have w4:u64.wrap P=P:=aV ⟨by omega,by omega⟩;rw [w1,w2,w3,w4,yF (p:=Q) ⟨by omega,by omega⟩,yF (p:=S) ⟨by omega,by omega⟩];have w5:u64.wrap (Q%4294967296+R)=Q%4294967296+R:=aV ⟨by omega,by omega⟩;rw [w5];have w6:u64.wrap (Q%4294967296+R+S/4294967296)=Q%4294967296+R+S/4294967296:=aV ⟨by omega,by omega⟩;rw [w6,VI (by omega) ⟨by omega,by omega⟩];have hab:a*b≤18446744073709551615*18446744073709551615:=oN ha'.2 hb'.2 hb'.1 (by omega:(0:Int)≤18446744073709551615);rw [eab] at hab ⊢;have w7:u64.wrap (P+Q/4294967296)=P+Q/4294967296:=aV ⟨by omega,by omega⟩;rw [w7,aV ⟨by omega,by omega⟩];congr 1<;>omega
theorem VJ {X Y:Int} (hx:0≤X) (hy:0≤Y) (hs:X+Y<340282366920938463463374607431768211456) (K:Int→Int→Prop) :
  wC (X/18446744073709551616) (X%18446744073709551616) (Y/18446744073709551616) (Y%18446744073709551616) K=K ((X+Y)/18446744073709551616) ((X+Y)%18446744073709551616):=by
 unfold wC TU;rw [nM,nM,nM]
 by_cases h:(X%18446744073709551616+Y%18446744073709551616)%18446744073709551616<X%18446744073709551616
 ·rw [Os h,bB];congr 1<;>omega
 ·rw [Tx h,aS];congr 1<;>omega
theorem cp {X Y:Int} (hy:0≤Y) (hs:Y≤X) (hx:X<340282366920938463463374607431768211456) (K:Int→Int→Prop) :
  Fg (X/18446744073709551616) (X%18446744073709551616) (Y/18446744073709551616) (Y%18446744073709551616) K=K ((X-Y)/18446744073709551616) ((X-Y)%18446744073709551616):=by
 unfold Fg LO;rw [nM,nM,nM]
 by_cases h:X%18446744073709551616<Y%18446744073709551616
 ·rw [Os h,bB];congr 1<;>omega
 ·rw [Tx h,aS];congr 1<;>omega
theorem MH {X Y:Int} (hx:0≤X) (hy:0≤Y) (K:Bool→Prop) :
  HY (X/18446744073709551616) (X%18446744073709551616) (Y/18446744073709551616) (Y%18446744073709551616) K=K (decide (X<Y)):=by
 unfold HY TQ
 by_cases h:X/18446744073709551616<Y/18446744073709551616
 ·rw [Os h,bB,Os (by omega)]
 ·rw [Tx h,aS]
  by_cases h2:X/18446744073709551616=Y/18446744073709551616
  ·rw [VH h2,bB];congr 1;rw [Aaa];omega
  ·rw [IF h2,aS,Tx (by omega)]
theorem yNF {i:Int} (h:0≤i∧i≤127):i64.wrap (BitVec.ofInt i64.bits i&&&BitVec.ofInt i64.bits (63:Int)).toNat=i%64:=by
 have e1:(BitVec.ofInt 64 i).toNat=i.toNat:=by rw [BitVec.toNat_ofInt];omega
 have e2:(BitVec.ofInt 64 (63:Int)).toNat=63:=rfl;have e3:(BitVec.ofInt i64.bits i&&&BitVec.ofInt i64.bits (63:Int)).toNat=i.toNat%64:=by show (BitVec.ofInt 64 i&&&BitVec.ofInt 64 (63:Int)).toNat=_;rw [BitVec.toNat_and,e1,e2];exact Nat.and_two_pow_sub_one_eq_mod i.toNat 6
 rw [e3,cZ ⟨by omega,by omega⟩];omega
theorem II {p:Int} (h:fT p):u64.wrap (BitVec.ofInt u64.bits p&&&BitVec.ofInt u64.bits (1:Int)).toNat=p%2:=by
 unfold fT at h;have e1:(BitVec.ofInt 64 p).toNat=p.toNat:=by
  rw [BitVec.toNat_ofInt];omega
 have e2:(BitVec.ofInt 64 (1:Int)).toNat=1:=rfl;have e3:(BitVec.ofInt u64.bits p&&&BitVec.ofInt u64.bits (1:Int)).toNat=p.toNat%2:=by show (BitVec.ofInt 64 p&&&BitVec.ofInt 64 (1:Int)).toNat=_;rw [BitVec.toNat_and,e1,e2];exact Nat.and_two_pow_sub_one_eq_mod p.toNat 1
 rw [e3,nM];omega
theorem cq {m s:Int} (hm:0≤m∧m≤9223372036854775807) (hs:0≤s∧s<2):u64.wrap (BitVec.ofInt u64.bits (m*2)|||BitVec.ofInt u64.bits s).toNat=m*2+s:=by have:=Vx (a:=m) (b:=s) (k:=1) hm.1 ⟨hs.1,by omega⟩ ⟨by omega,by omega⟩ (by omega);simpa using this
theorem IJ (i:Nat):(2:Int) ^ i=((2 ^ i:Nat):Int):=by rw [Int.natCast_pow];rfl
theorem yL7 {W:Nat} (hW:W=2 ^ 64) {A:Int} (hA:0≤A) {i:Nat} (hi:i<64):A%(W:Int)/(2 ^ i:Int)%((2:Nat):Int)=A/(2 ^ i:Int)%((2:Nat):Int):=by
 obtain ⟨a,rfl⟩:∃ a:Nat,A=a:=⟨A.toNat,by omega⟩;have:(a%W/2 ^ i%2:Nat)=a/2 ^ i%2:=by
  have e:W=2 ^ i*2 ^ (64-i):=by rw [← Nat.pow_add];rw [show i+(64-i)=64 by omega,hW]
  rw [e,Nat.mod_mul_right_div_self];have e2:2 ^ (64-i)=2*2 ^ (63-i):=by rw [show 64-i=(63-i)+1 by omega,Nat.pow_succ,Nat.mul_comm]
  rw [e2,Nat.mod_mul_right_mod]
 rw [IJ,← Int.natCast_emod,← lH,← Int.natCast_emod,← lH,← Int.natCast_emod,this]
theorem yNa {A:Int} (hA:0≤A) {i:Nat} (hi:i<64):A%18446744073709551616/(2 ^ i:Int)%2=A/(2 ^ i:Int)%2:=yL7 (W:=18446744073709551616) rfl hA hi
theorem yL8 {W:Nat} (hW:W=2 ^ 64) {A:Int} (hA:0≤A) {i:Nat} (hi:64≤i):A/(W:Int)/(2 ^ (i-64):Int)=A/(2 ^ i:Int):=by
 obtain ⟨a,rfl⟩:∃ a:Nat,A=a:=⟨A.toNat,by omega⟩;have:(a/W/2 ^ (i-64):Nat)=a/2 ^ i:=by
  have e:(2 ^ i:Nat)=W*2 ^ (i-64):=by rw [hW,← Nat.pow_add,show 64+(i-64)=i by omega]
  rw [e,Nat.div_div_eq_div_mul]
 rw [IJ,IJ,← lH,← lH,← lH,this]
theorem yNb {A:Int} (hA:0≤A) {i:Nat} (hi:64≤i):A/18446744073709551616/(2 ^ (i-64):Int)=A/(2 ^ i:Int):=yL8 (W:=18446744073709551616) rfl hA hi
theorem yKT {d B q r b:Int} (hd:0<d) (hq:B/d=q) (hr:B%d=r) (hb:0≤b∧b≤1) :
  (2*B+b)/d=(if 2*r+b≥d then 2*q+1 else 2*q)∧(2*B+b)%d=(if 2*r+b≥d then 2*r+b-d else 2*r+b):=by
 have h1:=Int.mul_ediv_add_emod B d;have h2:=Dg B (show d≠0 by omega);have h3:=Db B hd;rw [hq,hr] at h1;rw [hr] at h2 h3;split
 ·refine (Int.ediv_emod_unique hd).2 ⟨?_,by omega,by omega⟩;grind
 ·refine (Int.ediv_emod_unique hd).2 ⟨?_,by omega,by omega⟩;grind
theorem yHy {A d:Int} (hA:0≤A∧A<340282366920938463463374607431768211456) (hd:0<d∧d<9223372036854775808) {x0:Int→Int→Int→Int→Int→Int→Int→Int→Int→Bool→Prop}
  (k0:x0 d (A/18446744073709551616) (A%18446744073709551616) 0 0 (A/d/18446744073709551616) (A/d%18446744073709551616) (A%d) (-1) false) :
  ∀ (k n:Nat),k≤128→k<n→tU wC x0 n d (A/18446744073709551616) (A%18446744073709551616) 0 0
   (A/2 ^ k/d/18446744073709551616) (A/2 ^ k/d%18446744073709551616) (A/2 ^ k%d) ((k:Int)-1):=by
 intro k;induction k with
 | zero=>
  intro n _ hn
  match n,hn with
  | n+1,_=>
   unfold tU;rw [Tx (by omega),aS];have e:A/2 ^ 0=A:=by rw [Int.pow_zero,Int.ediv_one]
   rw [e];exact k0
 | succ k ih=>
  intro n hk hn
  match n,hn with
  | n+1,hn=>
   unfold tU;have e8:((k+1:Nat):Int)-1=(k:Int):=by omega
   rw [e8,Os (by omega),bB];rw [yNF (i:=(k:Int)) ⟨by omega,by omega⟩];have en:(!decide ((k:Int)%64<0))=true:=by rw [Tx (by omega)];rfl
   have em:min ((k:Int)%64).toNat u64.bits=k%64:=by show min _ 64=_;omega
   rw [en,dX,dX,em];have pp:∀ m:Nat,(0:Int)≤2 ^ m:=fun m=>by rw [IJ];exact uS _
   have p1:∀ m:Nat,(0:Int)<2 ^ m:=fun m=>by rw [IJ];exact Int.natCast_pos.2 (Nat.two_pow_pos m)
   simp only [AH _ _ (pp _)];have hC0:0≤A/2 ^ k:=uT hA.1 (pp _);have hCA:A/2 ^ k≤A:=yU _ hA.1;have hBC:A/2 ^ (k+1)=A/2 ^ k/2:=by
    rw [Int.pow_succ,Int.ediv_ediv_of_nonneg (pp k)]
   obtain ⟨C,hC⟩:∃ C,C=A/2 ^ k:=⟨_,rfl⟩;have ih2:=ih n (by omega) (by omega);rw [← hC] at hC0 hCA hBC ih2;rw [hBC];obtain ⟨b,hb⟩:∃ b,b=C%2:=⟨_,rfl⟩;have hCb:C=2*(C/2)+b:=by omega
   obtain ⟨s1,s2⟩:=yKT (B:=C/2) (b:=b) hd.1 rfl rfl ⟨by omega,by omega⟩;rw [← hCb] at s1 s2;have r0:=Dg (C/2) (show d≠0 by omega);have r1:=Db (C/2) hd.1;have q0:0≤C/2/d:=uT (by omega) (by omega);have q1:C/2/d≤C/2:=yU _ (by omega);rw [s1,s2] at ih2;obtain ⟨q,hq⟩:∃ q,q=C/2/d:=⟨_,rfl⟩;obtain ⟨r,hr⟩:∃ r,r=C/2%d:=⟨_,rfl⟩;rw [← hq,← hr] at ih2;rw [← hq] at q0 q1;rw [← hr] at r0 r1;rw [← hq,← hr];have e2:u64.wrap (r*2)=r*2:=aV ⟨by omega,by omega⟩;rw [e2,cZ (n:=(k:Int)-1) ⟨by omega,by omega⟩];rw [VJ q0 q0 (by omega),VJ q0 q0 (by omega)];have hlo:0≤A%18446744073709551616/2 ^ (k%64)∧A%18446744073709551616/2 ^ (k%64)≤18446744073709551615:=by
    refine ⟨uT (by omega) (pp _),?_⟩;have:=yU (a:=A%18446744073709551616) (2 ^ (k%64)) (by omega);omega
   have hhi:0≤A/18446744073709551616/2 ^ (k%64)∧A/18446744073709551616/2 ^ (k%64)≤18446744073709551615:=by refine ⟨uT (by omega) (pp _),?_⟩;have:=yU (a:=A/18446744073709551616) (2 ^ (k%64)) (by omega);omega
   rw [II hlo,II hhi];have go:∀ bb:Int,bb=b→aB (decide (u64.wrap (BitVec.ofInt u64.bits (r*2)|||BitVec.ofInt u64.bits bb).toNat≥d))
     (tU wC x0 n d (A/18446744073709551616) (A%18446744073709551616) 0 0 ((q+q)/18446744073709551616) (u64.wrap (BitVec.ofInt u64.bits ((q+q)%18446744073709551616)|||BitVec.ofInt u64.bits (1:Int)).toNat) (u64.wrap ((u64.wrap (BitVec.ofInt u64.bits (r*2)|||BitVec.ofInt u64.bits bb).toNat)-d)) ((k:Int)-1))
     (tU wC x0 n d (A/18446744073709551616) (A%18446744073709551616) 0 0 ((q+q)/18446744073709551616) ((q+q)%18446744073709551616) (u64.wrap (BitVec.ofInt u64.bits (r*2)|||BitVec.ofInt u64.bits bb).toNat) ((k:Int)-1)):=by
    intro bb hbb;rw [hbb,cq ⟨r0,by omega⟩ ⟨by omega,by omega⟩]
    by_cases hge:2*r+b≥d
    ·rw [WM hge,WM hge] at ih2;rw [Os (show r*2+b≥d by omega),bB,aV (n:=r*2+b-d) ⟨by omega,by omega⟩];have e3:(q+q)%18446744073709551616=((q%9223372036854775808)*2):=by omega
     rw [e3,cq ⟨by omega,by omega⟩ ⟨by omega,by omega⟩];have e4:(q+q)/18446744073709551616=(2*q+1)/18446744073709551616:=by omega
     have e5:q%9223372036854775808*2+1=(2*q+1)%18446744073709551616:=by omega
     rw [e4,e5,show r*2+b-d=2*r+b-d by omega];exact ih2
    ·rw [WN hge,WN hge] at ih2;rw [Tx (show ¬r*2+b≥d by omega),aS,show q+q=2*q by omega,show r*2+b=2*r+b by omega];exact ih2
   by_cases h64:(k:Int)≥64
   ·rw [Os h64,bB];refine go _ ?_;rw [show k%64=k-64 by omega,yNb hA.1 (by omega),← hC,hb]
   ·rw [Tx h64,aS];refine go _ ?_;rw [show k%64=k by omega,yNa hA.1 (by omega),← hC,hb]
theorem yKU {A d:Int} (hA:0≤A∧A<340282366920938463463374607431768211456) (hd:0<d∧d<9223372036854775808) (K:Int→Int→Int→Prop) :
  xV (A/18446744073709551616) (A%18446744073709551616) d K=K (A/d/18446744073709551616) (A/d%18446744073709551616) (A%d):=by
 refine yBa _ _ _ _ _ _ (fun K h=>?_) K;unfold xV TW;refine ⟨129,?_⟩;have e:=yHy (x0:=fun f g i j k a b c l m=>K a b c) hA hd h 128 129 (by omega) (by omega);have z:A/2 ^ 128=0:=Int.ediv_eq_zero_of_lt hA.1 hA.2;rw [z,Int.zero_ediv,Int.zero_emod] at e;exact e
theorem cr {s:Bool} {X Y:Int} (hx:0≤X) (hy:0≤Y) (K:Int→Int→Int→Prop) :
  Ff s (X/18446744073709551616) (X%18446744073709551616) (Y/18446744073709551616) (Y%18446744073709551616) K=fO s X Y K:=by
 unfold Ff TN fO
 by_cases h:X≤1000000000000000000∧Y≤1000000000000000000
 ·have e1:i64.wrap (X%18446744073709551616)=X:=by rw [show X%18446744073709551616=X by omega,cZ ⟨by omega,by omega⟩]
  have e2:i64.wrap (Y%18446744073709551616)=Y:=by rw [show Y%18446744073709551616=Y by omega,cZ ⟨by omega,by omega⟩]
  rw [WM h,Tx (by omega),aS,Tx (by omega),aS,Tx (by omega),aS,Tx (by omega),aS,e1,e2]
  cases s
  ·rw [aS];rfl
  ·rw [bB,cZ ⟨by omega,by omega⟩,Int.zero_sub];rfl
 ·rw [WN h]
  by_cases h1:X/18446744073709551616>0
  ·rw [Os h1,bB]
  ·rw [Tx h1,aS]
   by_cases h2:Y/18446744073709551616>0
   ·rw [Os h2,bB]
   ·rw [Tx h2,aS]
    by_cases h3:X%18446744073709551616>1000000000000000000
    ·rw [Os h3,bB]
    ·rw [Tx h3,aS,Os (by omega),bB]
theorem FH {g:Int} (h:g≠0) {P:Prop}:aA (!(decide (g=(0:Int)))) P=P:=by rw [Tx h];rfl
theorem mD {n:Nat} (h:(n:Int)≤18446744073709551615):u64.wrap (n:Int)=n:=aV ⟨by omega,h⟩
theorem IK (a b:Nat):Int.tdiv (a:Int) (b:Int)=((a/b:Nat):Int):=by rw [Int.tdiv_eq_ediv_of_nonneg (by omega),lH]
theorem ct {A d:Nat} (hA:A<340282366920938463463374607431768211456) (hd:0<d∧d<9223372036854775808) (K:Int→Int→Int→Prop) :
  xV ((A:Int)/18446744073709551616) ((A:Int)%18446744073709551616) d K=K (((A/d:Nat):Int)/18446744073709551616) (((A/d:Nat):Int)%18446744073709551616) ((A%d:Nat):Int):=by
 rw [yKU ⟨by omega,by omega⟩ ⟨by omega,by omega⟩,lH,Int.natCast_emod]
theorem CE {a b:Nat} (ha:a≤18446744073709551615) (hb:b≤18446744073709551615) (K:Int→Int→Prop) :
  Ay (a:Int) (b:Int) K=K (((a*b:Nat):Int)/18446744073709551616) (((a*b:Nat):Int)%18446744073709551616):=by
 rw [yKS ⟨by omega,by omega⟩ ⟨by omega,by omega⟩,uU]
theorem yJy {a b c d:Int} {K:Int→Int→Prop} {Z:Prop} (h:∀ u v,K u v=Z):Fg a b c d K=Z:=by
 unfold Fg LO;simp only [h]
 by_cases e:b<d
 ·rw [Os e,bB]
 ·rw [Tx e,aS]
theorem yL9 {s:Bool} {Z p1 p3 g:Nat} (hZ:Z<340282366920938463463374607431768211456) (hg:0<g) (g1:g≤1000000000000000000) (h1:p1≤1000000000000000000) (h3:p3≤1000000000000000000) (K:Int→Int→Int→Prop) :
  aB (((Z:Int)/18446744073709551616 ==(0:Int))&&(((Z:Int)%18446744073709551616 ==(0:Int))&&true)) (K 0 1 0)
   (xV ((Z:Int)/18446744073709551616) ((Z:Int)%18446744073709551616) (g:Int) (fun _ _ b=>
    (tT b (g:Int) (fun a=>
     (xV ((Z:Int)/18446744073709551616) ((Z:Int)%18446744073709551616) a (fun c d _=>
      (aA (!(decide ((g:Int)=(0:Int)))) (aA (!(decide (a=(0:Int))))
       (Ay (u64.wrap (Int.tdiv (u64.wrap (p1:Int)) (g:Int))) (u64.wrap (Int.tdiv (u64.wrap (p3:Int)) a)) (fun f h=>
        (Ff s c d f h (fun i j k=>K i j k))))))))))))=fE s (Z:Int) p1 p3 g K:=by
 unfold fE
 by_cases h0:Z=0
 ·subst h0;rfl
 ·have e:(((Z:Int)/18446744073709551616 ==(0:Int))&&(((Z:Int)%18446744073709551616 ==(0:Int))&&true))=false:=by
   by_cases e1:(Z:Int)/18446744073709551616=0
   ·rw [VH e1,IF (by omega)];rfl
   ·rw [IF e1];rfl
  have hg0:0<Nat.gcd Z g:=wI _ hg;have hgg:Nat.gcd Z g≤g:=Nat.gcd_le_right _ hg;have eg:Nat.gcd (Z%g) g=Nat.gcd Z g:=by rw [uZ Z g,Nat.gcd_rec g Z]
  have q1:p1/g≤p1:=nB _ _;have q3:p3/Nat.gcd Z g≤p3:=nB _ _;rw [e,aS,WN (by omega),ct hZ ⟨hg,by omega⟩];simp only [ID,eg];rw [ct hZ ⟨hg0,by omega⟩,FH (by omega),FH (by omega),mD (by omega),mD (by omega),IK,IK,mD (by omega),mD (by omega),CE (by omega) (by omega)];rw [cr (uS _) (uS _)];simp only [cM]
theorem MI {q r:Rat} (hq:small q) (hr:small r) (K:Int→Int→Int→Prop):sF q.num q.den r.num r.den K=fitK (q+r) K:=by
 unfold sF TZ;rw [MG hq.i1 hq.i2 hr.i1 hr.i2,yI hq hr,qP rfl,aS,← VF];obtain ⟨a1,a2,a3⟩:=hq;obtain ⟨b1,b2,b3⟩:=hr;have dq:=q.den_pos;have dr:=r.den_pos;have g0:0<Nat.gcd q.den r.den:=Nat.gcd_pos_of_pos_left _ dq;have gl:Nat.gcd q.den r.den≤q.den:=Nat.gcd_le_left _ dq;have w1:tT (u64.wrap (q.den:Int)) (u64.wrap (r.den:Int))=tT (q.den:Int) (r.den:Int):=by rw [mD (by omega),mD (by omega)]
 rw [w1,ID,yJ ⟨by omega,by omega⟩,FH (by omega)];show _=fE (decide (q.num*((r.den:Int)/(Nat.gcd q.den r.den:Nat))+r.num*((q.den:Int)/(Nat.gcd q.den r.den:Nat))<0)) ((q.num*((r.den:Int)/(Nat.gcd q.den r.den:Nat))+r.num*((q.den:Int)/(Nat.gcd q.den r.den:Nat))).natAbs:Int) q.den r.den (Nat.gcd q.den r.den) K;obtain ⟨g,hg⟩:∃ g,g=Nat.gcd q.den r.den:=⟨_,rfl⟩;rw [← hg] at g0 gl ⊢;have q3:r.den/g≤r.den:=nB _ _;have q4:q.den/g≤q.den:=nB _ _;have t1:u64.wrap (Int.tdiv (u64.wrap (r.den:Int)) (g:Int))=((r.den/g:Nat):Int):=by rw [mD (by omega),IK,mD (by omega)]
 have t2:u64.wrap (Int.tdiv (u64.wrap (q.den:Int)) (g:Int))=((q.den/g:Nat):Int):=by rw [mD (by omega),IK,mD (by omega)]
 rw [t1,CE (by omega) (by omega)];rw [yJ ⟨by omega,by omega⟩,FH (by omega),t2,CE (by omega) (by omega)];rw [← lH,← lH];obtain ⟨x,hx⟩:∃ x,x=r.den/g:=⟨_,rfl⟩;obtain ⟨y,hy⟩:∃ y,y=q.den/g:=⟨_,rfl⟩;rw [← hx] at q3 ⊢;rw [← hy] at q4 ⊢;have X1:q.num.natAbs*x≤1000000000000000000*1000000000000000000:=wR (by omega) (by omega);have Y1:r.num.natAbs*y≤1000000000000000000*1000000000000000000:=wR (by omega) (by omega);have ax:q.num*(x:Int)=if q.num<0 then -((q.num.natAbs*x:Nat):Int) else ((q.num.natAbs*x:Nat):Int):=by
  rw [uU];split
  ·rw [show ((q.num.natAbs:Nat):Int)=-q.num by omega,zJ,Int.neg_neg]
  ·rw [show ((q.num.natAbs:Nat):Int)=q.num by omega]
 have cy:r.num*(y:Int)=if r.num<0 then -((r.num.natAbs*y:Nat):Int) else ((r.num.natAbs*y:Nat):Int):=by
  rw [uU];split
  ·rw [show ((r.num.natAbs:Nat):Int)=-r.num by omega,zJ,Int.neg_neg]
  ·rw [show ((r.num.natAbs:Nat):Int)=r.num by omega]
 rw [ax,cy];obtain ⟨X,hX⟩:∃ X,X=q.num.natAbs*x:=⟨_,rfl⟩;obtain ⟨Y,hY⟩:∃ Y,Y=r.num.natAbs*y:=⟨_,rfl⟩;rw [← hX] at X1 ⊢;rw [← hY] at Y1 ⊢;rw [VJ (by omega) (by omega) (by omega)];have fin:=fun (s:Bool) (Z:Nat) (hZ:Z<340282366920938463463374607431768211456)=>yL9 (s:=s) (Z:=Z) (p1:=q.den) (p3:=r.den) (g:=g) hZ g0 (by omega) (by omega) (by omega) K
 simp only [t2,← hy] at fin;have cong:∀ (s s':Bool) (Z Z':Int),Z=Z'→(Z≠0→s=s')→fE s Z q.den r.den g K=fE s' Z' q.den r.den g K:=by
  intro s s' Z Z' h1 h2;subst h1
  by_cases h:Z=0
  ·unfold fE;rw [WM h,WM h]
  ·rw [h2 h]
 by_cases hs:decide (q.num<0)=decide (r.num<0)
 ·have e:(decide (q.num<0) !=decide (r.num<0))=false:=by rw [hs];simp
  rw [e,aS,show (X:Int)+Y=((X+Y:Nat):Int) by omega];rw [fin (decide (q.num<0)) (X+Y) (by omega)];refine cong _ _ _ _ ?_ ?_
  ·by_cases h1:q.num<0
   ·have h2:r.num<0:=by simpa [h1] using hs.symm
    rw [WM h1,WM h2];omega
   ·have h2:¬r.num<0:=by simpa [h1] using hs.symm
    rw [WN h1,WN h2];omega
  ·intro h0
   by_cases h1:q.num<0
   ·have h2:r.num<0:=by simpa [h1] using hs.symm
    rw [WM h1,WM h2,Os h1,Os (by omega)]
   ·have h2:¬r.num<0:=by simpa [h1] using hs.symm
    rw [WN h1,WN h2,Tx h1,Tx (by omega)]
 ·have e:(decide (q.num<0) !=decide (r.num<0))=true:=by simpa using hs
  have h12:(q.num<0∧¬r.num<0)∨(¬q.num<0∧r.num<0):=by
   by_cases h1:q.num<0<;>by_cases h2:r.num<0<;>simp [h1,h2] at hs ⊢
  rw [e,bB]
  by_cases hlt:X<Y
  ·refine yJy (fun u v=>?_);rw [MH (by omega) (by omega),Os (by omega),bB,cp (by omega) (by omega) (by omega)];have ez:(Y:Int)-X=((Y-X:Nat):Int):=by omega
   rw [ez];rw [fin (decide (r.num<0)) (Y-X) (by omega)];refine cong _ _ _ _ ?_ ?_
   ·rcases h12 with ⟨h1,h2⟩ | ⟨h1,h2⟩
    ·rw [WM h1,WN h2];omega
    ·rw [WN h1,WM h2];omega
   ·intro h0;rcases h12 with ⟨h1,h2⟩ | ⟨h1,h2⟩
    ·rw [WM h1,WN h2,Tx h2,Tx (by omega)]
    ·rw [WN h1,WM h2,Os h2,Os (by omega)]
  ·rw [cp (by omega) (by omega) (by omega),MH (by omega) (by omega),Tx (by omega),aS];have ez:(X:Int)-Y=((X-Y:Nat):Int):=by omega
   rw [ez];rw [fin (decide (q.num<0)) (X-Y) (by omega)];refine cong _ _ _ _ ?_ ?_
   ·rcases h12 with ⟨h1,h2⟩ | ⟨h1,h2⟩
    ·rw [WM h1,WN h2];omega
    ·rw [WN h1,WM h2];omega
   ·intro h0;rcases h12 with ⟨h1,h2⟩ | ⟨h1,h2⟩
    ·rw [WM h1,WN h2,Os h1,Os (by omega)]
    ·rw [WN h1,WM h2,Tx h1,Tx (by omega)]
theorem yMa {q:Rat} (hq:small q) (K:Int→Int→Prop):LN q.num q.den K=K (-q).num (-q).den:=by unfold LN TS;obtain ⟨a1,a2,a3⟩:=hq;rw [cZ ⟨by omega,by omega⟩,Int.zero_sub];rfl
theorem small.neg {q:Rat} (hq:small q):small (-q):=by obtain ⟨a1,a2,a3⟩:=hq;unfold small;rw [Rat.neg_num,Rat.neg_den];omega
theorem VK {q r:Rat} (hq:small q) (hr:small r) (K:Int→Int→Int→Prop):wD q.num q.den r.num r.den K=fitK (q-r) K:=by unfold wD Ub;rw [MG hq.i1 hq.i2 hr.i1 hr.i2,yI hq hr,qP rfl,aS,yMa hr,MI hq hr.neg,Rat.sub_eq_add_neg]
theorem MJ {q r:Rat} (hq:small q) (hr:small r) (K:Int→Int→Int→Prop):ygs q.num q.den r.num r.den K=fitK (q*r) K:=by
 unfold ygs TO;rw [MG hq.i1 hq.i2 hr.i1 hr.i2,yI hq hr,qP rfl,aS];have hq':=hq;have hr':=hr;obtain ⟨a1,a2,a3⟩:=hq;obtain ⟨b1,b2,b3⟩:=hr;have dq:=q.den_pos;have dr:=r.den_pos;have g0:0<Nat.gcd q.num.natAbs r.den:=wI _ dr;have h0:0<Nat.gcd r.num.natAbs q.den:=wI _ dq;rw [yJ hq'.i1,mD (n:=r.den) (by omega),ID,yJ hr'.i1,mD (n:=q.den) (by omega),ID];simp only [yJ hq'.i1,yJ hr'.i1];have q1:q.num.natAbs/Nat.gcd q.num.natAbs r.den≤q.num.natAbs:=nB _ _;have q2:r.num.natAbs/Nat.gcd r.num.natAbs q.den≤r.num.natAbs:=nB _ _;have q3:q.den/Nat.gcd r.num.natAbs q.den≤q.den:=nB _ _;have q4:r.den/Nat.gcd q.num.natAbs r.den≤r.den:=nB _ _;have e1:gX q.num r.num q.den r.den=q.num.natAbs/Nat.gcd q.num.natAbs r.den*(r.num.natAbs/Nat.gcd r.num.natAbs q.den):=rfl;have e2:jZ q.num r.num q.den r.den=q.den/Nat.gcd r.num.natAbs q.den*(r.den/Nat.gcd q.num.natAbs r.den):=rfl;have z1:q.num=0→gX q.num r.num q.den r.den=0:=fun h=>by rw [e1,h,Int.natAbs_zero,Nat.zero_div,Nat.zero_mul]
 have z2:r.num=0→gX q.num r.num q.den r.den=0:=fun h=>by rw [e1,h,Int.natAbs_zero,Nat.zero_div,Nat.mul_zero]
 have n1:∀ P:Prop,aA (!(decide (((Nat.gcd q.num.natAbs r.den:Nat):Int)=(0:Int)))) P=P:=fun P=>FH (by omega)
 have n2:∀ P:Prop,aA (!(decide (((Nat.gcd r.num.natAbs q.den:Nat):Int)=(0:Int)))) P=P:=fun P=>FH (by omega)
 have w1:=mD (n:=q.num.natAbs/Nat.gcd q.num.natAbs r.den) (by omega);have w2:=mD (n:=r.num.natAbs/Nat.gcd r.num.natAbs q.den) (by omega);have w3:=mD (n:=q.den/Nat.gcd r.num.natAbs q.den) (by omega);have w4:=mD (n:=r.den/Nat.gcd q.num.natAbs r.den) (by omega);have t1:=CE (a:=q.num.natAbs/Nat.gcd q.num.natAbs r.den) (b:=r.num.natAbs/Nat.gcd r.num.natAbs q.den) (by omega) (by omega);have t2:=CE (a:=q.den/Nat.gcd r.num.natAbs q.den) (b:=r.den/Nat.gcd q.num.natAbs r.den) (by omega) (by omega);have m:=fun s=>cr (s:=s) (X:=((gX q.num r.num q.den r.den:Nat):Int)) (Y:=((jZ q.num r.num q.den r.den:Nat):Int)) (uS _) (uS _) K
 rw [← e1] at t1;rw [← e2] at t2;simp only [n1,n2,IK,w1,w2,w3,w4,t1,t2,m];rw [← VD];have zs:∀ s s':Bool,gX q.num r.num q.den r.den=0→fO s (gX q.num r.num q.den r.den:Nat) (jZ q.num r.num q.den r.den:Nat) K=fO s' (gX q.num r.num q.den r.den:Nat) (jZ q.num r.num q.den r.den:Nat) K:=by
  intro s s' h;rw [h]
  cases s<;>cases s' <;> rfl
 by_cases hs:(decide (q.num<0) !=decide (r.num<0))=true
 ·rw [hs,bB]
  by_cases n1:q.num=0
  ·rw [qP n1,aS];exact zs _ _ (z1 n1)
  ·rw [IE n1,bB]
   by_cases n2:r.num=0
   ·exact zs _ _ (z2 n2)
   ·rw [IE n2]
 ·have hs':(decide (q.num<0) !=decide (r.num<0))=false:=by simpa using hs
  rw [hs',aS]
theorem yMb {q r:Rat} (hq:small q) (hr:small r) (h0:r≠0) (K:Int→Int→Int→Prop):Cc q.num q.den r.num r.den K=fitK (q/r) K:=by
 unfold Cc Ud;have hn:r.num≠0:=fun e=>h0 (AP.1 e)
 rw [MG hq.i1 hq.i2 hr.i1 hr.i2,yI hq hr,qP rfl,aS,IF hn,aS];obtain ⟨e1,e2⟩:=VE h0;have m:=MJ hq (hr.inv h0) K;rw [e1,e2] at m;obtain ⟨b1,b2,b3⟩:=hr;rw [Rat.div_def,← m]
 by_cases h:r.num<0
 ·rw [Os h,bB,WM h,cZ (n:=(0:Int)-r.den) ⟨by omega,by omega⟩,cZ (n:=(0:Int)-r.num) ⟨by omega,by omega⟩];rw [show (0:Int)-r.den=-(r.den:Int) by omega,show (0:Int)-r.num=((r.num.natAbs:Nat):Int) by omega]
 ·rw [Tx h,aS,WN h,show ((r.num.natAbs:Nat):Int)=r.num by omega]
theorem oJ {q r:Rat} (hq:small q) (hr:small r) (K:Bool→Prop):yaC q.num q.den r.num r.den K=K (decide (q<r)):=by
 unfold yaC TR;have hq':=hq;have hr':=hr;obtain ⟨a1,a2,a3⟩:=hq;obtain ⟨b1,b2,b3⟩:=hr;have dq:=q.den_pos;have dr:=r.den_pos;have e:decide (q<r)=decide (q.num*r.den<r.num*q.den):=by rw [Aaa];exact Rat.lt_iff q r
 rw [e]
 by_cases hs:(decide (q.num<0) !=decide (r.num<0))=true
 ·rw [hs,bB]
  by_cases h1:q.num<0
  ·have h2:¬r.num<0:=by simpa [h1] using hs
   have p1:q.num*r.den<0:=CW h1 (by omega);have p2:0≤r.num*q.den:=kX (by omega) (by omega);rw [Os h1,Os (by omega)]
  ·have h2:r.num<0:=by simpa [h1] using hs
   have p1:r.num*q.den<0:=CW h2 (by omega);have p2:0≤q.num*r.den:=kX (by omega) (by omega);rw [Tx h1,Tx (by omega)]
 ·have hs':(decide (q.num<0) !=decide (r.num<0))=false:=by simpa using hs
  rw [hs',aS,yJ hq'.i1,mD (by omega),CE (by omega) (by omega),yJ hr'.i1,mD (by omega),CE (by omega) (by omega),MH (uS _) (uS _),MH (uS _) (uS _),uU,uU]
  by_cases h1:q.num<0
  ·have h2:r.num<0:=by simpa [h1] using hs'
   rw [Os h1,bB,show ((q.num.natAbs:Nat):Int)=-q.num by omega,show ((r.num.natAbs:Nat):Int)=-r.num by omega,zJ,zJ];congr 1;rw [Aaa];omega
  ·have h2:¬r.num<0:=by simpa [h1] using hs'
   rw [Tx h1,aS,show ((q.num.natAbs:Nat):Int)=q.num by omega,show ((r.num.natAbs:Nat):Int)=r.num by omega]
theorem FI (n:Int) (K:Int→Int→Prop):fK n K=K (n:Rat).num (n:Rat).den:=rfl
theorem aW {c:Prop} [Decidable c] {P Q:Prop} (h:c):aB (decide c) P Q=P:=by rw [Os h,bB]
theorem aZ {c:Prop} [Decidable c] {P Q:Prop} (h:¬c):aB (decide c) P Q=Q:=by rw [Tx h,aS]
theorem cL {a b:Int} {P Q:Prop} (h:a≠b):aB (a !=b) P Q=P:=by rw [IE h,bB]
theorem cD {a b:Int} {P Q:Prop} (h:a=b):aB (a !=b) P Q=Q:=by rw [qP h,aS]
theorem mF {a b:Int} {P Q:Prop} (h:a=b):aB (a==b) P Q=P:=by rw [VH h,bB]
theorem oZ {a b:Int} {P Q:Prop} (h:a≠b):aB (a==b) P Q=Q:=by rw [IF h,aS]
theorem aO {c:Prop} [Decidable c] {P:Prop} (h:c):aA (decide c) P=P:=by rw [Os h,dX]
theorem gM {l:List Int} {i:Nat} {P:Prop} (h:i<l.length):aA (aI zI (getD (aG l) i .nils)) P=P:=by rw [CB h,dX]
theorem gD {n:Int} (h1:-9223372036854775808≤n) (h2:n≤9223372036854775807):i64.wrap n=n:=cZ ⟨h1,h2⟩
theorem lT (i:Nat):(i:Int)+1=((i+1:Nat):Int):=by omega
theorem MK {x:Int} (h:-1000000000000000000≤x∧x≤1000000000000000000):small (x:Rat):=by unfold small;rw [Dj,Dk];omega
def CF (dens:List Int):Prop:=∀ d∈dens,0≤d∧d≤12
def CG (dens:List Int):Prop:=∃ d∈dens,0<d
instance (l:List Int):Decidable (CF l):=by unfold CF;infer_instance
instance (l:List Int):Decidable (CG l):=by unfold CG;infer_instance
def VC (len:Int) (cuts dens:List Int):Prop:=
 1≤len∧len≤1000∧2≤cuts.length∧cuts.length≤40∧dens.length+1=cuts.length∧cuts.getD 0 0=0∧cuts.getD (cuts.length-1) 0=len∧uI cuts 0∧CF dens∧CG dens
theorem yKV (l:List Int):uI l 0↔∀ j,j<l.length→j+1<l.length→l.getD j 0<l.getD (j+1) 0:=⟨fun h j _ h2=>h j (by omega) h2,fun h j _ h2=>h j (by omega) h2⟩
instance (l:List Int):Decidable (uI l 0):=decidable_of_iff _ (yKV l).symm
instance (len:Int) (cuts dens:List Int):Decidable (VC len cuts dens):=by unfold VC;infer_instance
def iF (len:Int) (cuts dens:List Int):Int:=if len>1000∨cuts.length>40 then 4 else if VC len cuts dens then 0 else 8
theorem cu (l:List Int) (x:Int):(l.foldl IB x<0)↔¬(∀ d∈x::l,0≤d):=by
 induction l generalizing x with
 | nil=>simp
 | cons y t ih=>
  rw [List.foldl_cons,ih];unfold IB;simp only [List.forall_mem_cons];split
  ·constructor
   ·intro h h2;exact h ⟨h2.2.1,h2.2.2⟩
   ·intro h h2;exact h ⟨by omega,h2.1,h2.2⟩
  ·constructor
   ·intro h h2;exact h ⟨h2.1,h2.2.2⟩
   ·intro h h2;exact h ⟨h2.1,by omega,h2.2⟩
theorem IL (l:List Int) (x k:Int):(l.foldl yH x>k)↔¬(∀ d∈x::l,d≤k):=by
 induction l generalizing x with
 | nil=>simp
 | cons y t ih=>
  rw [List.foldl_cons,ih];unfold yH;simp only [List.forall_mem_cons];split
  ·constructor
   ·intro h h2;exact h ⟨h2.2.1,h2.2.2⟩
   ·intro h h2;exact h ⟨by omega,h2.1,h2.2⟩
  ·constructor
   ·intro h h2;exact h ⟨h2.1,h2.2.2⟩
   ·intro h h2;exact h ⟨h2.1,by omega,h2.2⟩
theorem IM {len:Int} {cuts dens:List Int} (h1:cuts.length<4611686018427387904) (h2:dens.length<4611686018427387904) (K:Int→Prop) :
  jE len (aG cuts) (aG dens) K=K (iF len cuts dens):=by
 refine yz1 _ _ _ _ (fun K k=>?_) K;unfold jE Ta;simp only [dI];have bad:¬(len>1000∨cuts.length>40)→¬VC len cuts dens→K 8:=fun h h2=>by
  rw [iF,WN h,WN h2] at k;exact k
 by_cases a1:len>1000
 ·rw [aW a1];rw [iF,WM (.inl a1)] at k;exact k
 rw [aZ a1]
 by_cases a2:cuts.length>40
 ·rw [aW (by omega)];rw [iF,WM (.inr a2)] at k;exact k
 have a12:¬(len>1000∨cuts.length>40):=by omega
 rw [aZ (by omega)]
 by_cases a3:len<1
 ·rw [aW a3];exact bad a12 (fun h=>by have:=h.1;omega)
 rw [aZ a3]
 by_cases a4:cuts.length<2
 ·rw [aW (by omega)];exact bad a12 (fun h=>by have:=h.2.2.1;omega)
 rw [aZ (by omega),gD (n:=(cuts.length:Int)-1) (by omega) (by omega)]
 by_cases a5:dens.length+1=cuts.length
 case neg=>rw [cL (by omega)];exact bad a12 (fun h=>a5 h.2.2.2.2.1)
 rw [cD (by omega),aO (by omega),gM (by omega),iE (by omega)]
 by_cases a6:cuts.getD 0 0=0
 case neg=>rw [cL a6];exact bad a12 (fun h=>a6 h.2.2.2.2.2.1)
 rw [cD a6,aO (by omega),aO (by omega),gM (by omega),iE (by omega)];have en:((cuts.length:Int)-1).toNat=cuts.length-1:=by omega
 rw [en]
 by_cases a7:cuts.getD (cuts.length-1) 0=len
 case neg=>rw [cL a7];exact bad a12 (fun h=>a7 h.2.2.2.2.2.2.1)
 rw [cD a7];refine ⟨cuts.length+1,?_⟩;refine yHx (by omega) _ _ _ _ (cuts.length-1) 0 _ (by omega) (by omega) (fun hi=>?_) (fun hi=>bad a12 (fun h=>hi h.2.2.2.2.2.2.2.1));obtain ⟨x,t,e⟩:∃ x t,dens=x::t:=by
  cases dens with
  | nil=>exfalso;have:([]:List Int).length=0:=rfl;omega
  | cons x t=>exact ⟨x,t,rfl⟩
 refine yM9 (by omega) e ?_
 by_cases b1:t.foldl IB x<0
 ·rw [aW b1];rw [cu] at b1;exact bad a12 (fun h=>b1 fun d hd=>(h.2.2.2.2.2.2.2.2.1 d (by rw [e];exact hd)).1)
 rw [aZ b1];refine bz (by omega) e ?_
 by_cases b2:t.foldl yH x>12
 ·rw [aW b2];rw [IL] at b2;exact bad a12 (fun h=>b2 fun d hd=>(h.2.2.2.2.2.2.2.2.1 d (by rw [e];exact hd)).2)
 rw [aZ b2];refine bz (by omega) e ?_;have c1:∀ d∈dens,0≤d:=by rw [cu,Classical.not_not,← e] at b1;exact b1
 have c2:∀ d∈dens,d≤12:=by rw [IL,Classical.not_not,← e] at b2;exact b2
 by_cases b3:t.foldl yH x=0
 ·rw [mF b3];refine bad a12 (fun h=>?_);obtain ⟨d,hd,h0⟩:=h.2.2.2.2.2.2.2.2.2;have:¬(t.foldl yH x>0):=by omega
  rw [IL,Classical.not_not,← e] at this;have:=this d hd;omega
 ·rw [oZ b3];have b4:t.foldl yH x>0:=by
   refine Int.not_le.1 fun hle=>b3 ?_
   have:t.foldl yH x>-1:=by rw [IL];intro h;have h1:=h x (kC ..);have h2:=c1 x (by rw [e];exact kC ..);omega
   omega
  rw [IL,← e] at b4;have b5:CG dens:=by
   refine Classical.byContradiction fun hn=>b4 fun d hd=>?_
   exact Int.not_lt.1 fun hlt=>hn ⟨d,hd,hlt⟩
  rw [iF,WN a12,WM ⟨by omega,by omega,by omega,by omega,a5,a6,a7,hi,fun d hd=>⟨c1 d hd,c2 d hd⟩,b5⟩] at k;exact k
theorem yK (n:Int) (K:Int→Int→Prop):rX n K=K (n:Rat).num (n:Rat).den:=rfl
theorem uJ {q r:Rat} (hq:small q) (hr:small r) (K:Bool→Prop):qJ q.num q.den r.num r.den K=K (decide (q<r)):=by
 unfold qJ Tf;rw [cj hq hr];congr 1;rw [Aaa,qO]
 by_cases h:q<r
 ·simp [h]
 ·by_cases h2:r<q<;>simp [h,h2]
def PT (len:Int) (n d:Int):Prop:=RV n d∧0≤n∧n≤len*d
instance (len n d:Int):Decidable (PT len n d):=by unfold PT;infer_instance
theorem yNc {len n d:Int} (h:PT len n d):∃ q:Rat,small q∧q.num=n∧(q.den:Int)=d∧0≤q∧q≤(len:Rat):=by
 obtain ⟨h1,h2,h3⟩:=h;obtain ⟨q,e1,e2,e3⟩:=ME h1;refine ⟨q,e1,e2,e3,?_,?_⟩
 ·rw [← AQ,e2];exact h2
 ·rw [Rat.le_iff,e2,e3,Dj,Dk];simpa using h3
theorem cv (x:Int) (q:Rat):((x:Rat)<q)↔x*(q.den:Int)<q.num:=by rw [Rat.lt_iff,Dj,Dk];simp
theorem VL {len:Int} (hl:-1000000000000000000≤len∧len≤1000000000000000000) {n d:Int} (hn:bG n) (hd:bG d) (a b:List PV) (K:Bool→Prop) :
  rZ len a b n d K=K (decide (PT len n d)):=by
 unfold rZ Tg;rw [cm hn hd]
 by_cases h:RV n d
 ·obtain ⟨q,e1,e2,e3⟩:=ME h;rw [jQ,WM h,mF rfl]
  by_cases h0:n≥0
  ·rw [aW h0,yK,← e2,← e3,uJ (MK hl) e1];congr 1;have:((len:Rat)<q)↔len*(q.den:Int)<q.num:=cv _ _
   by_cases h3:(len:Rat)<q
   ·have h4:=this.1 h3;rw [Os h3,Tx];rfl;intro hp;have:=hp.2.2;omega
   ·have h4:¬_:=fun x=>h3 (this.2 x)
    rw [Tx h3,Os];rfl;exact ⟨e1.rv,by omega,by omega⟩
  ·rw [aZ h0,Tx];intro hp;have:=hp.2.1;omega
 ·rw [jQ,WN h,oZ (by decide),Tx];intro hp;exact h hp.1
section
variable {len:Int} {cuts dens:List Int}
theorem VC.step (h:VC len cuts dens) {i:Nat} (hi:i+1<cuts.length):cuts.getD i 0<cuts.getD (i+1) 0:=h.2.2.2.2.2.2.2.1 i (kF _) hi
theorem VC.mono (h:VC len cuts dens) {i:Nat}:∀ {j:Nat},i≤j→j<cuts.length→cuts.getD i 0≤cuts.getD j 0
 | 0,hij,_=>by
  have:i=0:=by omega
  subst this;exact Int.le_refl _
 | j+1,hij,hj=>by
  by_cases e:i=j+1
  ·subst e;exact Int.le_refl _
  ·have h1:=h.mono (i:=i) (j:=j) (by omega) (by omega);have h2:=h.step (i:=j) hj;omega
theorem VC.lo (h:VC len cuts dens) {i:Nat} (hi:i<cuts.length):0≤cuts.getD i 0:=by have:=h.mono (kF i) hi;rw [h.2.2.2.2.2.1] at this;exact this
theorem VC.hi (h:VC len cuts dens) {i:Nat} (hi:i<cuts.length):cuts.getD i 0≤len:=by have:=h.mono (i:=i) (j:=cuts.length-1) (by omega) (by omega);rw [h.2.2.2.2.2.2.1] at this;exact this
theorem VC.den (h:VC len cuts dens) {i:Nat} (hi:i<dens.length):0≤dens.getD i 0∧dens.getD i 0≤12:=by rw [eQ,dU hi];exact h.2.2.2.2.2.2.2.2.1 _ (De hi)
theorem VC.l1 (h:VC len cuts dens):dens.length+1=cuts.length:=h.2.2.2.2.1
theorem VC.l2 (h:VC len cuts dens):cuts.length≤40:=h.2.2.2.1
theorem VC.len0 (h:VC len cuts dens):1≤len∧len≤1000:=⟨h.1,h.2.1⟩
theorem VC.sc (h:VC len cuts dens) {i:Nat} (hi:i<cuts.length):small ((cuts.getD i 0:Int):Rat):=MK (by have:=h.lo hi;have:=h.hi hi;have:=h.len0;omega)
theorem VC.sd (h:VC len cuts dens) {i:Nat} (hi:i<dens.length):small ((dens.getD i 0:Int):Rat):=MK (by have:=h.den hi;omega)
theorem FJ (h:iF len cuts dens=0):VC len cuts dens:=by
 unfold iF at h;split at h
 ·omega
 ·split at h
  ·assumption
  ·omega
theorem VC.ck (h:VC len cuts dens):iF len cuts dens=0:=by rw [iF,WN (by have:=h.l2;have:=h.len0;omega),WM h]
def iW (cuts dens:List Int):Nat→Nat→Int→Int
 | 0,_,s=>s
 | r+1,i,s=>iW cuts dens r (i+1) (s+dens.getD i 0*(cuts.getD (i+1) 0-cuts.getD i 0))
def totC (cuts dens:List Int):Int:=iW cuts dens dens.length 0 0
theorem IN {d x:Int} (h:0≤d∧d≤12) (hx:0≤x):0≤d*x∧d*x≤12*x:=⟨kX h.1 hx,AL h.2 hx⟩
theorem cw (h:VC len cuts dens):∀ (r i:Nat) (s:Int),i+r=dens.length→0≤s→s≤12*cuts.getD i 0→0≤iW cuts dens r i s∧iW cuts dens r i s≤12*len
 | 0,i,s,hi,h0,h1=>by have:=h.l1;have:=h.hi (i:=i) (by omega);unfold iW;omega
 | r+1,i,s,hi,h0,h1=>by unfold iW;have l1:=h.l1;have h2:=h.step (i:=i) (by omega);have h3:=IN (h.den (i:=i) (by omega)) (x:=cuts.getD (i+1) 0-cuts.getD i 0) (by omega);exact cw h r (i+1) _ (by omega) (by omega) (by omega)
theorem da (h:VC len cuts dens):0≤totC cuts dens∧totC cuts dens≤12000:=by have l1:=h.l1;have h0:=h.lo (i:=0) (by omega);have:=cw h dens.length 0 0 (by omega) (by omega) (by omega);have h2:=h.len0;unfold totC;omega
theorem db (h:VC len cuts dens) (W:Int→List PV→List PV→(Int→Prop)→Prop) (x0:Int→List PV→List PV→Int→List PV→Int→Int→Bool→Prop) :
  ∀ (r i n:Nat) (s:Int),i+r=dens.length→r<n→0≤s→s≤12*cuts.getD i 0 →
   EU W x0 n len (aG cuts) (aG dens) s (aG dens) dens.length i=x0 len (aG cuts) (aG dens) (iW cuts dens r i s) (aG dens) dens.length dens.length false
 | 0,i,n+1,s,hi,hn,h0,h1=>by
  unfold EU iW;rw [aZ (by omega)];have:(i:Int)=dens.length:=by omega
  rw [this]
 | r+1,i,n+1,s,hi,hn,h0,h1=>by unfold EU;have l1:=h.l1;have l2:=h.l2;have h2:=h.step (i:=i) (by omega);have h3:=IN (h.den (i:=i) (by omega)) (x:=cuts.getD (i+1) 0-cuts.getD i 0) (by omega);have a1:=h.lo (i:=i) (by omega);have a2:=h.hi (i:=i+1) (by omega);have a3:=h.len0;have e1:=gD (n:=(i:Int)+1) (by omega) (by omega);have e2:=gD (n:=cuts.getD (i+1) 0-cuts.getD i 0) (by omega) (by omega);have e3:=gD (n:=dens.getD i 0*(cuts.getD (i+1) 0-cuts.getD i 0)) (by omega) (by omega);have e4:=gD (n:=s+dens.getD i 0*(cuts.getD (i+1) 0-cuts.getD i 0)) (by omega) (by omega);rw [aW (by omega),dI,dI,e1,lT,cM,cM,aO (by omega),aO (by omega),gM (by omega),aO (by omega),aO (by omega),gM (by omega),aO (by omega),aO (by omega),gM (by omega),iE (by omega),iE (by omega),iE (by omega),e2,e3,e4];exact db h W x0 r (i+1) n _ (by omega) (by omega) (by omega) (by omega)
theorem dc (h1:cuts.length<4611686018427387904) (h2:dens.length<4611686018427387904) (K:Int→Int→Prop) :
  BU len (aG cuts) (aG dens) K=if iF len cuts dens=0 then K (totC cuts dens) 0 else K 0 (iF len cuts dens):=by
 by_cases h:iF len cuts dens=0
 ·rw [WM h];refine yz2 _ _ _ _ _ (fun K k=>?_) K;unfold BU LA;have hv:=FJ h;rw [IM h1 h2,h,cD rfl];refine ⟨dens.length+1,?_⟩;have l1:=hv.l1;have a1:=hv.lo (i:=0) (by omega);rw [dI];have:=db hv jE (fun b c d a e f g j=>(K a (0:Int))) dens.length 0 (dens.length+1) 0 (by omega) (by omega) (by omega) (by omega);rw [show ((0:Nat):Int)=0 from rfl] at this;rw [this];exact k
 ·rw [WN h];unfold BU LA;rw [IM h1 h2,cL h]
def exK (e:Except Int Rat) (K:Int→Int→Int→Prop):Prop:=match e with | .ok q=>K q.num q.den 0 | .error c=>K 0 0 c
def eO {α:Type} (q:Rat) (k:Rat→Except Int α):Except Int α:=if small q then k q else .error 16
def valS (cuts dens:List Int) (b:Rat):Nat→Nat→Rat→Rat→Except Int Rat
 | 0,_,_,sum=>.ok sum
 | r+1,i,p,sum=>
  let en:Rat:=if b<(cuts.getD (i+1) 0:Int) then b else (cuts.getD (i+1) 0:Int)
  if dens.getD i 0=0∨¬p<en then valS cuts dens b r (i+1) (if p<en then en else p) sum
  else eO (en-p) fun l=>eO (l*(dens.getD i 0:Int)) fun w=>eO (sum+w) fun s=>valS cuts dens b r (i+1) en s
def yL (cuts dens:List Int) (a b:Rat):Except Int Rat:=valS cuts dens b dens.length 0 a 0
theorem iG {q:Rat} {K:Int→Int→Int→Prop}:fitK q K=if small q then K q.num q.den 0 else K 0 0 16:=rfl
theorem dd (h:VC len cuts dens) {b:Rat} (hb:small b) (an ad:Int) (W1:Int→List PV→List PV→(Int→Prop)→Prop) (W2:Int→List PV→List PV→Int→Int→(Bool→Prop)→Prop) (K:Int→Int→Int→Prop) :
  ∀ (r i n:Nat) (p sum:Rat),i+r=dens.length→r<n→small p→small sum →
   oE W1 W2 qJ rX yaF ya7 nI (fun a d e=>(K a d e)) (fun j k l m o q s f g t u v w x y=>(K f g (0:Int)))
    n len (aG cuts) (aG dens) b.num b.den an ad sum.num sum.den p.num p.den (aG dens) dens.length i=exK (valS cuts dens b r i p sum) K
 | 0,i,n+1,p,sum,hi,hn,hp,hs=>by unfold oE valS;rw [aZ (by omega)];rfl
 | r+1,i,n+1,p,sum,hi,hn,hp,hs=>by
  unfold oE;have l1:=h.l1;have l2:=h.l2;have sc:=h.sc (i:=i+1) (by omega);have sd:=h.sd (i:=i) (by omega);have e1:=gD (n:=(i:Int)+1) (by omega) (by omega);rw [aW (by omega),dI,dI,e1,lT,cM,cM,aO (by omega),aO (by omega),gM (by omega),aO (by omega),aO (by omega),gM (by omega),iE (by omega),iE (by omega),yK,uJ hb sc];have ih:=fun p sum hp hs=>dd h hb an ad W1 W2 K r (i+1) n p sum (by omega) (by omega) hp hs
  unfold valS
  by_cases hbc:b<((cuts.getD (i+1) 0:Int):Rat)
  ·rw [aW hbc];simp only [WM hbc]
   by_cases hd:dens.getD i 0=0
   ·rw [mF hd,WM (.inl hd),uJ hp hb]
    by_cases hpb:p<b
    ·rw [aW hpb,WM hpb];exact ih b sum hb hs
    ·rw [aZ hpb,WN hpb];exact ih p sum hp hs
   ·rw [oZ hd,uJ hp hb]
    by_cases hpb:p<b
    ·have hc:¬(dens.getD i 0=0∨¬p<b):=by simp [hpb];exact hd
     rw [WN hc,Os hpb,jJ,aS,CD hb hp,iG]
     by_cases s1:small (b-p)
     ·rw [WM s1,cD rfl,yK,CC s1 sd,iG,eO,WM s1]
      by_cases s2:small ((b-p)*(dens.getD i 0:Int))
      ·rw [WM s2,cD rfl,VG hs s2,iG,eO,WM s2]
       by_cases s3:small (sum+(b-p)*(dens.getD i 0:Int))
       ·rw [WM s3,cD rfl,eO,WM s3];exact ih b _ hb s3
       ·rw [WN s3,cL (by decide),eO,WN s3];rfl
      ·rw [WN s2,cL (by decide),eO,WN s2];rfl
     ·rw [WN s1,cL (by decide),eO,WN s1];rfl
    ·rw [WM (.inr hpb),Tx hpb,jS,bB,uJ hp hb,aZ hpb,WN hpb];exact ih p sum hp hs
  ·rw [aZ hbc];simp only [WN hbc];obtain ⟨c,hc⟩:∃ c:Rat,c=((cuts.getD (i+1) 0:Int):Rat):=⟨_,rfl⟩;rw [← hc] at sc ⊢
   by_cases hd:dens.getD i 0=0
   ·rw [mF hd,WM (.inl hd),uJ hp sc]
    by_cases hpb:p<c
    ·rw [aW hpb,WM hpb];exact ih c sum sc hs
    ·rw [aZ hpb,WN hpb];exact ih p sum hp hs
   ·rw [oZ hd,uJ hp sc]
    by_cases hpb:p<c
    ·have hcc:¬(dens.getD i 0=0∨¬p<c):=by simp [hpb];exact hd
     rw [WN hcc,Os hpb,jJ,aS,CD sc hp,iG]
     by_cases s1:small (c-p)
     ·rw [WM s1,cD rfl,yK,CC s1 sd,iG,eO,WM s1]
      by_cases s2:small ((c-p)*(dens.getD i 0:Int))
      ·rw [WM s2,cD rfl,VG hs s2,iG,eO,WM s2]
       by_cases s3:small (sum+(c-p)*(dens.getD i 0:Int))
       ·rw [WM s3,cD rfl,eO,WM s3];exact ih c _ sc s3
       ·rw [WN s3,cL (by decide),eO,WN s3];rfl
      ·rw [WN s2,cL (by decide),eO,WN s2];rfl
     ·rw [WN s1,cL (by decide),eO,WN s1];rfl
    ·rw [WM (.inr hpb),Tx hpb,jS,bB,uJ hp sc,aZ hpb,WN hpb];exact ih p sum hp hs
end
def rt (n d:Int):Rat:=mkRat n d.toNat
theorem wF (q:Rat):rt q.num q.den=q:=by unfold rt;rw [cM,Rat.mkRat_self]
theorem df {n d:Int} (h:RV n d):small (rt n d)∧(rt n d).num=n∧((rt n d).den:Int)=d:=by obtain ⟨q,h1,h2,h3⟩:=ME h;subst h2 h3;rw [wF];exact ⟨h1,rfl,rfl⟩
theorem PT.pt {len n d:Int} (h:PT len n d):small (rt n d)∧(rt n d).num=n∧((rt n d).den:Int)=d∧0≤rt n d∧rt n d≤(len:Rat):=by obtain ⟨q,h1,h2,h3,h4,h5⟩:=yNc h;subst h2 h3;rw [wF];exact ⟨h1,rfl,rfl,h4,h5⟩
theorem IP {len:Int} {q:Rat} (h:small q) (h0:0≤q) (h1:q≤(len:Rat)):PT len q.num q.den:=by refine ⟨h.rv,AQ.2 h0,?_⟩;rw [Rat.le_iff,Dj,Dk] at h1;simpa using h1
section
variable {len:Int} {cuts dens:List Int}
def jF (len:Int) (cuts dens:List Int) (an ad bn bd:Int):Except Int Rat:=
 if iF len cuts dens=0 then (if PT len an ad∧PT len bn bd∧¬rt bn bd<rt an ad then yL cuts dens (rt an ad) (rt bn bd) else .error 2) else .error (iF len cuts dens)
theorem ML {w:(Int→Int→Int→Prop)→Prop} {e:Except Int Rat} (det:∀ r0 r1 r2,(∀ K:Int→Int→Int→Prop,K r0 r1 r2→w K)→∀ K,w K=K r0 r1 r2) (h:∀ K,exK e K→w K) (K:Int→Int→Int→Prop):w K=exK e K:=by
 cases e with
 | ok q=>exact det _ _ _ h K
 | error c=>exact det _ _ _ h K
theorem yJz (h1:cuts.length<4611686018427387904) (h2:dens.length<4611686018427387904) {an ad bn bd:Int} (ha:bG an) (ha':bG ad) (hb:bG bn) (hb':bG bd) (K:Int→Int→Int→Prop) :
  EW len (aG cuts) (aG dens) an ad bn bd K=exK (jF len cuts dens an ad bn bd) K:=by
 refine ML (fun r0 r1 r2 h K=>yz3 _ _ _ _ _ _ _ r0 r1 r2 h K) (fun K k=>?_) K;unfold EW Tl;rw [IM h1 h2];unfold jF at k
 by_cases h:iF len cuts dens=0
 case neg=>rw [cL h];rw [WN h] at k;exact k
 have hv:=FJ h;have hl:=hv.len0;rw [WM h] at k;rw [cD h,VL (by omega) ha ha']
 by_cases p1:PT len an ad
 case neg=>rw [Tx p1,jS,bB];rw [WN (fun x=>p1 x.1)] at k;exact k
 rw [Os p1,jJ,aS,VL (by omega) hb hb']
 by_cases p2:PT len bn bd
 case neg=>rw [Tx p2,jS,bB];rw [WN (fun x=>p2 x.2.1)] at k;exact k
 rw [Os p2,jJ,aS];obtain ⟨s1,e1,e2,_,_⟩:=p1.pt;obtain ⟨s2,f1,f2,_,_⟩:=p2.pt;have hless:=uJ s2 s1;rw [e1,e2,f1,f2] at hless;rw [hless]
 by_cases p3:rt bn bd<rt an ad
 ·rw [aW p3];rw [WN (fun x=>x.2.2 p3)] at k;exact k
 rw [aZ p3];rw [WM ⟨p1,p2,p3⟩] at k;rw [yK,dI];refine ⟨dens.length+1,?_⟩;have:=dd hv s2 0 0 jE rZ K dens.length 0 (dens.length+1) (rt an ad) 0 (by omega) (by omega) s1 (by decide);rw [e1,e2,f1,f2] at this;exact this.mpr k
def mrkS (cuts dens:List Int):Nat→Nat→Rat→Rat→Except Int Rat
 | 0,_,_,_=>.error 6
 | r+1,i,p,v=>
  if ¬p<(cuts.getD (i+1) 0:Int) then mrkS cuts dens r (i+1) p v
  else if dens.getD i 0=0 then mrkS cuts dens r (i+1) (cuts.getD (i+1) 0:Int) v
  else eO ((cuts.getD (i+1) 0:Int)-p) fun l=>eO (l*(dens.getD i 0:Int)) fun w=>
   if w<v then eO (v-w) fun v'=>mrkS cuts dens r (i+1) (cuts.getD (i+1) 0:Int) v'
   else eO (v/(dens.getD i 0:Int)) fun s=>eO (p+s) .ok
def mrkC (cuts dens:List Int) (a v:Rat):Except Int Rat:=if v=0 then .ok a else mrkS cuts dens dens.length 0 a v
def fP (len:Int) (cuts dens:List Int) (an ad vn vd:Int):Except Int Rat:=
 if iF len cuts dens=0 then (if PT len an ad∧RV vn vd∧0≤vn then mrkC cuts dens (rt an ad) (rt vn vd) else .error 2) else .error (iF len cuts dens)
theorem dg (h:VC len cuts dens) (W1:Int→List PV→List PV→(Int→Prop)→Prop) (W2:Int→List PV→List PV→Int→Int→(Bool→Prop)→Prop) (W3:Int→Int→(Int→Prop)→Prop) (K:Int→Int→Int→Prop) :
  ∀ (r i n:Nat) (p v:Rat) (o1 o2:Int),i+r=dens.length→r<n→small p→small v →
   sC W1 W2 W3 rX qJ yaF ya7 tR nI
    (fun l m b d f a=>(aB (a !=(0:Int)) (aB (a !=(0:Int)) (K (0:Int) (0:Int) a) (K b d (0:Int))) (aB (f !=(0:Int)) (K (0:Int) (0:Int) f) (K b d (0:Int)))))
    (fun o q j k g s t u w y z A B C=>(aB (g !=(0:Int)) (K (0:Int) (0:Int) g) (K j k (0:Int))))
    n v.num v.den o1 o2 6 len (aG cuts) (aG dens) p.num p.den (aG dens) dens.length i=exK (mrkS cuts dens r i p v) K
 | 0,i,n+1,p,v,o1,o2,hi,hn,hp,hs=>by unfold sC mrkS;rw [aZ (by omega)];rfl
 | r+1,i,n+1,p,v,o1,o2,hi,hn,hp,hs=>by
  unfold sC;have l1:=h.l1;have l2:=h.l2;have sc:=h.sc (i:=i+1) (by omega);have sd:=h.sd (i:=i) (by omega);have hd0:=h.den (i:=i) (by omega);have e1:=gD (n:=(i:Int)+1) (by omega) (by omega);rw [aW (by omega),dI,dI,e1,lT,cM,cM,aO (by omega),aO (by omega),gM (by omega),aO (by omega),aO (by omega),gM (by omega),iE (by omega),iE (by omega),yK,uJ hp sc];have ih:=fun p v o1 o2 hp hs=>dg h W1 W2 W3 K r (i+1) n p v o1 o2 (by omega) (by omega) hp hs
  unfold mrkS;obtain ⟨c,hc⟩:∃ c:Rat,c=((cuts.getD (i+1) 0:Int):Rat):=⟨_,rfl⟩;rw [← hc] at sc ⊢
  by_cases hpc:p<c
  case neg=>rw [Tx hpc,jS,bB,WM hpc];exact ih p v o1 o2 hp hs
  rw [Os hpc,jJ,aS,WN (fun x=>x hpc),yK]
  by_cases hd:dens.getD i 0=0
  ·rw [aZ (by omega),mF hd,WM hd];exact ih c v o1 o2 sc hs
  rw [aW (by omega),WN hd,CD sc hp,iG]
  by_cases s1:small (c-p)
  case neg=>rw [WN s1,cL (by decide),cL (by decide),cL (by decide),eO,WN s1];rfl
  rw [WM s1,cD rfl,yK,CC s1 sd,iG,eO,WM s1]
  by_cases s2:small ((c-p)*(dens.getD i 0:Int))
  case neg=>rw [WN s2,cL (by decide),cL (by decide),cL (by decide),eO,WN s2];rfl
  rw [WM s2,cD rfl,oZ hd,uJ s2 hs,eO,WM s2]
  by_cases hw:(c-p)*(dens.getD i 0:Int)<v
  ·rw [aW hw,WM hw,CD hs s2,iG,eO]
   by_cases s3:small (v-(c-p)*(dens.getD i 0:Int))
   ·rw [WM s3,WM s3,cD rfl,cD rfl];exact ih c _ o1 o2 sc s3
   ·rw [WN s3,WN s3,cL (by decide),cL (by decide),cD rfl,cL (by decide)];rfl
  ·have hdn:((dens.getD i 0:Int):Rat)≠0:=fun e=>hd (Rat.intCast_eq_zero_iff.1 e)
   rw [aZ hw,WN hw,yK,yL5 hs sd hdn,iG,eO]
   by_cases s3:small (v/(dens.getD i 0:Int))
   ·rw [WM s3,WM s3,mF rfl,VG hp s3,iG,eO]
    by_cases s4:small (p+v/(dens.getD i 0:Int))
    ·rw [WM s4,WM s4,cD rfl,cD rfl];rfl
    ·rw [WN s4,WN s4,cD rfl,cL (by decide)];rfl
   ·rw [WN s3,WN s3,oZ (by decide),cD rfl,cL (by decide)];rfl
theorem yKW (h1:cuts.length<4611686018427387904) (h2:dens.length<4611686018427387904) {an ad vn vd:Int} (ha:bG an) (ha':bG ad) (hv:bG vn) (hv':bG vd) (K:Int→Int→Int→Prop) :
  EV len (aG cuts) (aG dens) an ad vn vd K=exK (fP len cuts dens an ad vn vd) K:=by
 refine ML (fun r0 r1 r2 h K=>yA5 _ _ _ _ _ _ _ r0 r1 r2 h K) (fun K k=>?_) K;unfold EV Ti;rw [IM h1 h2];unfold fP at k
 by_cases h:iF len cuts dens=0
 case neg=>rw [cL h];rw [WN h] at k;exact k
 have hc:=FJ h;have hl:=hc.len0;rw [WM h] at k;rw [cD h,VL (by omega) ha ha']
 by_cases p1:PT len an ad
 case neg=>rw [Tx p1,jS,bB];rw [WN (fun x=>p1 x.1)] at k;exact k
 rw [Os p1,jJ,aS,cm hv hv',jQ]
 by_cases p2:RV vn vd
 case neg=>rw [WN p2,cL (by decide)];rw [WN (fun x=>p2 x.2.1)] at k;exact k
 rw [WM p2,cD rfl]
 by_cases p3:vn<0
 ·rw [aW p3];rw [WN (fun x=>by omega)] at k;exact k
 rw [aZ p3];rw [WM ⟨p1,p2,by omega⟩] at k;obtain ⟨s1,e1,e2,_,_⟩:=p1.pt;obtain ⟨s2,f1,f2⟩:=df p2;unfold mrkC at k
 by_cases p4:vn=0
 ·rw [mF p4];rw [WM (AP.1 (f1.trans p4))] at k;have k:K (rt an ad).num (rt an ad).den 0:=k;rw [e1,e2] at k;exact k
 rw [oZ p4];rw [WN (fun x=>p4 (by rw [← f1,x];rfl))] at k;rw [dI];refine ⟨dens.length+1,?_⟩;have:=dg hc jE rZ qF K dens.length 0 (dens.length+1) (rt an ad) (rt vn vd) 0 0 (by omega) (by omega) s1 s2;rw [e1,e2,f1,f2] at this;exact this.mpr k
def dh (cuts dens:List Int) (i:Nat):Prop:=∀ j,i≤j→j<dens.length→cuts.getD j 0<cuts.getD (j+1) 0∧0≤dens.getD j 0∧dens.getD j 0≤12
theorem VM (l1:dens.length+1=cuts.length) (l2:dens.length<4611686018427387904) (x0:Int→Prop) (x1:Int→List PV→List PV→Bool→Int→Bool→Prop) (P:Prop)
  (hbad:¬dh cuts dens 0→x0 8=P) (hgood:∀ b:Bool,dh cuts dens 0→b=decide (∃ j,j<dens.length∧0<dens.getD j 0)→x1 len (aG cuts) (aG dens) b dens.length false=P) :
  ∀ (r i n:Nat) (b:Bool),i+r=dens.length→r<n→(∀ j,j<i→cuts.getD j 0<cuts.getD (j+1) 0∧0≤dens.getD j 0∧dens.getD j 0≤12)→b=decide (∃ j,j<i∧0<dens.getD j 0) →
   Cg x0 x1 n len (aG cuts) (aG dens) b i=P
 | 0,i,n+1,b,hi,hn,hj,hb=>by unfold Cg;rw [dI,aZ (by omega),show (i:Int)=dens.length by omega];refine hgood b (fun j _ h=>hj j (by omega)) ?_;rw [hb,Aaa];rw [show i=dens.length by omega]
 | r+1,i,n+1,b,hi,hn,hj,hb=>by
  unfold Cg;have e1:=gD (n:=(i:Int)+1) (by omega) (by omega);rw [dI,dI,aW (by omega),e1,lT,cM,cM,aO (by omega),aO (by omega),gM (by omega),aO (by omega),aO (by omega),gM (by omega),iE (by omega),iE (by omega)];have bad:¬(cuts.getD i 0<cuts.getD (i+1) 0∧0≤dens.getD i 0∧dens.getD i 0≤12)→x0 8=P:=fun h=>hbad fun hk=>h (hk i (by omega) (by omega))
  by_cases a1:cuts.getD (i+1) 0≤cuts.getD i 0
  ·rw [aW a1];exact bad (by omega)
  rw [aZ a1,aO (by omega),aO (by omega),gM (by omega),iE (by omega)]
  by_cases a2:dens.getD i 0<0
  ·rw [aW a2];exact bad (by omega)
  rw [aZ a2,aO (by omega),aO (by omega),gM (by omega)]
  by_cases a3:dens.getD i 0>12
  ·rw [aW a3];exact bad (by omega)
  rw [aZ a3];have hj2:∀ j,j<i+1→cuts.getD j 0<cuts.getD (j+1) 0∧0≤dens.getD j 0∧dens.getD j 0≤12:=by
   intro j hlt
   by_cases e:j=i
   ·subst e;omega
   ·exact hj j (by omega)
  have ex:∀ c:Bool,(c=true↔(b=true∨0<dens.getD i 0))→c=decide (∃ j,j<i+1∧0<dens.getD j 0):=by
   intro c hc;rw [Bool.eq_iff_iff,hc,hb,decide_eq_true_iff,decide_eq_true_iff];constructor
   ·rintro (⟨j,h1,h2⟩ | h)
    ·exact ⟨j,by omega,h2⟩
    ·exact ⟨i,by omega,h⟩
   ·rintro ⟨j,h1,h2⟩
    by_cases e:j=i
    ·subst e;exact .inr h2
    ·exact .inl ⟨j,by omega,h2⟩
  cases b with
  | true =>rw [bB];exact VM l1 l2 x0 x1 P hbad hgood r (i+1) n true (by omega) (by omega) hj2 (ex _ (by simp))
  | false =>rw [aS,aO (by omega),aO (by omega),gM (by omega)];exact VM l1 l2 x0 x1 P hbad hgood r (i+1) n _ (by omega) (by omega) hj2 (ex _ (by simp))
theorem FK (h1:cuts.length<4611686018427387904) (h2:dens.length<4611686018427387904) (K:Int→Prop) :
  lB len (aG cuts) (aG dens) K=K (iF len cuts dens):=by
 refine yBe _ _ _ _ (fun K k=>?_) K;unfold lB Ui;simp only [dI];have bad:¬(len>1000∨cuts.length>40)→¬VC len cuts dens→K 8:=fun h h2=>by
  rw [iF,WN h,WN h2] at k;exact k
 by_cases a1:len>1000
 ·rw [aW a1];rw [iF,WM (.inl a1)] at k;exact k
 rw [aZ a1]
 by_cases a2:cuts.length>40
 ·rw [aW (by omega)];rw [iF,WM (.inr a2)] at k;exact k
 have a12:¬(len>1000∨cuts.length>40):=by omega
 rw [aZ (by omega)]
 by_cases a3:len<1
 ·rw [aW a3];exact bad a12 (fun h=>by have:=h.1;omega)
 rw [aZ a3]
 by_cases a4:cuts.length<2
 ·rw [aW (by omega)];exact bad a12 (fun h=>by have:=h.2.2.1;omega)
 rw [aZ (by omega),gD (n:=(cuts.length:Int)-1) (by omega) (by omega)]
 by_cases a5:dens.length+1=cuts.length
 case neg=>rw [cL (by omega)];exact bad a12 (fun h=>a5 h.2.2.2.2.1)
 rw [cD (by omega),aO (by omega),gM (by omega),iE (by omega)]
 by_cases a6:cuts.getD 0 0=0
 case neg=>rw [cL a6];exact bad a12 (fun h=>a6 h.2.2.2.2.2.1)
 rw [cD a6,aO (by omega),aO (by omega),gM (by omega),iE (by omega)];have en:((cuts.length:Int)-1).toNat=cuts.length-1:=by omega
 rw [en]
 by_cases a7:cuts.getD (cuts.length-1) 0=len
 case neg=>rw [cL a7];exact bad a12 (fun h=>a7 h.2.2.2.2.2.2.1)
 rw [cD a7];have mem:∀ d,d∈dens↔∃ j,j<dens.length∧dens.getD j 0=d:=by
  intro d;rw [List.mem_iff_getElem];constructor
  ·rintro ⟨j,hj,e⟩;exact ⟨j,hj,by rw [eQ,dU hj];exact e⟩
  ·rintro ⟨j,hj,e⟩;exact ⟨j,hj,by rw [eQ,dU hj] at e;exact e⟩
 refine ⟨dens.length+1,?_⟩;refine (VM a5 h2 _ _ (K (iF len cuts dens)) (fun hk=>?_) (fun b hk hb=>?_) dens.length 0 (dens.length+1) false (by omega) (by omega) (fun j h=>by omega) (by simp)).mpr k
 ·have hv:¬VC len cuts dens:=fun h=>hk fun j _ hj=>⟨h.step (by omega),h.den hj⟩
  rw [iF,WN a12,WN hv]
 ·have hsome:CG dens↔∃ j,j<dens.length∧0<dens.getD j 0:=by
   constructor
   ·rintro ⟨d,hd,h0⟩;obtain ⟨j,hj,e⟩:=(mem d).1 hd;exact ⟨j,hj,by rw [e];exact h0⟩
   ·rintro ⟨j,hj,h0⟩;exact ⟨_,(mem _).2 ⟨j,hj,rfl⟩,h0⟩
  have hv:VC len cuts dens↔CG dens:=by refine ⟨fun h=>h.2.2.2.2.2.2.2.2.2,fun h=>⟨by omega,by omega,by omega,by omega,a5,a6,a7,fun j _ hj=>(hk j (by omega) (by omega)).1,fun d hd=>?_,h⟩⟩;obtain ⟨j,hj,e⟩:=(mem d).1 hd;rw [← e];exact (hk j (by omega) hj).2
  rw [iF,WN a12]
  by_cases hs:CG dens
  ·rw [WM (hv.2 hs),hb,Os (hsome.1 hs)];rfl
  ·rw [WN (fun x=>hs (hv.1 x)),hb,Tx (fun x=>hs (hsome.2 x))];rfl
theorem di (h:VC len cuts dens) (x0:Int→List PV→List PV→Int→Int→Bool→Prop) :
  ∀ (r i n:Nat) (s:Int),i+r=dens.length→r<n→0≤s→s≤12*cuts.getD i 0 →
   Fi x0 n len (aG cuts) (aG dens) s i=x0 len (aG cuts) (aG dens) (iW cuts dens r i s) dens.length false
 | 0,i,n+1,s,hi,hn,h0,h1=>by
  unfold Fi iW;have:(i:Int)=dens.length:=by omega
  rw [dI,aZ (by omega),this]
 | r+1,i,n+1,s,hi,hn,h0,h1=>by unfold Fi;have l1:=h.l1;have l2:=h.l2;have h2:=h.step (i:=i) (by omega);have h3:=IN (h.den (i:=i) (by omega)) (x:=cuts.getD (i+1) 0-cuts.getD i 0) (by omega);have a1:=h.lo (i:=i) (by omega);have a2:=h.hi (i:=i+1) (by omega);have a3:=h.len0;have e1:=gD (n:=(i:Int)+1) (by omega) (by omega);have e2:=gD (n:=cuts.getD (i+1) 0-cuts.getD i 0) (by omega) (by omega);have e3:=gD (n:=dens.getD i 0*(cuts.getD (i+1) 0-cuts.getD i 0)) (by omega) (by omega);have e4:=gD (n:=s+dens.getD i 0*(cuts.getD (i+1) 0-cuts.getD i 0)) (by omega) (by omega);rw [dI,dI,aW (by omega),e1,lT,cM,cM,aO (by omega),aO (by omega),gM (by omega),aO (by omega),aO (by omega),gM (by omega),aO (by omega),aO (by omega),gM (by omega),iE (by omega),iE (by omega),iE (by omega),e2,e3,e4];exact di h x0 r (i+1) n _ (by omega) (by omega) (by omega) (by omega)
theorem dj (hv:VC len cuts dens) (K:Int→Prop):yaM len (aG cuts) (aG dens) K=K (totC cuts dens):=by refine yBf _ _ _ _ (fun K k=>?_) K;unfold yaM Uk;refine ⟨dens.length+1,?_⟩;have l1:=hv.l1;have a1:=hv.lo (i:=0) (by omega);have:=di hv (fun b c d a e f=>K a) dens.length 0 (dens.length+1) 0 (by omega) (by omega) (by omega) (by omega);rw [show ((0:Nat):Int)=0 from rfl] at this;rw [this];exact k
theorem VN (hl:-1000000000000000000≤len∧len≤1000000000000000000) {n d:Int} (hn:bG n) (hd:bG d) (K:Bool→Prop) :
  tW len n d K=K (decide (PT len n d)):=by
 unfold tW Um;rw [IG hn hd]
 by_cases h:RV n d
 ·obtain ⟨q,e1,e2,e3⟩:=ME h;rw [jQ,WM h,mF rfl]
  by_cases h0:n≥0
  ·rw [aW h0,FI,← e2,← e3,oJ (MK hl) e1];congr 1;have:((len:Rat)<q)↔len*(q.den:Int)<q.num:=cv _ _
   by_cases h3:(len:Rat)<q
   ·have h4:=this.1 h3;rw [Os h3,Tx];rfl;intro hp;have:=hp.2.2;omega
   ·have h4:¬_:=fun x=>h3 (this.2 x)
    rw [Tx h3,Os];rfl;exact ⟨e1.rv,by omega,by omega⟩
  ·rw [aZ h0,Tx];intro hp;have:=hp.2.1;omega
 ·rw [jQ,WN h,oZ (by decide),Tx];intro hp;exact h hp.1
def kT (a b:Rat):Rat:=if a<b then b else a
def iH (a b:Rat):Rat:=if a<b then a else b
theorem VO {q r:Rat} (hq:small q) (hr:small r) (K:Int→Int→Prop):AA q.num q.den r.num r.den K=K (kT q r).num (kT q r).den:=by
 unfold AA Un kT;rw [oJ hq hr]
 by_cases h:q<r
 ·rw [aW h,WM h]
 ·rw [aZ h,WN h]
theorem yHz {q r:Rat} (hq:small q) (hr:small r) (K:Int→Int→Prop):LS q.num q.den r.num r.den K=K (iH q r).num (iH q r).den:=by
 unfold LS Uo iH;rw [oJ hq hr]
 by_cases h:q<r
 ·rw [aW h,WM h]
 ·rw [aZ h,WN h]
theorem yKX {q r:Rat} (hq:small q) (hr:small r):small (kT q r):=by unfold kT;split<;>assumption
theorem yKY {q r:Rat} (hq:small q) (hr:small r):small (iH q r):=by unfold iH;split<;>assumption
def yM (cuts dens:List Int) (i:Nat) (a b:Rat):Except Int Rat:=
 let f:=kT a (cuts.getD i 0:Int);let t:=iH b (cuts.getD (i+1) 0:Int)
 if ¬f<t∨dens.getD i 0=0 then .ok 0 else eO (t-f) fun d=>eO (d*(dens.getD i 0:Int)) .ok
theorem dk (h:VC len cuts dens) {i:Nat} (hi:i<dens.length) {a b:Rat} (ha:small a) (hb:small b) (K:Int→Int→Int→Prop) :
  tY len (aG cuts) (aG dens) i a.num a.den b.num b.den K=exK (yM cuts dens i a b) K:=by
 unfold tY Up yM;have l1:=h.l1;have l2:=h.l2;have sc:=h.sc (i:=i+1) (by omega);have sc0:=h.sc (i:=i) (by omega);have sd:=h.sd (i:=i) (by omega);have e1:=gD (n:=(i:Int)+1) (by omega) (by omega);rw [dI,dI,e1,lT,cM,cM,aO (by omega),aO (by omega),gM (by omega),iE (by omega),FI,VO ha sc0,aO (by omega),aO (by omega),gM (by omega),iE (by omega),FI,yHz hb sc];have s1:=yKX ha sc0;have s2:=yKY hb sc;rw [oJ s1 s2]
 by_cases c1:kT a (cuts.getD i 0:Int)<iH b (cuts.getD (i+1) 0:Int)
 case neg=>
  rw [Tx c1,jS,bB];simp only [c1,not_false_eq_true,true_or,if_true];rfl
 rw [Os c1,jJ,aS,aO (by omega),aO (by omega),gM (by omega),iE (by omega)]
 by_cases c2:dens.getD i 0=0
 ·rw [mF c2];simp only [c2,or_true,if_true];rfl
 rw [oZ c2,VK s2 s1,iG];have cc:¬(¬kT a (cuts.getD i 0:Int)<iH b (cuts.getD (i+1) 0:Int)∨dens.getD i 0=0):=fun x=>x.elim (fun y=>y c1) c2
 simp only [WN cc,eO]
 by_cases s3:small (iH b (cuts.getD (i+1) 0:Int)-kT a (cuts.getD i 0:Int))
 ·rw [WM s3,WM s3,cD rfl,aO (by omega),aO (by omega),gM (by omega),FI,MJ s3 sd,iG];split<;>rfl
 ·rw [WN s3,WN s3,cL (by decide)];rfl
theorem kU {α:Type} {q:Rat} {k:Rat→Except Int α} (h:small q):eO q k=k q:=WM h
theorem uK {α:Type} {q:Rat} {k:Rat→Except Int α} (h:¬small q):eO q k=.error 16:=WN h
theorem CH {q:Rat} {K:Int→Int→Int→Prop}:exK (.ok q) K=K q.num q.den 0:=rfl
theorem CI {c:Int} {K:Int→Int→Int→Prop}:exK (.error c) K=K 0 0 c:=rfl
theorem add_zero (q:Rat):q+0=q:=by grind
theorem dl (h:VC len cuts dens) {a b:Rat} (ha:small a) (hb:small b) (hab:¬b<a) (W1:Int→List PV→List PV→(Int→Prop)→Prop) (W2:Int→Int→Int→(Bool→Prop)→Prop) (W3:Int→Int→Int→Int→(Bool→Prop)→Prop) (K:Int→Int→Int→Prop) :
  ∀ (r i n:Nat) (p sum:Rat),i+r=dens.length→r<n→small sum→p=kT a (iH b (cuts.getD i 0:Int)) →
   Fj W1 W2 W3 tY sF (fun e f g=>(K e f g)) (fun l m o q s t u v w j k z A=>(K j k (0:Int)))
    n len (aG cuts) (aG dens) a.num a.den b.num b.den 0 0 sum.num sum.den i=exK (valS cuts dens b r i p sum) K
 | 0,i,n+1,p,sum,hi,hn,hs,hp=>by unfold Fj valS;rw [dI,aZ (by omega)];rfl
 | r+1,i,n+1,p,sum,hi,hn,hs,hp=>by
  unfold Fj;have l1:=h.l1;have l2:=h.l2;have e1:=gD (n:=(i:Int)+1) (by omega) (by omega);have hst:=h.step (i:=i) (by omega);have hst':((cuts.getD i 0:Int):Rat)<((cuts.getD (i+1) 0:Int):Rat):=CX.2 hst;have sd:=h.sd (i:=i) (by omega);have sc:=h.sc (i:=i+1) (by omega);have sc0:=h.sc (i:=i) (by omega);rw [dI,aW (by omega),dk h (by omega) ha hb,e1,lT];have ih:=fun p sum hs hp=>dl h ha hb hab W1 W2 W3 K r (i+1) n p sum (by omega) (by omega) hs hp
  unfold valS yM;obtain ⟨c0,hc0⟩:∃ c:Rat,c=((cuts.getD i 0:Int):Rat):=⟨_,rfl⟩;obtain ⟨c,hc⟩:∃ c:Rat,c=((cuts.getD (i+1) 0:Int):Rat):=⟨_,rfl⟩;obtain ⟨d,hd⟩:∃ d:Rat,d=((dens.getD i 0:Int):Rat):=⟨_,rfl⟩;rw [← hc0,← hc] at hst';rw [← hc] at sc;rw [← hc0] at sc0 hp;rw [← hd] at sd;rw [← hc] at ih;simp only [← hc0,← hc,← hd];have zk:∀ K2:Int→Int→Int→Prop,fitK (sum+0) K2=K2 sum.num sum.den 0:=fun K2=>by rw [add_zero,iG,WM hs]
  have en:(if b<c then b else c)=iH b c:=rfl;rw [en];have nx:(if p<iH b c then iH b c else p)=kT a (iH b c):=by rw [hp];unfold kT iH;grind
  have add0:=MI hs (r:=0) (by decide);rw [show (0:Rat).num=0 from rfl,show ((0:Rat).den:Int)=1 from rfl] at add0
  by_cases c2:dens.getD i 0=0
  ·rw [WM (.inr c2),WM (.inl c2),nx];rw [CH,cD rfl];rw [show ((0:Rat).num)=0 from rfl,show (((0:Rat).den:Nat):Int)=1 from rfl,add0,zk,cD rfl];exact ih _ sum hs rfl
  by_cases c1:kT a c0<iH b c
  ·-- the interval counts
   have hpm:p=kT a c0:=by
    rw [hp];unfold kT iH at *
    grind
   have hpl:p<iH b c:=by rw [hpm];exact c1
   rw [WN (fun x=>x.elim (fun y=>y c1) c2),WN (fun x=>x.elim c2 (fun y=>y hpl)),← hpm];have nx2:iH b c=kT a (iH b c):=by rw [← nx,WM hpl]
   by_cases s1:small (iH b c-p)
   case neg=>rw [uK s1,uK s1,CI,cL (by decide)];rfl
   rw [kU s1,kU s1]
   by_cases s2:small ((iH b c-p)*d)
   case neg=>rw [uK s2,uK s2,CI,cL (by decide)];rfl
   rw [kU s2,kU s2,CH];rw [cD rfl,MI hs s2,iG]
   by_cases s3:small (sum+(iH b c-p)*d)
   ·rw [WM s3,kU s3,cD rfl];exact ih _ _ s3 nx2
   ·rw [WN s3,uK s3,cL (by decide)];rfl
  ·have hpl:¬p<iH b c:=by
    rw [hp];unfold kT iH at *
    grind
   rw [WM (.inl c1),WM (.inr hpl),nx];rw [CH,cD rfl];rw [show ((0:Rat).num)=0 from rfl,show (((0:Rat).den:Nat):Int)=1 from rfl,add0,zk,cD rfl];exact ih _ sum hs rfl
theorem yJA (h1:cuts.length<4611686018427387904) (h2:dens.length<4611686018427387904) {an ad bn bd:Int} (ha:bG an) (ha':bG ad) (hb:bG bn) (hb':bG bd) (K:Int→Int→Int→Prop) :
  Fk len (aG cuts) (aG dens) an ad bn bd K=exK (jF len cuts dens an ad bn bd) K:=by
 refine ML (fun r0 r1 r2 h K=>yBg _ _ _ _ _ _ _ r0 r1 r2 h K) (fun K k=>?_) K;unfold Fk Uq;rw [FK h1 h2];unfold jF at k
 by_cases h:iF len cuts dens=0
 case neg=>rw [cL h,FK h1 h2];rw [WN h] at k;exact k
 have hv:=FJ h;have hl:=hv.len0;rw [WM h] at k;rw [cD h,VN (by omega) ha ha']
 by_cases p1:PT len an ad
 case neg=>rw [Tx p1,jS,bB];rw [WN (fun x=>p1 x.1)] at k;exact k
 rw [Os p1,jJ,aS,VN (by omega) hb hb']
 by_cases p2:PT len bn bd
 case neg=>rw [Tx p2,jS,bB];rw [WN (fun x=>p2 x.2.1)] at k;exact k
 rw [Os p2,jJ,aS];obtain ⟨s1,e1,e2,z1,_⟩:=p1.pt;obtain ⟨s2,f1,f2,_,_⟩:=p2.pt;have hless:=oJ s2 s1;rw [e1,e2,f1,f2] at hless;rw [hless]
 by_cases p3:rt bn bd<rt an ad
 ·rw [aW p3];rw [WN (fun x=>x.2.2 p3)] at k;exact k
 rw [aZ p3];rw [WM ⟨p1,p2,p3⟩] at k;refine ⟨dens.length+1,?_⟩;have c0:((cuts.getD 0 0:Int):Rat)=0:=by rw [hv.2.2.2.2.2.1];rfl
 have:=dl hv s1 s2 p3 lB tW yaC K dens.length 0 (dens.length+1) (rt an ad) 0 (by omega) (by omega) (by decide) (by rw [c0];unfold kT iH;grind);rw [e1,e2,f1,f2] at this;exact this.mpr k
theorem dm {q:Rat} (h:0<q):q.num>0:=by
 have h1:0≤q.num:=AQ.2 (lY h);have h2:q.num≠0:=fun e=>by
  have:=AP.1 e;rw [this] at h;exact zH h
 omega
theorem dp (h:VC len cuts dens) (an ad:Int) (W1:Int→List PV→List PV→(Int→Prop)→Prop) (W2:Int→Int→Int→(Bool→Prop)→Prop) (W3:Int→Int→(Int→Prop)→Prop) (K:Int→Int→Int→Prop) :
  ∀ (r i n:Nat) (p v:Rat),i+r=dens.length→r<n→small p→small v→0<v→¬p<(cuts.getD i 0:Int) →
   xW W1 W2 W3 fK yaC AA tY Cc sF wD
    (fun a d f=>(K a d f)) (fun l m o g j k q s t u w z A=>(aB (decide (k>(0:Int))) (K (0:Int) (0:Int) (6:Int)) (K g j (0:Int))))
    n len (aG cuts) (aG dens) an ad v.num v.den 0 0 p.num p.den i=exK (mrkS cuts dens r i p v) K
 | 0,i,n+1,p,v,hi,hn,hp,hs,h0,hc0=>by unfold xW mrkS;rw [dI,aZ (by omega),aW (dm h0)];rfl
 | r+1,i,n+1,p,v,hi,hn,hp,hs,h0,hc0=>by
  unfold xW;have l1:=h.l1;have l2:=h.l2;have e1:=gD (n:=(i:Int)+1) (by omega) (by omega);have sd:=h.sd (i:=i) (by omega);have sc:=h.sc (i:=i+1) (by omega);have hw:=fun b hb=>dk h (i:=i) (by omega) hp (b:=b) hb
  rw [dI,dI,aW (by omega),aW (dm h0),e1,lT,cM,cM,aO (by omega),aO (by omega),gM (by omega),iE (by omega),iE (by omega),FI,oJ hp sc];have ih:=fun p v hp hs h0 hc=>dp h an ad W1 W2 W3 K r (i+1) n p v (by omega) (by omega) hp hs h0 hc
  unfold mrkS;obtain ⟨c,hc⟩:∃ c:Rat,c=((cuts.getD (i+1) 0:Int):Rat):=⟨_,rfl⟩;rw [← hc] at sc ih ⊢
  by_cases hpc:p<c
  case neg=>
   rw [Tx hpc,jS,bB,WM hpc,VO hp sc];have:kT p c=p:=WN hpc;rw [this];exact ih p v hp hs h0 hpc
  rw [Os hpc,jJ,aS,WN (fun x=>x hpc),aO (by omega),aO (by omega),gM (by omega)]
  by_cases hd:dens.getD i 0=0
  ·rw [mF hd,WM hd,VO hp sc];have:kT p c=c:=WM hpc;rw [this];exact ih c v sc hs h0 zH
  rw [oZ hd,WN hd,hw c sc];unfold yM;have m1:kT p (cuts.getD i 0:Int)=p:=WN hc0;have m2:iH c (cuts.getD (i+1) 0:Int)=c:=by rw [← hc];unfold iH;split<;>rfl
  simp only [m1,m2];rw [WN (fun x=>x.elim (fun y=>y hpc) hd)]
  by_cases s1:small (c-p)
  case neg=>rw [uK s1,uK s1,CI,cL (by decide)];rfl
  rw [kU s1,kU s1]
  by_cases s2:small ((c-p)*(dens.getD i 0:Int))
  case neg=>rw [uK s2,uK s2,CI,cL (by decide)];rfl
  rw [kU s2,kU s2,CH];rw [cD rfl,oJ s2 hs]
  by_cases hwv:(c-p)*(dens.getD i 0:Int)<v
  ·rw [Os hwv,jJ,aS,WM hwv,VK hs s2,iG]
   by_cases s3:small (v-(c-p)*(dens.getD i 0:Int))
   ·rw [WM s3,kU s3,cD rfl];exact ih c _ sc s3 (by grind) zH
   ·rw [WN s3,uK s3,cL (by decide)];rfl
  ·have hdn:((dens.getD i 0:Int):Rat)≠0:=fun e=>hd (Rat.intCast_eq_zero_iff.1 e)
   rw [Tx hwv,jS,bB,WN hwv,aO (by omega),aO (by omega),gM (by omega),FI,yMb hs sd hdn,iG]
   by_cases s3:small (v/(dens.getD i 0:Int))
   ·rw [WM s3,kU s3,cD rfl,MI hp s3,iG,eO];split<;>rfl
   ·rw [WN s3,uK s3,cL (by decide)];rfl
theorem yKZ (h1:cuts.length<4611686018427387904) (h2:dens.length<4611686018427387904) {an ad vn vd:Int} (ha:bG an) (ha':bG ad) (hv:bG vn) (hv':bG vd) (K:Int→Int→Int→Prop) :
  Fl len (aG cuts) (aG dens) an ad vn vd K=exK (fP len cuts dens an ad vn vd) K:=by
 refine ML (fun r0 r1 r2 h K=>yDE _ _ _ _ _ _ _ r0 r1 r2 h K) (fun K k=>?_) K;unfold Fl Us;rw [FK h1 h2];unfold fP at k
 by_cases h:iF len cuts dens=0
 case neg=>rw [cL h,FK h1 h2];rw [WN h] at k;exact k
 have hc:=FJ h;have hl:=hc.len0;rw [WM h] at k;rw [cD h,VN (by omega) ha ha']
 by_cases p1:PT len an ad
 case neg=>rw [Tx p1,jS,bB];rw [WN (fun x=>p1 x.1)] at k;exact k
 rw [Os p1,jJ,aS,IG hv hv',jQ]
 by_cases p2:RV vn vd
 case neg=>rw [WN p2,cL (by decide)];rw [WN (fun x=>p2 x.2.1)] at k;exact k
 rw [WM p2,cD rfl]
 by_cases p3:vn<0
 ·rw [aW p3];rw [WN (fun x=>by omega)] at k;exact k
 rw [aZ p3];rw [WM ⟨p1,p2,by omega⟩] at k;obtain ⟨s1,e1,e2,z1,_⟩:=p1.pt;obtain ⟨s2,f1,f2⟩:=df p2;unfold mrkC at k;refine ⟨dens.length+1,?_⟩
 by_cases p4:vn=0
 ·rw [WM (AP.1 (f1.trans p4))] at k;have k:K (rt an ad).num (rt an ad).den 0:=k;rw [e1,e2] at k;unfold xW;rw [dI]
  by_cases hz:(0:Int)<dens.length
  ·rw [aW hz,aZ (by omega),aZ (by omega)];exact k
  ·rw [aZ hz,aZ (by omega)];exact k
 rw [WN (fun x=>p4 (by rw [← f1,x];rfl))] at k;have hpos:0<rt vn vd:=by
  have a1:0≤rt vn vd:=AQ.1 (by omega);have a2:rt vn vd≠0:=fun x=>p4 (by rw [← f1,x];rfl)
  grind
 have c0:((cuts.getD 0 0:Int):Rat)=0:=by rw [hc.2.2.2.2.2.1];rfl
 have:=dp hc an ad lB tW xU K dens.length 0 (dens.length+1) (rt an ad) (rt vn vd) (by omega) (by omega) s1 s2 hpos (by rw [c0];grind);rw [e1,e2,f1,f2] at this;exact this.mpr k
end
structure Ck where
 len:Int
 cuts:List Int
 dens:List Int
instance:Inhabited Ck:=⟨⟨0,[],[]⟩⟩
def kA (c:Ck):PV:=.agg [.int .i64 c.len,.data (aG c.cuts),.data (aG c.dens)]
def aN (l:List Ck):List PV:=l.map kA
def Ck.fin (c:Ck):Prop:=c.cuts.length<4611686018427387904∧c.dens.length<4611686018427387904
def Ck.err (c:Ck):Int:=iF c.len c.cuts c.dens
def Ck.ok (c:Ck):Prop:=VC c.len c.cuts c.dens
instance (c:Ck):Decidable c.ok:=by unfold Ck.ok;infer_instance
theorem gB (l:List Ck):(aN l).length=l.length:=yZ ..
theorem kG {l:List Ck} {i:Nat} (h:i<l.length):getD (aN l) i .nils=kA (l.getD i default):=by unfold aN;rw [eQ,eQ,wN,dU h];rfl
theorem uL {α:Type} {l:List α} {i:Nat} (d:α) (h:i<l.length):l.drop i=l.getD i d::l.drop (i+1):=by rw [Jg h,eQ,dU h];rfl
theorem cP {c:Ck} {P:Prop}:aA (aI zK (kA c)) P=P:=rfl
theorem kB (c:Ck):aJ (aQ (kA c) 0)=c.len:=rfl
theorem mG (c:Ck):eK (aQ (kA c) 1)=aG c.cuts:=rfl
theorem mH (c:Ck):eK (aQ (kA c) 2)=aG c.dens:=rfl
def nN:List Ck→Int
 | []=>0
 | c::t=>if c.err=0 then nN t else c.err
def uM (n:Int):List Ck→Bool
 | []=>true
 | c::t=>decide (c.len=n)&&uM n t
def kH (l:List Ck) (m:Nat):Int:=
 if l.length>6 then 4 else if m>2000 then 4 else if l.length=0 then 8 else if nN l=0 then (if uM (l.getD 0 default).len l then 0 else 8) else nN l
section
variable {l:List Ck}
def eF (l:List Ck):Prop:=∀ i,i<l.length→(l.getD i default).fin
theorem dt (hf:eF l) (hl:l.length<4611686018427387904) (x0:Int→Prop) (x1:List PV→List PV→List PV→Int→Int→Bool→Prop) (lg:List PV) :
  ∀ (r i n:Nat),i+r=l.length→r<n→EX jE x0 x1 n (aN l) lg (aN l) l.length i =
   if nN (l.drop i)=0 then x1 (aN l) lg (aN l) l.length l.length false else x0 (nN (l.drop i))
 | 0,i,n+1,hi,hn=>by unfold EX;rw [aZ (by omega),pD (by omega),show (i:Int)=l.length by omega];rfl
 | r+1,i,n+1,hi,hn=>by
  unfold EX;have e1:=gD (n:=(i:Int)+1) (by omega) (by omega);obtain ⟨f1,f2⟩:=hf i (by omega);rw [aW (by omega),gB,cM,kG (by omega),aO (by omega),aO (by omega),cP,kB,mG,mH,IM (by omega) (by omega),uL default (by omega),nN,e1,lT];show aB ((l.getD i default).err !=0) _ _=_
  by_cases h:(l.getD i default).err=0
  ·rw [cD h,WM h];exact dt hf hl x0 x1 lg r (i+1) n (by omega) (by omega)
  ·rw [cL h,WN h,WN h];rfl
theorem du (hl:l.length<4611686018427387904) (x0:Int→Prop) (x1:List PV→List PV→List PV→Int→Int→Bool→Prop) (lg:List PV) (W) :
  ∀ (r i n:Nat),i+r=l.length→r<n→BW W x0 x1 n (aN l) lg (aN l) l.length i =
   if uM (l.getD 0 default).len (l.drop i) then x1 (aN l) lg (aN l) l.length l.length false else x0 8
 | 0,i,n+1,hi,hn=>by unfold BW;rw [aZ (by omega),pD (by omega),show (i:Int)=l.length by omega];rfl
 | r+1,i,n+1,hi,hn=>by
  unfold BW;have e1:=gD (n:=(i:Int)+1) (by omega) (by omega);rw [aW (by omega),gB,cM,kG (by omega),kG (by omega),aO (by omega),aO (by omega),cP,aO (by omega),cP,kB,kB,uL default (by omega),uM,e1,lT]
  by_cases h:(l.getD i default).len=(l.getD 0 default).len
  ·rw [cD h,Os h,pI];exact du hl x0 x1 lg W r (i+1) n (by omega) (by omega)
  ·rw [cL h,Tx h,mJ,WN (by simp)]
theorem IQ (hf:eF l) (hl:l.length<4611686018427387904) (lg:List PV) (K:Int→Prop):ydB (aN l) lg K=K (kH l lg.length):=by
 refine yA7 _ _ _ (fun K k=>?_) K;unfold ydB Tn;unfold kH at k;rw [gB]
 by_cases a1:l.length>6
 ·rw [aW (by omega)];rw [WM a1] at k;exact k
 rw [aZ (by omega)];rw [WN a1] at k
 by_cases a2:lg.length>2000
 ·rw [aW (by omega)];rw [WM a2] at k;exact k
 rw [aZ (by omega)];rw [WN a2] at k
 by_cases a3:l.length=0
 ·rw [mF (by omega)];rw [WM a3] at k;exact k
 rw [oZ (by omega)];rw [WN a3] at k;refine ⟨l.length+1,?_⟩;have h0:=dt hf hl (fun c=>K c) (fun a d o p q r=>(∃ e:Nat,BW jE (fun b=>(K b)) (fun f g i j m n=>(K (0:Int))) e a d a (((length a):Nat):Int) (0:Int))) lg l.length 0 (l.length+1) (by omega) (by omega);rw [show ((0:Nat):Int)=0 from rfl,qX] at h0;rw [h0]
 by_cases a4:nN l=0
 ·rw [WM a4] at k ⊢;refine ⟨l.length+1,?_⟩;have h1:=du hl (fun b=>(K b)) (fun f g i j m n=>(K (0:Int))) lg jE l.length 0 (l.length+1) (by omega) (by omega);rw [show ((0:Nat):Int)=0 from rfl,qX] at h1;rw [gB,h1];split at k<;>rename_i h<;>simp only [h]<;>exact k
 ·rw [WN a4] at k ⊢;exact k
theorem dv (hf:eF l) (hl:l.length<4611686018427387904) (x0:Int→Prop) (x1:List PV→List PV→Int→Bool→Prop) (lg:List PV) :
  ∀ (r i n:Nat),i+r=l.length→r<n→Ft lB x0 x1 n (aN l) lg i =
   if nN (l.drop i)=0 then x1 (aN l) lg l.length false else x0 (nN (l.drop i))
 | 0,i,n+1,hi,hn=>by unfold Ft;rw [gB,aZ (by omega),pD (by omega),show (i:Int)=l.length by omega];rfl
 | r+1,i,n+1,hi,hn=>by
  unfold Ft;have e1:=gD (n:=(i:Int)+1) (by omega) (by omega);obtain ⟨f1,f2⟩:=hf i (by omega);rw [gB,aW (by omega),cM,kG (by omega),aO (by omega),aO (by omega),cP,kB,mG,mH,FK (by omega) (by omega),uL default (by omega),nN,e1,lT];show aB ((l.getD i default).err !=0) _ _=_
  by_cases h:(l.getD i default).err=0
  ·rw [cD h,WM h];exact dv hf hl x0 x1 lg r (i+1) n (by omega) (by omega)
  ·rw [cL h,WN h,WN h,aO (by omega),aO (by omega),cP,FK (by omega) (by omega)];rfl
theorem dw (hl:l.length<4611686018427387904) (x0:Int→Prop) (x1:List PV→List PV→Int→Bool→Prop) (lg:List PV) (W) :
  ∀ (r i n:Nat),i+r=l.length→r<n→Cj W x0 x1 n (aN l) lg i =
   if uM (l.getD 0 default).len (l.drop i) then x1 (aN l) lg l.length false else x0 8
 | 0,i,n+1,hi,hn=>by unfold Cj;rw [gB,aZ (by omega),pD (by omega),show (i:Int)=l.length by omega];rfl
 | r+1,i,n+1,hi,hn=>by
  unfold Cj;have e1:=gD (n:=(i:Int)+1) (by omega) (by omega);rw [gB,aW (by omega),cM,kG (by omega),kG (by omega),aO (by omega),aO (by omega),cP,aO (by omega),cP,kB,kB,uL default (by omega),uM,e1,lT]
  by_cases h:(l.getD i default).len=(l.getD 0 default).len
  ·rw [cD h,Os h,pI];exact dw hl x0 x1 lg W r (i+1) n (by omega) (by omega)
  ·rw [cL h,Tx h,mJ,WN (by simp)]
theorem VS (hf:eF l) (hl:l.length<4611686018427387904) (lg:List PV) (K:Int→Prop):yeV (aN l) lg K=K (kH l lg.length):=by
 refine yBm _ _ _ (fun K k=>?_) K;unfold yeV UF;unfold kH at k;rw [gB]
 by_cases a1:l.length>6
 ·rw [aW (by omega)];rw [WM a1] at k;exact k
 rw [aZ (by omega)];rw [WN a1] at k
 by_cases a2:lg.length>2000
 ·rw [aW (by omega)];rw [WM a2] at k;exact k
 rw [aZ (by omega)];rw [WN a2] at k
 by_cases a3:l.length=0
 ·rw [mF (by omega)];rw [WM a3] at k;exact k
 rw [oZ (by omega)];rw [WN a3] at k;refine ⟨l.length+1,?_⟩;have h0:=dv hf hl (fun b=>K b) (fun c d m n=>(∃ e:Nat,Cj lB (fun a=>(K a)) (fun f g i j=>(K (0:Int))) e c d (0:Int))) lg l.length 0 (l.length+1) (by omega) (by omega);rw [show ((0:Nat):Int)=0 from rfl,qX] at h0;rw [h0]
 by_cases a4:nN l=0
 ·rw [WM a4] at k ⊢;refine ⟨l.length+1,?_⟩;have h1:=dw hl (fun a=>(K a)) (fun f g i j=>(K (0:Int))) lg lB l.length 0 (l.length+1) (by omega) (by omega);rw [show ((0:Nat):Int)=0 from rfl,qX] at h1;rw [h1];split at k<;>rename_i h<;>simp only [h]<;>exact k
 ·rw [WN a4] at k ⊢;exact k
def Ck.low (c:Ck):Prop:=c.cuts.length≤1000∧c.dens.length≤1000
def qQ (l:List Ck):Prop:=∀ i,i<l.length→(l.getD i default).low
theorem VT (l:List Int):hO 1 (aG l)=true:=by cases l<;>rfl
theorem MM {l:List Int} (h:l.length≤1000) (K:List PV→Prop):HH (aG l) K=K (aG l):=by
 show aA (xI 1 8 (aG l)) (K (aG l))=_;have:xI 1 8 (aG l)=true:=by unfold xI;rw [VT,dI,pI,decide_eq_true_iff];unfold room;omega
 rw [this,dX]
theorem jG {c:Bool} {P:Prop} (h:c=true):aA c P=P:=by rw [h,dX]
theorem dx (hf:qQ l) (hl:l.length≤1000) (x0:List PV→List PV→Int→Int→Bool→Prop) (x1:List PV→Int→Int→Bool→Prop) :
  ∀ (r i n:Nat) (acc:List PV),i+r=l.length→r<n→acc.length≤i→Fe HH x0 x1 n acc (aN l) l.length i=x0 (acc++aN (l.drop i)) (aN l) l.length l.length false
 | 0,i,n+1,acc,hi,hn,ha=>by unfold Fe;rw [aZ (by omega),pD (by omega),show (i:Int)=l.length by omega];show _=x0 (acc++[]) _ _ _ _;rw [List.append_nil]
 | r+1,i,n+1,acc,hi,hn,ha=>by unfold Fe;have e1:=gD (n:=(i:Int)+1) (by omega) (by omega);obtain ⟨f1,f2⟩:=hf i (by omega);rw [aW (by omega),gB,cM,kG (by omega),aO (by omega),aO (by omega),cP,kB,mG,mH,MM f1,MM f2,aO rfl,aO (by omega),jG (by rw [Tx (by omega)];rfl),aO rfl,aO (by unfold room;omega),jG (by simp),e1,lT];rw [dx hf hl x0 x1 r (i+1) n _ (by omega) (by omega) (by simp;omega),uL (i:=i) default (by omega),lX];rfl
theorem dy (hf:qQ l) (hl:l.length≤1000) (K:List PV→Prop):BX (aN l) K=K (aN l):=by
 refine yz4 _ _ (fun K k=>?_) K;unfold BX Tu
 cases hc:l with
 | nil =>refine ⟨0+1,?_⟩;rw [hc] at k;rw [LF,gB,aZ (by simp)];exact k
 | cons c t=>
  rw [← hc];have h0:0<l.length:=by rw [hc];exact yY _
  refine ⟨(l.length+1)+1,?_⟩;rw [LF];obtain ⟨f1,f2⟩:=hf 0 (by omega);have e1:=gD (n:=(0:Int)+1) (by omega) (by omega);rw [gB,aW (by omega),show (0:Int).toNat=0 from rfl,kG (by omega),aO (by omega),aO (by omega),cP,kB,mG,mH,MM f1,MM f2,jG (by simp),e1,show (0:Int)+1=((0+1:Nat):Int) from rfl];rw [dx hf hl _ _ (l.length-1) (0+1) (l.length+1) _ (by omega) (by omega) (by simp)];have e:[PV.agg [PV.int i64 (l.getD 0 default).len,PV.data (aG (l.getD 0 default).cuts),PV.data (aG (l.getD 0 default).dens)]]++aN (l.drop (0+1))=aN l:=by
   conv=>rhs;rw [← qX (l:=l),uL default h0]
   rfl
  rw [e,aO rfl,aO (by omega),yV];exact k
theorem FL {α:Type} (x:List α):take x.length x=x:=yV
theorem yD7 (x:List Int):isEmpty (aG x)=isEmpty x:=by cases x<;>rfl
theorem dz {len:Int} {cuts dens:List Int} (h1:cuts.length≤1000) (h2:dens.length≤1000) (K:Int→List PV→List PV→Prop) :
  Cf len (aG cuts) (aG dens) K=K len (aG cuts) (aG dens):=by
 unfold Cf Ug;rw [VT,VT];simp only [dX,dI,yD7]
 cases cuts with
 | nil=>
  cases dens with
  | nil=>rfl
  | cons y t =>simp only [Df,List.isEmpty_cons,bB,aS];rw [aO (by unfold room;omega),aO trivial,aO (by omega),← dI,FL];rfl
 | cons x s=>
  cases dens with
  | nil =>simp only [Df,List.isEmpty_cons,bB,aS];rw [aO (by unfold room;omega),aO trivial,aO (by omega),← dI,FL];rfl
  | cons y t =>simp only [List.isEmpty_cons,aS];rw [aO (by unfold room;omega),aO (by unfold room;omega),aO trivial,aO (by omega),aO trivial,aO (by omega)];rw [← dI,FL,← dI,FL]
theorem ee (hf:qQ l) (hl:l.length≤1000) (x0:List PV→List PV→Int→Bool→Prop) (x1:List PV→Int→Bool→Prop) :
  ∀ (r i n:Nat) (acc:List PV),i+r=l.length→r<n→acc.length≤i→Fs Cf x0 x1 n acc (aN l) i=x0 (acc++aN (l.drop i)) (aN l) l.length false
 | 0,i,n+1,acc,hi,hn,ha=>by unfold Fs;rw [gB,aZ (by omega),pD (by omega),show (i:Int)=l.length by omega];show _=x0 (acc++[]) _ _ _;rw [List.append_nil]
 | r+1,i,n+1,acc,hi,hn,ha=>by unfold Fs;have e1:=gD (n:=(i:Int)+1) (by omega) (by omega);obtain ⟨f1,f2⟩:=hf i (by omega);rw [gB,aW (by omega),cM,kG (by omega),aO (by omega),aO (by omega),cP,kB,mG,mH,dz f1 f2,aO rfl,aO (by omega),jG (by rw [Tx (by omega)];rfl),aO rfl,aO (by unfold room;omega),jG (by simp),e1,lT];rw [ee hf hl x0 x1 r (i+1) n _ (by omega) (by omega) (by simp;omega),uL (i:=i) default (by omega),lX];rfl
end
end Go.Pf.Vc
