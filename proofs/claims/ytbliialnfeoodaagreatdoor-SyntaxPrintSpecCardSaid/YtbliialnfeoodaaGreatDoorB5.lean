/-
  The abstract code of some functions, written by a program · The abstract code of some functions, written by a program · The abstract code of some functions, written by a program · The abstract code of some functions, written by a program · The abstract code of some functions, written by a program · The abstract code of some functions, written by a program · The abstract code of some functions, written by a program · The abstract code of some functions, written by a program · The abstract code of some functions, written by a program · The abstract code of some functions, written by a program · The abstract code of some functions, written by a program.
  Conditions: none beyond those of its parts.
-/
import Derived.Test.YtbliialnfeoodaaGreatDoorProg
import Derived.Test.YtbliialnfeoodaaGreatDoorB4
import Derived.KernelRfl

section
set_option maxRecDepth 20000
set_option linter.all false
namespace Go.AM
open Go.Proofs
def kp19 (r:Nat):List Nat:=match r with
 |0=>[0]
 |1=>[0,4]
 |2=>[4,10,11,12]
 |3=>[4,10,11,12,13]
 |4=>[4,5,6,10,11,12]
 |6=>[4,5,6,10,11,12,22]
 |7=>[2,3]
 |8=>[4,5,6,10,11,12,26]
 |9=>[4,10,11,12]
 |5=>[4,10,11,12]
 |10=>[4,10,11,12]
 |11=>[2,3]
 |_=>[]
def c19:ACode:=
(sq (rg [ov 2 (.mv (.c zr)),oi 3 0] [0]) (sq (.reg 4 [om 7 0,on 8 7,⟨some 9,none,.mks 2 1 16 zr (tm 8)⟩,om 4 9] [0,4]) (sq (sq (rg [om 10 0,
 on 11 10,oi 12 0] [4,10,11,12]) (.block 0 (.loop (sq (rg [ov 13 (.icmp .lss .i64 (tm 12) (tm 11))] [4,10,11,12,13]) (sq (.cond (tm 13) .skip
 (.exit 0)) (sq (.block 1 (sq (.reg 6 [om 14 12,oa 15 4 10 12,ov 16 (.ld 4 true (tm 15)),⟨some 6,none,.alloc 3 [z0,zr,z0,z0]⟩,om 5 14,⟨none,
 none,.st 4 (tm 6) (tm 16)⟩] [4,5,6,10,11,12]) (.block 2 (sq (rg [ov 23 (.ld 4 true (tm 6)),oc 24 50 [(tm 23)],ot 25 24,om 22 25] [4,5,6,
 10,11,12,22]) (.cond (tm 22) (sq (rg [ov 2 (.mv (.c zr)),oi 3 100] [2,3]) .ret) (sq (rg [of 27 0 6,ol 28 27,ov 29 (.icmp .eql .i64 (tm 28)
 (ci 2)),om 26 29] [4,5,6,10,11,12,26]) (.cond (tm 26) (rg [om 30 4,om 31 5,of 32 2 6,ol 33 32,oc 34 51 [(tm 33)],oa 35 1 30 31,⟨none,
 none,.st 1 (tm 35) (tm 34)⟩] [4,10,11,12]) (rg [om 17 4,om 18 5,of 19 1 6,ol 20 19,oa 21 1 17 18,⟨none,none,.st 1 (tm 21) (tm 20)⟩] [4,
 10,11,12])))))))) (rg [ov 36 (.arith .add .i64 (tm 12) (ci 1)),om 12 36] [4,10,11,12]))))))) (sq (rg [om 37 4,oc 38 52 [(tm 37),(.c (.str
 [32]))],om 2 38,oi 3 0] [2,3]) .ret))))
theorem a19:AOf Tryz.prog 19 c19 [.t 2,.t 3]:=mkA (fn:=Tryz.f19) (c:=Tryz.f19.body.getD .skip) (fz:=[]) (im:=[]) kp19 (by kernel_rfl) (by kernel_rfl) (by kernel_rfl) (by kernel_rfl) (by kernel_rfl)
def kp91 (r:Nat):List Nat:=match r with
 |0=>[0]
 |1=>[0,17]
 |2=>[2]
 |3=>[0,19,20]
 |4=>[0,19,20,21]
 |5=>[0,3,19,20]
 |6=>[0,4,19,20]
 |7=>[0,19,20,36]
 |8=>[2]
 |9=>[0,19,20]
 |10=>[2]
 |_=>[]
def c91:ACode:=
(sq (rg [ob 2 false] [0]) (sq (sq (rg [om 5 0,ov 6 (.scmp .eql (tm 5) (.c zr)),om 7 6,gm 8 7 false 0,gv 9 7 false (.lenS (tm 8)),gv 10 7 false
 (.icmp .gtr .i64 (tm 9) (ci 32)),oz 11 7 10,om 12 11,gm 13 12 false 0,gv 14 12 false (.ixS (tm 13) (ci 0)),⟨some 15,some (12,false),.call true
 (.c (.fn (.func 49) [] [])) [(tm 14)]⟩,gv 16 12 false (.icmp .neq .i64 (tm 15) (ci 2)),oz 17 12 16] [0,17]) (.cond (tm 17) (sq (rg [ob 2 false]
 [2]) .ret) .skip)) (sq (sq (rg [om 18 0,ov 19 (.lenS (tm 18)),oi 20 0] [0,19,20]) (.block 0 (.loop (sq (rg [ov 21 (.icmp .lss .i64 (tm 20) (tm
 19))] [0,19,20,21]) (sq (.cond (tm 21) .skip (.exit 0)) (sq (.block 1 (sq (rg [om 22 20,om 3 22] [0,3,19,20]) (sq (rg [om 23 0,om 24 3,ov
 25 (.ixS (tm 23) (tm 24)),oc 26 49 [(tm 25)],om 4 26] [0,4,19,20]) (sq (rg [om 27 4,ov 28 (.icmp .neq .i64 (tm 27) (ci 2)),om 29 28,gm 30 29
 true 4,gv 31 29 true (.icmp .neq .i64 (tm 30) (ci 3)),oy 32 29 31,om 33 32,gm 34 33 true 4,gv 35 33 true (.icmp .neq .i64 (tm 34) (ci 5)),oy 36
 33 35] [0,19,20,36]) (.cond (tm 36) (sq (rg [ob 2 false] [2]) .ret) .skip))))) (rg [ov 37 (.arith .add .i64 (tm 20) (ci 1)),om 20 37] [0,19,
 20]))))))) (sq (rg [ob 2 true] [2]) .ret))))
theorem a91:AOf Tryz.prog 91 c91 [.t 2]:=mkA (fn:=Tryz.f91) (c:=Tryz.f91.body.getD .skip) (fz:=[]) (im:=[]) kp91 (by kernel_rfl) (by kernel_rfl) (by kernel_rfl) (by kernel_rfl) (by kernel_rfl)
def kp58 (r:Nat):List Nat:=match r with
 |0=>[0]
 |1=>[2]
 |_=>[]
def c58:ACode:=
(sq (rg [ob 2 false] [0]) (sq (rg [om 3 0,ov 4 (.icmp .eql .u8 (tm 3) (.c (.int .u8 32))),om 5 4,gm 6 5 false 0,gv 7 5 false (.icmp .eql .u8 (tm
 6) (.c (.int .u8 9))),oz 8 5 7,om 9 8,gm 10 9 false 0,gv 11 9 false (.icmp .eql .u8 (tm 10) (.c (.int .u8 10))),oz 12 9 11,om 13 12,gm 14 13
 false 0,gv 15 13 false (.icmp .eql .u8 (tm 14) (.c (.int .u8 13))),oz 16 13 15,om 2 16] [2]) .ret))
theorem a58:AOf Tryz.prog 58 c58 [.t 2]:=mkA (fn:=Tryz.f58) (c:=Tryz.f58.body.getD .skip) (fz:=[]) (im:=[]) kp58 (by kernel_rfl) (by kernel_rfl) (by kernel_rfl) (by kernel_rfl) (by kernel_rfl)
def kp53 (r:Nat):List Nat:=match r with
 |0=>[0]
 |1=>[0,17]
 |2=>[2]
 |3=>[0,3]
 |4=>[0,3,21]
 |6=>[0,3,28]
 |7=>[2]
 |5=>[0,3]
 |8=>[2]
 |_=>[]
def c53:ACode:=
(sq (rg [ob 2 false] [0]) (sq (sq (rg [om 4 0,ov 5 (.lenS (tm 4)),ov 6 (.icmp .lss .i64 (tm 5) (ci 1)),om 7 6,gm 8 7 false 0,gv 9 7 false (.lenS
 (tm 8)),gv 10 7 false (.icmp .gtr .i64 (tm 9) (ci 32)),oz 11 7 10,om 12 11,gm 13 12 false 0,gv 14 12 false (.ixS (tm 13) (ci 0)),⟨some 15,some
 (12,false),.call true (.c (.fn (.func 59) [] [])) [(tm 14)]⟩,gv 16 12 false (.not (tm 15)),oz 17 12 16] [0,17]) (.cond (tm 17) (sq (rg [ob 2
 false] [2]) .ret) .skip)) (sq (sq (rg [oi 3 0] [0,3]) (.block 0 (.loop (sq (sq (rg [om 18 3,om 19 0,ov 20 (.lenS (tm 19)),ov 21 (.icmp .lss .i64
 (tm 18) (tm 20))] [0,3,21]) (.cond (tm 21) .skip (.exit 0))) (sq (.block 1 (sq (rg [om 24 0,om 25 3,ov 26 (.ixS (tm 24) (tm 25)),oc 27 60 [(tm
 26)],ot 28 27] [0,3,28]) (.cond (tm 28) (sq (rg [ob 2 false] [2]) .ret) .skip))) (rg [om 22 3,ov 23 (.arith .add .i64 (tm 22) (ci 1)),om 3 23]
 [0,3])))))) (sq (rg [ob 2 true] [2]) .ret))))
theorem a53:AOf Tryz.prog 53 c53 [.t 2]:=mkA (fn:=Tryz.f53) (c:=Tryz.f53.body.getD .skip) (fz:=[]) (im:=[]) kp53 (by kernel_rfl) (by kernel_rfl) (by kernel_rfl) (by kernel_rfl) (by kernel_rfl)
def kp49 (r:Nat):List Nat:=match r with
 |0=>[0]
 |1=>[0,3]
 |2=>[2]
 |3=>[0,18]
 |4=>[2]
 |5=>[0,25]
 |6=>[2]
 |7=>[0,28]
 |8=>[2]
 |9=>[43]
 |10=>[2]
 |11=>[2]
 |_=>[]
def c49:ACode:=
(sq (rg [oi 2 0] [0]) (sq (.block 0 (sq (rg [om 4 0,ov 5 (.icmp .geq .u8 (tm 4) (.c (.int .u8 97))),om 6 5,gm 7 6 true 0,gv 8 6 true (.icmp .leq
 .u8 (tm 7) (.c (.int .u8 122))),oy 9 6 8,om 10 9,gm 11 10 false 0,gv 12 10 false (.icmp .geq .u8 (tm 11) (.c (.int .u8 65))),gm 13 10 false 12,
 gm 14 13 true 0,gv 15 13 true (.icmp .leq .u8 (tm 14) (.c (.int .u8 90))),⟨some 16,some (10,false),.pick (tm 13) (tm 15) cF⟩,oz 17 10 16,om 3
 17] [0,3]) (.cond (tm 3) (sq (rg [oi 2 2] [2]) .ret) (sq (rg [om 19 0,ov 20 (.icmp .geq .u8 (tm 19) (.c (.int .u8 48))),om 21 20,gm 22 21 true
 0,gv 23 21 true (.icmp .leq .u8 (tm 22) (.c (.int .u8 57))),oy 24 21 23,om 18 24] [0,18]) (.cond (tm 18) (sq (rg [oi 2 3] [2]) .ret) (sq (rg [om
 26 0,ov 27 (.icmp .eql .u8 (tm 26) (.c (.int .u8 95))),om 25 27] [0,25]) (.cond (tm 25) (sq (rg [oi 2 5] [2]) .ret) (sq (rg [om 29 0,ov 30
 (.icmp .eql .u8 (tm 29) (.c (.int .u8 32))),om 31 30,gm 32 31 false 0,gv 33 31 false (.icmp .eql .u8 (tm 32) (.c (.int .u8 9))),oz 34 31 33,om 35
 34,gm 36 35 false 0,gv 37 35 false (.icmp .eql .u8 (tm 36) (.c (.int .u8 10))),oz 38 35 37,om 39 38,gm 40 39 false 0,gv 41 39 false (.icmp .eql
 .u8 (tm 40) (.c (.int .u8 13))),oz 42 39 41,om 28 42] [0,28]) (.cond (tm 28) (sq (rg [oi 2 1] [2]) .ret) (sq (rg [om 44 0,oc 45 90 [(.c (.str
 [123,125,40,41,59,44,61,58,46,60,62,33,43,45,42,47])),(tm 44)],ov 46 (.icmp .geq .i64 (tm 45) (ci 0)),om 43 46] [43]) (.cond (tm 43)
 (sq (rg [oi 2 4] [2]) .ret) .skip))))))))))) (sq (rg [oi 2 0] [2]) .ret)))
theorem a49:AOf Tryz.prog 49 c49 [.t 2]:=mkA (fn:=Tryz.f49) (c:=Tryz.f49.body.getD .skip) (fz:=[]) (im:=[]) kp49 (by kernel_rfl) (by kernel_rfl) (by kernel_rfl) (by kernel_rfl) (by kernel_rfl)
def kp59 (r:Nat):List Nat:=match r with
 |0=>[0]
 |1=>[2]
 |_=>[]
def c59:ACode:=
(sq (rg [ob 2 false] [0]) (sq (rg [om 3 0,ov 4 (.icmp .geq .u8 (tm 3) (.c (.int .u8 97))),om 5 4,gm 6 5 true 0,gv 7 5 true (.icmp .leq .u8 (tm 6)
 (.c (.int .u8 122))),oy 8 5 7,om 9 8,gm 10 9 false 0,gv 11 9 false (.icmp .geq .u8 (tm 10) (.c (.int .u8 65))),gm 12 9 false 11,gm 13 12 true 0,
 gv 14 12 true (.icmp .leq .u8 (tm 13) (.c (.int .u8 90))),⟨some 15,some (9,false),.pick (tm 12) (tm 14) cF⟩,oz 16 9 15,om 2 16] [2]) .ret))
theorem a59:AOf Tryz.prog 59 c59 [.t 2]:=mkA (fn:=Tryz.f59) (c:=Tryz.f59.body.getD .skip) (fz:=[]) (im:=[]) kp59 (by kernel_rfl) (by kernel_rfl) (by kernel_rfl) (by kernel_rfl) (by kernel_rfl)
def kp60 (r:Nat):List Nat:=match r with
 |0=>[0]
 |1=>[2]
 |_=>[]
def c60:ACode:=
(sq (rg [ob 2 false] [0]) (sq (rg [om 3 0,oc 4 59 [(tm 3)],om 5 4,gm 6 5 false 0,⟨some 7,some (5,false),.call true (.c (.fn (.func 61) [] []))
 [(tm 6)]⟩,oz 8 5 7,om 9 8,gm 10 9 false 0,gv 11 9 false (.icmp .eql .u8 (tm 10) (.c (.int .u8 95))),oz 12 9 11,om 2 12] [2]) .ret))
theorem a60:AOf Tryz.prog 60 c60 [.t 2]:=mkA (fn:=Tryz.f60) (c:=Tryz.f60.body.getD .skip) (fz:=[]) (im:=[]) kp60 (by kernel_rfl) (by kernel_rfl) (by kernel_rfl) (by kernel_rfl) (by kernel_rfl)
def kp61 (r:Nat):List Nat:=match r with
 |0=>[0]
 |1=>[2]
 |_=>[]
def c61:ACode:=
(sq (rg [ob 2 false] [0]) (sq (rg [om 3 0,ov 4 (.icmp .geq .u8 (tm 3) (.c (.int .u8 48))),om 5 4,gm 6 5 true 0,gv 7 5 true (.icmp .leq .u8 (tm 6)
 (.c (.int .u8 57))),oy 8 5 7,om 2 8] [2]) .ret))
theorem a61:AOf Tryz.prog 61 c61 [.t 2]:=mkA (fn:=Tryz.f61) (c:=Tryz.f61.body.getD .skip) (fz:=[]) (im:=[]) kp61 (by kernel_rfl) (by kernel_rfl) (by kernel_rfl) (by kernel_rfl) (by kernel_rfl)
def kp54 (r:Nat):List Nat:=match r with
 |0=>[0]
 |1=>[0,3]
 |2=>[0,3,4]
 |3=>[0,3,4,8]
 |5=>[0,3,4,15]
 |6=>[2]
 |4=>[0,3,4]
 |7=>[2]
 |_=>[]
def c54:ACode:=
(sq (rg [ob 2 false] [0]) (sq (rg [ov 3 (.mv (.c (.str [123,125,40,41,59,44,61,58,46,60,62,33,43,45,42,47])))] [0,3]) (sq (sq (rg [
 oi 4 0] [0,3,4]) (.block 0 (.loop (sq (sq (rg [om 5 4,om 6 3,ov 7 (.lenS (tm 6)),ov 8 (.icmp .lss .i64 (tm 5) (tm 7))] [0,3,4,8]) (.cond (tm
 8) .skip (.exit 0))) (sq (.block 1 (sq (rg [om 11 3,om 12 4,ov 13 (.ixS (tm 11) (tm 12)),om 14 0,ov 15 (.icmp .eql .u8 (tm 13) (tm 14))] [0,3,
 4,15]) (.cond (tm 15) (sq (rg [ob 2 true] [2]) .ret) .skip))) (rg [om 9 4,ov 10 (.arith .add .i64 (tm 9) (ci 1)),om 4 10] [0,3,4])))))) (sq (rg
 [ob 2 false] [2]) .ret))))
theorem a54:AOf Tryz.prog 54 c54 [.t 2]:=mkA (fn:=Tryz.f54) (c:=Tryz.f54.body.getD .skip) (fz:=[]) (im:=[]) kp54 (by kernel_rfl) (by kernel_rfl) (by kernel_rfl) (by kernel_rfl) (by kernel_rfl)
def kp50 (r:Nat):List Nat:=match r with
 |0=>[1]
 |1=>[1,4]
 |2=>[1,4,5]
 |3=>[2]
 |4=>[1,4,15]
 |5=>[2]
 |6=>[1,30]
 |7=>[2]
 |8=>[2]
 |_=>[]
def c50:ACode:=
(sq (.reg 2 [⟨some 1,none,.box 0 4 (tm 0)⟩,ob 2 false] [1]) (sq (sq (rg [of 3 0 1,ol 4 3] [1,4]) (.block 0 (sq (rg [ov 6 (.icmp .eql .i64 (tm
 4) (ci 1)),om 5 6] [1,4,5]) (.cond (tm 5) (sq (rg [of 7 1 1,ol 8 7,oc 9 91 [(tm 8)],om 10 9,gf 11 10 true 2 1,gl 12 10 true 11,gv 13 10 true
 (.icmp .eql .i64 (tm 12) (ci 0)),oy 14 10 13,om 2 14] [2]) .ret) (sq (rg [ov 16 (.icmp .eql .i64 (tm 4) (ci 2)),om 15 16] [1,4,15]) (.cond (tm
 15) (sq (rg [of 17 1 1,ol 18 17,ov 19 (.scmp .eql (tm 18) (.c zr)),om 20 19,gf 21 20 true 2 1,gl 22 20 true 21,gv 23 20 true (.icmp .geq .i64
 (tm 22) (ci 0)),oy 24 20 23,om 25 24,gf 26 25 true 2 1,gl 27 25 true 26,gv 28 25 true (.icmp .leq .i64 (tm 27) (ci 1099511627776)),oy 29 25 28,
 om 2 29] [2]) .ret) (sq (rg [ov 31 (.icmp .eql .i64 (tm 4) (ci 3)),om 30 31] [1,30]) (.cond (tm 30) (sq (rg [of 32 1 1,ol 33 32,ov 34 (.lenS (tm
 33)),ov 35 (.icmp .eql .i64 (tm 34) (ci 1)),om 36 35,gf 37 36 true 1 1,gl 38 36 true 37,gv 39 36 true (.ixS (tm 38) (ci 0)),⟨some 40,some (36,
 true),.call true (.c (.fn (.func 49) [] [])) [(tm 39)]⟩,gv 41 36 true (.icmp .eql .i64 (tm 40) (ci 4)),oy 42 36 41,om 43 42,gf 44 43 true 2 1,gl
 45 43 true 44,gv 46 43 true (.icmp .eql .i64 (tm 45) (ci 0)),oy 47 43 46,om 2 47] [2]) .ret) .skip)))))))) (sq (rg [ob 2 false] [2]) .ret)))
theorem a50:AOf Tryz.prog 50 c50 [.t 2]:=mkA (fn:=Tryz.f50) (c:=Tryz.f50.body.getD .skip) (fz:=[]) (im:=[]) kp50 (by kernel_rfl) (by kernel_rfl) (by kernel_rfl) (by kernel_rfl) (by kernel_rfl)
theorem l51:AU Tryz.prog 51:=⟨Tryz.f51,by kernel_rfl,by kernel_rfl,by kernel_rfl⟩
theorem l52:AU Tryz.prog 52:=⟨Tryz.f52,by kernel_rfl,by kernel_rfl,by kernel_rfl⟩
def kp44 (r:Nat):List Nat:=match r with
 |0=>[]
 |_=>[]
def c44:ACode:=
(rg [om 2 0,ov 3 (.nilc (tm 2)),of 4 1 3,ol 5 4,ov 6 (.ifc 87 (tm 5)),⟨none,none,.pan (tm 6)⟩] [])
theorem a44:AOf Tryz.prog 44 c44 []:=mkA (fn:=Tryz.f44) (c:=Tryz.f44.body.getD .skip) (fz:=[]) (im:=[]) kp44 (by kernel_rfl) (by kernel_rfl) (by kernel_rfl) (by kernel_rfl) (by kernel_rfl)
def kp45 (r:Nat):List Nat:=match r with
 |0=>[]
 |_=>[]
def c45:ACode:=
(rg [om 2 0,ov 3 (.nilc (tm 2)),of 4 1 3,ol 5 4,om 6 0,ov 7 (.bs 1 1 z0 [(0,(ci 1))]),oc 8 87 [(tm 6),(tm 7)],ov 9 (.lenS (tm 8)),ov 10
 (.arith .add .i64 (tm 5) (tm 9)),ov 11 (.nilc (tm 2)),of 12 1 11,⟨none,none,.st 1 (tm 12) (tm 10)⟩] [])
theorem a45:AOf Tryz.prog 45 c45 []:=mkA (fn:=Tryz.f45) (c:=Tryz.f45.body.getD .skip) (fz:=[]) (im:=[]) kp45 (by kernel_rfl) (by kernel_rfl) (by kernel_rfl) (by kernel_rfl) (by kernel_rfl)
def kp46 (r:Nat):List Nat:=match r with
 |0=>[0,2]
 |1=>[]
 |_=>[]
def c46:ACode:=
(sq (rg [om 3 0,ov 4 (.bs 1 3 z0 [(0,(ci 2)),(1,(ci 3)),(2,(ci 5))]),oc 5 87 [(tm 3),(tm 4)],om 2 5] [0,2]) (rg [om 6 0,om 7 2,om 8 2,ov
 9 (.build [z0,zr,z0,z0] [(0,1,(ci 1)),(1,1,(tm 8))]),oe 10 88 [(tm 6),(tm 7),(tm 9)]] []))
theorem a46:AOf Tryz.prog 46 c46 []:=mkA (fn:=Tryz.f46) (c:=Tryz.f46.body.getD .skip) (fz:=[]) (im:=[(1,4)]) kp46 (by kernel_rfl) (by kernel_rfl) (by kernel_rfl) (by kernel_rfl) (by kernel_rfl)
def kp47 (r:Nat):List Nat:=match r with
 |0=>[0,2]
 |1=>[0,2,3,4]
 |2=>[0,2,3,20]
 |3=>[0,2,3]
 |4=>[]
 |_=>[]
def c47:ACode:=
(sq (rg [om 5 0,ov 6 (.bs 1 1 z0 [(0,(ci 3))]),oc 7 87 [(tm 5),(tm 6)],om 2 7] [0,2]) (sq (rg [om 9 2,oc 10 89 [(tm 9)],om 8 10,ox 11 0 8,
 ox 12 1 8,om 3 11,om 4 12] [0,2,3,4]) (sq (sq (rg [om 13 4,⟨some 14,none,.ext (.nileq 0 true) [(tm 13)]⟩,om 15 14,gm 16 15 false 3,⟨some
 17,some (15,false),.call true (.c (.fn (.func 51) [] [])) [(tm 16)]⟩,gm 18 15 false 2,gv 19 15 false (.scmp .neq (tm 17) (tm 18)),oz 20 15 19]
 [0,2,3,20]) (.cond (tm 20) (rg [om 21 0,ov 22 (.nilc (tm 21)),of 23 1 22,ol 24 23,ov 25 (.ifc 87 (tm 24)),⟨none,none,.pan (tm 25)⟩] [0,2,
 3]) .skip)) (rg [om 26 0,om 27 2,om 28 3,ov 29 (.build [z0,zr,z0,z0] [(0,1,(ci 2)),(2,1,(tm 28))]),oe 30 88 [(tm 26),(tm 27),(tm 29)]]
 []))))
theorem a47:AOf Tryz.prog 47 c47 []:=mkA (fn:=Tryz.f47) (c:=Tryz.f47.body.getD .skip) (fz:=[]) (im:=[(4,4)]) kp47 (by kernel_rfl) (by kernel_rfl) (by kernel_rfl) (by kernel_rfl) (by kernel_rfl)
def kp48 (r:Nat):List Nat:=match r with
 |0=>[0,13]
 |1=>[0,2]
 |2=>[0,2,25]
 |3=>[]
 |4=>[]
 |5=>[0,3]
 |6=>[]
 |_=>[]
def c48:ACode:=
(sq (sq (rg [om 4 0,ov 5 (.nilc (tm 4)),of 6 0 5,ol 7 6,om 8 0,ov 9 (.nilc (tm 8)),of 10 1 9,ol 11 10,ov 12 (.slS (tm 7) (some (tm 11)) none),
 oc 13 22 [(tm 12),(.c (.str [47,47]))]] [0,13]) (.cond (tm 13) (sq (sq (rg [om 14 0,ov 15 (.nilc (tm 14)),of 16 0 15,ol 17 16,om 18 0,ov 19
 (.nilc (tm 18)),of 20 1 19,ol 21 20,ov 22 (.slS (tm 17) (some (tm 21)) none),oc 23 90 [(tm 22),(.c (.int .u8 10))],om 2 23] [0,2]) (sq (rg [om
 24 2,ov 25 (.icmp .geq .i64 (tm 24) (ci 0))] [0,2,25]) (.cond (tm 25) (rg [om 26 0,ov 27 (.nilc (tm 26)),of 28 1 27,ol 29 28,om 30 2,ov 31
 (.arith .add .i64 (tm 29) (tm 30)),ov 32 (.nilc (tm 26)),of 33 1 32,⟨none,none,.st 1 (tm 33) (tm 31)⟩] []) (rg [om 34 0,om 35 0,ov 36 (.nilc
 (tm 35)),of 37 0 36,ol 38 37,ov 39 (.lenS (tm 38)),ov 40 (.nilc (tm 34)),of 41 1 40,⟨none,none,.st 1 (tm 41) (tm 39)⟩] [])))) .ret) .skip))
 (sq (rg [om 42 0,ov 43 (.nilc (tm 42)),of 44 0 43,ol 45 44,om 46 0,ov 47 (.nilc (tm 46)),of 48 1 47,ol 49 48,om 50 0,ov 51 (.nilc (tm 50)),
 of 52 1 51,ol 53 52,ov 54 (.arith .add .i64 (tm 53) (ci 1)),ov 55 (.slS (tm 45) (some (tm 49)) (some (tm 54))),om 3 55] [0,3]) (rg [om 56 0,om
 57 3,om 58 3,ov 59 (.build [z0,zr,z0,z0] [(0,1,(ci 3)),(1,1,(tm 58))]),oe 60 88 [(tm 56),(tm 57),(tm 59)]] [])))
theorem a48:AOf Tryz.prog 48 c48 []:=mkA (fn:=Tryz.f48) (c:=Tryz.f48.body.getD .skip) (fz:=[]) (im:=[(6,4)]) kp48 (by kernel_rfl) (by kernel_rfl) (by kernel_rfl) (by kernel_rfl) (by kernel_rfl)
def kp87 (r:Nat):List Nat:=match r with
 |0=>[0,1]
 |1=>[0,1,5]
 |2=>[0,1,5,27]
 |3=>[0,1,5]
 |4=>[4]
 |_=>[]
def c87:ACode:=
(sq (rg [ov 4 (.mv (.c zr))] [0,1]) (sq (rg [om 6 0,ov 7 (.nilc (tm 6)),of 8 1 7,ol 9 8,om 5 9] [0,1,5]) (sq (.block 0 (.loop (sq (sq (rg [om
 10 5,om 11 0,ov 12 (.nilc (tm 11)),of 13 0 12,ol 14 13,ov 15 (.lenS (tm 14)),ov 16 (.icmp .lss .i64 (tm 10) (tm 15)),om 17 16,gm 18 17 true 1,
 gm 19 17 true 0,gv 20 17 true (.nilc (tm 19)),gf 21 17 true 0 20,gl 22 17 true 21,gm 23 17 true 5,gv 24 17 true (.ixS (tm 22) (tm 23)),⟨some 25,
 some (17,true),.call true (.c (.fn (.func 49) [] [])) [(tm 24)]⟩,⟨some 26,some (17,true),.call true (.c (.fn (.func 118) [] [])) [(tm 18),(tm
 25)]⟩,oy 27 17 26] [0,1,5,27]) (.cond (tm 27) .skip (.exit 0))) (.block 1 (rg [om 28 5,ov 29 (.arith .add .i64 (tm 28) (ci 1)),om 5 29] [0,1,
 5]))))) (sq (rg [om 30 0,ov 31 (.nilc (tm 30)),of 32 0 31,ol 33 32,om 34 0,ov 35 (.nilc (tm 34)),of 36 1 35,ol 37 36,om 38 5,ov 39 (.slS (tm
 33) (some (tm 37)) (some (tm 38))),om 4 39] [4]) .ret))))
theorem l87:AU Tryz.prog 87:=⟨Tryz.f87,by kernel_rfl,by kernel_rfl,by kernel_rfl⟩
theorem a87:AOf Tryz.prog 87 c87 [.t 4]:=mkA (fn:=Tryz.f87) (c:=Tryz.f87.body.getD .skip) (fz:=[]) (im:=[]) kp87 (by kernel_rfl) (by kernel_rfl) (by kernel_rfl) (by kernel_rfl) (by kernel_rfl)
def kp88 (r:Nat):List Nat:=match r with
 |0=>[0,1,5]
 |1=>[0,1,5,8]
 |2=>[0,1,5]
 |3=>[0,1,5]
 |4=>[0,1]
 |5=>[]
 |_=>[]
def c88:ACode:=
(sq (.reg 1 [⟨some 5,none,.box 0 4 (tm 2)⟩] [0,1,5]) (sq (sq (rg [ov 6 (.ld 4 true (tm 5)),oc 7 50 [(tm 6)],ot 8 7] [0,1,5,8]) (.cond (tm 8)
 (rg [om 9 0,ov 10 (.nilc (tm 9)),of 11 1 10,ol 12 11,ov 13 (.ifc 87 (tm 12)),⟨none,none,.pan (tm 13)⟩] [0,1,5]) .skip)) (sq (rg [om 14 0,
 ov 15 (.nilc (tm 14)),of 16 1 15,ol 17 16,of 18 3 5,⟨none,none,.st 1 (tm 18) (tm 17)⟩] [0,1,5]) (sq (.reg 11 [om 19 0,om 20 0,ov 21 (.nilc
 (tm 20)),of 22 2 21,ol 23 22,ov 24 (.ld 4 true (tm 5)),ov 25 (.bs 4 1 (.agg [z0,zr,z0,z0]) [(0,(tm 24))]),⟨some 26,none,.app 7 4 40 (tm 23)
 (tm 25) false⟩,ov 27 (.nilc (tm 19)),of 28 2 27,⟨none,none,.st 1 (tm 28) (tm 26)⟩] [0,1]) (rg [om 29 0,ov 30 (.nilc (tm 29)),of 31 1 30,ol
 32 31,om 33 1,ov 34 (.lenS (tm 33)),ov 35 (.arith .add .i64 (tm 32) (tm 34)),ov 36 (.nilc (tm 29)),of 37 1 36,⟨none,none,.st 1 (tm 37) (tm
 35)⟩] [])))))
theorem a88:AOf Tryz.prog 88 c88 []:=mkA (fn:=Tryz.f88) (c:=Tryz.f88.body.getD .skip) (fz:=[]) (im:=[]) kp88 (by kernel_rfl) (by kernel_rfl) (by kernel_rfl) (by kernel_rfl) (by kernel_rfl)
theorem l89:AU Tryz.prog 89:=⟨Tryz.f89,by kernel_rfl,by kernel_rfl,by kernel_rfl⟩
theorem l22:AU Tryz.prog 22:=⟨Tryz.f22,by kernel_rfl,by kernel_rfl,by kernel_rfl⟩
theorem l90:AU Tryz.prog 90:=⟨Tryz.f90,by kernel_rfl,by kernel_rfl,by kernel_rfl⟩
def kp86 (r:Nat):List Nat:=match r with
 |0=>[0]
 |1=>[0,3]
 |2=>[0,3,11]
 |3=>[0,3]
 |4=>[0,3]
 |5=>[2]
 |_=>[]
def c86:ACode:=
(sq (rg [ov 2 (.mv (.c zr))] [0]) (sq (rg [om 4 0,ov 5 (.arith .rem .i64 (tm 4) (ci 10)),ov 6 (.arith .add .i64 (ci 48) (tm 5)),ov 7 (.conv .u8
 (tm 6)),ov 8 (.bs 1 1 (.int .u8 0) [(0,(tm 7))]),ov 9 (.b2s (tm 8)),om 3 9] [0,3]) (sq (.block 0 (.loop (sq (sq (rg [om 10 0,ov 11 (.icmp .geq
 .i64 (tm 10) (ci 10))] [0,3,11]) (.cond (tm 11) .skip (.exit 0))) (.block 1 (sq (rg [om 12 0,ov 13 (.arith .quo .i64 (tm 12) (ci 10)),om 0 13]
 [0,3]) (rg [om 14 0,ov 15 (.arith .rem .i64 (tm 14) (ci 10)),ov 16 (.arith .add .i64 (ci 48) (tm 15)),ov 17 (.conv .u8 (tm 16)),ov 18 (.bs 1 1
 (.int .u8 0) [(0,(tm 17))]),ov 19 (.b2s (tm 18)),om 20 3,ov 21 (.sadd (tm 19) (tm 20)),om 3 21] [0,3])))))) (sq (rg [om 22 3,om 2 22] [2])
 .ret))))
theorem a86:AOf Tryz.prog 86 c86 [.t 2]:=mkA (fn:=Tryz.f86) (c:=Tryz.f86.body.getD .skip) (fz:=[]) (im:=[]) kp86 (by kernel_rfl) (by kernel_rfl) (by kernel_rfl) (by kernel_rfl) (by kernel_rfl)
def kp118 (r:Nat):List Nat:=match r with
 |0=>[0,1]
 |1=>[4]
 |_=>[]
def c118:ACode:=
(sq (rg [ob 4 false] [0,1]) (sq (rg [om 5 0,om 6 1,oc 7 133 [(tm 5),(tm 6)],ov 8 (.icmp .geq .i64 (tm 7) (ci 0)),om 4 8] [4]) .ret))
theorem a118:AOf Tryz.prog 118 c118 [.t 4]:=mkA (fn:=Tryz.f118) (c:=Tryz.f118.body.getD .skip) (fz:=[]) (im:=[]) kp118 (by kernel_rfl) (by kernel_rfl) (by kernel_rfl) (by kernel_rfl) (by kernel_rfl)
def kp133 (r:Nat):List Nat:=match r with
 |0=>[0,1]
 |1=>[0,1,7,8]
 |2=>[0,1,7,8,9]
 |3=>[0,1,5,7,8]
 |4=>[0,1,5,7,8,16]
 |5=>[4]
 |6=>[0,1,7,8]
 |7=>[4]
 |_=>[]
def c133:ACode:=
(sq (rg [oi 4 0] [0,1]) (sq (sq (rg [om 6 0,on 7 6,oi 8 0] [0,1,7,8]) (.block 0 (.loop (sq (rg [ov 9 (.icmp .lss .i64 (tm 8) (tm 7))] [0,1,
 7,8,9]) (sq (.cond (tm 9) .skip (.exit 0)) (sq (.block 1 (sq (rg [om 10 8,om 5 10] [0,1,5,7,8]) (sq (rg [om 11 1,om 12 0,om 13 5,oa 14 1
 12 13,ol 15 14,ov 16 (.icmp .eql .i64 (tm 11) (tm 15))] [0,1,5,7,8,16]) (.cond (tm 16) (sq (rg [om 17 5,om 4 17] [4]) .ret) .skip)))) (rg [
 ov 18 (.arith .add .i64 (tm 8) (ci 1)),om 8 18] [0,1,7,8]))))))) (sq (rg [oi 4 (-1)] [4]) .ret)))
theorem a133:AOf Tryz.prog 133 c133 [.t 4]:=mkA (fn:=Tryz.f133) (c:=Tryz.f133.body.getD .skip) (fz:=[]) (im:=[]) kp133 (by kernel_rfl) (by kernel_rfl) (by kernel_rfl) (by kernel_rfl) (by kernel_rfl)
end Go.AM
end
section
set_option maxRecDepth 20000
set_option linter.all false
namespace Go.AM
open Go.Proofs
def kp43 (r:Nat):List Nat:=match r with
 |0=>[0,1,2,3]
 |1=>[0,1,2,3,6]
 |2=>[]
 |_=>[]
def c43:ACode:=
(sq (rg [om 5 3,⟨some 6,none,.ext (.nileq 0 true) [(tm 5)]⟩] [0,1,2,3,6]) (.cond (tm 6) (rg [om 7 3,⟨some 8,none,.ext (.tas 87 false z0)
 [(tm 7)]⟩,⟨none,none,.st 1 (tm 0) (.c zs)⟩,⟨none,none,.st 1 (tm 1) (tm 8)⟩,⟨none,none,.st 1 (tm 2) (ci 100)⟩] []) .skip))
theorem l43:AU Tryz.prog 43:=⟨Tryz.f43,by kernel_rfl,by kernel_rfl,by kernel_rfl⟩
theorem a43 {args:List AVal} {rv:AVal} {H:AD} {n:Nat} {Rc:AD→Nat→Prop} (h:awp Tryz.prog c43 (Cg [] fun o H' n'=>o= .ret (.tup [])∧Rc H' n') ⟨(3,true,rv)::(4,true,rv)::penv 0 args,H,n⟩):Bz Tryz.prog 43 args rv H n Rc:=
 Hj (id:=0) (fn:=Tryz.f43) (ops:=LP (sqH (Tryz.f43.body.getD .skip))) (X:=sqT (Tryz.f43.body.getD .skip)) (y:=c43) (fz:=[]) (im:=[]) (kp:=kp43) (t3:=3) (t4:=4) (by kernel_rfl) (by kernel_rfl) (by kernel_rfl) (by kernel_rfl) (by kernel_rfl) (by kernel_rfl) h
def kp18 (r:Nat):List Nat:=match r with
 |0=>[0,2,3,4]
 |1=>[0,2,3,4,9]
 |2=>[2,3,4]
 |3=>[0,2,3,4]
 |4=>[0,2,3,4,5]
 |5=>[0,2,3,4,5]
 |6=>[0,2,3,4,5,6]
 |7=>[0,2,3,4,5,6,22]
 |8=>[0,2,3,4,5,6]
 |9=>[2,3,4]
 |_=>[]
def Sm:ACode:=
 (.reg 3 [
  ⟨some 2,none,.alloc 0 [(.sl .nil [])]⟩,
  ⟨some 3,none,.alloc 1 [(.int .i64 0)]⟩,
  ⟨some 4,none,.alloc 2 [(.int .i64 0)]⟩] [0,2,3,4])
def Sn:ACode:=
 (.seq
  (.reg 0 [
   ⟨some 7,none,.v (.mv (.t 0))⟩,
   ⟨some 8,none,.v (.lenS (.t 7))⟩,
   ⟨some 9,none,.v (.icmp .gtr .i64 (.t 8) (.c (.int .i64 65536)))⟩] [0,2,3,4,9])
  (.cond (.t 9)
  (.seq
   (.reg 0 [
    ⟨none,none,.st 1 (.t 2) (.c (.sl .nil []))⟩,
    ⟨none,none,.st 1 (.t 3) (.c (.int .i64 0))⟩,
    ⟨none,none,.st 1 (.t 4) (.c (.int .i64 2))⟩] [2,3,4])
   .ret)
  .skip))
def c18:ACode:=
(sq (.reg 1 [⟨some 5,none,.alloc 0 [.nilfn,.nilfn,.nilfn,.nilfn,.nilfn,.nilfn]⟩] [0,2,3,4,5]) (sq (rg [ov 11 (.build [.nilfn,.nilfn,
 .nilfn,.nilfn,.nilfn,.nilfn] [(0,1,(.c (.fn (.func 44) [] []))),(1,1,(.c (.fn (.func 45) [] []))),(2,1,(.c (.fn (.func 46) [] []))),(3,1,
 (.c (.fn (.func 47) [] []))),(4,1,(.c (.fn (.func 48) [] []))),(5,1,(.c (.fn (.func 44) [] [])))]),of 12 0 5,⟨none,none,.st 6 (tm 12) (tm
 11)⟩] [0,2,3,4,5]) (sq (.reg 4 [om 13 0,ov 14 (.build [zr,z0,zs] [(0,1,(tm 13))]),⟨some 15,none,.box 2 3 (tm 14)⟩,om 6 15] [0,2,3,4,
 5,6]) (sq (.block 0 (.loop (sq (sq (rg [om 16 6,ov 17 (.nilc (tm 16)),of 18 1 17,ol 19 18,om 20 0,ov 21 (.lenS (tm 20)),ov 22 (.icmp .lss .i64
 (tm 19) (tm 21))] [0,2,3,4,5,6,22]) (.cond (tm 22) .skip (.exit 0))) (.block 1 (rg [om 23 0,om 24 6,ov 25 (.nilc (tm 24)),of 26 1 25,ol 27
 26,ov 28 (.ixS (tm 23) (tm 27)),oc 29 49 [(tm 28)],of 30 0 5,ov 31 (.iaA 6 1 (tm 30) (tm 29)),ol 32 31,om 33 6,⟨some 34,none,.call false (tm
 32) [(tm 33)]⟩] [0,2,3,4,5,6]))))) (sq (rg [om 35 6,ov 36 (.nilc (tm 35)),of 37 2 36,ol 38 37,⟨none,none,.st 1 (tm 2) (tm 38)⟩,⟨none,
 none,.st 1 (tm 3) (ci 0)⟩,⟨none,none,.st 1 (tm 4) (ci 0)⟩] [2,3,4]) .ret)))))
theorem a18 {args:List AVal} {H:AD} {n:Nat} {R:AOut→AD→Nat→Prop} (h:awp Tryz.prog (FC [Sm,Sn]) (KS Tryz.prog 10 ⟨(some 10),none,.v (.fn (.func 43) [] [(.t 2),(.t 3),(.t 4)])⟩ c18 5 43 [.c 2 1 false,.c 3 1 false,.c 4 1 false] R) ⟨penv 0 args,H,n⟩):AP Tryz.prog 18 args H n R:=
 FD (id:=3) (fn:=Tryz.f18) (pre:=[sqH (Tryz.f18.body.getD .skip),sqH (sqT (Tryz.f18.body.getD .skip))]) (ys:=[Sm,Sn]) (ops:=LP (sqH (sqT (sqT (Tryz.f18.body.getD .skip))))) (X:=(sqT (sqT (sqT (Tryz.f18.body.getD .skip))))) (y:=c18) (fz:=[]) (fzX:=[(999999,5)]) (im:=[(8,11)]) (kp:=kp18) (rs:=[.c 2 1 false,.c 3 1 false,.c 4 1 false]) (d0:=(some 10)) (k:=.fn (.func 43) [] [(.t 2),(.t 3),(.t 4)]) (t:=10) (by kernel_rfl) (by kernel_rfl) (by kernel_rfl) (by kernel_rfl) (by kernel_rfl) (by kernel_rfl) (by kernel_rfl) (by kernel_rfl) (by kernel_rfl) l43 h
end Go.AM
end
section
set_option maxRecDepth 20000
set_option linter.all false
namespace Go.AM
open Go.Proofs
end Go.AM
end
section
set_option maxRecDepth 20000
set_option linter.all false
namespace Go.AM
open Go.Proofs
def kp36 (r:Nat):List Nat:=match r with
 |0=>[0,1]
 |1=>[0,1,10]
 |2=>[4]
 |3=>[0,1,12,13]
 |4=>[0,1,12,13,14]
 |5=>[0,1,5,12,13]
 |6=>[0,1,12,13,24]
 |7=>[4]
 |8=>[0,1,12,13]
 |9=>[4]
 |_=>[]
def c36:ACode:=
(sq (rg [ob 4 false] [0,1]) (sq (sq (rg [om 6 0,on 7 6,om 8 1,on 9 8,ov 10 (.icmp .neq .i64 (tm 7) (tm 9))] [0,1,10]) (.cond (tm 10) (sq (rg [
 ob 4 false] [4]) .ret) .skip)) (sq (sq (rg [om 11 0,on 12 11,oi 13 0] [0,1,12,13]) (.block 0 (.loop (sq (rg [ov 14 (.icmp .lss .i64 (tm 13) (tm
 12))] [0,1,12,13,14]) (sq (.cond (tm 14) .skip (.exit 0)) (sq (.block 1 (sq (rg [om 15 13,om 5 15] [0,1,5,12,13]) (sq (rg [om 16 0,om 17
 5,oa 18 1 16 17,ol 19 18,om 20 1,om 21 5,oa 22 1 20 21,ol 23 22,ov 24 (.icmp .neq .i64 (tm 19) (tm 23))] [0,1,12,13,24]) (.cond (tm 24) (sq
 (rg [ob 4 false] [4]) .ret) .skip)))) (rg [ov 25 (.arith .add .i64 (tm 13) (ci 1)),om 13 25] [0,1,12,13]))))))) (sq (rg [ob 4 true] [4])
 .ret))))
theorem a36:AOf Tryz.prog 36 c36 [.t 4]:=mkA (fn:=Tryz.f36) (c:=Tryz.f36.body.getD .skip) (fz:=[]) (im:=[]) kp36 (by kernel_rfl) (by kernel_rfl) (by kernel_rfl) (by kernel_rfl) (by kernel_rfl)
def kp38 (r:Nat):List Nat:=match r with
 |0=>[0,1]
 |1=>[0,1,10]
 |2=>[4]
 |3=>[0,1,12,13]
 |4=>[0,1,12,13,14]
 |5=>[0,1,5,12,13]
 |6=>[0,1,12,13,24]
 |7=>[4]
 |8=>[0,1,12,13]
 |9=>[4]
 |_=>[]
def c38:ACode:=
(sq (rg [ob 4 false] [0,1]) (sq (sq (rg [om 6 0,on 7 6,om 8 1,on 9 8,ov 10 (.icmp .neq .i64 (tm 7) (tm 9))] [0,1,10]) (.cond (tm 10) (sq (rg [
 ob 4 false] [4]) .ret) .skip)) (sq (sq (rg [om 11 0,on 12 11,oi 13 0] [0,1,12,13]) (.block 0 (.loop (sq (rg [ov 14 (.icmp .lss .i64 (tm 13) (tm
 12))] [0,1,12,13,14]) (sq (.cond (tm 14) .skip (.exit 0)) (sq (.block 1 (sq (rg [om 15 13,om 5 15] [0,1,5,12,13]) (sq (rg [om 16 0,om 17
 5,oa 18 1 16 17,ol 19 18,om 20 1,om 21 5,oa 22 1 20 21,ol 23 22,ov 24 (.scmp .neq (tm 19) (tm 23))] [0,1,12,13,24]) (.cond (tm 24) (sq (rg
 [ob 4 false] [4]) .ret) .skip)))) (rg [ov 25 (.arith .add .i64 (tm 13) (ci 1)),om 13 25] [0,1,12,13]))))))) (sq (rg [ob 4 true] [4]) .ret))))
theorem a38:AOf Tryz.prog 38 c38 [.t 4]:=mkA (fn:=Tryz.f38) (c:=Tryz.f38.body.getD .skip) (fz:=[]) (im:=[]) kp38 (by kernel_rfl) (by kernel_rfl) (by kernel_rfl) (by kernel_rfl) (by kernel_rfl)
def kp39 (r:Nat):List Nat:=match r with
 |0=>[0,1]
 |1=>[0,1,10]
 |2=>[4]
 |3=>[0,1,12,13]
 |4=>[0,1,12,13,14]
 |5=>[0,1,5,12,13]
 |6=>[0,1,12,13,24]
 |7=>[4]
 |8=>[0,1,12,13]
 |9=>[4]
 |_=>[]
def c39:ACode:=
(sq (rg [ob 4 false] [0,1]) (sq (sq (rg [om 6 0,on 7 6,om 8 1,on 9 8,ov 10 (.icmp .neq .i64 (tm 7) (tm 9))] [0,1,10]) (.cond (tm 10) (sq (rg [
 ob 4 false] [4]) .ret) .skip)) (sq (sq (rg [om 11 0,on 12 11,oi 13 0] [0,1,12,13]) (.block 0 (.loop (sq (rg [ov 14 (.icmp .lss .i64 (tm 13) (tm
 12))] [0,1,12,13,14]) (sq (.cond (tm 14) .skip (.exit 0)) (sq (.block 1 (sq (rg [om 15 13,om 5 15] [0,1,5,12,13]) (sq (rg [om 16 0,om 17
 5,oa 18 2 16 17,ov 19 (.ld 2 true (tm 18)),om 20 1,om 21 5,oa 22 2 20 21,ov 23 (.ld 2 true (tm 22)),ov 24 (.aeq true [2,0] (tm 19) (tm 23))]
 [0,1,12,13,24]) (.cond (tm 24) (sq (rg [ob 4 false] [4]) .ret) .skip)))) (rg [ov 25 (.arith .add .i64 (tm 13) (ci 1)),om 13 25] [0,1,12,
 13]))))))) (sq (rg [ob 4 true] [4]) .ret))))
theorem a39:AOf Tryz.prog 39 c39 [.t 4]:=mkA (fn:=Tryz.f39) (c:=Tryz.f39.body.getD .skip) (fz:=[]) (im:=[]) kp39 (by kernel_rfl) (by kernel_rfl) (by kernel_rfl) (by kernel_rfl) (by kernel_rfl)
def kp41 (r:Nat):List Nat:=match r with
 |0=>[0,1]
 |1=>[0,1,10]
 |2=>[4]
 |3=>[0,1,12,13]
 |4=>[0,1,12,13,14]
 |5=>[0,1,5,12,13]
 |6=>[0,1,12,13,24]
 |7=>[4]
 |8=>[0,1,12,13]
 |9=>[4]
 |_=>[]
def c41:ACode:=
(sq (rg [ob 4 false] [0,1]) (sq (sq (rg [om 6 0,on 7 6,om 8 1,on 9 8,ov 10 (.icmp .neq .i64 (tm 7) (tm 9))] [0,1,10]) (.cond (tm 10) (sq (rg [
 ob 4 false] [4]) .ret) .skip)) (sq (sq (rg [om 11 0,on 12 11,oi 13 0] [0,1,12,13]) (.block 0 (.loop (sq (rg [ov 14 (.icmp .lss .i64 (tm 13) (tm
 12))] [0,1,12,13,14]) (sq (.cond (tm 14) .skip (.exit 0)) (sq (.block 1 (sq (rg [om 15 13,om 5 15] [0,1,5,12,13]) (sq (rg [om 16 0,om 17
 5,oa 18 6 16 17,ov 19 (.ld 6 true (tm 18)),om 20 1,om 21 5,oa 22 6 20 21,ov 23 (.ld 6 true (tm 22)),ov 24 (.aeq true [2,2,0,0,0,0] (tm 19)
 (tm 23))] [0,1,12,13,24]) (.cond (tm 24) (sq (rg [ob 4 false] [4]) .ret) .skip)))) (rg [ov 25 (.arith .add .i64 (tm 13) (ci 1)),om 13 25] [0,
 1,12,13]))))))) (sq (rg [ob 4 true] [4]) .ret))))
theorem a41:AOf Tryz.prog 41 c41 [.t 4]:=mkA (fn:=Tryz.f41) (c:=Tryz.f41.body.getD .skip) (fz:=[]) (im:=[]) kp41 (by kernel_rfl) (by kernel_rfl) (by kernel_rfl) (by kernel_rfl) (by kernel_rfl)
def kp35 (r:Nat):List Nat:=match r with
 |0=>[0,1,2]
 |1=>[0,1,2,14]
 |2=>[6]
 |3=>[1,2,15,16,17]
 |4=>[1,2,15,16,17,18]
 |5=>[1,2,7,8,15,16,17]
 |6=>[1,2,8,9,15,16,17]
 |7=>[1,2,15,16,17,30]
 |8=>[6]
 |9=>[1,2,15,16,17]
 |10=>[6]
 |_=>[]
def c35:ACode:=
(sq (rg [ob 6 false] [0,1,2]) (sq (sq (rg [om 10 0,on 11 10,om 12 1,on 13 12,ov 14 (.icmp .neq .i64 (tm 11) (tm 13))] [0,1,2,14]) (.cond (tm
 14) (sq (rg [ob 6 false] [6]) .ret) .skip)) (sq (sq (rg [om 15 0,on 16 15,oi 17 0] [1,2,15,16,17]) (.block 0 (.loop (sq (rg [ov 18 (.icmp
 .lss .i64 (tm 17) (tm 16))] [1,2,15,16,17,18]) (sq (.cond (tm 18) .skip (.exit 0)) (sq (.block 1 (sq (rg [om 19 17,oa 20 1 15 17,ol 21 20,om
 7 19,om 8 21] [1,2,7,8,15,16,17]) (sq (rg [om 22 1,om 23 7,oa 24 1 22 23,ol 25 24,om 9 25] [1,2,8,9,15,16,17]) (sq (rg [om 26 2,om
 27 8,om 28 9,⟨some 29,none,.call true (tm 26) [(tm 27),(tm 28)]⟩,ot 30 29] [1,2,15,16,17,30]) (.cond (tm 30) (sq (rg [ob 6 false] [6])
 .ret) .skip))))) (rg [ov 31 (.arith .add .i64 (tm 17) (ci 1)),om 17 31] [1,2,15,16,17]))))))) (sq (rg [ob 6 true] [6]) .ret))))
theorem a35:AOf Tryz.prog 35 c35 [.t 6]:=mkA (fn:=Tryz.f35) (c:=Tryz.f35.body.getD .skip) (fz:=[]) (im:=[]) kp35 (by kernel_rfl) (by kernel_rfl) (by kernel_rfl) (by kernel_rfl) (by kernel_rfl)
def kp40 (r:Nat):List Nat:=match r with
 |0=>[0,1,2]
 |1=>[0,1,2,14]
 |2=>[6]
 |3=>[1,2,15,16,17]
 |4=>[1,2,15,16,17,18]
 |5=>[1,2,7,8,15,16,17]
 |6=>[1,2,8,9,15,16,17]
 |7=>[1,2,15,16,17,30]
 |8=>[6]
 |9=>[1,2,15,16,17]
 |10=>[6]
 |_=>[]
def c40:ACode:=
(sq (rg [ob 6 false] [0,1,2]) (sq (sq (rg [om 10 0,on 11 10,om 12 1,on 13 12,ov 14 (.icmp .neq .i64 (tm 11) (tm 13))] [0,1,2,14]) (.cond (tm
 14) (sq (rg [ob 6 false] [6]) .ret) .skip)) (sq (sq (rg [om 15 0,on 16 15,oi 17 0] [1,2,15,16,17]) (.block 0 (.loop (sq (rg [ov 18 (.icmp
 .lss .i64 (tm 17) (tm 16))] [1,2,15,16,17,18]) (sq (.cond (tm 18) .skip (.exit 0)) (sq (.block 1 (sq (.reg 6 [om 19 17,oa 20 2 15 17,ov 21
 (.ld 2 true (tm 20)),⟨some 8,none,.alloc 3 [zr,zs]⟩,om 7 19,⟨none,none,.st 2 (tm 8) (tm 21)⟩] [1,2,7,8,15,16,17]) (sq (.reg 6 [om 22 1,
 om 23 7,oa 24 2 22 23,ov 25 (.ld 2 true (tm 24)),⟨some 9,none,.alloc 4 [zr,zs]⟩,⟨none,none,.st 2 (tm 9) (tm 25)⟩] [1,2,8,9,15,16,17])
 (sq (rg [om 26 2,ov 27 (.ld 2 true (tm 8)),ov 28 (.ld 2 true (tm 9)),⟨some 29,none,.call true (tm 26) [(tm 27),(tm 28)]⟩,ot 30 29] [1,2,15,
 16,17,30]) (.cond (tm 30) (sq (rg [ob 6 false] [6]) .ret) .skip))))) (rg [ov 31 (.arith .add .i64 (tm 17) (ci 1)),om 17 31] [1,2,15,16,
 17]))))))) (sq (rg [ob 6 true] [6]) .ret))))
theorem a40:AOf Tryz.prog 40 c40 [.t 6]:=mkA (fn:=Tryz.f40) (c:=Tryz.f40.body.getD .skip) (fz:=[]) (im:=[]) kp40 (by kernel_rfl) (by kernel_rfl) (by kernel_rfl) (by kernel_rfl) (by kernel_rfl)
def kp42 (r:Nat):List Nat:=match r with
 |0=>[0,1,2]
 |1=>[0,1,2,14]
 |2=>[6]
 |3=>[1,2,15,16,17]
 |4=>[1,2,15,16,17,18]
 |5=>[1,2,7,8,15,16,17]
 |6=>[1,2,8,9,15,16,17]
 |7=>[1,2,15,16,17,30]
 |8=>[6]
 |9=>[1,2,15,16,17]
 |10=>[6]
 |_=>[]
def c42:ACode:=
(sq (rg [ob 6 false] [0,1,2]) (sq (sq (rg [om 10 0,on 11 10,om 12 1,on 13 12,ov 14 (.icmp .neq .i64 (tm 11) (tm 13))] [0,1,2,14]) (.cond (tm
 14) (sq (rg [ob 6 false] [6]) .ret) .skip)) (sq (sq (rg [om 15 0,on 16 15,oi 17 0] [1,2,15,16,17]) (.block 0 (.loop (sq (rg [ov 18 (.icmp
 .lss .i64 (tm 17) (tm 16))] [1,2,15,16,17,18]) (sq (.cond (tm 18) .skip (.exit 0)) (sq (.block 1 (sq (.reg 6 [om 19 17,oa 20 12 15 17,ov 21
 (.ld 12 true (tm 20)),⟨some 8,none,.alloc 3 [zr,zr,z0,z0,zs,zs,z0,z0,z0,z0,zr,z0]⟩,om 7 19,⟨none,none,.st 12 (tm 8) (tm 21)⟩] [1,2,
 7,8,15,16,17]) (sq (.reg 6 [om 22 1,om 23 7,oa 24 12 22 23,ov 25 (.ld 12 true (tm 24)),⟨some 9,none,.alloc 4 [zr,zr,z0,z0,zs,zs,z0,
 z0,z0,z0,zr,z0]⟩,⟨none,none,.st 12 (tm 9) (tm 25)⟩] [1,2,8,9,15,16,17]) (sq (rg [om 26 2,ov 27 (.ld 12 true (tm 8)),ov 28 (.ld 12 true
 (tm 9)),⟨some 29,none,.call true (tm 26) [(tm 27),(tm 28)]⟩,ot 30 29] [1,2,15,16,17,30]) (.cond (tm 30) (sq (rg [ob 6 false] [6]) .ret)
 .skip))))) (rg [ov 31 (.arith .add .i64 (tm 17) (ci 1)),om 17 31] [1,2,15,16,17]))))))) (sq (rg [ob 6 true] [6]) .ret))))
theorem a42:AOf Tryz.prog 42 c42 [.t 6]:=mkA (fn:=Tryz.f42) (c:=Tryz.f42.body.getD .skip) (fz:=[]) (im:=[]) kp42 (by kernel_rfl) (by kernel_rfl) (by kernel_rfl) (by kernel_rfl) (by kernel_rfl)
def kp34 (r:Nat):List Nat:=match r with
 |0=>[2,3]
 |1=>[4]
 |_=>[]
def c34:ACode:=
(sq (.reg 3 [⟨some 2,none,.box 0 2 (tm 0)⟩,⟨some 3,none,.box 1 2 (tm 1)⟩,ob 4 false] [2,3]) (sq (rg [of 5 0 2,ol 6 5,of 7 0 3,ol 8 7,ov 9
 (.scmp .eql (tm 6) (tm 8)),om 10 9,gf 11 10 true 1 2,gl 12 10 true 11,gf 13 10 true 1 3,gl 14 10 true 13,⟨some 15,some (10,true),.call true
 (.c (.fn (.func 35) [] [])) [(tm 12),(tm 14),(.c (.fn (.func 36) [] []))]⟩,oy 16 10 15,om 4 16] [4]) .ret))
theorem a34:AOf Tryz.prog 34 c34 [.t 4]:=mkA (fn:=Tryz.f34) (c:=Tryz.f34.body.getD .skip) (fz:=[]) (im:=[]) kp34 (by kernel_rfl) (by kernel_rfl) (by kernel_rfl) (by kernel_rfl) (by kernel_rfl)
def kp37 (r:Nat):List Nat:=match r with
 |0=>[2,3]
 |1=>[2,3,5]
 |2=>[4]
 |_=>[]
def c37:ACode:=
(sq (.reg 3 [⟨some 2,none,.box 0 12 (tm 0)⟩,⟨some 3,none,.box 1 12 (tm 1)⟩,ob 4 false] [2,3]) (sq (rg [of 6 4 2,ol 7 6,of 8 4 3,ol 9 8,oc
 10 38 [(tm 7),(tm 9)],om 11 10,gf 12 11 true 5 2,gl 13 11 true 12,gf 14 11 true 5 3,gl 15 11 true 14,⟨some 16,some (11,true),.call true (.c
 (.fn (.func 38) [] [])) [(tm 13),(tm 15)]⟩,oy 17 11 16,om 18 17,gf 19 18 true 0 2,gl 20 18 true 19,gf 21 18 true 0 3,gl 22 18 true 21,gv 23 18
 true (.scmp .eql (tm 20) (tm 22)),oy 24 18 23,om 25 24,gf 26 25 true 1 2,gl 27 25 true 26,gf 28 25 true 1 3,gl 29 25 true 28,gv 30 25 true
 (.scmp .eql (tm 27) (tm 29)),oy 31 25 30,om 32 31,gf 33 32 true 10 2,gl 34 32 true 33,gf 35 32 true 10 3,gl 36 32 true 35,gv 37 32 true (.scmp
 .eql (tm 34) (tm 36)),oy 38 32 37,om 5 38] [2,3,5]) (sq (rg [om 39 5,om 40 39,gf 41 40 true 2 2,gl 42 40 true 41,gf 43 40 true 3 2,gl 44 40
 true 43,gf 45 40 true 6 2,gl 46 40 true 45,gf 47 40 true 7 2,gl 48 40 true 47,gf 49 40 true 8 2,gl 50 40 true 49,gf 51 40 true 9 2,gl 52 40
 true 51,gf 53 40 true 11 2,gl 54 40 true 53,gv 55 40 true (.build [z0,z0,z0,z0,z0,z0,z0] [(0,1,(tm 42)),(1,1,(tm 44)),(2,1,(tm 46)),
 (3,1,(tm 48)),(4,1,(tm 50)),(5,1,(tm 52)),(6,1,(tm 54))]),gf 56 40 true 2 3,gl 57 40 true 56,gf 58 40 true 3 3,gl 59 40 true 58,gf 60
 40 true 6 3,gl 61 40 true 60,gf 62 40 true 7 3,gl 63 40 true 62,gf 64 40 true 8 3,gl 65 40 true 64,gf 66 40 true 9 3,gl 67 40 true 66,gf 68 40
 true 11 3,gl 69 40 true 68,gv 70 40 true (.build [z0,z0,z0,z0,z0,z0,z0] [(0,1,(tm 57)),(1,1,(tm 59)),(2,1,(tm 61)),(3,1,(tm 63)),
 (4,1,(tm 65)),(5,1,(tm 67)),(6,1,(tm 69))]),gv 71 40 true (.aeq false [0,0,0,0,0,0,0] (tm 55) (tm 70)),oy 72 40 71,om 4 72] [4])
 .ret)))
theorem a37:AOf Tryz.prog 37 c37 [.t 4]:=mkA (fn:=Tryz.f37) (c:=Tryz.f37.body.getD .skip) (fz:=[]) (im:=[]) kp37 (by kernel_rfl) (by kernel_rfl) (by kernel_rfl) (by kernel_rfl) (by kernel_rfl)
def kp16 (r:Nat):List Nat:=match r with
 |0=>[2,3]
 |1=>[2,3,5]
 |2=>[2,3,5,6]
 |3=>[2,3,5,6,7]
 |4=>[4]
 |_=>[]
def c16:ACode:=
(sq (.reg 3 [⟨some 2,none,.box 0 10 (tm 0)⟩,⟨some 3,none,.box 1 10 (tm 1)⟩,ob 4 false] [2,3]) (sq (rg [of 8 0 2,ol 9 8,of 10 0 3,ol 11 10,
 ov 12 (.scmp .eql (tm 9) (tm 11)),om 13 12,gf 14 13 true 1 2,gl 15 13 true 14,gf 16 13 true 1 3,gl 17 13 true 16,gv 18 13 true (.icmp .eql .i64
 (tm 15) (tm 17)),oy 19 13 18,om 20 19,gf 21 20 true 2 2,gl 22 20 true 21,gf 23 20 true 2 3,gl 24 20 true 23,gv 25 20 true (.icmp .eql .i64 (tm
 22) (tm 24)),oy 26 20 25,om 27 26,gf 28 27 true 3 2,gl 29 27 true 28,gf 30 27 true 3 3,gl 31 27 true 30,gv 32 27 true (.icmp .eql .i64 (tm 29)
 (tm 31)),oy 33 27 32,om 34 33,gf 35 34 true 4 2,gl 36 34 true 35,gf 37 34 true 4 3,gl 38 34 true 37,gv 39 34 true (.icmp .eql .i64 (tm 36) (tm
 38)),oy 40 34 39,om 5 40] [2,3,5]) (sq (rg [ov 6 (.mv (.c (.fn (.func 34) [] [])))] [2,3,5,6]) (sq (rg [ov 7 (.mv (.c (.fn (.func 37) []
 [])))] [2,3,5,6,7]) (sq (rg [om 41 5,om 42 41,gf 43 42 true 5 2,gl 44 42 true 43,gf 45 42 true 5 3,gl 46 42 true 45,⟨some 47,some (42,
 true),.call true (.c (.fn (.func 36) [] [])) [(tm 44),(tm 46)]⟩,oy 48 42 47,om 49 48,gf 50 49 true 6 2,gl 51 49 true 50,gf 52 49 true 6 3,gl
 53 49 true 52,⟨some 54,some (49,true),.call true (.c (.fn (.func 39) [] [])) [(tm 51),(tm 53)]⟩,oy 55 49 54,om 56 55,gf 57 56 true 7 2,gl 58
 56 true 57,gf 59 56 true 7 3,gl 60 56 true 59,gm 61 56 true 6,⟨some 62,some (56,true),.call true (.c (.fn (.func 40) [] [])) [(tm 58),(tm 60),
 (tm 61)]⟩,oy 63 56 62,om 64 63,gf 65 64 true 8 2,gl 66 64 true 65,gf 67 64 true 8 3,gl 68 64 true 67,⟨some 69,some (64,true),.call true (.c
 (.fn (.func 41) [] [])) [(tm 66),(tm 68)]⟩,oy 70 64 69,om 71 70,gf 72 71 true 9 2,gl 73 71 true 72,gf 74 71 true 9 3,gl 75 71 true 74,gm 76 71
 true 7,⟨some 77,some (71,true),.call true (.c (.fn (.func 42) [] [])) [(tm 73),(tm 75),(tm 76)]⟩,oy 78 71 77,om 4 78] [4]) .ret)))))
theorem a16:AOf Tryz.prog 16 c16 [.t 4]:=mkA (fn:=Tryz.f16) (c:=Tryz.f16.body.getD .skip) (fz:=[]) (im:=[]) kp16 (by kernel_rfl) (by kernel_rfl) (by kernel_rfl) (by kernel_rfl) (by kernel_rfl)
def kp78 (r:Nat):List Nat:=match r with
 |0=>[0]
 |1=>[0,4]
 |2=>[2]
 |3=>[2]
 |_=>[]
def c78:ACode:=
(sq (rg [ov 2 (.mv (.c zs))] [0]) (sq (sq (rg [om 3 0,⟨some 4,none,.nils false (tm 3)⟩] [0,4]) (.cond (tm 4) (sq (rg [ov 2 (.mv (.c zs))] [2])
 .ret) .skip)) (sq (.reg 4 [ov 5 (.bs 6 0 (.agg [zr,zr,z0,z0,z0,z0]) []),om 6 0,⟨some 7,none,.appR 2 6 64 (.agg [zr,zr,z0,z0,z0,z0]) (tm
 5) (tm 6) false⟩,om 2 7] [2]) .ret)))
theorem l78:AU Tryz.prog 78:=⟨Tryz.f78,by kernel_rfl,by kernel_rfl,by kernel_rfl⟩
theorem a78:AOf Tryz.prog 78 c78 [.t 2]:=mkA (fn:=Tryz.f78) (c:=Tryz.f78.body.getD .skip) (fz:=[(3,2)]) (im:=[]) kp78 (by kernel_rfl) (by kernel_rfl) (by kernel_rfl) (by kernel_rfl) (by kernel_rfl)
def kp79 (r:Nat):List Nat:=match r with
 |0=>[0]
 |1=>[0,4]
 |2=>[2]
 |3=>[2]
 |_=>[]
def c79:ACode:=
(sq (rg [ov 2 (.mv (.c zs))] [0]) (sq (sq (rg [om 3 0,⟨some 4,none,.nils false (tm 3)⟩] [0,4]) (.cond (tm 4) (sq (rg [ov 2 (.mv (.c zs))] [2])
 .ret) .skip)) (sq (.reg 4 [ov 5 (.bs 12 0 (.agg [zr,zr,z0,z0,zs,zs,z0,z0,z0,z0,zr,z0]) []),om 6 0,⟨some 7,none,.appR 2 12 152 (.agg
 [zr,zr,z0,z0,zs,zs,z0,z0,z0,z0,zr,z0]) (tm 5) (tm 6) false⟩,om 2 7] [2]) .ret)))
theorem l79:AU Tryz.prog 79:=⟨Tryz.f79,by kernel_rfl,by kernel_rfl,by kernel_rfl⟩
theorem a79:AOf Tryz.prog 79 c79 [.t 2]:=mkA (fn:=Tryz.f79) (c:=Tryz.f79.body.getD .skip) (fz:=[(3,2)]) (im:=[]) kp79 (by kernel_rfl) (by kernel_rfl) (by kernel_rfl) (by kernel_rfl) (by kernel_rfl)
end Go.AM
end
section
set_option maxRecDepth 20000
set_option linter.all false
namespace Go.AM
open Go.Proofs
def kp106 (r:Nat):List Nat:=match r with
 |0=>[0,7]
 |1=>[0]
 |2=>[]
 |_=>[]
def c106:ACode:=
(sq (sq (rg [om 2 0,ov 3 (.nilc (tm 2)),of 4 0 3,ol 5 4,on 6 5,ov 7 (.icmp .gtr .i64 (tm 6) (ci 0))] [0,7]) (.cond (tm 7) (rg [om 8 0,ov 9
 (.nilc (tm 8)),of 10 0 9,ol 11 10,ov 12 (.ia 4 (tm 11) (ci 0)),of 13 3 12,ol 14 13,ov 15 (.build [z0] [(0,1,(tm 14))]),ov 16 (.ifc 100 (tm
 15)),⟨none,none,.pan (tm 16)⟩] [0]) .skip)) (rg [om 17 0,ov 18 (.nilc (tm 17)),of 19 1 18,ol 20 19,ov 21 (.build [z0] [(0,1,(tm 20))]),ov
 22 (.ifc 100 (tm 21)),⟨none,none,.pan (tm 22)⟩] []))
theorem l106:AU Tryz.prog 106:=⟨Tryz.f106,by kernel_rfl,by kernel_rfl,by kernel_rfl⟩
theorem a106:AOf Tryz.prog 106 c106 []:=mkA (fn:=Tryz.f106) (c:=Tryz.f106.body.getD .skip) (fz:=[]) (im:=[]) kp106 (by kernel_rfl) (by kernel_rfl) (by kernel_rfl) (by kernel_rfl) (by kernel_rfl)
def kp126 (r:Nat):List Nat:=match r with
 |0=>[0,1]
 |1=>[4]
 |_=>[]
def c126:ACode:=
(sq (rg [ob 4 false] [0,1]) (sq (rg [om 5 0,ov 6 (.nilc (tm 5)),of 7 0 6,ol 8 7,on 9 8,ov 10 (.icmp .gtr .i64 (tm 9) (ci 0)),om 11 10,gm 12
 11 true 0,gv 13 11 true (.nilc (tm 12)),gf 14 11 true 0 13,gl 15 11 true 14,gv 16 11 true (.ia 4 (tm 15) (ci 0)),gf 17 11 true 0 16,gl 18 11
 true 17,gv 19 11 true (.icmp .neq .i64 (tm 18) (ci 2)),oy 20 11 19,om 21 20,gm 22 21 true 0,gv 23 21 true (.nilc (tm 22)),gf 24 21 true 0 23,gl
 25 21 true 24,gv 26 21 true (.ia 4 (tm 25) (ci 0)),gf 27 21 true 1 26,gl 28 21 true 27,gm 29 21 true 1,gv 30 21 true (.scmp .eql (tm 28) (tm
 29)),oy 31 21 30,om 4 31] [4]) .ret))
theorem l126:AU Tryz.prog 126:=⟨Tryz.f126,by kernel_rfl,by kernel_rfl,by kernel_rfl⟩
theorem a126:AOf Tryz.prog 126 c126 [.t 4]:=mkA (fn:=Tryz.f126) (c:=Tryz.f126.body.getD .skip) (fz:=[]) (im:=[]) kp126 (by kernel_rfl) (by kernel_rfl) (by kernel_rfl) (by kernel_rfl) (by kernel_rfl)
def kp99 (r:Nat):List Nat:=match r with
 |0=>[0,1]
 |1=>[0,5]
 |2=>[0,5,9]
 |3=>[5]
 |4=>[4]
 |_=>[]
def c99:ACode:=
(sq (rg [ob 4 false] [0,1]) (sq (rg [om 6 0,om 7 1,oe 8 126 [(tm 6),(tm 7)],om 5 8] [0,5]) (sq (sq (rg [om 9 5] [0,5,9]) (.cond (tm 9) (rg [
 om 10 0,om 11 0,ov 12 (.nilc (tm 11)),of 13 0 12,ol 14 13,ov 15 (.sl 4 (tm 14) (some (ci 1)) none none),ov 16 (.nilc (tm 10)),of 17 0 16,
 ⟨none,none,.st 1 (tm 17) (tm 15)⟩] [5]) .skip)) (sq (rg [om 18 5,om 4 18] [4]) .ret))))
theorem l99:AU Tryz.prog 99:=⟨Tryz.f99,by kernel_rfl,by kernel_rfl,by kernel_rfl⟩
theorem a99:AOf Tryz.prog 99 c99 [.t 4]:=mkA (fn:=Tryz.f99) (c:=Tryz.f99.body.getD .skip) (fz:=[]) (im:=[(1,2)]) kp99 (by kernel_rfl) (by kernel_rfl) (by kernel_rfl) (by kernel_rfl) (by kernel_rfl)
def kp96 (r:Nat):List Nat:=match r with
 |0=>[0,6,7,8]
 |1=>[0,6,7,8,9]
 |2=>[0,5,6,7,8]
 |3=>[0,6,7,8,15]
 |4=>[0,6,7,8]
 |5=>[0,6,7,8]
 |_=>[]
def c96:ACode:=
(sq (rg [om 6 1,on 7 6,oi 8 0] [0,6,7,8]) (.block 0 (.loop (sq (rg [ov 9 (.icmp .lss .i64 (tm 8) (tm 7))] [0,6,7,8,9]) (sq (.cond (tm 9)
 .skip (.exit 0)) (sq (.block 1 (sq (rg [oa 10 1 6 8,ol 11 10,om 5 11] [0,5,6,7,8]) (sq (rg [om 12 0,om 13 5,oe 14 99 [(tm 12),(tm 13)],ot
 15 14] [0,6,7,8,15]) (.cond (tm 15) (rg [om 16 0,oe 17 106 [(tm 16)]] [0,6,7,8]) .skip)))) (rg [ov 18 (.arith .add .i64 (tm 8) (ci 1)),om 8
 18] [0,6,7,8])))))))
theorem l96:AU Tryz.prog 96:=⟨Tryz.f96,by kernel_rfl,by kernel_rfl,by kernel_rfl⟩
theorem a96:AOf Tryz.prog 96 c96 []:=mkA (fn:=Tryz.f96) (c:=Tryz.f96.body.getD .skip) (fz:=[]) (im:=[(3,2),(4,1)]) kp96 (by kernel_rfl) (by kernel_rfl) (by kernel_rfl) (by kernel_rfl) (by kernel_rfl)
def kp125 (r:Nat):List Nat:=match r with
 |0=>[0]
 |1=>[2]
 |_=>[]
def c125:ACode:=
(sq (rg [ob 2 false] [0]) (sq (rg [om 3 0,ov 4 (.nilc (tm 3)),of 5 0 4,ol 6 5,on 7 6,ov 8 (.icmp .gtr .i64 (tm 7) (ci 0)),om 9 8,gm 10 9 true
 0,gv 11 9 true (.nilc (tm 10)),gf 12 9 true 0 11,gl 13 9 true 12,gv 14 9 true (.ia 4 (tm 13) (ci 0)),gf 15 9 true 0 14,gl 16 9 true 15,gv 17 9
 true (.icmp .eql .i64 (tm 16) (ci 2)),oy 18 9 17,om 19 18,gm 20 19 true 0,gv 21 19 true (.nilc (tm 20)),gf 22 19 true 0 21,gl 23 19 true 22,gv
 24 19 true (.ia 4 (tm 23) (ci 0)),gf 25 19 true 2 24,gl 26 19 true 25,gv 27 19 true (.icmp .leq .i64 (tm 26) (ci 65536)),oy 28 19 27,om 2 28]
 [2]) .ret))
theorem l125:AU Tryz.prog 125:=⟨Tryz.f125,by kernel_rfl,by kernel_rfl,by kernel_rfl⟩
theorem a125:AOf Tryz.prog 125 c125 [.t 2]:=mkA (fn:=Tryz.f125) (c:=Tryz.f125.body.getD .skip) (fz:=[]) (im:=[]) kp125 (by kernel_rfl) (by kernel_rfl) (by kernel_rfl) (by kernel_rfl) (by kernel_rfl)
def kp98 (r:Nat):List Nat:=match r with
 |0=>[0]
 |1=>[0,6]
 |2=>[0]
 |3=>[0,3]
 |4=>[3]
 |5=>[2]
 |_=>[]
def c98:ACode:=
(sq (rg [oi 2 0] [0]) (sq (sq (rg [om 4 0,oe 5 125 [(tm 4)],ot 6 5] [0,6]) (.cond (tm 6) (rg [om 7 0,oe 8 106 [(tm 7)]] [0]) .skip)) (sq (rg [
 om 9 0,ov 10 (.nilc (tm 9)),of 11 0 10,ol 12 11,ov 13 (.ia 4 (tm 12) (ci 0)),of 14 2 13,ol 15 14,om 3 15] [0,3]) (sq (rg [om 16 0,om 17 0,
 ov 18 (.nilc (tm 17)),of 19 0 18,ol 20 19,ov 21 (.sl 4 (tm 20) (some (ci 1)) none none),ov 22 (.nilc (tm 16)),of 23 0 22,⟨none,none,.st 1 (tm
 23) (tm 21)⟩] [3]) (sq (rg [om 24 3,om 2 24] [2]) .ret)))))
theorem l98:AU Tryz.prog 98:=⟨Tryz.f98,by kernel_rfl,by kernel_rfl,by kernel_rfl⟩
theorem a98:AOf Tryz.prog 98 c98 [.t 2]:=mkA (fn:=Tryz.f98) (c:=Tryz.f98.body.getD .skip) (fz:=[]) (im:=[(1,1),(2,1)]) kp98 (by kernel_rfl) (by kernel_rfl) (by kernel_rfl) (by kernel_rfl) (by kernel_rfl)
def kp97 (r:Nat):List Nat:=match r with
 |0=>[0]
 |1=>[0,19]
 |2=>[0]
 |3=>[0,3]
 |4=>[3]
 |5=>[2]
 |_=>[]
def c97:ACode:=
(sq (rg [ov 2 (.mv (.c zr))] [0]) (sq (sq (rg [om 4 0,ov 5 (.nilc (tm 4)),of 6 0 5,ol 7 6,on 8 7,ov 9 (.icmp .eql .i64 (tm 8) (ci 0)),om 10 9,
 gm 11 10 false 0,gv 12 10 false (.nilc (tm 11)),gf 13 10 false 0 12,gl 14 10 false 13,gv 15 10 false (.ia 4 (tm 14) (ci 0)),gf 16 10 false 0 15,
 gl 17 10 false 16,gv 18 10 false (.icmp .neq .i64 (tm 17) (ci 1)),oz 19 10 18] [0,19]) (.cond (tm 19) (rg [om 20 0,oe 21 106 [(tm 20)]] [0])
 .skip)) (sq (rg [om 22 0,ov 23 (.nilc (tm 22)),of 24 0 23,ol 25 24,ov 26 (.ia 4 (tm 25) (ci 0)),of 27 1 26,ol 28 27,om 3 28] [0,3]) (sq (rg [
 om 29 0,om 30 0,ov 31 (.nilc (tm 30)),of 32 0 31,ol 33 32,ov 34 (.sl 4 (tm 33) (some (ci 1)) none none),ov 35 (.nilc (tm 29)),of 36 0 35,
 ⟨none,none,.st 1 (tm 36) (tm 34)⟩] [3]) (sq (rg [om 37 3,om 2 37] [2]) .ret)))))
theorem l97:AU Tryz.prog 97:=⟨Tryz.f97,by kernel_rfl,by kernel_rfl,by kernel_rfl⟩
theorem a97:AOf Tryz.prog 97 c97 [.t 2]:=mkA (fn:=Tryz.f97) (c:=Tryz.f97.body.getD .skip) (fz:=[]) (im:=[(2,1)]) kp97 (by kernel_rfl) (by kernel_rfl) (by kernel_rfl) (by kernel_rfl) (by kernel_rfl)
def kp102 (r:Nat):List Nat:=match r with
 |0=>[0,2]
 |1=>[0,2]
 |2=>[0,2]
 |3=>[2]
 |4=>[2]
 |_=>[]
def c102:ACode:=
(sq (.reg 1 [⟨some 2,none,.alloc 0 [zr,z0]⟩] [0,2]) (sq (rg [om 3 0,oe 4 97 [(tm 3)],of 5 0 2,⟨none,none,.st 1 (tm 5) (tm 4)⟩] [0,2]) (sq
 (rg [om 6 0,ov 7 (.bs 1 1 zr [(0,(.c (.str [61])))]),oe 8 96 [(tm 6),(tm 7)]] [0,2]) (sq (rg [om 9 0,oe 10 98 [(tm 9)],of 11 1 2,⟨none,
 none,.st 1 (tm 11) (tm 10)⟩] [2]) (sq (rg [ov 12 (.ld 2 true (tm 2)),⟨none,none,.st 2 (tm 2) (tm 12)⟩] [2]) .ret)))))
theorem l102:AU Tryz.prog 102:=⟨Tryz.f102,by kernel_rfl,by kernel_rfl,by kernel_rfl⟩
theorem a102:AOf Tryz.prog 102 c102 [.c 2 2 true]:=mkA (fn:=Tryz.f102) (c:=Tryz.f102.body.getD .skip) (fz:=[]) (im:=[(1,1),(2,2),(3,1)]) kp102 (by kernel_rfl) (by kernel_rfl) (by kernel_rfl) (by kernel_rfl) (by kernel_rfl)
def kp165 (r:Nat):List Nat:=match r with
 |0=>[0]
 |1=>[0]
 |2=>[0,3]
 |3=>[3]
 |4=>[2]
 |_=>[]
def c165:ACode:=
(sq (rg [ov 2 (.mv (.c zs))] [0]) (sq (rg [om 4 0,ov 5 (.bs 1 1 zr [(0,(.c (.str [123])))]),oe 6 96 [(tm 4),(tm 5)]] [0]) (sq (rg [om 7 0,oe 8
 173 [(tm 7),(.c (.fn (.func 97) [] []))],om 3 8] [0,3]) (sq (rg [om 9 0,ov 10 (.bs 1 1 zr [(0,(.c (.str [125])))]),oe 11 96 [(tm 9),(tm 10)]]
 [3]) (sq (rg [om 12 3,om 2 12] [2]) .ret)))))
theorem l165:AU Tryz.prog 165:=⟨Tryz.f165,by kernel_rfl,by kernel_rfl,by kernel_rfl⟩
theorem a165:AOf Tryz.prog 165 c165 [.t 2]:=mkA (fn:=Tryz.f165) (c:=Tryz.f165.body.getD .skip) (fz:=[]) (im:=[(1,2),(2,1),(3,2)]) kp165 (by kernel_rfl) (by kernel_rfl) (by kernel_rfl) (by kernel_rfl) (by kernel_rfl)
def kp153 (r:Nat):List Nat:=match r with
 |2=>[0,1,10]
 |3=>[0,1]
 |4=>[0,1,16]
 |5=>[0,1]
 |0=>[0,1]
 |1=>[0,1]
 |6=>[0,1,23]
 |7=>[]
 |8=>[]
 |_=>[]
def c153:ACode:=
(sq (.block 0 (sq (rg [om 11 0,oe 12 99 [(tm 11),(.c (.str [105,115]))],om 10 12] [0,1,10]) (.cond (tm 10) (rg [om 13 1,ov 14 (.nilc (tm 13)),
 of 15 8 14,⟨none,none,.st 1 (tm 15) (ci 1)⟩] [0,1]) (sq (rg [om 17 0,oe 18 99 [(tm 17),(.c (.str [109,111,115,116]))],om 16 18] [0,1,16])
 (.cond (tm 16) (rg [om 19 1,ov 20 (.nilc (tm 19)),of 21 8 20,⟨none,none,.st 1 (tm 21) (ci 2)⟩] [0,1]) (sq (rg [om 4 0,ov 5 (.bs 1 1 zr [(0,
 (.c (.str [108,101,97,115,116])))]),oe 6 96 [(tm 4),(tm 5)]] [0,1]) (rg [om 7 1,ov 8 (.nilc (tm 7)),of 9 8 8,⟨none,none,.st 1 (tm 9) (ci
 3)⟩] [0,1]))))))) (sq (sq (rg [om 22 0,oe 23 125 [(tm 22)]] [0,1,23]) (.cond (tm 23) (sq (rg [om 24 1,om 25 0,oe 26 98 [(tm 25)],ov 27 (.nilc
 (tm 24)),of 28 9 27,⟨none,none,.st 1 (tm 28) (tm 26)⟩] []) .ret) .skip)) (rg [om 29 1,om 30 0,oe 31 97 [(tm 30)],ov 32 (.nilc (tm 29)),of 33
 10 32,⟨none,none,.st 1 (tm 33) (tm 31)⟩] [])))
theorem l153:AU Tryz.prog 153:=⟨Tryz.f153,by kernel_rfl,by kernel_rfl,by kernel_rfl⟩
theorem a153:AOf Tryz.prog 153 c153 []:=mkA (fn:=Tryz.f153) (c:=Tryz.f153.body.getD .skip) (fz:=[]) (im:=[(2,1),(4,1),(0,2),(6,1),(7,2),(8,2)]) kp153 (by kernel_rfl) (by kernel_rfl) (by kernel_rfl) (by kernel_rfl) (by kernel_rfl)
def kp146 (r:Nat):List Nat:=match r with
 |0=>[0,1]
 |6=>[0,1,28]
 |7=>[]
 |8=>[0,1,34]
 |9=>[0,1]
 |10=>[0,1]
 |11=>[]
 |12=>[0,1,48]
 |13=>[0,1]
 |14=>[]
 |15=>[0,1,57]
 |16=>[]
 |1=>[0,1]
 |2=>[0,1]
 |3=>[0,1]
 |4=>[0,1]
 |5=>[]
 |_=>[]
def c146:ACode:=
(sq (rg [om 4 1,om 5 0,oe 6 97 [(tm 5)],ov 7 (.nilc (tm 4)),of 8 1 7,⟨none,none,.st 1 (tm 8) (tm 6)⟩] [0,1]) (.block 0 (sq (rg [om 29 0,oe
 30 99 [(tm 29),(.c (.str [100,105,102,102,101,114,101,110,116]))],om 28 30] [0,1,28]) (.cond (tm 28) (rg [om 31 1,ov 32 (.nilc (tm 31)),
 of 33 2 32,⟨none,none,.st 1 (tm 33) (ci 1)⟩] []) (sq (rg [om 35 0,oe 36 99 [(tm 35),(.c (.str [99,111,117,110,116]))],om 34 36] [0,1,34])
 (.cond (tm 34) (sq (rg [om 37 1,ov 38 (.nilc (tm 37)),of 39 2 38,⟨none,none,.st 1 (tm 39) (ci 2)⟩] [0,1]) (sq (rg [om 40 1,om 41 0,oe 42 165
 [(tm 41)],ov 43 (.nilc (tm 40)),of 44 4 43,⟨none,none,.st 1 (tm 44) (tm 42)⟩] [0,1]) (rg [om 45 0,om 46 1,oe 47 153 [(tm 45),(tm 46)]] [])))
 (sq (rg [om 49 0,oe 50 99 [(tm 49),(.c (.str [115,117,109]))],om 48 50] [0,1,48]) (.cond (tm 48) (sq (rg [om 51 1,ov 52 (.nilc (tm 51)),of
 53 2 52,⟨none,none,.st 1 (tm 53) (ci 3)⟩] [0,1]) (rg [om 54 0,om 55 1,oe 56 153 [(tm 54),(tm 55)]] [])) (sq (rg [om 58 0,oe 59 99 [(tm 58),
 (.c (.str [114,105,115,101]))],om 57 59] [0,1,57]) (.cond (tm 57) (rg [om 60 1,ov 61 (.nilc (tm 60)),of 62 2 61,⟨none,none,.st 1 (tm 62)
 (ci 4)⟩] []) (sq (rg [om 9 0,ov 10 (.bs 1 1 zr [(0,(.c (.str [114,117,110,115])))]),oe 11 96 [(tm 9),(tm 10)]] [0,1]) (sq (rg [om 12 1,ov
 13 (.nilc (tm 12)),of 14 2 13,⟨none,none,.st 1 (tm 14) (ci 5)⟩] [0,1]) (sq (rg [om 15 1,om 16 0,oe 17 165 [(tm 16)],ov 18 (.nilc (tm 15)),of
 19 4 18,⟨none,none,.st 1 (tm 19) (tm 17)⟩] [0,1]) (sq (rg [om 20 0,ov 21 (.bs 1 1 zr [(0,(.c (.str [98,121])))]),oe 22 96 [(tm 20),(tm 21)]]
 [0,1]) (rg [om 23 1,om 24 0,oe 25 97 [(tm 24)],ov 26 (.nilc (tm 23)),of 27 10 26,⟨none,none,.st 1 (tm 27) (tm 25)⟩] [])))))))))))))))
theorem l146:AU Tryz.prog 146:=⟨Tryz.f146,by kernel_rfl,by kernel_rfl,by kernel_rfl⟩
theorem a146:AOf Tryz.prog 146 c146 []:=mkA (fn:=Tryz.f146) (c:=Tryz.f146.body.getD .skip) (fz:=[]) (im:=[(0,2),(6,1),(8,1),(10,2),(11,2),(12,1),(14,2),(15,1),(1,2),(3,2),(4,2),(5,2)]) kp146 (by kernel_rfl) (by kernel_rfl) (by kernel_rfl) (by kernel_rfl) (by kernel_rfl)
def kp149 (r:Nat):List Nat:=match r with
 |0=>[0,1]
 |1=>[0,1]
 |2=>[]
 |_=>[]
def c149:ACode:=
(sq (rg [om 4 1,om 5 0,oe 6 165 [(tm 5)],ov 7 (.nilc (tm 4)),of 8 4 7,⟨none,none,.st 1 (tm 8) (tm 6)⟩] [0,1]) (sq (rg [om 9 0,ov 10 (.bs 1 1
 zr [(0,(.c (.str [98,101,115,105,100,101])))]),oe 11 96 [(tm 9),(tm 10)]] [0,1]) (rg [om 12 1,om 13 0,oe 14 165 [(tm 13)],ov 15 (.nilc
 (tm 12)),of 16 5 15,⟨none,none,.st 1 (tm 16) (tm 14)⟩] [])))
theorem l149:AU Tryz.prog 149:=⟨Tryz.f149,by kernel_rfl,by kernel_rfl,by kernel_rfl⟩
theorem a149:AOf Tryz.prog 149 c149 []:=mkA (fn:=Tryz.f149) (c:=Tryz.f149.body.getD .skip) (fz:=[]) (im:=[(0,2),(1,2),(2,2)]) kp149 (by kernel_rfl) (by kernel_rfl) (by kernel_rfl) (by kernel_rfl) (by kernel_rfl)
def kp147 (r:Nat):List Nat:=match r with
 |_=>[]
def c147:ACode:=
.skip
theorem l147:AU Tryz.prog 147:=⟨Tryz.f147,by kernel_rfl,by kernel_rfl,by kernel_rfl⟩
theorem a147:AOf Tryz.prog 147 c147 []:=mkA (fn:=Tryz.f147) (c:=Tryz.f147.body.getD .skip) (fz:=[]) (im:=[]) kp147 (by kernel_rfl) (by kernel_rfl) (by kernel_rfl) (by kernel_rfl) (by kernel_rfl)
def kp148 (r:Nat):List Nat:=match r with
 |0=>[]
 |_=>[]
def c148:ACode:=
(rg [om 4 1,om 5 0,oe 6 98 [(tm 5)],ov 7 (.nilc (tm 4)),of 8 9 7,⟨none,none,.st 1 (tm 8) (tm 6)⟩] [])
theorem l148:AU Tryz.prog 148:=⟨Tryz.f148,by kernel_rfl,by kernel_rfl,by kernel_rfl⟩
theorem a148:AOf Tryz.prog 148 c148 []:=mkA (fn:=Tryz.f148) (c:=Tryz.f148.body.getD .skip) (fz:=[]) (im:=[(0,2)]) kp148 (by kernel_rfl) (by kernel_rfl) (by kernel_rfl) (by kernel_rfl) (by kernel_rfl)
def kp150 (r:Nat):List Nat:=match r with
 |0=>[]
 |_=>[]
def c150:ACode:=
(rg [om 4 1,om 5 0,oe 6 165 [(tm 5)],ov 7 (.nilc (tm 4)),of 8 4 7,⟨none,none,.st 1 (tm 8) (tm 6)⟩] [])
theorem l150:AU Tryz.prog 150:=⟨Tryz.f150,by kernel_rfl,by kernel_rfl,by kernel_rfl⟩
theorem a150:AOf Tryz.prog 150 c150 []:=mkA (fn:=Tryz.f150) (c:=Tryz.f150.body.getD .skip) (fz:=[]) (im:=[(0,2)]) kp150 (by kernel_rfl) (by kernel_rfl) (by kernel_rfl) (by kernel_rfl) (by kernel_rfl)
def kp151 (r:Nat):List Nat:=match r with
 |0=>[]
 |_=>[]
def c151:ACode:=
(rg [om 4 1,om 5 0,oe 6 97 [(tm 5)],ov 7 (.nilc (tm 4)),of 8 10 7,⟨none,none,.st 1 (tm 8) (tm 6)⟩] [])
theorem l151:AU Tryz.prog 151:=⟨Tryz.f151,by kernel_rfl,by kernel_rfl,by kernel_rfl⟩
theorem a151:AOf Tryz.prog 151 c151 []:=mkA (fn:=Tryz.f151) (c:=Tryz.f151.body.getD .skip) (fz:=[]) (im:=[(0,2)]) kp151 (by kernel_rfl) (by kernel_rfl) (by kernel_rfl) (by kernel_rfl) (by kernel_rfl)
def kp152 (r:Nat):List Nat:=match r with
 |0=>[]
 |_=>[]
def c152:ACode:=
(rg [om 4 1,om 5 0,oe 6 97 [(tm 5)],ov 7 (.nilc (tm 4)),of 8 1 7,⟨none,none,.st 1 (tm 8) (tm 6)⟩] [])
theorem l152:AU Tryz.prog 152:=⟨Tryz.f152,by kernel_rfl,by kernel_rfl,by kernel_rfl⟩
theorem a152:AOf Tryz.prog 152 c152 []:=mkA (fn:=Tryz.f152) (c:=Tryz.f152.body.getD .skip) (fz:=[]) (im:=[(0,2)]) kp152 (by kernel_rfl) (by kernel_rfl) (by kernel_rfl) (by kernel_rfl) (by kernel_rfl)
def kp105 (r:Nat):List Nat:=match r with
 |0=>[0,2]
 |1=>[0,2]
 |2=>[0,2]
 |3=>[0,2,3]
 |4=>[0,2,3,15,16,17]
 |5=>[0,2,3,15,16,17,18]
 |6=>[0,2,3,5,15,16,17]
 |7=>[0,2,3,5,15,16,17,23]
 |8=>[0,2,3,5]
 |9=>[0,2,3,5]
 |10=>[0,2]
 |11=>[2]
 |12=>[2]
 |13=>[0,2,3,15,16,17]
 |14=>[2]
 |15=>[2]
 |_=>[]
def c105:ACode:=
(sq (.reg 1 [⟨some 2,none,.alloc 0 [zr,zr,z0,z0,zs,zs,z0,z0,z0,z0,zr,z0]⟩] [0,2]) (sq (rg [om 6 0,oe 7 97 [(tm 6)],of 8 0 2,⟨none,
 none,.st 1 (tm 8) (tm 7)⟩] [0,2]) (sq (rg [om 9 0,ov 10 (.bs 1 1 zr [(0,(.c (.str [58])))]),oe 11 96 [(tm 9),(tm 10)]] [0,2]) (sq (rg [oe 12
 127 [],om 3 12] [0,2,3]) (sq (sq (rg [om 13 3,oe 14 129 [(tm 13)],oc 15 128 [(tm 14)],on 16 15,oi 17 0] [0,2,3,15,16,17]) (.block 0
 (.loop (sq (rg [ov 18 (.icmp .lss .i64 (tm 17) (tm 16))] [0,2,3,15,16,17,18]) (sq (.cond (tm 18) .skip (.exit 0)) (sq (.block 1 (sq (rg [oa 19
 1 15 17,ol 20 19,om 5 20] [0,2,3,5,15,16,17]) (sq (rg [om 21 0,om 22 5,oe 23 126 [(tm 21),(tm 22)]] [0,2,3,5,15,16,17,23]) (.cond
 (tm 23) (sq (rg [om 24 0,om 25 5,ov 26 (.bs 1 1 zr [(0,(tm 25))]),oe 27 96 [(tm 24),(tm 26)]] [0,2,3,5]) (sq (rg [om 28 3,om 29 5,⟨some
 30,none,.ext (.look .str (.agg [z0,.nilfn]) false) [(tm 28),(tm 29)]⟩,ov 31 (.fld 0 1 false (tm 30)),of 32 2 2,⟨none,none,.st 1 (tm 32) (tm
 31)⟩] [0,2,3,5]) (sq (rg [om 33 3,om 34 5,⟨some 35,none,.ext (.look .str (.agg [z0,.nilfn]) false) [(tm 33),(tm 34)]⟩,ov 36 (.fld 1 1 false
 (tm 35)),om 37 0,⟨some 38,none,.call false (tm 36) [(tm 37),(tm 2)]⟩] [0,2]) (sq (rg [om 39 0,ov 40 (.bs 1 1 zr [(0,(.c (.str [59])))]),oe
 41 96 [(tm 39),(tm 40)]] [2]) (sq (rg [ov 42 (.ld 12 true (tm 2)),⟨none,none,.st 12 (tm 2) (tm 42)⟩] [2]) .ret))))) .skip)))) (rg [ov 43 (.arith
 .add .i64 (tm 17) (ci 1)),om 17 43] [0,2,3,15,16,17]))))))) (sq (rg [om 44 0,oe 45 106 [(tm 44)]] [2]) (sq (rg [ov 46 (.ld 12 true (tm 2)),
 ⟨none,none,.st 12 (tm 2) (tm 46)⟩] [2]) .ret)))))))
theorem l105:AU Tryz.prog 105:=⟨Tryz.f105,by kernel_rfl,by kernel_rfl,by kernel_rfl⟩
theorem a105:AOf Tryz.prog 105 c105 [.c 2 12 true]:=mkA (fn:=Tryz.f105) (c:=Tryz.f105.body.getD .skip) (fz:=[]) (im:=[(10,5),(1,1),(2,2),(3,0),(4,1),(7,2),(8,3),(11,2),(14,1)]) kp105 (by kernel_rfl) (by kernel_rfl) (by kernel_rfl) (by kernel_rfl) (by kernel_rfl)
def kp104 (r:Nat):List Nat:=match r with
 |0=>[0,2]
 |1=>[0,2]
 |2=>[0,2]
 |3=>[0,2]
 |6=>[0,2,16]
 |7=>[0,2]
 |8=>[0,2,20]
 |9=>[0,2]
 |10=>[0,2]
 |11=>[0,2]
 |12=>[0,2]
 |4=>[0,2]
 |5=>[0,2]
 |13=>[2]
 |14=>[2]
 |_=>[]
def c104:ACode:=
(sq (.reg 1 [⟨some 2,none,.alloc 0 [zr,zr,z0,z0,z0,z0]⟩] [0,2]) (sq (rg [om 3 0,oe 4 97 [(tm 3)],of 5 0 2,⟨none,none,.st 1 (tm 5) (tm
 4)⟩] [0,2]) (sq (rg [om 6 0,ov 7 (.bs 1 1 zr [(0,(.c (.str [111,110])))]),oe 8 96 [(tm 6),(tm 7)]] [0,2]) (sq (rg [om 9 0,oe 10 97 [(tm 9)],
 of 11 1 2,⟨none,none,.st 1 (tm 11) (tm 10)⟩] [0,2]) (sq (.block 0 (sq (rg [om 17 0,oe 18 99 [(tm 17),(.c (.str [115,121,109,98,111,
 108]))],om 16 18] [0,2,16]) (.cond (tm 16) (rg [of 19 3 2,⟨none,none,.st 1 (tm 19) (ci 1)⟩] [0,2]) (sq (rg [om 21 0,oe 22 99 [(tm 21),(.c
 (.str [110,117,109,98,101,114]))],om 20 22] [0,2,20]) (.cond (tm 20) (sq (rg [of 23 3 2,⟨none,none,.st 1 (tm 23) (ci 2)⟩] [0,2]) (sq (rg
 [om 24 0,oe 25 98 [(tm 24)],of 26 4 2,⟨none,none,.st 1 (tm 26) (tm 25)⟩] [0,2]) (sq (rg [om 27 0,ov 28 (.bs 1 1 zr [(0,(.c (.str [116,
 111])))]),oe 29 96 [(tm 27),(tm 28)]] [0,2]) (rg [om 30 0,oe 31 98 [(tm 30)],of 32 5 2,⟨none,none,.st 1 (tm 32) (tm 31)⟩] [0,2])))) (sq (rg
 [om 12 0,ov 13 (.bs 1 1 zr [(0,(.c (.str [114,117,110,115])))]),oe 14 96 [(tm 12),(tm 13)]] [0,2]) (rg [of 15 3 2,⟨none,none,.st 1 (tm
 15) (ci 3)⟩] [0,2]))))))) (sq (rg [om 33 0,ov 34 (.bs 1 1 zr [(0,(.c (.str [59])))]),oe 35 96 [(tm 33),(tm 34)]] [2]) (sq (rg [ov 36 (.ld 6
 true (tm 2)),⟨none,none,.st 6 (tm 2) (tm 36)⟩] [2]) .ret)))))))
theorem l104:AU Tryz.prog 104:=⟨Tryz.f104,by kernel_rfl,by kernel_rfl,by kernel_rfl⟩
theorem a104:AOf Tryz.prog 104 c104 [.c 2 6 true]:=mkA (fn:=Tryz.f104) (c:=Tryz.f104.body.getD .skip) (fz:=[]) (im:=[(1,1),(2,2),(3,1),(6,1),(8,1),(10,1),(11,2),(12,1),(4,2),(13,2)]) kp104 (by kernel_rfl) (by kernel_rfl) (by kernel_rfl) (by kernel_rfl) (by kernel_rfl)
def kp103 (r:Nat):List Nat:=match r with
 |0=>[0,2]
 |1=>[0,2]
 |2=>[0,2]
 |3=>[0,2,10]
 |4=>[0,2]
 |5=>[0,2]
 |6=>[2]
 |7=>[2]
 |_=>[]
def c103:ACode:=
(sq (.reg 1 [⟨some 2,none,.alloc 0 [zr,zs]⟩] [0,2]) (sq (rg [om 3 0,oe 4 97 [(tm 3)],of 5 0 2,⟨none,none,.st 1 (tm 5) (tm 4)⟩] [0,2]) (sq
 (rg [om 6 0,ov 7 (.bs 1 1 zr [(0,(.c (.str [123])))]),oe 8 96 [(tm 6),(tm 7)]] [0,2]) (sq (.block 0 (.loop (sq (sq (rg [om 9 0,oe 10 125 [(tm
 9)]] [0,2,10]) (.cond (tm 10) .skip (.exit 0))) (.block 1 (sq (.regx 8 [(0,of 11 1 2),(300004,ol 12 11),(0,om 13 0),(300003,oe 14 100 [(tm
 13),(.c (.fn (.func 98) [] []))]),(0,ov 15 (.bs 1 1 zs [(0,(tm 14))])),(0,⟨some 16,none,.app 5 1 24 (tm 12) (tm 15) false⟩),(0,of 17 1 2),
 (0,⟨none,none,.st 1 (tm 17) (tm 16)⟩)] [0,2]) (rg [om 18 0,ov 19 (.bs 1 1 zr [(0,(.c (.str [59])))]),oe 20 96 [(tm 18),(tm 19)]] [0,2]))))))
 (sq (rg [om 21 0,ov 22 (.bs 1 1 zr [(0,(.c (.str [125])))]),oe 23 96 [(tm 21),(tm 22)]] [2]) (sq (rg [ov 24 (.ld 2 true (tm 2)),⟨none,none,
 .st 2 (tm 2) (tm 24)⟩] [2]) .ret))))))
theorem l103:AU Tryz.prog 103:=⟨Tryz.f103,by kernel_rfl,by kernel_rfl,by kernel_rfl⟩
theorem a103:AOf Tryz.prog 103 c103 [.c 2 2 true]:=mkA (fn:=Tryz.f103) (c:=Tryz.f103.body.getD .skip) (fz:=[(700011,300001),(800014,300000)]) (im:=[(1,1),(2,2),(3,1),(4,3),(5,2),(6,2)]) kp103 (by kernel_rfl) (by kernel_rfl) (by kernel_rfl) (by kernel_rfl) (by kernel_rfl)
def kp57 (r:Nat):List Nat:=match r with
 |0=>[0,2]
 |1=>[0,2]
 |2=>[0,2]
 |3=>[0,2]
 |4=>[0,2]
 |5=>[0,2]
 |6=>[0,2]
 |7=>[0,2,21]
 |8=>[0,2]
 |9=>[0,2]
 |10=>[0,2]
 |11=>[0,2]
 |12=>[0,2]
 |13=>[0,2,36]
 |14=>[0,2]
 |15=>[0,2]
 |16=>[0,2]
 |17=>[0,2]
 |18=>[0,2,50]
 |19=>[0,2]
 |20=>[0,2,59]
 |21=>[0,2]
 |22=>[0,2,68]
 |23=>[0,2]
 |24=>[0,2]
 |25=>[0,2,84]
 |26=>[2]
 |27=>[2]
 |_=>[]
def c57:ACode:=
(sq (.reg 1 [⟨some 2,none,.alloc 0 [zr,z0,z0,z0,z0,zs,zs,zs,zs,zs]⟩] [0,2]) (sq (rg [om 3 0,ov 4 (.bs 1 1 zr [(0,(.c (.str [107,105,
 110,100])))]),oe 5 96 [(tm 3),(tm 4)]] [0,2]) (sq (rg [om 6 0,oe 7 97 [(tm 6)],of 8 0 2,⟨none,none,.st 1 (tm 8) (tm 7)⟩] [0,2]) (sq (rg [
 om 9 0,ov 10 (.bs 1 1 zr [(0,(.c (.str [118,101,114,115,105,111,110])))]),oe 11 96 [(tm 9),(tm 10)]] [0,2]) (sq (rg [om 12 0,oe 13 98
 [(tm 12)],of 14 1 2,⟨none,none,.st 1 (tm 14) (tm 13)⟩] [0,2]) (sq (rg [om 15 0,ov 16 (.bs 1 2 zr [(0,(.c (.str [123]))),(1,(.c (.str [103,
 114,105,100])))]),oe 17 96 [(tm 15),(tm 16)]] [0,2]) (sq (sq (rg [of 18 2 2,⟨none,none,.st 1 (tm 18) (ci 2)⟩] [0,2]) (sq (rg [om 19 0,oe
 20 99 [(tm 19),(.c (.str [104,101,120]))],ot 21 20] [0,2,21]) (.cond (tm 21) (sq (rg [om 22 0,ov 23 (.bs 1 1 zr [(0,(.c (.str [115,113,117,
 97,114,101])))]),oe 24 96 [(tm 22),(tm 23)]] [0,2]) (rg [of 25 2 2,⟨none,none,.st 1 (tm 25) (ci 1)⟩] [0,2])) .skip))) (sq (rg [om 26 0,oe
 27 98 [(tm 26)],of 28 3 2,⟨none,none,.st 1 (tm 28) (tm 27)⟩] [0,2]) (sq (rg [om 29 0,ov 30 (.bs 1 1 zr [(0,(.c (.str [98,121])))]),oe 31 96
 [(tm 29),(tm 30)]] [0,2]) (sq (rg [om 32 0,oe 33 98 [(tm 32)],of 34 4 2,⟨none,none,.st 1 (tm 34) (tm 33)⟩] [0,2]) (sq (sq (rg [om 35 0,oe
 36 99 [(tm 35),(.c (.str [119,105,116,104,111,117,116]))]] [0,2,36]) (.cond (tm 36) (rg [om 37 0,oe 38 100 [(tm 37),(.c (.fn (.func 98) []
 []))],of 39 5 2,⟨none,none,.st 1 (tm 39) (tm 38)⟩] [0,2]) .skip)) (sq (rg [om 40 0,ov 41 (.bs 1 2 zr [(0,(.c (.str [59]))),(1,(.c (.str
 [115,121,109,98,111,108,115])))]),oe 42 96 [(tm 40),(tm 41)]] [0,2]) (sq (rg [om 43 0,oe 44 101 [(tm 43),(.c (.fn (.func 102) [] []))],of
 45 6 2,⟨none,none,.st 1 (tm 45) (tm 44)⟩] [0,2]) (sq (rg [om 46 0,ov 47 (.bs 1 1 zr [(0,(.c (.str [59])))]),oe 48 96 [(tm 46),(tm 47)]] [0,
 2]) (sq (.block 0 (.loop (sq (sq (rg [om 49 0,oe 50 99 [(tm 49),(.c (.str [114,101,103,105,111,110,115]))]] [0,2,50]) (.cond (tm 50) .skip
 (.exit 0))) (.block 1 (.regx 8 [(0,of 51 7 2),(300004,ol 52 51),(0,om 53 0),(300003,oe 54 103 [(tm 53)]),(0,ov 55 (.bs 2 1 (.agg [zr,zs])
 [(0,(tm 54))])),(0,⟨some 56,none,.app 5 2 40 (tm 52) (tm 55) false⟩),(0,of 57 7 2),(0,⟨none,none,.st 1 (tm 57) (tm 56)⟩)] [0,2]))))) (sq
 (.block 2 (.loop (sq (sq (rg [om 58 0,oe 59 99 [(tm 58),(.c (.str [99,108,117,101]))]] [0,2,59]) (.cond (tm 59) .skip (.exit 2))) (.block 3
 (.regx 8 [(0,of 60 8 2),(300004,ol 61 60),(0,om 62 0),(300003,oe 63 104 [(tm 62)]),(0,ov 64 (.bs 6 1 (.agg [zr,zr,z0,z0,z0,z0]) [(0,
 (tm 63))])),(0,⟨some 65,none,.app 5 6 64 (tm 61) (tm 64) false⟩),(0,of 66 8 2),(0,⟨none,none,.st 1 (tm 66) (tm 65)⟩)] [0,2]))))) (sq
 (.block 4 (.loop (sq (sq (rg [om 67 0,oe 68 99 [(tm 67),(.c (.str [114,117,108,101]))]] [0,2,68]) (.cond (tm 68) .skip (.exit 4))) (.block 5
 (.regx 8 [(0,of 69 9 2),(300004,ol 70 69),(0,om 71 0),(300003,oe 72 105 [(tm 71)]),(0,ov 73 (.bs 12 1 (.agg [zr,zr,z0,z0,zs,zs,z0,z0,
 z0,z0,zr,z0]) [(0,(tm 72))])),(0,⟨some 74,none,.app 5 12 152 (tm 70) (tm 73) false⟩),(0,of 75 9 2),(0,⟨none,none,.st 1 (tm 75) (tm
 74)⟩)] [0,2]))))) (sq (rg [om 76 0,ov 77 (.bs 1 1 zr [(0,(.c (.str [125])))]),oe 78 96 [(tm 76),(tm 77)]] [0,2]) (sq (sq (rg [om 79 0,ov 80
 (.nilc (tm 79)),of 81 0 80,ol 82 81,on 83 82,ov 84 (.icmp .gtr .i64 (tm 83) (ci 0))] [0,2,84]) (.cond (tm 84) (rg [om 85 0,oe 86 106 [(tm
 85)]] [2]) .skip)) (sq (rg [ov 87 (.ld 10 true (tm 2)),⟨none,none,.st 10 (tm 2) (tm 87)⟩] [2]) .ret))))))))))))))))))))
theorem l57:AU Tryz.prog 57:=⟨Tryz.f57,by kernel_rfl,by kernel_rfl,by kernel_rfl⟩
theorem a57:AOf Tryz.prog 57 c57 [.c 2 10 true]:=mkA (fn:=Tryz.f57) (c:=Tryz.f57.body.getD .skip) (fz:=[(700051,300001),(800054,300000),(700060,300001),(800063,300000),(700069,300001),(800072,300000)]) (im:=[(1,2),(2,1),(3,2),(4,1),(5,2),(7,1),(8,2),(10,1),(11,2),(12,1),(13,1),(14,1),(15,2),(16,1),(17,2),(18,1),(19,3),(20,1),(21,3),(22,1),(23,3),(24,2),(26,1)]) kp57 (by kernel_rfl) (by kernel_rfl) (by kernel_rfl) (by kernel_rfl) (by kernel_rfl)
def kp173 (r:Nat):List Nat:=match r with
 |0=>[0,1]
 |1=>[0,1,5]
 |2=>[0,1,5,11]
 |3=>[0,1,5]
 |4=>[4]
 |_=>[]
def c173:ACode:=
(sq (rg [ov 4 (.mv (.c zs))] [0,1]) (sq (rg [om 6 1,om 7 0,⟨some 8,none,.call false (tm 6) [(tm 7)]⟩,ov 9 (.bs 1 1 zr [(0,(tm 8))]),om 5 9]
 [0,1,5]) (sq (.block 0 (.loop (sq (sq (rg [om 10 0,oe 11 99 [(tm 10),(.c (.str [44]))]] [0,1,5,11]) (.cond (tm 11) .skip (.exit 0))) (.block 1
 (.reg 7 [om 12 5,om 13 1,om 14 0,⟨some 15,none,.call false (tm 13) [(tm 14)]⟩,ov 16 (.bs 1 1 zr [(0,(tm 15))]),⟨some 17,none,.app 5 1 16
 (tm 12) (tm 16) false⟩,om 5 17] [0,1,5]))))) (sq (rg [om 18 5,om 4 18] [4]) .ret))))
theorem l173:AU Tryz.prog 173:=⟨Tryz.f173,by kernel_rfl,by kernel_rfl,by kernel_rfl⟩
theorem a173:AOf Tryz.prog 173 c173 [.t 4]:=mkA (fn:=Tryz.f173) (c:=Tryz.f173.body.getD .skip) (fz:=[]) (im:=[(1,2),(3,3),(2,1)]) kp173 (by kernel_rfl) (by kernel_rfl) (by kernel_rfl) (by kernel_rfl) (by kernel_rfl)
def kp100 (r:Nat):List Nat:=match r with
 |0=>[0,1]
 |1=>[0,1,5]
 |2=>[0,1,5,11]
 |3=>[0,1,5]
 |4=>[4]
 |_=>[]
def c100:ACode:=
(sq (rg [ov 4 (.mv (.c zs))] [0,1]) (sq (rg [om 6 1,om 7 0,⟨some 8,none,.call false (tm 6) [(tm 7)]⟩,ov 9 (.bs 1 1 z0 [(0,(tm 8))]),om 5 9]
 [0,1,5]) (sq (.block 0 (.loop (sq (sq (rg [om 10 0,oe 11 99 [(tm 10),(.c (.str [44]))]] [0,1,5,11]) (.cond (tm 11) .skip (.exit 0))) (.block 1
 (.reg 7 [om 12 5,om 13 1,om 14 0,⟨some 15,none,.call false (tm 13) [(tm 14)]⟩,ov 16 (.bs 1 1 z0 [(0,(tm 15))]),⟨some 17,none,.app 5 1 8 (tm
 12) (tm 16) false⟩,om 5 17] [0,1,5]))))) (sq (rg [om 18 5,om 4 18] [4]) .ret))))
theorem l100:AU Tryz.prog 100:=⟨Tryz.f100,by kernel_rfl,by kernel_rfl,by kernel_rfl⟩
theorem a100:AOf Tryz.prog 100 c100 [.t 4]:=mkA (fn:=Tryz.f100) (c:=Tryz.f100.body.getD .skip) (fz:=[]) (im:=[(1,2),(3,3),(2,1)]) kp100 (by kernel_rfl) (by kernel_rfl) (by kernel_rfl) (by kernel_rfl) (by kernel_rfl)
def kp101 (r:Nat):List Nat:=match r with
 |0=>[0,1]
 |1=>[0,1,5]
 |2=>[0,1,5,11]
 |3=>[0,1,5]
 |4=>[4]
 |_=>[]
def c101:ACode:=
(sq (rg [ov 4 (.mv (.c zs))] [0,1]) (sq (rg [om 6 1,om 7 0,⟨some 8,none,.call false (tm 6) [(tm 7)]⟩,ov 9 (.bs 2 1 (.agg [zr,z0]) [(0,(tm
 8))]),om 5 9] [0,1,5]) (sq (.block 0 (.loop (sq (sq (rg [om 10 0,oe 11 99 [(tm 10),(.c (.str [44]))]] [0,1,5,11]) (.cond (tm 11) .skip (.exit
 0))) (.block 1 (.reg 7 [om 12 5,om 13 1,om 14 0,⟨some 15,none,.call false (tm 13) [(tm 14)]⟩,ov 16 (.bs 2 1 (.agg [zr,z0]) [(0,(tm 15))]),
 ⟨some 17,none,.app 5 2 24 (tm 12) (tm 16) false⟩,om 5 17] [0,1,5]))))) (sq (rg [om 18 5,om 4 18] [4]) .ret))))
theorem l101:AU Tryz.prog 101:=⟨Tryz.f101,by kernel_rfl,by kernel_rfl,by kernel_rfl⟩
theorem a101:AOf Tryz.prog 101 c101 [.t 4]:=mkA (fn:=Tryz.f101) (c:=Tryz.f101.body.getD .skip) (fz:=[]) (im:=[(1,2),(3,3),(2,1)]) kp101 (by kernel_rfl) (by kernel_rfl) (by kernel_rfl) (by kernel_rfl) (by kernel_rfl)
def kp127 (r:Nat):List Nat:=match r with
 |0=>[]
 |1=>[0]
 |_=>[]
def c127:ACode:=
(sq (rg [ov 0 (.mv (.c .nilmp))] []) (sq (.reg 21 [⟨some 1,none,.ext (.mkm 0) []⟩,ov 2 (.build [z0,.nilfn] [(0,1,(ci 0)),(1,1,(.c (.fn
 (.func 146) [] [])))]),⟨none,none,.ext (.mput .str) [(tm 1),(.c (.str [101,97,99,104])),(tm 2)]⟩,ov 3 (.build [z0,.nilfn] [(0,1,(ci 6)),
 (1,1,(.c (.fn (.func 147) [] [])))]),⟨none,none,.ext (.mput .str) [(tm 1),(.c (.str [117,110,108,105,107,101])),(tm 3)]⟩,ov 4 (.build
 [z0,.nilfn] [(0,1,(ci 7)),(1,1,(.c (.fn (.func 148) [] [])))]),⟨none,none,.ext (.mput .str) [(tm 1),(.c (.str [97,112,97,114,116])),(tm
 4)]⟩,ov 5 (.build [z0,.nilfn] [(0,1,(ci 8)),(1,1,(.c (.fn (.func 149) [] [])))]),⟨none,none,.ext (.mput .str) [(tm 1),(.c (.str [110,111,
 116])),(tm 5)]⟩,ov 6 (.build [z0,.nilfn] [(0,1,(ci 9)),(1,1,(.c (.fn (.func 150) [] [])))]),⟨none,none,.ext (.mput .str) [(tm 1),(.c (.str
 [99,111,110,110,101,99,116,101,100])),(tm 6)]⟩,ov 7 (.build [z0,.nilfn] [(0,1,(ci 10)),(1,1,(.c (.fn (.func 150) [] [])))]),⟨none,
 none,.ext (.mput .str) [(tm 1),(.c (.str [108,111,111,112])),(tm 7)]⟩,ov 8 (.build [z0,.nilfn] [(0,1,(ci 11)),(1,1,(.c (.fn (.func 151)
 [] [])))]),⟨none,none,.ext (.mput .str) [(tm 1),(.c (.str [103,105,118,101,110])),(tm 8)]⟩,ov 9 (.build [z0,.nilfn] [(0,1,(ci 12)),(1,
 1,(.c (.fn (.func 152) [] [])))]),⟨none,none,.ext (.mput .str) [(tm 1),(.c (.str [102,105,108,108,101,100])),(tm 9)]⟩,ov 10 (.build [z0,
 .nilfn] [(0,1,(ci 13)),(1,1,(.c (.fn (.func 153) [] [])))]),⟨none,none,.ext (.mput .str) [(tm 1),(.c (.str [115,116,101,112,115])),(tm
 10)]⟩,om 11 1,om 0 11] [0]) .ret))
theorem a127:AOf Tryz.prog 127 c127 [.t 0]:=mkA (fn:=Tryz.f127) (c:=Tryz.f127.body.getD .skip) (fz:=[]) (im:=[]) kp127 (by kernel_rfl) (by kernel_rfl) (by kernel_rfl) (by kernel_rfl) (by kernel_rfl)
def kp56 (r:Nat):List Nat:=match r with
 |0=>[0,1,2,3]
 |1=>[0,1,2,3,8]
 |2=>[0,1,2,3,4,5]
 |3=>[0,1,2,3,4,15]
 |4=>[0,1,2,4]
 |5=>[]
 |_=>[]
def c56:ACode:=
(sq (rg [om 7 3,⟨some 8,none,.ext (.nileq 0 true) [(tm 7)]⟩] [0,1,2,3,8]) (.cond (tm 8) (sq (.reg 8 [om 10 3,⟨some 11,none,.ext (.tas 100
 true (.agg [z0])) [(tm 10)]⟩,om 9 11,ox 12 0 9,ox 13 1 9,⟨some 4,none,.alloc 5 [z0]⟩,⟨none,none,.st 1 (tm 4) (tm 12)⟩,om 5 13] [0,1,2,3,
 4,5]) (sq (sq (rg [om 14 5,ot 15 14] [0,1,2,3,4,15]) (.cond (tm 15) (rg [om 16 3,⟨none,none,.pan (tm 16)⟩] [0,1,2,4]) .skip)) (.regx 0
 [(0,ov 17 (.build [zr,z0,z0,z0,z0,zs,zs,zs,zs,zs] [])),(0,of 18 0 4),(300004,ol 19 18),(300003,⟨none,none,.st 10 (tm 0) (tm 17)⟩),
 (0,⟨none,none,.st 1 (tm 1) (tm 19)⟩),(0,⟨none,none,.st 1 (tm 2) (ci 150)⟩)] []))) .skip))
theorem l56:AU Tryz.prog 56:=⟨Tryz.f56,by kernel_rfl,by kernel_rfl,by kernel_rfl⟩
theorem a56 {args:List AVal} {rv:AVal} {H:AD} {n:Nat} {Rc:AD→Nat→Prop} (h:awp Tryz.prog c56 (Cg [] fun o H' n'=>o= .ret (.tup [])∧Rc H' n') ⟨(3,true,rv)::(6,true,rv)::penv 0 args,H,n⟩):Bz Tryz.prog 56 args rv H n Rc:=
 Hj (id:=0) (fn:=Tryz.f56) (ops:=LP (sqH (Tryz.f56.body.getD .skip))) (X:=sqT (Tryz.f56.body.getD .skip)) (y:=c56) (fz:=[(700018,300001),(700000,300000)]) (im:=[]) (kp:=kp56) (t3:=3) (t4:=6) (by kernel_rfl) (by kernel_rfl) (by kernel_rfl) (by kernel_rfl) (by kernel_rfl) (by kernel_rfl) h
def kp23 (r:Nat):List Nat:=match r with
 |0=>[0,1,4,5,6]
 |1=>[0,1,4,5,6]
 |2=>[4,5,6]
 |_=>[]
def So:ACode:=
 (.reg 3 [
  ⟨some 4,none,.alloc 0 [(.str []),(.int .i64 0),(.int .i64 0),(.int .i64 0),(.int .i64 0),(.sl .nil []),(.sl .nil []),(.sl .nil []),(.sl .nil []),(.sl .nil [])]⟩,
  ⟨some 5,none,.alloc 1 [(.int .i64 0)]⟩,
  ⟨some 6,none,.alloc 2 [(.int .i64 0)]⟩] [0,1,4,5,6])
def c23:ACode:=
(sq (.reg 8 [om 8 0,om 9 1,ov 10 (.build [zs,z0] [(0,1,(tm 8)),(1,1,(tm 9))]),⟨some 11,none,.box 3 2 (tm 10)⟩,oe 12 57 [(tm 11)],⟨none,
 none,.st 10 (tm 4) (tm 12)⟩,⟨none,none,.st 1 (tm 5) (ci 0)⟩,⟨none,none,.st 1 (tm 6) (ci 0)⟩] [4,5,6]) .ret)
theorem a23 {args:List AVal} {H:AD} {n:Nat} {R:AOut→AD→Nat→Prop} (h:awp Tryz.prog (FC [So]) (KS Tryz.prog 7 ⟨(some 7),none,.v (.fn (.func 56) [] [(.t 4),(.t 5),(.t 6)])⟩ c23 7 56 [.c 4 10 true,.c 5 1 false,.c 6 1 false] R) ⟨penv 0 args,H,n⟩):AP Tryz.prog 23 args H n R:=
 FD (id:=1) (fn:=Tryz.f23) (pre:=[sqH (Tryz.f23.body.getD .skip)]) (ys:=[So]) (ops:=LP (sqH (sqT (Tryz.f23.body.getD .skip)))) (X:=(sqT (sqT (Tryz.f23.body.getD .skip)))) (y:=c23) (fz:=[]) (fzX:=[(999999,7)]) (im:=[(2,4)]) (kp:=kp23) (rs:=[.c 4 10 true,.c 5 1 false,.c 6 1 false]) (d0:=(some 7)) (k:=.fn (.func 56) [] [(.t 4),(.t 5),(.t 6)]) (t:=7) (by kernel_rfl) (by kernel_rfl) (by kernel_rfl) (by kernel_rfl) (by kernel_rfl) (by kernel_rfl) (by kernel_rfl) (by kernel_rfl) (by kernel_rfl) l56 h
def kp10 (r:Nat):List Nat:=match r with
 |0=>[0,2]
 |1=>[0,2,3,4,5]
 |2=>[0,2,3,4,5,13]
 |3=>[2,3,4]
 |4=>[2,3,4]
 |_=>[]
def c10:ACode:=
(sq (.reg 3 [⟨some 2,none,.alloc 0 [zr,z0,z0,z0,z0,zs,zs,zs,zs,zs]⟩,oi 3 0,oi 4 0] [0,2]) (sq (rg [om 7 0,oc 8 18 [(tm 7)],om 6 8,ox
 9 0 6,ox 10 1 6,ox 11 2 6,om 5 9,om 3 10,om 4 11] [0,2,3,4,5]) (sq (sq (rg [om 12 4,ov 13 (.icmp .neq .i64 (tm 12) (ci 0))] [0,2,3,4,5,
 13]) (.cond (tm 13) (sq (rg [ov 14 (.build [zr,z0,z0,z0,z0,zs,zs,zs,zs,zs] []),om 15 3,om 16 4,⟨none,none,.st 10 (tm 2) (tm 14)⟩,om 3
 15,om 4 16] [2,3,4]) .ret) .skip)) (sq (rg [om 17 5,om 18 0,ov 19 (.lenS (tm 18)),oc 20 23 [(tm 17),(tm 19)],ox 21 0 20,ox 22 1 20,ox 23 2
 20,⟨none,none,.st 10 (tm 2) (tm 21)⟩,om 3 22,om 4 23] [2,3,4]) .ret))))
theorem a10:AOf Tryz.prog 10 c10 [.c 2 10 true,.t 3,.t 4]:=mkA (fn:=Tryz.f10) (c:=Tryz.f10.body.getD .skip) (fz:=[]) (im:=[]) kp10 (by kernel_rfl) (by kernel_rfl) (by kernel_rfl) (by kernel_rfl) (by kernel_rfl)
end Go.AM
end
section
set_option maxRecDepth 20000
set_option linter.all false
namespace Go.AM
open Go.Proofs
def kp75 (r:Nat):List Nat:=match r with
 |0=>[0,15,16,17]
 |1=>[0,15,16,17,18]
 |2=>[0,5,15,16,17]
 |3=>[0,15,16,17,21]
 |4=>[0,15,16,17,21,23,24]
 |5=>[0,6,15,16,17]
 |6=>[0,15,16,17]
 |7=>[0,15,16,17,21,37,38]
 |8=>[0,7,15,16,17]
 |9=>[0,15,16,17]
 |10=>[0,15,16,17,21,51,52]
 |11=>[0,8,15,16,17]
 |12=>[0,15,16,17]
 |13=>[0,15,16,17,21,65,66]
 |14=>[0,9,15,16,17]
 |15=>[0,15,16,17,67,68,69]
 |16=>[0,15,16,17,67,68,69,70]
 |17=>[0,10,11,15,16,17,67,68,69]
 |18=>[0,11,15,16,17,67,68,69,75]
 |19=>[0,11,15,16,17,67,68,69]
 |20=>[0,15,16,17,67,68,69]
 |21=>[0,15,16,17,67,68,69]
 |22=>[0,15,16,17,87,88]
 |23=>[0,12,15,16,17]
 |24=>[0,12,15,16,17]
 |25=>[0,15,16,17,93,94,95]
 |26=>[0,15,16,17,93,94,95,96]
 |27=>[0,13,14,15,16,17,93,94,95]
 |28=>[0,14,15,16,17,93,94,95,101]
 |29=>[0,14,15,16,17,93,94,95]
 |30=>[0,15,16,17,93,94,95]
 |31=>[0,15,16,17,93,94,95]
 |32=>[0,15,16,17]
 |33=>[0,15,16,17]
 |_=>[]
def c75:ACode:=
(sq (rg [om 15 1,on 16 15,oi 17 0] [0,15,16,17]) (.block 0 (.loop (sq (rg [ov 18 (.icmp .lss .i64 (tm 17) (tm 16))] [0,15,16,17,18]) (sq
 (.cond (tm 18) .skip (.exit 0)) (sq (.block 1 (sq (rg [oa 19 1 15 17,ol 20 19,om 5 20] [0,5,15,16,17]) (sq (rg [om 21 5] [0,15,16,17,21])
 (.block 2 (sq (rg [⟨some 22,none,.ext (.tas 9 true zr) [(tm 21)]⟩,ox 23 1 22,ox 24 0 22] [0,15,16,17,21,23,24]) (.cond (tm 23) (sq (rg [om
 6 24] [0,6,15,16,17]) (.reg 12 [om 25 0,om 26 0,ov 27 (.nilc (tm 26)),of 28 0 27,ol 29 28,om 30 6,ov 31 (.build [z0,zr,z0,z0] [(0,1,
 (ci 1)),(1,1,(tm 30))]),ov 32 (.bs 4 1 (.agg [z0,zr,z0,z0]) [(0,(tm 31))]),⟨some 33,none,.app 8 4 40 (tm 29) (tm 32) false⟩,ov 34 (.nilc
 (tm 25)),of 35 0 34,⟨none,none,.st 1 (tm 35) (tm 33)⟩] [0,15,16,17])) (sq (rg [⟨some 36,none,.ext (.tas 125 true zr) [(tm 21)]⟩,ox 37 1 36,
 ox 38 0 36] [0,15,16,17,21,37,38]) (.cond (tm 37) (sq (rg [om 7 38] [0,7,15,16,17]) (.reg 12 [om 39 0,om 40 0,ov 41 (.nilc (tm 40)),of
 42 0 41,ol 43 42,om 44 7,ov 45 (.build [z0,zr,z0,z0] [(0,1,(ci 3)),(1,1,(tm 44))]),ov 46 (.bs 4 1 (.agg [z0,zr,z0,z0]) [(0,(tm 45))]),
 ⟨some 47,none,.app 8 4 40 (tm 43) (tm 46) false⟩,ov 48 (.nilc (tm 39)),of 49 0 48,⟨none,none,.st 1 (tm 49) (tm 47)⟩] [0,15,16,17])) (sq (rg
 [⟨some 50,none,.ext (.tas 3 true z0) [(tm 21)]⟩,ox 51 1 50,ox 52 0 50] [0,15,16,17,21,51,52]) (.cond (tm 51) (sq (rg [om 8 52] [0,8,15,
 16,17]) (.reg 12 [om 53 0,om 54 0,ov 55 (.nilc (tm 54)),of 56 0 55,ol 57 56,om 58 8,ov 59 (.build [z0,zr,z0,z0] [(0,1,(ci 2)),(2,1,(tm
 58))]),ov 60 (.bs 4 1 (.agg [z0,zr,z0,z0]) [(0,(tm 59))]),⟨some 61,none,.app 8 4 40 (tm 57) (tm 60) false⟩,ov 62 (.nilc (tm 53)),of 63 0 62,
 ⟨none,none,.st 1 (tm 63) (tm 61)⟩] [0,15,16,17])) (sq (rg [⟨some 64,none,.ext (.tas 23 true zs) [(tm 21)]⟩,ox 65 1 64,ox 66 0 64] [0,15,
 16,17,21,65,66]) (.cond (tm 65) (sq (rg [om 9 66] [0,9,15,16,17]) (sq (rg [om 67 9,on 68 67,oi 69 0] [0,15,16,17,67,68,69]) (.block
 3 (.loop (sq (rg [ov 70 (.icmp .lss .i64 (tm 69) (tm 68))] [0,15,16,17,67,68,69,70]) (sq (.cond (tm 70) .skip (.exit 3)) (sq (.block 4 (sq (rg
 [om 71 69,oa 72 1 67 69,ol 73 72,om 10 71,om 11 73] [0,10,11,15,16,17,67,68,69]) (sq (sq (rg [om 74 10,ov 75 (.icmp .gtr .i64 (tm 74)
 (ci 0))] [0,11,15,16,17,67,68,69,75]) (.cond (tm 75) (rg [om 76 0,ov 77 (.ifc 125 (.c (.str [44]))),ov 78 (.bs 1 1 .nilifc [(0,(tm 77))]),
 oe 79 75 [(tm 76),(tm 78)]] [0,11,15,16,17,67,68,69]) .skip)) (rg [om 80 0,om 81 11,ov 82 (.ifc 3 (tm 81)),ov 83 (.bs 1 1 .nilifc [(0,(tm
 82))]),oe 84 75 [(tm 80),(tm 83)]] [0,15,16,17,67,68,69])))) (rg [ov 85 (.arith .add .i64 (tm 69) (ci 1)),om 69 85] [0,15,16,17,67,68,
 69])))))))) (sq (rg [⟨some 86,none,.ext (.tas 57 true zs) [(tm 21)]⟩,ox 87 1 86,ox 88 0 86] [0,15,16,17,87,88]) (.cond (tm 87) (sq (rg [om
 12 88] [0,12,15,16,17]) (sq (rg [om 89 0,ov 90 (.ifc 125 (.c (.str [123]))),ov 91 (.bs 1 1 .nilifc [(0,(tm 90))]),oe 92 75 [(tm 89),(tm
 91)]] [0,12,15,16,17]) (sq (sq (rg [om 93 12,on 94 93,oi 95 0] [0,15,16,17,93,94,95]) (.block 5 (.loop (sq (rg [ov 96 (.icmp .lss .i64
 (tm 95) (tm 94))] [0,15,16,17,93,94,95,96]) (sq (.cond (tm 96) .skip (.exit 5)) (sq (.block 6 (sq (rg [om 97 95,oa 98 1 93 95,ol 99 98,om
 13 97,om 14 99] [0,13,14,15,16,17,93,94,95]) (sq (sq (rg [om 100 13,ov 101 (.icmp .gtr .i64 (tm 100) (ci 0))] [0,14,15,16,17,93,94,
 95,101]) (.cond (tm 101) (rg [om 102 0,ov 103 (.ifc 125 (.c (.str [44]))),ov 104 (.bs 1 1 .nilifc [(0,(tm 103))]),oe 105 75 [(tm 102),(tm
 104)]] [0,14,15,16,17,93,94,95]) .skip)) (rg [om 106 0,om 107 14,ov 108 (.ifc 9 (tm 107)),ov 109 (.bs 1 1 .nilifc [(0,(tm 108))]),oe 110
 75 [(tm 106),(tm 109)]] [0,15,16,17,93,94,95])))) (rg [ov 111 (.arith .add .i64 (tm 95) (ci 1)),om 95 111] [0,15,16,17,93,94,95])))))))
 (rg [om 112 0,ov 113 (.ifc 125 (.c (.str [125]))),ov 114 (.bs 1 1 .nilifc [(0,(tm 113))]),oe 115 75 [(tm 112),(tm 114)]] [0,15,16,17]))))
 .skip)))))))))))))) (rg [ov 116 (.arith .add .i64 (tm 17) (ci 1)),om 17 116] [0,15,16,17])))))))
theorem a75:AOf Tryz.prog 75 c75 []:=mkA (fn:=Tryz.f75) (c:=Tryz.f75.body.getD .skip) (fz:=[]) (im:=[(19,3),(20,4),(24,3),(29,3),(30,4),(32,3)]) kp75 (by kernel_rfl) (by kernel_rfl) (by kernel_rfl) (by kernel_rfl) (by kernel_rfl)
def kp115 (r:Nat):List Nat:=match r with
 |0=>[0,3]
 |1=>[0,3]
 |2=>[0,3,20]
 |3=>[]
 |4=>[]
 |_=>[]
def c115:ACode:=
(sq (.reg 1 [⟨some 3,none,.box 0 12 (tm 1)⟩] [0,3]) (sq (rg [om 4 0,ov 5 (.ifc 9 (.c (.str [105,115]))),ov 6 (.ifc 9 (.c (.str [105,115]))),
 ov 7 (.ifc 9 (.c (.str [109,111,115,116]))),ov 8 (.ifc 9 (.c (.str [108,101,97,115,116]))),ov 9 (.bs 1 4 .nilifc [(0,(tm 5)),(1,(tm 6)),
 (2,(tm 7)),(3,(tm 8))]),of 10 8 3,ol 11 10,ov 12 (.mnmx false .i64 [(tm 11),(ci 3)]),ov 13 (.mnmx true .i64 [(ci 0),(tm 12)]),oa 14 1 9 13,
 ol 15 14,ov 16 (.bs 1 1 .nilifc [(0,(tm 15))]),oe 17 75 [(tm 4),(tm 16)]] [0,3]) (sq (rg [of 18 10 3,ol 19 18,ov 20 (.scmp .neq (tm 19) (.c
 zr))] [0,3,20]) (.cond (tm 20) (rg [om 21 0,of 22 10 3,ol 23 22,ov 24 (.ifc 9 (tm 23)),ov 25 (.bs 1 1 .nilifc [(0,(tm 24))]),oe 26 75 [(tm
 21),(tm 25)]] []) (rg [om 27 0,of 28 9 3,ol 29 28,ov 30 (.ifc 3 (tm 29)),ov 31 (.bs 1 1 .nilifc [(0,(tm 30))]),oe 32 75 [(tm 27),(tm 31)]]
 [])))))
theorem a115:AOf Tryz.prog 115 c115 []:=mkA (fn:=Tryz.f115) (c:=Tryz.f115.body.getD .skip) (fz:=[]) (im:=[(1,13),(3,5),(4,5)]) kp115 (by kernel_rfl) (by kernel_rfl) (by kernel_rfl) (by kernel_rfl) (by kernel_rfl)
def kp77 (r:Nat):List Nat:=match r with
 |0=>[0,3]
 |1=>[0,3]
 |2=>[0,3,13]
 |3=>[0,3,13,14]
 |4=>[0]
 |5=>[0,3,13,24]
 |6=>[0,3]
 |7=>[0]
 |8=>[0,3,13,40]
 |9=>[0,3]
 |10=>[0]
 |11=>[0,3,13,53]
 |12=>[0]
 |13=>[0,3,13,63]
 |14=>[0]
 |15=>[0,3,13,80]
 |16=>[0]
 |17=>[0,3,13,86]
 |18=>[0]
 |19=>[0,3,13,95]
 |20=>[0]
 |21=>[0,3,13,108]
 |22=>[0]
 |23=>[0,3,13,117]
 |24=>[0]
 |25=>[0,3,13,126]
 |26=>[0]
 |27=>[0,3,13,135]
 |28=>[0]
 |29=>[0,3,144]
 |30=>[0,3]
 |31=>[0]
 |32=>[]
 |_=>[]
def c77:ACode:=
(sq (.reg 1 [⟨some 3,none,.box 0 12 (tm 1)⟩] [0,3]) (sq (rg [om 4 0,ov 5 (.ifc 9 (.c (.str [114,117,108,101]))),of 6 0 3,ol 7 6,ov 8 (.ifc
 9 (tm 7)),ov 9 (.ifc 125 (.c (.str [58]))),ov 10 (.bs 1 3 .nilifc [(0,(tm 5)),(1,(tm 8)),(2,(tm 9))]),oe 11 75 [(tm 4),(tm 10)]] [0,3]) (sq
 (sq (rg [of 12 2 3,ol 13 12] [0,3,13]) (.block 0 (sq (rg [ov 15 (.icmp .eql .i64 (tm 13) (ci 1)),om 14 15] [0,3,13,14]) (.cond (tm 14) (rg [
 om 16 0,ov 17 (.ifc 9 (.c (.str [101,97,99,104]))),of 18 1 3,ol 19 18,ov 20 (.ifc 9 (tm 19)),ov 21 (.ifc 9 (.c (.str [100,105,102,102,101,
 114,101,110,116]))),ov 22 (.bs 1 3 .nilifc [(0,(tm 17)),(1,(tm 20)),(2,(tm 21))]),oe 23 75 [(tm 16),(tm 22)]] [0]) (sq (rg [ov 25 (.icmp
 .eql .i64 (tm 13) (ci 2)),om 24 25] [0,3,13,24]) (.cond (tm 24) (sq (rg [om 26 0,ov 27 (.ifc 9 (.c (.str [101,97,99,104]))),of 28 1 3,ol 29
 28,ov 30 (.ifc 9 (tm 29)),ov 31 (.ifc 9 (.c (.str [99,111,117,110,116]))),of 32 4 3,ol 33 32,ov 34 (.ifc 57 (tm 33)),ov 35 (.bs 1 4 .nilifc
 [(0,(tm 27)),(1,(tm 30)),(2,(tm 31)),(3,(tm 34))]),oe 36 75 [(tm 26),(tm 35)]] [0,3]) (rg [om 37 0,ov 38 (.ld 12 true (tm 3)),oe 39 115
 [(tm 37),(tm 38)]] [0])) (sq (rg [ov 41 (.icmp .eql .i64 (tm 13) (ci 3)),om 40 41] [0,3,13,40]) (.cond (tm 40) (sq (rg [om 42 0,ov 43 (.ifc 9
 (.c (.str [101,97,99,104]))),of 44 1 3,ol 45 44,ov 46 (.ifc 9 (tm 45)),ov 47 (.ifc 9 (.c (.str [115,117,109]))),ov 48 (.bs 1 3 .nilifc [(0,
 (tm 43)),(1,(tm 46)),(2,(tm 47))]),oe 49 75 [(tm 42),(tm 48)]] [0,3]) (rg [om 50 0,ov 51 (.ld 12 true (tm 3)),oe 52 115 [(tm 50),(tm 51)]]
 [0])) (sq (rg [ov 54 (.icmp .eql .i64 (tm 13) (ci 4)),om 53 54] [0,3,13,53]) (.cond (tm 53) (rg [om 55 0,ov 56 (.ifc 9 (.c (.str [101,97,99,
 104]))),of 57 1 3,ol 58 57,ov 59 (.ifc 9 (tm 58)),ov 60 (.ifc 9 (.c (.str [114,105,115,101]))),ov 61 (.bs 1 3 .nilifc [(0,(tm 56)),(1,(tm
 59)),(2,(tm 60))]),oe 62 75 [(tm 55),(tm 61)]] [0]) (sq (rg [ov 64 (.icmp .eql .i64 (tm 13) (ci 5)),om 63 64] [0,3,13,63]) (.cond (tm 63) (rg
 [om 65 0,ov 66 (.ifc 9 (.c (.str [101,97,99,104]))),of 67 1 3,ol 68 67,ov 69 (.ifc 9 (tm 68)),ov 70 (.ifc 9 (.c (.str [114,117,110,
 115]))),of 71 4 3,ol 72 71,ov 73 (.ifc 57 (tm 72)),ov 74 (.ifc 9 (.c (.str [98,121]))),of 75 10 3,ol 76 75,ov 77 (.ifc 9 (tm 76)),ov 78 (.bs
 1 6 .nilifc [(0,(tm 66)),(1,(tm 69)),(2,(tm 70)),(3,(tm 73)),(4,(tm 74)),(5,(tm 77))]),oe 79 75 [(tm 65),(tm 78)]] [0]) (sq (rg [ov 81
 (.icmp .eql .i64 (tm 13) (ci 6)),om 80 81] [0,3,13,80]) (.cond (tm 80) (rg [om 82 0,ov 83 (.ifc 9 (.c (.str [117,110,108,105,107,101]))),
 ov 84 (.bs 1 1 .nilifc [(0,(tm 83))]),oe 85 75 [(tm 82),(tm 84)]] [0]) (sq (rg [ov 87 (.icmp .eql .i64 (tm 13) (ci 7)),om 86 87] [0,3,13,86])
 (.cond (tm 86) (rg [om 88 0,ov 89 (.ifc 9 (.c (.str [97,112,97,114,116]))),of 90 9 3,ol 91 90,ov 92 (.ifc 3 (tm 91)),ov 93 (.bs 1 2 .nilifc
 [(0,(tm 89)),(1,(tm 92))]),oe 94 75 [(tm 88),(tm 93)]] [0]) (sq (rg [ov 96 (.icmp .eql .i64 (tm 13) (ci 8)),om 95 96] [0,3,13,95]) (.cond
 (tm 95) (rg [om 97 0,ov 98 (.ifc 9 (.c (.str [110,111,116]))),of 99 4 3,ol 100 99,ov 101 (.ifc 57 (tm 100)),ov 102 (.ifc 9 (.c (.str [98,101,
 115,105,100,101]))),of 103 5 3,ol 104 103,ov 105 (.ifc 57 (tm 104)),ov 106 (.bs 1 4 .nilifc [(0,(tm 98)),(1,(tm 101)),(2,(tm 102)),(3,
 (tm 105))]),oe 107 75 [(tm 97),(tm 106)]] [0]) (sq (rg [ov 109 (.icmp .eql .i64 (tm 13) (ci 9)),om 108 109] [0,3,13,108]) (.cond (tm 108) (rg [
 om 110 0,ov 111 (.ifc 9 (.c (.str [99,111,110,110,101,99,116,101,100]))),of 112 4 3,ol 113 112,ov 114 (.ifc 57 (tm 113)),ov 115 (.bs 1 2
 .nilifc [(0,(tm 111)),(1,(tm 114))]),oe 116 75 [(tm 110),(tm 115)]] [0]) (sq (rg [ov 118 (.icmp .eql .i64 (tm 13) (ci 10)),om 117 118] [0,3,
 13,117]) (.cond (tm 117) (rg [om 119 0,ov 120 (.ifc 9 (.c (.str [108,111,111,112]))),of 121 4 3,ol 122 121,ov 123 (.ifc 57 (tm 122)),ov 124
 (.bs 1 2 .nilifc [(0,(tm 120)),(1,(tm 123))]),oe 125 75 [(tm 119),(tm 124)]] [0]) (sq (rg [ov 127 (.icmp .eql .i64 (tm 13) (ci 11)),om 126 127]
 [0,3,13,126]) (.cond (tm 126) (rg [om 128 0,ov 129 (.ifc 9 (.c (.str [103,105,118,101,110]))),of 130 10 3,ol 131 130,ov 132 (.ifc 9 (tm
 131)),ov 133 (.bs 1 2 .nilifc [(0,(tm 129)),(1,(tm 132))]),oe 134 75 [(tm 128),(tm 133)]] [0]) (sq (rg [ov 136 (.icmp .eql .i64 (tm 13) (ci
 12)),om 135 136] [0,3,13,135]) (.cond (tm 135) (rg [om 137 0,ov 138 (.ifc 9 (.c (.str [102,105,108,108,101,100]))),of 139 1 3,ol 140 139,
 ov 141 (.ifc 9 (tm 140)),ov 142 (.bs 1 2 .nilifc [(0,(tm 138)),(1,(tm 141))]),oe 143 75 [(tm 137),(tm 142)]] [0]) (sq (rg [ov 145 (.icmp .eql
 .i64 (tm 13) (ci 13)),om 144 145] [0,3,144]) (.cond (tm 144) (sq (rg [om 146 0,ov 147 (.ifc 9 (.c (.str [115,116,101,112,115]))),ov 148 (.bs
 1 1 .nilifc [(0,(tm 147))]),oe 149 75 [(tm 146),(tm 148)]] [0,3]) (rg [om 150 0,ov 151 (.ld 12 true (tm 3)),oe 152 115 [(tm 150),(tm 151)]]
 [0])) .skip)))))))))))))))))))))))))))) (rg [om 153 0,ov 154 (.ifc 125 (.c (.str [59]))),ov 155 (.bs 1 1 .nilifc [(0,(tm 154))]),oe 156 75 [(tm
 153),(tm 155)]] []))))
theorem a77:AOf Tryz.prog 77 c77 []:=mkA (fn:=Tryz.f77) (c:=Tryz.f77.body.getD .skip) (fz:=[]) (im:=[(1,7),(4,7),(6,10),(7,2),(9,7),(10,2),(12,7),(14,14),(16,3),(18,6),(20,10),(22,6),(24,6),(26,6),(28,6),(30,3),(31,2),(32,3)]) kp77 (by kernel_rfl) (by kernel_rfl) (by kernel_rfl) (by kernel_rfl) (by kernel_rfl)
def kp76 (r:Nat):List Nat:=match r with
 |0=>[0,3]
 |1=>[0,3]
 |2=>[0,3,16]
 |4=>[0,3,16,21]
 |5=>[0]
 |6=>[0,3,27]
 |7=>[0]
 |3=>[0]
 |8=>[]
 |_=>[]
def c76:ACode:=
(sq (.reg 1 [⟨some 3,none,.box 0 6 (tm 1)⟩] [0,3]) (sq (rg [om 4 0,ov 5 (.ifc 9 (.c (.str [99,108,117,101]))),of 6 0 3,ol 7 6,ov 8 (.ifc 9
 (tm 7)),ov 9 (.ifc 9 (.c (.str [111,110]))),of 10 1 3,ol 11 10,ov 12 (.ifc 9 (tm 11)),ov 13 (.bs 1 4 .nilifc [(0,(tm 5)),(1,(tm 8)),(2,(tm
 9)),(3,(tm 12))]),oe 14 75 [(tm 4),(tm 13)]] [0,3]) (sq (sq (rg [of 15 3 3,ol 16 15] [0,3,16]) (.block 0 (sq (rg [ov 22 (.icmp .eql .i64 (tm
 16) (ci 1)),om 21 22] [0,3,16,21]) (.cond (tm 21) (rg [om 23 0,ov 24 (.ifc 9 (.c (.str [115,121,109,98,111,108]))),ov 25 (.bs 1 1 .nilifc
 [(0,(tm 24))]),oe 26 75 [(tm 23),(tm 25)]] [0]) (sq (rg [ov 28 (.icmp .eql .i64 (tm 16) (ci 2)),om 27 28] [0,3,27]) (.cond (tm 27) (rg [om 29
 0,ov 30 (.ifc 9 (.c (.str [110,117,109,98,101,114]))),of 31 4 3,ol 32 31,ov 33 (.ifc 3 (tm 32)),ov 34 (.ifc 9 (.c (.str [116,111]))),of 35
 5 3,ol 36 35,ov 37 (.ifc 3 (tm 36)),ov 38 (.bs 1 4 .nilifc [(0,(tm 30)),(1,(tm 33)),(2,(tm 34)),(3,(tm 37))]),oe 39 75 [(tm 29),(tm 38)]]
 [0]) (rg [om 17 0,ov 18 (.ifc 9 (.c (.str [114,117,110,115]))),ov 19 (.bs 1 1 .nilifc [(0,(tm 18))]),oe 20 75 [(tm 17),(tm 19)]] [0])))))))
 (rg [om 40 0,ov 41 (.ifc 125 (.c (.str [59]))),ov 42 (.bs 1 1 .nilifc [(0,(tm 41))]),oe 43 75 [(tm 40),(tm 42)]] []))))
theorem a76:AOf Tryz.prog 76 c76 []:=mkA (fn:=Tryz.f76) (c:=Tryz.f76.body.getD .skip) (fz:=[]) (im:=[(1,10),(5,3),(7,10),(3,3),(8,3)]) kp76 (by kernel_rfl) (by kernel_rfl) (by kernel_rfl) (by kernel_rfl) (by kernel_rfl)
def kp30 (r:Nat):List Nat:=match r with
 |0=>[0,3]
 |1=>[0,3]
 |2=>[0,3,29]
 |3=>[0,3]
 |4=>[0,3]
 |5=>[0,3]
 |6=>[0,3,51]
 |7=>[0,3]
 |8=>[0,3]
 |9=>[0,3,65,66,67]
 |10=>[0,3,65,66,67,68]
 |11=>[0,3,4,5,65,66,67]
 |12=>[0,3,5,65,66,67,73]
 |13=>[0,3,5,65,66,67]
 |14=>[0,3,65,66,67]
 |15=>[0,3,65,66,67]
 |16=>[0,3]
 |17=>[0,3,94,95,96]
 |18=>[0,3,94,95,96,97]
 |19=>[0,3,7,94,95,96]
 |20=>[0,3,7,94,95,96]
 |21=>[0,3,94,95,96,109,110,111]
 |22=>[0,3,94,95,96,109,110,111,112]
 |23=>[0,3,9,94,95,96,109,110,111]
 |24=>[0,3,94,95,96,109,110,111]
 |25=>[0,3,94,95,96,109,110,111]
 |26=>[0,3,94,95,96]
 |27=>[0,3,94,95,96]
 |28=>[0,3,128,129,130]
 |29=>[0,3,128,129,130,131]
 |30=>[0,3,11,128,129,130]
 |31=>[0,3,128,129,130]
 |32=>[0,3,128,129,130]
 |33=>[0,139,140,141]
 |34=>[0,139,140,141,142]
 |35=>[0,13,139,140,141]
 |36=>[0,139,140,141]
 |37=>[0,139,140,141]
 |38=>[]
 |_=>[]
def c30:ACode:=
(sq (.reg 1 [⟨some 3,none,.box 0 10 (tm 1)⟩] [0,3]) (sq (rg [om 14 0,ov 15 (.ifc 9 (.c (.str [107,105,110,100]))),of 16 0 3,ol 17 16,ov 18
 (.ifc 9 (tm 17)),ov 19 (.ifc 9 (.c (.str [118,101,114,115,105,111,110]))),of 20 1 3,ol 21 20,ov 22 (.ifc 3 (tm 21)),ov 23 (.ifc 125 (.c
 (.str [123]))),ov 24 (.ifc 9 (.c (.str [103,114,105,100]))),ov 25 (.bs 1 6 .nilifc [(0,(tm 15)),(1,(tm 18)),(2,(tm 19)),(3,(tm 22)),(4,
 (tm 23)),(5,(tm 24))]),oe 26 75 [(tm 14),(tm 25)]] [0,3]) (sq (sq (rg [of 27 2 3,ol 28 27,ov 29 (.icmp .eql .i64 (tm 28) (ci 2))] [0,3,29])
 (.cond (tm 29) (rg [om 30 0,ov 31 (.ifc 9 (.c (.str [104,101,120]))),ov 32 (.bs 1 1 .nilifc [(0,(tm 31))]),oe 33 75 [(tm 30),(tm 32)]] [0,3])
 (rg [om 34 0,ov 35 (.ifc 9 (.c (.str [115,113,117,97,114,101]))),ov 36 (.bs 1 1 .nilifc [(0,(tm 35))]),oe 37 75 [(tm 34),(tm 36)]] [0,
 3]))) (sq (rg [om 38 0,of 39 3 3,ol 40 39,ov 41 (.ifc 3 (tm 40)),ov 42 (.ifc 9 (.c (.str [98,121]))),of 43 4 3,ol 44 43,ov 45 (.ifc 3 (tm
 44)),ov 46 (.bs 1 3 .nilifc [(0,(tm 41)),(1,(tm 42)),(2,(tm 45))]),oe 47 75 [(tm 38),(tm 46)]] [0,3]) (sq (sq (rg [of 48 5 3,ol 49 48,on
 50 49,ov 51 (.icmp .gtr .i64 (tm 50) (ci 0))] [0,3,51]) (.cond (tm 51) (rg [om 52 0,ov 53 (.ifc 9 (.c (.str [119,105,116,104,111,117,
 116]))),of 54 5 3,ol 55 54,ov 56 (.ifc 23 (tm 55)),ov 57 (.bs 1 2 .nilifc [(0,(tm 53)),(1,(tm 56))]),oe 58 75 [(tm 52),(tm 57)]] [0,3])
 .skip)) (sq (rg [om 59 0,ov 60 (.ifc 125 (.c (.str [59]))),ov 61 (.ifc 9 (.c (.str [115,121,109,98,111,108,115]))),ov 62 (.bs 1 2 .nilifc
 [(0,(tm 60)),(1,(tm 61))]),oe 63 75 [(tm 59),(tm 62)]] [0,3]) (sq (sq (rg [of 64 6 3,ol 65 64,on 66 65,oi 67 0] [0,3,65,66,67]) (.block
 0 (.loop (sq (rg [ov 68 (.icmp .lss .i64 (tm 67) (tm 66))] [0,3,65,66,67,68]) (sq (.cond (tm 68) .skip (.exit 0)) (sq (.block 1 (sq (.reg 6 [om
 69 67,oa 70 2 65 67,ov 71 (.ld 2 true (tm 70)),⟨some 5,none,.alloc 3 [zr,z0]⟩,om 4 69,⟨none,none,.st 2 (tm 5) (tm 71)⟩] [0,3,4,5,65,66,
 67]) (sq (sq (rg [om 72 4,ov 73 (.icmp .gtr .i64 (tm 72) (ci 0))] [0,3,5,65,66,67,73]) (.cond (tm 73) (rg [om 74 0,ov 75 (.ifc 125 (.c (.str
 [44]))),ov 76 (.bs 1 1 .nilifc [(0,(tm 75))]),oe 77 75 [(tm 74),(tm 76)]] [0,3,5,65,66,67]) .skip)) (rg [om 78 0,of 79 0 5,ol 80 79,ov 81
 (.ifc 9 (tm 80)),ov 82 (.ifc 125 (.c (.str [61]))),of 83 1 5,ol 84 83,ov 85 (.ifc 3 (tm 84)),ov 86 (.bs 1 3 .nilifc [(0,(tm 81)),(1,(tm 82)),
 (2,(tm 85))]),oe 87 75 [(tm 78),(tm 86)]] [0,3,65,66,67])))) (rg [ov 88 (.arith .add .i64 (tm 67) (ci 1)),om 67 88] [0,3,65,66,67])))))))
 (sq (rg [om 89 0,ov 90 (.ifc 125 (.c (.str [59]))),ov 91 (.bs 1 1 .nilifc [(0,(tm 90))]),oe 92 75 [(tm 89),(tm 91)]] [0,3]) (sq (sq (rg [of 93
 7 3,ol 94 93,on 95 94,oi 96 0] [0,3,94,95,96]) (.block 2 (.loop (sq (rg [ov 97 (.icmp .lss .i64 (tm 96) (tm 95))] [0,3,94,95,96,97]) (sq
 (.cond (tm 97) .skip (.exit 2)) (sq (.block 3 (sq (.reg 4 [oa 98 2 94 96,ov 99 (.ld 2 true (tm 98)),⟨some 7,none,.alloc 2 [zr,zs]⟩,⟨none,none,
 .st 2 (tm 7) (tm 99)⟩] [0,3,7,94,95,96]) (sq (rg [om 100 0,ov 101 (.ifc 9 (.c (.str [114,101,103,105,111,110,115]))),of 102 0 7,ol 103
 102,ov 104 (.ifc 9 (tm 103)),ov 105 (.ifc 125 (.c (.str [123]))),ov 106 (.bs 1 3 .nilifc [(0,(tm 101)),(1,(tm 104)),(2,(tm 105))]),oe 107 75
 [(tm 100),(tm 106)]] [0,3,7,94,95,96]) (sq (sq (rg [of 108 1 7,ol 109 108,on 110 109,oi 111 0] [0,3,94,95,96,109,110,111]) (.block 4
 (.loop (sq (rg [ov 112 (.icmp .lss .i64 (tm 111) (tm 110))] [0,3,94,95,96,109,110,111,112]) (sq (.cond (tm 112) .skip (.exit 4)) (sq (.block
 5 (sq (rg [oa 113 1 109 111,ol 114 113,om 9 114] [0,3,9,94,95,96,109,110,111]) (rg [om 115 0,om 116 9,ov 117 (.ifc 23 (tm 116)),ov 118
 (.ifc 125 (.c (.str [59]))),ov 119 (.bs 1 2 .nilifc [(0,(tm 117)),(1,(tm 118))]),oe 120 75 [(tm 115),(tm 119)]] [0,3,94,95,96,109,110,
 111]))) (rg [ov 121 (.arith .add .i64 (tm 111) (ci 1)),om 111 121] [0,3,94,95,96,109,110,111]))))))) (rg [om 122 0,ov 123 (.ifc 125 (.c
 (.str [125]))),ov 124 (.bs 1 1 .nilifc [(0,(tm 123))]),oe 125 75 [(tm 122),(tm 124)]] [0,3,94,95,96]))))) (rg [ov 126 (.arith .add .i64 (tm
 96) (ci 1)),om 96 126] [0,3,94,95,96]))))))) (sq (sq (rg [of 127 8 3,ol 128 127,on 129 128,oi 130 0] [0,3,128,129,130]) (.block 6 (.loop
 (sq (rg [ov 131 (.icmp .lss .i64 (tm 130) (tm 129))] [0,3,128,129,130,131]) (sq (.cond (tm 131) .skip (.exit 6)) (sq (.block 7 (sq (.reg 4 [oa
 132 6 128 130,ov 133 (.ld 6 true (tm 132)),⟨some 11,none,.alloc 2 [zr,zr,z0,z0,z0,z0]⟩,⟨none,none,.st 6 (tm 11) (tm 133)⟩] [0,3,11,128,
 129,130]) (rg [om 134 0,ov 135 (.ld 6 true (tm 11)),oe 136 76 [(tm 134),(tm 135)]] [0,3,128,129,130]))) (rg [ov 137 (.arith .add .i64 (tm
 130) (ci 1)),om 130 137] [0,3,128,129,130]))))))) (sq (sq (rg [of 138 9 3,ol 139 138,on 140 139,oi 141 0] [0,139,140,141]) (.block 8
 (.loop (sq (rg [ov 142 (.icmp .lss .i64 (tm 141) (tm 140))] [0,139,140,141,142]) (sq (.cond (tm 142) .skip (.exit 8)) (sq (.block 9 (sq (.reg 4 [
 oa 143 12 139 141,ov 144 (.ld 12 true (tm 143)),⟨some 13,none,.alloc 2 [zr,zr,z0,z0,zs,zs,z0,z0,z0,z0,zr,z0]⟩,⟨none,none,.st 12 (tm
 13) (tm 144)⟩] [0,13,139,140,141]) (rg [om 145 0,ov 146 (.ld 12 true (tm 13)),oe 147 77 [(tm 145),(tm 146)]] [0,139,140,141]))) (rg [ov
 148 (.arith .add .i64 (tm 141) (ci 1)),om 141 148] [0,139,140,141]))))))) (rg [om 149 0,ov 150 (.ifc 125 (.c (.str [125]))),ov 151 (.bs 1 1
 .nilifc [(0,(tm 150))]),oe 152 75 [(tm 149),(tm 151)]] []))))))))))))
theorem a30:AOf Tryz.prog 30 c30 []:=mkA (fn:=Tryz.f30) (c:=Tryz.f30.body.getD .skip) (fz:=[]) (im:=[(1,12),(3,3),(4,3),(5,9),(7,6),(8,4),(13,3),(14,9),(16,3),(20,7),(24,5),(26,3),(31,2),(36,2),(38,3)]) kp30 (by kernel_rfl) (by kernel_rfl) (by kernel_rfl) (by kernel_rfl) (by kernel_rfl)
def kp31 (r:Nat):List Nat:=match r with
 |0=>[1,2]
 |1=>[1,2]
 |2=>[1,2,16,17]
 |3=>[1,2,16,17,18]
 |4=>[1,2,3,16,17]
 |5=>[1,2,16,17]
 |6=>[1,2,16,17]
 |7=>[1,2,28,29]
 |8=>[1,2,28,29,30]
 |9=>[1,2,4,28,29]
 |10=>[1,2,5,28,29]
 |11=>[1,2,28,29]
 |12=>[1,2,28,29]
 |13=>[2]
 |_=>[]
def c31:ACode:=
(sq (.reg 2 [⟨some 1,none,.box 0 10 (tm 0)⟩,⟨some 2,none,.alloc 1 [zr,z0,z0,z0,z0,zs,zs,zs,zs,zs]⟩] [1,2]) (sq (.regx 0 [(0,of 6 8
 1),(1,ol 7 6),(0,of 9 9 1),(300008,ol 10 9),(300007,oe 8 78 [(tm 7)]),(0,of 12 8 1),(0,oe 11 79 [(tm 10)]),(0,⟨none,none,.st 1 (tm 12)
 (tm 8)⟩),(0,of 13 9 1),(0,⟨none,none,.st 1 (tm 13) (tm 11)⟩)] [1,2]) (sq (sq (rg [of 14 8 1,ol 15 14,on 16 15,oi 17 0] [1,2,16,17])
 (.block 0 (.loop (sq (rg [ov 18 (.icmp .lss .i64 (tm 17) (tm 16))] [1,2,16,17,18]) (sq (.cond (tm 18) .skip (.exit 0)) (sq (.block 1 (sq (rg [om
 19 17,om 3 19] [1,2,3,16,17]) (rg [of 20 8 1,ol 21 20,om 22 3,oa 23 6 21 22,of 24 2 23,⟨none,none,.st 1 (tm 24) (ci 0)⟩] [1,2,16,
 17]))) (rg [ov 25 (.arith .add .i64 (tm 17) (ci 1)),om 17 25] [1,2,16,17]))))))) (sq (sq (rg [of 26 9 1,ol 27 26,on 28 27,oi 29 0] [1,2,28,
 29]) (.block 2 (.loop (sq (rg [ov 30 (.icmp .lss .i64 (tm 29) (tm 28))] [1,2,28,29,30]) (sq (.cond (tm 30) .skip (.exit 2)) (sq (.block 3 (sq (rg
 [om 31 29,om 4 31] [1,2,4,28,29]) (sq (rg [of 32 9 1,ol 33 32,om 34 4,oa 35 12 33 34,om 5 35] [1,2,5,28,29]) (rg [om 36 5,om 37 5,om
 38 5,om 39 5,ov 40 (.nilc (tm 36)),of 41 3 40,⟨none,none,.st 1 (tm 41) (ci 0)⟩,ov 42 (.nilc (tm 37)),of 43 6 42,⟨none,none,.st 1 (tm 43)
 (ci 0)⟩,ov 44 (.nilc (tm 38)),of 45 7 44,⟨none,none,.st 1 (tm 45) (ci 0)⟩,ov 46 (.nilc (tm 39)),of 47 11 46,⟨none,none,.st 1 (tm 47) (ci
 0)⟩] [1,2,28,29])))) (rg [ov 48 (.arith .add .i64 (tm 29) (ci 1)),om 29 48] [1,2,28,29]))))))) (sq (rg [ov 49 (.ld 10 true (tm 1)),⟨none,
 none,.st 10 (tm 2) (tm 49)⟩] [2]) .ret)))))
theorem a31:AOf Tryz.prog 31 c31 [.c 2 10 true]:=mkA (fn:=Tryz.f31) (c:=Tryz.f31.body.getD .skip) (fz:=[(700009,300005),(800008,300004),(990001,0),(990001,1),(990001,3),(990001,4),(990001,2),(990001,6),(990001,5),(990001,7),(990001,8),(990001,9)]) (im:=[(1,2),(1,5)]) kp31 (by kernel_rfl) (by kernel_rfl) (by kernel_rfl) (by kernel_rfl) (by kernel_rfl)
def kp14 (r:Nat):List Nat:=match r with
 |0=>[1]
 |1=>[1,4]
 |2=>[1,4]
 |3=>[1,2,3,4]
 |4=>[1,2,4,22]
 |5=>[2,3]
 |6=>[1,2,5,7]
 |7=>[2,40]
 |8=>[2,3]
 |9=>[2,3]
 |_=>[]
def c14:ACode:=
(sq (.reg 3 [⟨some 1,none,.box 0 10 (tm 0)⟩,ov 2 (.mv (.c zr)),oi 3 0] [1]) (sq (.reg 3 [ov 8 (.build [zs] []),⟨some 9,none,.box 1 1 (tm 8)⟩,
 om 4 9] [1,4]) (sq (rg [om 10 4,ov 11 (.ld 10 true (tm 1)),oe 12 30 [(tm 10),(tm 11)]] [1,4]) (sq (sq (rg [om 14 4,ov 15 (.nilc (tm 14)),of
 16 0 15,ol 17 16,oc 18 19 [(tm 17)],om 13 18,ox 19 0 13,ox 20 1 13,om 2 19,om 3 20] [1,2,3,4]) (sq (rg [om 21 3,ov 22 (.icmp .neq .i64 (tm
 21) (ci 0))] [1,2,4,22]) (.cond (tm 22) (sq (rg [ov 2 (.mv (.c zr)),oi 3 150] [2,3]) .ret) .skip))) (sq (sq (.reg 13 [om 24 4,ov 25 (.nilc (tm
 24)),of 26 0 25,ol 27 26,oc 28 23 [(tm 27),(ci 0)],om 23 28,ox 29 0 23,ox 30 1 23,ox 31 2 23,⟨some 5,none,.alloc 9 [zr,z0,z0,z0,z0,zs,
 zs,zs,zs,zs]⟩,⟨none,none,.st 10 (tm 5) (tm 29)⟩,om 6 30,om 7 31] [1,2,5,7]) (sq (rg [om 32 7,ov 33 (.icmp .neq .i64 (tm 32) (ci 0)),om
 34 33,gv 35 34 false (.ld 10 true (tm 5)),gv 36 34 false (.ld 10 true (tm 1)),⟨some 37,some (34,false),.call true (.c (.fn (.func 31) [] []))
 [(tm 36)]⟩,⟨some 38,some (34,false),.call true (.c (.fn (.func 16) [] [])) [(tm 35),(tm 37)]⟩,gv 39 34 false (.not (tm 38)),oz 40 34 39] [2,
 40]) (.cond (tm 40) (sq (rg [ov 2 (.mv (.c zr)),oi 3 150] [2,3]) .ret) .skip))) (sq (rg [om 41 2,om 2 41,oi 3 0] [2,3]) .ret))))))
theorem a14:AOf Tryz.prog 14 c14 [.t 2,.t 3]:=mkA (fn:=Tryz.f14) (c:=Tryz.f14.body.getD .skip) (fz:=[]) (im:=[(2,2)]) kp14 (by kernel_rfl) (by kernel_rfl) (by kernel_rfl) (by kernel_rfl) (by kernel_rfl)
def kp128 (r:Nat):List Nat:=match r with
 |0=>[0]
 |1=>[3]
 |2=>[3]
 |3=>[2]
 |_=>[]
def c128:ACode:=
(sq (rg [ov 2 (.mv (.c zs))] [0]) (sq (rg [om 4 0,oe 5 154 [(tm 4)],om 3 5] [3]) (sq (rg [om 6 3,oe 7 155 [(tm 6)]] [3]) (sq (rg [om 8 3,om 2
 8] [2]) .ret))))
theorem l128:AU Tryz.prog 128:=⟨Tryz.f128,by kernel_rfl,by kernel_rfl,by kernel_rfl⟩
theorem a128:AOf Tryz.prog 128 c128 [.t 2]:=mkA (fn:=Tryz.f128) (c:=Tryz.f128.body.getD .skip) (fz:=[]) (im:=[(1,1),(2,1)]) kp128 (by kernel_rfl) (by kernel_rfl) (by kernel_rfl) (by kernel_rfl) (by kernel_rfl)
def kp154 (r:Nat):List Nat:=match r with
 |0=>[0]
 |1=>[2]
 |_=>[]
def c154:ACode:=
(sq (rg [ov 2 (.mv (.c zs))] [0]) (sq (rg [om 3 0,oe 4 166 [(.c zs),(tm 3)],om 2 4] [2]) .ret))
theorem a154:AOf Tryz.prog 154 c154 [.t 2]:=mkA (fn:=Tryz.f154) (c:=Tryz.f154.body.getD .skip) (fz:=[]) (im:=[(1,1)]) kp154 (by kernel_rfl) (by kernel_rfl) (by kernel_rfl) (by kernel_rfl) (by kernel_rfl)
noncomputable def Gi:Code:=((rfs (Tryz.f166.body.getD .skip))[0]?.getD (#[],.skip,.skip)).2.1
noncomputable def Gj:Code:=((rfs (Tryz.f166.body.getD .skip))[0]?.getD (#[],.skip,.skip)).2.2
def P0 (r:Nat):List Nat:=match r with
 |3=>[]
 |_=>[]
def KY:ACode:=
 (.block 1
  (.reg 5 [
   ⟨some 8,none,.v (.ld 1 false (.t 2))⟩,
   ⟨some 9,none,.v (.mv (.t 5))⟩,
   ⟨some 10,none,.v (.bs 1 1 (.str []) [(0,(.t 9))])⟩,
   ⟨some 11,none,.appR 3 1 16 (.str []) (.t 8) (.t 10) false⟩,
   ⟨none,none,.st 1 (.t 2) (.t 11)⟩] []))
def P1 (r:Nat):List Nat:=match r with
 |2=>[2,5]
 |_=>[]
def KZ:ACode:=
 (.reg 0 [
  ⟨some 5,none,.v (.mv (.t 7))⟩] [2,5])
theorem y166_0 {l id:Nat} {st:LoopState} {pend:Option Code} {env:List (Nat×Bool×AVal)} {args:List AVal} {H:AD} {n:Nat} {R:Bool→AD→Nat→Prop} (ho:hget H id=some (.lp ⟨l,st,pend,13,env, #[7],Gi,Gj⟩)) (hps:args.length=1) (h:awp Tryz.prog KZ (RF Tryz.prog id KY R) ⟨renv [7] args env,H,n⟩):Dr Tryz.prog l args H n R:=
 Il (aa:=KZ) (ab:=KY) (fz:=[(3,3)]) (im:=[]) (fz2:=[(3,3)]) (im2:=[]) (kp:=P1) (kp2:=P0) ho rfl hps rfl (by kernel_rfl) (by kernel_rfl) rfl rfl h
def kp166 (r:Nat):List Nat:=match r with
 |0=>[1,2,4]
 |1=>[2,4,6]
 |4=>[4]
 |_=>[]
noncomputable def c166:ACode:=
(sq (.reg 2 [⟨some 2,none,.box 0 1 (tm 0)⟩,ov 4 (.mv (.c zs))] [1,2,4]) (sq (sq (rg [om 6 1] [2,4,6]) (.block 0 (.rfun (tm 6) #[7] 13 Gi
 Gj))) (sq (rg [ol 12 2,om 4 12] [4]) .ret)))
theorem a166:AOf Tryz.prog 166 c166 [.t 4]:=mkA (fn:=Tryz.f166) (c:=Tryz.f166.body.getD .skip) (fz:=[(3,3)]) (im:=[]) kp166 (by kernel_rfl) (by kernel_rfl) (by kernel_rfl) (by kernel_rfl) (by kernel_rfl)
def kp155 (r:Nat):List Nat:=match r with
 |0=>[0,2]
 |1=>[]
 |_=>[]
def c155:ACode:=
(sq (rg [om 3 0,on 4 3,om 2 4] [0,2]) (rg [om 5 0,om 6 2,om 7 2,ov 8 (.conv .u64 (tm 7)),oc 9 168 [(tm 8)],oe 10 167 [(tm 5),(ci 0),(tm 6),
 (tm 9)]] []))
theorem a155:AOf Tryz.prog 155 c155 []:=mkA (fn:=Tryz.f155) (c:=Tryz.f155.body.getD .skip) (fz:=[]) (im:=[(1,5)]) kp155 (by kernel_rfl) (by kernel_rfl) (by kernel_rfl) (by kernel_rfl) (by kernel_rfl)
def kp167 (r:Nat):List Nat:=match r with
 |0=>[0,1,2,3,8]
 |1=>[0,1,2,3,8,9]
 |2=>[0,1,2,3,8,9,10]
 |3=>[0,1,2,3,8,9,10,23]
 |4=>[]
 |5=>[0,1,2,3,8,9,10,29]
 |6=>[]
 |7=>[0,1,2,3,8,9,10,35]
 |8=>[0,1,2,3,8,9,10]
 |9=>[0,1,2,3,8,9,10]
 |10=>[0,1,2,3,8,9,10,11,12]
 |11=>[0,1,2,3,8,9,10,11,12,50]
 |12=>[0,1,2,3,8,9,10,11]
 |13=>[0,1,2,3,8,9,10,11]
 |14=>[0,1,2,3,8,9,10,11,12]
 |15=>[0,1,2,3,8,9,10,11,68]
 |16=>[0,1,2,3,8,9,10,11,72]
 |17=>[0,1,2,3,8,9,10,11,87]
 |18=>[0,2,3,8,9,13]
 |19=>[0,1,2,3,8,9]
 |20=>[0,1,2,3,10,14,15]
 |21=>[0,1,2,3,9,10,14]
 |22=>[0,1,2,3,9,10,14,16,17]
 |23=>[0,1,2,3,9,14,16,17,18]
 |24=>[0,1,2,3,9,14,16,17,18,113]
 |25=>[0,1,2,3,8,9,14]
 |26=>[0,2,3,8,9,14]
 |27=>[0,1,2,3,8,9]
 |28=>[0,1,2,3,8,9,14]
 |29=>[0,1,3,8,9,14]
 |30=>[0,1,2,3,8,9]
 |_=>[]
def c167:ACode:=
(sq (rg [ob 8 true] [0,1,2,3,8]) (sq (rg [ob 9 true] [0,1,2,3,8,9]) (.block 0 (.loop (.block 1 (sq (rg [om 19 2,om 20 1,ov 21 (.arith
 .sub .i64 (tm 19) (tm 20)),om 10 21] [0,1,2,3,8,9,10]) (sq (sq (rg [om 22 10,ov 23 (.icmp .leq .i64 (tm 22) (ci 12))] [0,1,2,3,8,9,10,
 23]) (.cond (tm 23) (sq (rg [om 24 0,om 25 1,om 26 2,oe 27 174 [(tm 24),(tm 25),(tm 26)]] []) .ret) .skip)) (sq (sq (rg [om 28 3,ov 29 (.icmp
 .eql .i64 (tm 28) (ci 0))] [0,1,2,3,8,9,10,29]) (.cond (tm 29) (sq (rg [om 30 0,om 31 1,om 32 2,oc 33 175 [(tm 30),(tm 31),(tm 32)]] [])
 .ret) .skip)) (sq (sq (rg [om 34 8,ot 35 34] [0,1,2,3,8,9,10,35]) (.cond (tm 35) (sq (rg [om 36 0,om 37 1,om 38 2,oc 39 176 [(tm 36),(tm
 37),(tm 38)]] [0,1,2,3,8,9,10]) (rg [om 40 3,ov 41 (.arith .sub .i64 (tm 40) (ci 1)),om 3 41] [0,1,2,3,8,9,10])) .skip)) (sq (rg [om
 43 0,om 44 1,om 45 2,oc 46 177 [(tm 43),(tm 44),(tm 45)],om 42 46,ox 47 0 42,ox 48 1 42,om 11 47,om 12 48] [0,1,2,3,8,9,10,11,12])
 (sq (sq (rg [om 49 12,ov 50 (.icmp .eql .i64 (tm 49) (ci 2))] [0,1,2,3,8,9,10,11,12,50]) (.cond (tm 50) (sq (rg [om 51 0,om 52 1,om 53
 2,oc 54 178 [(tm 51),(tm 52),(tm 53)]] [0,1,2,3,8,9,10,11]) (sq (rg [om 55 2,ov 56 (.arith .sub .i64 (tm 55) (ci 1)),om 57 11,om 58 1,
 ov 59 (.arith .sub .i64 (tm 57) (tm 58)),ov 60 (.arith .sub .i64 (tm 56) (tm 59)),om 11 60] [0,1,2,3,8,9,10,11]) (rg [oi 12 1] [0,1,2,3,
 8,9,10,11,12]))) .skip)) (sq (sq (rg [om 61 8,om 62 61,gm 63 62 true 9,oy 64 62 63,om 65 64,gm 66 65 true 12,gv 67 65 true (.icmp .eql .i64
 (tm 66) (ci 1)),oy 68 65 67] [0,1,2,3,8,9,10,11,68]) (.cond (tm 68) (sq (rg [om 69 0,om 70 1,om 71 2,oc 72 179 [(tm 69),(tm 70),(tm
 71)]] [0,1,2,3,8,9,10,11,72]) (.cond (tm 72) .ret .skip)) .skip)) (sq (sq (rg [om 73 1,ov 74 (.icmp .gtr .i64 (tm 73) (ci 0)),om 75 74,gm
 76 75 true 0,gm 77 75 true 1,gv 78 75 true (.arith .sub .i64 (tm 77) (ci 1)),ga 79 75 true 1 76 78,gl 80 75 true 79,gm 81 75 true 0,gm 82 75
 true 11,ga 83 75 true 1 81 82,gl 84 75 true 83,⟨some 85,some (75,true),.call true (.c (.fn (.func 180) [] [])) [(tm 80),(tm 84)]⟩,gv 86 75
 true (.not (tm 85)),oy 87 75 86] [0,1,2,3,8,9,10,11,87]) (.cond (tm 87) (sq (rg [om 88 0,om 89 1,om 90 2,om 91 11,oc 92 181 [(tm 88),
 (tm 89),(tm 90),(tm 91)],om 13 92] [0,2,3,8,9,13]) (sq (rg [om 93 13,om 1 93] [0,1,2,3,8,9]) (.exit 1))) .skip)) (sq (rg [om 95 0,om
 96 1,om 97 2,om 98 11,oc 99 182 [(tm 95),(tm 96),(tm 97),(tm 98)],om 94 99,ox 100 0 94,ox 101 1 94,om 14 100,om 15 101] [0,1,2,3,10,
 14,15]) (sq (rg [om 102 15,om 9 102] [0,1,2,3,9,10,14]) (sq (rg [om 103 14,om 104 1,ov 105 (.arith .sub .i64 (tm 103) (tm 104)),om 106 2,
 om 107 14,ov 108 (.arith .sub .i64 (tm 106) (tm 107)),om 16 105,om 17 108] [0,1,2,3,9,10,14,16,17]) (sq (rg [om 109 10,ov 110 (.arith
 .quo .i64 (tm 109) (ci 8)),om 18 110] [0,1,2,3,9,14,16,17,18]) (sq (rg [om 111 16,om 112 17,ov 113 (.icmp .lss .i64 (tm 111) (tm 112))]
 [0,1,2,3,9,14,16,17,18,113]) (.cond (tm 113) (sq (rg [om 114 16,om 115 18,ov 116 (.icmp .geq .i64 (tm 114) (tm 115)),om 8 116] [0,1,2,
 3,8,9,14]) (sq (rg [om 117 0,om 118 1,om 119 14,om 120 3,oe 121 167 [(tm 117),(tm 118),(tm 119),(tm 120)]] [0,2,3,8,9,14]) (rg [om
 122 14,ov 123 (.arith .add .i64 (tm 122) (ci 1)),om 1 123] [0,1,2,3,8,9]))) (sq (rg [om 124 17,om 125 18,ov 126 (.icmp .geq .i64 (tm 124)
 (tm 125)),om 8 126] [0,1,2,3,8,9,14]) (sq (rg [om 127 0,om 128 14,ov 129 (.arith .add .i64 (tm 128) (ci 1)),om 130 2,om 131 3,oe 132 167
 [(tm 127),(tm 129),(tm 130),(tm 131)]] [0,1,3,8,9,14]) (rg [om 133 14,om 2 133] [0,1,2,3,8,9]))))))))))))))))))))))
theorem a167:AOf Tryz.prog 167 c167 []:=mkA (fn:=Tryz.f167) (c:=Tryz.f167.body.getD .skip) (fz:=[]) (im:=[(4,3),(26,4),(29,5)]) kp167 (by kernel_rfl) (by kernel_rfl) (by kernel_rfl) (by kernel_rfl) (by kernel_rfl)
def kp174 (r:Nat):List Nat:=match r with
 |0=>[0,1,2,6]
 |1=>[0,1,2,6,12]
 |3=>[0,1,2,6,7]
 |4=>[0,1,2,6,7,30]
 |6=>[0,1,2,6,7]
 |5=>[0,1,2,6,7]
 |2=>[0,1,2,6]
 |_=>[]
def c174:ACode:=
(sq (rg [om 8 1,ov 9 (.arith .add .i64 (tm 8) (ci 1)),om 6 9] [0,1,2,6]) (.block 0 (.loop (sq (sq (rg [om 10 6,om 11 2,ov 12 (.icmp .lss .i64
 (tm 10) (tm 11))] [0,1,2,6,12]) (.cond (tm 12) .skip (.exit 0))) (sq (.block 1 (sq (rg [om 15 6,om 7 15] [0,1,2,6,7]) (.block 2 (.loop (sq
 (sq (rg [om 16 7,om 17 1,ov 18 (.icmp .gtr .i64 (tm 16) (tm 17)),om 19 18,gm 20 19 true 0,gm 21 19 true 7,ga 22 19 true 1 20 21,gl 23 19 true
 22,gm 24 19 true 0,gm 25 19 true 7,gv 26 19 true (.arith .sub .i64 (tm 25) (ci 1)),ga 27 19 true 1 24 26,gl 28 19 true 27,⟨some 29,some (19,
 true),.call true (.c (.fn (.func 180) [] [])) [(tm 23),(tm 28)]⟩,oy 30 19 29] [0,1,2,6,7,30]) (.cond (tm 30) .skip (.exit 2))) (sq (.block 3
 (rg [om 33 0,om 34 7,om 35 0,om 36 7,ov 37 (.arith .sub .i64 (tm 36) (ci 1)),om 38 0,om 39 7,ov 40 (.arith .sub .i64 (tm 39) (ci 1)),oa 41 1
 38 40,ol 42 41,om 43 0,om 44 7,oa 45 1 43 44,ol 46 45,oa 47 1 33 34,⟨none,none,.st 1 (tm 47) (tm 42)⟩,oa 48 1 35 37,⟨none,none,.st 1 (tm
 48) (tm 46)⟩] [0,1,2,6,7])) (rg [om 31 7,ov 32 (.arith .sub .i64 (tm 31) (ci 1)),om 7 32] [0,1,2,6,7]))))))) (rg [om 13 6,ov 14 (.arith
 .add .i64 (tm 13) (ci 1)),om 6 14] [0,1,2,6]))))))
theorem a174:AOf Tryz.prog 174 c174 []:=mkA (fn:=Tryz.f174) (c:=Tryz.f174.body.getD .skip) (fz:=[]) (im:=[]) kp174 (by kernel_rfl) (by kernel_rfl) (by kernel_rfl) (by kernel_rfl) (by kernel_rfl)
def kp180 (r:Nat):List Nat:=match r with
 |0=>[0,1]
 |1=>[4]
 |_=>[]
def c180:ACode:=
(sq (rg [ob 4 false] [0,1]) (sq (rg [om 5 0,oc 6 189 [(tm 5)],om 7 6,gm 8 7 true 1,⟨some 9,some (7,true),.call true (.c (.fn (.func 189) []
 [])) [(tm 8)]⟩,gv 10 7 true (.not (tm 9)),oy 11 7 10,om 12 11,gm 13 12 false 0,gm 14 12 false 1,gv 15 12 false (.scmp .lss (tm 13) (tm 14)),oz
 16 12 15,om 4 16] [4]) .ret))
theorem a180:AOf Tryz.prog 180 c180 [.t 4]:=mkA (fn:=Tryz.f180) (c:=Tryz.f180.body.getD .skip) (fz:=[]) (im:=[]) kp180 (by kernel_rfl) (by kernel_rfl) (by kernel_rfl) (by kernel_rfl) (by kernel_rfl)
def kp189 (r:Nat):List Nat:=match r with
 |0=>[0]
 |1=>[2]
 |_=>[]
def c189:ACode:=
(sq (rg [ob 2 false] [0]) (sq (rg [om 3 0,om 4 0,ov 5 (.scmp .neq (tm 3) (tm 4)),om 2 5] [2]) .ret))
theorem a189:AOf Tryz.prog 189 c189 [.t 2]:=mkA (fn:=Tryz.f189) (c:=Tryz.f189.body.getD .skip) (fz:=[]) (im:=[]) kp189 (by kernel_rfl) (by kernel_rfl) (by kernel_rfl) (by kernel_rfl) (by kernel_rfl)
def kp129 (r:Nat):List Nat:=match r with
 |0=>[1]
 |1=>[2]
 |_=>[]
def c129:ACode:=
(sq (.reg 2 [⟨some 1,none,.box 0 1 (tm 0)⟩,ov 2 (.mv (.c .nilfn))] [1]) (sq (rg [ov 3 (.fn (.func 156) [] [(tm 1)]),om 2 3] [2]) .ret))
theorem a129:AOf Tryz.prog 129 c129 [.t 2]:=mkA (fn:=Tryz.f129) (c:=Tryz.f129.body.getD .skip) (fz:=[]) (im:=[]) kp129 (by kernel_rfl) (by kernel_rfl) (by kernel_rfl) (by kernel_rfl) (by kernel_rfl)
def kp156 (r:Nat):List Nat:=match r with
 |0=>[0,5]
 |1=>[0,5,7]
 |2=>[0,3,5]
 |3=>[0,5,13]
 |_=>[]
def c156:ACode:=
(sq (.reg 2 [ol 4 1,⟨some 5,none,.ext (.mrng 1) [(tm 4)]⟩] [0,5]) (.block 0 (.loop (sq (rg [⟨some 6,none,.mnx (tm 5)⟩,ox 7 0 6] [0,5,7]) (sq
 (.cond (tm 7) .skip (.exit 0)) (.block 1 (sq (rg [⟨some 8,none,.ext .ment [(tm 5)]⟩,ox 9 0 8,om 3 9] [0,3,5]) (sq (rg [om 10 0,om 11 3,⟨some
 12,none,.call false (tm 10) [(tm 11)]⟩,ot 13 12] [0,5,13]) (.cond (tm 13) .ret .skip)))))))))
theorem a156:AOf Tryz.prog 156 c156 []:=mkA (fn:=Tryz.f156) (c:=Tryz.f156.body.getD .skip) (fz:=[]) (im:=[(3,2)]) kp156 (by kernel_rfl) (by kernel_rfl) (by kernel_rfl) (by kernel_rfl) (by kernel_rfl)
def kp168 (r:Nat):List Nat:=match r with
 |0=>[0]
 |1=>[2]
 |2=>[2]
 |_=>[]
def c168:ACode:=
(sq (rg [oi 2 0] [0]) (sq (.cond cF (sq (rg [om 3 0,ov 4 (.conv .u32 (tm 3)),oc 5 183 [(tm 4)],om 2 5] [2]) .ret) .skip) (sq (rg [om 6 0,oc 7
 161 [(tm 6)],om 2 7] [2]) .ret)))
theorem a168:AOf Tryz.prog 168 c168 [.t 2]:=mkA (fn:=Tryz.f168) (c:=Tryz.f168.body.getD .skip) (fz:=[]) (im:=[]) kp168 (by kernel_rfl) (by kernel_rfl) (by kernel_rfl) (by kernel_rfl) (by kernel_rfl)
end Go.AM
end
section
set_option maxRecDepth 20000
set_option linter.all false
namespace Go.AM
open Go.Proofs
def kp73 (r:Nat):List Nat:=match r with
 |0=>[1,2]
 |1=>[1,2,4]
 |2=>[2]
 |3=>[1,2]
 |4=>[1,2]
 |5=>[1,2,15]
 |6=>[1,2]
 |7=>[2]
 |_=>[]
def c73:ACode:=
(sq (.reg 2 [⟨some 1,none,.box 0 5 (tm 0)⟩,⟨some 2,none,.alloc 1 [zs,z0,z0,zb,z0]⟩] [1,2]) (sq (sq (rg [of 3 3 1,ol 4 3] [1,2,4]) (.cond
 (tm 4) (sq (rg [ov 5 (.ld 5 true (tm 1)),⟨none,none,.st 5 (tm 2) (tm 5)⟩] [2]) .ret) .skip)) (sq (rg [of 6 3 1,⟨none,none,.st 1 (tm 6) cT⟩]
 [1,2]) (sq (rg [of 7 2 1,ol 8 7,of 9 4 1,⟨none,none,.st 1 (tm 9) (tm 8)⟩] [1,2]) (sq (sq (rg [of 10 1 1,ol 11 10,of 12 0 1,ol 13 12,on 14
 13,ov 15 (.icmp .lss .i64 (tm 11) (tm 14))] [1,2,15]) (.cond (tm 15) (rg [of 16 0 1,ol 17 16,of 18 1 1,ol 19 18,oa 20 4 17 19,of 21 3 20,ol
 22 21,of 23 4 1,⟨none,none,.st 1 (tm 23) (tm 22)⟩] [1,2]) .skip)) (sq (rg [ov 24 (.ld 5 true (tm 1)),⟨none,none,.st 5 (tm 2) (tm 24)⟩] [2])
 .ret))))))
theorem a73:AOf Tryz.prog 73 c73 [.c 2 5 true]:=mkA (fn:=Tryz.f73) (c:=Tryz.f73.body.getD .skip) (fz:=[]) (im:=[]) kp73 (by kernel_rfl) (by kernel_rfl) (by kernel_rfl) (by kernel_rfl) (by kernel_rfl)
def kp113 (r:Nat):List Nat:=match r with
 |0=>[1,2,3]
 |1=>[6]
 |_=>[]
def c113:ACode:=
(sq (.reg 2 [⟨some 3,none,.box 0 5 (tm 0)⟩,ob 6 false] [1,2,3]) (sq (rg [of 7 3 3,ol 8 7,ot 9 8,om 10 9,gf 11 10 true 1 3,gl 12 10 true 11,
 gf 13 10 true 0 3,gl 14 10 true 13,gv 15 10 true (.len (tm 14)),gv 16 10 true (.icmp .lss .i64 (tm 12) (tm 15)),oy 17 10 16,om 18 17,gf 19 18
 true 0 3,gl 20 18 true 19,gf 21 18 true 1 3,gl 22 18 true 21,ga 23 18 true 4 20 22,gf 24 18 true 0 23,gl 25 18 true 24,gm 26 18 true 1,gv 27
 18 true (.icmp .eql .i64 (tm 25) (tm 26)),oy 28 18 27,om 29 28,gf 30 29 true 0 3,gl 31 29 true 30,gf 32 29 true 1 3,gl 33 29 true 32,ga 34 29
 true 4 31 33,gf 35 29 true 1 34,gl 36 29 true 35,gm 37 29 true 2,gv 38 29 true (.scmp .eql (tm 36) (tm 37)),oy 39 29 38,om 6 39] [6]) .ret))
theorem a113:AOf Tryz.prog 113 c113 [.t 6]:=mkA (fn:=Tryz.f113) (c:=Tryz.f113.body.getD .skip) (fz:=[]) (im:=[]) kp113 (by kernel_rfl) (by kernel_rfl) (by kernel_rfl) (by kernel_rfl) (by kernel_rfl)
def kp69 (r:Nat):List Nat:=match r with
 |0=>[1,2]
 |1=>[4]
 |_=>[]
def c69:ACode:=
(sq (.reg 2 [⟨some 2,none,.box 0 5 (tm 0)⟩,ob 4 false] [1,2]) (sq (rg [ov 5 (.ld 5 true (tm 2)),om 6 1,oc 7 113 [(tm 5),(ci 1),(tm 6)],om 4
 7] [4]) .ret))
theorem a69:AOf Tryz.prog 69 c69 [.t 4]:=mkA (fn:=Tryz.f69) (c:=Tryz.f69.body.getD .skip) (fz:=[]) (im:=[]) kp69 (by kernel_rfl) (by kernel_rfl) (by kernel_rfl) (by kernel_rfl) (by kernel_rfl)
def kp112 (r:Nat):List Nat:=match r with
 |0=>[1,2]
 |1=>[4]
 |_=>[]
def c112:ACode:=
(sq (.reg 2 [⟨some 2,none,.box 0 5 (tm 0)⟩,ob 4 false] [1,2]) (sq (rg [ov 5 (.ld 5 true (tm 2)),om 6 1,oc 7 113 [(tm 5),(ci 3),(tm 6)],om 4
 7] [4]) .ret))
theorem a112:AOf Tryz.prog 112 c112 [.t 4]:=mkA (fn:=Tryz.f112) (c:=Tryz.f112.body.getD .skip) (fz:=[]) (im:=[]) kp112 (by kernel_rfl) (by kernel_rfl) (by kernel_rfl) (by kernel_rfl) (by kernel_rfl)
def kp108 (r:Nat):List Nat:=match r with
 |0=>[1,2,3,6]
 |1=>[3,6,11]
 |2=>[6]
 |3=>[3,6]
 |4=>[6]
 |_=>[]
def c108:ACode:=
(sq (.reg 2 [⟨some 3,none,.box 0 5 (tm 0)⟩,⟨some 6,none,.alloc 1 [zs,z0,z0,zb,z0]⟩] [1,2,3,6]) (sq (sq (rg [ov 7 (.ld 5 true (tm 3)),om
 8 1,om 9 2,oc 10 113 [(tm 7),(tm 8),(tm 9)],ot 11 10] [3,6,11]) (.cond (tm 11) (sq (rg [ov 12 (.ld 5 true (tm 3)),oc 13 73 [(tm 12)],⟨none,
 none,.st 5 (tm 6) (tm 13)⟩] [6]) .ret) .skip)) (sq (rg [of 14 1 3,ol 15 14,ov 16 (.arith .add .i64 (tm 15) (ci 1)),of 17 1 3,⟨none,none,.st 1
 (tm 17) (tm 16)⟩] [3,6]) (sq (rg [ov 18 (.ld 5 true (tm 3)),⟨none,none,.st 5 (tm 6) (tm 18)⟩] [6]) .ret))))
theorem a108:AOf Tryz.prog 108 c108 [.c 6 5 true]:=mkA (fn:=Tryz.f108) (c:=Tryz.f108.body.getD .skip) (fz:=[]) (im:=[]) kp108 (by kernel_rfl) (by kernel_rfl) (by kernel_rfl) (by kernel_rfl) (by kernel_rfl)
def kp64 (r:Nat):List Nat:=match r with
 |0=>[1,2,4]
 |1=>[4]
 |_=>[]
def c64:ACode:=
(sq (.reg 2 [⟨some 2,none,.box 0 5 (tm 0)⟩,⟨some 4,none,.alloc 1 [zs,z0,z0,zb,z0]⟩] [1,2,4]) (sq (rg [ov 5 (.ld 5 true (tm 2)),om 6 1,oc
 7 108 [(tm 5),(ci 1),(tm 6)],⟨none,none,.st 5 (tm 4) (tm 7)⟩] [4]) .ret))
theorem a64:AOf Tryz.prog 64 c64 [.c 4 5 true]:=mkA (fn:=Tryz.f64) (c:=Tryz.f64.body.getD .skip) (fz:=[]) (im:=[]) kp64 (by kernel_rfl) (by kernel_rfl) (by kernel_rfl) (by kernel_rfl) (by kernel_rfl)
def kp67 (r:Nat):List Nat:=match r with
 |0=>[1,2,4]
 |1=>[4]
 |_=>[]
def c67:ACode:=
(sq (.reg 2 [⟨some 2,none,.box 0 5 (tm 0)⟩,⟨some 4,none,.alloc 1 [zs,z0,z0,zb,z0]⟩] [1,2,4]) (sq (rg [ov 5 (.ld 5 true (tm 2)),om 6 1,oc
 7 108 [(tm 5),(ci 3),(tm 6)],⟨none,none,.st 5 (tm 4) (tm 7)⟩] [4]) .ret))
theorem a67:AOf Tryz.prog 67 c67 [.c 4 5 true]:=mkA (fn:=Tryz.f67) (c:=Tryz.f67.body.getD .skip) (fz:=[]) (im:=[]) kp67 (by kernel_rfl) (by kernel_rfl) (by kernel_rfl) (by kernel_rfl) (by kernel_rfl)
def kp107 (r:Nat):List Nat:=match r with
 |0=>[1]
 |1=>[2]
 |_=>[]
def c107:ACode:=
(sq (.reg 2 [⟨some 1,none,.box 0 5 (tm 0)⟩,ob 2 false] [1]) (sq (rg [of 3 3 1,ol 4 3,ot 5 4,om 6 5,gf 7 6 true 1 1,gl 8 6 true 7,gf 9 6 true
 0 1,gl 10 6 true 9,gv 11 6 true (.len (tm 10)),gv 12 6 true (.icmp .lss .i64 (tm 8) (tm 11)),oy 13 6 12,om 14 13,gf 15 14 true 0 1,gl 16 14
 true 15,gf 17 14 true 1 1,gl 18 14 true 17,ga 19 14 true 4 16 18,gf 20 14 true 0 19,gl 21 14 true 20,gv 22 14 true (.icmp .eql .i64 (tm 21) (ci
 1)),oy 23 14 22,om 2 23] [2]) .ret))
theorem a107:AOf Tryz.prog 107 c107 [.t 2]:=mkA (fn:=Tryz.f107) (c:=Tryz.f107.body.getD .skip) (fz:=[]) (im:=[]) kp107 (by kernel_rfl) (by kernel_rfl) (by kernel_rfl) (by kernel_rfl) (by kernel_rfl)
def kp63 (r:Nat):List Nat:=match r with
 |0=>[1,3]
 |1=>[1,3,7]
 |2=>[2,3]
 |3=>[1,3,4]
 |4=>[1,3,4]
 |5=>[2,3]
 |_=>[]
def c63:ACode:=
(sq (.reg 3 [⟨some 1,none,.box 0 5 (tm 0)⟩,ov 2 (.mv (.c zr)),⟨some 3,none,.alloc 2 [zs,z0,z0,zb,z0]⟩] [1,3]) (sq (sq (rg [ov 5 (.ld 5
 true (tm 1)),oc 6 107 [(tm 5)],ot 7 6] [1,3,7]) (.cond (tm 7) (sq (rg [ov 8 (.ld 5 true (tm 1)),oc 9 73 [(tm 8)],ov 2 (.mv (.c zr)),⟨none,
 none,.st 5 (tm 3) (tm 9)⟩] [2,3]) .ret) .skip)) (sq (rg [of 10 0 1,ol 11 10,of 12 1 1,ol 13 12,oa 14 4 11 13,of 15 1 14,ol 16 15,om 4 16]
 [1,3,4]) (sq (rg [of 17 1 1,ol 18 17,ov 19 (.arith .add .i64 (tm 18) (ci 1)),of 20 1 1,⟨none,none,.st 1 (tm 20) (tm 19)⟩] [1,3,4]) (sq (rg
 [om 21 4,ov 22 (.ld 5 true (tm 1)),om 2 21,⟨none,none,.st 5 (tm 3) (tm 22)⟩] [2,3]) .ret)))))
theorem a63:AOf Tryz.prog 63 c63 [.t 2,.c 3 5 true]:=mkA (fn:=Tryz.f63) (c:=Tryz.f63.body.getD .skip) (fz:=[]) (im:=[]) kp63 (by kernel_rfl) (by kernel_rfl) (by kernel_rfl) (by kernel_rfl) (by kernel_rfl)
def kp109 (r:Nat):List Nat:=match r with
 |0=>[1]
 |1=>[2]
 |_=>[]
def c109:ACode:=
(sq (.reg 2 [⟨some 1,none,.box 0 5 (tm 0)⟩,ob 2 false] [1]) (sq (rg [of 3 3 1,ol 4 3,ot 5 4,om 6 5,gf 7 6 true 1 1,gl 8 6 true 7,gf 9 6 true
 0 1,gl 10 6 true 9,gv 11 6 true (.len (tm 10)),gv 12 6 true (.icmp .lss .i64 (tm 8) (tm 11)),oy 13 6 12,om 14 13,gf 15 14 true 0 1,gl 16 14
 true 15,gf 17 14 true 1 1,gl 18 14 true 17,ga 19 14 true 4 16 18,gf 20 14 true 0 19,gl 21 14 true 20,gv 22 14 true (.icmp .eql .i64 (tm 21) (ci
 2)),oy 23 14 22,om 24 23,gf 25 24 true 0 1,gl 26 24 true 25,gf 27 24 true 1 1,gl 28 24 true 27,ga 29 24 true 4 26 28,gf 30 24 true 2 29,gl 31
 24 true 30,gv 32 24 true (.icmp .geq .i64 (tm 31) (ci 0)),oy 33 24 32,om 34 33,gf 35 34 true 0 1,gl 36 34 true 35,gf 37 34 true 1 1,gl 38 34
 true 37,ga 39 34 true 4 36 38,gf 40 34 true 2 39,gl 41 34 true 40,gv 42 34 true (.icmp .leq .i64 (tm 41) (ci 65536)),oy 43 34 42,om 2 43] [2])
 .ret))
theorem a109:AOf Tryz.prog 109 c109 [.t 2]:=mkA (fn:=Tryz.f109) (c:=Tryz.f109.body.getD .skip) (fz:=[]) (im:=[]) kp109 (by kernel_rfl) (by kernel_rfl) (by kernel_rfl) (by kernel_rfl) (by kernel_rfl)
def kp65 (r:Nat):List Nat:=match r with
 |0=>[1,3]
 |1=>[1,3,7]
 |2=>[2,3]
 |3=>[1,3,4]
 |4=>[1,3,4]
 |5=>[2,3]
 |_=>[]
def c65:ACode:=
(sq (.reg 3 [⟨some 1,none,.box 0 5 (tm 0)⟩,oi 2 0,⟨some 3,none,.alloc 2 [zs,z0,z0,zb,z0]⟩] [1,3]) (sq (sq (rg [ov 5 (.ld 5 true (tm 1)),
 oc 6 109 [(tm 5)],ot 7 6] [1,3,7]) (.cond (tm 7) (sq (rg [ov 8 (.ld 5 true (tm 1)),oc 9 73 [(tm 8)],oi 2 0,⟨none,none,.st 5 (tm 3) (tm 9)⟩]
 [2,3]) .ret) .skip)) (sq (rg [of 10 0 1,ol 11 10,of 12 1 1,ol 13 12,oa 14 4 11 13,of 15 2 14,ol 16 15,om 4 16] [1,3,4]) (sq (rg [of 17 1
 1,ol 18 17,ov 19 (.arith .add .i64 (tm 18) (ci 1)),of 20 1 1,⟨none,none,.st 1 (tm 20) (tm 19)⟩] [1,3,4]) (sq (rg [om 21 4,ov 22 (.ld 5 true
 (tm 1)),om 2 21,⟨none,none,.st 5 (tm 3) (tm 22)⟩] [2,3]) .ret)))))
theorem a65:AOf Tryz.prog 65 c65 [.t 2,.c 3 5 true]:=mkA (fn:=Tryz.f65) (c:=Tryz.f65.body.getD .skip) (fz:=[]) (im:=[]) kp65 (by kernel_rfl) (by kernel_rfl) (by kernel_rfl) (by kernel_rfl) (by kernel_rfl)
def kp110 (r:Nat):List Nat:=match r with
 |0=>[1,3]
 |1=>[3,4,5]
 |2=>[3,5,6]
 |3=>[3,5,6,15]
 |4=>[3,4,5,6]
 |5=>[3,5,6]
 |6=>[2,3]
 |_=>[]
def c110:ACode:=
(sq (.reg 3 [⟨some 1,none,.box 0 5 (tm 0)⟩,ov 2 (.mv (.c zs)),⟨some 3,none,.alloc 2 [zs,z0,z0,zb,z0]⟩] [1,3]) (sq (.reg 8 [ov 8 (.ld 5
 true (tm 1)),oc 9 65 [(tm 8)],om 7 9,ox 10 0 7,ox 11 1 7,⟨some 5,none,.alloc 5 [zs,z0,z0,zb,z0]⟩,om 4 10,⟨none,none,.st 5 (tm 5) (tm
 11)⟩] [3,4,5]) (sq (rg [om 12 4,ov 13 (.bs 1 1 z0 [(0,(tm 12))]),om 6 13] [3,5,6]) (sq (.block 0 (.loop (sq (sq (rg [ov 14 (.ld 5 true (tm
 5)),oc 15 112 [(tm 14),(.c (.str [44]))]] [3,5,6,15]) (.cond (tm 15) .skip (.exit 0))) (.block 1 (sq (rg [ov 17 (.ld 5 true (tm 5)),oc 18 67
 [(tm 17),(.c (.str [44]))],oc 19 65 [(tm 18)],om 16 19,ox 20 0 16,ox 21 1 16,om 4 20,⟨none,none,.st 5 (tm 5) (tm 21)⟩] [3,4,5,6]) (.reg 5
 [om 22 6,om 23 4,ov 24 (.bs 1 1 z0 [(0,(tm 23))]),⟨some 25,none,.app 3 1 8 (tm 22) (tm 24) false⟩,om 6 25] [3,5,6])))))) (sq (rg [om 26 6,
 ov 27 (.ld 5 true (tm 5)),om 2 26,⟨none,none,.st 5 (tm 3) (tm 27)⟩] [2,3]) .ret)))))
theorem a110:AOf Tryz.prog 110 c110 [.t 2,.c 3 5 true]:=mkA (fn:=Tryz.f110) (c:=Tryz.f110.body.getD .skip) (fz:=[]) (im:=[]) kp110 (by kernel_rfl) (by kernel_rfl) (by kernel_rfl) (by kernel_rfl) (by kernel_rfl)
def kp131 (r:Nat):List Nat:=match r with
 |0=>[1,3]
 |1=>[3,4,5]
 |2=>[3,5,6]
 |3=>[3,5,6,16]
 |4=>[3,4,5,6]
 |5=>[3,5,6]
 |6=>[2,3]
 |_=>[]
def c131:ACode:=
(sq (.reg 3 [⟨some 1,none,.box 0 5 (tm 0)⟩,ov 2 (.mv (.c zs)),⟨some 3,none,.alloc 2 [zs,z0,z0,zb,z0]⟩] [1,3]) (sq (.reg 9 [ov 8 (.ld 5
 true (tm 1)),oc 9 67 [(tm 8),(.c (.str [123]))],oc 10 63 [(tm 9)],om 7 10,ox 11 0 7,ox 12 1 7,⟨some 5,none,.alloc 6 [zs,z0,z0,zb,z0]⟩,om
 4 11,⟨none,none,.st 5 (tm 5) (tm 12)⟩] [3,4,5]) (sq (rg [om 13 4,ov 14 (.bs 1 1 zr [(0,(tm 13))]),om 6 14] [3,5,6]) (sq (.block 0 (.loop
 (sq (sq (rg [ov 15 (.ld 5 true (tm 5)),oc 16 112 [(tm 15),(.c (.str [44]))]] [3,5,6,16]) (.cond (tm 16) .skip (.exit 0))) (.block 1 (sq (rg [ov
 18 (.ld 5 true (tm 5)),oc 19 67 [(tm 18),(.c (.str [44]))],oc 20 63 [(tm 19)],om 17 20,ox 21 0 17,ox 22 1 17,om 4 21,⟨none,none,.st 5 (tm 5)
 (tm 22)⟩] [3,4,5,6]) (.reg 5 [om 23 6,om 24 4,ov 25 (.bs 1 1 zr [(0,(tm 24))]),⟨some 26,none,.app 3 1 16 (tm 23) (tm 25) false⟩,om 6 26]
 [3,5,6])))))) (sq (rg [om 27 6,ov 28 (.ld 5 true (tm 5)),oc 29 67 [(tm 28),(.c (.str [125]))],om 2 27,⟨none,none,.st 5 (tm 3) (tm 29)⟩] [2,
 3]) .ret)))))
theorem a131:AOf Tryz.prog 131 c131 [.t 2,.c 3 5 true]:=mkA (fn:=Tryz.f131) (c:=Tryz.f131.body.getD .skip) (fz:=[]) (im:=[]) kp131 (by kernel_rfl) (by kernel_rfl) (by kernel_rfl) (by kernel_rfl) (by kernel_rfl)
def kp66 (r:Nat):List Nat:=match r with
 |0=>[2,3,4,5]
 |1=>[2,3,4,5]
 |2=>[2,3,4,5,9]
 |3=>[2,3,4,5]
 |4=>[2,3,4,5]
 |5=>[2,3,4,5]
 |6=>[2,3,4,5]
 |7=>[2,3,4,5]
 |8=>[2,3,4,5]
 |9=>[2,3,4,5,30]
 |10=>[2,3,4,5]
 |11=>[4,5]
 |_=>[]
def c66:ACode:=
(sq (.reg 4 [⟨some 2,none,.box 0 10 (tm 0)⟩,⟨some 3,none,.box 1 5 (tm 1)⟩,⟨some 4,none,.alloc 2 [zr,z0,z0,z0,z0,zs,zs,zs,zs,zs]⟩,
 ⟨some 5,none,.alloc 3 [zs,z0,z0,zb,z0]⟩] [2,3,4,5]) (sq (rg [ov 6 (.ld 5 true (tm 3)),oc 7 64 [(tm 6),(.c (.str [103,114,105,100]))],
 ⟨none,none,.st 5 (tm 3) (tm 7)⟩] [2,3,4,5]) (sq (sq (rg [ov 8 (.ld 5 true (tm 3)),oc 9 69 [(tm 8),(.c (.str [104,101,120]))]] [2,3,4,5,
 9]) (.cond (tm 9) (sq (rg [of 10 2 2,⟨none,none,.st 1 (tm 10) (ci 2)⟩] [2,3,4,5]) (rg [ov 11 (.ld 5 true (tm 3)),oc 12 64 [(tm 11),(.c (.str
 [104,101,120]))],⟨none,none,.st 5 (tm 3) (tm 12)⟩] [2,3,4,5])) (sq (rg [of 13 2 2,⟨none,none,.st 1 (tm 13) (ci 1)⟩] [2,3,4,5]) (rg [ov
 14 (.ld 5 true (tm 3)),oc 15 64 [(tm 14),(.c (.str [115,113,117,97,114,101]))],⟨none,none,.st 5 (tm 3) (tm 15)⟩] [2,3,4,5])))) (sq (rg [
 ov 17 (.ld 5 true (tm 3)),oc 18 65 [(tm 17)],om 16 18,ox 19 0 16,ox 20 1 16,of 21 3 2,⟨none,none,.st 1 (tm 21) (tm 19)⟩,⟨none,none,.st 5
 (tm 3) (tm 20)⟩] [2,3,4,5]) (sq (rg [ov 23 (.ld 5 true (tm 3)),oc 24 64 [(tm 23),(.c (.str [98,121]))],oc 25 65 [(tm 24)],om 22 25,ox 26 0
 22,ox 27 1 22,of 28 4 2,⟨none,none,.st 1 (tm 28) (tm 26)⟩,⟨none,none,.st 5 (tm 3) (tm 27)⟩] [2,3,4,5]) (sq (sq (rg [ov 29 (.ld 5 true (tm
 3)),oc 30 69 [(tm 29),(.c (.str [119,105,116,104,111,117,116]))]] [2,3,4,5,30]) (.cond (tm 30) (rg [ov 32 (.ld 5 true (tm 3)),oc 33 64
 [(tm 32),(.c (.str [119,105,116,104,111,117,116]))],oc 34 110 [(tm 33)],om 31 34,ox 35 0 31,ox 36 1 31,of 37 5 2,⟨none,none,.st 1 (tm
 37) (tm 35)⟩,⟨none,none,.st 5 (tm 3) (tm 36)⟩] [2,3,4,5]) .skip)) (sq (rg [ov 38 (.ld 10 true (tm 2)),ov 39 (.ld 5 true (tm 3)),oc 40 67 [(tm
 39),(.c (.str [59]))],⟨none,none,.st 10 (tm 4) (tm 38)⟩,⟨none,none,.st 5 (tm 5) (tm 40)⟩] [4,5]) .ret)))))))
theorem a66:AOf Tryz.prog 66 c66 [.c 4 10 true,.c 5 5 true]:=mkA (fn:=Tryz.f66) (c:=Tryz.f66.body.getD .skip) (fz:=[]) (im:=[]) kp66 (by kernel_rfl) (by kernel_rfl) (by kernel_rfl) (by kernel_rfl) (by kernel_rfl)
def kp111 (r:Nat):List Nat:=match r with
 |0=>[1,2,3]
 |1=>[1,2,3,4]
 |2=>[1,2,3,4]
 |3=>[1,2,3,4]
 |4=>[2,3]
 |_=>[]
def c111:ACode:=
(sq (.reg 3 [⟨some 1,none,.box 0 5 (tm 0)⟩,⟨some 2,none,.alloc 1 [zr,z0]⟩,⟨some 3,none,.alloc 2 [zs,z0,z0,zb,z0]⟩] [1,2,3]) (sq (.reg 3
 [ov 5 (.build [zr,z0] []),⟨some 4,none,.alloc 1 [zr,z0]⟩,⟨none,none,.st 2 (tm 4) (tm 5)⟩] [1,2,3,4]) (sq (rg [ov 7 (.ld 5 true (tm 1)),
 oc 8 63 [(tm 7)],om 6 8,ox 9 0 6,ox 10 1 6,of 11 0 4,⟨none,none,.st 1 (tm 11) (tm 9)⟩,⟨none,none,.st 5 (tm 1) (tm 10)⟩] [1,2,3,4]) (sq
 (rg [ov 13 (.ld 5 true (tm 1)),oc 14 67 [(tm 13),(.c (.str [61]))],oc 15 65 [(tm 14)],om 12 15,ox 16 0 12,ox 17 1 12,of 18 1 4,⟨none,none,
 .st 1 (tm 18) (tm 16)⟩,⟨none,none,.st 5 (tm 1) (tm 17)⟩] [1,2,3,4]) (sq (.regx 0 [(1,ov 19 (.ld 2 true (tm 4))),(300008,ov 20 (.ld 5 true
 (tm 1))),(300007,⟨none,none,.st 2 (tm 2) (tm 19)⟩),(0,⟨none,none,.st 5 (tm 3) (tm 20)⟩)] [2,3]) .ret)))))
theorem a111:AOf Tryz.prog 111 c111 [.c 2 2 true,.c 3 5 true]:=mkA (fn:=Tryz.f111) (c:=Tryz.f111.body.getD .skip) (fz:=[(700001,300005),(700002,300004)]) (im:=[]) kp111 (by kernel_rfl) (by kernel_rfl) (by kernel_rfl) (by kernel_rfl) (by kernel_rfl)
def kp68 (r:Nat):List Nat:=match r with
 |0=>[1,3]
 |1=>[3,4,5]
 |2=>[3,4,5,6]
 |3=>[3,4,5,6,16]
 |4=>[3,4,5,6]
 |5=>[3,4,5,6]
 |6=>[2,3]
 |_=>[]
def c68:ACode:=
(sq (.reg 3 [⟨some 1,none,.box 0 5 (tm 0)⟩,ov 2 (.mv (.c zs)),⟨some 3,none,.alloc 2 [zs,z0,z0,zb,z0]⟩] [1,3]) (sq (.reg 10 [ov 8 (.ld 5
 true (tm 1)),oc 9 64 [(tm 8),(.c (.str [115,121,109,98,111,108,115]))],oc 10 111 [(tm 9)],om 7 10,ox 11 0 7,ox 12 1 7,⟨some 4,none,
 .alloc 6 [zr,z0]⟩,⟨some 5,none,.alloc 7 [zs,z0,z0,zb,z0]⟩,⟨none,none,.st 2 (tm 4) (tm 11)⟩,⟨none,none,.st 5 (tm 5) (tm 12)⟩] [3,4,5])
 (sq (rg [ov 13 (.ld 2 true (tm 4)),ov 14 (.bs 2 1 (.agg [zr,z0]) [(0,(tm 13))]),om 6 14] [3,4,5,6]) (sq (.block 0 (.loop (sq (sq (rg [ov 15
 (.ld 5 true (tm 5)),oc 16 112 [(tm 15),(.c (.str [44]))]] [3,4,5,6,16]) (.cond (tm 16) .skip (.exit 0))) (.block 1 (sq (rg [ov 18 (.ld 5 true
 (tm 5)),oc 19 67 [(tm 18),(.c (.str [44]))],oc 20 111 [(tm 19)],om 17 20,ox 21 0 17,ox 22 1 17,⟨none,none,.st 2 (tm 4) (tm 21)⟩,⟨none,none,
 .st 5 (tm 5) (tm 22)⟩] [3,4,5,6]) (.reg 5 [om 23 6,ov 24 (.ld 2 true (tm 4)),ov 25 (.bs 2 1 (.agg [zr,z0]) [(0,(tm 24))]),⟨some 26,none,
 .app 3 2 24 (tm 23) (tm 25) false⟩,om 6 26] [3,4,5,6])))))) (sq (rg [om 27 6,ov 28 (.ld 5 true (tm 5)),oc 29 67 [(tm 28),(.c (.str [59]))],om
 2 27,⟨none,none,.st 5 (tm 3) (tm 29)⟩] [2,3]) .ret)))))
theorem a68:AOf Tryz.prog 68 c68 [.t 2,.c 3 5 true]:=mkA (fn:=Tryz.f68) (c:=Tryz.f68.body.getD .skip) (fz:=[]) (im:=[]) kp68 (by kernel_rfl) (by kernel_rfl) (by kernel_rfl) (by kernel_rfl) (by kernel_rfl)
def kp70 (r:Nat):List Nat:=match r with
 |0=>[1,2,3]
 |1=>[1,2,3,4]
 |2=>[1,2,3,4]
 |3=>[1,2,3,4]
 |4=>[1,2,3,4,18]
 |5=>[1,2,3,4,5,6]
 |6=>[1,2,3,4,6]
 |7=>[1,2,3,4]
 |8=>[2,3]
 |_=>[]
def c70:ACode:=
(sq (.reg 3 [⟨some 1,none,.box 0 5 (tm 0)⟩,⟨some 2,none,.alloc 1 [zr,zs]⟩,⟨some 3,none,.alloc 2 [zs,z0,z0,zb,z0]⟩] [1,2,3]) (sq (.reg 3
 [ov 7 (.build [zr,zs] []),⟨some 4,none,.alloc 1 [zr,zs]⟩,⟨none,none,.st 2 (tm 4) (tm 7)⟩] [1,2,3,4]) (sq (rg [ov 9 (.ld 5 true (tm 1)),
 oc 10 64 [(tm 9),(.c (.str [114,101,103,105,111,110,115]))],oc 11 63 [(tm 10)],om 8 11,ox 12 0 8,ox 13 1 8,of 14 0 4,⟨none,none,.st 1
 (tm 14) (tm 12)⟩,⟨none,none,.st 5 (tm 1) (tm 13)⟩] [1,2,3,4]) (sq (rg [ov 15 (.ld 5 true (tm 1)),oc 16 67 [(tm 15),(.c (.str [123]))],⟨none,
 none,.st 5 (tm 1) (tm 16)⟩] [1,2,3,4]) (sq (.block 0 (.loop (sq (sq (rg [ov 17 (.ld 5 true (tm 1)),oc 18 109 [(tm 17)]] [1,2,3,4,18]) (.cond
 (tm 18) .skip (.exit 0))) (.block 1 (sq (.reg 8 [ov 20 (.ld 5 true (tm 1)),oc 21 110 [(tm 20)],om 19 21,ox 22 0 19,ox 23 1 19,⟨some 6,none,
 .alloc 5 [zs,z0,z0,zb,z0]⟩,om 5 22,⟨none,none,.st 5 (tm 6) (tm 23)⟩] [1,2,3,4,5,6]) (sq (.reg 7 [of 24 1 4,ol 25 24,om 26 5,ov 27
 (.bs 1 1 zs [(0,(tm 26))]),⟨some 28,none,.app 4 1 24 (tm 25) (tm 27) false⟩,of 29 1 4,⟨none,none,.st 1 (tm 29) (tm 28)⟩] [1,2,3,4,6]) (rg
 [ov 30 (.ld 5 true (tm 6)),oc 31 67 [(tm 30),(.c (.str [59]))],⟨none,none,.st 5 (tm 1) (tm 31)⟩] [1,2,3,4]))))))) (sq (rg [ov 32 (.ld 2 true
 (tm 4)),ov 33 (.ld 5 true (tm 1)),oc 34 67 [(tm 33),(.c (.str [125]))],⟨none,none,.st 2 (tm 2) (tm 32)⟩,⟨none,none,.st 5 (tm 3) (tm 34)⟩] [2,
 3]) .ret))))))
theorem a70:AOf Tryz.prog 70 c70 [.c 2 2 true,.c 3 5 true]:=mkA (fn:=Tryz.f70) (c:=Tryz.f70.body.getD .skip) (fz:=[]) (im:=[]) kp70 (by kernel_rfl) (by kernel_rfl) (by kernel_rfl) (by kernel_rfl) (by kernel_rfl)
def kp71 (r:Nat):List Nat:=match r with
 |0=>[1,2,3]
 |1=>[1,2,3,4]
 |2=>[1,2,3,4]
 |3=>[1,2,3,4]
 |4=>[1,2,3,4,21]
 |5=>[1,2,3,4]
 |6=>[2,3]
 |7=>[1,2,3,4,28]
 |8=>[1,2,3,4]
 |9=>[1,2,3,4]
 |10=>[1,2,3,4]
 |11=>[2,3]
 |12=>[1,2,3,4]
 |13=>[2,3]
 |_=>[]
def c71:ACode:=
(sq (.reg 3 [⟨some 1,none,.box 0 5 (tm 0)⟩,⟨some 2,none,.alloc 1 [zr,zr,z0,z0,z0,z0]⟩,⟨some 3,none,.alloc 2 [zs,z0,z0,zb,z0]⟩] [1,2,
 3]) (sq (.reg 3 [ov 5 (.build [zr,zr,z0,z0,z0,z0] []),⟨some 4,none,.alloc 1 [zr,zr,z0,z0,z0,z0]⟩,⟨none,none,.st 6 (tm 4) (tm 5)⟩] [1,
 2,3,4]) (sq (rg [ov 7 (.ld 5 true (tm 1)),oc 8 64 [(tm 7),(.c (.str [99,108,117,101]))],oc 9 63 [(tm 8)],om 6 9,ox 10 0 6,ox 11 1 6,of 12
 0 4,⟨none,none,.st 1 (tm 12) (tm 10)⟩,⟨none,none,.st 5 (tm 1) (tm 11)⟩] [1,2,3,4]) (sq (rg [ov 14 (.ld 5 true (tm 1)),oc 15 64 [(tm 14),
 (.c (.str [111,110]))],oc 16 63 [(tm 15)],om 13 16,ox 17 0 13,ox 18 1 13,of 19 1 4,⟨none,none,.st 1 (tm 19) (tm 17)⟩,⟨none,none,.st 5 (tm
 1) (tm 18)⟩] [1,2,3,4]) (sq (sq (rg [ov 20 (.ld 5 true (tm 1)),oc 21 69 [(tm 20),(.c (.str [115,121,109,98,111,108]))]] [1,2,3,4,21])
 (.cond (tm 21) (sq (rg [of 22 3 4,⟨none,none,.st 1 (tm 22) (ci 1)⟩] [1,2,3,4]) (sq (rg [ov 23 (.ld 6 true (tm 4)),ov 24 (.ld 5 true (tm 1)),
 oc 25 64 [(tm 24),(.c (.str [115,121,109,98,111,108]))],oc 26 67 [(tm 25),(.c (.str [59]))],⟨none,none,.st 6 (tm 2) (tm 23)⟩,⟨none,none,
 .st 5 (tm 3) (tm 26)⟩] [2,3]) .ret)) .skip)) (sq (sq (rg [ov 27 (.ld 5 true (tm 1)),oc 28 69 [(tm 27),(.c (.str [110,117,109,98,101,114]))]]
 [1,2,3,4,28]) (.cond (tm 28) (sq (rg [of 29 3 4,⟨none,none,.st 1 (tm 29) (ci 2)⟩] [1,2,3,4]) (sq (rg [ov 31 (.ld 5 true (tm 1)),oc 32 64
 [(tm 31),(.c (.str [110,117,109,98,101,114]))],oc 33 65 [(tm 32)],om 30 33,ox 34 0 30,ox 35 1 30,of 36 4 4,⟨none,none,.st 1 (tm 36) (tm
 34)⟩,⟨none,none,.st 5 (tm 1) (tm 35)⟩] [1,2,3,4]) (sq (rg [ov 38 (.ld 5 true (tm 1)),oc 39 64 [(tm 38),(.c (.str [116,111]))],oc 40 65 [(tm
 39)],om 37 40,ox 41 0 37,ox 42 1 37,of 43 5 4,⟨none,none,.st 1 (tm 43) (tm 41)⟩,⟨none,none,.st 5 (tm 1) (tm 42)⟩] [1,2,3,4]) (sq (rg [ov
 44 (.ld 6 true (tm 4)),ov 45 (.ld 5 true (tm 1)),oc 46 67 [(tm 45),(.c (.str [59]))],⟨none,none,.st 6 (tm 2) (tm 44)⟩,⟨none,none,.st 5 (tm 3)
 (tm 46)⟩] [2,3]) .ret)))) .skip)) (sq (rg [of 47 3 4,⟨none,none,.st 1 (tm 47) (ci 3)⟩] [1,2,3,4]) (sq (rg [ov 48 (.ld 6 true (tm 4)),ov 49
 (.ld 5 true (tm 1)),oc 50 64 [(tm 49),(.c (.str [114,117,110,115]))],oc 51 67 [(tm 50),(.c (.str [59]))],⟨none,none,.st 6 (tm 2) (tm 48)⟩,
 ⟨none,none,.st 5 (tm 3) (tm 51)⟩] [2,3]) .ret))))))))
theorem a71:AOf Tryz.prog 71 c71 [.c 2 6 true,.c 3 5 true]:=mkA (fn:=Tryz.f71) (c:=Tryz.f71.body.getD .skip) (fz:=[]) (im:=[]) kp71 (by kernel_rfl) (by kernel_rfl) (by kernel_rfl) (by kernel_rfl) (by kernel_rfl)
def kp132 (r:Nat):List Nat:=match r with
 |0=>[2,3,4,5]
 |1=>[2,3,4,5,7]
 |2=>[2,3,4,5]
 |3=>[2,3,4,5]
 |4=>[2,3,4,5,12]
 |5=>[2,3,4,5]
 |6=>[2,3,4,5]
 |7=>[2,3,4,5]
 |8=>[2,3,4,5]
 |9=>[2,3,4,5,20]
 |10=>[2,3,4,5]
 |11=>[2,3,4,5]
 |12=>[4,5]
 |_=>[]
def c132:ACode:=
(sq (.reg 4 [⟨some 2,none,.box 0 12 (tm 0)⟩,⟨some 3,none,.box 1 5 (tm 1)⟩,⟨some 4,none,.alloc 2 [zr,zr,z0,z0,zs,zs,z0,z0,z0,z0,zr,
 z0]⟩,⟨some 5,none,.alloc 3 [zs,z0,z0,zb,z0]⟩] [2,3,4,5]) (sq (sq (rg [ov 6 (.ld 5 true (tm 3)),oc 7 69 [(tm 6),(.c (.str [105,115]))]]
 [2,3,4,5,7]) (.cond (tm 7) (sq (rg [of 8 8 2,⟨none,none,.st 1 (tm 8) (ci 1)⟩] [2,3,4,5]) (rg [ov 9 (.ld 5 true (tm 3)),oc 10 64 [(tm 9),
 (.c (.str [105,115]))],⟨none,none,.st 5 (tm 3) (tm 10)⟩] [2,3,4,5])) (sq (rg [ov 11 (.ld 5 true (tm 3)),oc 12 69 [(tm 11),(.c (.str [109,
 111,115,116]))]] [2,3,4,5,12]) (.cond (tm 12) (sq (rg [of 13 8 2,⟨none,none,.st 1 (tm 13) (ci 2)⟩] [2,3,4,5]) (rg [ov 14 (.ld 5 true (tm
 3)),oc 15 64 [(tm 14),(.c (.str [109,111,115,116]))],⟨none,none,.st 5 (tm 3) (tm 15)⟩] [2,3,4,5])) (sq (rg [of 16 8 2,⟨none,none,.st 1
 (tm 16) (ci 3)⟩] [2,3,4,5]) (rg [ov 17 (.ld 5 true (tm 3)),oc 18 64 [(tm 17),(.c (.str [108,101,97,115,116]))],⟨none,none,.st 5 (tm 3)
 (tm 18)⟩] [2,3,4,5])))))) (sq (sq (rg [ov 19 (.ld 5 true (tm 3)),oc 20 107 [(tm 19)]] [2,3,4,5,20]) (.cond (tm 20) (rg [ov 22 (.ld 5 true
 (tm 3)),oc 23 63 [(tm 22)],om 21 23,ox 24 0 21,ox 25 1 21,of 26 10 2,⟨none,none,.st 1 (tm 26) (tm 24)⟩,⟨none,none,.st 5 (tm 3) (tm 25)⟩]
 [2,3,4,5]) (rg [ov 28 (.ld 5 true (tm 3)),oc 29 65 [(tm 28)],om 27 29,ox 30 0 27,ox 31 1 27,of 32 9 2,⟨none,none,.st 1 (tm 32) (tm 30)⟩,
 ⟨none,none,.st 5 (tm 3) (tm 31)⟩] [2,3,4,5]))) (sq (.regx 0 [(1,ov 33 (.ld 12 true (tm 2))),(300012,ov 34 (.ld 5 true (tm 3))),(300011,
 ⟨none,none,.st 12 (tm 4) (tm 33)⟩),(0,⟨none,none,.st 5 (tm 5) (tm 34)⟩)] [4,5]) .ret))))
theorem a132:AOf Tryz.prog 132 c132 [.c 4 12 true,.c 5 5 true]:=mkA (fn:=Tryz.f132) (c:=Tryz.f132.body.getD .skip) (fz:=[(700003,300009),(700004,300008)]) (im:=[]) kp132 (by kernel_rfl) (by kernel_rfl) (by kernel_rfl) (by kernel_rfl) (by kernel_rfl)
def kp130 (r:Nat):List Nat:=match r with
 |0=>[2,3,4,5]
 |1=>[2,3,4,5,7]
 |2=>[2,3,4,5]
 |3=>[4,5]
 |4=>[2,3,4,5,13]
 |5=>[2,3,4,5]
 |6=>[2,3,4,5]
 |7=>[4,5]
 |8=>[2,3,4,5,28]
 |9=>[2,3,4,5]
 |10=>[4,5]
 |11=>[2,3,4,5,37]
 |12=>[2,3,4,5]
 |13=>[4,5]
 |14=>[2,3,4,5]
 |15=>[2,3,4,5]
 |16=>[2,3,4,5]
 |17=>[4,5]
 |_=>[]
def c130:ACode:=
(sq (.reg 4 [⟨some 2,none,.box 0 12 (tm 0)⟩,⟨some 3,none,.box 1 5 (tm 1)⟩,⟨some 4,none,.alloc 2 [zr,zr,z0,z0,zs,zs,z0,z0,z0,z0,zr,
 z0]⟩,⟨some 5,none,.alloc 3 [zs,z0,z0,zb,z0]⟩] [2,3,4,5]) (sq (sq (rg [ov 6 (.ld 5 true (tm 3)),oc 7 69 [(tm 6),(.c (.str [100,105,102,
 102,101,114,101,110,116]))]] [2,3,4,5,7]) (.cond (tm 7) (sq (rg [of 8 2 2,⟨none,none,.st 1 (tm 8) (ci 1)⟩] [2,3,4,5]) (sq (rg [ov 9
 (.ld 12 true (tm 2)),ov 10 (.ld 5 true (tm 3)),oc 11 64 [(tm 10),(.c (.str [100,105,102,102,101,114,101,110,116]))],⟨none,none,.st 12
 (tm 4) (tm 9)⟩,⟨none,none,.st 5 (tm 5) (tm 11)⟩] [4,5]) .ret)) .skip)) (sq (sq (rg [ov 12 (.ld 5 true (tm 3)),oc 13 69 [(tm 12),(.c (.str [99,
 111,117,110,116]))]] [2,3,4,5,13]) (.cond (tm 13) (sq (rg [of 14 2 2,⟨none,none,.st 1 (tm 14) (ci 2)⟩] [2,3,4,5]) (sq (rg [ov 16 (.ld 5
 true (tm 3)),oc 17 64 [(tm 16),(.c (.str [99,111,117,110,116]))],oc 18 131 [(tm 17)],om 15 18,ox 19 0 15,ox 20 1 15,of 21 4 2,⟨none,none,
 .st 1 (tm 21) (tm 19)⟩,⟨none,none,.st 5 (tm 3) (tm 20)⟩] [2,3,4,5]) (sq (rg [ov 22 (.ld 12 true (tm 2)),ov 23 (.ld 5 true (tm 3)),oc 24 132
 [(tm 22),(tm 23)],ox 25 0 24,ox 26 1 24,⟨none,none,.st 12 (tm 4) (tm 25)⟩,⟨none,none,.st 5 (tm 5) (tm 26)⟩] [4,5]) .ret))) .skip)) (sq (sq
 (rg [ov 27 (.ld 5 true (tm 3)),oc 28 69 [(tm 27),(.c (.str [115,117,109]))]] [2,3,4,5,28]) (.cond (tm 28) (sq (rg [of 29 2 2,⟨none,none,
 .st 1 (tm 29) (ci 3)⟩] [2,3,4,5]) (sq (rg [ov 30 (.ld 12 true (tm 2)),ov 31 (.ld 5 true (tm 3)),oc 32 64 [(tm 31),(.c (.str [115,117,109]))],
 oc 33 132 [(tm 30),(tm 32)],ox 34 0 33,ox 35 1 33,⟨none,none,.st 12 (tm 4) (tm 34)⟩,⟨none,none,.st 5 (tm 5) (tm 35)⟩] [4,5]) .ret)) .skip))
 (sq (sq (rg [ov 36 (.ld 5 true (tm 3)),oc 37 69 [(tm 36),(.c (.str [114,105,115,101]))]] [2,3,4,5,37]) (.cond (tm 37) (sq (rg [of 38 2 2,
 ⟨none,none,.st 1 (tm 38) (ci 4)⟩] [2,3,4,5]) (sq (rg [ov 39 (.ld 12 true (tm 2)),ov 40 (.ld 5 true (tm 3)),oc 41 64 [(tm 40),(.c (.str [114,
 105,115,101]))],⟨none,none,.st 12 (tm 4) (tm 39)⟩,⟨none,none,.st 5 (tm 5) (tm 41)⟩] [4,5]) .ret)) .skip)) (sq (rg [of 42 2 2,⟨none,none,
 .st 1 (tm 42) (ci 5)⟩] [2,3,4,5]) (sq (rg [ov 44 (.ld 5 true (tm 3)),oc 45 64 [(tm 44),(.c (.str [114,117,110,115]))],oc 46 131 [(tm 45)],
 om 43 46,ox 47 0 43,ox 48 1 43,of 49 4 2,⟨none,none,.st 1 (tm 49) (tm 47)⟩,⟨none,none,.st 5 (tm 3) (tm 48)⟩] [2,3,4,5]) (sq (rg [ov 51
 (.ld 5 true (tm 3)),oc 52 64 [(tm 51),(.c (.str [98,121]))],oc 53 63 [(tm 52)],om 50 53,ox 54 0 50,ox 55 1 50,of 56 10 2,⟨none,none,.st 1
 (tm 56) (tm 54)⟩,⟨none,none,.st 5 (tm 3) (tm 55)⟩] [2,3,4,5]) (sq (.regx 0 [(1,ov 57 (.ld 12 true (tm 2))),(300012,ov 58 (.ld 5 true (tm
 3))),(300011,⟨none,none,.st 12 (tm 4) (tm 57)⟩),(0,⟨none,none,.st 5 (tm 5) (tm 58)⟩)] [4,5]) .ret)))))))))
theorem a130:AOf Tryz.prog 130 c130 [.c 4 12 true,.c 5 5 true]:=mkA (fn:=Tryz.f130) (c:=Tryz.f130.body.getD .skip) (fz:=[(700003,300009),(700004,300008)]) (im:=[]) kp130 (by kernel_rfl) (by kernel_rfl) (by kernel_rfl) (by kernel_rfl) (by kernel_rfl)
def kp114 (r:Nat):List Nat:=match r with
 |0=>[2,3,4,5]
 |1=>[2,3,4,5,7]
 |2=>[2,3,4,5]
 |3=>[4,5]
 |4=>[2,3,4,5,21]
 |5=>[2,3,4,5]
 |6=>[4,5]
 |7=>[2,3,4,5,27]
 |8=>[2,3,4,5]
 |9=>[2,3,4,5]
 |10=>[4,5]
 |11=>[2,3,4,5,39]
 |12=>[2,3,4,5]
 |13=>[2,3,4,5]
 |14=>[2,3,4,5]
 |15=>[4,5]
 |16=>[2,3,4,5,58]
 |17=>[2,3,4,5]
 |18=>[2,3,4,5]
 |19=>[4,5]
 |20=>[2,3,4,5,70]
 |21=>[2,3,4,5]
 |22=>[2,3,4,5]
 |23=>[4,5]
 |24=>[2,3,4,5,82]
 |25=>[2,3,4,5]
 |26=>[2,3,4,5]
 |27=>[4,5]
 |28=>[2,3,4,5,94]
 |29=>[2,3,4,5]
 |30=>[2,3,4,5]
 |31=>[4,5]
 |32=>[2,3,4,5]
 |33=>[4,5]
 |_=>[]
def c114:ACode:=
(sq (.reg 4 [⟨some 2,none,.box 0 12 (tm 0)⟩,⟨some 3,none,.box 1 5 (tm 1)⟩,⟨some 4,none,.alloc 2 [zr,zr,z0,z0,zs,zs,z0,z0,z0,z0,zr,
 z0]⟩,⟨some 5,none,.alloc 3 [zs,z0,z0,zb,z0]⟩] [2,3,4,5]) (sq (sq (rg [ov 6 (.ld 5 true (tm 3)),oc 7 69 [(tm 6),(.c (.str [101,97,99,
 104]))]] [2,3,4,5,7]) (.cond (tm 7) (sq (rg [ov 9 (.ld 5 true (tm 3)),oc 10 64 [(tm 9),(.c (.str [101,97,99,104]))],oc 11 63 [(tm 10)],om
 8 11,ox 12 0 8,ox 13 1 8,of 14 1 2,⟨none,none,.st 1 (tm 14) (tm 12)⟩,⟨none,none,.st 5 (tm 3) (tm 13)⟩] [2,3,4,5]) (sq (rg [ov 15 (.ld 12
 true (tm 2)),ov 16 (.ld 5 true (tm 3)),oc 17 130 [(tm 15),(tm 16)],ox 18 0 17,ox 19 1 17,⟨none,none,.st 12 (tm 4) (tm 18)⟩,⟨none,none,.st 5
 (tm 5) (tm 19)⟩] [4,5]) .ret)) .skip)) (sq (sq (rg [ov 20 (.ld 5 true (tm 3)),oc 21 69 [(tm 20),(.c (.str [117,110,108,105,107,101]))]] [2,
 3,4,5,21]) (.cond (tm 21) (sq (rg [of 22 2 2,⟨none,none,.st 1 (tm 22) (ci 6)⟩] [2,3,4,5]) (sq (rg [ov 23 (.ld 12 true (tm 2)),ov 24 (.ld 5
 true (tm 3)),oc 25 64 [(tm 24),(.c (.str [117,110,108,105,107,101]))],⟨none,none,.st 12 (tm 4) (tm 23)⟩,⟨none,none,.st 5 (tm 5) (tm 25)⟩]
 [4,5]) .ret)) .skip)) (sq (sq (rg [ov 26 (.ld 5 true (tm 3)),oc 27 69 [(tm 26),(.c (.str [97,112,97,114,116]))]] [2,3,4,5,27]) (.cond (tm
 27) (sq (rg [of 28 2 2,⟨none,none,.st 1 (tm 28) (ci 7)⟩] [2,3,4,5]) (sq (rg [ov 30 (.ld 5 true (tm 3)),oc 31 64 [(tm 30),(.c (.str [97,112,
 97,114,116]))],oc 32 65 [(tm 31)],om 29 32,ox 33 0 29,ox 34 1 29,of 35 9 2,⟨none,none,.st 1 (tm 35) (tm 33)⟩,⟨none,none,.st 5 (tm 3) (tm
 34)⟩] [2,3,4,5]) (sq (.regx 0 [(1,ov 36 (.ld 12 true (tm 2))),(300012,ov 37 (.ld 5 true (tm 3))),(300011,⟨none,none,.st 12 (tm 4) (tm
 36)⟩),(0,⟨none,none,.st 5 (tm 5) (tm 37)⟩)] [4,5]) .ret))) .skip)) (sq (sq (rg [ov 38 (.ld 5 true (tm 3)),oc 39 69 [(tm 38),(.c (.str [110,
 111,116]))]] [2,3,4,5,39]) (.cond (tm 39) (sq (rg [of 40 2 2,⟨none,none,.st 1 (tm 40) (ci 8)⟩] [2,3,4,5]) (sq (rg [ov 42 (.ld 5 true (tm
 3)),oc 43 64 [(tm 42),(.c (.str [110,111,116]))],oc 44 131 [(tm 43)],om 41 44,ox 45 0 41,ox 46 1 41,of 47 4 2,⟨none,none,.st 1 (tm 47) (tm
 45)⟩,⟨none,none,.st 5 (tm 3) (tm 46)⟩] [2,3,4,5]) (sq (rg [ov 49 (.ld 5 true (tm 3)),oc 50 64 [(tm 49),(.c (.str [98,101,115,105,100,
 101]))],oc 51 131 [(tm 50)],om 48 51,ox 52 0 48,ox 53 1 48,of 54 5 2,⟨none,none,.st 1 (tm 54) (tm 52)⟩,⟨none,none,.st 5 (tm 3) (tm 53)⟩]
 [2,3,4,5]) (sq (.regx 0 [(1,ov 55 (.ld 12 true (tm 2))),(300012,ov 56 (.ld 5 true (tm 3))),(300011,⟨none,none,.st 12 (tm 4) (tm 55)⟩),(0,
 ⟨none,none,.st 5 (tm 5) (tm 56)⟩)] [4,5]) .ret)))) .skip)) (sq (sq (rg [ov 57 (.ld 5 true (tm 3)),oc 58 69 [(tm 57),(.c (.str [99,111,110,
 110,101,99,116,101,100]))]] [2,3,4,5,58]) (.cond (tm 58) (sq (rg [of 59 2 2,⟨none,none,.st 1 (tm 59) (ci 9)⟩] [2,3,4,5]) (sq (rg [ov
 61 (.ld 5 true (tm 3)),oc 62 64 [(tm 61),(.c (.str [99,111,110,110,101,99,116,101,100]))],oc 63 131 [(tm 62)],om 60 63,ox 64 0 60,ox 65
 1 60,of 66 4 2,⟨none,none,.st 1 (tm 66) (tm 64)⟩,⟨none,none,.st 5 (tm 3) (tm 65)⟩] [2,3,4,5]) (sq (.regx 0 [(1,ov 67 (.ld 12 true (tm
 2))),(300012,ov 68 (.ld 5 true (tm 3))),(300011,⟨none,none,.st 12 (tm 4) (tm 67)⟩),(0,⟨none,none,.st 5 (tm 5) (tm 68)⟩)] [4,5]) .ret)))
 .skip)) (sq (sq (rg [ov 69 (.ld 5 true (tm 3)),oc 70 69 [(tm 69),(.c (.str [108,111,111,112]))]] [2,3,4,5,70]) (.cond (tm 70) (sq (rg [of
 71 2 2,⟨none,none,.st 1 (tm 71) (ci 10)⟩] [2,3,4,5]) (sq (rg [ov 73 (.ld 5 true (tm 3)),oc 74 64 [(tm 73),(.c (.str [108,111,111,112]))],
 oc 75 131 [(tm 74)],om 72 75,ox 76 0 72,ox 77 1 72,of 78 4 2,⟨none,none,.st 1 (tm 78) (tm 76)⟩,⟨none,none,.st 5 (tm 3) (tm 77)⟩] [2,3,4,
 5]) (sq (.regx 0 [(1,ov 79 (.ld 12 true (tm 2))),(300012,ov 80 (.ld 5 true (tm 3))),(300011,⟨none,none,.st 12 (tm 4) (tm 79)⟩),(0,⟨none,
 none,.st 5 (tm 5) (tm 80)⟩)] [4,5]) .ret))) .skip)) (sq (sq (rg [ov 81 (.ld 5 true (tm 3)),oc 82 69 [(tm 81),(.c (.str [103,105,118,101,
 110]))]] [2,3,4,5,82]) (.cond (tm 82) (sq (rg [of 83 2 2,⟨none,none,.st 1 (tm 83) (ci 11)⟩] [2,3,4,5]) (sq (rg [ov 85 (.ld 5 true (tm 3)),
 oc 86 64 [(tm 85),(.c (.str [103,105,118,101,110]))],oc 87 63 [(tm 86)],om 84 87,ox 88 0 84,ox 89 1 84,of 90 10 2,⟨none,none,.st 1 (tm
 90) (tm 88)⟩,⟨none,none,.st 5 (tm 3) (tm 89)⟩] [2,3,4,5]) (sq (.regx 0 [(1,ov 91 (.ld 12 true (tm 2))),(300012,ov 92 (.ld 5 true (tm 3))),
 (300011,⟨none,none,.st 12 (tm 4) (tm 91)⟩),(0,⟨none,none,.st 5 (tm 5) (tm 92)⟩)] [4,5]) .ret))) .skip)) (sq (sq (rg [ov 93 (.ld 5 true (tm
 3)),oc 94 69 [(tm 93),(.c (.str [102,105,108,108,101,100]))]] [2,3,4,5,94]) (.cond (tm 94) (sq (rg [of 95 2 2,⟨none,none,.st 1 (tm 95)
 (ci 12)⟩] [2,3,4,5]) (sq (rg [ov 97 (.ld 5 true (tm 3)),oc 98 64 [(tm 97),(.c (.str [102,105,108,108,101,100]))],oc 99 63 [(tm 98)],om 96
 99,ox 100 0 96,ox 101 1 96,of 102 1 2,⟨none,none,.st 1 (tm 102) (tm 100)⟩,⟨none,none,.st 5 (tm 3) (tm 101)⟩] [2,3,4,5]) (sq (.regx 0 [(1,
 ov 103 (.ld 12 true (tm 2))),(300012,ov 104 (.ld 5 true (tm 3))),(300011,⟨none,none,.st 12 (tm 4) (tm 103)⟩),(0,⟨none,none,.st 5 (tm 5) (tm
 104)⟩)] [4,5]) .ret))) .skip)) (sq (rg [of 105 2 2,⟨none,none,.st 1 (tm 105) (ci 13)⟩] [2,3,4,5]) (sq (rg [ov 106 (.ld 12 true (tm 2)),ov
 107 (.ld 5 true (tm 3)),oc 108 64 [(tm 107),(.c (.str [115,116,101,112,115]))],oc 109 132 [(tm 106),(tm 108)],ox 110 0 109,ox 111 1 109,
 ⟨none,none,.st 12 (tm 4) (tm 110)⟩,⟨none,none,.st 5 (tm 5) (tm 111)⟩] [4,5]) .ret)))))))))))
theorem a114:AOf Tryz.prog 114 c114 [.c 4 12 true,.c 5 5 true]:=mkA (fn:=Tryz.f114) (c:=Tryz.f114.body.getD .skip) (fz:=[(700003,300009),(700004,300008)]) (im:=[]) kp114 (by kernel_rfl) (by kernel_rfl) (by kernel_rfl) (by kernel_rfl) (by kernel_rfl)
def kp72 (r:Nat):List Nat:=match r with
 |0=>[1,2,3]
 |1=>[1,2,3,4]
 |2=>[1,2,3,4]
 |3=>[1,2,3,4]
 |4=>[2,3]
 |_=>[]
def c72:ACode:=
(sq (.reg 3 [⟨some 1,none,.box 0 5 (tm 0)⟩,⟨some 2,none,.alloc 1 [zr,zr,z0,z0,zs,zs,z0,z0,z0,z0,zr,z0]⟩,⟨some 3,none,.alloc 2 [zs,
 z0,z0,zb,z0]⟩] [1,2,3]) (sq (.reg 3 [ov 5 (.build [zr,zr,z0,z0,zs,zs,z0,z0,z0,z0,zr,z0] []),⟨some 4,none,.alloc 1 [zr,zr,z0,z0,
 zs,zs,z0,z0,z0,z0,zr,z0]⟩,⟨none,none,.st 12 (tm 4) (tm 5)⟩] [1,2,3,4]) (sq (rg [ov 7 (.ld 5 true (tm 1)),oc 8 64 [(tm 7),(.c (.str
 [114,117,108,101]))],oc 9 63 [(tm 8)],om 6 9,ox 10 0 6,ox 11 1 6,of 12 0 4,⟨none,none,.st 1 (tm 12) (tm 10)⟩,⟨none,none,.st 5 (tm 1) (tm
 11)⟩] [1,2,3,4]) (sq (rg [ov 14 (.ld 12 true (tm 4)),ov 15 (.ld 5 true (tm 1)),oc 16 67 [(tm 15),(.c (.str [58]))],oc 17 114 [(tm 14),(tm
 16)],om 13 17,ox 18 0 13,ox 19 1 13,⟨none,none,.st 12 (tm 4) (tm 18)⟩,⟨none,none,.st 5 (tm 1) (tm 19)⟩] [1,2,3,4]) (sq (rg [ov 20 (.ld 12
 true (tm 4)),ov 21 (.ld 5 true (tm 1)),oc 22 67 [(tm 21),(.c (.str [59]))],⟨none,none,.st 12 (tm 2) (tm 20)⟩,⟨none,none,.st 5 (tm 3) (tm
 22)⟩] [2,3]) .ret)))))
theorem a72:AOf Tryz.prog 72 c72 [.c 2 12 true,.c 3 5 true]:=mkA (fn:=Tryz.f72) (c:=Tryz.f72.body.getD .skip) (fz:=[]) (im:=[]) kp72 (by kernel_rfl) (by kernel_rfl) (by kernel_rfl) (by kernel_rfl) (by kernel_rfl)
def kp25 (r:Nat):List Nat:=match r with
 |0=>[1,2,3]
 |1=>[1,2,3,4]
 |2=>[1,2,3,4]
 |3=>[1,2,3,4]
 |4=>[1,2,3,4]
 |5=>[1,2,3,4]
 |6=>[1,2,3,4,40]
 |7=>[1,2,3,4,5,6]
 |8=>[1,2,3,4,6]
 |9=>[1,2,3,4]
 |10=>[1,2,3,4,54]
 |11=>[1,2,3,4,7,8]
 |12=>[1,2,3,4,8]
 |13=>[1,2,3,4]
 |14=>[1,2,3,4,68]
 |15=>[1,2,3,4,9,10]
 |16=>[1,2,3,4,10]
 |17=>[1,2,3,4]
 |18=>[1,2,3,4]
 |19=>[1,2,3,4,88]
 |20=>[1,2,3,4]
 |21=>[2,3]
 |_=>[]
def c25:ACode:=
(sq (.reg 3 [⟨some 1,none,.box 0 5 (tm 0)⟩,⟨some 2,none,.alloc 1 [zr,z0,z0,z0,z0,zs,zs,zs,zs,zs]⟩,⟨some 3,none,.alloc 2 [zs,z0,z0,
 zb,z0]⟩] [1,2,3]) (sq (.reg 3 [ov 11 (.build [zr,z0,z0,z0,z0,zs,zs,zs,zs,zs] []),⟨some 4,none,.alloc 1 [zr,z0,z0,z0,z0,zs,zs,
 zs,zs,zs]⟩,⟨none,none,.st 10 (tm 4) (tm 11)⟩] [1,2,3,4]) (sq (rg [ov 13 (.ld 5 true (tm 1)),oc 14 64 [(tm 13),(.c (.str [107,105,110,
 100]))],oc 15 63 [(tm 14)],om 12 15,ox 16 0 12,ox 17 1 12,of 18 0 4,⟨none,none,.st 1 (tm 18) (tm 16)⟩,⟨none,none,.st 5 (tm 1) (tm 17)⟩] [1,
 2,3,4]) (sq (rg [ov 20 (.ld 5 true (tm 1)),oc 21 64 [(tm 20),(.c (.str [118,101,114,115,105,111,110]))],oc 22 65 [(tm 21)],om 19 22,ox
 23 0 19,ox 24 1 19,of 25 1 4,⟨none,none,.st 1 (tm 25) (tm 23)⟩,⟨none,none,.st 5 (tm 1) (tm 24)⟩] [1,2,3,4]) (sq (rg [ov 27 (.ld 10 true
 (tm 4)),ov 28 (.ld 5 true (tm 1)),oc 29 67 [(tm 28),(.c (.str [123]))],oc 30 66 [(tm 27),(tm 29)],om 26 30,ox 31 0 26,ox 32 1 26,⟨none,none,
 .st 10 (tm 4) (tm 31)⟩,⟨none,none,.st 5 (tm 1) (tm 32)⟩] [1,2,3,4]) (sq (rg [ov 34 (.ld 5 true (tm 1)),oc 35 68 [(tm 34)],om 33 35,ox 36 0
 33,ox 37 1 33,of 38 6 4,⟨none,none,.st 1 (tm 38) (tm 36)⟩,⟨none,none,.st 5 (tm 1) (tm 37)⟩] [1,2,3,4]) (sq (.block 0 (.loop (sq (sq (rg [
 ov 39 (.ld 5 true (tm 1)),oc 40 69 [(tm 39),(.c (.str [114,101,103,105,111,110,115]))]] [1,2,3,4,40]) (.cond (tm 40) .skip (.exit 0)))
 (.block 1 (sq (.reg 9 [ov 42 (.ld 5 true (tm 1)),oc 43 70 [(tm 42)],om 41 43,ox 44 0 41,ox 45 1 41,⟨some 5,none,.alloc 5 [zr,zs]⟩,⟨some 6,
 none,.alloc 6 [zs,z0,z0,zb,z0]⟩,⟨none,none,.st 2 (tm 5) (tm 44)⟩,⟨none,none,.st 5 (tm 6) (tm 45)⟩] [1,2,3,4,5,6]) (sq (.reg 7 [of 46
 7 4,ol 47 46,ov 48 (.ld 2 true (tm 5)),ov 49 (.bs 2 1 (.agg [zr,zs]) [(0,(tm 48))]),⟨some 50,none,.app 4 2 40 (tm 47) (tm 49) false⟩,of 51 7
 4,⟨none,none,.st 1 (tm 51) (tm 50)⟩] [1,2,3,4,6]) (rg [ov 52 (.ld 5 true (tm 6)),⟨none,none,.st 5 (tm 1) (tm 52)⟩] [1,2,3,4]))))))) (sq
 (.block 2 (.loop (sq (sq (rg [ov 53 (.ld 5 true (tm 1)),oc 54 69 [(tm 53),(.c (.str [99,108,117,101]))]] [1,2,3,4,54]) (.cond (tm 54) .skip
 (.exit 2))) (.block 3 (sq (.reg 9 [ov 56 (.ld 5 true (tm 1)),oc 57 71 [(tm 56)],om 55 57,ox 58 0 55,ox 59 1 55,⟨some 7,none,.alloc 5 [zr,zr,
 z0,z0,z0,z0]⟩,⟨some 8,none,.alloc 6 [zs,z0,z0,zb,z0]⟩,⟨none,none,.st 6 (tm 7) (tm 58)⟩,⟨none,none,.st 5 (tm 8) (tm 59)⟩] [1,2,3,4,
 7,8]) (sq (.reg 7 [of 60 8 4,ol 61 60,ov 62 (.ld 6 true (tm 7)),ov 63 (.bs 6 1 (.agg [zr,zr,z0,z0,z0,z0]) [(0,(tm 62))]),⟨some 64,none,
 .app 4 6 64 (tm 61) (tm 63) false⟩,of 65 8 4,⟨none,none,.st 1 (tm 65) (tm 64)⟩] [1,2,3,4,8]) (rg [ov 66 (.ld 5 true (tm 8)),⟨none,none,.st
 5 (tm 1) (tm 66)⟩] [1,2,3,4]))))))) (sq (.block 4 (.loop (sq (sq (rg [ov 67 (.ld 5 true (tm 1)),oc 68 69 [(tm 67),(.c (.str [114,117,108,
 101]))]] [1,2,3,4,68]) (.cond (tm 68) .skip (.exit 4))) (.block 5 (sq (.reg 9 [ov 70 (.ld 5 true (tm 1)),oc 71 72 [(tm 70)],om 69 71,ox 72 0
 69,ox 73 1 69,⟨some 9,none,.alloc 5 [zr,zr,z0,z0,zs,zs,z0,z0,z0,z0,zr,z0]⟩,⟨some 10,none,.alloc 6 [zs,z0,z0,zb,z0]⟩,⟨none,
 none,.st 12 (tm 9) (tm 72)⟩,⟨none,none,.st 5 (tm 10) (tm 73)⟩] [1,2,3,4,9,10]) (sq (.reg 7 [of 74 9 4,ol 75 74,ov 76 (.ld 12 true (tm 9)),
 ov 77 (.bs 12 1 (.agg [zr,zr,z0,z0,zs,zs,z0,z0,z0,z0,zr,z0]) [(0,(tm 76))]),⟨some 78,none,.app 4 12 152 (tm 75) (tm 77) false⟩,of 79 9
 4,⟨none,none,.st 1 (tm 79) (tm 78)⟩] [1,2,3,4,10]) (rg [ov 80 (.ld 5 true (tm 10)),⟨none,none,.st 5 (tm 1) (tm 80)⟩] [1,2,3,4])))))))
 (sq (rg [ov 81 (.ld 5 true (tm 1)),oc 82 67 [(tm 81),(.c (.str [125]))],⟨none,none,.st 5 (tm 1) (tm 82)⟩] [1,2,3,4]) (sq (sq (rg [of 83 1 1,
 ol 84 83,of 85 0 1,ol 86 85,on 87 86,ov 88 (.icmp .lss .i64 (tm 84) (tm 87))] [1,2,3,4,88]) (.cond (tm 88) (rg [ov 89 (.ld 5 true (tm 1)),oc
 90 73 [(tm 89)],⟨none,none,.st 5 (tm 1) (tm 90)⟩] [1,2,3,4]) .skip)) (sq (.regx 0 [(1,ov 91 (.ld 10 true (tm 4))),(300008,ov 92 (.ld 5 true
 (tm 1))),(300007,⟨none,none,.st 10 (tm 2) (tm 91)⟩),(0,⟨none,none,.st 5 (tm 3) (tm 92)⟩)] [2,3]) .ret))))))))))))
theorem a25:AOf Tryz.prog 25 c25 [.c 2 10 true,.c 3 5 true]:=mkA (fn:=Tryz.f25) (c:=Tryz.f25.body.getD .skip) (fz:=[(700001,300005),(700002,300004)]) (im:=[]) kp25 (by kernel_rfl) (by kernel_rfl) (by kernel_rfl) (by kernel_rfl) (by kernel_rfl)
end Go.AM
end
section
set_option maxRecDepth 20000
set_option linter.all false
namespace Go.AM
open Go.Proofs
def kp80 (r:Nat):List Nat:=match r with
 |0=>[0,1]
 |1=>[4]
 |_=>[]
def c80:ACode:=
(sq (rg [ov 4 (.mv (.c zs))] [0,1]) (sq (.reg 8 [ov 5 (.bs 4 0 (.agg [z0,zr,z0,z0]) []),om 6 0,⟨some 7,none,.app 2 4 40 (tm 5) (tm 6) false⟩,
 om 8 1,ov 9 (.build [z0,zr,z0,z0] [(0,1,(ci 1)),(1,1,(tm 8))]),ov 10 (.bs 4 1 (.agg [z0,zr,z0,z0]) [(0,(tm 9))]),⟨some 11,none,.app 6
 4 40 (tm 7) (tm 10) false⟩,om 4 11] [4]) .ret))
theorem a80:AOf Tryz.prog 80 c80 [.t 4]:=mkA (fn:=Tryz.f80) (c:=Tryz.f80.body.getD .skip) (fz:=[]) (im:=[]) kp80 (by kernel_rfl) (by kernel_rfl) (by kernel_rfl) (by kernel_rfl) (by kernel_rfl)
def kp81 (r:Nat):List Nat:=match r with
 |0=>[0,1]
 |1=>[4]
 |_=>[]
def c81:ACode:=
(sq (rg [ov 4 (.mv (.c zs))] [0,1]) (sq (.reg 8 [ov 5 (.bs 4 0 (.agg [z0,zr,z0,z0]) []),om 6 0,⟨some 7,none,.app 2 4 40 (tm 5) (tm 6) false⟩,
 om 8 1,ov 9 (.build [z0,zr,z0,z0] [(0,1,(ci 3)),(1,1,(tm 8))]),ov 10 (.bs 4 1 (.agg [z0,zr,z0,z0]) [(0,(tm 9))]),⟨some 11,none,.app 6
 4 40 (tm 7) (tm 10) false⟩,om 4 11] [4]) .ret))
theorem a81:AOf Tryz.prog 81 c81 [.t 4]:=mkA (fn:=Tryz.f81) (c:=Tryz.f81.body.getD .skip) (fz:=[]) (im:=[]) kp81 (by kernel_rfl) (by kernel_rfl) (by kernel_rfl) (by kernel_rfl) (by kernel_rfl)
def kp82 (r:Nat):List Nat:=match r with
 |0=>[0,1]
 |1=>[4]
 |_=>[]
def c82:ACode:=
(sq (rg [ov 4 (.mv (.c zs))] [0,1]) (sq (.reg 8 [ov 5 (.bs 4 0 (.agg [z0,zr,z0,z0]) []),om 6 0,⟨some 7,none,.app 2 4 40 (tm 5) (tm 6) false⟩,
 om 8 1,ov 9 (.build [z0,zr,z0,z0] [(0,1,(ci 2)),(2,1,(tm 8))]),ov 10 (.bs 4 1 (.agg [z0,zr,z0,z0]) [(0,(tm 9))]),⟨some 11,none,.app 6
 4 40 (tm 7) (tm 10) false⟩,om 4 11] [4]) .ret))
theorem a82:AOf Tryz.prog 82 c82 [.t 4]:=mkA (fn:=Tryz.f82) (c:=Tryz.f82.body.getD .skip) (fz:=[]) (im:=[]) kp82 (by kernel_rfl) (by kernel_rfl) (by kernel_rfl) (by kernel_rfl) (by kernel_rfl)
def kp83 (r:Nat):List Nat:=match r with
 |0=>[0,1]
 |1=>[0,1,5]
 |2=>[0,1,5,9]
 |4=>[0,1,5,13]
 |5=>[0,1,5]
 |6=>[0,1,5]
 |3=>[0,1,5]
 |7=>[4]
 |_=>[]
def c83:ACode:=
(sq (rg [ov 4 (.mv (.c zs))] [0,1]) (sq (sq (rg [oi 5 0] [0,1,5]) (.block 0 (.loop (sq (sq (rg [om 6 5,om 7 1,on 8 7,ov 9 (.icmp .lss .i64 (tm
 6) (tm 8))] [0,1,5,9]) (.cond (tm 9) .skip (.exit 0))) (sq (.block 1 (sq (sq (rg [om 12 5,ov 13 (.icmp .gtr .i64 (tm 12) (ci 0))] [0,1,5,13])
 (.cond (tm 13) (rg [om 14 0,oc 15 81 [(tm 14),(.c (.str [44]))],om 0 15] [0,1,5]) .skip)) (rg [om 16 0,om 17 1,om 18 5,oa 19 1 17 18,ol 20
 19,oc 21 82 [(tm 16),(tm 20)],om 0 21] [0,1,5]))) (rg [om 10 5,ov 11 (.arith .add .i64 (tm 10) (ci 1)),om 5 11] [0,1,5])))))) (sq (rg [om
 22 0,om 4 22] [4]) .ret)))
theorem a83:AOf Tryz.prog 83 c83 [.t 4]:=mkA (fn:=Tryz.f83) (c:=Tryz.f83.body.getD .skip) (fz:=[]) (im:=[]) kp83 (by kernel_rfl) (by kernel_rfl) (by kernel_rfl) (by kernel_rfl) (by kernel_rfl)
def kp117 (r:Nat):List Nat:=match r with
 |0=>[0,1]
 |1=>[0,1]
 |2=>[0,1,5]
 |3=>[0,1,5,11]
 |5=>[0,1,5,15]
 |6=>[0,1,5]
 |7=>[0,1,5]
 |4=>[0,1,5]
 |8=>[4]
 |_=>[]
def c117:ACode:=
(sq (rg [ov 4 (.mv (.c zs))] [0,1]) (sq (rg [om 6 0,oc 7 81 [(tm 6),(.c (.str [123]))],om 0 7] [0,1]) (sq (sq (rg [oi 5 0] [0,1,5]) (.block 0
 (.loop (sq (sq (rg [om 8 5,om 9 1,on 10 9,ov 11 (.icmp .lss .i64 (tm 8) (tm 10))] [0,1,5,11]) (.cond (tm 11) .skip (.exit 0))) (sq (.block 1
 (sq (sq (rg [om 14 5,ov 15 (.icmp .gtr .i64 (tm 14) (ci 0))] [0,1,5,15]) (.cond (tm 15) (rg [om 16 0,oc 17 81 [(tm 16),(.c (.str [44]))],om 0
 17] [0,1,5]) .skip)) (rg [om 18 0,om 19 1,om 20 5,oa 21 1 19 20,ol 22 21,oc 23 80 [(tm 18),(tm 22)],om 0 23] [0,1,5]))) (rg [om 12 5,ov
 13 (.arith .add .i64 (tm 12) (ci 1)),om 5 13] [0,1,5])))))) (sq (rg [om 24 0,oc 25 81 [(tm 24),(.c (.str [125]))],om 4 25] [4]) .ret))))
theorem a117:AOf Tryz.prog 117 c117 [.t 4]:=mkA (fn:=Tryz.f117) (c:=Tryz.f117.body.getD .skip) (fz:=[]) (im:=[]) kp117 (by kernel_rfl) (by kernel_rfl) (by kernel_rfl) (by kernel_rfl) (by kernel_rfl)
def kp116 (r:Nat):List Nat:=match r with
 |0=>[0,3]
 |1=>[0,3,7]
 |2=>[0,3]
 |3=>[0,3,12]
 |4=>[0,3]
 |5=>[0,3]
 |6=>[0,3,19]
 |7=>[4]
 |8=>[4]
 |_=>[]
def c116:ACode:=
(sq (.reg 2 [⟨some 3,none,.box 0 12 (tm 1)⟩,ov 4 (.mv (.c zs))] [0,3]) (sq (sq (rg [of 5 8 3,ol 6 5,ov 7 (.icmp .eql .i64 (tm 6) (ci 1))] [0,
 3,7]) (.cond (tm 7) (rg [om 8 0,oc 9 80 [(tm 8),(.c (.str [105,115]))],om 0 9] [0,3]) (sq (rg [of 10 8 3,ol 11 10,ov 12 (.icmp .eql .i64 (tm
 11) (ci 2))] [0,3,12]) (.cond (tm 12) (rg [om 13 0,oc 14 80 [(tm 13),(.c (.str [109,111,115,116]))],om 0 14] [0,3]) (rg [om 15 0,oc 16 80
 [(tm 15),(.c (.str [108,101,97,115,116]))],om 0 16] [0,3]))))) (sq (sq (rg [of 17 10 3,ol 18 17,ov 19 (.scmp .neq (tm 18) (.c zr))] [0,3,
 19]) (.cond (tm 19) (sq (rg [om 20 0,of 21 10 3,ol 22 21,oc 23 80 [(tm 20),(tm 22)],om 4 23] [4]) .ret) .skip)) (sq (rg [om 24 0,of 25 9 3,ol
 26 25,oc 27 82 [(tm 24),(tm 26)],om 4 27] [4]) .ret))))
theorem a116:AOf Tryz.prog 116 c116 [.t 4]:=mkA (fn:=Tryz.f116) (c:=Tryz.f116.body.getD .skip) (fz:=[]) (im:=[]) kp116 (by kernel_rfl) (by kernel_rfl) (by kernel_rfl) (by kernel_rfl) (by kernel_rfl)
def kp85 (r:Nat):List Nat:=match r with
 |0=>[0,3]
 |1=>[0,3,12]
 |2=>[0,3]
 |3=>[0,3,19]
 |4=>[0,3,19,20]
 |5=>[4]
 |6=>[0,3,19,24]
 |7=>[4]
 |8=>[0,3,19,33]
 |9=>[4]
 |10=>[0,3,19,39]
 |11=>[4]
 |12=>[0,3,19,43]
 |13=>[4]
 |14=>[0,3,19,54]
 |15=>[4]
 |16=>[0,3,19,58]
 |17=>[4]
 |18=>[0,3,19,65]
 |19=>[4]
 |20=>[0,3,19,76]
 |21=>[4]
 |22=>[0,3,19,83]
 |23=>[4]
 |24=>[0,3,19,90]
 |25=>[4]
 |26=>[0,3,97]
 |27=>[4]
 |28=>[4]
 |_=>[]
def c85:ACode:=
(sq (.reg 2 [⟨some 3,none,.box 0 12 (tm 1)⟩,ov 4 (.mv (.c zs))] [0,3]) (sq (sq (rg [of 5 2 3,ol 6 5,ov 7 (.icmp .geq .i64 (tm 6) (ci 1)),om 8
 7,gf 9 8 true 2 3,gl 10 8 true 9,gv 11 8 true (.icmp .leq .i64 (tm 10) (ci 5)),oy 12 8 11] [0,3,12]) (.cond (tm 12) (rg [om 13 0,oc 14 80 [(tm
 13),(.c (.str [101,97,99,104]))],of 15 1 3,ol 16 15,oc 17 80 [(tm 14),(tm 16)],om 0 17] [0,3]) .skip)) (sq (sq (rg [of 18 2 3,ol 19 18]
 [0,3,19]) (.block 0 (sq (rg [ov 21 (.icmp .eql .i64 (tm 19) (ci 1)),om 20 21] [0,3,19,20]) (.cond (tm 20) (sq (rg [om 22 0,oc 23 80 [(tm 22),
 (.c (.str [100,105,102,102,101,114,101,110,116]))],om 4 23] [4]) .ret) (sq (rg [ov 25 (.icmp .eql .i64 (tm 19) (ci 2)),om 24 25] [0,3,19,
 24]) (.cond (tm 24) (sq (rg [om 26 0,oc 27 80 [(tm 26),(.c (.str [99,111,117,110,116]))],of 28 4 3,ol 29 28,oc 30 117 [(tm 27),(tm 29)],ov
 31 (.ld 12 true (tm 3)),oc 32 116 [(tm 30),(tm 31)],om 4 32] [4]) .ret) (sq (rg [ov 34 (.icmp .eql .i64 (tm 19) (ci 3)),om 33 34] [0,3,19,33])
 (.cond (tm 33) (sq (rg [om 35 0,oc 36 80 [(tm 35),(.c (.str [115,117,109]))],ov 37 (.ld 12 true (tm 3)),oc 38 116 [(tm 36),(tm 37)],om 4 38]
 [4]) .ret) (sq (rg [ov 40 (.icmp .eql .i64 (tm 19) (ci 4)),om 39 40] [0,3,19,39]) (.cond (tm 39) (sq (rg [om 41 0,oc 42 80 [(tm 41),(.c (.str
 [114,105,115,101]))],om 4 42] [4]) .ret) (sq (rg [ov 44 (.icmp .eql .i64 (tm 19) (ci 5)),om 43 44] [0,3,19,43]) (.cond (tm 43) (sq (rg [om
 45 0,oc 46 80 [(tm 45),(.c (.str [114,117,110,115]))],of 47 4 3,ol 48 47,oc 49 117 [(tm 46),(tm 48)],oc 50 80 [(tm 49),(.c (.str [98,
 121]))],of 51 10 3,ol 52 51,oc 53 80 [(tm 50),(tm 52)],om 4 53] [4]) .ret) (sq (rg [ov 55 (.icmp .eql .i64 (tm 19) (ci 6)),om 54 55] [0,3,19,
 54]) (.cond (tm 54) (sq (rg [om 56 0,oc 57 80 [(tm 56),(.c (.str [117,110,108,105,107,101]))],om 4 57] [4]) .ret) (sq (rg [ov 59 (.icmp .eql
 .i64 (tm 19) (ci 7)),om 58 59] [0,3,19,58]) (.cond (tm 58) (sq (rg [om 60 0,oc 61 80 [(tm 60),(.c (.str [97,112,97,114,116]))],of 62 9 3,
 ol 63 62,oc 64 82 [(tm 61),(tm 63)],om 4 64] [4]) .ret) (sq (rg [ov 66 (.icmp .eql .i64 (tm 19) (ci 8)),om 65 66] [0,3,19,65]) (.cond (tm 65)
 (sq (rg [om 67 0,oc 68 80 [(tm 67),(.c (.str [110,111,116]))],of 69 4 3,ol 70 69,oc 71 117 [(tm 68),(tm 70)],oc 72 80 [(tm 71),(.c (.str
 [98,101,115,105,100,101]))],of 73 5 3,ol 74 73,oc 75 117 [(tm 72),(tm 74)],om 4 75] [4]) .ret) (sq (rg [ov 77 (.icmp .eql .i64 (tm 19) (ci
 9)),om 76 77] [0,3,19,76]) (.cond (tm 76) (sq (rg [om 78 0,oc 79 80 [(tm 78),(.c (.str [99,111,110,110,101,99,116,101,100]))],of 80 4
 3,ol 81 80,oc 82 117 [(tm 79),(tm 81)],om 4 82] [4]) .ret) (sq (rg [ov 84 (.icmp .eql .i64 (tm 19) (ci 10)),om 83 84] [0,3,19,83]) (.cond (tm
 83) (sq (rg [om 85 0,oc 86 80 [(tm 85),(.c (.str [108,111,111,112]))],of 87 4 3,ol 88 87,oc 89 117 [(tm 86),(tm 88)],om 4 89] [4]) .ret)
 (sq (rg [ov 91 (.icmp .eql .i64 (tm 19) (ci 11)),om 90 91] [0,3,19,90]) (.cond (tm 90) (sq (rg [om 92 0,oc 93 80 [(tm 92),(.c (.str [103,105,
 118,101,110]))],of 94 10 3,ol 95 94,oc 96 80 [(tm 93),(tm 95)],om 4 96] [4]) .ret) (sq (rg [ov 98 (.icmp .eql .i64 (tm 19) (ci 12)),om 97 98]
 [0,3,97]) (.cond (tm 97) (sq (rg [om 99 0,oc 100 80 [(tm 99),(.c (.str [102,105,108,108,101,100]))],of 101 1 3,ol 102 101,oc 103 80 [(tm
 100),(tm 102)],om 4 103] [4]) .ret) .skip)))))))))))))))))))))))))) (sq (rg [om 104 0,oc 105 80 [(tm 104),(.c (.str [115,116,101,112,115]))],
 ov 106 (.ld 12 true (tm 3)),oc 107 116 [(tm 105),(tm 106)],om 4 107] [4]) .ret))))
theorem a85:AOf Tryz.prog 85 c85 [.t 4]:=mkA (fn:=Tryz.f85) (c:=Tryz.f85.body.getD .skip) (fz:=[]) (im:=[]) kp85 (by kernel_rfl) (by kernel_rfl) (by kernel_rfl) (by kernel_rfl) (by kernel_rfl)
def kp84 (r:Nat):List Nat:=match r with
 |0=>[0,3]
 |1=>[0,3]
 |2=>[0,3,16]
 |3=>[4]
 |4=>[0,3,22]
 |5=>[0,3]
 |6=>[4]
 |7=>[4]
 |_=>[]
def c84:ACode:=
(sq (.reg 2 [⟨some 3,none,.box 0 6 (tm 1)⟩,ov 4 (.mv (.c zs))] [0,3]) (sq (rg [om 5 0,oc 6 80 [(tm 5),(.c (.str [99,108,117,101]))],of 7 0
 3,ol 8 7,oc 9 80 [(tm 6),(tm 8)],oc 10 80 [(tm 9),(.c (.str [111,110]))],of 11 1 3,ol 12 11,oc 13 80 [(tm 10),(tm 12)],om 0 13] [0,3]) (sq
 (sq (rg [of 14 3 3,ol 15 14,ov 16 (.icmp .eql .i64 (tm 15) (ci 1))] [0,3,16]) (.cond (tm 16) (sq (rg [om 17 0,oc 18 80 [(tm 17),(.c (.str
 [115,121,109,98,111,108]))],oc 19 81 [(tm 18),(.c (.str [59]))],om 4 19] [4]) .ret) .skip)) (sq (sq (rg [of 20 3 3,ol 21 20,ov 22 (.icmp
 .eql .i64 (tm 21) (ci 2))] [0,3,22]) (.cond (tm 22) (sq (rg [om 23 0,oc 24 80 [(tm 23),(.c (.str [110,117,109,98,101,114]))],of 25 4 3,ol
 26 25,oc 27 82 [(tm 24),(tm 26)],om 0 27] [0,3]) (sq (rg [om 28 0,oc 29 80 [(tm 28),(.c (.str [116,111]))],of 30 5 3,ol 31 30,oc 32 82 [(tm
 29),(tm 31)],oc 33 81 [(tm 32),(.c (.str [59]))],om 4 33] [4]) .ret)) .skip)) (sq (rg [om 34 0,oc 35 80 [(tm 34),(.c (.str [114,117,110,
 115]))],oc 36 81 [(tm 35),(.c (.str [59]))],om 4 36] [4]) .ret)))))
theorem a84:AOf Tryz.prog 84 c84 [.t 4]:=mkA (fn:=Tryz.f84) (c:=Tryz.f84.body.getD .skip) (fz:=[]) (im:=[]) kp84 (by kernel_rfl) (by kernel_rfl) (by kernel_rfl) (by kernel_rfl) (by kernel_rfl)
def kp32 (r:Nat):List Nat:=match r with
 |0=>[1]
 |1=>[1,3]
 |2=>[1,3]
 |3=>[1,3]
 |4=>[1,3,24]
 |5=>[1,3]
 |6=>[1,3]
 |7=>[1,3]
 |8=>[1,3,40]
 |9=>[1,3]
 |10=>[1,3]
 |11=>[1,3,4]
 |12=>[1,3,4,53]
 |14=>[1,3,4,57]
 |15=>[1,3,4]
 |16=>[1,3,4]
 |13=>[1,3,4]
 |17=>[1,3]
 |18=>[1,3,5]
 |19=>[1,3,5,82]
 |21=>[1,3,5]
 |22=>[1,3,5,6]
 |23=>[1,3,5,6,103]
 |25=>[1,3,5,6]
 |24=>[1,3,5,6]
 |26=>[1,3,5]
 |20=>[1,3,5]
 |27=>[1,3,7]
 |28=>[1,3,7,124]
 |30=>[1,3,7]
 |29=>[1,3,7]
 |31=>[1,3,8]
 |32=>[1,3,8,138]
 |34=>[1,3,8]
 |35=>[1,3,8]
 |33=>[1,3,8]
 |36=>[2]
 |_=>[]
def c32:ACode:=
(sq (.reg 2 [⟨some 1,none,.box 0 10 (tm 0)⟩,ov 2 (.mv (.c zs))] [1]) (sq (rg [ov 9 (.bs 4 0 (.agg [z0,zr,z0,z0]) []),oc 10 80 [(tm 9),(.c
 (.str [107,105,110,100]))],of 11 0 1,ol 12 11,oc 13 80 [(tm 10),(tm 12)],om 3 13] [1,3]) (sq (rg [om 14 3,oc 15 80 [(tm 14),(.c (.str
 [118,101,114,115,105,111,110]))],of 16 1 1,ol 17 16,oc 18 82 [(tm 15),(tm 17)],oc 19 81 [(tm 18),(.c (.str [123]))],om 3 19] [1,3]) (sq
 (rg [om 20 3,oc 21 80 [(tm 20),(.c (.str [103,114,105,100]))],om 3 21] [1,3]) (sq (sq (rg [of 22 2 1,ol 23 22,ov 24 (.icmp .eql .i64 (tm
 23) (ci 2))] [1,3,24]) (.cond (tm 24) (rg [om 25 3,oc 26 80 [(tm 25),(.c (.str [104,101,120]))],om 3 26] [1,3]) (rg [om 27 3,oc 28 80 [(tm
 27),(.c (.str [115,113,117,97,114,101]))],om 3 28] [1,3]))) (sq (rg [om 29 3,of 30 3 1,ol 31 30,oc 32 82 [(tm 29),(tm 31)],oc 33 80 [(tm
 32),(.c (.str [98,121]))],of 34 4 1,ol 35 34,oc 36 82 [(tm 33),(tm 35)],om 3 36] [1,3]) (sq (sq (rg [of 37 5 1,ol 38 37,on 39 38,ov 40
 (.icmp .gtr .i64 (tm 39) (ci 0))] [1,3,40]) (.cond (tm 40) (rg [om 41 3,oc 42 80 [(tm 41),(.c (.str [119,105,116,104,111,117,116]))],of 43
 5 1,ol 44 43,oc 45 83 [(tm 42),(tm 44)],om 3 45] [1,3]) .skip)) (sq (rg [om 46 3,oc 47 81 [(tm 46),(.c (.str [59]))],oc 48 80 [(tm 47),(.c
 (.str [115,121,109,98,111,108,115]))],om 3 48] [1,3]) (sq (sq (rg [oi 4 0] [1,3,4]) (.block 0 (.loop (sq (sq (rg [om 49 4,of 50 6 1,ol
 51 50,on 52 51,ov 53 (.icmp .lss .i64 (tm 49) (tm 52))] [1,3,4,53]) (.cond (tm 53) .skip (.exit 0))) (sq (.block 1 (sq (sq (rg [om 56 4,ov 57
 (.icmp .gtr .i64 (tm 56) (ci 0))] [1,3,4,57]) (.cond (tm 57) (rg [om 58 3,oc 59 81 [(tm 58),(.c (.str [44]))],om 3 59] [1,3,4]) .skip)) (rg [
 om 60 3,of 61 6 1,ol 62 61,om 63 4,oa 64 2 62 63,of 65 0 64,ol 66 65,oc 67 80 [(tm 60),(tm 66)],oc 68 81 [(tm 67),(.c (.str [61]))],of 69 6
 1,ol 70 69,om 71 4,oa 72 2 70 71,of 73 1 72,ol 74 73,oc 75 82 [(tm 68),(tm 74)],om 3 75] [1,3,4]))) (rg [om 54 4,ov 55 (.arith .add .i64
 (tm 54) (ci 1)),om 4 55] [1,3,4])))))) (sq (rg [om 76 3,oc 77 81 [(tm 76),(.c (.str [59]))],om 3 77] [1,3]) (sq (sq (rg [oi 5 0] [1,3,5])
 (.block 2 (.loop (sq (sq (rg [om 78 5,of 79 7 1,ol 80 79,on 81 80,ov 82 (.icmp .lss .i64 (tm 78) (tm 81))] [1,3,5,82]) (.cond (tm 82) .skip
 (.exit 2))) (sq (.block 3 (sq (rg [om 85 3,oc 86 80 [(tm 85),(.c (.str [114,101,103,105,111,110,115]))],of 87 7 1,ol 88 87,om 89 5,oa 90
 2 88 89,of 91 0 90,ol 92 91,oc 93 80 [(tm 86),(tm 92)],oc 94 81 [(tm 93),(.c (.str [123]))],om 3 94] [1,3,5]) (sq (sq (rg [oi 6 0] [1,3,5,
 6]) (.block 4 (.loop (sq (sq (rg [om 95 6,of 96 7 1,ol 97 96,om 98 5,oa 99 2 97 98,of 100 1 99,ol 101 100,on 102 101,ov 103 (.icmp .lss .i64
 (tm 95) (tm 102))] [1,3,5,6,103]) (.cond (tm 103) .skip (.exit 4))) (sq (.block 5 (rg [om 106 3,of 107 7 1,ol 108 107,om 109 5,oa 110 2 108
 109,of 111 1 110,ol 112 111,om 113 6,oa 114 1 112 113,ol 115 114,oc 116 83 [(tm 106),(tm 115)],oc 117 81 [(tm 116),(.c (.str [59]))],om 3
 117] [1,3,5,6])) (rg [om 104 6,ov 105 (.arith .add .i64 (tm 104) (ci 1)),om 6 105] [1,3,5,6])))))) (rg [om 118 3,oc 119 81 [(tm 118),(.c
 (.str [125]))],om 3 119] [1,3,5])))) (rg [om 83 5,ov 84 (.arith .add .i64 (tm 83) (ci 1)),om 5 84] [1,3,5])))))) (sq (sq (rg [oi 7 0] [1,3,
 7]) (.block 6 (.loop (sq (sq (rg [om 120 7,of 121 8 1,ol 122 121,on 123 122,ov 124 (.icmp .lss .i64 (tm 120) (tm 123))] [1,3,7,124]) (.cond
 (tm 124) .skip (.exit 6))) (sq (.block 7 (rg [om 127 3,of 128 8 1,ol 129 128,om 130 7,oa 131 6 129 130,ov 132 (.ld 6 true (tm 131)),oc 133 84
 [(tm 127),(tm 132)],om 3 133] [1,3,7])) (rg [om 125 7,ov 126 (.arith .add .i64 (tm 125) (ci 1)),om 7 126] [1,3,7])))))) (sq (sq (rg [oi 8 0]
 [1,3,8]) (.block 8 (.loop (sq (sq (rg [om 134 8,of 135 9 1,ol 136 135,on 137 136,ov 138 (.icmp .lss .i64 (tm 134) (tm 137))] [1,3,8,138])
 (.cond (tm 138) .skip (.exit 8))) (sq (.block 9 (sq (rg [om 141 3,oc 142 80 [(tm 141),(.c (.str [114,117,108,101]))],of 143 9 1,ol 144 143,om
 145 8,oa 146 12 144 145,of 147 0 146,ol 148 147,oc 149 80 [(tm 142),(tm 148)],oc 150 81 [(tm 149),(.c (.str [58]))],of 151 9 1,ol 152 151,om
 153 8,oa 154 12 152 153,ov 155 (.ld 12 true (tm 154)),oc 156 85 [(tm 150),(tm 155)],om 3 156] [1,3,8]) (rg [om 157 3,oc 158 81 [(tm 157),(.c
 (.str [59]))],om 3 158] [1,3,8]))) (rg [om 139 8,ov 140 (.arith .add .i64 (tm 139) (ci 1)),om 8 140] [1,3,8])))))) (sq (rg [om 159 3,oc 160
 81 [(tm 159),(.c (.str [125]))],om 2 160] [2]) .ret))))))))))))))
theorem a32:AOf Tryz.prog 32 c32 [.t 2]:=mkA (fn:=Tryz.f32) (c:=Tryz.f32.body.getD .skip) (fz:=[]) (im:=[]) kp32 (by kernel_rfl) (by kernel_rfl) (by kernel_rfl) (by kernel_rfl) (by kernel_rfl)
def kp17 (r:Nat):List Nat:=match r with
 |0=>[1,2]
 |1=>[1,2,3]
 |2=>[1,2,3,4]
 |3=>[1,2,3,4,14]
 |5=>[1,2,3,4,5]
 |6=>[1,2,3,4,5]
 |7=>[1,2,3,4]
 |4=>[1,2,3,4]
 |8=>[1,2,3,6]
 |9=>[1,2,3,6,7]
 |10=>[1,2,3,6,7,32]
 |12=>[1,2,3,6,7,8]
 |13=>[1,2,3,6,7,8]
 |14=>[1,2,3,6,7,8]
 |15=>[1,2,3,6,7,8]
 |16=>[1,2,3,6,7,8]
 |17=>[1,2,3,6,7]
 |11=>[1,2,3,6,7]
 |18=>[1,2,6]
 |19=>[1,2]
 |20=>[2]
 |_=>[]
def c17:ACode:=
(sq (.reg 2 [⟨some 1,none,.box 0 10 (tm 0)⟩,⟨some 2,none,.alloc 1 [zr,z0,z0,z0,z0,zs,zs,zs,zs,zs]⟩] [1,2]) (sq (rg [ov 9 (.bs 6 0
 (.agg [zr,zr,z0,z0,z0,z0]) []),om 3 9] [1,2,3]) (sq (sq (rg [oi 4 0] [1,2,3,4]) (.block 0 (.loop (sq (sq (rg [om 10 4,of 11 8 1,ol 12
 11,on 13 12,ov 14 (.icmp .lss .i64 (tm 10) (tm 13))] [1,2,3,4,14]) (.cond (tm 14) .skip (.exit 0))) (sq (.block 1 (sq (.reg 7 [of 17 8 1,ol 18
 17,om 19 4,oa 20 6 18 19,ov 21 (.ld 6 true (tm 20)),⟨some 5,none,.alloc 5 [zr,zr,z0,z0,z0,z0]⟩,⟨none,none,.st 6 (tm 5) (tm 21)⟩] [1,2,
 3,4,5]) (sq (rg [of 22 2 5,⟨none,none,.st 1 (tm 22) (ci 0)⟩] [1,2,3,4,5]) (.reg 5 [om 23 3,ov 24 (.ld 6 true (tm 5)),ov 25 (.bs 6 1 (.agg
 [zr,zr,z0,z0,z0,z0]) [(0,(tm 24))]),⟨some 26,none,.app 3 6 64 (tm 23) (tm 25) false⟩,om 3 26] [1,2,3,4])))) (rg [om 15 4,ov 16 (.arith
 .add .i64 (tm 15) (ci 1)),om 4 16] [1,2,3,4])))))) (sq (rg [ov 27 (.bs 12 0 (.agg [zr,zr,z0,z0,zs,zs,z0,z0,z0,z0,zr,z0]) []),om 6 27]
 [1,2,3,6]) (sq (sq (rg [oi 7 0] [1,2,3,6,7]) (.block 2 (.loop (sq (sq (rg [om 28 7,of 29 9 1,ol 30 29,on 31 30,ov 32 (.icmp .lss .i64 (tm
 28) (tm 31))] [1,2,3,6,7,32]) (.cond (tm 32) .skip (.exit 2))) (sq (.block 3 (sq (.reg 7 [of 35 9 1,ol 36 35,om 37 7,oa 38 12 36 37,ov 39
 (.ld 12 true (tm 38)),⟨some 8,none,.alloc 5 [zr,zr,z0,z0,zs,zs,z0,z0,z0,z0,zr,z0]⟩,⟨none,none,.st 12 (tm 8) (tm 39)⟩] [1,2,3,6,7,
 8]) (sq (rg [of 40 3 8,⟨none,none,.st 1 (tm 40) (ci 0)⟩] [1,2,3,6,7,8]) (sq (rg [of 41 6 8,⟨none,none,.st 1 (tm 41) (ci 0)⟩] [1,2,3,6,
 7,8]) (sq (rg [of 42 7 8,⟨none,none,.st 1 (tm 42) (ci 0)⟩] [1,2,3,6,7,8]) (sq (rg [of 43 11 8,⟨none,none,.st 1 (tm 43) (ci 0)⟩] [1,2,
 3,6,7,8]) (.reg 5 [om 44 6,ov 45 (.ld 12 true (tm 8)),ov 46 (.bs 12 1 (.agg [zr,zr,z0,z0,zs,zs,z0,z0,z0,z0,zr,z0]) [(0,(tm 45))]),
 ⟨some 47,none,.app 3 12 152 (tm 44) (tm 46) false⟩,om 6 47] [1,2,3,6,7]))))))) (rg [om 33 7,ov 34 (.arith .add .i64 (tm 33) (ci 1)),om 7 34]
 [1,2,3,6,7])))))) (sq (rg [om 48 3,of 49 8 1,⟨none,none,.st 1 (tm 49) (tm 48)⟩] [1,2,6]) (sq (rg [om 50 6,of 51 9 1,⟨none,none,.st 1
 (tm 51) (tm 50)⟩] [1,2]) (sq (rg [ov 52 (.ld 10 true (tm 1)),⟨none,none,.st 10 (tm 2) (tm 52)⟩] [2]) .ret))))))))
theorem a17:AOf Tryz.prog 17 c17 [.c 2 10 true]:=mkA (fn:=Tryz.f17) (c:=Tryz.f17.body.getD .skip) (fz:=[]) (im:=[]) kp17 (by kernel_rfl) (by kernel_rfl) (by kernel_rfl) (by kernel_rfl) (by kernel_rfl)
def kp15 (r:Nat):List Nat:=match r with
 |0=>[1]
 |1=>[1,4]
 |2=>[1,4,5,6]
 |3=>[1,4,5,17]
 |4=>[2,3]
 |5=>[1,5,7,8]
 |6=>[5,32]
 |7=>[2,3]
 |8=>[2,3]
 |_=>[]
def c15:ACode:=
(sq (.reg 3 [⟨some 1,none,.box 0 10 (tm 0)⟩,ov 2 (.mv (.c zr)),oi 3 0] [1]) (sq (rg [ov 9 (.ld 10 true (tm 1)),oc 10 32 [(tm 9)],om 4 10] [1,
 4]) (sq (rg [om 12 4,oc 13 33 [(tm 12)],om 11 13,ox 14 0 11,ox 15 1 11,om 5 14,om 6 15] [1,4,5,6]) (sq (sq (rg [om 16 6,ov 17 (.icmp .neq
 .i64 (tm 16) (ci 0))] [1,4,5,17]) (.cond (tm 17) (sq (rg [ov 2 (.mv (.c zr)),oi 3 150] [2,3]) .ret) .skip)) (sq (.reg 10 [om 19 4,ov 20
 (.build [zs,z0,z0,zb,z0] [(0,1,(tm 19))]),oc 21 25 [(tm 20)],om 18 21,ox 22 0 18,ox 23 1 18,⟨some 7,none,.alloc 6 [zr,z0,z0,z0,z0,
 zs,zs,zs,zs,zs]⟩,⟨some 8,none,.alloc 7 [zs,z0,z0,zb,z0]⟩,⟨none,none,.st 10 (tm 7) (tm 22)⟩,⟨none,none,.st 5 (tm 8) (tm 23)⟩] [1,5,
 7,8]) (sq (sq (rg [of 24 3 8,ol 25 24,om 26 25,gv 27 26 false (.ld 10 true (tm 7)),gv 28 26 false (.ld 10 true (tm 1)),⟨some 29,some (26,
 false),.call true (.c (.fn (.func 17) [] [])) [(tm 28)]⟩,⟨some 30,some (26,false),.call true (.c (.fn (.func 12) [] [])) [(tm 27),(tm 29)]⟩,gv
 31 26 false (.not (tm 30)),oz 32 26 31] [5,32]) (.cond (tm 32) (sq (rg [ov 2 (.mv (.c zr)),oi 3 150] [2,3]) .ret) .skip)) (sq (rg [om 33 5,om 2
 33,oi 3 0] [2,3]) .ret)))))))
theorem a15:AOf Tryz.prog 15 c15 [.t 2,.t 3]:=mkA (fn:=Tryz.f15) (c:=Tryz.f15.body.getD .skip) (fz:=[]) (im:=[]) kp15 (by kernel_rfl) (by kernel_rfl) (by kernel_rfl) (by kernel_rfl) (by kernel_rfl)
def kp29 (r:Nat):List Nat:=match r with
 |0=>[0,1]
 |1=>[4]
 |_=>[]
def c29:ACode:=
(sq (rg [ob 4 false] [0,1]) (sq (rg [om 5 0,on 6 5,om 7 1,ov 8 (.icmp .leq .i64 (tm 6) (tm 7)),om 4 8] [4]) .ret))
theorem a29:AOf Tryz.prog 29 c29 [.t 4]:=mkA (fn:=Tryz.f29) (c:=Tryz.f29.body.getD .skip) (fz:=[]) (im:=[]) kp29 (by kernel_rfl) (by kernel_rfl) (by kernel_rfl) (by kernel_rfl) (by kernel_rfl)
def kp13 (r:Nat):List Nat:=match r with
 |0=>[1]
 |1=>[1,42]
 |2=>[2]
 |3=>[1,3]
 |4=>[1,3,47]
 |6=>[1,3,57]
 |7=>[2]
 |5=>[1,3]
 |8=>[1,4]
 |9=>[1,4,62]
 |11=>[1,4,82]
 |12=>[2]
 |13=>[1,4,5]
 |14=>[1,4,5,91]
 |16=>[1,4,5,104]
 |17=>[2]
 |15=>[1,4,5]
 |10=>[1,4]
 |18=>[1,6]
 |19=>[1,6,109]
 |21=>[1,6,129]
 |22=>[2]
 |20=>[1,6]
 |23=>[1,7]
 |24=>[1,7,134]
 |26=>[1,7,8]
 |27=>[1,7,169]
 |28=>[2]
 |25=>[1,7]
 |29=>[2]
 |_=>[]
def c13:ACode:=
(sq (.reg 2 [⟨some 1,none,.box 0 10 (tm 0)⟩,ob 2 false] [1]) (sq (sq (rg [of 9 0 1,ol 10 9,ov 11 (.lenS (tm 10)),ov 12 (.icmp .gtr .i64 (tm 11)
 (ci 40)),om 13 12,gf 14 13 false 5 1,gl 15 13 false 14,⟨some 16,some (13,false),.call true (.c (.fn (.func 29) [] [])) [(tm 15),(ci 20)]⟩,gv
 17 13 false (.not (tm 16)),oz 18 13 17,om 19 18,gf 20 19 false 6 1,gl 21 19 false 20,gv 22 19 false (.len (tm 21)),gv 23 19 false (.icmp .gtr
 .i64 (tm 22) (ci 20)),oz 24 19 23,om 25 24,gf 26 25 false 7 1,gl 27 25 false 26,gv 28 25 false (.len (tm 27)),gv 29 25 false (.icmp .gtr .i64
 (tm 28) (ci 6)),oz 30 25 29,om 31 30,gf 32 31 false 8 1,gl 33 31 false 32,gv 34 31 false (.len (tm 33)),gv 35 31 false (.icmp .gtr .i64 (tm 34)
 (ci 8)),oz 36 31 35,om 37 36,gf 38 37 false 9 1,gl 39 37 false 38,gv 40 37 false (.len (tm 39)),gv 41 37 false (.icmp .gtr .i64 (tm 40) (ci
 20)),oz 42 37 41] [1,42]) (.cond (tm 42) (sq (rg [ob 2 false] [2]) .ret) .skip)) (sq (sq (rg [oi 3 0] [1,3]) (.block 0 (.loop (sq (sq (rg [om 43
 3,of 44 6 1,ol 45 44,on 46 45,ov 47 (.icmp .lss .i64 (tm 43) (tm 46))] [1,3,47]) (.cond (tm 47) .skip (.exit 0))) (sq (.block 1 (sq (rg [of 50
 6 1,ol 51 50,om 52 3,oa 53 2 51 52,of 54 0 53,ol 55 54,ov 56 (.lenS (tm 55)),ov 57 (.icmp .gtr .i64 (tm 56) (ci 40))] [1,3,57]) (.cond (tm
 57) (sq (rg [ob 2 false] [2]) .ret) .skip))) (rg [om 48 3,ov 49 (.arith .add .i64 (tm 48) (ci 1)),om 3 49] [1,3])))))) (sq (sq (rg [oi 4 0] [1,
 4]) (.block 2 (.loop (sq (sq (rg [om 58 4,of 59 7 1,ol 60 59,on 61 60,ov 62 (.icmp .lss .i64 (tm 58) (tm 61))] [1,4,62]) (.cond (tm 62) .skip
 (.exit 2))) (sq (.block 3 (sq (sq (rg [of 65 7 1,ol 66 65,om 67 4,oa 68 2 66 67,of 69 0 68,ol 70 69,ov 71 (.lenS (tm 70)),ov 72 (.icmp .gtr
 .i64 (tm 71) (ci 40)),om 73 72,gf 74 73 false 7 1,gl 75 73 false 74,gm 76 73 false 4,ga 77 73 false 2 75 76,gf 78 73 false 1 77,gl 79 73 false
 78,gv 80 73 false (.len (tm 79)),gv 81 73 false (.icmp .gtr .i64 (tm 80) (ci 20)),oz 82 73 81] [1,4,82]) (.cond (tm 82) (sq (rg [ob 2 false]
 [2]) .ret) .skip)) (sq (rg [oi 5 0] [1,4,5]) (.block 4 (.loop (sq (sq (rg [om 83 5,of 84 7 1,ol 85 84,om 86 4,oa 87 2 85 86,of 88 1 87,ol 89
 88,on 90 89,ov 91 (.icmp .lss .i64 (tm 83) (tm 90))] [1,4,5,91]) (.cond (tm 91) .skip (.exit 4))) (sq (.block 5 (sq (rg [of 94 7 1,ol 95 94,om
 96 4,oa 97 2 95 96,of 98 1 97,ol 99 98,om 100 5,oa 101 1 99 100,ol 102 101,oc 103 29 [(tm 102),(ci 20)],ot 104 103] [1,4,5,104]) (.cond
 (tm 104) (sq (rg [ob 2 false] [2]) .ret) .skip))) (rg [om 92 5,ov 93 (.arith .add .i64 (tm 92) (ci 1)),om 5 93] [1,4,5])))))))) (rg [om 63 4,
 ov 64 (.arith .add .i64 (tm 63) (ci 1)),om 4 64] [1,4])))))) (sq (sq (rg [oi 6 0] [1,6]) (.block 6 (.loop (sq (sq (rg [om 105 6,of 106 8 1,ol
 107 106,on 108 107,ov 109 (.icmp .lss .i64 (tm 105) (tm 108))] [1,6,109]) (.cond (tm 109) .skip (.exit 6))) (sq (.block 7 (sq (rg [of 112 8 1,ol
 113 112,om 114 6,oa 115 6 113 114,of 116 0 115,ol 117 116,ov 118 (.lenS (tm 117)),ov 119 (.icmp .gtr .i64 (tm 118) (ci 40)),om 120 119,gf 121
 120 false 8 1,gl 122 120 false 121,gm 123 120 false 6,ga 124 120 false 6 122 123,gf 125 120 false 1 124,gl 126 120 false 125,gv 127 120 false
 (.lenS (tm 126)),gv 128 120 false (.icmp .gtr .i64 (tm 127) (ci 40)),oz 129 120 128] [1,6,129]) (.cond (tm 129) (sq (rg [ob 2 false] [2]) .ret)
 .skip))) (rg [om 110 6,ov 111 (.arith .add .i64 (tm 110) (ci 1)),om 6 111] [1,6])))))) (sq (sq (rg [oi 7 0] [1,7]) (.block 8 (.loop (sq (sq (rg
 [om 130 7,of 131 9 1,ol 132 131,on 133 132,ov 134 (.icmp .lss .i64 (tm 130) (tm 133))] [1,7,134]) (.cond (tm 134) .skip (.exit 8))) (sq (.block
 9 (sq (.reg 7 [of 137 9 1,ol 138 137,om 139 7,oa 140 12 138 139,ov 141 (.ld 12 true (tm 140)),⟨some 8,none,.alloc 5 [zr,zr,z0,z0,zs,zs,
 z0,z0,z0,z0,zr,z0]⟩,⟨none,none,.st 12 (tm 8) (tm 141)⟩] [1,7,8]) (sq (rg [of 142 0 8,ol 143 142,ov 144 (.lenS (tm 143)),ov 145 (.icmp
 .gtr .i64 (tm 144) (ci 40)),om 146 145,gf 147 146 false 1 8,gl 148 146 false 147,gv 149 146 false (.lenS (tm 148)),gv 150 146 false (.icmp .gtr
 .i64 (tm 149) (ci 40)),oz 151 146 150,om 152 151,gf 153 152 false 10 8,gl 154 152 false 153,gv 155 152 false (.lenS (tm 154)),gv 156 152 false
 (.icmp .gtr .i64 (tm 155) (ci 40)),oz 157 152 156,om 158 157,gf 159 158 false 4 8,gl 160 158 false 159,gv 161 158 false (.len (tm 160)),gv 162
 158 false (.icmp .gtr .i64 (tm 161) (ci 20)),oz 163 158 162,om 164 163,gf 165 164 false 5 8,gl 166 164 false 165,gv 167 164 false (.len (tm
 166)),gv 168 164 false (.icmp .gtr .i64 (tm 167) (ci 20)),oz 169 164 168] [1,7,169]) (.cond (tm 169) (sq (rg [ob 2 false] [2]) .ret) .skip))))
 (rg [om 135 7,ov 136 (.arith .add .i64 (tm 135) (ci 1)),om 7 136] [1,7])))))) (sq (rg [ob 2 true] [2]) .ret)))))))
theorem a13:AOf Tryz.prog 13 c13 [.t 2]:=mkA (fn:=Tryz.f13) (c:=Tryz.f13.body.getD .skip) (fz:=[]) (im:=[]) kp13 (by kernel_rfl) (by kernel_rfl) (by kernel_rfl) (by kernel_rfl) (by kernel_rfl)
def kp33 (r:Nat):List Nat:=match r with
 |0=>[0]
 |1=>[0,4]
 |2=>[0,4,5]
 |3=>[0,4,5,9]
 |5=>[0,4,5,17]
 |6=>[2,3]
 |7=>[0,4,5,19]
 |8=>[0,4,5]
 |9=>[0,4,5,27]
 |10=>[0,4,5]
 |11=>[0,4,5]
 |4=>[0,4,5]
 |12=>[2,3]
 |_=>[]
def c33:ACode:=
(sq (rg [ov 2 (.mv (.c zr)),oi 3 0] [0]) (sq (rg [ov 4 (.mv (.c zr))] [0,4]) (sq (sq (rg [oi 5 0] [0,4,5]) (.block 0 (.loop (sq (sq (rg [om 6
 5,om 7 0,on 8 7,ov 9 (.icmp .lss .i64 (tm 6) (tm 8))] [0,4,5,9]) (.cond (tm 9) .skip (.exit 0))) (sq (.block 1 (sq (sq (rg [om 12 0,om 13 5,
 oa 14 4 12 13,ov 15 (.ld 4 true (tm 14)),oc 16 21 [(tm 15)],ot 17 16] [0,4,5,17]) (.cond (tm 17) (sq (rg [ov 2 (.mv (.c zr)),oi 3 100] [2,3])
 .ret) .skip)) (sq (sq (rg [om 18 5,ov 19 (.icmp .gtr .i64 (tm 18) (ci 0))] [0,4,5,19]) (.cond (tm 19) (rg [om 20 4,ov 21 (.sadd (tm 20) (.c
 (.str [32]))),om 4 21] [0,4,5]) .skip)) (sq (rg [om 22 0,om 23 5,oa 24 4 22 23,of 25 0 24,ol 26 25,ov 27 (.icmp .eql .i64 (tm 26) (ci 2))]
 [0,4,5,27]) (.cond (tm 27) (rg [om 28 4,om 29 0,om 30 5,oa 31 4 29 30,of 32 2 31,ol 33 32,oc 34 86 [(tm 33)],ov 35 (.sadd (tm 28) (tm 34)),
 om 4 35] [0,4,5]) (rg [om 36 4,om 37 0,om 38 5,oa 39 4 37 38,of 40 1 39,ol 41 40,ov 42 (.sadd (tm 36) (tm 41)),om 4 42] [0,4,5])))))) (rg
 [om 10 5,ov 11 (.arith .add .i64 (tm 10) (ci 1)),om 5 11] [0,4,5])))))) (sq (rg [om 43 4,om 2 43,oi 3 0] [2,3]) .ret))))
theorem a33:AOf Tryz.prog 33 c33 [.t 2,.t 3]:=mkA (fn:=Tryz.f33) (c:=Tryz.f33.body.getD .skip) (fz:=[]) (im:=[]) kp33 (by kernel_rfl) (by kernel_rfl) (by kernel_rfl) (by kernel_rfl) (by kernel_rfl)
def kp21 (r:Nat):List Nat:=match r with
 |0=>[1]
 |1=>[1,4]
 |2=>[1,4,5]
 |3=>[2]
 |4=>[1,4,15]
 |5=>[2]
 |6=>[1,30]
 |7=>[2]
 |8=>[2]
 |_=>[]
def c21:ACode:=
(sq (.reg 2 [⟨some 1,none,.box 0 4 (tm 0)⟩,ob 2 false] [1]) (sq (sq (rg [of 3 0 1,ol 4 3] [1,4]) (.block 0 (sq (rg [ov 6 (.icmp .eql .i64 (tm
 4) (ci 1)),om 5 6] [1,4,5]) (.cond (tm 5) (sq (rg [of 7 1 1,ol 8 7,oc 9 53 [(tm 8)],om 10 9,gf 11 10 true 2 1,gl 12 10 true 11,gv 13 10 true
 (.icmp .eql .i64 (tm 12) (ci 0)),oy 14 10 13,om 2 14] [2]) .ret) (sq (rg [ov 16 (.icmp .eql .i64 (tm 4) (ci 2)),om 15 16] [1,4,15]) (.cond (tm
 15) (sq (rg [of 17 1 1,ol 18 17,ov 19 (.scmp .eql (tm 18) (.c zr)),om 20 19,gf 21 20 true 2 1,gl 22 20 true 21,gv 23 20 true (.icmp .geq .i64
 (tm 22) (ci 0)),oy 24 20 23,om 25 24,gf 26 25 true 2 1,gl 27 25 true 26,gv 28 25 true (.icmp .leq .i64 (tm 27) (ci 1099511627776)),oy 29 25 28,
 om 2 29] [2]) .ret) (sq (rg [ov 31 (.icmp .eql .i64 (tm 4) (ci 3)),om 30 31] [1,30]) (.cond (tm 30) (sq (rg [of 32 1 1,ol 33 32,ov 34 (.lenS (tm
 33)),ov 35 (.icmp .eql .i64 (tm 34) (ci 1)),om 36 35,gf 37 36 true 1 1,gl 38 36 true 37,gv 39 36 true (.ixS (tm 38) (ci 0)),⟨some 40,some (36,
 true),.call true (.c (.fn (.func 54) [] [])) [(tm 39)]⟩,oy 41 36 40,om 42 41,gf 43 42 true 2 1,gl 44 42 true 43,gv 45 42 true (.icmp .eql .i64
 (tm 44) (ci 0)),oy 46 42 45,om 2 46] [2]) .ret) .skip)))))))) (sq (rg [ob 2 false] [2]) .ret)))
theorem a21:AOf Tryz.prog 21 c21 [.t 2]:=mkA (fn:=Tryz.f21) (c:=Tryz.f21.body.getD .skip) (fz:=[]) (im:=[]) kp21 (by kernel_rfl) (by kernel_rfl) (by kernel_rfl) (by kernel_rfl) (by kernel_rfl)
end Go.AM
end
section
set_option maxRecDepth 20000
set_option linter.all false
namespace Go.AM
open Go.Proofs
def kp26 (r:Nat):List Nat:=match r with
 |0=>[0,1]
 |1=>[0,1,10]
 |2=>[4]
 |3=>[0,1,5]
 |4=>[0,1,5,14]
 |6=>[0,1,5,25]
 |7=>[4]
 |5=>[0,1,5]
 |8=>[4]
 |_=>[]
def c26:ACode:=
(sq (rg [ob 4 false] [0,1]) (sq (sq (rg [om 6 0,on 7 6,om 8 1,on 9 8,ov 10 (.icmp .neq .i64 (tm 7) (tm 9))] [0,1,10]) (.cond (tm 10) (sq (rg [
 ob 4 false] [4]) .ret) .skip)) (sq (sq (rg [oi 5 0] [0,1,5]) (.block 0 (.loop (sq (sq (rg [om 11 5,om 12 0,on 13 12,ov 14 (.icmp .lss .i64 (tm
 11) (tm 13))] [0,1,5,14]) (.cond (tm 14) .skip (.exit 0))) (sq (.block 1 (sq (rg [om 17 0,om 18 5,oa 19 1 17 18,ol 20 19,om 21 1,om 22 5,oa
 23 1 21 22,ol 24 23,ov 25 (.icmp .neq .i64 (tm 20) (tm 24))] [0,1,5,25]) (.cond (tm 25) (sq (rg [ob 4 false] [4]) .ret) .skip))) (rg [om 15 5,
 ov 16 (.arith .add .i64 (tm 15) (ci 1)),om 5 16] [0,1,5])))))) (sq (rg [ob 4 true] [4]) .ret))))
theorem a26:AOf Tryz.prog 26 c26 [.t 4]:=mkA (fn:=Tryz.f26) (c:=Tryz.f26.body.getD .skip) (fz:=[]) (im:=[]) kp26 (by kernel_rfl) (by kernel_rfl) (by kernel_rfl) (by kernel_rfl) (by kernel_rfl)
def kp27 (r:Nat):List Nat:=match r with
 |0=>[0,1]
 |1=>[0,1,10]
 |2=>[4]
 |3=>[0,1,5]
 |4=>[0,1,5,14]
 |6=>[0,1,5,26]
 |7=>[4]
 |5=>[0,1,5]
 |8=>[4]
 |_=>[]
def c27:ACode:=
(sq (rg [ob 4 false] [0,1]) (sq (sq (rg [om 6 0,on 7 6,om 8 1,on 9 8,ov 10 (.icmp .neq .i64 (tm 7) (tm 9))] [0,1,10]) (.cond (tm 10) (sq (rg [
 ob 4 false] [4]) .ret) .skip)) (sq (sq (rg [oi 5 0] [0,1,5]) (.block 0 (.loop (sq (sq (rg [om 11 5,om 12 0,on 13 12,ov 14 (.icmp .lss .i64 (tm
 11) (tm 13))] [0,1,5,14]) (.cond (tm 14) .skip (.exit 0))) (sq (.block 1 (sq (rg [om 17 0,om 18 5,oa 19 1 17 18,ol 20 19,om 21 1,om 22 5,oa
 23 1 21 22,ol 24 23,oc 25 26 [(tm 20),(tm 24)],ot 26 25] [0,1,5,26]) (.cond (tm 26) (sq (rg [ob 4 false] [4]) .ret) .skip))) (rg [om 15 5,ov
 16 (.arith .add .i64 (tm 15) (ci 1)),om 5 16] [0,1,5])))))) (sq (rg [ob 4 true] [4]) .ret))))
theorem a27:AOf Tryz.prog 27 c27 [.t 4]:=mkA (fn:=Tryz.f27) (c:=Tryz.f27.body.getD .skip) (fz:=[]) (im:=[]) kp27 (by kernel_rfl) (by kernel_rfl) (by kernel_rfl) (by kernel_rfl) (by kernel_rfl)
def kp74 (r:Nat):List Nat:=match r with
 |0=>[0,1]
 |1=>[0,1,10]
 |2=>[4]
 |3=>[0,1,5]
 |4=>[0,1,5,14]
 |6=>[0,1,5,25]
 |7=>[4]
 |5=>[0,1,5]
 |8=>[4]
 |_=>[]
def c74:ACode:=
(sq (rg [ob 4 false] [0,1]) (sq (sq (rg [om 6 0,on 7 6,om 8 1,on 9 8,ov 10 (.icmp .neq .i64 (tm 7) (tm 9))] [0,1,10]) (.cond (tm 10) (sq (rg [
 ob 4 false] [4]) .ret) .skip)) (sq (sq (rg [oi 5 0] [0,1,5]) (.block 0 (.loop (sq (sq (rg [om 11 5,om 12 0,on 13 12,ov 14 (.icmp .lss .i64 (tm
 11) (tm 13))] [0,1,5,14]) (.cond (tm 14) .skip (.exit 0))) (sq (.block 1 (sq (rg [om 17 0,om 18 5,oa 19 1 17 18,ol 20 19,om 21 1,om 22 5,oa
 23 1 21 22,ol 24 23,ov 25 (.scmp .neq (tm 20) (tm 24))] [0,1,5,25]) (.cond (tm 25) (sq (rg [ob 4 false] [4]) .ret) .skip))) (rg [om 15 5,ov 16
 (.arith .add .i64 (tm 15) (ci 1)),om 5 16] [0,1,5])))))) (sq (rg [ob 4 true] [4]) .ret))))
theorem a74:AOf Tryz.prog 74 c74 [.t 4]:=mkA (fn:=Tryz.f74) (c:=Tryz.f74.body.getD .skip) (fz:=[]) (im:=[]) kp74 (by kernel_rfl) (by kernel_rfl) (by kernel_rfl) (by kernel_rfl) (by kernel_rfl)
def kp28 (r:Nat):List Nat:=match r with
 |0=>[2,3]
 |1=>[2,3,5]
 |2=>[4]
 |_=>[]
def c28:ACode:=
(sq (.reg 3 [⟨some 2,none,.box 0 12 (tm 0)⟩,⟨some 3,none,.box 1 12 (tm 1)⟩,ob 4 false] [2,3]) (sq (rg [of 6 0 2,ol 7 6,of 8 0 3,ol 9 8,ov
 10 (.scmp .eql (tm 7) (tm 9)),om 11 10,gf 12 11 true 1 2,gl 13 11 true 12,gf 14 11 true 1 3,gl 15 11 true 14,gv 16 11 true (.scmp .eql (tm 13)
 (tm 15)),oy 17 11 16,om 18 17,gf 19 18 true 10 2,gl 20 18 true 19,gf 21 18 true 10 3,gl 22 18 true 21,gv 23 18 true (.scmp .eql (tm 20) (tm
 22)),oy 24 18 23,om 25 24,gf 26 25 true 4 2,gl 27 25 true 26,gf 28 25 true 4 3,gl 29 25 true 28,⟨some 30,some (25,true),.call true (.c (.fn
 (.func 74) [] [])) [(tm 27),(tm 29)]⟩,oy 31 25 30,om 32 31,gf 33 32 true 5 2,gl 34 32 true 33,gf 35 32 true 5 3,gl 36 32 true 35,⟨some 37,
 some (32,true),.call true (.c (.fn (.func 74) [] [])) [(tm 34),(tm 36)]⟩,oy 38 32 37,om 5 38] [2,3,5]) (sq (rg [om 39 5,om 40 39,gf 41 40
 true 2 2,gl 42 40 true 41,gf 43 40 true 2 3,gl 44 40 true 43,gv 45 40 true (.icmp .eql .i64 (tm 42) (tm 44)),oy 46 40 45,om 47 46,gf 48 47 true
 3 2,gl 49 47 true 48,gf 50 47 true 3 3,gl 51 47 true 50,gv 52 47 true (.icmp .eql .i64 (tm 49) (tm 51)),oy 53 47 52,om 54 53,gf 55 54 true 6 2,
 gl 56 54 true 55,gf 57 54 true 6 3,gl 58 54 true 57,gv 59 54 true (.icmp .eql .i64 (tm 56) (tm 58)),oy 60 54 59,om 61 60,gf 62 61 true 7 2,gl
 63 61 true 62,gf 64 61 true 7 3,gl 65 61 true 64,gv 66 61 true (.icmp .eql .i64 (tm 63) (tm 65)),oy 67 61 66,om 68 67,gf 69 68 true 8 2,gl 70
 68 true 69,gf 71 68 true 8 3,gl 72 68 true 71,gv 73 68 true (.icmp .eql .i64 (tm 70) (tm 72)),oy 74 68 73,om 75 74,gf 76 75 true 9 2,gl 77 75
 true 76,gf 78 75 true 9 3,gl 79 75 true 78,gv 80 75 true (.icmp .eql .i64 (tm 77) (tm 79)),oy 81 75 80,om 82 81,gf 83 82 true 11 2,gl 84 82
 true 83,gf 85 82 true 11 3,gl 86 82 true 85,gv 87 82 true (.icmp .eql .i64 (tm 84) (tm 86)),oy 88 82 87,om 4 88] [4]) .ret)))
theorem a28:AOf Tryz.prog 28 c28 [.t 4]:=mkA (fn:=Tryz.f28) (c:=Tryz.f28.body.getD .skip) (fz:=[]) (im:=[]) kp28 (by kernel_rfl) (by kernel_rfl) (by kernel_rfl) (by kernel_rfl) (by kernel_rfl)
def kp12 (r:Nat):List Nat:=match r with
 |0=>[2,3]
 |1=>[2,3,49]
 |2=>[4]
 |3=>[2,3,83]
 |4=>[4]
 |5=>[2,3,5]
 |6=>[2,3,5,88]
 |8=>[2,3,5,101]
 |9=>[4]
 |7=>[2,3,5]
 |10=>[2,3,6]
 |11=>[2,3,6,106]
 |13=>[2,3,6,137]
 |14=>[4]
 |12=>[2,3,6]
 |15=>[2,3,7]
 |16=>[2,3,7,142]
 |18=>[2,3,7,155]
 |19=>[4]
 |17=>[2,3,7]
 |20=>[2,3,8]
 |21=>[2,3,8,160]
 |23=>[2,3,8,174]
 |24=>[4]
 |22=>[2,3,8]
 |25=>[4]
 |_=>[]
def c12:ACode:=
(sq (.reg 3 [⟨some 2,none,.box 0 10 (tm 0)⟩,⟨some 3,none,.box 1 10 (tm 1)⟩,ob 4 false] [2,3]) (sq (sq (rg [of 9 0 2,ol 10 9,of 11 0 3,ol 12
 11,ov 13 (.scmp .neq (tm 10) (tm 12)),om 14 13,gf 15 14 false 1 2,gl 16 14 false 15,gf 17 14 false 1 3,gl 18 14 false 17,gv 19 14 false (.icmp
 .neq .i64 (tm 16) (tm 18)),oz 20 14 19,om 21 20,gf 22 21 false 2 2,gl 23 21 false 22,gf 24 21 false 2 3,gl 25 21 false 24,gv 26 21 false (.icmp
 .neq .i64 (tm 23) (tm 25)),oz 27 21 26,om 28 27,gf 29 28 false 3 2,gl 30 28 false 29,gf 31 28 false 3 3,gl 32 28 false 31,gv 33 28 false (.icmp
 .neq .i64 (tm 30) (tm 32)),oz 34 28 33,om 35 34,gf 36 35 false 4 2,gl 37 35 false 36,gf 38 35 false 4 3,gl 39 35 false 38,gv 40 35 false (.icmp
 .neq .i64 (tm 37) (tm 39)),oz 41 35 40,om 42 41,gf 43 42 false 5 2,gl 44 42 false 43,gf 45 42 false 5 3,gl 46 42 false 45,⟨some 47,some (42,
 false),.call true (.c (.fn (.func 26) [] [])) [(tm 44),(tm 46)]⟩,gv 48 42 false (.not (tm 47)),oz 49 42 48] [2,3,49]) (.cond (tm 49) (sq (rg [
 ob 4 false] [4]) .ret) .skip)) (sq (sq (rg [of 50 6 2,ol 51 50,on 52 51,of 53 6 3,ol 54 53,on 55 54,ov 56 (.icmp .neq .i64 (tm 52) (tm 55)),om
 57 56,gf 58 57 false 7 2,gl 59 57 false 58,gv 60 57 false (.len (tm 59)),gf 61 57 false 7 3,gl 62 57 false 61,gv 63 57 false (.len (tm 62)),gv
 64 57 false (.icmp .neq .i64 (tm 60) (tm 63)),oz 65 57 64,om 66 65,gf 67 66 false 8 2,gl 68 66 false 67,gv 69 66 false (.len (tm 68)),gf 70 66
 false 8 3,gl 71 66 false 70,gv 72 66 false (.len (tm 71)),gv 73 66 false (.icmp .neq .i64 (tm 69) (tm 72)),oz 74 66 73,om 75 74,gf 76 75 false 9
 2,gl 77 75 false 76,gv 78 75 false (.len (tm 77)),gf 79 75 false 9 3,gl 80 75 false 79,gv 81 75 false (.len (tm 80)),gv 82 75 false (.icmp .neq
 .i64 (tm 78) (tm 81)),oz 83 75 82] [2,3,83]) (.cond (tm 83) (sq (rg [ob 4 false] [4]) .ret) .skip)) (sq (sq (rg [oi 5 0] [2,3,5]) (.block 0
 (.loop (sq (sq (rg [om 84 5,of 85 6 2,ol 86 85,on 87 86,ov 88 (.icmp .lss .i64 (tm 84) (tm 87))] [2,3,5,88]) (.cond (tm 88) .skip (.exit 0)))
 (sq (.block 1 (sq (rg [of 91 6 2,ol 92 91,om 93 5,oa 94 2 92 93,ov 95 (.ld 2 true (tm 94)),of 96 6 3,ol 97 96,om 98 5,oa 99 2 97 98,ov 100
 (.ld 2 true (tm 99)),ov 101 (.aeq true [2,0] (tm 95) (tm 100))] [2,3,5,101]) (.cond (tm 101) (sq (rg [ob 4 false] [4]) .ret) .skip))) (rg [om
 89 5,ov 90 (.arith .add .i64 (tm 89) (ci 1)),om 5 90] [2,3,5])))))) (sq (sq (rg [oi 6 0] [2,3,6]) (.block 2 (.loop (sq (sq (rg [om 102 6,of
 103 7 2,ol 104 103,on 105 104,ov 106 (.icmp .lss .i64 (tm 102) (tm 105))] [2,3,6,106]) (.cond (tm 106) .skip (.exit 2))) (sq (.block 3 (sq (rg [
 of 109 7 2,ol 110 109,om 111 6,oa 112 2 110 111,of 113 0 112,ol 114 113,of 115 7 3,ol 116 115,om 117 6,oa 118 2 116 117,of 119 0 118,ol 120
 119,ov 121 (.scmp .neq (tm 114) (tm 120)),om 122 121,gf 123 122 false 7 2,gl 124 122 false 123,gm 125 122 false 6,ga 126 122 false 2 124 125,gf
 127 122 false 1 126,gl 128 122 false 127,gf 129 122 false 7 3,gl 130 122 false 129,gm 131 122 false 6,ga 132 122 false 2 130 131,gf 133 122
 false 1 132,gl 134 122 false 133,⟨some 135,some (122,false),.call true (.c (.fn (.func 27) [] [])) [(tm 128),(tm 134)]⟩,gv 136 122 false (.not
 (tm 135)),oz 137 122 136] [2,3,6,137]) (.cond (tm 137) (sq (rg [ob 4 false] [4]) .ret) .skip))) (rg [om 107 6,ov 108 (.arith .add .i64 (tm 107)
 (ci 1)),om 6 108] [2,3,6])))))) (sq (sq (rg [oi 7 0] [2,3,7]) (.block 4 (.loop (sq (sq (rg [om 138 7,of 139 8 2,ol 140 139,on 141 140,ov
 142 (.icmp .lss .i64 (tm 138) (tm 141))] [2,3,7,142]) (.cond (tm 142) .skip (.exit 4))) (sq (.block 5 (sq (rg [of 145 8 2,ol 146 145,om 147 7,
 oa 148 6 146 147,ov 149 (.ld 6 true (tm 148)),of 150 8 3,ol 151 150,om 152 7,oa 153 6 151 152,ov 154 (.ld 6 true (tm 153)),ov 155 (.aeq true
 [2,2,0,0,0,0] (tm 149) (tm 154))] [2,3,7,155]) (.cond (tm 155) (sq (rg [ob 4 false] [4]) .ret) .skip))) (rg [om 143 7,ov 144 (.arith .add
 .i64 (tm 143) (ci 1)),om 7 144] [2,3,7])))))) (sq (sq (rg [oi 8 0] [2,3,8]) (.block 6 (.loop (sq (sq (rg [om 156 8,of 157 9 2,ol 158 157,on
 159 158,ov 160 (.icmp .lss .i64 (tm 156) (tm 159))] [2,3,8,160]) (.cond (tm 160) .skip (.exit 6))) (sq (.block 7 (sq (rg [of 163 9 2,ol 164 163,
 om 165 8,oa 166 12 164 165,ov 167 (.ld 12 true (tm 166)),of 168 9 3,ol 169 168,om 170 8,oa 171 12 169 170,ov 172 (.ld 12 true (tm 171)),oc 173
 28 [(tm 167),(tm 172)],ot 174 173] [2,3,8,174]) (.cond (tm 174) (sq (rg [ob 4 false] [4]) .ret) .skip))) (rg [om 161 8,ov 162 (.arith .add
 .i64 (tm 161) (ci 1)),om 8 162] [2,3,8])))))) (sq (rg [ob 4 true] [4]) .ret))))))))
theorem a12:AOf Tryz.prog 12 c12 [.t 4]:=mkA (fn:=Tryz.f12) (c:=Tryz.f12.body.getD .skip) (fz:=[]) (im:=[]) kp12 (by kernel_rfl) (by kernel_rfl) (by kernel_rfl) (by kernel_rfl) (by kernel_rfl)
end Go.AM
end
section
set_option maxRecDepth 20000
set_option linter.all false
namespace Go.AM
open Go.Proofs
def kp9 (r:Nat):List Nat:=match r with
 |0=>[]
 |1=>[1,2,3]
 |2=>[1,2,3,5,6]
 |3=>[1,2,3,5,6,8,9]
 |4=>[1,2,3,5,6,8,9,11,12]
 |5=>[1,2,3,5,6,8,9,11,12,13]
 |6=>[1,2,3,5,6,8,9,11,12,13,15]
 |7=>[1,2,3,5,6,8,9,11,12,13,15]
 |8=>[1,2,3,5,6,8,9,11,12,13,15,16,17]
 |9=>[1,2,3,5,6,8,9,11,12,13,15,16,17]
 |10=>[1,13,16,18]
 |11=>[0]
 |_=>[]
def c9:ACode:=
(sq (rg [ob 0 false] []) (sq (.reg 9 [oc 20 10 [(.c (.str [107,105,110,100,32,107,32,118,101,114,115,105,111,110,32,49,32,123,32,
 103,114,105,100,32,104,101,120,32,50,32,98,121,32,49,32,59,32,115,121,109,98,111,108,115,32,97,32,61,32,48,32,59,32,
 125]))],om 19 20,ox 21 0 19,ox 22 1 19,ox 23 2 19,⟨some 1,none,.alloc 5 [zr,z0,z0,z0,z0,zs,zs,zs,zs,zs]⟩,⟨none,none,.st 10 (tm 1)
 (tm 21)⟩,om 2 22,om 3 23] [1,2,3]) (sq (.reg 9 [oc 25 10 [(.c (.str [107,105,110,100,32,53]))],om 24 25,ox 26 0 24,ox 27 1 24,ox 28 2
 24,⟨some 4,none,.alloc 5 [zr,z0,z0,z0,z0,zs,zs,zs,zs,zs]⟩,⟨none,none,.st 10 (tm 4) (tm 26)⟩,om 5 27,om 6 28] [1,2,3,5,6]) (sq
 (.reg 9 [oc 30 10 [(.c (.str [107,105,110,100,32,107,32,118,101,114,115,105,111,110,32,54,53,53,51,55]))],om 29 30,ox 31 0 29,
 ox 32 1 29,ox 33 2 29,⟨some 7,none,.alloc 5 [zr,z0,z0,z0,z0,zs,zs,zs,zs,zs]⟩,⟨none,none,.st 10 (tm 7) (tm 31)⟩,om 8 32,om 9 33] [1,
 2,3,5,6,8,9]) (sq (.reg 9 [oc 35 10 [(.c zr)],om 34 35,ox 36 0 34,ox 37 1 34,ox 38 2 34,⟨some 10,none,.alloc 5 [zr,z0,z0,z0,z0,zs,
 zs,zs,zs,zs]⟩,⟨none,none,.st 10 (tm 10) (tm 36)⟩,om 11 37,om 12 38] [1,2,3,5,6,8,9,11,12]) (sq (.reg 5 [ov 39 (.build [zr,z0] [(0,
 1,(.c (.str [97])))]),ov 40 (.bs 2 1 (.agg [zr,z0]) [(0,(tm 39))]),ov 41 (.build [zr,z0,z0,z0,z0,zs,zs,zs,zs,zs] [(0,1,(.c (.str
 [107]))),(1,1,(ci 1)),(2,1,(ci 2)),(3,1,(ci 2)),(4,1,(ci 1)),(6,1,(tm 40))]),⟨some 13,none,.alloc 3 [zr,z0,z0,z0,z0,zs,zs,zs,
 zs,zs]⟩,⟨none,none,.st 10 (tm 13) (tm 41)⟩] [1,2,3,5,6,8,9,11,12,13]) (sq (rg [ov 43 (.build [zr,z0,z0,z0,z0,zs,zs,zs,zs,zs]
 [(0,1,(.c (.str [107]))),(2,1,(ci 1))]),oc 44 14 [(tm 43)],om 42 44,ox 45 0 42,ox 46 1 42,om 14 45,om 15 46] [1,2,3,5,6,8,9,11,12,
 13,15]) (sq (rg [ov 47 (.build [zr,zr,z0,z0,zs,zs,z0,z0,z0,z0,zr,z0] [(0,1,(.c (.str [114]))),(2,1,(ci 6))]),ov 48 (.bs 12 1 (.agg
 [zr,zr,z0,z0,zs,zs,z0,z0,z0,z0,zr,z0]) [(0,(tm 47))]),of 49 9 13,⟨none,none,.st 1 (tm 49) (tm 48)⟩] [1,2,3,5,6,8,9,11,12,13,
 15]) (sq (rg [ov 51 (.ld 10 true (tm 13)),oc 52 14 [(tm 51)],om 50 52,ox 53 0 50,ox 54 1 50,om 16 53,om 17 54] [1,2,3,5,6,8,9,11,12,
 13,15,16,17]) (sq (rg [of 55 9 13,⟨none,none,.st 1 (tm 55) (.c zs)⟩] [1,2,3,5,6,8,9,11,12,13,15,16,17]) (sq (rg [om 56 3,ov 57
 (.icmp .eql .i64 (tm 56) (ci 0)),om 58 57,gm 59 58 true 2,gv 60 58 true (.icmp .eql .i64 (tm 59) (ci 0)),oy 61 58 60,om 62 61,gm 63 62 true 6,
 gv 64 62 true (.icmp .eql .i64 (tm 63) (ci 150)),oy 65 62 64,om 66 65,gm 67 66 true 5,gv 68 66 true (.icmp .eql .i64 (tm 67) (ci 5)),oy 69 66 68,
 om 70 69,gm 71 70 true 9,gv 72 70 true (.icmp .eql .i64 (tm 71) (ci 150)),oy 73 70 72,om 74 73,gm 75 74 true 8,gv 76 74 true (.icmp .eql .i64
 (tm 75) (ci 15)),oy 77 74 76,om 78 77,gm 79 78 true 12,gv 80 78 true (.icmp .eql .i64 (tm 79) (ci 150)),oy 81 78 80,om 82 81,gm 83 82 true 11,
 gv 84 82 true (.icmp .eql .i64 (tm 83) (ci 0)),oy 85 82 84,om 86 85,gm 87 86 true 15,gv 88 86 true (.icmp .eql .i64 (tm 87) (ci 150)),oy 89 86
 88,om 90 89,gm 91 90 true 17,gv 92 90 true (.icmp .eql .i64 (tm 91) (ci 0)),oy 93 90 92,om 18 93] [1,13,16,18]) (sq (rg [om 94 18,om 95 94,
 gv 96 95 true (.ld 10 true (tm 1)),gv 97 95 true (.ld 10 true (tm 13)),⟨some 98,some (95,true),.call true (.c (.fn (.func 12) [] [])) [(tm 96),
 (tm 97)]⟩,oy 99 95 98,om 100 99,gm 101 100 true 16,gv 102 100 true (.scmp .eql (tm 101) (.c (.str [107,105,110,100,32,107,32,118,101,114,
 115,105,111,110,32,49,32,123,32,103,114,105,100,32,104,101,120,32,50,32,98,121,32,49,32,59,32,115,121,109,98,111,108,
 115,32,97,32,61,32,48,32,59,32,114,117,108,101,32,114,32,58,32,117,110,108,105,107,101,32,59,32,125]))),oy 103 100 102,
 om 104 103,gv 105 104 true (.build [zr,z0,z0,z0,z0,zs,zs,zs,zs,zs] []),gv 106 104 true (.build [zr,z0,z0,z0,z0,zs,zs,zs,zs,zs]
 []),⟨some 107,some (104,true),.call true (.c (.fn (.func 16) [] [])) [(tm 105),(tm 106)]⟩,oy 108 104 107,om 109 108,gv 110 109 true (.ld 10
 true (tm 1)),gv 111 109 true (.build [zr,z0,z0,z0,z0,zs,zs,zs,zs,zs] []),⟨some 112,some (109,true),.call true (.c (.fn (.func 16) []
 [])) [(tm 110),(tm 111)]⟩,gv 113 109 true (.not (tm 112)),oy 114 109 113,om 0 114] [0]) .ret))))))))))))
theorem a9:AOf Tryz.prog 9 c9 [.t 0]:=mkA (fn:=Tryz.f9) (c:=Tryz.f9.body.getD .skip) (fz:=[]) (im:=[]) kp9 (by kernel_rfl) (by kernel_rfl) (by kernel_rfl) (by kernel_rfl) (by kernel_rfl)
def kp3 (r:Nat):List Nat:=match r with
 |0=>[0]
 |1=>[0,10]
 |2=>[2]
 |3=>[0,13]
 |4=>[2]
 |5=>[0,3,4,5]
 |6=>[3,4,5,6,7,8]
 |7=>[2]
 |_=>[]
def kp4 (r:Nat):List Nat:=match r with
 |0=>[2,3]
 |1=>[2,3,10]
 |2=>[4]
 |3=>[2,3,18]
 |4=>[4]
 |5=>[2,3,5,6]
 |6=>[2,3,5,6,7,8]
 |7=>[4]
 |_=>[]
def c4:ACode:=
(sq (.reg 3 [⟨some 2,none,.box 0 10 (tm 0)⟩,⟨some 3,none,.box 1 10 (tm 1)⟩,ob 4 false] [2,3]) (sq (sq (rg [oc 9 9 [],ot 10 9] [2,3,10])
 (.cond (tm 10) (sq (rg [ob 4 false] [4]) .ret) .skip)) (sq (sq (rg [ov 11 (.ld 10 true (tm 2)),oc 12 13 [(tm 11)],ot 13 12,om 14 13,gv 15 14
 false (.ld 10 true (tm 3)),⟨some 16,some (14,false),.call true (.c (.fn (.func 13) [] [])) [(tm 15)]⟩,gv 17 14 false (.not (tm 16)),oz 18 14 17]
 [2,3,18]) (.cond (tm 18) (sq (rg [ob 4 true] [4]) .ret) .skip)) (sq (rg [ov 20 (.ld 10 true (tm 2)),oc 21 14 [(tm 20)],om 19 21,ox 22 0 19,ox
 23 1 19,om 5 22,om 6 23] [2,3,5,6]) (sq (rg [ov 25 (.ld 10 true (tm 2)),oc 26 15 [(tm 25)],om 24 26,ox 27 0 24,ox 28 1 24,om 7 27,om 8 28]
 [2,3,5,6,7,8]) (sq (rg [om 29 5,om 30 7,ov 31 (.scmp .eql (tm 29) (tm 30)),om 32 31,gm 33 32 true 6,gm 34 32 true 8,gv 35 32 true (.icmp
 .eql .i64 (tm 33) (tm 34)),oy 36 32 35,om 37 36,gv 38 37 true (.ld 10 true (tm 2)),gv 39 37 true (.ld 10 true (tm 3)),⟨some 40,some (37,true),
 .call true (.c (.fn (.func 16) [] [])) [(tm 38),(tm 39)]⟩,gv 41 37 true (.ld 10 true (tm 2)),gv 42 37 true (.ld 10 true (tm 3)),⟨some 43,some
 (37,true),.call true (.c (.fn (.func 12) [] [])) [(tm 41),(tm 42)]⟩,gv 44 37 true (.beq false (tm 40) (tm 43)),oy 45 37 44,om 46 45,gv 47 46
 true (.ld 10 true (tm 2)),gv 48 46 true (.ld 10 true (tm 2)),⟨some 49,some (46,true),.call true (.c (.fn (.func 16) [] [])) [(tm 47),(tm 48)]⟩,
 oy 50 46 49,om 4 50] [4]) .ret))))))
theorem a4:AOf Tryz.prog 4 c4 [.t 4]:=mkA (fn:=Tryz.f4) (c:=Tryz.f4.body.getD .skip) (fz:=[]) (im:=[]) kp4 (by kernel_rfl) (by kernel_rfl) (by kernel_rfl) (by kernel_rfl) (by kernel_rfl)
end Go.AM
end
section
set_option maxRecDepth 20000
set_option linter.all false
namespace Go.AM
open Go.Proofs
end Go.AM
end
