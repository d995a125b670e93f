/-
  The abstract code of some functions, written by a program · The abstract code of some functions, written by a program · The abstract code of some functions, written by a program · The abstract code of some functions, written by a program · The abstract code of some functions, written by a program · The abstract code of some functions, written by a program · The abstract code of some functions, written by a program · The abstract code of some functions, written by a program · The abstract code of some functions, written by a program.
  Conditions: none beyond those of its parts.
-/
import Derived.Test.YtbeenbbefcdbgaaGreatDoorProg
import Derived.Test.YtbeenbbefcdbgaaGreatDoorB4
import Derived.KernelRfl

section
set_option maxRecDepth 20000
set_option linter.all false
namespace Go.AM
open Go.Proofs
def kp28 (r : Nat) : List Nat := match r with
  | 0 => [0]
  | 1 => [0, 4]
  | 2 => [4, 10, 11, 12]
  | 3 => [4, 10, 11, 12, 13]
  | 4 => [4, 5, 6, 10, 11, 12]
  | 6 => [4, 5, 6, 10, 11, 12, 22]
  | 7 => [2, 3]
  | 8 => [4, 5, 6, 10, 11, 12, 26]
  | 9 => [4, 10, 11, 12]
  | 5 => [4, 10, 11, 12]
  | 10 => [4, 10, 11, 12]
  | 11 => [2, 3]
  | _ => []
def c28 : ACode :=
(sq (rg [ ov 2 (.mv (.c zr)), oi 3 0] [0]) (sq (.reg 4 [ om 7 0, on 8 7, ⟨some 9, none, .mks 2 1 16 zr (tm 8)⟩, om 4 9] [0, 4]) (sq (sq (rg [ om 10 0,
 on 11 10, oi 12 0] [4, 10, 11, 12]) (.block 0 (.loop (sq (rg [ ov 13 (.icmp .lss .i64 (tm 12) (tm 11))] [4, 10, 11, 12, 13]) (sq (.cond (tm 13) .skip
 (.exit 0)) (sq (.block 1 (sq (.reg 6 [ om 14 12, oa 15 4 10 12, ov 16 (.ld 4 true (tm 15)), ⟨some 6, none, .alloc 3 [z0, zr, z0, z0]⟩, om 5 14, ⟨none,
 none, .st 4 (tm 6) (tm 16)⟩] [4, 5, 6, 10, 11, 12]) (.block 2 (sq (rg [ ov 23 (.ld 4 true (tm 6)), oc 24 75 [(tm 23)], ot 25 24, om 22 25] [4, 5, 6,
 10, 11, 12, 22]) (.cond (tm 22) (sq (rg [ ov 2 (.mv (.c zr)), oi 3 100] [2, 3]) .ret) (sq (rg [ of 27 0 6, ol 28 27, ov 29 (.icmp .eql .i64 (tm 28)
 (ci 2)), om 26 29] [4, 5, 6, 10, 11, 12, 26]) (.cond (tm 26) (rg [ om 30 4, om 31 5, of 32 2 6, ol 33 32, oc 34 76 [(tm 33)], oa 35 1 30 31, ⟨none,
 none, .st 1 (tm 35) (tm 34)⟩] [4, 10, 11, 12]) (rg [ om 17 4, om 18 5, of 19 1 6, ol 20 19, oa 21 1 17 18, ⟨none, none, .st 1 (tm 21) (tm 20)⟩] [4,
 10, 11, 12])))))))) (rg [ ov 36 (.arith .add .i64 (tm 12) (ci 1)), om 12 36] [4, 10, 11, 12]))))))) (sq (rg [ om 37 4, oc 38 77 [(tm 37), (.c (.str
 [32]))], om 2 38, oi 3 0] [2, 3]) .ret))))
theorem a28 : AOf Tryz.prog 28 c28 [.t 2, .t 3] := mkA (fn := Tryz.f28) (c := Tryz.f28.body.getD .skip) (fz := []) (im := []) kp28 (by kernel_rfl) (by kernel_rfl) (by kernel_rfl) (by kernel_rfl) (by kernel_rfl)
def kp93 (r : Nat) : List Nat := match r with
  | 0 => [0]
  | 1 => [0, 17]
  | 2 => [2]
  | 3 => [0, 19, 20]
  | 4 => [0, 19, 20, 21]
  | 5 => [0, 3, 19, 20]
  | 6 => [0, 4, 19, 20]
  | 7 => [0, 19, 20, 36]
  | 8 => [2]
  | 9 => [0, 19, 20]
  | 10 => [2]
  | _ => []
def c93 : ACode :=
(sq (rg [ ob 2 false] [0]) (sq (sq (rg [ om 5 0, ov 6 (.scmp .eql (tm 5) (.c zr)), om 7 6, gm 8 7 false 0, gv 9 7 false (.lenS (tm 8)), gv 10 7 false
 (.icmp .gtr .i64 (tm 9) (ci 32)), oz 11 7 10, om 12 11, gm 13 12 false 0, gv 14 12 false (.ixS (tm 13) (ci 0)), ⟨some 15, some (12, false), .call true
 (.c (.fn (.func 49) [] [])) [(tm 14)]⟩, gv 16 12 false (.icmp .neq .i64 (tm 15) (ci 2)), oz 17 12 16] [0, 17]) (.cond (tm 17) (sq (rg [ ob 2 false]
 [2]) .ret) .skip)) (sq (sq (rg [ om 18 0, ov 19 (.lenS (tm 18)), oi 20 0] [0, 19, 20]) (.block 0 (.loop (sq (rg [ ov 21 (.icmp .lss .i64 (tm 20) (tm
 19))] [0, 19, 20, 21]) (sq (.cond (tm 21) .skip (.exit 0)) (sq (.block 1 (sq (rg [ om 22 20, om 3 22] [0, 3, 19, 20]) (sq (rg [ om 23 0, om 24 3, ov
 25 (.ixS (tm 23) (tm 24)), oc 26 49 [(tm 25)], om 4 26] [0, 4, 19, 20]) (sq (rg [ om 27 4, ov 28 (.icmp .neq .i64 (tm 27) (ci 2)), om 29 28, gm 30 29
 true 4, gv 31 29 true (.icmp .neq .i64 (tm 30) (ci 3)), oy 32 29 31, om 33 32, gm 34 33 true 4, gv 35 33 true (.icmp .neq .i64 (tm 34) (ci 5)), oy 36
 33 35] [0, 19, 20, 36]) (.cond (tm 36) (sq (rg [ ob 2 false] [2]) .ret) .skip))))) (rg [ ov 37 (.arith .add .i64 (tm 20) (ci 1)), om 20 37] [0, 19,
 20]))))))) (sq (rg [ ob 2 true] [2]) .ret))))
theorem a93 : AOf Tryz.prog 93 c93 [.t 2] := mkA (fn := Tryz.f93) (c := Tryz.f93.body.getD .skip) (fz := []) (im := []) kp93 (by kernel_rfl) (by kernel_rfl) (by kernel_rfl) (by kernel_rfl) (by kernel_rfl)
def kp54 (r : Nat) : List Nat := match r with
  | 0 => [0]
  | 1 => [2]
  | _ => []
def c54 : ACode :=
(sq (rg [ ob 2 false] [0]) (sq (rg [ om 3 0, ov 4 (.icmp .eql .u8 (tm 3) (.c (.int .u8 32))), om 5 4, gm 6 5 false 0, gv 7 5 false (.icmp .eql .u8 (tm
 6) (.c (.int .u8 9))), oz 8 5 7, om 9 8, gm 10 9 false 0, gv 11 9 false (.icmp .eql .u8 (tm 10) (.c (.int .u8 10))), oz 12 9 11, om 13 12, gm 14 13
 false 0, gv 15 13 false (.icmp .eql .u8 (tm 14) (.c (.int .u8 13))), oz 16 13 15, om 2 16] [2]) .ret))
theorem a54 : AOf Tryz.prog 54 c54 [.t 2] := mkA (fn := Tryz.f54) (c := Tryz.f54.body.getD .skip) (fz := []) (im := []) kp54 (by kernel_rfl) (by kernel_rfl) (by kernel_rfl) (by kernel_rfl) (by kernel_rfl)
def kp57 (r : Nat) : List Nat := match r with
  | 0 => [0]
  | 1 => [0, 17]
  | 2 => [2]
  | 3 => [0, 3]
  | 4 => [0, 3, 21]
  | 6 => [0, 3, 28]
  | 7 => [2]
  | 5 => [0, 3]
  | 8 => [2]
  | _ => []
def c57 : ACode :=
(sq (rg [ ob 2 false] [0]) (sq (sq (rg [ om 4 0, ov 5 (.lenS (tm 4)), ov 6 (.icmp .lss .i64 (tm 5) (ci 1)), om 7 6, gm 8 7 false 0, gv 9 7 false (.lenS
 (tm 8)), gv 10 7 false (.icmp .gtr .i64 (tm 9) (ci 32)), oz 11 7 10, om 12 11, gm 13 12 false 0, gv 14 12 false (.ixS (tm 13) (ci 0)), ⟨some 15, some
 (12, false), .call true (.c (.fn (.func 55) [] [])) [(tm 14)]⟩, gv 16 12 false (.not (tm 15)), oz 17 12 16] [0, 17]) (.cond (tm 17) (sq (rg [ ob 2
 false] [2]) .ret) .skip)) (sq (sq (rg [ oi 3 0] [0, 3]) (.block 0 (.loop (sq (sq (rg [ om 18 3, om 19 0, ov 20 (.lenS (tm 19)), ov 21 (.icmp .lss .i64
 (tm 18) (tm 20))] [0, 3, 21]) (.cond (tm 21) .skip (.exit 0))) (sq (.block 1 (sq (rg [ om 24 0, om 25 3, ov 26 (.ixS (tm 24) (tm 25)), oc 27 56 [(tm
 26)], ot 28 27] [0, 3, 28]) (.cond (tm 28) (sq (rg [ ob 2 false] [2]) .ret) .skip))) (rg [ om 22 3, ov 23 (.arith .add .i64 (tm 22) (ci 1)), om 3 23]
 [0, 3])))))) (sq (rg [ ob 2 true] [2]) .ret))))
theorem a57 : AOf Tryz.prog 57 c57 [.t 2] := mkA (fn := Tryz.f57) (c := Tryz.f57.body.getD .skip) (fz := []) (im := []) kp57 (by kernel_rfl) (by kernel_rfl) (by kernel_rfl) (by kernel_rfl) (by kernel_rfl)
def kp49 (r : Nat) : List Nat := match r with
  | 0 => [0]
  | 1 => [0, 3]
  | 2 => [2]
  | 3 => [0, 18]
  | 4 => [2]
  | 5 => [0, 25]
  | 6 => [2]
  | 7 => [0, 28]
  | 8 => [2]
  | 9 => [43]
  | 10 => [2]
  | 11 => [2]
  | _ => []
def c49 : ACode :=
(sq (rg [ oi 2 0] [0]) (sq (.block 0 (sq (rg [ om 4 0, ov 5 (.icmp .geq .u8 (tm 4) (.c (.int .u8 97))), om 6 5, gm 7 6 true 0, gv 8 6 true (.icmp .leq
 .u8 (tm 7) (.c (.int .u8 122))), oy 9 6 8, om 10 9, gm 11 10 false 0, gv 12 10 false (.icmp .geq .u8 (tm 11) (.c (.int .u8 65))), gm 13 10 false 12,
 gm 14 13 true 0, gv 15 13 true (.icmp .leq .u8 (tm 14) (.c (.int .u8 90))), ⟨some 16, some (10, false), .pick (tm 13) (tm 15) cF⟩, oz 17 10 16, om 3
 17] [0, 3]) (.cond (tm 3) (sq (rg [ oi 2 2] [2]) .ret) (sq (rg [ om 19 0, ov 20 (.icmp .geq .u8 (tm 19) (.c (.int .u8 48))), om 21 20, gm 22 21 true
 0, gv 23 21 true (.icmp .leq .u8 (tm 22) (.c (.int .u8 57))), oy 24 21 23, om 18 24] [0, 18]) (.cond (tm 18) (sq (rg [ oi 2 3] [2]) .ret) (sq (rg [ om
 26 0, ov 27 (.icmp .eql .u8 (tm 26) (.c (.int .u8 95))), om 25 27] [0, 25]) (.cond (tm 25) (sq (rg [ oi 2 5] [2]) .ret) (sq (rg [ om 29 0, ov 30
 (.icmp .eql .u8 (tm 29) (.c (.int .u8 32))), om 31 30, gm 32 31 false 0, gv 33 31 false (.icmp .eql .u8 (tm 32) (.c (.int .u8 9))), oz 34 31 33, om 35
 34, gm 36 35 false 0, gv 37 35 false (.icmp .eql .u8 (tm 36) (.c (.int .u8 10))), oz 38 35 37, om 39 38, gm 40 39 false 0, gv 41 39 false (.icmp .eql
 .u8 (tm 40) (.c (.int .u8 13))), oz 42 39 41, om 28 42] [0, 28]) (.cond (tm 28) (sq (rg [ oi 2 1] [2]) .ret) (sq (rg [ om 44 0, oc 45 87 [(.c (.str
 [123, 125, 40, 41, 59, 44, 61, 58, 46, 60, 62, 33, 43, 45, 42, 47])), (tm 44)], ov 46 (.icmp .geq .i64 (tm 45) (ci 0)), om 43 46] [43]) (.cond (tm 43)
 (sq (rg [ oi 2 4] [2]) .ret) .skip))))))))))) (sq (rg [ oi 2 0] [2]) .ret)))
theorem a49 : AOf Tryz.prog 49 c49 [.t 2] := mkA (fn := Tryz.f49) (c := Tryz.f49.body.getD .skip) (fz := []) (im := []) kp49 (by kernel_rfl) (by kernel_rfl) (by kernel_rfl) (by kernel_rfl) (by kernel_rfl)
def kp55 (r : Nat) : List Nat := match r with
  | 0 => [0]
  | 1 => [2]
  | _ => []
def c55 : ACode :=
(sq (rg [ ob 2 false] [0]) (sq (rg [ om 3 0, ov 4 (.icmp .geq .u8 (tm 3) (.c (.int .u8 97))), om 5 4, gm 6 5 true 0, gv 7 5 true (.icmp .leq .u8 (tm 6)
 (.c (.int .u8 122))), oy 8 5 7, om 9 8, gm 10 9 false 0, gv 11 9 false (.icmp .geq .u8 (tm 10) (.c (.int .u8 65))), gm 12 9 false 11, gm 13 12 true 0,
 gv 14 12 true (.icmp .leq .u8 (tm 13) (.c (.int .u8 90))), ⟨some 15, some (9, false), .pick (tm 12) (tm 14) cF⟩, oz 16 9 15, om 2 16] [2]) .ret))
theorem a55 : AOf Tryz.prog 55 c55 [.t 2] := mkA (fn := Tryz.f55) (c := Tryz.f55.body.getD .skip) (fz := []) (im := []) kp55 (by kernel_rfl) (by kernel_rfl) (by kernel_rfl) (by kernel_rfl) (by kernel_rfl)
def kp56 (r : Nat) : List Nat := match r with
  | 0 => [0]
  | 1 => [2]
  | _ => []
def c56 : ACode :=
(sq (rg [ ob 2 false] [0]) (sq (rg [ om 3 0, oc 4 55 [(tm 3)], om 5 4, gm 6 5 false 0, ⟨some 7, some (5, false), .call true (.c (.fn (.func 58) [] []))
 [(tm 6)]⟩, oz 8 5 7, om 9 8, gm 10 9 false 0, gv 11 9 false (.icmp .eql .u8 (tm 10) (.c (.int .u8 95))), oz 12 9 11, om 2 12] [2]) .ret))
theorem a56 : AOf Tryz.prog 56 c56 [.t 2] := mkA (fn := Tryz.f56) (c := Tryz.f56.body.getD .skip) (fz := []) (im := []) kp56 (by kernel_rfl) (by kernel_rfl) (by kernel_rfl) (by kernel_rfl) (by kernel_rfl)
def kp58 (r : Nat) : List Nat := match r with
  | 0 => [0]
  | 1 => [2]
  | _ => []
def c58 : ACode :=
(sq (rg [ ob 2 false] [0]) (sq (rg [ om 3 0, ov 4 (.icmp .geq .u8 (tm 3) (.c (.int .u8 48))), om 5 4, gm 6 5 true 0, gv 7 5 true (.icmp .leq .u8 (tm 6)
 (.c (.int .u8 57))), oy 8 5 7, om 2 8] [2]) .ret))
theorem a58 : AOf Tryz.prog 58 c58 [.t 2] := mkA (fn := Tryz.f58) (c := Tryz.f58.body.getD .skip) (fz := []) (im := []) kp58 (by kernel_rfl) (by kernel_rfl) (by kernel_rfl) (by kernel_rfl) (by kernel_rfl)
def kp59 (r : Nat) : List Nat := match r with
  | 0 => [0]
  | 1 => [0, 4]
  | 2 => [0, 4, 5]
  | 3 => [0, 4, 5, 9]
  | 5 => [0, 4, 5]
  | 6 => [0, 4, 5, 21]
  | 7 => [2, 3]
  | 4 => [0, 4, 5]
  | 8 => [2, 3]
  | _ => []
def c59 : ACode :=
(sq (rg [ oi 2 0, ob 3 false] [0]) (sq (rg [ oi 4 0] [0, 4]) (sq (sq (rg [ oi 5 0] [0, 4, 5]) (.block 0 (.loop (sq (sq (rg [ om 6 5, om 7 0, ov 8
 (.lenS (tm 7)), ov 9 (.icmp .lss .i64 (tm 6) (tm 8))] [0, 4, 5, 9]) (.cond (tm 9) .skip (.exit 0))) (sq (.block 1 (sq (rg [ om 12 4, ov 13 (.arith
 .mul .i64 (ci 10) (tm 12)), om 14 0, om 15 5, ov 16 (.ixS (tm 14) (tm 15)), ov 17 (.arith .sub .u8 (tm 16) (.c (.int .u8 48))), ov 18 (.conv .i64 (tm
 17)), ov 19 (.arith .add .i64 (tm 13) (tm 18)), om 4 19] [0, 4, 5]) (sq (rg [ om 20 4, ov 21 (.icmp .gtr .i64 (tm 20) (ci 1099511627776))] [0, 4, 5,
 21]) (.cond (tm 21) (sq (rg [ oi 2 0, ob 3 false] [2, 3]) .ret) .skip)))) (rg [ om 10 5, ov 11 (.arith .add .i64 (tm 10) (ci 1)), om 5 11] [0, 4,
 5])))))) (sq (rg [ om 22 4, om 23 0, ov 24 (.lenS (tm 23)), ov 25 (.icmp .eql .i64 (tm 24) (ci 1)), om 26 25, gm 27 26 false 0, gv 28 26 false (.ixS
 (tm 27) (ci 0)), gv 29 26 false (.icmp .neq .u8 (tm 28) (.c (.int .u8 48))), oz 30 26 29, om 2 22, om 3 30] [2, 3]) .ret))))
theorem a59 : AOf Tryz.prog 59 c59 [.t 2, .t 3] := mkA (fn := Tryz.f59) (c := Tryz.f59.body.getD .skip) (fz := []) (im := []) kp59 (by kernel_rfl) (by kernel_rfl) (by kernel_rfl) (by kernel_rfl) (by kernel_rfl)
def kp60 (r : Nat) : List Nat := match r with
  | 0 => [0]
  | 1 => [0, 3]
  | 2 => [0, 3, 4]
  | 3 => [0, 3, 4, 8]
  | 5 => [0, 3, 4, 15]
  | 6 => [2]
  | 4 => [0, 3, 4]
  | 7 => [2]
  | _ => []
def c60 : ACode :=
(sq (rg [ ob 2 false] [0]) (sq (rg [ ov 3 (.mv (.c (.str [123, 125, 40, 41, 59, 44, 61, 58, 46, 60, 62, 33, 43, 45, 42, 47])))] [0, 3]) (sq (sq (rg [
 oi 4 0] [0, 3, 4]) (.block 0 (.loop (sq (sq (rg [ om 5 4, om 6 3, ov 7 (.lenS (tm 6)), ov 8 (.icmp .lss .i64 (tm 5) (tm 7))] [0, 3, 4, 8]) (.cond (tm
 8) .skip (.exit 0))) (sq (.block 1 (sq (rg [ om 11 3, om 12 4, ov 13 (.ixS (tm 11) (tm 12)), om 14 0, ov 15 (.icmp .eql .u8 (tm 13) (tm 14))] [0, 3,
 4, 15]) (.cond (tm 15) (sq (rg [ ob 2 true] [2]) .ret) .skip))) (rg [ om 9 4, ov 10 (.arith .add .i64 (tm 9) (ci 1)), om 4 10] [0, 3, 4])))))) (sq (rg
 [ ob 2 false] [2]) .ret))))
theorem a60 : AOf Tryz.prog 60 c60 [.t 2] := mkA (fn := Tryz.f60) (c := Tryz.f60.body.getD .skip) (fz := []) (im := []) kp60 (by kernel_rfl) (by kernel_rfl) (by kernel_rfl) (by kernel_rfl) (by kernel_rfl)
def kp75 (r : Nat) : List Nat := match r with
  | 0 => [1]
  | 1 => [1, 4]
  | 2 => [1, 4, 5]
  | 3 => [2]
  | 4 => [1, 4, 15]
  | 5 => [2]
  | 6 => [1, 30]
  | 7 => [2]
  | 8 => [2]
  | _ => []
def c75 : ACode :=
(sq (.reg 2 [ ⟨some 1, none, .box 0 4 (tm 0)⟩, ob 2 false] [1]) (sq (sq (rg [ of 3 0 1, ol 4 3] [1, 4]) (.block 0 (sq (rg [ ov 6 (.icmp .eql .i64 (tm
 4) (ci 1)), om 5 6] [1, 4, 5]) (.cond (tm 5) (sq (rg [ of 7 1 1, ol 8 7, oc 9 93 [(tm 8)], om 10 9, gf 11 10 true 2 1, gl 12 10 true 11, gv 13 10 true
 (.icmp .eql .i64 (tm 12) (ci 0)), oy 14 10 13, om 2 14] [2]) .ret) (sq (rg [ ov 16 (.icmp .eql .i64 (tm 4) (ci 2)), om 15 16] [1, 4, 15]) (.cond (tm
 15) (sq (rg [ of 17 1 1, ol 18 17, ov 19 (.scmp .eql (tm 18) (.c zr)), om 20 19, gf 21 20 true 2 1, gl 22 20 true 21, gv 23 20 true (.icmp .geq .i64
 (tm 22) (ci 0)), oy 24 20 23, om 25 24, gf 26 25 true 2 1, gl 27 25 true 26, gv 28 25 true (.icmp .leq .i64 (tm 27) (ci 1099511627776)), oy 29 25 28,
 om 2 29] [2]) .ret) (sq (rg [ ov 31 (.icmp .eql .i64 (tm 4) (ci 3)), om 30 31] [1, 30]) (.cond (tm 30) (sq (rg [ of 32 1 1, ol 33 32, ov 34 (.lenS (tm
 33)), ov 35 (.icmp .eql .i64 (tm 34) (ci 1)), om 36 35, gf 37 36 true 1 1, gl 38 36 true 37, gv 39 36 true (.ixS (tm 38) (ci 0)), ⟨some 40, some (36,
 true), .call true (.c (.fn (.func 49) [] [])) [(tm 39)]⟩, gv 41 36 true (.icmp .eql .i64 (tm 40) (ci 4)), oy 42 36 41, om 43 42, gf 44 43 true 2 1, gl
 45 43 true 44, gv 46 43 true (.icmp .eql .i64 (tm 45) (ci 0)), oy 47 43 46, om 2 47] [2]) .ret) .skip)))))))) (sq (rg [ ob 2 false] [2]) .ret)))
theorem a75 : AOf Tryz.prog 75 c75 [.t 2] := mkA (fn := Tryz.f75) (c := Tryz.f75.body.getD .skip) (fz := []) (im := []) kp75 (by kernel_rfl) (by kernel_rfl) (by kernel_rfl) (by kernel_rfl) (by kernel_rfl)
def kp76 (r : Nat) : List Nat := match r with
  | 0 => [0]
  | 1 => [2]
  | _ => []
def c76 : ACode :=
(sq (rg [ ov 2 (.mv (.c zr))] [0]) (sq (rg [ om 3 0, oc 4 94 [(tm 3)], om 2 4] [2]) .ret))
theorem l76 : Callable Tryz.prog 76 := ⟨Tryz.f76, by kernel_rfl, by kernel_rfl, by kernel_rfl⟩
theorem a76 : AOf Tryz.prog 76 c76 [.t 2] := mkA (fn := Tryz.f76) (c := Tryz.f76.body.getD .skip) (fz := []) (im := []) kp76 (by kernel_rfl) (by kernel_rfl) (by kernel_rfl) (by kernel_rfl) (by kernel_rfl)
theorem l77 : Callable Tryz.prog 77 := ⟨Tryz.f77, by kernel_rfl, by kernel_rfl, by kernel_rfl⟩
def kp44 (r : Nat) : List Nat := match r with
  | 0 => []
  | _ => []
def c44 : ACode :=
(rg [ om 2 0, ov 3 (.nilc (tm 2)), of 4 1 3, ol 5 4, ov 6 (.ifc 71 (tm 5)), ⟨none, none, .pan (tm 6)⟩] [])
theorem a44 : AOf Tryz.prog 44 c44 [] := mkA (fn := Tryz.f44) (c := Tryz.f44.body.getD .skip) (fz := []) (im := []) kp44 (by kernel_rfl) (by kernel_rfl) (by kernel_rfl) (by kernel_rfl) (by kernel_rfl)
def kp45 (r : Nat) : List Nat := match r with
  | 0 => []
  | _ => []
def c45 : ACode :=
(rg [ om 2 0, ov 3 (.nilc (tm 2)), of 4 1 3, ol 5 4, om 6 0, ov 7 (.bs 1 1 z0 [(0, (ci 1))]), oc 8 83 [(tm 6), (tm 7)], ov 9 (.lenS (tm 8)), ov 10
 (.arith .add .i64 (tm 5) (tm 9)), ov 11 (.nilc (tm 2)), of 12 1 11, ⟨none, none, .st 1 (tm 12) (tm 10)⟩] [])
theorem a45 : AOf Tryz.prog 45 c45 [] := mkA (fn := Tryz.f45) (c := Tryz.f45.body.getD .skip) (fz := []) (im := []) kp45 (by kernel_rfl) (by kernel_rfl) (by kernel_rfl) (by kernel_rfl) (by kernel_rfl)
def kp46 (r : Nat) : List Nat := match r with
  | 0 => [0, 2]
  | 1 => []
  | _ => []
def c46 : ACode :=
(sq (rg [ om 3 0, ov 4 (.bs 1 3 z0 [(0, (ci 2)), (1, (ci 3)), (2, (ci 5))]), oc 5 83 [(tm 3), (tm 4)], om 2 5] [0, 2]) (rg [ om 6 0, om 7 2, om 8 2, ov
 9 (.build [z0, zr, z0, z0] [(0, 1, (ci 1)), (1, 1, (tm 8))]), oe 10 84 [(tm 6), (tm 7), (tm 9)]] []))
theorem a46 : AOf Tryz.prog 46 c46 [] := mkA (fn := Tryz.f46) (c := Tryz.f46.body.getD .skip) (fz := []) (im := [(1, 4)]) kp46 (by kernel_rfl) (by kernel_rfl) (by kernel_rfl) (by kernel_rfl) (by kernel_rfl)
def kp47 (r : Nat) : List Nat := match r with
  | 0 => [0, 2]
  | 1 => [0, 2, 3, 4]
  | 2 => [0, 2, 3, 20]
  | 3 => [0, 2, 3]
  | 4 => []
  | _ => []
def c47 : ACode :=
(sq (rg [ om 5 0, ov 6 (.bs 1 1 z0 [(0, (ci 3))]), oc 7 83 [(tm 5), (tm 6)], om 2 7] [0, 2]) (sq (rg [ om 9 2, oc 10 85 [(tm 9)], om 8 10, ox 11 0 8,
 ox 12 1 8, om 3 11, om 4 12] [0, 2, 3, 4]) (sq (sq (rg [ om 13 4, ⟨some 14, none, .ext (.nileq 0 true) [(tm 13)]⟩, om 15 14, gm 16 15 false 3, ⟨some
 17, some (15, false), .call true (.c (.fn (.func 76) [] [])) [(tm 16)]⟩, gm 18 15 false 2, gv 19 15 false (.scmp .neq (tm 17) (tm 18)), oz 20 15 19]
 [0, 2, 3, 20]) (.cond (tm 20) (rg [ om 21 0, ov 22 (.nilc (tm 21)), of 23 1 22, ol 24 23, ov 25 (.ifc 71 (tm 24)), ⟨none, none, .pan (tm 25)⟩] [0, 2,
 3]) .skip)) (rg [ om 26 0, om 27 2, om 28 3, ov 29 (.build [z0, zr, z0, z0] [(0, 1, (ci 2)), (2, 1, (tm 28))]), oe 30 84 [(tm 26), (tm 27), (tm 29)]]
 []))))
theorem a47 : AOf Tryz.prog 47 c47 [] := mkA (fn := Tryz.f47) (c := Tryz.f47.body.getD .skip) (fz := []) (im := [(4, 4)]) kp47 (by kernel_rfl) (by kernel_rfl) (by kernel_rfl) (by kernel_rfl) (by kernel_rfl)
def kp48 (r : Nat) : List Nat := match r with
  | 0 => [0, 13]
  | 1 => [0, 2]
  | 2 => [0, 2, 25]
  | 3 => []
  | 4 => []
  | 5 => [0, 3]
  | 6 => []
  | _ => []
def c48 : ACode :=
(sq (sq (rg [ om 4 0, ov 5 (.nilc (tm 4)), of 6 0 5, ol 7 6, om 8 0, ov 9 (.nilc (tm 8)), of 10 1 9, ol 11 10, ov 12 (.slS (tm 7) (some (tm 11)) none),
 oc 13 86 [(tm 12), (.c (.str [47, 47]))]] [0, 13]) (.cond (tm 13) (sq (sq (rg [ om 14 0, ov 15 (.nilc (tm 14)), of 16 0 15, ol 17 16, om 18 0, ov 19
 (.nilc (tm 18)), of 20 1 19, ol 21 20, ov 22 (.slS (tm 17) (some (tm 21)) none), oc 23 87 [(tm 22), (.c (.int .u8 10))], om 2 23] [0, 2]) (sq (rg [ om
 24 2, ov 25 (.icmp .geq .i64 (tm 24) (ci 0))] [0, 2, 25]) (.cond (tm 25) (rg [ om 26 0, ov 27 (.nilc (tm 26)), of 28 1 27, ol 29 28, om 30 2, ov 31
 (.arith .add .i64 (tm 29) (tm 30)), ov 32 (.nilc (tm 26)), of 33 1 32, ⟨none, none, .st 1 (tm 33) (tm 31)⟩] []) (rg [ om 34 0, om 35 0, ov 36 (.nilc
 (tm 35)), of 37 0 36, ol 38 37, ov 39 (.lenS (tm 38)), ov 40 (.nilc (tm 34)), of 41 1 40, ⟨none, none, .st 1 (tm 41) (tm 39)⟩] [])))) .ret) .skip))
 (sq (rg [ om 42 0, ov 43 (.nilc (tm 42)), of 44 0 43, ol 45 44, om 46 0, ov 47 (.nilc (tm 46)), of 48 1 47, ol 49 48, om 50 0, ov 51 (.nilc (tm 50)),
 of 52 1 51, ol 53 52, ov 54 (.arith .add .i64 (tm 53) (ci 1)), ov 55 (.slS (tm 45) (some (tm 49)) (some (tm 54))), om 3 55] [0, 3]) (rg [ om 56 0, om
 57 3, om 58 3, ov 59 (.build [z0, zr, z0, z0] [(0, 1, (ci 3)), (1, 1, (tm 58))]), oe 60 84 [(tm 56), (tm 57), (tm 59)]] [])))
theorem a48 : AOf Tryz.prog 48 c48 [] := mkA (fn := Tryz.f48) (c := Tryz.f48.body.getD .skip) (fz := []) (im := [(6, 4)]) kp48 (by kernel_rfl) (by kernel_rfl) (by kernel_rfl) (by kernel_rfl) (by kernel_rfl)
def kp83 (r : Nat) : List Nat := match r with
  | 0 => [0, 1]
  | 1 => [0, 1, 5]
  | 2 => [0, 1, 5, 27]
  | 3 => [0, 1, 5]
  | 4 => [4]
  | _ => []
def c83 : ACode :=
(sq (rg [ ov 4 (.mv (.c zr))] [0, 1]) (sq (rg [ om 6 0, ov 7 (.nilc (tm 6)), of 8 1 7, ol 9 8, om 5 9] [0, 1, 5]) (sq (.block 0 (.loop (sq (sq (rg [ om
 10 5, om 11 0, ov 12 (.nilc (tm 11)), of 13 0 12, ol 14 13, ov 15 (.lenS (tm 14)), ov 16 (.icmp .lss .i64 (tm 10) (tm 15)), om 17 16, gm 18 17 true 1,
 gm 19 17 true 0, gv 20 17 true (.nilc (tm 19)), gf 21 17 true 0 20, gl 22 17 true 21, gm 23 17 true 5, gv 24 17 true (.ixS (tm 22) (tm 23)), ⟨some 25,
 some (17, true), .call true (.c (.fn (.func 49) [] [])) [(tm 24)]⟩, ⟨some 26, some (17, true), .call true (.c (.fn (.func 102) [] [])) [(tm 18), (tm
 25)]⟩, oy 27 17 26] [0, 1, 5, 27]) (.cond (tm 27) .skip (.exit 0))) (.block 1 (rg [ om 28 5, ov 29 (.arith .add .i64 (tm 28) (ci 1)), om 5 29] [0, 1,
 5]))))) (sq (rg [ om 30 0, ov 31 (.nilc (tm 30)), of 32 0 31, ol 33 32, om 34 0, ov 35 (.nilc (tm 34)), of 36 1 35, ol 37 36, om 38 5, ov 39 (.slS (tm
 33) (some (tm 37)) (some (tm 38))), om 4 39] [4]) .ret))))
theorem l83 : Callable Tryz.prog 83 := ⟨Tryz.f83, by kernel_rfl, by kernel_rfl, by kernel_rfl⟩
theorem a83 : AOf Tryz.prog 83 c83 [.t 4] := mkA (fn := Tryz.f83) (c := Tryz.f83.body.getD .skip) (fz := []) (im := []) kp83 (by kernel_rfl) (by kernel_rfl) (by kernel_rfl) (by kernel_rfl) (by kernel_rfl)
def kp84 (r : Nat) : List Nat := match r with
  | 0 => [0, 1, 5]
  | 1 => [0, 1, 5, 8]
  | 2 => [0, 1, 5]
  | 3 => [0, 1, 5]
  | 4 => [0, 1]
  | 5 => []
  | _ => []
def c84 : ACode :=
(sq (.reg 1 [ ⟨some 5, none, .box 0 4 (tm 2)⟩] [0, 1, 5]) (sq (sq (rg [ ov 6 (.ld 4 true (tm 5)), oc 7 75 [(tm 6)], ot 8 7] [0, 1, 5, 8]) (.cond (tm 8)
 (rg [ om 9 0, ov 10 (.nilc (tm 9)), of 11 1 10, ol 12 11, ov 13 (.ifc 71 (tm 12)), ⟨none, none, .pan (tm 13)⟩] [0, 1, 5]) .skip)) (sq (rg [ om 14 0,
 ov 15 (.nilc (tm 14)), of 16 1 15, ol 17 16, of 18 3 5, ⟨none, none, .st 1 (tm 18) (tm 17)⟩] [0, 1, 5]) (sq (.reg 11 [ om 19 0, om 20 0, ov 21 (.nilc
 (tm 20)), of 22 2 21, ol 23 22, ov 24 (.ld 4 true (tm 5)), ov 25 (.bs 4 1 (.agg [z0, zr, z0, z0]) [(0, (tm 24))]), ⟨some 26, none, .app 7 4 40 (tm 23)
 (tm 25) false⟩, ov 27 (.nilc (tm 19)), of 28 2 27, ⟨none, none, .st 1 (tm 28) (tm 26)⟩] [0, 1]) (rg [ om 29 0, ov 30 (.nilc (tm 29)), of 31 1 30, ol
 32 31, om 33 1, ov 34 (.lenS (tm 33)), ov 35 (.arith .add .i64 (tm 32) (tm 34)), ov 36 (.nilc (tm 29)), of 37 1 36, ⟨none, none, .st 1 (tm 37) (tm
 35)⟩] [])))))
theorem a84 : AOf Tryz.prog 84 c84 [] := mkA (fn := Tryz.f84) (c := Tryz.f84.body.getD .skip) (fz := []) (im := []) kp84 (by kernel_rfl) (by kernel_rfl) (by kernel_rfl) (by kernel_rfl) (by kernel_rfl)
def kp85 (r : Nat) : List Nat := match r with
  | 0 => [0]
  | 1 => [0, 4, 5]
  | 2 => [0, 4, 5, 12]
  | 3 => [2, 3]
  | 4 => [2, 3]
  | _ => []
def c85 : ACode :=
(sq (rg [ oi 2 0, ov 3 (.mv (.c .nilifc))] [0]) (sq (rg [ om 7 0, oc 8 103 [(tm 7)], om 6 8, ox 9 0 6, ox 10 1 6, om 4 9, om 5 10] [0, 4, 5]) (sq (sq
 (rg [ om 11 5, ⟨some 12, none, .ext (.nileq 0 true) [(tm 11)]⟩] [0, 4, 5, 12]) (.cond (tm 12) (sq (rg [ om 13 4, om 14 0, om 15 5, oc 16 104 [(.c
 (.str [65, 116, 111, 105])), (tm 14), (ci 0), (ci 0), (tm 15)], om 2 13, om 3 16] [2, 3]) .ret) .skip)) (sq (rg [ om 17 4, om 2 17, ov 3 (.mv (.c
 .nilifc))] [2, 3]) .ret))))
theorem l85 : Callable Tryz.prog 85 := ⟨Tryz.f85, by kernel_rfl, by kernel_rfl, by kernel_rfl⟩
theorem a85 : AOf Tryz.prog 85 c85 [.t 2, .t 3] := mkA (fn := Tryz.f85) (c := Tryz.f85.body.getD .skip) (fz := []) (im := []) kp85 (by kernel_rfl) (by kernel_rfl) (by kernel_rfl) (by kernel_rfl) (by kernel_rfl)
theorem l86 : Callable Tryz.prog 86 := ⟨Tryz.f86, by kernel_rfl, by kernel_rfl, by kernel_rfl⟩
theorem l87 : Callable Tryz.prog 87 := ⟨Tryz.f87, by kernel_rfl, by kernel_rfl, by kernel_rfl⟩
def kp98 (r : Nat) : List Nat := match r with
  | 0 => [0]
  | 1 => [0, 3]
  | 2 => [0, 3, 11]
  | 3 => [0, 3]
  | 4 => [0, 3]
  | 5 => [2]
  | _ => []
def c98 : ACode :=
(sq (rg [ ov 2 (.mv (.c zr))] [0]) (sq (rg [ om 4 0, ov 5 (.arith .rem .i64 (tm 4) (ci 10)), ov 6 (.arith .add .i64 (ci 48) (tm 5)), ov 7 (.conv .u8
 (tm 6)), ov 8 (.bs 1 1 (.int .u8 0) [(0, (tm 7))]), ov 9 (.b2s (tm 8)), om 3 9] [0, 3]) (sq (.block 0 (.loop (sq (sq (rg [ om 10 0, ov 11 (.icmp .geq
 .i64 (tm 10) (ci 10))] [0, 3, 11]) (.cond (tm 11) .skip (.exit 0))) (.block 1 (sq (rg [ om 12 0, ov 13 (.arith .quo .i64 (tm 12) (ci 10)), om 0 13]
 [0, 3]) (rg [ om 14 0, ov 15 (.arith .rem .i64 (tm 14) (ci 10)), ov 16 (.arith .add .i64 (ci 48) (tm 15)), ov 17 (.conv .u8 (tm 16)), ov 18 (.bs 1 1
 (.int .u8 0) [(0, (tm 17))]), ov 19 (.b2s (tm 18)), om 20 3, ov 21 (.sadd (tm 19) (tm 20)), om 3 21] [0, 3])))))) (sq (rg [ om 22 3, om 2 22] [2])
 .ret))))
theorem a98 : AOf Tryz.prog 98 c98 [.t 2] := mkA (fn := Tryz.f98) (c := Tryz.f98.body.getD .skip) (fz := []) (im := []) kp98 (by kernel_rfl) (by kernel_rfl) (by kernel_rfl) (by kernel_rfl) (by kernel_rfl)
def kp102 (r : Nat) : List Nat := match r with
  | 0 => [0, 1]
  | 1 => [4]
  | _ => []
def c102 : ACode :=
(sq (rg [ ob 4 false] [0, 1]) (sq (rg [ om 5 0, om 6 1, oc 7 112 [(tm 5), (tm 6)], ov 8 (.icmp .geq .i64 (tm 7) (ci 0)), om 4 8] [4]) .ret))
theorem a102 : AOf Tryz.prog 102 c102 [.t 4] := mkA (fn := Tryz.f102) (c := Tryz.f102.body.getD .skip) (fz := []) (im := []) kp102 (by kernel_rfl) (by kernel_rfl) (by kernel_rfl) (by kernel_rfl) (by kernel_rfl)
def kp112 (r : Nat) : List Nat := match r with
  | 0 => [0, 1]
  | 1 => [0, 1, 7, 8]
  | 2 => [0, 1, 7, 8, 9]
  | 3 => [0, 1, 5, 7, 8]
  | 4 => [0, 1, 5, 7, 8, 16]
  | 5 => [4]
  | 6 => [0, 1, 7, 8]
  | 7 => [4]
  | _ => []
def c112 : ACode :=
(sq (rg [ oi 4 0] [0, 1]) (sq (sq (rg [ om 6 0, on 7 6, oi 8 0] [0, 1, 7, 8]) (.block 0 (.loop (sq (rg [ ov 9 (.icmp .lss .i64 (tm 8) (tm 7))] [0, 1,
 7, 8, 9]) (sq (.cond (tm 9) .skip (.exit 0)) (sq (.block 1 (sq (rg [ om 10 8, om 5 10] [0, 1, 5, 7, 8]) (sq (rg [ om 11 1, om 12 0, om 13 5, oa 14 1
 12 13, ol 15 14, ov 16 (.icmp .eql .i64 (tm 11) (tm 15))] [0, 1, 5, 7, 8, 16]) (.cond (tm 16) (sq (rg [ om 17 5, om 4 17] [4]) .ret) .skip)))) (rg [
 ov 18 (.arith .add .i64 (tm 8) (ci 1)), om 8 18] [0, 1, 7, 8]))))))) (sq (rg [ oi 4 (-1)] [4]) .ret)))
theorem a112 : AOf Tryz.prog 112 c112 [.t 4] := mkA (fn := Tryz.f112) (c := Tryz.f112.body.getD .skip) (fz := []) (im := []) kp112 (by kernel_rfl) (by kernel_rfl) (by kernel_rfl) (by kernel_rfl) (by kernel_rfl)
end Go.AM
end
section
set_option maxRecDepth 20000
set_option linter.all false
namespace Go.AM
open Go.Proofs
def kp43 (r : Nat) : List Nat := match r with
  | 0 => [0, 1, 2, 3]
  | 1 => [0, 1, 2, 3, 6]
  | 2 => []
  | _ => []
def c43 : ACode :=
(sq (rg [ om 5 3, ⟨some 6, none, .ext (.nileq 0 true) [(tm 5)]⟩] [0, 1, 2, 3, 6]) (.cond (tm 6) (rg [ om 7 3, ⟨some 8, none, .ext (.tas 71 false z0)
 [(tm 7)]⟩, ⟨none, none, .st 1 (tm 0) (.c zs)⟩, ⟨none, none, .st 1 (tm 1) (tm 8)⟩, ⟨none, none, .st 1 (tm 2) (ci 100)⟩] []) .skip))
theorem l43 : Callable Tryz.prog 43 := ⟨Tryz.f43, by kernel_rfl, by kernel_rfl, by kernel_rfl⟩
theorem a43 {args : List AVal} {rv : AVal} {H : AHeap} {n : Nat} {Rc : AHeap → Nat → Prop} (h : awp Tryz.prog c43 (postC [] fun o H' n' => o = .ret (.tup []) ∧ Rc H' n') ⟨(3, true, rv) :: (4, true, rv) :: penv 0 args, H, n⟩) : ADefer Tryz.prog 43 args rv H n Rc :=
  adefer_of' (id := 0) (fn := Tryz.f43) (ops := regOps (sqH (Tryz.f43.body.getD .skip))) (X := sqT (Tryz.f43.body.getD .skip)) (y := c43) (fz := []) (im := []) (kp := kp43) (t3 := 3) (t4 := 4) (by kernel_rfl) (by kernel_rfl) (by kernel_rfl) (by kernel_rfl) (by kernel_rfl) (by kernel_rfl) h
def kp21 (r : Nat) : List Nat := match r with
  | 0 => [0, 2, 3, 4]
  | 1 => [0, 2, 3, 4, 9]
  | 2 => [2, 3, 4]
  | 3 => [0, 2, 3, 4]
  | 4 => [0, 2, 3, 4, 5]
  | 5 => [0, 2, 3, 4, 5]
  | 6 => [0, 2, 3, 4, 5, 6]
  | 7 => [0, 2, 3, 4, 5, 6, 22]
  | 8 => [0, 2, 3, 4, 5, 6]
  | 9 => [2, 3, 4]
  | _ => []
def c21_0 : ACode :=
  (.reg 3 [
    ⟨some 2, none, .alloc 0 [(.sl .nil [])]⟩,
    ⟨some 3, none, .alloc 1 [(.int .i64 0)]⟩,
    ⟨some 4, none, .alloc 2 [(.int .i64 0)]⟩] [0, 2, 3, 4])
def c21_1 : ACode :=
  (.seq
   (.reg 0 [
     ⟨some 7, none, .v (.mv (.t 0))⟩,
     ⟨some 8, none, .v (.lenS (.t 7))⟩,
     ⟨some 9, none, .v (.icmp .gtr .i64 (.t 8) (.c (.int .i64 65536)))⟩] [0, 2, 3, 4, 9])
   (.cond (.t 9)
    (.seq
     (.reg 0 [
       ⟨none, none, .st 1 (.t 2) (.c (.sl .nil []))⟩,
       ⟨none, none, .st 1 (.t 3) (.c (.int .i64 0))⟩,
       ⟨none, none, .st 1 (.t 4) (.c (.int .i64 2))⟩] [2, 3, 4])
     .ret)
    .skip))
def c21 : ACode :=
(sq (.reg 1 [ ⟨some 5, none, .alloc 0 [.nilfn, .nilfn, .nilfn, .nilfn, .nilfn, .nilfn]⟩] [0, 2, 3, 4, 5]) (sq (rg [ ov 11 (.build [.nilfn, .nilfn,
 .nilfn, .nilfn, .nilfn, .nilfn] [(0, 1, (.c (.fn (.func 44) [] []))), (1, 1, (.c (.fn (.func 45) [] []))), (2, 1, (.c (.fn (.func 46) [] []))), (3, 1,
 (.c (.fn (.func 47) [] []))), (4, 1, (.c (.fn (.func 48) [] []))), (5, 1, (.c (.fn (.func 44) [] [])))]), of 12 0 5, ⟨none, none, .st 6 (tm 12) (tm
 11)⟩] [0, 2, 3, 4, 5]) (sq (.reg 4 [ om 13 0, ov 14 (.build [zr, z0, zs] [(0, 1, (tm 13))]), ⟨some 15, none, .box 2 3 (tm 14)⟩, om 6 15] [0, 2, 3, 4,
 5, 6]) (sq (.block 0 (.loop (sq (sq (rg [ om 16 6, ov 17 (.nilc (tm 16)), of 18 1 17, ol 19 18, om 20 0, ov 21 (.lenS (tm 20)), ov 22 (.icmp .lss .i64
 (tm 19) (tm 21))] [0, 2, 3, 4, 5, 6, 22]) (.cond (tm 22) .skip (.exit 0))) (.block 1 (rg [ om 23 0, om 24 6, ov 25 (.nilc (tm 24)), of 26 1 25, ol 27
 26, ov 28 (.ixS (tm 23) (tm 27)), oc 29 49 [(tm 28)], of 30 0 5, ov 31 (.iaA 6 1 (tm 30) (tm 29)), ol 32 31, om 33 6, ⟨some 34, none, .call false (tm
 32) [(tm 33)]⟩] [0, 2, 3, 4, 5, 6]))))) (sq (rg [ om 35 6, ov 36 (.nilc (tm 35)), of 37 2 36, ol 38 37, ⟨none, none, .st 1 (tm 2) (tm 38)⟩, ⟨none,
 none, .st 1 (tm 3) (ci 0)⟩, ⟨none, none, .st 1 (tm 4) (ci 0)⟩] [2, 3, 4]) .ret)))))
theorem a21 {args : List AVal} {H : AHeap} {n : Nat} {R : AOut → AHeap → Nat → Prop} (h : awp Tryz.prog (aspine [c21_0, c21_1]) (postD Tryz.prog 10 ⟨(some 10), none, .v (.fn (.func 43) [] [(.t 2), (.t 3), (.t 4)])⟩ c21 5 43 [.c 2 1 false, .c 3 1 false, .c 4 1 false] R) ⟨penv 0 args, H, n⟩) : ACalls Tryz.prog 21 args H n R :=
  acalls_defer' (id := 3) (fn := Tryz.f21) (pre := [sqH (Tryz.f21.body.getD .skip), sqH (sqT (Tryz.f21.body.getD .skip))]) (ys := [c21_0, c21_1]) (ops := regOps (sqH (sqT (sqT (Tryz.f21.body.getD .skip))))) (X := (sqT (sqT (sqT (Tryz.f21.body.getD .skip))))) (y := c21) (fz := []) (fzX := [(999999, 5)]) (im := [(8, 11)]) (kp := kp21) (rs := [.c 2 1 false, .c 3 1 false, .c 4 1 false]) (d0 := (some 10)) (k := .fn (.func 43) [] [(.t 2), (.t 3), (.t 4)]) (t := 10) (by kernel_rfl) (by kernel_rfl) (by kernel_rfl) (by kernel_rfl) (by kernel_rfl) (by kernel_rfl) (by kernel_rfl) (by kernel_rfl) (by kernel_rfl) l43 h
end Go.AM
end
section
set_option maxRecDepth 20000
set_option linter.all false
namespace Go.AM
open Go.Proofs
def kp24 (r : Nat) : List Nat := match r with
  | 0 => [0]
  | 1 => [0, 12]
  | 2 => [2, 3, 4]
  | 3 => [0, 5]
  | 4 => [0, 5, 6]
  | 5 => [0, 5, 6, 17]
  | 6 => [0, 5, 6, 7]
  | 7 => [0, 5, 6, 7, 22]
  | 8 => [0, 5, 6]
  | 9 => [0, 5, 6, 7, 42]
  | 10 => [0, 5, 6, 52]
  | 11 => [0, 5, 6]
  | 12 => [0, 5, 6, 7, 58]
  | 13 => [0, 5, 6, 7, 68]
  | 14 => [0, 5, 6, 7]
  | 15 => [0, 5, 6, 7, 76]
  | 16 => [2, 3, 4]
  | 17 => [0, 5, 6]
  | 18 => [0, 5, 6, 7, 90]
  | 19 => [0, 5, 6, 7, 100]
  | 20 => [0, 5, 6, 7]
  | 21 => [0, 5, 6, 7, 8, 9]
  | 22 => [0, 5, 6, 7, 8, 112]
  | 23 => [2, 3, 4]
  | 24 => [0, 5, 6]
  | 25 => [0, 5, 6, 7, 124]
  | 26 => [2, 3, 4]
  | 27 => [0, 5, 6, 7]
  | 28 => [0, 5, 6]
  | 29 => [2, 3, 4]
  | _ => []
def c24 : ACode :=
(sq (rg [ ov 2 (.mv (.c zs)), oi 3 0, oi 4 0] [0]) (sq (sq (rg [ om 10 0, ov 11 (.lenS (tm 10)), ov 12 (.icmp .gtr .i64 (tm 11) (ci 65536))] [0, 12])
 (.cond (tm 12) (sq (rg [ ov 2 (.mv (.c zs)), oi 3 0, oi 4 2] [2, 3, 4]) .ret) .skip)) (sq (rg [ ov 13 (.bs 4 0 (.agg [z0, zr, z0, z0]) []), om 5 13]
 [0, 5]) (sq (rg [ oi 6 0] [0, 5, 6]) (sq (.block 0 (.loop (sq (sq (rg [ om 14 6, om 15 0, ov 16 (.lenS (tm 15)), ov 17 (.icmp .lss .i64 (tm 14) (tm
 16))] [0, 5, 6, 17]) (.cond (tm 17) .skip (.exit 0))) (.block 1 (sq (rg [ om 18 6, om 7 18] [0, 5, 6, 7]) (sq (sq (rg [ om 19 0, om 20 6, ov 21 (.ixS
 (tm 19) (tm 20)), oc 22 54 [(tm 21)]] [0, 5, 6, 7, 22]) (.cond (tm 22) (sq (rg [ om 23 6, ov 24 (.arith .add .i64 (tm 23) (ci 1)), om 6 24] [0, 5, 6])
 (.exit 1)) .skip)) (sq (sq (rg [ om 25 0, om 26 6, ov 27 (.ixS (tm 25) (tm 26)), ov 28 (.icmp .eql .u8 (tm 27) (.c (.int .u8 47))), om 29 28, gm 30 29
 true 6, gv 31 29 true (.arith .add .i64 (tm 30) (ci 1)), gm 32 29 true 0, gv 33 29 true (.lenS (tm 32)), gv 34 29 true (.icmp .lss .i64 (tm 31) (tm
 33)), oy 35 29 34, om 36 35, gm 37 36 true 0, gm 38 36 true 6, gv 39 36 true (.arith .add .i64 (tm 38) (ci 1)), gv 40 36 true (.ixS (tm 37) (tm 39)),
 gv 41 36 true (.icmp .eql .u8 (tm 40) (.c (.int .u8 47))), oy 42 36 41] [0, 5, 6, 7, 42]) (.cond (tm 42) (sq (.block 2 (.loop (sq (sq (rg [ om 43 6,
 om 44 0, ov 45 (.lenS (tm 44)), ov 46 (.icmp .lss .i64 (tm 43) (tm 45)), om 47 46, gm 48 47 true 0, gm 49 47 true 6, gv 50 47 true (.ixS (tm 48) (tm
 49)), gv 51 47 true (.icmp .neq .u8 (tm 50) (.c (.int .u8 10))), oy 52 47 51] [0, 5, 6, 52]) (.cond (tm 52) .skip (.exit 2))) (.block 3 (rg [ om 53 6,
 ov 54 (.arith .add .i64 (tm 53) (ci 1)), om 6 54] [0, 5, 6]))))) (.exit 1)) .skip)) (sq (sq (rg [ om 55 0, om 56 6, ov 57 (.ixS (tm 55) (tm 56)), oc
 58 55 [(tm 57)]] [0, 5, 6, 7, 58]) (.cond (tm 58) (sq (.block 4 (.loop (sq (sq (rg [ om 59 6, om 60 0, ov 61 (.lenS (tm 60)), ov 62 (.icmp .lss .i64
 (tm 59) (tm 61)), om 63 62, gm 64 63 true 0, gm 65 63 true 6, gv 66 63 true (.ixS (tm 64) (tm 65)), ⟨some 67, some (63, true), .call true (.c (.fn
 (.func 56) [] [])) [(tm 66)]⟩, oy 68 63 67] [0, 5, 6, 7, 68]) (.cond (tm 68) .skip (.exit 4))) (.block 5 (rg [ om 69 6, ov 70 (.arith .add .i64 (tm
 69) (ci 1)), om 6 70] [0, 5, 6, 7]))))) (sq (sq (rg [ om 71 0, om 72 7, om 73 6, ov 74 (.slS (tm 71) (some (tm 72)) (some (tm 73))), oc 75 57 [(tm
 74)], ot 76 75] [0, 5, 6, 7, 76]) (.cond (tm 76) (sq (rg [ om 77 7, ov 2 (.mv (.c zs)), om 3 77, oi 4 100] [2, 3, 4]) .ret) .skip)) (sq (.reg 10 [ om
 78 5, om 79 0, om 80 7, om 81 6, ov 82 (.slS (tm 79) (some (tm 80)) (some (tm 81))), om 83 7, ov 84 (.build [z0, zr, z0, z0] [(0, 1, (ci 1)), (1, 1,
 (tm 82)), (3, 1, (tm 83))]), ov 85 (.bs 4 1 (.agg [z0, zr, z0, z0]) [(0, (tm 84))]), ⟨some 86, none, .app 8 4 40 (tm 78) (tm 85) false⟩, om 5 86] [0,
 5, 6]) (.exit 1)))) .skip)) (sq (sq (rg [ om 87 0, om 88 6, ov 89 (.ixS (tm 87) (tm 88)), oc 90 58 [(tm 89)]] [0, 5, 6, 7, 90]) (.cond (tm 90) (sq
 (.block 6 (.loop (sq (sq (rg [ om 91 6, om 92 0, ov 93 (.lenS (tm 92)), ov 94 (.icmp .lss .i64 (tm 91) (tm 93)), om 95 94, gm 96 95 true 0, gm 97 95
 true 6, gv 98 95 true (.ixS (tm 96) (tm 97)), ⟨some 99, some (95, true), .call true (.c (.fn (.func 58) [] [])) [(tm 98)]⟩, oy 100 95 99] [0, 5, 6, 7,
 100]) (.cond (tm 100) .skip (.exit 6))) (.block 7 (rg [ om 101 6, ov 102 (.arith .add .i64 (tm 101) (ci 1)), om 6 102] [0, 5, 6, 7]))))) (sq (rg [ om
 104 0, om 105 7, om 106 6, ov 107 (.slS (tm 104) (some (tm 105)) (some (tm 106))), oc 108 59 [(tm 107)], om 103 108, ox 109 0 103, ox 110 1 103, om 8
 109, om 9 110] [0, 5, 6, 7, 8, 9]) (sq (sq (rg [ om 111 9, ot 112 111] [0, 5, 6, 7, 8, 112]) (.cond (tm 112) (sq (rg [ om 113 7, ov 2 (.mv (.c zs)),
 om 3 113, oi 4 100] [2, 3, 4]) .ret) .skip)) (sq (.reg 7 [ om 114 5, om 115 8, om 116 7, ov 117 (.build [z0, zr, z0, z0] [(0, 1, (ci 2)), (2, 1, (tm
 115)), (3, 1, (tm 116))]), ov 118 (.bs 4 1 (.agg [z0, zr, z0, z0]) [(0, (tm 117))]), ⟨some 119, none, .app 5 4 40 (tm 114) (tm 118) false⟩, om 5 119]
 [0, 5, 6]) (.exit 1))))) .skip)) (sq (sq (rg [ om 120 0, om 121 6, ov 122 (.ixS (tm 120) (tm 121)), oc 123 60 [(tm 122)], ot 124 123] [0, 5, 6, 7,
 124]) (.cond (tm 124) (sq (rg [ om 125 7, ov 2 (.mv (.c zs)), om 3 125, oi 4 100] [2, 3, 4]) .ret) .skip)) (sq (rg [ om 126 6, ov 127 (.arith .add
 .i64 (tm 126) (ci 1)), om 6 127] [0, 5, 6, 7]) (.reg 10 [ om 128 5, om 129 0, om 130 7, om 131 6, ov 132 (.slS (tm 129) (some (tm 130)) (some (tm
 131))), om 133 7, ov 134 (.build [z0, zr, z0, z0] [(0, 1, (ci 3)), (1, 1, (tm 132)), (3, 1, (tm 133))]), ov 135 (.bs 4 1 (.agg [z0, zr, z0, z0]) [(0,
 (tm 134))]), ⟨some 136, none, .app 8 4 40 (tm 128) (tm 135) false⟩, om 5 136] [0, 5, 6])))))))))))) (sq (rg [ om 137 5, om 2 137, oi 3 0, oi 4 0] [2,
 3, 4]) .ret))))))
theorem a24 : AOf Tryz.prog 24 c24 [.t 2, .t 3, .t 4] := mkA (fn := Tryz.f24) (c := Tryz.f24.body.getD .skip) (fz := []) (im := []) kp24 (by kernel_rfl) (by kernel_rfl) (by kernel_rfl) (by kernel_rfl) (by kernel_rfl)
end Go.AM
end
section
set_option maxRecDepth 20000
set_option linter.all false
namespace Go.AM
open Go.Proofs
def kp50 (r : Nat) : List Nat := match r with
  | 0 => [0, 1]
  | 1 => [4]
  | _ => []
def c50 : ACode :=
(sq (rg [ ob 4 false] [0, 1]) (sq (rg [ om 5 0, ov 6 (.nilc (tm 5)), of 7 1 6, ol 8 7, om 9 0, ov 10 (.nilc (tm 9)), of 11 0 10, ol 12 11, on 13 12, ov
 14 (.icmp .lss .i64 (tm 8) (tm 13)), om 15 14, gm 16 15 true 0, gv 17 15 true (.nilc (tm 16)), gf 18 15 true 0 17, gl 19 15 true 18, gm 20 15 true 0,
 gv 21 15 true (.nilc (tm 20)), gf 22 15 true 1 21, gl 23 15 true 22, ga 24 15 true 4 19 23, gf 25 15 true 0 24, gl 26 15 true 25, gv 27 15 true (.icmp
 .neq .i64 (tm 26) (ci 2)), oy 28 15 27, om 29 28, gm 30 29 true 0, gv 31 29 true (.nilc (tm 30)), gf 32 29 true 0 31, gl 33 29 true 32, gm 34 29 true
 0, gv 35 29 true (.nilc (tm 34)), gf 36 29 true 1 35, gl 37 29 true 36, ga 38 29 true 4 33 37, gf 39 29 true 1 38, gl 40 29 true 39, gm 41 29 true 1,
 gv 42 29 true (.scmp .eql (tm 40) (tm 41)), oy 43 29 42, om 4 43] [4]) .ret))
theorem l50 : Callable Tryz.prog 50 := ⟨Tryz.f50, by kernel_rfl, by kernel_rfl, by kernel_rfl⟩
theorem a50 : AOf Tryz.prog 50 c50 [.t 4] := mkA (fn := Tryz.f50) (c := Tryz.f50.body.getD .skip) (fz := []) (im := []) kp50 (by kernel_rfl) (by kernel_rfl) (by kernel_rfl) (by kernel_rfl) (by kernel_rfl)
def kp51 (r : Nat) : List Nat := match r with
  | 0 => []
  | _ => []
def c51 : ACode :=
(rg [ om 2 0, om 3 0, ov 4 (.fn (.func 89) [(tm 3)] []), oe 5 88 [(tm 2), (tm 4), (.c (.str [43])), (ci 3), (.c (.str [45])), (ci 4)]] [])
theorem a51 : AOf Tryz.prog 51 c51 [] := mkA (fn := Tryz.f51) (c := Tryz.f51.body.getD .skip) (fz := []) (im := [(0, 3)]) kp51 (by kernel_rfl) (by kernel_rfl) (by kernel_rfl) (by kernel_rfl) (by kernel_rfl)
def kp52 (r : Nat) : List Nat := match r with
  | 0 => [0, 7]
  | 1 => [0]
  | 2 => []
  | _ => []
def c52 : ACode :=
(sq (sq (rg [ om 4 0, om 5 1, oc 6 50 [(tm 4), (tm 5)], ot 7 6] [0, 7]) (.cond (tm 7) (rg [ om 8 0, ov 9 (.nilc (tm 8)), of 10 1 9, ol 11 10, ov 12
 (.ifc 46 (tm 11)), ⟨none, none, .pan (tm 12)⟩] [0]) .skip)) (rg [ om 13 0, ov 14 (.nilc (tm 13)), of 15 1 14, ol 16 15, ov 17 (.arith .add .i64 (tm
 16) (ci 1)), ov 18 (.nilc (tm 13)), of 19 1 18, ⟨none, none, .st 1 (tm 19) (tm 17)⟩] []))
theorem a52 : AOf Tryz.prog 52 c52 [] := mkA (fn := Tryz.f52) (c := Tryz.f52.body.getD .skip) (fz := []) (im := []) kp52 (by kernel_rfl) (by kernel_rfl) (by kernel_rfl) (by kernel_rfl) (by kernel_rfl)
def kp53 (r : Nat) : List Nat := match r with
  | 0 => []
  | _ => []
def c53 : ACode :=
(.reg 13 [ om 6 0, om 7 0, ov 8 (.nilc (tm 7)), of 9 2 8, ol 10 9, om 11 1, om 12 2, ov 13 (.build [z0, z0] [(0, 1, (tm 11)), (1, 1, (tm 12))]), ov 14
 (.bs 2 1 (.agg [z0, z0]) [(0, (tm 13))]), ⟨some 15, none, .app 9 2 16 (tm 10) (tm 14) false⟩, ov 16 (.nilc (tm 6)), of 17 2 16, ⟨none, none, .st 1 (tm
 17) (tm 15)⟩] [])
theorem a53 : AOf Tryz.prog 53 c53 [] := mkA (fn := Tryz.f53) (c := Tryz.f53.body.getD .skip) (fz := []) (im := []) kp53 (by kernel_rfl) (by kernel_rfl) (by kernel_rfl) (by kernel_rfl) (by kernel_rfl)
def kp88 (r : Nat) : List Nat := match r with
  | 0 => [0, 1, 2, 3, 4, 5]
  | 1 => [0, 1, 2, 3, 4, 5, 22]
  | 2 => [0, 1, 2, 3, 4, 5, 12]
  | 3 => [0, 1, 2, 3, 4, 5, 12, 26]
  | 4 => [0, 1, 2, 3, 4, 5, 12]
  | 5 => [0, 1, 2, 3, 4, 5, 12]
  | 6 => [0, 1, 2, 3, 4, 5, 12]
  | 7 => [0, 1, 2, 3, 4, 5]
  | _ => []
def c88 : ACode :=
(sq (rg [ om 13 1, ⟨some 14, none, .call false (tm 13) []⟩] [0, 1, 2, 3, 4, 5]) (.block 0 (.loop (sq (sq (rg [ om 15 0, om 16 2, oc 17 50 [(tm 15), (tm
 16)], om 18 17, gm 19 18 false 0, gm 20 18 false 4, ⟨some 21, some (18, false), .call true (.c (.fn (.func 50) [] [])) [(tm 19), (tm 20)]⟩, oz 22 18
 21] [0, 1, 2, 3, 4, 5, 22]) (.cond (tm 22) .skip (.exit 0))) (.block 1 (sq (rg [ om 23 3, om 12 23] [0, 1, 2, 3, 4, 5, 12]) (sq (sq (rg [ om 24 0, om
 25 4, oc 26 50 [(tm 24), (tm 25)]] [0, 1, 2, 3, 4, 5, 12, 26]) (.cond (tm 26) (rg [ om 27 5, om 12 27] [0, 1, 2, 3, 4, 5, 12]) .skip)) (sq (rg [ om 28
 0, ov 29 (.nilc (tm 28)), of 30 1 29, ol 31 30, ov 32 (.arith .add .i64 (tm 31) (ci 1)), ov 33 (.nilc (tm 28)), of 34 1 33, ⟨none, none, .st 1 (tm 34)
 (tm 32)⟩] [0, 1, 2, 3, 4, 5, 12]) (sq (rg [ om 35 1, ⟨some 36, none, .call false (tm 35) []⟩] [0, 1, 2, 3, 4, 5, 12]) (rg [ om 37 0, om 38 12, oe 39
 53 [(tm 37), (tm 38), (ci 0)]] [0, 1, 2, 3, 4, 5]))))))))))
theorem a88 : AOf Tryz.prog 88 c88 [] := mkA (fn := Tryz.f88) (c := Tryz.f88.body.getD .skip) (fz := []) (im := [(0, 1), (6, 1), (7, 2)]) kp88 (by kernel_rfl) (by kernel_rfl) (by kernel_rfl) (by kernel_rfl) (by kernel_rfl)
def kp89 (r : Nat) : List Nat := match r with
  | 0 => []
  | _ => []
def c89 : ACode :=
(rg [ om 2 0, om 3 0, ov 4 (.fn (.func 107) [(tm 3)] []), oe 5 88 [(tm 2), (tm 4), (.c (.str [42])), (ci 5), (.c (.str [47])), (ci 6)]] [])
theorem a89 : AOf Tryz.prog 89 c89 [] := mkA (fn := Tryz.f89) (c := Tryz.f89.body.getD .skip) (fz := []) (im := [(0, 3)]) kp89 (by kernel_rfl) (by kernel_rfl) (by kernel_rfl) (by kernel_rfl) (by kernel_rfl)
def kp23 (r : Nat) : List Nat := match r with
  | 0 => [0, 6]
  | 1 => []
  | 2 => [0]
  | 3 => [0, 25, 26, 27]
  | 4 => [0, 25, 26, 27, 28]
  | 5 => [0, 3, 25, 26, 27]
  | 6 => [0, 3, 25, 26, 27]
  | 7 => [0, 3, 25, 26, 27]
  | 8 => [0, 25, 26, 27, 40]
  | 9 => [0, 25, 26, 27]
  | 10 => [0, 25, 26, 27]
  | 11 => [0]
  | 12 => []
  | _ => []
def c23 : ACode :=
(sq (sq (rg [ om 4 0, oc 5 50 [(tm 4), (.c (.str [105, 102]))], ot 6 5] [0, 6]) (.cond (tm 6) (sq (rg [ om 7 0, oe 8 51 [(tm 7)]] []) .ret) .skip)) (sq
 (rg [ om 9 0, ov 10 (.nilc (tm 9)), of 11 1 10, ol 12 11, ov 13 (.arith .add .i64 (tm 12) (ci 1)), ov 14 (.nilc (tm 9)), of 15 1 14, ⟨none, none, .st
 1 (tm 15) (tm 13)⟩] [0]) (sq (sq (rg [ om 16 0, ov 17 (.fn (.func 51) [(tm 16)] []), ov 18 (.build [.nilfn, zr] [(0, 1, (tm 17)), (1, 1, (.c (.str
 [60])))]), om 19 0, ov 20 (.fn (.func 51) [(tm 19)] []), ov 21 (.build [.nilfn, zr] [(0, 1, (tm 20)), (1, 1, (.c (.str [116, 104, 101, 110])))]), om
 22 0, ov 23 (.fn (.func 23) [(tm 22)] []), ov 24 (.build [.nilfn, zr] [(0, 1, (tm 23)), (1, 1, (.c (.str [101, 108, 115, 101])))]), ov 25 (.bs 2 3
 (.agg [.nilfn, zr]) [(0, (tm 18)), (1, (tm 21)), (2, (tm 24))]), on 26 25, oi 27 0] [0, 25, 26, 27]) (.block 0 (.loop (sq (rg [ ov 28 (.icmp .lss .i64
 (tm 27) (tm 26))] [0, 25, 26, 27, 28]) (sq (.cond (tm 28) .skip (.exit 0)) (sq (.block 1 (sq (.reg 4 [ oa 29 2 25 27, ov 30 (.ld 2 true (tm 29)),
 ⟨some 3, none, .alloc 2 [.nilfn, zr]⟩, ⟨none, none, .st 2 (tm 3) (tm 30)⟩] [0, 3, 25, 26, 27]) (sq (rg [ of 31 0 3, ol 32 31, ⟨some 33, none, .call
 false (tm 32) []⟩] [0, 3, 25, 26, 27]) (sq (rg [ om 34 0, of 35 1 3, ol 36 35, oe 37 52 [(tm 34), (tm 36)]] [0, 3, 25, 26, 27]) (sq (rg [ of 38 1 3,
 ol 39 38, ov 40 (.scmp .eql (tm 39) (.c (.str [116, 104, 101, 110])))] [0, 25, 26, 27, 40]) (.cond (tm 40) (rg [ om 41 0, oe 42 53 [(tm 41), (ci 9),
 (ci 0)]] [0, 25, 26, 27]) .skip)))))) (rg [ ov 43 (.arith .add .i64 (tm 27) (ci 1)), om 27 43] [0, 25, 26, 27]))))))) (sq (rg [ om 44 0, oe 45 23 [(tm
 44)]] [0]) (rg [ om 46 0, oe 47 53 [(tm 46), (ci 10), (ci 0)]] [])))))
theorem a23 : AOf Tryz.prog 23 c23 [] := mkA (fn := Tryz.f23) (c := Tryz.f23.body.getD .skip) (fz := []) (im := [(1, 1), (6, 2), (7, 3), (9, 1), (11, 1), (12, 1)]) kp23 (by kernel_rfl) (by kernel_rfl) (by kernel_rfl) (by kernel_rfl) (by kernel_rfl)
def kp107 (r : Nat) : List Nat := match r with
  | 0 => [0, 41]
  | 1 => [0]
  | 2 => []
  | 3 => [0, 2]
  | 4 => [0, 2, 67]
  | 5 => [0]
  | 6 => []
  | 10 => [0, 84]
  | 11 => [0, 84]
  | 12 => [0, 3]
  | 13 => [0, 3, 90]
  | 14 => [0, 3]
  | 15 => [0, 3]
  | 16 => [0, 3]
  | 17 => [0, 3]
  | 18 => [0, 3]
  | 19 => [0, 3]
  | 20 => [0, 3]
  | 21 => []
  | 7 => [0]
  | 8 => [0]
  | 9 => []
  | _ => []
def c107 : ACode :=
(sq (sq (rg [ om 4 0, ov 5 (.nilc (tm 4)), of 6 1 5, ol 7 6, om 8 0, ov 9 (.nilc (tm 8)), of 10 0 9, ol 11 10, on 12 11, ov 13 (.icmp .lss .i64 (tm 7)
 (tm 12)), om 14 13, gm 15 14 true 0, gv 16 14 true (.nilc (tm 15)), gf 17 14 true 0 16, gl 18 14 true 17, gm 19 14 true 0, gv 20 14 true (.nilc (tm
 19)), gf 21 14 true 1 20, gl 22 14 true 21, ga 23 14 true 4 18 22, gf 24 14 true 0 23, gl 25 14 true 24, gv 26 14 true (.icmp .eql .i64 (tm 25) (ci
 2)), oy 27 14 26, om 28 27, gm 29 28 true 0, gv 30 28 true (.nilc (tm 29)), gf 31 28 true 0 30, gl 32 28 true 31, gm 33 28 true 0, gv 34 28 true
 (.nilc (tm 33)), gf 35 28 true 1 34, gl 36 28 true 35, ga 37 28 true 4 32 36, gf 38 28 true 2 37, gl 39 28 true 38, gv 40 28 true (.icmp .leq .i64 (tm
 39) (ci 1048576)), oy 41 28 40] [0, 41]) (.cond (tm 41) (sq (rg [ om 42 0, om 43 0, ov 44 (.nilc (tm 43)), of 45 0 44, ol 46 45, om 47 0, ov 48 (.nilc
 (tm 47)), of 49 1 48, ol 50 49, oa 51 4 46 50, of 52 2 51, ol 53 52, oe 54 53 [(tm 42), (ci 1), (tm 53)]] [0]) (sq (rg [ om 55 0, ov 56 (.nilc (tm
 55)), of 57 1 56, ol 58 57, ov 59 (.arith .add .i64 (tm 58) (ci 1)), ov 60 (.nilc (tm 55)), of 61 1 60, ⟨none, none, .st 1 (tm 61) (tm 59)⟩] [])
 .ret)) .skip)) (sq (sq (rg [ oc 62 30 [], om 63 0, ov 64 (.fn (.func 50) [(tm 63)] []), oc 65 119 [(tm 62), (tm 64)], om 2 65] [0, 2]) (sq (rg [ om 66
 2, ov 67 (.icmp .geq .i64 (tm 66) (ci 0))] [0, 2, 67]) (.cond (tm 67) (sq (rg [ om 68 0, om 69 2, oe 70 53 [(tm 68), (ci 2), (tm 69)]] [0]) (sq (rg [
 om 71 0, ov 72 (.nilc (tm 71)), of 73 1 72, ol 74 73, ov 75 (.arith .add .i64 (tm 74) (ci 1)), ov 76 (.nilc (tm 71)), of 77 1 76, ⟨none, none, .st 1
 (tm 77) (tm 75)⟩] []) .ret)) .skip))) (.block 0 (sq (sq (rg [ om 85 0, oc 86 50 [(tm 85), (.c (.str [109, 105, 110]))], om 84 86] [0, 84]) (.cond (tm
 84) .skip (rg [ om 87 0, oc 88 50 [(tm 87), (.c (.str [109, 97, 120]))], om 84 88] [0, 84]))) (.cond (tm 84) (sq (rg [ oi 3 7] [0, 3]) (sq (sq (rg [
 om 89 0, oc 90 50 [(tm 89), (.c (.str [109, 97, 120]))]] [0, 3, 90]) (.cond (tm 90) (rg [ oi 3 8] [0, 3]) .skip)) (sq (rg [ om 91 0, ov 92 (.nilc (tm
 91)), of 93 1 92, ol 94 93, ov 95 (.arith .add .i64 (tm 94) (ci 1)), ov 96 (.nilc (tm 91)), of 97 1 96, ⟨none, none, .st 1 (tm 97) (tm 95)⟩] [0, 3])
 (sq (rg [ om 98 0, oe 99 52 [(tm 98), (.c (.str [40]))]] [0, 3]) (sq (rg [ om 100 0, oe 101 23 [(tm 100)]] [0, 3]) (sq (rg [ om 102 0, oe 103 52 [(tm
 102), (.c (.str [44]))]] [0, 3]) (sq (rg [ om 104 0, oe 105 23 [(tm 104)]] [0, 3]) (sq (rg [ om 106 0, oe 107 52 [(tm 106), (.c (.str [41]))]] [0, 3])
 (rg [ om 108 0, om 109 3, oe 110 53 [(tm 108), (tm 109), (ci 0)]] []))))))))) (sq (rg [ om 78 0, oe 79 52 [(tm 78), (.c (.str [40]))]] [0]) (sq (rg [
 om 80 0, oe 81 23 [(tm 80)]] [0]) (rg [ om 82 0, oe 83 52 [(tm 82), (.c (.str [41]))]] []))))))))
theorem a107 : AOf Tryz.prog 107 c107 [] := mkA (fn := Tryz.f107) (c := Tryz.f107.body.getD .skip) (fz := []) (im := [(1, 12), (5, 2), (7, 1), (8, 1), (9, 1), (16, 1), (17, 1), (18, 1), (19, 1), (20, 1), (21, 2)]) kp107 (by kernel_rfl) (by kernel_rfl) (by kernel_rfl) (by kernel_rfl) (by kernel_rfl)
def kp30 (r : Nat) : List Nat := match r with
  | 0 => []
  | 1 => [0]
  | _ => []
def c30 : ACode :=
(sq (rg [ ov 0 (.mv (.c zs))] []) (sq (rg [ ov 1 (.bs 1 5 zr [(0, (.c (.str [112, 108, 97, 99, 101]))), (1, (.c (.str [115, 111, 108, 118, 101, 114,
 115]))), (2, (.c (.str [108, 101, 118, 101, 108]))), (3, (.c (.str [99, 108, 117, 101, 115]))), (4, (.c (.str [116, 114, 105, 101, 115])))]), om 0 1]
 [0]) .ret))
theorem a30 : AOf Tryz.prog 30 c30 [.t 0] := mkA (fn := Tryz.f30) (c := Tryz.f30.body.getD .skip) (fz := []) (im := []) kp30 (by kernel_rfl) (by kernel_rfl) (by kernel_rfl) (by kernel_rfl) (by kernel_rfl)
def kp119 (r : Nat) : List Nat := match r with
  | 0 => [0, 1]
  | 1 => [0, 1, 7, 8]
  | 2 => [0, 1, 7, 8, 9]
  | 3 => [0, 1, 5, 7, 8]
  | 4 => [0, 1, 5, 7, 8, 16]
  | 5 => [4]
  | 6 => [0, 1, 7, 8]
  | 7 => [4]
  | _ => []
def c119 : ACode :=
(sq (rg [ oi 4 0] [0, 1]) (sq (sq (rg [ om 6 0, on 7 6, oi 8 0] [0, 1, 7, 8]) (.block 0 (.loop (sq (rg [ ov 9 (.icmp .lss .i64 (tm 8) (tm 7))] [0, 1,
 7, 8, 9]) (sq (.cond (tm 9) .skip (.exit 0)) (sq (.block 1 (sq (rg [ om 10 8, om 5 10] [0, 1, 5, 7, 8]) (sq (rg [ om 11 1, om 12 0, om 13 5, oa 14 1
 12 13, ol 15 14, ⟨some 16, none, .call true (tm 11) [(tm 15)]⟩] [0, 1, 5, 7, 8, 16]) (.cond (tm 16) (sq (rg [ om 17 5, om 4 17] [4]) .ret) .skip))))
 (rg [ ov 18 (.arith .add .i64 (tm 8) (ci 1)), om 8 18] [0, 1, 7, 8]))))))) (sq (rg [ oi 4 (-1)] [4]) .ret)))
theorem l119 : Callable Tryz.prog 119 := ⟨Tryz.f119, by kernel_rfl, by kernel_rfl, by kernel_rfl⟩
theorem a119 : AOf Tryz.prog 119 c119 [.t 4] := mkA (fn := Tryz.f119) (c := Tryz.f119.body.getD .skip) (fz := []) (im := []) kp119 (by kernel_rfl) (by kernel_rfl) (by kernel_rfl) (by kernel_rfl) (by kernel_rfl)
end Go.AM
end
section
set_option maxRecDepth 20000
set_option linter.all false
namespace Go.AM
open Go.Proofs
def kp22 (r : Nat) : List Nat := match r with
  | 0 => [0, 1, 2, 3, 4, 5]
  | 1 => [0, 1, 2, 3, 4, 5, 9]
  | 2 => [2, 4, 5]
  | 3 => [2, 4, 6]
  | 4 => [2, 4, 6, 17]
  | 5 => []
  | _ => []
def c22 : ACode :=
(sq (rg [ om 8 5, ⟨some 9, none, .ext (.nileq 0 true) [(tm 8)]⟩] [0, 1, 2, 3, 4, 5, 9]) (.cond (tm 9) (sq (rg [ ol 10 0, ov 11 (.lenS (tm 10)), ⟨none,
 none, .st 1 (tm 1) (.c zs)⟩, ⟨none, none, .st 1 (tm 2) (tm 11)⟩, ⟨none, none, .st 1 (tm 3) (ci 150)⟩] [2, 4, 5]) (sq (rg [ om 12 5, ⟨some 13, none,
 .ext (.tas 46 false z0) [(tm 12)]⟩, om 6 13] [2, 4, 6]) (sq (rg [ om 14 6, ol 15 4, on 16 15, ov 17 (.icmp .lss .i64 (tm 14) (tm 16))] [2, 4, 6, 17])
 (.cond (tm 17) (rg [ ol 18 4, om 19 6, oa 20 4 18 19, of 21 3 20, ol 22 21, ⟨none, none, .st 1 (tm 2) (tm 22)⟩] []) .skip)))) .skip))
theorem l22 : Callable Tryz.prog 22 := ⟨Tryz.f22, by kernel_rfl, by kernel_rfl, by kernel_rfl⟩
theorem a22 {args : List AVal} {rv : AVal} {H : AHeap} {n : Nat} {Rc : AHeap → Nat → Prop} (h : awp Tryz.prog c22 (postC [] fun o H' n' => o = .ret (.tup []) ∧ Rc H' n') ⟨(5, true, rv) :: (7, true, rv) :: penv 0 args, H, n⟩) : ADefer Tryz.prog 22 args rv H n Rc :=
  adefer_of' (id := 0) (fn := Tryz.f22) (ops := regOps (sqH (Tryz.f22.body.getD .skip))) (X := sqT (Tryz.f22.body.getD .skip)) (y := c22) (fz := []) (im := []) (kp := kp22) (t3 := 5) (t4 := 7) (by kernel_rfl) (by kernel_rfl) (by kernel_rfl) (by kernel_rfl) (by kernel_rfl) (by kernel_rfl) h
def kp11 (r : Nat) : List Nat := match r with
  | 0 => [1, 2, 3, 4]
  | 1 => [1, 2, 3, 4, 5]
  | 2 => [1, 2, 3, 4, 5, 14]
  | 3 => [2, 3, 4]
  | 4 => [2, 3, 4, 5]
  | 5 => [2, 3, 4, 5, 6]
  | 6 => [2, 3, 4, 5, 6]
  | 7 => [2, 3, 4, 6, 29]
  | 8 => [2, 3, 4, 6]
  | 9 => [2, 3, 4, 6, 40]
  | 10 => [2, 3, 4]
  | 11 => [2, 3, 4]
  | _ => []
def c11_0 : ACode :=
  (.reg 4 [
    ⟨some 1, none, .box 0 1 (.t 0)⟩,
    ⟨some 2, none, .alloc 1 [(.sl .nil [])]⟩,
    ⟨some 3, none, .alloc 2 [(.int .i64 0)]⟩,
    ⟨some 4, none, .alloc 3 [(.int .i64 0)]⟩] [1, 2, 3, 4])
def c11_1 : ACode :=
  (.reg 10 [
    ⟨some 8, none, .v (.ld 1 false (.t 1))⟩,
    ⟨some 9, none, .call true (.c (.fn (.func 21) [] [])) [(.t 8)]⟩,
    ⟨some 7, none, .v (.mv (.t 9))⟩,
    ⟨some 10, none, .v (.ext 0 (.t 7))⟩,
    ⟨some 11, none, .v (.ext 1 (.t 7))⟩,
    ⟨some 12, none, .v (.ext 2 (.t 7))⟩,
    ⟨some 5, none, .alloc 6 [(.sl .nil [])]⟩,
    ⟨none, none, .st 1 (.t 5) (.t 10)⟩,
    ⟨none, none, .st 1 (.t 3) (.t 11)⟩,
    ⟨none, none, .st 1 (.t 4) (.t 12)⟩] [1, 2, 3, 4, 5])
def c11_2 : ACode :=
  (.seq
   (.reg 0 [
     ⟨some 13, none, .v (.ld 1 false (.t 4))⟩,
     ⟨some 14, none, .v (.icmp .neq .i64 (.t 13) (.c (.int .i64 0)))⟩] [1, 2, 3, 4, 5, 14])
   (.cond (.t 14)
    (.seq
     (.regx 0 [
       (15, ⟨some 15, none, .v (.ld 1 false (.t 3))⟩),
       (14, ⟨some 16, none, .v (.ld 1 false (.t 4))⟩),
       (16, ⟨none, none, .st 1 (.t 2) (.c (.sl .nil []))⟩),
       (15, ⟨none, none, .st 1 (.t 3) (.t 15)⟩),
       (14, ⟨none, none, .st 1 (.t 4) (.t 16)⟩)] [2, 3, 4])
     .ret)
    .skip))
def c11 : ACode :=
(sq (.reg 4 [ ol 18 5, ov 19 (.build [zs, z0, zs] [(0, 1, (tm 18))]), ⟨some 20, none, .box 2 3 (tm 19)⟩, om 6 20] [2, 3, 4, 5, 6]) (sq (rg [ om 21 6,
 oe 22 23 [(tm 21)]] [2, 3, 4, 5, 6]) (sq (sq (rg [ om 23 6, ov 24 (.nilc (tm 23)), of 25 1 24, ol 26 25, ol 27 5, on 28 27, ov 29 (.icmp .lss .i64 (tm
 26) (tm 28))] [2, 3, 4, 6, 29]) (.cond (tm 29) (rg [ om 30 6, ov 31 (.nilc (tm 30)), of 32 1 31, ol 33 32, ov 34 (.ifc 46 (tm 33)), ⟨none, none, .pan
 (tm 34)⟩] [2, 3, 4, 6]) .skip)) (sq (sq (rg [ om 35 6, ov 36 (.nilc (tm 35)), of 37 2 36, ol 38 37, on 39 38, ov 40 (.icmp .gtr .i64 (tm 39) (ci
 256))] [2, 3, 4, 6, 40]) (.cond (tm 40) (sq (rg [ ⟨none, none, .st 1 (tm 2) (.c zs)⟩, ⟨none, none, .st 1 (tm 3) (ci 0)⟩, ⟨none, none, .st 1 (tm 4) (ci
 2)⟩] [2, 3, 4]) .ret) .skip)) (sq (rg [ om 41 6, ov 42 (.nilc (tm 41)), of 43 2 42, ol 44 43, ⟨none, none, .st 1 (tm 2) (tm 44)⟩, ⟨none, none, .st 1
 (tm 3) (ci 0)⟩, ⟨none, none, .st 1 (tm 4) (ci 0)⟩] [2, 3, 4]) .ret)))))
theorem a11 {args : List AVal} {H : AHeap} {n : Nat} {R : AOut → AHeap → Nat → Prop} (h : awp Tryz.prog (aspine [c11_0, c11_1, c11_2]) (postD Tryz.prog 17 ⟨(some 17), none, .v (.fn (.func 22) [] [(.t 1), (.t 2), (.t 3), (.t 4), (.t 5)])⟩ c11 5 22 [.c 2 1 false, .c 3 1 false, .c 4 1 false] R) ⟨penv 0 args, H, n⟩) : ACalls Tryz.prog 11 args H n R :=
  acalls_defer' (id := 4) (fn := Tryz.f11) (pre := [sqH (Tryz.f11.body.getD .skip), sqH (sqT (Tryz.f11.body.getD .skip)), sqH (sqT (sqT (Tryz.f11.body.getD .skip)))]) (ys := [c11_0, c11_1, c11_2]) (ops := regOps (sqH (sqT (sqT (sqT (Tryz.f11.body.getD .skip)))))) (X := (sqT (sqT (sqT (sqT (Tryz.f11.body.getD .skip)))))) (y := c11) (fz := [(700002, 13), (700003, 12), (700004, 11)]) (fzX := [(999999, 5), (700002, 13), (700003, 12), (700004, 11)]) (im := [(6, 1)]) (kp := kp11) (rs := [.c 2 1 false, .c 3 1 false, .c 4 1 false]) (d0 := (some 17)) (k := .fn (.func 22) [] [(.t 1), (.t 2), (.t 3), (.t 4), (.t 5)]) (t := 17) (by kernel_rfl) (by kernel_rfl) (by kernel_rfl) (by kernel_rfl) (by kernel_rfl) (by kernel_rfl) (by kernel_rfl) (by kernel_rfl) (by kernel_rfl) l22 h
end Go.AM
end
section
set_option maxRecDepth 20000
set_option linter.all false
namespace Go.AM
open Go.Proofs
def kp61 (r : Nat) : List Nat := match r with
  | 0 => [0, 1, 2]
  | 1 => [6]
  | _ => []
def c61 : ACode :=
(sq (rg [ ob 6 false] [0, 1, 2]) (sq (rg [ om 7 1, om 8 0, on 9 8, ov 10 (.icmp .lss .i64 (tm 7) (tm 9)), om 11 10, gm 12 11 true 0, gm 13 11 true 1,
 ga 14 11 true 4 12 13, gf 15 11 true 0 14, gl 16 11 true 15, gv 17 11 true (.icmp .neq .i64 (tm 16) (ci 2)), oy 18 11 17, om 19 18, gm 20 19 true 0,
 gm 21 19 true 1, ga 22 19 true 4 20 21, gf 23 19 true 1 22, gl 24 19 true 23, gm 25 19 true 2, gv 26 19 true (.scmp .eql (tm 24) (tm 25)), oy 27 19
 26, om 6 27] [6]) .ret))
theorem a61 : AOf Tryz.prog 61 c61 [.t 6] := mkA (fn := Tryz.f61) (c := Tryz.f61.body.getD .skip) (fz := []) (im := []) kp61 (by kernel_rfl) (by kernel_rfl) (by kernel_rfl) (by kernel_rfl) (by kernel_rfl)
def kp63 (r : Nat) : List Nat := match r with
  | 0 => [0]
  | 1 => [2]
  | _ => []
def c63 : ACode :=
(sq (rg [ ov 2 (.mv (.c zs))] [0]) (sq (rg [ om 3 0, ov 4 (.build [z0, z0] [(0, 1, (tm 3))]), ov 5 (.bs 2 1 (.agg [z0, z0]) [(0, (tm 4))]), om 2 5]
 [2]) .ret))
theorem a63 : AOf Tryz.prog 63 c63 [.t 2] := mkA (fn := Tryz.f63) (c := Tryz.f63.body.getD .skip) (fz := []) (im := []) kp63 (by kernel_rfl) (by kernel_rfl) (by kernel_rfl) (by kernel_rfl) (by kernel_rfl)
def kp99 (r : Nat) : List Nat := match r with
  | 0 => []
  | 1 => [0]
  | _ => []
def c99 : ACode :=
(sq (rg [ ov 0 (.mv (.c zs))] []) (sq (rg [ ov 1 (.bs 1 5 zr [(0, (.c (.str [112, 108, 97, 99, 101]))), (1, (.c (.str [115, 111, 108, 118, 101, 114,
 115]))), (2, (.c (.str [108, 101, 118, 101, 108]))), (3, (.c (.str [99, 108, 117, 101, 115]))), (4, (.c (.str [116, 114, 105, 101, 115])))]), om 0 1]
 [0]) .ret))
theorem a99 : AOf Tryz.prog 99 c99 [.t 0] := mkA (fn := Tryz.f99) (c := Tryz.f99.body.getD .skip) (fz := []) (im := []) kp99 (by kernel_rfl) (by kernel_rfl) (by kernel_rfl) (by kernel_rfl) (by kernel_rfl)
def kp26 (r : Nat) : List Nat := match r with
  | 0 => [0, 1, 2]
  | 1 => [0, 1, 2, 10]
  | 2 => [6]
  | 3 => [6]
  | _ => []
def c26 : ACode :=
(sq (rg [ oi 6 0] [0, 1, 2]) (sq (sq (rg [ om 7 2, om 8 1, on 9 8, ov 10 (.icmp .geq .i64 (tm 7) (tm 9))] [0, 1, 2, 10]) (.cond (tm 10) (sq (rg [ om 11
 0, ov 12 (.lenS (tm 11)), om 6 12] [6]) .ret) .skip)) (sq (rg [ om 13 1, om 14 2, oa 15 4 13 14, of 16 3 15, ol 17 16, om 6 17] [6]) .ret)))
theorem a26 : AOf Tryz.prog 26 c26 [.t 6] := mkA (fn := Tryz.f26) (c := Tryz.f26.body.getD .skip) (fz := []) (im := []) kp26 (by kernel_rfl) (by kernel_rfl) (by kernel_rfl) (by kernel_rfl) (by kernel_rfl)
def kp12 (r : Nat) : List Nat := match r with
  | 0 => [0]
  | 1 => [0, 5, 6, 7]
  | 2 => [0, 5, 6, 7, 18]
  | 3 => [2, 3, 4]
  | 4 => [0, 5, 8, 9, 10]
  | 5 => [0, 5, 8, 9, 34]
  | 6 => [2, 3, 4]
  | 7 => [8, 41]
  | 8 => [2, 3, 4]
  | 9 => [2, 3, 4]
  | _ => []
def c12 : ACode :=
(sq (rg [ ov 2 (.mv (.c zs)), oi 3 0, oi 4 0] [0]) (sq (rg [ om 12 0, oc 13 24 [(tm 12)], om 11 13, ox 14 0 11, ox 15 1 11, ox 16 2 11, om 5 14, om 6
 15, om 7 16] [0, 5, 6, 7]) (sq (sq (rg [ om 17 7, ov 18 (.icmp .neq .i64 (tm 17) (ci 0))] [0, 5, 6, 7, 18]) (.cond (tm 18) (sq (rg [ om 19 6, om 20 7,
 ov 2 (.mv (.c zs)), om 3 19, om 4 20] [2, 3, 4]) .ret) .skip)) (sq (rg [ om 22 5, oc 23 25 [(tm 22), (ci 0)], om 21 23, ox 24 0 21, ox 25 1 21, ox 26
 2 21, om 8 24, om 9 25, om 10 26] [0, 5, 8, 9, 10]) (sq (sq (rg [ om 27 10, ot 28 27, om 29 28, gm 30 29 false 9, gm 31 29 false 5, gv 32 29 false
 (.len (tm 31)), gv 33 29 false (.icmp .neq .i64 (tm 30) (tm 32)), oz 34 29 33] [0, 5, 8, 9, 34]) (.cond (tm 34) (sq (rg [ om 35 0, om 36 5, om 37 9,
 oc 38 26 [(tm 35), (tm 36), (tm 37)], ov 2 (.mv (.c zs)), om 3 38, oi 4 150] [2, 3, 4]) .ret) .skip)) (sq (sq (rg [ om 39 8, on 40 39, ov 41 (.icmp
 .gtr .i64 (tm 40) (ci 256))] [8, 41]) (.cond (tm 41) (sq (rg [ ov 2 (.mv (.c zs)), oi 3 0, oi 4 2] [2, 3, 4]) .ret) .skip)) (sq (rg [ om 42 8, om 2
 42, oi 3 0, oi 4 0] [2, 3, 4]) .ret)))))))
theorem a12 : AOf Tryz.prog 12 c12 [.t 2, .t 3, .t 4] := mkA (fn := Tryz.f12) (c := Tryz.f12.body.getD .skip) (fz := []) (im := []) kp12 (by kernel_rfl) (by kernel_rfl) (by kernel_rfl) (by kernel_rfl) (by kernel_rfl)
def kp13 (r : Nat) : List Nat := match r with
  | 0 => [0, 1]
  | 1 => [0, 1, 10]
  | 2 => [4]
  | 3 => [0, 1, 5]
  | 4 => [0, 1, 5, 14]
  | 6 => [0, 1, 5, 25]
  | 7 => [4]
  | 5 => [0, 1, 5]
  | 8 => [4]
  | _ => []
def c13 : ACode :=
(sq (rg [ ob 4 false] [0, 1]) (sq (sq (rg [ om 6 0, on 7 6, om 8 1, on 9 8, ov 10 (.icmp .neq .i64 (tm 7) (tm 9))] [0, 1, 10]) (.cond (tm 10) (sq (rg [
 ob 4 false] [4]) .ret) .skip)) (sq (sq (rg [ oi 5 0] [0, 1, 5]) (.block 0 (.loop (sq (sq (rg [ om 11 5, om 12 0, on 13 12, ov 14 (.icmp .lss .i64 (tm
 11) (tm 13))] [0, 1, 5, 14]) (.cond (tm 14) .skip (.exit 0))) (sq (.block 1 (sq (rg [ om 17 0, om 18 5, oa 19 2 17 18, ov 20 (.ld 2 true (tm 19)), om
 21 1, om 22 5, oa 23 2 21 22, ov 24 (.ld 2 true (tm 23)), ov 25 (.aeq true [0, 0] (tm 20) (tm 24))] [0, 1, 5, 25]) (.cond (tm 25) (sq (rg [ ob 4
 false] [4]) .ret) .skip))) (rg [ om 15 5, ov 16 (.arith .add .i64 (tm 15) (ci 1)), om 5 16] [0, 1, 5])))))) (sq (rg [ ob 4 true] [4]) .ret))))
theorem a13 : AOf Tryz.prog 13 c13 [.t 4] := mkA (fn := Tryz.f13) (c := Tryz.f13.body.getD .skip) (fz := []) (im := []) kp13 (by kernel_rfl) (by kernel_rfl) (by kernel_rfl) (by kernel_rfl) (by kernel_rfl)
def kp25 (r : Nat) : List Nat := match r with
  | 0 => [0, 1]
  | 1 => [0, 1, 26]
  | 2 => [7, 8, 9]
  | 3 => [4, 5, 6]
  | 4 => [0, 10, 11, 12]
  | 5 => [0, 10, 11, 52]
  | 6 => [4, 5, 6]
  | 7 => [0, 10, 13, 14, 15]
  | 8 => [0, 10, 13, 14, 69]
  | 9 => [4, 5, 6]
  | 10 => [0, 10, 13, 16, 17, 18]
  | 11 => [0, 10, 13, 16, 17, 86]
  | 12 => [4, 5, 6]
  | 13 => [10, 13, 16, 19, 20, 21]
  | 14 => [10, 13, 16, 19, 20, 97]
  | 15 => [4, 5, 6]
  | 16 => [16, 19, 20, 22]
  | 17 => [4, 5, 6]
  | _ => []
def c25 : ACode :=
(sq (rg [ ov 4 (.mv (.c zs)), oi 5 0, ob 6 false] [0, 1]) (sq (sq (rg [ om 23 0, om 24 1, oc 25 61 [(tm 23), (tm 24), (.c (.str [105, 102]))], ot 26
 25] [0, 1, 26]) (.cond (tm 26) (sq (rg [ om 28 0, om 29 1, oc 30 62 [(tm 28), (tm 29)], om 27 30, ox 31 0 27, ox 32 1 27, ox 33 2 27, om 7 31, om 8
 32, om 9 33] [7, 8, 9]) (sq (rg [ om 34 7, om 35 8, om 36 9, om 4 34, om 5 35, om 6 36] [4, 5, 6]) .ret)) .skip)) (sq (rg [ om 38 0, om 39 1, ov 40
 (.arith .add .i64 (tm 39) (ci 1)), oc 41 62 [(tm 38), (tm 40)], om 37 41, ox 42 0 37, ox 43 1 37, ox 44 2 37, om 10 42, om 11 43, om 12 44] [0, 10,
 11, 12]) (sq (sq (rg [ om 45 12, ot 46 45, om 47 46, gm 48 47 false 0, gm 49 47 false 11, ⟨some 50, some (47, false), .call true (.c (.fn (.func 61)
 [] [])) [(tm 48), (tm 49), (.c (.str [60]))]⟩, gv 51 47 false (.not (tm 50)), oz 52 47 51] [0, 10, 11, 52]) (.cond (tm 52) (sq (rg [ om 53 11, ov 4
 (.mv (.c zs)), om 5 53, ob 6 false] [4, 5, 6]) .ret) .skip)) (sq (rg [ om 55 0, om 56 11, ov 57 (.arith .add .i64 (tm 56) (ci 1)), oc 58 62 [(tm 55),
 (tm 57)], om 54 58, ox 59 0 54, ox 60 1 54, ox 61 2 54, om 13 59, om 14 60, om 15 61] [0, 10, 13, 14, 15]) (sq (sq (rg [ om 62 15, ot 63 62, om 64 63,
 gm 65 64 false 0, gm 66 64 false 14, ⟨some 67, some (64, false), .call true (.c (.fn (.func 61) [] [])) [(tm 65), (tm 66), (.c (.str [116, 104, 101,
 110]))]⟩, gv 68 64 false (.not (tm 67)), oz 69 64 68] [0, 10, 13, 14, 69]) (.cond (tm 69) (sq (rg [ om 70 14, ov 4 (.mv (.c zs)), om 5 70, ob 6 false]
 [4, 5, 6]) .ret) .skip)) (sq (rg [ om 72 0, om 73 14, ov 74 (.arith .add .i64 (tm 73) (ci 1)), oc 75 25 [(tm 72), (tm 74)], om 71 75, ox 76 0 71, ox
 77 1 71, ox 78 2 71, om 16 76, om 17 77, om 18 78] [0, 10, 13, 16, 17, 18]) (sq (sq (rg [ om 79 18, ot 80 79, om 81 80, gm 82 81 false 0, gm 83 81
 false 17, ⟨some 84, some (81, false), .call true (.c (.fn (.func 61) [] [])) [(tm 82), (tm 83), (.c (.str [101, 108, 115, 101]))]⟩, gv 85 81 false
 (.not (tm 84)), oz 86 81 85] [0, 10, 13, 16, 17, 86]) (.cond (tm 86) (sq (rg [ om 87 17, ov 4 (.mv (.c zs)), om 5 87, ob 6 false] [4, 5, 6]) .ret)
 .skip)) (sq (rg [ om 89 0, om 90 17, ov 91 (.arith .add .i64 (tm 90) (ci 1)), oc 92 25 [(tm 89), (tm 91)], om 88 92, ox 93 0 88, ox 94 1 88, ox 95 2
 88, om 19 93, om 20 94, om 21 95] [10, 13, 16, 19, 20, 21]) (sq (sq (rg [ om 96 21, ot 97 96] [10, 13, 16, 19, 20, 97]) (.cond (tm 97) (sq (rg [ om 98
 20, ov 4 (.mv (.c zs)), om 5 98, ob 6 false] [4, 5, 6]) .ret) .skip)) (sq (.reg 8 [ ov 99 (.bs 2 0 (.agg [z0, z0]) []), om 100 10, ⟨some 101, none,
 .app 2 2 16 (tm 99) (tm 100) false⟩, om 102 13, ⟨some 103, none, .app 4 2 16 (tm 101) (tm 102) false⟩, oc 104 63 [(ci 9)], ⟨some 105, none, .app 6 2
 16 (tm 103) (tm 104) false⟩, om 22 105] [16, 19, 20, 22]) (sq (.reg 11 [ om 106 22, om 107 16, ⟨some 108, none, .app 2 2 16 (tm 106) (tm 107) false⟩,
 om 109 19, ⟨some 110, none, .app 4 2 16 (tm 108) (tm 109) false⟩, oc 111 63 [(ci 10)], ⟨some 112, none, .app 6 2 16 (tm 110) (tm 111) false⟩, om 113
 20, om 4 112, om 5 113, ob 6 true] [4, 5, 6]) .ret))))))))))))
theorem a25 : AOf Tryz.prog 25 c25 [.t 4, .t 5, .t 6] := mkA (fn := Tryz.f25) (c := Tryz.f25.body.getD .skip) (fz := []) (im := []) kp25 (by kernel_rfl) (by kernel_rfl) (by kernel_rfl) (by kernel_rfl) (by kernel_rfl)
def kp62 (r : Nat) : List Nat := match r with
  | 0 => [0, 1]
  | 1 => [0, 7, 8, 9]
  | 2 => [0, 7, 8, 9, 31]
  | 3 => [0, 7, 8, 10]
  | 4 => [0, 7, 8, 10, 34]
  | 5 => [0, 7, 8, 10]
  | 6 => [0, 7, 10, 11, 12, 13]
  | 7 => [0, 7, 12, 13]
  | 8 => [0, 7, 8, 13]
  | 9 => [0, 7, 8, 9]
  | 10 => [7, 8, 54]
  | 11 => [4, 5, 6]
  | 12 => [4, 5, 6]
  | _ => []
def c62 : ACode :=
(sq (rg [ ov 4 (.mv (.c zs)), oi 5 0, ob 6 false] [0, 1]) (sq (rg [ om 15 0, om 16 1, oc 17 90 [(tm 15), (tm 16)], om 14 17, ox 18 0 14, ox 19 1 14, ox
 20 2 14, om 7 18, om 8 19, om 9 20] [0, 7, 8, 9]) (sq (.block 0 (.loop (sq (sq (rg [ om 21 9, om 22 21, gm 23 22 true 0, gm 24 22 true 8, ⟨some 25,
 some (22, true), .call true (.c (.fn (.func 61) [] [])) [(tm 23), (tm 24), (.c (.str [43]))]⟩, gm 26 22 true 25, gm 27 26 false 0, gm 28 26 false 8,
 ⟨some 29, some (26, false), .call true (.c (.fn (.func 61) [] [])) [(tm 27), (tm 28), (.c (.str [45]))]⟩, ⟨some 30, some (22, true), .pick (tm 26) cT
 (tm 29)⟩, oy 31 22 30] [0, 7, 8, 9, 31]) (.cond (tm 31) .skip (.exit 0))) (.block 1 (sq (rg [ oi 10 3] [0, 7, 8, 10]) (sq (sq (rg [ om 32 0, om 33 8,
 oc 34 61 [(tm 32), (tm 33), (.c (.str [45]))]] [0, 7, 8, 10, 34]) (.cond (tm 34) (rg [ oi 10 4] [0, 7, 8, 10]) .skip)) (sq (rg [ om 36 0, om 37 8, ov
 38 (.arith .add .i64 (tm 37) (ci 1)), oc 39 90 [(tm 36), (tm 38)], om 35 39, ox 40 0 35, ox 41 1 35, ox 42 2 35, om 11 40, om 12 41, om 13 42] [0, 7,
 10, 11, 12, 13]) (sq (.reg 9 [ ov 43 (.bs 2 0 (.agg [z0, z0]) []), om 44 7, ⟨some 45, none, .app 2 2 16 (tm 43) (tm 44) false⟩, om 46 11, ⟨some 47,
 none, .app 4 2 16 (tm 45) (tm 46) false⟩, om 48 10, oc 49 63 [(tm 48)], ⟨some 50, none, .app 7 2 16 (tm 47) (tm 49) false⟩, om 7 50] [0, 7, 12, 13])
 (sq (rg [ om 51 12, om 8 51] [0, 7, 8, 13]) (rg [ om 52 13, om 9 52] [0, 7, 8, 9])))))))))) (sq (sq (rg [ om 53 9, ot 54 53] [7, 8, 54]) (.cond (tm
 54) (sq (rg [ om 55 8, ov 4 (.mv (.c zs)), om 5 55, ob 6 false] [4, 5, 6]) .ret) .skip)) (sq (rg [ om 56 7, om 57 8, om 4 56, om 5 57, ob 6 true] [4,
 5, 6]) .ret)))))
theorem a62 : AOf Tryz.prog 62 c62 [.t 4, .t 5, .t 6] := mkA (fn := Tryz.f62) (c := Tryz.f62.body.getD .skip) (fz := []) (im := []) kp62 (by kernel_rfl) (by kernel_rfl) (by kernel_rfl) (by kernel_rfl) (by kernel_rfl)
def kp90 (r : Nat) : List Nat := match r with
  | 0 => [0, 1]
  | 1 => [0, 7, 8, 9]
  | 2 => [0, 7, 8, 9, 31]
  | 3 => [0, 7, 8, 10]
  | 4 => [0, 7, 8, 10, 34]
  | 5 => [0, 7, 8, 10]
  | 6 => [0, 7, 10, 11, 12, 13]
  | 7 => [0, 7, 12, 13]
  | 8 => [0, 7, 8, 13]
  | 9 => [0, 7, 8, 9]
  | 10 => [7, 8, 54]
  | 11 => [4, 5, 6]
  | 12 => [4, 5, 6]
  | _ => []
def c90 : ACode :=
(sq (rg [ ov 4 (.mv (.c zs)), oi 5 0, ob 6 false] [0, 1]) (sq (rg [ om 15 0, om 16 1, oc 17 108 [(tm 15), (tm 16)], om 14 17, ox 18 0 14, ox 19 1 14,
 ox 20 2 14, om 7 18, om 8 19, om 9 20] [0, 7, 8, 9]) (sq (.block 0 (.loop (sq (sq (rg [ om 21 9, om 22 21, gm 23 22 true 0, gm 24 22 true 8, ⟨some 25,
 some (22, true), .call true (.c (.fn (.func 61) [] [])) [(tm 23), (tm 24), (.c (.str [42]))]⟩, gm 26 22 true 25, gm 27 26 false 0, gm 28 26 false 8,
 ⟨some 29, some (26, false), .call true (.c (.fn (.func 61) [] [])) [(tm 27), (tm 28), (.c (.str [47]))]⟩, ⟨some 30, some (22, true), .pick (tm 26) cT
 (tm 29)⟩, oy 31 22 30] [0, 7, 8, 9, 31]) (.cond (tm 31) .skip (.exit 0))) (.block 1 (sq (rg [ oi 10 5] [0, 7, 8, 10]) (sq (sq (rg [ om 32 0, om 33 8,
 oc 34 61 [(tm 32), (tm 33), (.c (.str [47]))]] [0, 7, 8, 10, 34]) (.cond (tm 34) (rg [ oi 10 6] [0, 7, 8, 10]) .skip)) (sq (rg [ om 36 0, om 37 8, ov
 38 (.arith .add .i64 (tm 37) (ci 1)), oc 39 108 [(tm 36), (tm 38)], om 35 39, ox 40 0 35, ox 41 1 35, ox 42 2 35, om 11 40, om 12 41, om 13 42] [0, 7,
 10, 11, 12, 13]) (sq (.reg 9 [ ov 43 (.bs 2 0 (.agg [z0, z0]) []), om 44 7, ⟨some 45, none, .app 2 2 16 (tm 43) (tm 44) false⟩, om 46 11, ⟨some 47,
 none, .app 4 2 16 (tm 45) (tm 46) false⟩, om 48 10, oc 49 63 [(tm 48)], ⟨some 50, none, .app 7 2 16 (tm 47) (tm 49) false⟩, om 7 50] [0, 7, 12, 13])
 (sq (rg [ om 51 12, om 8 51] [0, 7, 8, 13]) (rg [ om 52 13, om 9 52] [0, 7, 8, 9])))))))))) (sq (sq (rg [ om 53 9, ot 54 53] [7, 8, 54]) (.cond (tm
 54) (sq (rg [ om 55 8, ov 4 (.mv (.c zs)), om 5 55, ob 6 false] [4, 5, 6]) .ret) .skip)) (sq (rg [ om 56 7, om 57 8, om 4 56, om 5 57, ob 6 true] [4,
 5, 6]) .ret)))))
theorem a90 : AOf Tryz.prog 90 c90 [.t 4, .t 5, .t 6] := mkA (fn := Tryz.f90) (c := Tryz.f90.body.getD .skip) (fz := []) (im := []) kp90 (by kernel_rfl) (by kernel_rfl) (by kernel_rfl) (by kernel_rfl) (by kernel_rfl)
def kp108 (r : Nat) : List Nat := match r with
  | 0 => [0, 1]
  | 1 => [0, 1, 18]
  | 2 => [4, 5, 6]
  | 3 => [0, 1, 25]
  | 4 => [0, 1, 31]
  | 5 => [4, 5, 6]
  | 6 => [4, 5, 6]
  | 7 => [0, 1, 44]
  | 8 => [0, 7, 8, 9]
  | 9 => [7, 8, 60]
  | 10 => [4, 5, 6]
  | 11 => [4, 5, 6]
  | 12 => [0, 1, 72]
  | 13 => [10, 11, 12]
  | 14 => [4, 5, 6]
  | 15 => [0, 1, 13]
  | 16 => [0, 1, 13, 14]
  | 17 => [0, 1, 13, 14, 87]
  | 19 => [0, 1, 13, 14, 96]
  | 20 => [4, 5, 6]
  | 18 => [0, 1, 13, 14]
  | 21 => [4, 5, 6]
  | _ => []
def c108 : ACode :=
(sq (rg [ ov 4 (.mv (.c zs)), oi 5 0, ob 6 false] [0, 1]) (sq (sq (rg [ om 15 1, om 16 0, on 17 16, ov 18 (.icmp .geq .i64 (tm 15) (tm 17))] [0, 1,
 18]) (.cond (tm 18) (sq (rg [ om 19 1, ov 4 (.mv (.c zs)), om 5 19, ob 6 false] [4, 5, 6]) .ret) .skip)) (sq (sq (rg [ om 20 0, om 21 1, oa 22 4 20
 21, of 23 0 22, ol 24 23, ov 25 (.icmp .eql .i64 (tm 24) (ci 2))] [0, 1, 25]) (.cond (tm 25) (sq (sq (rg [ om 26 0, om 27 1, oa 28 4 26 27, of 29 2
 28, ol 30 29, ov 31 (.icmp .gtr .i64 (tm 30) (ci 1048576))] [0, 1, 31]) (.cond (tm 31) (sq (rg [ om 32 1, ov 4 (.mv (.c zs)), om 5 32, ob 6 false] [4,
 5, 6]) .ret) .skip)) (sq (rg [ om 33 0, om 34 1, oa 35 4 33 34, of 36 2 35, ol 37 36, ov 38 (.build [z0, z0] [(0, 1, (ci 1)), (1, 1, (tm 37))]), ov 39
 (.bs 2 1 (.agg [z0, z0]) [(0, (tm 38))]), om 40 1, ov 41 (.arith .add .i64 (tm 40) (ci 1)), om 4 39, om 5 41, ob 6 true] [4, 5, 6]) .ret)) .skip)) (sq
 (sq (rg [ om 42 0, om 43 1, oc 44 61 [(tm 42), (tm 43), (.c (.str [40]))]] [0, 1, 44]) (.cond (tm 44) (sq (rg [ om 46 0, om 47 1, ov 48 (.arith .add
 .i64 (tm 47) (ci 1)), oc 49 25 [(tm 46), (tm 48)], om 45 49, ox 50 0 45, ox 51 1 45, ox 52 2 45, om 7 50, om 8 51, om 9 52] [0, 7, 8, 9]) (sq (sq (rg
 [ om 53 9, ot 54 53, om 55 54, gm 56 55 false 0, gm 57 55 false 8, ⟨some 58, some (55, false), .call true (.c (.fn (.func 61) [] [])) [(tm 56), (tm
 57), (.c (.str [41]))]⟩, gv 59 55 false (.not (tm 58)), oz 60 55 59] [7, 8, 60]) (.cond (tm 60) (sq (rg [ om 61 8, ov 4 (.mv (.c zs)), om 5 61, ob 6
 false] [4, 5, 6]) .ret) .skip)) (sq (rg [ om 62 7, om 63 8, ov 64 (.arith .add .i64 (tm 63) (ci 1)), om 4 62, om 5 64, ob 6 true] [4, 5, 6]) .ret)))
 .skip)) (sq (sq (rg [ om 65 0, om 66 1, oc 67 61 [(tm 65), (tm 66), (.c (.str [109, 105, 110]))], om 68 67, gm 69 68 false 0, gm 70 68 false 1, ⟨some
 71, some (68, false), .call true (.c (.fn (.func 61) [] [])) [(tm 69), (tm 70), (.c (.str [109, 97, 120]))]⟩, oz 72 68 71] [0, 1, 72]) (.cond (tm 72)
 (sq (rg [ om 74 0, om 75 1, oc 76 120 [(tm 74), (tm 75)], om 73 76, ox 77 0 73, ox 78 1 73, ox 79 2 73, om 10 77, om 11 78, om 12 79] [10, 11, 12])
 (sq (rg [ om 80 10, om 81 11, om 82 12, om 4 80, om 5 81, om 6 82] [4, 5, 6]) .ret)) .skip)) (sq (rg [ oc 83 99 [], om 13 83] [0, 1, 13]) (sq (sq (rg
 [ oi 14 0] [0, 1, 13, 14]) (.block 0 (.loop (sq (sq (rg [ om 84 14, om 85 13, on 86 85, ov 87 (.icmp .lss .i64 (tm 84) (tm 86))] [0, 1, 13, 14, 87])
 (.cond (tm 87) .skip (.exit 0))) (sq (.block 1 (sq (rg [ om 90 0, om 91 1, om 92 13, om 93 14, oa 94 1 92 93, ol 95 94, oc 96 61 [(tm 90), (tm 91),
 (tm 95)]] [0, 1, 13, 14, 96]) (.cond (tm 96) (sq (rg [ om 97 14, ov 98 (.build [z0, z0] [(0, 1, (ci 2)), (1, 1, (tm 97))]), ov 99 (.bs 2 1 (.agg [z0,
 z0]) [(0, (tm 98))]), om 100 1, ov 101 (.arith .add .i64 (tm 100) (ci 1)), om 4 99, om 5 101, ob 6 true] [4, 5, 6]) .ret) .skip))) (rg [ om 88 14, ov
 89 (.arith .add .i64 (tm 88) (ci 1)), om 14 89] [0, 1, 13, 14])))))) (sq (rg [ om 102 1, ov 4 (.mv (.c zs)), om 5 102, ob 6 false] [4, 5, 6])
 .ret))))))))
theorem a108 : AOf Tryz.prog 108 c108 [.t 4, .t 5, .t 6] := mkA (fn := Tryz.f108) (c := Tryz.f108.body.getD .skip) (fz := []) (im := []) kp108 (by kernel_rfl) (by kernel_rfl) (by kernel_rfl) (by kernel_rfl) (by kernel_rfl)
def kp120 (r : Nat) : List Nat := match r with
  | 0 => [0, 1]
  | 1 => [0, 1, 7]
  | 2 => [0, 1, 7, 16]
  | 3 => [0, 1, 7]
  | 4 => [0, 1, 7, 21]
  | 5 => [4, 5, 6]
  | 6 => [0, 7, 8, 9, 10]
  | 7 => [0, 7, 8, 9, 39]
  | 8 => [4, 5, 6]
  | 9 => [0, 7, 8, 11, 12, 13]
  | 10 => [7, 8, 11, 12, 56]
  | 11 => [4, 5, 6]
  | 12 => [4, 5, 6]
  | _ => []
def c120 : ACode :=
(sq (rg [ ov 4 (.mv (.c zs)), oi 5 0, ob 6 false] [0, 1]) (sq (rg [ oi 7 7] [0, 1, 7]) (sq (sq (rg [ om 14 0, om 15 1, oc 16 61 [(tm 14), (tm 15), (.c
 (.str [109, 97, 120]))]] [0, 1, 7, 16]) (.cond (tm 16) (rg [ oi 7 8] [0, 1, 7]) .skip)) (sq (sq (rg [ om 17 0, om 18 1, ov 19 (.arith .add .i64 (tm
 18) (ci 1)), oc 20 61 [(tm 17), (tm 19), (.c (.str [40]))], ot 21 20] [0, 1, 7, 21]) (.cond (tm 21) (sq (rg [ om 22 1, ov 23 (.arith .add .i64 (tm 22)
 (ci 1)), ov 4 (.mv (.c zs)), om 5 23, ob 6 false] [4, 5, 6]) .ret) .skip)) (sq (rg [ om 25 0, om 26 1, ov 27 (.arith .add .i64 (tm 26) (ci 2)), oc 28
 25 [(tm 25), (tm 27)], om 24 28, ox 29 0 24, ox 30 1 24, ox 31 2 24, om 8 29, om 9 30, om 10 31] [0, 7, 8, 9, 10]) (sq (sq (rg [ om 32 10, ot 33 32,
 om 34 33, gm 35 34 false 0, gm 36 34 false 9, ⟨some 37, some (34, false), .call true (.c (.fn (.func 61) [] [])) [(tm 35), (tm 36), (.c (.str
 [44]))]⟩, gv 38 34 false (.not (tm 37)), oz 39 34 38] [0, 7, 8, 9, 39]) (.cond (tm 39) (sq (rg [ om 40 9, ov 4 (.mv (.c zs)), om 5 40, ob 6 false] [4,
 5, 6]) .ret) .skip)) (sq (rg [ om 42 0, om 43 9, ov 44 (.arith .add .i64 (tm 43) (ci 1)), oc 45 25 [(tm 42), (tm 44)], om 41 45, ox 46 0 41, ox 47 1
 41, ox 48 2 41, om 11 46, om 12 47, om 13 48] [0, 7, 8, 11, 12, 13]) (sq (sq (rg [ om 49 13, ot 50 49, om 51 50, gm 52 51 false 0, gm 53 51 false 12,
 ⟨some 54, some (51, false), .call true (.c (.fn (.func 61) [] [])) [(tm 52), (tm 53), (.c (.str [41]))]⟩, gv 55 51 false (.not (tm 54)), oz 56 51 55]
 [7, 8, 11, 12, 56]) (.cond (tm 56) (sq (rg [ om 57 12, ov 4 (.mv (.c zs)), om 5 57, ob 6 false] [4, 5, 6]) .ret) .skip)) (sq (.reg 13 [ ov 58 (.bs 2 0
 (.agg [z0, z0]) []), om 59 8, ⟨some 60, none, .app 2 2 16 (tm 58) (tm 59) false⟩, om 61 11, ⟨some 62, none, .app 4 2 16 (tm 60) (tm 61) false⟩, om 63
 7, oc 64 63 [(tm 63)], ⟨some 65, none, .app 7 2 16 (tm 62) (tm 64) false⟩, om 66 12, ov 67 (.arith .add .i64 (tm 66) (ci 1)), om 4 65, om 5 67, ob 6
 true] [4, 5, 6]) .ret)))))))))
theorem a120 : AOf Tryz.prog 120 c120 [.t 4, .t 5, .t 6] := mkA (fn := Tryz.f120) (c := Tryz.f120.body.getD .skip) (fz := []) (im := []) kp120 (by kernel_rfl) (by kernel_rfl) (by kernel_rfl) (by kernel_rfl) (by kernel_rfl)
end Go.AM
end
section
set_option maxRecDepth 20000
set_option linter.all false
namespace Go.AM
open Go.Proofs
def kp64 (r : Nat) : List Nat := match r with
  | 0 => [1]
  | 1 => [2]
  | _ => []
def c64 : ACode :=
(sq (.reg 2 [ ⟨some 1, none, .box 0 1 (tm 0)⟩, ov 2 (.mv (.c .nilfn))] [1]) (sq (rg [ ov 3 (.fn (.func 65) [] [(tm 1)]), om 2 3] [2]) .ret))
theorem a64 : AOf Tryz.prog 64 c64 [.t 2] := mkA (fn := Tryz.f64) (c := Tryz.f64.body.getD .skip) (fz := []) (im := []) kp64 (by kernel_rfl) (by kernel_rfl) (by kernel_rfl) (by kernel_rfl) (by kernel_rfl)
def kp65 (r : Nat) : List Nat := match r with
  | 0 => [0, 1, 2]
  | 1 => [5]
  | _ => []
def c65 : ACode :=
(sq (rg [ ov 5 (.mv (.c zs))] [0, 1, 2]) (sq (rg [ oc 6 67 [(.c (.str [40]))], om 7 0, ol 8 2, oc 9 67 [(tm 8)], om 10 1, oc 11 67 [(.c (.str [41]))],
 ov 12 (.bs 1 5 zs [(0, (tm 6)), (1, (tm 7)), (2, (tm 9)), (3, (tm 10)), (4, (tm 11))]), oc 13 66 [(tm 12)], om 5 13] [5]) .ret))
theorem l65 : Callable Tryz.prog 65 := ⟨Tryz.f65, by kernel_rfl, by kernel_rfl, by kernel_rfl⟩
theorem a65 : AOf Tryz.prog 65 c65 [.t 5] := mkA (fn := Tryz.f65) (c := Tryz.f65.body.getD .skip) (fz := []) (im := []) kp65 (by kernel_rfl) (by kernel_rfl) (by kernel_rfl) (by kernel_rfl) (by kernel_rfl)
def kp66 (r : Nat) : List Nat := match r with
  | 0 => [0]
  | 1 => [0, 3]
  | 2 => [0, 3, 9, 10, 11]
  | 3 => [0, 3, 9, 10, 11, 12]
  | 4 => [0, 3, 5, 9, 10, 11]
  | 5 => [0, 3, 9, 10, 11]
  | 6 => [0, 3, 9, 10, 11, 20]
  | 7 => [0, 3, 9, 10, 11]
  | 8 => [0, 3, 9, 10, 11]
  | 9 => [0, 6]
  | 10 => [6, 25, 26, 27]
  | 11 => [6, 25, 26, 27, 28]
  | 12 => [6, 8, 25, 26, 27]
  | 13 => [6, 25, 26, 27]
  | 14 => [6, 25, 26, 27]
  | 15 => [2]
  | _ => []
def c66 : ACode :=
(sq (rg [ ov 2 (.mv (.c zs))] [0]) (sq (rg [ oi 3 0] [0, 3]) (sq (sq (rg [ om 9 0, on 10 9, oi 11 0] [0, 3, 9, 10, 11]) (.block 0 (.loop (sq (rg [ ov
 12 (.icmp .lss .i64 (tm 11) (tm 10))] [0, 3, 9, 10, 11, 12]) (sq (.cond (tm 12) .skip (.exit 0)) (sq (.block 1 (sq (rg [ oa 13 1 9 11, ol 14 13, om 5
 14] [0, 3, 5, 9, 10, 11]) (sq (rg [ om 15 3, om 16 5, on 17 16, ov 18 (.arith .add .i64 (tm 15) (tm 17)), om 3 18] [0, 3, 9, 10, 11]) (sq (rg [ om 19
 3, ov 20 (.icmp .lss .i64 (tm 19) (ci 0))] [0, 3, 9, 10, 11, 20]) (.cond (tm 20) (rg [ ov 21 (.ifc 9 (.c (.str [108, 101, 110, 32, 111, 117, 116, 32,
 111, 102, 32, 114, 97, 110, 103, 101]))), ⟨none, none, .pan (tm 21)⟩] [0, 3, 9, 10, 11]) .skip))))) (rg [ ov 22 (.arith .add .i64 (tm 11) (ci 1)), om
 11 22] [0, 3, 9, 10, 11]))))))) (sq (rg [ om 23 3, oe 24 91 [(.c zs), (tm 23)], om 6 24] [0, 6]) (sq (sq (rg [ om 25 0, on 26 25, oi 27 0] [6, 25, 26,
 27]) (.block 2 (.loop (sq (rg [ ov 28 (.icmp .lss .i64 (tm 27) (tm 26))] [6, 25, 26, 27, 28]) (sq (.cond (tm 28) .skip (.exit 2)) (sq (.block 3 (sq
 (rg [ oa 29 1 25 27, ol 30 29, om 8 30] [6, 8, 25, 26, 27]) (.reg 4 [ om 31 6, om 32 8, ⟨some 33, none, .app 2 4 40 (tm 31) (tm 32) false⟩, om 6 33]
 [6, 25, 26, 27]))) (rg [ ov 34 (.arith .add .i64 (tm 27) (ci 1)), om 27 34] [6, 25, 26, 27]))))))) (sq (rg [ om 35 6, om 2 35] [2]) .ret))))))
theorem l66 : Callable Tryz.prog 66 := ⟨Tryz.f66, by kernel_rfl, by kernel_rfl, by kernel_rfl⟩
theorem a66 : AOf Tryz.prog 66 c66 [.t 2] := mkA (fn := Tryz.f66) (c := Tryz.f66.body.getD .skip) (fz := []) (im := [(9, 1)]) kp66 (by kernel_rfl) (by kernel_rfl) (by kernel_rfl) (by kernel_rfl) (by kernel_rfl)
def kp67 (r : Nat) : List Nat := match r with
  | 0 => [0]
  | 1 => [2]
  | _ => []
def c67 : ACode :=
(sq (rg [ ov 2 (.mv (.c zs))] [0]) (sq (rg [ om 3 0, ov 4 (.build [z0, zr, z0, z0] [(0, 1, (ci 3)), (1, 1, (tm 3))]), ov 5 (.bs 4 1 (.agg [z0, zr, z0,
 z0]) [(0, (tm 4))]), om 2 5] [2]) .ret))
theorem a67 : AOf Tryz.prog 67 c67 [.t 2] := mkA (fn := Tryz.f67) (c := Tryz.f67.body.getD .skip) (fz := []) (im := []) kp67 (by kernel_rfl) (by kernel_rfl) (by kernel_rfl) (by kernel_rfl) (by kernel_rfl)
def kp68 (r : Nat) : List Nat := match r with
  | 0 => [1]
  | 1 => [2]
  | _ => []
def c68 : ACode :=
(sq (.reg 2 [ ⟨some 1, none, .box 0 1 (tm 0)⟩, ov 2 (.mv (.c .nilfn))] [1]) (sq (rg [ ov 3 (.fn (.func 69) [] [(tm 1)]), om 2 3] [2]) .ret))
theorem a68 : AOf Tryz.prog 68 c68 [.t 2] := mkA (fn := Tryz.f68) (c := Tryz.f68.body.getD .skip) (fz := []) (im := []) kp68 (by kernel_rfl) (by kernel_rfl) (by kernel_rfl) (by kernel_rfl) (by kernel_rfl)
def kp69 (r : Nat) : List Nat := match r with
  | 0 => [0, 1, 2]
  | 1 => [5]
  | _ => []
def c69 : ACode :=
(sq (rg [ ov 5 (.mv (.c zs))] [0, 1, 2]) (sq (rg [ ol 6 2, oc 7 70 [(tm 6)], oc 8 67 [(.c (.str [40]))], om 9 0, oc 10 67 [(.c (.str [44]))], om 11 1,
 oc 12 67 [(.c (.str [41]))], ov 13 (.bs 1 6 zs [(0, (tm 7)), (1, (tm 8)), (2, (tm 9)), (3, (tm 10)), (4, (tm 11)), (5, (tm 12))]), oc 14 66 [(tm 13)],
 om 5 14] [5]) .ret))
theorem l69 : Callable Tryz.prog 69 := ⟨Tryz.f69, by kernel_rfl, by kernel_rfl, by kernel_rfl⟩
theorem a69 : AOf Tryz.prog 69 c69 [.t 5] := mkA (fn := Tryz.f69) (c := Tryz.f69.body.getD .skip) (fz := []) (im := []) kp69 (by kernel_rfl) (by kernel_rfl) (by kernel_rfl) (by kernel_rfl) (by kernel_rfl)
def kp70 (r : Nat) : List Nat := match r with
  | 0 => [0]
  | 1 => [2]
  | _ => []
def c70 : ACode :=
(sq (rg [ ov 2 (.mv (.c zs))] [0]) (sq (rg [ om 3 0, ov 4 (.build [z0, zr, z0, z0] [(0, 1, (ci 1)), (1, 1, (tm 3))]), ov 5 (.bs 4 1 (.agg [z0, zr, z0,
 z0]) [(0, (tm 4))]), om 2 5] [2]) .ret))
theorem a70 : AOf Tryz.prog 70 c70 [.t 2] := mkA (fn := Tryz.f70) (c := Tryz.f70.body.getD .skip) (fz := []) (im := []) kp70 (by kernel_rfl) (by kernel_rfl) (by kernel_rfl) (by kernel_rfl) (by kernel_rfl)
def kp71 (r : Nat) : List Nat := match r with
  | 0 => [0, 1]
  | 1 => [4]
  | _ => []
def c71 : ACode :=
(sq (rg [ ov 4 (.mv (.c zs))] [0, 1]) (sq (rg [ om 5 0, oc 6 67 [(.c (.str [60]))], om 7 1, ov 8 (.bs 1 3 zs [(0, (tm 5)), (1, (tm 6)), (2, (tm 7))]),
 oc 9 66 [(tm 8)], om 4 9] [4]) .ret))
theorem l71 : Callable Tryz.prog 71 := ⟨Tryz.f71, by kernel_rfl, by kernel_rfl, by kernel_rfl⟩
theorem a71 : AOf Tryz.prog 71 c71 [.t 4] := mkA (fn := Tryz.f71) (c := Tryz.f71.body.getD .skip) (fz := []) (im := []) kp71 (by kernel_rfl) (by kernel_rfl) (by kernel_rfl) (by kernel_rfl) (by kernel_rfl)
def kp72 (r : Nat) : List Nat := match r with
  | 0 => [0, 1]
  | 1 => [3]
  | _ => []
def c72 : ACode :=
(sq (rg [ ob 3 false] [0, 1]) (sq (rg [ ol 4 1, on 5 4, om 6 0, ov 7 (.icmp .geq .i64 (tm 5) (tm 6)), om 8 7, gl 9 8 true 1, gl 10 8 true 1, gv 11 8
 true (.len (tm 10)), gm 12 8 true 0, gv 13 8 true (.arith .sub .i64 (tm 11) (tm 12)), gv 14 8 true (.sl 2 (tm 9) (some (tm 13)) none none), ⟨some 15,
 some (8, true), .call true (.c (.fn (.func 73) [] [])) [(tm 14), (.c (.fn (.func 74) [] []))]⟩, gv 16 8 true (.not (tm 15)), oy 17 8 16, om 3 17] [3])
 .ret))
theorem l72 : Callable Tryz.prog 72 := ⟨Tryz.f72, by kernel_rfl, by kernel_rfl, by kernel_rfl⟩
theorem a72 : AOf Tryz.prog 72 c72 [.t 3] := mkA (fn := Tryz.f72) (c := Tryz.f72.body.getD .skip) (fz := []) (im := []) kp72 (by kernel_rfl) (by kernel_rfl) (by kernel_rfl) (by kernel_rfl) (by kernel_rfl)
def kp73 (r : Nat) : List Nat := match r with
  | 0 => [0, 1]
  | 1 => [4]
  | _ => []
def c73 : ACode :=
(sq (rg [ ob 4 false] [0, 1]) (sq (rg [ om 5 0, om 6 1, oc 7 92 [(tm 5), (tm 6)], ov 8 (.icmp .geq .i64 (tm 7) (ci 0)), om 4 8] [4]) .ret))
theorem l73 : Callable Tryz.prog 73 := ⟨Tryz.f73, by kernel_rfl, by kernel_rfl, by kernel_rfl⟩
theorem a73 : AOf Tryz.prog 73 c73 [.t 4] := mkA (fn := Tryz.f73) (c := Tryz.f73.body.getD .skip) (fz := []) (im := []) kp73 (by kernel_rfl) (by kernel_rfl) (by kernel_rfl) (by kernel_rfl) (by kernel_rfl)
def kp74 (r : Nat) : List Nat := match r with
  | 0 => [1]
  | 1 => [2]
  | _ => []
def c74 : ACode :=
(sq (.reg 2 [ ⟨some 1, none, .box 0 2 (tm 0)⟩, ob 2 false] [1]) (sq (rg [ of 3 1 1, ol 4 3, om 2 4] [2]) .ret))
theorem l74 : Callable Tryz.prog 74 := ⟨Tryz.f74, by kernel_rfl, by kernel_rfl, by kernel_rfl⟩
theorem a74 : AOf Tryz.prog 74 c74 [.t 2] := mkA (fn := Tryz.f74) (c := Tryz.f74.body.getD .skip) (fz := []) (im := []) kp74 (by kernel_rfl) (by kernel_rfl) (by kernel_rfl) (by kernel_rfl) (by kernel_rfl)
def kp92 (r : Nat) : List Nat := match r with
  | 0 => [0, 1]
  | 1 => [0, 1, 7, 8]
  | 2 => [0, 1, 7, 8, 9]
  | 3 => [0, 1, 5, 7, 8]
  | 4 => [0, 1, 5, 7, 8, 16]
  | 5 => [4]
  | 6 => [0, 1, 7, 8]
  | 7 => [4]
  | _ => []
def c92 : ACode :=
(sq (rg [ oi 4 0] [0, 1]) (sq (sq (rg [ om 6 0, on 7 6, oi 8 0] [0, 1, 7, 8]) (.block 0 (.loop (sq (rg [ ov 9 (.icmp .lss .i64 (tm 8) (tm 7))] [0, 1,
 7, 8, 9]) (sq (.cond (tm 9) .skip (.exit 0)) (sq (.block 1 (sq (rg [ om 10 8, om 5 10] [0, 1, 5, 7, 8]) (sq (rg [ om 11 1, om 12 0, om 13 5, oa 14 2
 12 13, ov 15 (.ld 2 true (tm 14)), ⟨some 16, none, .call true (tm 11) [(tm 15)]⟩] [0, 1, 5, 7, 8, 16]) (.cond (tm 16) (sq (rg [ om 17 5, om 4 17] [4])
 .ret) .skip)))) (rg [ ov 18 (.arith .add .i64 (tm 8) (ci 1)), om 8 18] [0, 1, 7, 8]))))))) (sq (rg [ oi 4 (-1)] [4]) .ret)))
theorem l92 : Callable Tryz.prog 92 := ⟨Tryz.f92, by kernel_rfl, by kernel_rfl, by kernel_rfl⟩
theorem a92 : AOf Tryz.prog 92 c92 [.t 4] := mkA (fn := Tryz.f92) (c := Tryz.f92.body.getD .skip) (fz := []) (im := []) kp92 (by kernel_rfl) (by kernel_rfl) (by kernel_rfl) (by kernel_rfl) (by kernel_rfl)
def kp27 (r : Nat) : List Nat := match r with
  | 0 => [0, 2]
  | 1 => [0, 2, 4]
  | 2 => [0, 2, 4, 5]
  | 3 => [0, 2, 6]
  | 4 => [0, 2, 6, 7]
  | 5 => [0, 2, 6, 7, 27, 28, 29]
  | 6 => [0, 2, 6, 7, 27, 28, 29, 30]
  | 7 => [0, 2, 6, 7, 9, 27, 28, 29]
  | 9 => [0, 2, 6, 7, 9, 27, 28, 29, 33]
  | 10 => [0, 2, 6, 7, 27, 28, 29]
  | 11 => [0, 2, 6, 7, 9, 27, 28, 29, 55]
  | 12 => [0, 2, 6, 7, 27, 28, 29]
  | 13 => [0, 2, 6, 7, 9, 27, 28, 29, 81]
  | 14 => [0, 2, 6, 7, 10, 27, 28, 29]
  | 15 => [0, 2, 6, 7, 10, 11, 27, 28, 29]
  | 16 => [0, 2, 6, 7, 27, 28, 29]
  | 17 => [0, 2, 6, 7, 9, 27, 28, 29, 142]
  | 18 => [0, 2, 6, 7, 9, 12, 27, 28, 29]
  | 19 => [0, 2, 6, 7, 27, 28, 29]
  | 8 => [2, 3]
  | 20 => [0, 2, 6, 7, 27, 28, 29]
  | 21 => [2, 3]
  | _ => []
def c27 : ACode :=
(sq (.reg 2 [ ⟨some 2, none, .alloc 0 [zs]⟩, ob 3 false] [0, 2]) (sq (rg [ ov 4 (.mv (.c (.fn (.func 64) [] [])))] [0, 2, 4]) (sq (rg [ ov 5 (.mv (.c
 (.fn (.func 68) [] [])))] [0, 2, 4, 5]) (sq (.reg 15 [ om 13 4, ⟨some 14, none, .call false (tm 13) [(.c (.str [43]))]⟩, om 15 4, ⟨some 16, none,
 .call false (tm 15) [(.c (.str [45]))]⟩, om 17 4, ⟨some 18, none, .call false (tm 17) [(.c (.str [42]))]⟩, om 19 4, ⟨some 20, none, .call false (tm
 19) [(.c (.str [47]))]⟩, om 21 5, ⟨some 22, none, .call false (tm 21) [(.c (.str [109, 105, 110]))]⟩, om 23 5, ⟨some 24, none, .call false (tm 23)
 [(.c (.str [109, 97, 120]))]⟩, ov 25 (.build [.nilfn, .nilfn, .nilfn, .nilfn, .nilfn, .nilfn, .nilfn, .nilfn, .nilfn, .nilfn] [(3, 1, (tm 14)), (4, 1,
 (tm 16)), (5, 1, (tm 18)), (6, 1, (tm 20)), (7, 1, (tm 22)), (8, 1, (tm 24)), (9, 1, (.c (.fn (.func 71) [] [])))]), ⟨some 6, none, .alloc 13 [.nilfn,
 .nilfn, .nilfn, .nilfn, .nilfn, .nilfn, .nilfn, .nilfn, .nilfn, .nilfn]⟩, ⟨none, none, .st 10 (tm 6) (tm 25)⟩] [0, 2, 6]) (sq (rg [ ov 26 (.fn (.func
 72) [] [(tm 2)]), om 7 26] [0, 2, 6, 7]) (sq (sq (rg [ om 27 0, on 28 27, oi 29 0] [0, 2, 6, 7, 27, 28, 29]) (.block 0 (.loop (sq (rg [ ov 30 (.icmp
 .lss .i64 (tm 29) (tm 28))] [0, 2, 6, 7, 27, 28, 29, 30]) (sq (.cond (tm 30) .skip (.exit 0)) (sq (.block 1 (sq (.reg 4 [ oa 31 2 27 29, ov 32 (.ld 2
 true (tm 31)), ⟨some 9, none, .alloc 2 [z0, z0]⟩, ⟨none, none, .st 2 (tm 9) (tm 32)⟩] [0, 2, 6, 7, 9, 27, 28, 29]) (.block 2 (sq (rg [ of 34 0 9, ol
 35 34, ov 36 (.icmp .eql .i64 (tm 35) (ci 1)), om 37 36, gf 38 37 true 1 9, gl 39 37 true 38, gv 40 37 true (.icmp .geq .i64 (tm 39) (ci 0)), oy 41 37
 40, om 42 41, gf 43 42 true 1 9, gl 44 42 true 43, gv 45 42 true (.icmp .leq .i64 (tm 44) (ci 1048576)), oy 46 42 45, om 33 46] [0, 2, 6, 7, 9, 27,
 28, 29, 33]) (.cond (tm 33) (.reg 9 [ ol 47 2, of 48 1 9, ol 49 48, ov 50 (.build [z0, zr, z0, z0] [(0, 1, (ci 2)), (2, 1, (tm 49))]), ov 51 (.bs 4 1
 (.agg [z0, zr, z0, z0]) [(0, (tm 50))]), ov 52 (.build [zs, zb] [(0, 1, (tm 51))]), ov 53 (.bs 2 1 (.agg [zs, zb]) [(0, (tm 52))]), ⟨some 54, none,
 .appR 7 2 32 (.agg [zs, zb]) (tm 47) (tm 53) false⟩, ⟨none, none, .st 1 (tm 2) (tm 54)⟩] [0, 2, 6, 7, 27, 28, 29]) (sq (rg [ of 56 0 9, ol 57 56, ov
 58 (.icmp .eql .i64 (tm 57) (ci 2)), om 59 58, gf 60 59 true 1 9, gl 61 59 true 60, gv 62 59 true (.icmp .geq .i64 (tm 61) (ci 0)), oy 63 59 62, om 64
 63, gf 65 64 true 1 9, gl 66 64 true 65, ⟨some 67, some (64, true), .call true (.c (.fn (.func 30) [] [])) []⟩, gv 68 64 true (.len (tm 67)), gv 69 64
 true (.icmp .lss .i64 (tm 66) (tm 68)), oy 70 64 69, om 55 70] [0, 2, 6, 7, 9, 27, 28, 29, 55]) (.cond (tm 55) (.reg 11 [ ol 71 2, oc 72 30 [], of 73
 1 9, ol 74 73, oa 75 1 72 74, ol 76 75, oc 77 70 [(tm 76)], ov 78 (.build [zs, zb] [(0, 1, (tm 77))]), ov 79 (.bs 2 1 (.agg [zs, zb]) [(0, (tm 78))]),
 ⟨some 80, none, .appR 9 2 32 (.agg [zs, zb]) (tm 71) (tm 79) false⟩, ⟨none, none, .st 1 (tm 2) (tm 80)⟩] [0, 2, 6, 7, 27, 28, 29]) (sq (rg [ of 82 0
 9, ol 83 82, ov 84 (.icmp .eql .i64 (tm 83) (ci 10)), om 85 84, gf 86 85 true 1 9, gl 87 85 true 86, gv 88 85 true (.icmp .eql .i64 (tm 87) (ci 0)),
 oy 89 85 88, om 90 89, gl 91 90 true 2, gv 92 90 true (.len (tm 91)), gv 93 90 true (.icmp .gtr .i64 (tm 92) (ci 2)), oy 94 90 93, om 95 94, gl 96 95
 true 2, gl 97 95 true 2, gv 98 95 true (.len (tm 97)), gv 99 95 true (.arith .sub .i64 (tm 98) (ci 3)), ga 100 95 true 2 96 99, gf 101 95 true 1 100,
 gl 102 95 true 101, oy 103 95 102, om 104 103, gm 105 104 true 7, ⟨some 106, some (104, true), .call true (tm 105) [(ci 2)]⟩, oy 107 104 106, om 81
 107] [0, 2, 6, 7, 9, 27, 28, 29, 81]) (.cond (tm 81) (sq (rg [ ol 108 2, on 109 108, ov 110 (.arith .sub .i64 (tm 109) (ci 3)), om 10 110] [0, 2, 6,
 7, 10, 27, 28, 29]) (sq (rg [ oc 111 67 [(.c (.str [40]))], oc 112 70 [(.c (.str [105, 102]))], ol 113 2, om 114 10, oa 115 2 113 114, of 116 0 115,
 ol 117 116, oc 118 70 [(.c (.str [116, 104, 101, 110]))], ol 119 2, om 120 10, ov 121 (.arith .add .i64 (tm 120) (ci 1)), oa 122 2 119 121, of 123 0
 122, ol 124 123, oc 125 70 [(.c (.str [101, 108, 115, 101]))], ol 126 2, om 127 10, ov 128 (.arith .add .i64 (tm 127) (ci 2)), oa 129 2 126 128, of
 130 0 129, ol 131 130, oc 132 67 [(.c (.str [41]))], ov 133 (.bs 1 8 zs [(0, (tm 111)), (1, (tm 112)), (2, (tm 117)), (3, (tm 118)), (4, (tm 124)),
 (5, (tm 125)), (6, (tm 131)), (7, (tm 132))]), oc 134 66 [(tm 133)], om 11 134] [0, 2, 6, 7, 10, 11, 27, 28, 29]) (.reg 8 [ ol 135 2, om 136 10, ov
 137 (.sl 2 (tm 135) none (some (tm 136)) none), om 138 11, ov 139 (.build [zs, zb] [(0, 1, (tm 138))]), ov 140 (.bs 2 1 (.agg [zs, zb]) [(0, (tm
 139))]), ⟨some 141, none, .appR 6 2 32 (.agg [zs, zb]) (tm 137) (tm 140) false⟩, ⟨none, none, .st 1 (tm 2) (tm 141)⟩] [0, 2, 6, 7, 27, 28, 29]))) (sq
 (rg [ of 143 0 9, ol 144 143, ov 145 (.icmp .geq .i64 (tm 144) (ci 3)), om 146 145, gf 147 146 true 0 9, gl 148 146 true 147, gv 149 146 true (.icmp
 .lss .i64 (tm 148) (ci 10)), oy 150 146 149, om 151 150, gf 152 151 true 1 9, gl 153 151 true 152, gv 154 151 true (.icmp .eql .i64 (tm 153) (ci 0)),
 oy 155 151 154, om 156 155, gm 157 156 true 7, ⟨some 158, some (156, true), .call true (tm 157) [(ci 2)]⟩, oy 159 156 158, om 142 159] [0, 2, 6, 7, 9,
 27, 28, 29, 142]) (.cond (tm 142) (sq (rg [ ol 160 2, on 161 160, ov 162 (.arith .sub .i64 (tm 161) (ci 2)), om 12 162] [0, 2, 6, 7, 9, 12, 27, 28,
 29]) (.reg 26 [ ol 163 2, om 164 12, ov 165 (.sl 2 (tm 163) none (some (tm 164)) none), of 166 0 9, ol 167 166, ov 168 (.iaA 10 1 (tm 6) (tm 167)), ol
 169 168, ol 170 2, om 171 12, oa 172 2 170 171, of 173 0 172, ol 174 173, ol 175 2, om 176 12, ov 177 (.arith .add .i64 (tm 176) (ci 1)), oa 178 2 175
 177, of 179 0 178, ol 180 179, ⟨some 181, none, .call true (tm 169) [(tm 174), (tm 180)]⟩, of 182 0 9, ol 183 182, ov 184 (.icmp .eql .i64 (tm 183)
 (ci 9)), ov 185 (.build [zs, zb] [(0, 1, (tm 181)), (1, 1, (tm 184))]), ov 186 (.bs 2 1 (.agg [zs, zb]) [(0, (tm 185))]), ⟨some 187, none, .appR 24 2
 32 (.agg [zs, zb]) (tm 165) (tm 186) false⟩, ⟨none, none, .st 1 (tm 2) (tm 187)⟩] [0, 2, 6, 7, 27, 28, 29])) (sq (rg [ ⟨none, none, .st 1 (tm 2) (.c
 zs)⟩, ob 3 false] [2, 3]) .ret)))))))))))) (rg [ ov 188 (.arith .add .i64 (tm 29) (ci 1)), om 29 188] [0, 2, 6, 7, 27, 28, 29]))))))) (sq (.regx 0 [
 (1003, ol 189 2), (0, om 190 0), (0, on 191 190), (0, ov 192 (.icmp .leq .i64 (tm 191) (ci 256))), (0, om 193 192), (1003, gl 194 193 true 2), (0, gv
 195 193 true (.len (tm 194))), (0, gv 196 193 true (.icmp .eql .i64 (tm 195) (ci 1))), (0, oy 197 193 196), (0, om 198 197), (1003, gl 199 198 true
 2), (0, gv 200 198 true (.ia 2 (tm 199) (ci 0))), (0, gf 201 198 true 1 200), (1004, gl 202 198 true 201), (0, gv 203 198 true (.not (tm 202))), (0,
 oy 204 198 203), (1003, ⟨none, none, .st 1 (tm 2) (tm 189)⟩), (0, om 3 204)] [2, 3]) .ret)))))))
theorem a27 : AOf Tryz.prog 27 c27 [.c 2 1 false, .t 3] := mkA (fn := Tryz.f27) (c := Tryz.f27.body.getD .skip) (fz := [(10, 7), (12, 9), (16, 6), (19, 24), (700002, 1000), (700201, 1001)]) (im := [(3, 1), (3, 3), (3, 5), (3, 7), (3, 9), (3, 11)]) kp27 (by kernel_rfl) (by kernel_rfl) (by kernel_rfl) (by kernel_rfl) (by kernel_rfl)
def kp14 (r : Nat) : List Nat := match r with
  | 0 => [0]
  | 1 => [0, 8]
  | 2 => [2, 3]
  | 3 => [4, 5]
  | 4 => [4, 15]
  | 5 => [2, 3]
  | 6 => [2, 3]
  | _ => []
def c14 : ACode :=
(sq (rg [ ov 2 (.mv (.c zr)), oi 3 0] [0]) (sq (sq (rg [ om 6 0, on 7 6, ov 8 (.icmp .gtr .i64 (tm 7) (ci 256))] [0, 8]) (.cond (tm 8) (sq (rg [ ov 2
 (.mv (.c zr)), oi 3 520] [2, 3]) .ret) .skip)) (sq (rg [ om 10 0, oe 11 27 [(tm 10)], om 9 11, ox 12 0 9, ox 13 1 9, om 4 12, om 5 13] [4, 5]) (sq (sq
 (rg [ om 14 5, ot 15 14] [4, 15]) (.cond (tm 15) (sq (rg [ ov 2 (.mv (.c zr)), oi 3 520] [2, 3]) .ret) .skip)) (sq (rg [ om 16 4, ov 17 (.ia 2 (tm 16)
 (ci 0)), of 18 0 17, ol 19 18, oc 20 28 [(tm 19)], ox 21 0 20, ox 22 1 20, om 2 21, om 3 22] [2, 3]) .ret)))))
theorem a14 : AOf Tryz.prog 14 c14 [.t 2, .t 3] := mkA (fn := Tryz.f14) (c := Tryz.f14.body.getD .skip) (fz := []) (im := [(3, 1)]) kp14 (by kernel_rfl) (by kernel_rfl) (by kernel_rfl) (by kernel_rfl) (by kernel_rfl)
def kp16 (r : Nat) : List Nat := match r with
  | 0 => [0]
  | 1 => [2]
  | 2 => [2]
  | _ => []
def c16 : ACode :=
(sq (rg [ oi 2 0] [0]) (sq (rg [ om 4 0, oc 5 14 [(tm 4)], om 3 5, ox 6 0 3, ox 7 1 3, om 2 7] [2]) (sq (rg [ om 8 2, om 2 8] [2]) .ret)))
theorem a16 : AOf Tryz.prog 16 c16 [.t 2] := mkA (fn := Tryz.f16) (c := Tryz.f16.body.getD .skip) (fz := []) (im := []) kp16 (by kernel_rfl) (by kernel_rfl) (by kernel_rfl) (by kernel_rfl) (by kernel_rfl)
def kp15 (r : Nat) : List Nat := match r with
  | 0 => [0]
  | 1 => [4, 5]
  | 2 => [4, 14]
  | 3 => [2, 3]
  | 4 => [4, 6]
  | 5 => [4, 6, 7]
  | 6 => [4, 6, 7, 18]
  | 8 => [4, 6, 7, 22]
  | 9 => [4, 6, 7]
  | 10 => [4, 6, 7]
  | 7 => [4, 6, 7]
  | 11 => [2, 3]
  | _ => []
def c15 : ACode :=
(sq (rg [ ov 2 (.mv (.c zr)), oi 3 0] [0]) (sq (rg [ om 9 0, oc 10 29 [(tm 9)], om 8 10, ox 11 0 8, ox 12 1 8, om 4 11, om 5 12] [4, 5]) (sq (sq (rg [
 om 13 5, ot 14 13] [4, 14]) (.cond (tm 14) (sq (rg [ ov 2 (.mv (.c zr)), oi 3 520] [2, 3]) .ret) .skip)) (sq (rg [ ov 6 (.mv (.c zr))] [4, 6]) (sq (sq
 (rg [ oi 7 0] [4, 6, 7]) (.block 0 (.loop (sq (sq (rg [ om 15 7, om 16 4, on 17 16, ov 18 (.icmp .lss .i64 (tm 15) (tm 17))] [4, 6, 7, 18]) (.cond (tm
 18) .skip (.exit 0))) (sq (.block 1 (sq (sq (rg [ om 21 7, ov 22 (.icmp .gtr .i64 (tm 21) (ci 0))] [4, 6, 7, 22]) (.cond (tm 22) (rg [ om 23 6, ov 24
 (.sadd (tm 23) (.c (.str [32]))), om 6 24] [4, 6, 7]) .skip)) (rg [ om 25 6, om 26 4, om 27 7, oa 28 1 26 27, ol 29 28, ov 30 (.sadd (tm 25) (tm 29)),
 om 6 30] [4, 6, 7]))) (rg [ om 19 7, ov 20 (.arith .add .i64 (tm 19) (ci 1)), om 7 20] [4, 6, 7])))))) (sq (rg [ om 31 6, om 2 31, oi 3 0] [2, 3])
 .ret))))))
theorem a15 : AOf Tryz.prog 15 c15 [.t 2, .t 3] := mkA (fn := Tryz.f15) (c := Tryz.f15.body.getD .skip) (fz := []) (im := []) kp15 (by kernel_rfl) (by kernel_rfl) (by kernel_rfl) (by kernel_rfl) (by kernel_rfl)
def kp29 (r : Nat) : List Nat := match r with
  | 0 => [0]
  | 1 => [0, 10]
  | 2 => [2, 3]
  | 3 => [0, 4]
  | 4 => [0, 4, 5]
  | 5 => [0, 4, 5, 14]
  | 7 => [0, 5, 6, 7]
  | 8 => [0, 5, 6, 27]
  | 9 => [2, 3]
  | 10 => [0, 4, 5]
  | 6 => [0, 4, 5]
  | 11 => [4, 37]
  | 12 => [2, 3]
  | 13 => [2, 3]
  | _ => []
def c29 : ACode :=
(sq (rg [ ov 2 (.mv (.c zs)), ob 3 false] [0]) (sq (sq (rg [ om 8 0, on 9 8, ov 10 (.icmp .gtr .i64 (tm 9) (ci 256))] [0, 10]) (.cond (tm 10) (sq (rg [
 ov 2 (.mv (.c zs)), ob 3 false] [2, 3]) .ret) .skip)) (sq (rg [ ov 4 (.mv (.c zs))] [0, 4]) (sq (sq (rg [ oi 5 0] [0, 4, 5]) (.block 0 (.loop (sq (sq
 (rg [ om 11 5, om 12 0, on 13 12, ov 14 (.icmp .lss .i64 (tm 11) (tm 13))] [0, 4, 5, 14]) (.cond (tm 14) .skip (.exit 0))) (sq (.block 1 (sq (rg [ om
 18 4, om 19 0, om 20 5, oa 21 2 19 20, ov 22 (.ld 2 true (tm 21)), oc 23 78 [(tm 18), (tm 22)], om 17 23, ox 24 0 17, ox 25 1 17, om 6 24, om 7 25]
 [0, 5, 6, 7]) (sq (sq (rg [ om 26 7, ot 27 26] [0, 5, 6, 27]) (.cond (tm 27) (sq (rg [ ov 2 (.mv (.c zs)), ob 3 false] [2, 3]) .ret) .skip)) (rg [ om
 28 6, om 4 28] [0, 4, 5])))) (rg [ om 15 5, ov 16 (.arith .add .i64 (tm 15) (ci 1)), om 5 16] [0, 4, 5])))))) (sq (sq (rg [ om 29 4, on 30 29, ov 31
 (.icmp .neq .i64 (tm 30) (ci 1)), om 32 31, gm 33 32 false 4, gv 34 32 false (.ia 2 (tm 33) (ci 0)), gf 35 32 false 0 34, gl 36 32 false 35, oz 37 32
 36] [4, 37]) (.cond (tm 37) (sq (rg [ ov 2 (.mv (.c zs)), ob 3 false] [2, 3]) .ret) .skip)) (sq (rg [ om 38 4, ov 39 (.ia 2 (tm 38) (ci 0)), of 40 1
 39, ol 41 40, om 2 41, ob 3 true] [2, 3]) .ret))))))
theorem a29 : AOf Tryz.prog 29 c29 [.t 2, .t 3] := mkA (fn := Tryz.f29) (c := Tryz.f29.body.getD .skip) (fz := []) (im := []) kp29 (by kernel_rfl) (by kernel_rfl) (by kernel_rfl) (by kernel_rfl) (by kernel_rfl)
def kp78 (r : Nat) : List Nat := match r with
  | 0 => [0, 3]
  | 1 => [0, 3, 6]
  | 2 => [0, 3, 6, 15]
  | 3 => [4, 5]
  | 4 => [0, 3, 6, 36]
  | 5 => [0, 3, 46]
  | 6 => [4, 5]
  | 7 => [4, 5]
  | 8 => [0, 3, 6, 71]
  | 9 => [4, 5]
  | 10 => [0, 3, 6, 74]
  | 11 => [0, 6, 101]
  | 12 => [4, 5]
  | 13 => [0, 6, 7]
  | 14 => [4, 5]
  | 15 => [0, 3, 6, 153]
  | 16 => [4, 5]
  | 17 => [0, 3, 6, 8]
  | 18 => [0, 3, 6, 8, 9]
  | 19 => [0, 3, 6, 8, 9, 10]
  | 20 => [0, 3, 6, 8, 9, 10, 171]
  | 22 => [0, 3, 6, 8, 9, 10, 171, 183]
  | 23 => [0, 6, 10]
  | 24 => [0, 3, 6, 8, 9, 10, 171, 193]
  | 25 => [0, 6, 10]
  | 26 => [0, 3, 6, 8, 9, 10, 203]
  | 27 => [0, 6, 10]
  | 21 => [0, 6, 10]
  | 28 => [4, 5]
  | _ => []
def c78 : ACode :=
(sq (.reg 3 [ ⟨some 3, none, .box 0 2 (tm 1)⟩, ov 4 (.mv (.c zs)), ob 5 false] [0, 3]) (sq (rg [ om 11 0, on 12 11, om 6 12] [0, 3, 6]) (sq (sq (rg [
 of 13 0 3, ol 14 13, ov 15 (.icmp .eql .i64 (tm 14) (ci 1))] [0, 3, 6, 15]) (.cond (tm 15) (sq (.reg 20 [ ov 16 (.bs 2 0 (.agg [zb, zs]) []), om 17 0,
 ⟨some 18, none, .app 2 2 32 (tm 16) (tm 17) false⟩, of 19 1 3, ol 20 19, oc 21 98 [(tm 20)], ov 22 (.bs 1 1 zr [(0, (tm 21))]), ov 23 (.build [zb, zs]
 [(1, 1, (tm 22))]), ov 24 (.bs 2 1 (.agg [zb, zs]) [(0, (tm 23))]), ⟨some 25, none, .app 9 2 32 (tm 18) (tm 24) false⟩, of 26 1 3, ol 27 26, ov 28
 (.icmp .geq .i64 (tm 27) (ci 0)), om 29 28, gf 30 29 true 1 3, gl 31 29 true 30, gv 32 29 true (.icmp .leq .i64 (tm 31) (ci 1048576)), oy 33 29 32, om
 4 25, om 5 33] [4, 5]) .ret) .skip)) (sq (sq (rg [ of 34 0 3, ol 35 34, ov 36 (.icmp .eql .i64 (tm 35) (ci 2))] [0, 3, 6, 36]) (.cond (tm 36) (sq (sq
 (rg [ of 37 1 3, ol 38 37, ov 39 (.icmp .lss .i64 (tm 38) (ci 0)), om 40 39, gf 41 40 false 1 3, gl 42 40 false 41, ⟨some 43, some (40, false), .call
 true (.c (.fn (.func 99) [] [])) []⟩, gv 44 40 false (.len (tm 43)), gv 45 40 false (.icmp .geq .i64 (tm 42) (tm 44)), oz 46 40 45] [0, 3, 46]) (.cond
 (tm 46) (sq (rg [ ov 4 (.mv (.c zs)), ob 5 false] [4, 5]) .ret) .skip)) (sq (.reg 14 [ ov 47 (.bs 2 0 (.agg [zb, zs]) []), om 48 0, ⟨some 49, none,
 .app 2 2 32 (tm 47) (tm 48) false⟩, oc 50 99 [], of 51 1 3, ol 52 51, oa 53 1 50 52, ol 54 53, ov 55 (.bs 1 1 zr [(0, (tm 54))]), ov 56 (.build [zb,
 zs] [(1, 1, (tm 55))]), ov 57 (.bs 2 1 (.agg [zb, zs]) [(0, (tm 56))]), ⟨some 58, none, .app 11 2 32 (tm 49) (tm 57) false⟩, om 4 58, ob 5 true] [4,
 5]) .ret)) .skip)) (sq (sq (rg [ of 59 1 3, ol 60 59, ov 61 (.icmp .neq .i64 (tm 60) (ci 0)), om 62 61, gf 63 62 false 0 3, gl 64 62 false 63, gv 65
 62 false (.icmp .lss .i64 (tm 64) (ci 3)), oz 66 62 65, om 67 66, gf 68 67 false 0 3, gl 69 67 false 68, gv 70 67 false (.icmp .gtr .i64 (tm 69) (ci
 10)), oz 71 67 70] [0, 3, 6, 71]) (.cond (tm 71) (sq (rg [ ov 4 (.mv (.c zs)), ob 5 false] [4, 5]) .ret) .skip)) (sq (sq (rg [ of 72 0 3, ol 73 72, ov
 74 (.icmp .eql .i64 (tm 73) (ci 10))] [0, 3, 6, 74]) (.cond (tm 74) (sq (sq (rg [ om 75 6, ov 76 (.icmp .lss .i64 (tm 75) (ci 3)), om 77 76, gm 78 77
 false 0, gm 79 77 false 6, gv 80 77 false (.arith .sub .i64 (tm 79) (ci 3)), ga 81 77 false 2 78 80, gf 82 77 false 0 81, gl 83 77 false 82, gv 84 77
 false (.not (tm 83)), oz 85 77 84, om 86 85, gm 87 86 false 0, gm 88 86 false 6, gv 89 86 false (.arith .sub .i64 (tm 88) (ci 2)), ga 90 86 false 2 87
 89, gf 91 86 false 0 90, gl 92 86 false 91, oz 93 86 92, om 94 93, gm 95 94 false 0, gm 96 94 false 6, gv 97 94 false (.arith .sub .i64 (tm 96) (ci
 1)), ga 98 94 false 2 95 97, gf 99 94 false 0 98, gl 100 94 false 99, oz 101 94 100] [0, 6, 101]) (.cond (tm 101) (sq (rg [ ov 4 (.mv (.c zs)), ob 5
 false] [4, 5]) .ret) .skip)) (sq (rg [ ov 102 (.bs 1 2 zr [(0, (.c (.str [40]))), (1, (.c (.str [105, 102])))]), om 103 0, om 104 6, ov 105 (.arith
 .sub .i64 (tm 104) (ci 3)), oa 106 2 103 105, of 107 1 106, ol 108 107, ov 109 (.bs 1 1 zr [(0, (.c (.str [116, 104, 101, 110])))]), om 110 0, om 111
 6, ov 112 (.arith .sub .i64 (tm 111) (ci 2)), oa 113 2 110 112, of 114 1 113, ol 115 114, ov 116 (.bs 1 1 zr [(0, (.c (.str [101, 108, 115, 101])))]),
 om 117 0, om 118 6, ov 119 (.arith .sub .i64 (tm 118) (ci 1)), oa 120 2 117 119, of 121 1 120, ol 122 121, ov 123 (.bs 1 1 zr [(0, (.c (.str
 [41])))]), ov 124 (.bs 1 7 zs [(0, (tm 102)), (1, (tm 108)), (2, (tm 109)), (3, (tm 115)), (4, (tm 116)), (5, (tm 122)), (6, (tm 123))]), oc 125 100
 [(tm 124)], om 7 125] [0, 6, 7]) (sq (.reg 12 [ ov 126 (.bs 2 0 (.agg [zb, zs]) []), om 127 0, om 128 6, ov 129 (.arith .sub .i64 (tm 128) (ci 3)), ov
 130 (.sl 2 (tm 127) none (some (tm 129)) none), ⟨some 131, none, .app 5 2 32 (tm 126) (tm 130) false⟩, om 132 7, ov 133 (.build [zb, zs] [(1, 1, (tm
 132))]), ov 134 (.bs 2 1 (.agg [zb, zs]) [(0, (tm 133))]), ⟨some 135, none, .app 9 2 32 (tm 131) (tm 134) false⟩, om 4 135, ob 5 true] [4, 5]) .ret)))
 .skip)) (sq (sq (rg [ om 136 6, ov 137 (.icmp .lss .i64 (tm 136) (ci 2)), om 138 137, gm 139 138 false 0, gm 140 138 false 6, gv 141 138 false (.arith
 .sub .i64 (tm 140) (ci 2)), ga 142 138 false 2 139 141, gf 143 138 false 0 142, gl 144 138 false 143, oz 145 138 144, om 146 145, gm 147 146 false 0,
 gm 148 146 false 6, gv 149 146 false (.arith .sub .i64 (tm 148) (ci 1)), ga 150 146 false 2 147 149, gf 151 146 false 0 150, gl 152 146 false 151, oz
 153 146 152] [0, 3, 6, 153]) (.cond (tm 153) (sq (rg [ ov 4 (.mv (.c zs)), ob 5 false] [4, 5]) .ret) .skip)) (sq (rg [ om 154 0, om 155 6, ov 156
 (.arith .sub .i64 (tm 155) (ci 2)), oa 157 2 154 156, of 158 1 157, ol 159 158, om 8 159] [0, 3, 6, 8]) (sq (rg [ om 160 0, om 161 6, ov 162 (.arith
 .sub .i64 (tm 161) (ci 1)), oa 163 2 160 162, of 164 1 163, ol 165 164, om 9 165] [0, 3, 6, 8, 9]) (sq (.reg 6 [ of 166 0 3, ol 167 166, ov 168 (.icmp
 .eql .i64 (tm 167) (ci 9)), ov 169 (.build [zb, zs] [(0, 1, (tm 168))]), ⟨some 10, none, .alloc 4 [zb, zs]⟩, ⟨none, none, .st 2 (tm 10) (tm 169)⟩] [0,
 3, 6, 8, 9, 10]) (sq (sq (rg [ of 170 0 3, ol 171 170] [0, 3, 6, 8, 9, 10, 171]) (.block 0 (sq (rg [ ov 184 (.icmp .eql .i64 (tm 171) (ci 7)), om 183
 184] [0, 3, 6, 8, 9, 10, 171, 183]) (.cond (tm 183) (rg [ ov 185 (.bs 1 2 zr [(0, (.c (.str [109, 105, 110]))), (1, (.c (.str [40])))]), om 186 8, ov
 187 (.bs 1 1 zr [(0, (.c (.str [44])))]), om 188 9, ov 189 (.bs 1 1 zr [(0, (.c (.str [41])))]), ov 190 (.bs 1 5 zs [(0, (tm 185)), (1, (tm 186)), (2,
 (tm 187)), (3, (tm 188)), (4, (tm 189))]), oc 191 100 [(tm 190)], of 192 1 10, ⟨none, none, .st 1 (tm 192) (tm 191)⟩] [0, 6, 10]) (sq (rg [ ov 194
 (.icmp .eql .i64 (tm 171) (ci 8)), om 193 194] [0, 3, 6, 8, 9, 10, 171, 193]) (.cond (tm 193) (rg [ ov 195 (.bs 1 2 zr [(0, (.c (.str [109, 97,
 120]))), (1, (.c (.str [40])))]), om 196 8, ov 197 (.bs 1 1 zr [(0, (.c (.str [44])))]), om 198 9, ov 199 (.bs 1 1 zr [(0, (.c (.str [41])))]), ov 200
 (.bs 1 5 zs [(0, (tm 195)), (1, (tm 196)), (2, (tm 197)), (3, (tm 198)), (4, (tm 199))]), oc 201 100 [(tm 200)], of 202 1 10, ⟨none, none, .st 1 (tm
 202) (tm 201)⟩] [0, 6, 10]) (sq (rg [ ov 204 (.icmp .eql .i64 (tm 171) (ci 9)), om 203 204] [0, 3, 6, 8, 9, 10, 203]) (.cond (tm 203) (rg [ om 205 8,
 ov 206 (.bs 1 1 zr [(0, (.c (.str [60])))]), om 207 9, ov 208 (.bs 1 3 zs [(0, (tm 205)), (1, (tm 206)), (2, (tm 207))]), oc 209 100 [(tm 208)], of
 210 1 10, ⟨none, none, .st 1 (tm 210) (tm 209)⟩] [0, 6, 10]) (rg [ ov 172 (.bs 1 1 zr [(0, (.c (.str [40])))]), om 173 8, of 174 0 3, ol 175 174, oc
 176 101 [(tm 175)], ov 177 (.bs 1 1 zr [(0, (tm 176))]), om 178 9, ov 179 (.bs 1 1 zr [(0, (.c (.str [41])))]), ov 180 (.bs 1 5 zs [(0, (tm 172)), (1,
 (tm 173)), (2, (tm 177)), (3, (tm 178)), (4, (tm 179))]), oc 181 100 [(tm 180)], of 182 1 10, ⟨none, none, .st 1 (tm 182) (tm 181)⟩] [0, 6,
 10]))))))))) (sq (.reg 11 [ ov 211 (.bs 2 0 (.agg [zb, zs]) []), om 212 0, om 213 6, ov 214 (.arith .sub .i64 (tm 213) (ci 2)), ov 215 (.sl 2 (tm 212)
 none (some (tm 214)) none), ⟨some 216, none, .app 5 2 32 (tm 211) (tm 215) false⟩, ov 217 (.ld 2 true (tm 10)), ov 218 (.bs 2 1 (.agg [zb, zs]) [(0,
 (tm 217))]), ⟨some 219, none, .app 8 2 32 (tm 216) (tm 218) false⟩, om 4 219, ob 5 true] [4, 5]) .ret))))))))))))
theorem l78 : Callable Tryz.prog 78 := ⟨Tryz.f78, by kernel_rfl, by kernel_rfl, by kernel_rfl⟩
theorem a78 : AOf Tryz.prog 78 c78 [.t 4, .t 5] := mkA (fn := Tryz.f78) (c := Tryz.f78.body.getD .skip) (fz := []) (im := []) kp78 (by kernel_rfl) (by kernel_rfl) (by kernel_rfl) (by kernel_rfl) (by kernel_rfl)
def kp100 (r : Nat) : List Nat := match r with
  | 0 => [0]
  | 1 => [0, 3]
  | 2 => [0, 3, 4]
  | 3 => [0, 3, 4, 8]
  | 5 => [0, 3, 4]
  | 4 => [0, 3, 4]
  | 6 => [2]
  | _ => []
def c100 : ACode :=
(sq (rg [ ov 2 (.mv (.c zs))] [0]) (sq (rg [ ov 3 (.mv (.c zs))] [0, 3]) (sq (sq (rg [ oi 4 0] [0, 3, 4]) (.block 0 (.loop (sq (sq (rg [ om 5 4, om 6
 0, on 7 6, ov 8 (.icmp .lss .i64 (tm 5) (tm 7))] [0, 3, 4, 8]) (.cond (tm 8) .skip (.exit 0))) (sq (.block 1 (.reg 7 [ om 11 3, om 12 0, om 13 4, oa
 14 1 12 13, ol 15 14, ⟨some 16, none, .app 5 1 16 (tm 11) (tm 15) false⟩, om 3 16] [0, 3, 4])) (rg [ om 9 4, ov 10 (.arith .add .i64 (tm 9) (ci 1)),
 om 4 10] [0, 3, 4])))))) (sq (rg [ om 17 3, om 2 17] [2]) .ret))))
theorem l100 : Callable Tryz.prog 100 := ⟨Tryz.f100, by kernel_rfl, by kernel_rfl, by kernel_rfl⟩
theorem a100 : AOf Tryz.prog 100 c100 [.t 2] := mkA (fn := Tryz.f100) (c := Tryz.f100.body.getD .skip) (fz := []) (im := []) kp100 (by kernel_rfl) (by kernel_rfl) (by kernel_rfl) (by kernel_rfl) (by kernel_rfl)
def kp101 (r : Nat) : List Nat := match r with
  | 0 => [0]
  | 1 => [3]
  | 2 => [3, 4]
  | 3 => [2]
  | 4 => [3, 6]
  | 5 => [2]
  | 6 => [3, 8]
  | 7 => [2]
  | 8 => [10]
  | 9 => [2]
  | 10 => [2]
  | _ => []
def c101 : ACode :=
(sq (rg [ ov 2 (.mv (.c zr))] [0]) (sq (sq (rg [ om 3 0] [3]) (.block 0 (sq (rg [ ov 5 (.icmp .eql .i64 (tm 3) (ci 3)), om 4 5] [3, 4]) (.cond (tm 4)
 (sq (rg [ ov 2 (.mv (.c (.str [43])))] [2]) .ret) (sq (rg [ ov 7 (.icmp .eql .i64 (tm 3) (ci 4)), om 6 7] [3, 6]) (.cond (tm 6) (sq (rg [ ov 2 (.mv
 (.c (.str [45])))] [2]) .ret) (sq (rg [ ov 9 (.icmp .eql .i64 (tm 3) (ci 5)), om 8 9] [3, 8]) (.cond (tm 8) (sq (rg [ ov 2 (.mv (.c (.str [42])))]
 [2]) .ret) (sq (rg [ ov 11 (.icmp .eql .i64 (tm 3) (ci 6)), om 10 11] [10]) (.cond (tm 10) (sq (rg [ ov 2 (.mv (.c (.str [47])))] [2]) .ret)
 .skip)))))))))) (sq (rg [ ov 2 (.mv (.c zr))] [2]) .ret)))
theorem a101 : AOf Tryz.prog 101 c101 [.t 2] := mkA (fn := Tryz.f101) (c := Tryz.f101.body.getD .skip) (fz := []) (im := []) kp101 (by kernel_rfl) (by kernel_rfl) (by kernel_rfl) (by kernel_rfl) (by kernel_rfl)
def kp17 (r : Nat) : List Nat := match r with
  | 0 => [0]
  | 1 => [4]
  | 2 => [11]
  | 3 => [2]
  | 4 => [2]
  | _ => []
def c17 : ACode :=
(sq (rg [ oi 2 0] [0]) (sq (rg [ om 6 0, oc 7 29 [(tm 6)], om 5 7, ox 8 0 5, ox 9 1 5, om 3 8, om 4 9] [4]) (sq (sq (rg [ om 10 4, ot 11 10] [11])
 (.cond (tm 11) (sq (rg [ oi 2 520] [2]) .ret) .skip)) (sq (rg [ oi 2 0] [2]) .ret))))
theorem a17 : AOf Tryz.prog 17 c17 [.t 2] := mkA (fn := Tryz.f17) (c := Tryz.f17.body.getD .skip) (fz := []) (im := []) kp17 (by kernel_rfl) (by kernel_rfl) (by kernel_rfl) (by kernel_rfl) (by kernel_rfl)
end Go.AM
end
section
set_option maxRecDepth 20000
set_option linter.all false
namespace Go.AM
open Go.Proofs
def kp18 (r : Nat) : List Nat := match r with
  | 0 => [0, 1]
  | 1 => [0, 1, 5]
  | 2 => [0, 1, 5, 19]
  | 3 => [4, 5]
  | 4 => [0, 1, 29]
  | 5 => [4, 5]
  | 6 => [0, 1, 6]
  | 7 => [0, 1, 6, 7]
  | 8 => [0, 1, 6, 7, 8]
  | 9 => [1, 6, 7, 8, 32, 33, 34]
  | 10 => [1, 6, 7, 8, 32, 33, 34, 35]
  | 11 => [1, 6, 7, 8, 10, 32, 33, 34]
  | 12 => [1, 6, 7, 8, 10, 32, 33, 34, 39]
  | 15 => [1, 6, 7, 8, 10, 32, 33, 34, 39, 54]
  | 16 => [1, 6, 7, 8, 32, 33, 34]
  | 17 => [1, 6, 7, 8, 10, 32, 33, 34, 39, 61]
  | 18 => [1, 6, 7, 8, 32, 33, 34]
  | 19 => [1, 6, 7, 8, 10, 32, 33, 34, 71]
  | 20 => [1, 6, 7, 8, 11, 12, 13, 32, 33, 34]
  | 21 => [1, 6, 7, 8, 11, 12, 32, 33, 34, 80]
  | 22 => [1, 6, 7, 8, 11, 32, 33, 34]
  | 23 => [1, 6, 7, 8, 32, 33, 34]
  | 13 => [1, 6, 7, 8, 10, 14, 15, 32, 33, 34]
  | 14 => [1, 6, 7, 8, 32, 33, 34]
  | 24 => [1, 6, 7, 8, 32, 33, 34]
  | 25 => [4, 5]
  | _ => []
def c18 : ACode :=
(sq (rg [ oi 4 0, oi 5 0] [0, 1]) (sq (sq (rg [ om 16 0, oc 17 16 [(tm 16)], om 5 17] [0, 1, 5]) (sq (rg [ om 18 5, ov 19 (.icmp .neq .i64 (tm 18) (ci
 0))] [0, 1, 5, 19]) (.cond (tm 19) (sq (rg [ om 20 5, oi 4 0, om 5 20] [4, 5]) .ret) .skip))) (sq (sq (rg [ om 21 1, on 22 21, oc 23 30 [], on 24 23,
 ov 25 (.icmp .neq .i64 (tm 22) (tm 24)), om 26 25, gm 27 26 false 1, ⟨some 28, some (26, false), .call true (.c (.fn (.func 31) [] [])) [(tm 27), (.c
 (.fn (.func 32) [] []))]⟩, oz 29 26 28] [0, 1, 29]) (.cond (tm 29) (sq (rg [ oi 4 0, oi 5 1] [4, 5]) .ret) .skip)) (sq (.reg 3 [ ov 30 (.build
 [.nilfn, .nilfn, .nilfn, .nilfn, .nilfn, .nilfn, .nilfn, .nilfn, .nilfn, .nilfn] [(3, 1, (.c (.fn (.func 33) [] []))), (4, 1, (.c (.fn (.func 35) []
 []))), (5, 1, (.c (.fn (.func 36) [] []))), (6, 1, (.c (.fn (.func 37) [] []))), (7, 1, (.c (.fn (.func 38) [] []))), (8, 1, (.c (.fn (.func 39) []
 []))), (9, 1, (.c (.fn (.func 40) [] [])))]), ⟨some 6, none, .alloc 1 [.nilfn, .nilfn, .nilfn, .nilfn, .nilfn, .nilfn, .nilfn, .nilfn, .nilfn,
 .nilfn]⟩, ⟨none, none, .st 10 (tm 6) (tm 30)⟩] [0, 1, 6]) (sq (.reg 1 [ ⟨some 7, none, .alloc 0 [zs]⟩] [0, 1, 6, 7]) (sq (rg [ ov 31 (.fn (.func 41)
 [] [(tm 7)]), om 8 31] [0, 1, 6, 7, 8]) (sq (sq (rg [ om 32 0, on 33 32, oi 34 0] [1, 6, 7, 8, 32, 33, 34]) (.block 0 (.loop (sq (rg [ ov 35 (.icmp
 .lss .i64 (tm 34) (tm 33))] [1, 6, 7, 8, 32, 33, 34, 35]) (sq (.cond (tm 35) .skip (.exit 0)) (sq (.block 1 (sq (.reg 4 [ oa 36 2 32 34, ov 37 (.ld 2
 true (tm 36)), ⟨some 10, none, .alloc 2 [z0, z0]⟩, ⟨none, none, .st 2 (tm 10) (tm 37)⟩] [1, 6, 7, 8, 10, 32, 33, 34]) (sq (rg [ of 38 0 10, ol 39 38]
 [1, 6, 7, 8, 10, 32, 33, 34, 39]) (.block 2 (sq (rg [ ov 55 (.icmp .eql .i64 (tm 39) (ci 1)), om 54 55] [1, 6, 7, 8, 10, 32, 33, 34, 39, 54]) (.cond
 (tm 54) (.reg 6 [ ol 56 7, of 57 1 10, ol 58 57, ov 59 (.bs 1 1 z0 [(0, (tm 58))]), ⟨some 60, none, .appR 4 1 8 z0 (tm 56) (tm 59) false⟩, ⟨none,
 none, .st 1 (tm 7) (tm 60)⟩] [1, 6, 7, 8, 32, 33, 34]) (sq (rg [ ov 62 (.icmp .eql .i64 (tm 39) (ci 2)), om 61 62] [1, 6, 7, 8, 10, 32, 33, 34, 39,
 61]) (.cond (tm 61) (.reg 9 [ ol 63 7, om 64 1, of 65 1 10, ol 66 65, oa 67 1 64 66, ol 68 67, ov 69 (.bs 1 1 z0 [(0, (tm 68))]), ⟨some 70, none,
 .appR 7 1 8 z0 (tm 63) (tm 69) false⟩, ⟨none, none, .st 1 (tm 7) (tm 70)⟩] [1, 6, 7, 8, 32, 33, 34]) (sq (rg [ ov 72 (.icmp .eql .i64 (tm 39) (ci
 10)), om 71 72] [1, 6, 7, 8, 10, 32, 33, 34, 71]) (.cond (tm 71) (sq (rg [ om 73 8, ⟨some 74, none, .call false (tm 73) []⟩, om 75 8, ⟨some 76, none,
 .call false (tm 75) []⟩, om 77 8, ⟨some 78, none, .call false (tm 77) []⟩, om 11 74, om 12 76, om 13 78] [1, 6, 7, 8, 11, 12, 13, 32, 33, 34]) (sq (sq
 (rg [ om 79 13, ov 80 (.icmp .neq .i64 (tm 79) (ci 0))] [1, 6, 7, 8, 11, 12, 32, 33, 34, 80]) (.cond (tm 80) (rg [ om 81 12, om 11 81] [1, 6, 7, 8,
 11, 32, 33, 34]) .skip)) (.reg 5 [ ol 82 7, om 83 11, ov 84 (.bs 1 1 z0 [(0, (tm 83))]), ⟨some 85, none, .appR 3 1 8 z0 (tm 82) (tm 84) false⟩, ⟨none,
 none, .st 1 (tm 7) (tm 85)⟩] [1, 6, 7, 8, 32, 33, 34]))) (sq (rg [ om 40 8, ⟨some 41, none, .call false (tm 40) []⟩, om 42 8, ⟨some 43, none, .call
 false (tm 42) []⟩, om 14 41, om 15 43] [1, 6, 7, 8, 10, 14, 15, 32, 33, 34]) (.reg 11 [ ol 44 7, of 45 0 10, ol 46 45, ov 47 (.iaA 10 1 (tm 6) (tm
 46)), ol 48 47, om 49 15, om 50 14, ⟨some 51, none, .call true (tm 48) [(tm 49), (tm 50)]⟩, ov 52 (.bs 1 1 z0 [(0, (tm 51))]), ⟨some 53, none, .appR 9
 1 8 z0 (tm 44) (tm 52) false⟩, ⟨none, none, .st 1 (tm 7) (tm 53)⟩] [1, 6, 7, 8, 32, 33, 34])))))))))))) (rg [ ov 86 (.arith .add .i64 (tm 34) (ci 1)),
 om 34 86] [1, 6, 7, 8, 32, 33, 34]))))))) (sq (rg [ ol 87 7, ov 88 (.ia 1 (tm 87) (ci 0)), ol 89 88, ov 90 (.mnmx false .i64 [(ci 1048576), (tm 89)]),
 ov 91 (.mnmx true .i64 [(ci 0), (tm 90)]), om 4 91, oi 5 0] [4, 5]) .ret))))))))
theorem a18 : AOf Tryz.prog 18 c18 [.t 4, .t 5] := mkA (fn := Tryz.f18) (c := Tryz.f18.body.getD .skip) (fz := [(16, 4), (18, 7), (23, 3), (14, 9)]) (im := [(13, 1), (13, 3), (20, 1), (20, 3), (20, 5)]) kp18 (by kernel_rfl) (by kernel_rfl) (by kernel_rfl) (by kernel_rfl) (by kernel_rfl)
def kp31 (r : Nat) : List Nat := match r with
  | 0 => [0, 1]
  | 1 => [4]
  | _ => []
def c31 : ACode :=
(sq (rg [ ob 4 false] [0, 1]) (sq (rg [ om 5 0, om 6 1, oc 7 79 [(tm 5), (tm 6)], ov 8 (.icmp .geq .i64 (tm 7) (ci 0)), om 4 8] [4]) .ret))
theorem a31 : AOf Tryz.prog 31 c31 [.t 4] := mkA (fn := Tryz.f31) (c := Tryz.f31.body.getD .skip) (fz := []) (im := []) kp31 (by kernel_rfl) (by kernel_rfl) (by kernel_rfl) (by kernel_rfl) (by kernel_rfl)
def kp32 (r : Nat) : List Nat := match r with
  | 0 => [0]
  | 1 => [2]
  | _ => []
def c32 : ACode :=
(sq (rg [ ob 2 false] [0]) (sq (rg [ om 3 0, ov 4 (.icmp .lss .i64 (tm 3) (ci 0)), om 5 4, gm 6 5 false 0, gv 7 5 false (.icmp .gtr .i64 (tm 6) (ci
 1048576)), oz 8 5 7, om 2 8] [2]) .ret))
theorem a32 : AOf Tryz.prog 32 c32 [.t 2] := mkA (fn := Tryz.f32) (c := Tryz.f32.body.getD .skip) (fz := []) (im := []) kp32 (by kernel_rfl) (by kernel_rfl) (by kernel_rfl) (by kernel_rfl) (by kernel_rfl)
def kp33 (r : Nat) : List Nat := match r with
  | 0 => [0, 1]
  | 1 => [4]
  | _ => []
def c33 : ACode :=
(sq (rg [ oi 4 0] [0, 1]) (sq (rg [ om 5 0, om 6 1, ov 7 (.arith .add .i64 (tm 5) (tm 6)), oc 8 34 [(tm 7)], om 4 8] [4]) .ret))
theorem a33 : AOf Tryz.prog 33 c33 [.t 4] := mkA (fn := Tryz.f33) (c := Tryz.f33.body.getD .skip) (fz := []) (im := []) kp33 (by kernel_rfl) (by kernel_rfl) (by kernel_rfl) (by kernel_rfl) (by kernel_rfl)
def kp34 (r : Nat) : List Nat := match r with
  | 0 => [0]
  | 1 => [2]
  | _ => []
def c34 : ACode :=
(sq (rg [ oi 2 0] [0]) (sq (rg [ om 3 0, ov 4 (.mnmx false .i64 [(ci 1099511627776), (tm 3)]), ov 5 (.mnmx true .i64 [(ci (-1099511627776)), (tm 4)]),
 om 2 5] [2]) .ret))
theorem a34 : AOf Tryz.prog 34 c34 [.t 2] := mkA (fn := Tryz.f34) (c := Tryz.f34.body.getD .skip) (fz := []) (im := []) kp34 (by kernel_rfl) (by kernel_rfl) (by kernel_rfl) (by kernel_rfl) (by kernel_rfl)
def kp35 (r : Nat) : List Nat := match r with
  | 0 => [0, 1]
  | 1 => [4]
  | _ => []
def c35 : ACode :=
(sq (rg [ oi 4 0] [0, 1]) (sq (rg [ om 5 0, om 6 1, ov 7 (.arith .sub .i64 (tm 5) (tm 6)), oc 8 34 [(tm 7)], om 4 8] [4]) .ret))
theorem a35 : AOf Tryz.prog 35 c35 [.t 4] := mkA (fn := Tryz.f35) (c := Tryz.f35.body.getD .skip) (fz := []) (im := []) kp35 (by kernel_rfl) (by kernel_rfl) (by kernel_rfl) (by kernel_rfl) (by kernel_rfl)
def kp36 (r : Nat) : List Nat := match r with
  | 0 => [0, 1]
  | 1 => [0, 1, 18]
  | 2 => [23]
  | 3 => [4]
  | 4 => [4]
  | 5 => [4]
  | _ => []
def c36 : ACode :=
(sq (rg [ oi 4 0] [0, 1]) (sq (sq (rg [ om 5 1, ov 6 (.icmp .neq .i64 (tm 5) (ci 0)), om 7 6, gm 8 7 true 0, gm 9 7 true 0, gv 10 7 true (.neg .i64 (tm
 9)), gv 11 7 true (.mnmx true .i64 [(tm 8), (tm 10)]), gm 12 7 true 1, gm 13 7 true 1, gv 14 7 true (.neg .i64 (tm 13)), gv 15 7 true (.mnmx true .i64
 [(tm 12), (tm 14)]), gv 16 7 true (.arith .quo .i64 (ci 1099511627776) (tm 15)), gv 17 7 true (.icmp .gtr .i64 (tm 11) (tm 16)), oy 18 7 17] [0, 1,
 18]) (.cond (tm 18) (sq (sq (rg [ om 19 0, ov 20 (.icmp .lss .i64 (tm 19) (ci 0)), om 21 1, ov 22 (.icmp .lss .i64 (tm 21) (ci 0)), ov 23 (.beq true
 (tm 20) (tm 22))] [23]) (.cond (tm 23) (sq (rg [ oi 4 (-1099511627776)] [4]) .ret) .skip)) (sq (rg [ oi 4 1099511627776] [4]) .ret)) .skip)) (sq (rg [
 om 24 0, om 25 1, ov 26 (.arith .mul .i64 (tm 24) (tm 25)), om 4 26] [4]) .ret)))
theorem a36 : AOf Tryz.prog 36 c36 [.t 4] := mkA (fn := Tryz.f36) (c := Tryz.f36.body.getD .skip) (fz := []) (im := []) kp36 (by kernel_rfl) (by kernel_rfl) (by kernel_rfl) (by kernel_rfl) (by kernel_rfl)
def kp37 (r : Nat) : List Nat := match r with
  | 0 => [0, 1]
  | 1 => [0, 1, 7]
  | 2 => [4]
  | 3 => [0, 1, 5]
  | 4 => [5, 21]
  | 5 => [5]
  | 6 => [4]
  | _ => []
def c37 : ACode :=
(sq (rg [ oi 4 0] [0, 1]) (sq (sq (rg [ om 6 1, ov 7 (.icmp .eql .i64 (tm 6) (ci 0))] [0, 1, 7]) (.cond (tm 7) (sq (rg [ oi 4 0] [4]) .ret) .skip)) (sq
 (rg [ om 8 0, om 9 1, ov 10 (.arith .quo .i64 (tm 8) (tm 9)), om 5 10] [0, 1, 5]) (sq (sq (rg [ om 11 0, om 12 1, ov 13 (.arith .rem .i64 (tm 11) (tm
 12)), ov 14 (.icmp .neq .i64 (tm 13) (ci 0)), om 15 14, gm 16 15 true 0, gv 17 15 true (.icmp .lss .i64 (tm 16) (ci 0)), gm 18 15 true 1, gv 19 15
 true (.icmp .lss .i64 (tm 18) (ci 0)), gv 20 15 true (.beq true (tm 17) (tm 19)), oy 21 15 20] [5, 21]) (.cond (tm 21) (rg [ om 22 5, ov 23 (.arith
 .sub .i64 (tm 22) (ci 1)), om 5 23] [5]) .skip)) (sq (rg [ om 24 5, om 4 24] [4]) .ret)))))
theorem a37 : AOf Tryz.prog 37 c37 [.t 4] := mkA (fn := Tryz.f37) (c := Tryz.f37.body.getD .skip) (fz := []) (im := []) kp37 (by kernel_rfl) (by kernel_rfl) (by kernel_rfl) (by kernel_rfl) (by kernel_rfl)
def kp38 (r : Nat) : List Nat := match r with
  | 0 => [0, 1]
  | 1 => [4]
  | _ => []
def c38 : ACode :=
(sq (rg [ oi 4 0] [0, 1]) (sq (rg [ om 5 0, om 6 1, ov 7 (.mnmx false .i64 [(tm 5), (tm 6)]), om 4 7] [4]) .ret))
theorem a38 : AOf Tryz.prog 38 c38 [.t 4] := mkA (fn := Tryz.f38) (c := Tryz.f38.body.getD .skip) (fz := []) (im := []) kp38 (by kernel_rfl) (by kernel_rfl) (by kernel_rfl) (by kernel_rfl) (by kernel_rfl)
def kp39 (r : Nat) : List Nat := match r with
  | 0 => [0, 1]
  | 1 => [4]
  | _ => []
def c39 : ACode :=
(sq (rg [ oi 4 0] [0, 1]) (sq (rg [ om 5 0, om 6 1, ov 7 (.mnmx true .i64 [(tm 5), (tm 6)]), om 4 7] [4]) .ret))
theorem a39 : AOf Tryz.prog 39 c39 [.t 4] := mkA (fn := Tryz.f39) (c := Tryz.f39.body.getD .skip) (fz := []) (im := []) kp39 (by kernel_rfl) (by kernel_rfl) (by kernel_rfl) (by kernel_rfl) (by kernel_rfl)
def kp40 (r : Nat) : List Nat := match r with
  | 0 => [0, 1]
  | 1 => [7]
  | 2 => [4]
  | 3 => [4]
  | _ => []
def c40 : ACode :=
(sq (rg [ oi 4 0] [0, 1]) (sq (sq (rg [ om 5 0, om 6 1, ov 7 (.icmp .lss .i64 (tm 5) (tm 6))] [7]) (.cond (tm 7) (sq (rg [ oi 4 1] [4]) .ret) .skip))
 (sq (rg [ oi 4 0] [4]) .ret)))
theorem a40 : AOf Tryz.prog 40 c40 [.t 4] := mkA (fn := Tryz.f40) (c := Tryz.f40.body.getD .skip) (fz := []) (im := []) kp40 (by kernel_rfl) (by kernel_rfl) (by kernel_rfl) (by kernel_rfl) (by kernel_rfl)
def kp41 (r : Nat) : List Nat := match r with
  | 0 => [0]
  | 1 => [0, 2]
  | 2 => [2]
  | 3 => [1]
  | _ => []
def c41 : ACode :=
(sq (rg [ oi 1 0] [0]) (sq (rg [ ol 3 0, ol 4 0, on 5 4, ov 6 (.arith .sub .i64 (tm 5) (ci 1)), oa 7 1 3 6, ol 8 7, om 2 8] [0, 2]) (sq (rg [ ol 9 0,
 ol 10 0, on 11 10, ov 12 (.arith .sub .i64 (tm 11) (ci 1)), ov 13 (.sl 1 (tm 9) none (some (tm 12)) none), ⟨none, none, .st 1 (tm 0) (tm 13)⟩] [2])
 (sq (rg [ om 14 2, om 1 14] [1]) .ret))))
theorem a41 : AOf Tryz.prog 41 c41 [.t 1] := mkA (fn := Tryz.f41) (c := Tryz.f41.body.getD .skip) (fz := []) (im := []) kp41 (by kernel_rfl) (by kernel_rfl) (by kernel_rfl) (by kernel_rfl) (by kernel_rfl)
def kp42 (r : Nat) : List Nat := match r with
  | 0 => [0, 1, 2]
  | 1 => [1, 2, 7]
  | 2 => [1, 2, 7, 8]
  | 3 => [6]
  | 4 => [1, 2, 7, 14]
  | 5 => [6]
  | 6 => [1, 2, 7, 20]
  | 7 => [6]
  | 8 => [1, 2, 7, 25]
  | 9 => [6]
  | 10 => [1, 2, 7, 30]
  | 11 => [6]
  | 12 => [1, 2, 35]
  | 13 => [6]
  | 14 => [42]
  | 15 => [6]
  | 16 => [6]
  | _ => []
def c42 : ACode :=
(sq (rg [ oi 6 0] [0, 1, 2]) (sq (sq (rg [ om 7 0] [1, 2, 7]) (.block 0 (sq (rg [ ov 9 (.icmp .eql .i64 (tm 7) (ci 3)), om 8 9] [1, 2, 7, 8]) (.cond
 (tm 8) (sq (rg [ om 10 1, om 11 2, ov 12 (.arith .add .i64 (tm 10) (tm 11)), oc 13 80 [(tm 12)], om 6 13] [6]) .ret) (sq (rg [ ov 15 (.icmp .eql .i64
 (tm 7) (ci 4)), om 14 15] [1, 2, 7, 14]) (.cond (tm 14) (sq (rg [ om 16 1, om 17 2, ov 18 (.arith .sub .i64 (tm 16) (tm 17)), oc 19 80 [(tm 18)], om 6
 19] [6]) .ret) (sq (rg [ ov 21 (.icmp .eql .i64 (tm 7) (ci 5)), om 20 21] [1, 2, 7, 20]) (.cond (tm 20) (sq (rg [ om 22 1, om 23 2, oc 24 81 [(tm 22),
 (tm 23)], om 6 24] [6]) .ret) (sq (rg [ ov 26 (.icmp .eql .i64 (tm 7) (ci 6)), om 25 26] [1, 2, 7, 25]) (.cond (tm 25) (sq (rg [ om 27 1, om 28 2, oc
 29 82 [(tm 27), (tm 28)], om 6 29] [6]) .ret) (sq (rg [ ov 31 (.icmp .eql .i64 (tm 7) (ci 7)), om 30 31] [1, 2, 7, 30]) (.cond (tm 30) (sq (rg [ om 32
 1, om 33 2, ov 34 (.mnmx false .i64 [(tm 32), (tm 33)]), om 6 34] [6]) .ret) (sq (rg [ ov 36 (.icmp .eql .i64 (tm 7) (ci 8)), om 35 36] [1, 2, 35])
 (.cond (tm 35) (sq (rg [ om 37 1, om 38 2, ov 39 (.mnmx true .i64 [(tm 37), (tm 38)]), om 6 39] [6]) .ret) .skip)))))))))))))) (sq (sq (rg [ om 40 1,
 om 41 2, ov 42 (.icmp .lss .i64 (tm 40) (tm 41))] [42]) (.cond (tm 42) (sq (rg [ oi 6 1] [6]) .ret) .skip)) (sq (rg [ oi 6 0] [6]) .ret))))
theorem a42 : AOf Tryz.prog 42 c42 [.t 6] := mkA (fn := Tryz.f42) (c := Tryz.f42.body.getD .skip) (fz := []) (im := []) kp42 (by kernel_rfl) (by kernel_rfl) (by kernel_rfl) (by kernel_rfl) (by kernel_rfl)
def kp79 (r : Nat) : List Nat := match r with
  | 0 => [0, 1]
  | 1 => [0, 1, 7, 8]
  | 2 => [0, 1, 7, 8, 9]
  | 3 => [0, 1, 5, 7, 8]
  | 4 => [0, 1, 5, 7, 8, 16]
  | 5 => [4]
  | 6 => [0, 1, 7, 8]
  | 7 => [4]
  | _ => []
def c79 : ACode :=
(sq (rg [ oi 4 0] [0, 1]) (sq (sq (rg [ om 6 0, on 7 6, oi 8 0] [0, 1, 7, 8]) (.block 0 (.loop (sq (rg [ ov 9 (.icmp .lss .i64 (tm 8) (tm 7))] [0, 1,
 7, 8, 9]) (sq (.cond (tm 9) .skip (.exit 0)) (sq (.block 1 (sq (rg [ om 10 8, om 5 10] [0, 1, 5, 7, 8]) (sq (rg [ om 11 1, om 12 0, om 13 5, oa 14 1
 12 13, ol 15 14, ⟨some 16, none, .call true (tm 11) [(tm 15)]⟩] [0, 1, 5, 7, 8, 16]) (.cond (tm 16) (sq (rg [ om 17 5, om 4 17] [4]) .ret) .skip))))
 (rg [ ov 18 (.arith .add .i64 (tm 8) (ci 1)), om 8 18] [0, 1, 7, 8]))))))) (sq (rg [ oi 4 (-1)] [4]) .ret)))
theorem a79 : AOf Tryz.prog 79 c79 [.t 4] := mkA (fn := Tryz.f79) (c := Tryz.f79.body.getD .skip) (fz := []) (im := []) kp79 (by kernel_rfl) (by kernel_rfl) (by kernel_rfl) (by kernel_rfl) (by kernel_rfl)
def kp19 (r : Nat) : List Nat := match r with
  | 0 => [0, 1]
  | 1 => [0, 1, 14]
  | 2 => [4, 5]
  | 3 => [0, 1, 17]
  | 4 => [4, 5]
  | 5 => [0, 1, 6]
  | 6 => [0, 1, 6, 21]
  | 8 => [0, 1, 6, 35]
  | 9 => [4, 5]
  | 7 => [0, 1, 6]
  | 10 => [0, 1, 7]
  | 11 => [0, 1, 7, 8]
  | 12 => [0, 1, 7, 8, 39]
  | 14 => [0, 1, 7, 8, 9]
  | 15 => [0, 1, 7, 8, 9, 48]
  | 18 => [0, 1, 7, 8, 9, 48, 72]
  | 19 => [0, 1, 7, 8]
  | 20 => [0, 1, 7, 8, 9, 48, 82]
  | 21 => [0, 1, 7, 8]
  | 22 => [0, 1, 7, 8, 9, 95]
  | 23 => [0, 1, 7, 8, 9, 10]
  | 24 => [0, 1, 7, 8, 9, 10, 107]
  | 25 => [0, 1, 7, 8, 9, 10]
  | 26 => [0, 1, 7, 8]
  | 16 => [0, 1, 7, 8, 9, 11]
  | 17 => [0, 1, 7, 8]
  | 13 => [0, 1, 7, 8]
  | 27 => [4, 5]
  | _ => []
def c19 : ACode :=
(sq (rg [ oi 4 0, oi 5 0] [0, 1]) (sq (sq (rg [ om 12 0, oc 13 17 [(tm 12)], ov 14 (.icmp .neq .i64 (tm 13) (ci 0))] [0, 1, 14]) (.cond (tm 14) (sq (rg
 [ oi 4 0, oi 5 520] [4, 5]) .ret) .skip)) (sq (sq (rg [ om 15 1, on 16 15, ov 17 (.icmp .neq .i64 (tm 16) (ci 5))] [0, 1, 17]) (.cond (tm 17) (sq (rg
 [ oi 4 0, oi 5 1] [4, 5]) .ret) .skip)) (sq (sq (rg [ oi 6 0] [0, 1, 6]) (.block 0 (.loop (sq (sq (rg [ om 18 6, om 19 1, on 20 19, ov 21 (.icmp .lss
 .i64 (tm 18) (tm 20))] [0, 1, 6, 21]) (.cond (tm 21) .skip (.exit 0))) (sq (.block 1 (sq (rg [ om 24 1, om 25 6, oa 26 1 24 25, ol 27 26, ov 28 (.icmp
 .lss .i64 (tm 27) (ci 0)), om 29 28, gm 30 29 false 1, gm 31 29 false 6, ga 32 29 false 1 30 31, gl 33 29 false 32, gv 34 29 false (.icmp .gtr .i64
 (tm 33) (ci 1048576)), oz 35 29 34] [0, 1, 6, 35]) (.cond (tm 35) (sq (rg [ oi 4 0, oi 5 1] [4, 5]) .ret) .skip))) (rg [ om 22 6, ov 23 (.arith .add
 .i64 (tm 22) (ci 1)), om 6 23] [0, 1, 6])))))) (sq (rg [ ov 7 (.mv (.c zs))] [0, 1, 7]) (sq (sq (rg [ oi 8 0] [0, 1, 7, 8]) (.block 2 (.loop (sq (sq
 (rg [ om 36 8, om 37 0, on 38 37, ov 39 (.icmp .lss .i64 (tm 36) (tm 38))] [0, 1, 7, 8, 39]) (.cond (tm 39) .skip (.exit 2))) (sq (.block 3 (sq (rg [
 om 42 7, on 43 42, om 9 43] [0, 1, 7, 8, 9]) (sq (rg [ om 44 0, om 45 8, oa 46 2 44 45, of 47 0 46, ol 48 47] [0, 1, 7, 8, 9, 48]) (.block 4 (sq (rg [
 ov 73 (.icmp .eql .i64 (tm 48) (ci 1)), om 72 73] [0, 1, 7, 8, 9, 48, 72]) (.cond (tm 72) (.reg 9 [ om 74 7, om 75 0, om 76 8, oa 77 2 75 76, of 78 1
 77, ol 79 78, ov 80 (.bs 1 1 z0 [(0, (tm 79))]), ⟨some 81, none, .appR 7 1 8 z0 (tm 74) (tm 80) false⟩, om 7 81] [0, 1, 7, 8]) (sq (rg [ ov 83 (.icmp
 .eql .i64 (tm 48) (ci 2)), om 82 83] [0, 1, 7, 8, 9, 48, 82]) (.cond (tm 82) (.reg 12 [ om 84 7, om 85 1, om 86 0, om 87 8, oa 88 2 86 87, of 89 1 88,
 ol 90 89, oa 91 1 85 90, ol 92 91, ov 93 (.bs 1 1 z0 [(0, (tm 92))]), ⟨some 94, none, .appR 10 1 8 z0 (tm 84) (tm 93) false⟩, om 7 94] [0, 1, 7, 8])
 (sq (rg [ ov 96 (.icmp .eql .i64 (tm 48) (ci 10)), om 95 96] [0, 1, 7, 8, 9, 95]) (.cond (tm 95) (sq (rg [ om 97 7, om 98 9, ov 99 (.arith .sub .i64
 (tm 98) (ci 1)), oa 100 1 97 99, ol 101 100, om 10 101] [0, 1, 7, 8, 9, 10]) (sq (sq (rg [ om 102 7, om 103 9, ov 104 (.arith .sub .i64 (tm 103) (ci
 3)), oa 105 1 102 104, ol 106 105, ov 107 (.icmp .neq .i64 (tm 106) (ci 0))] [0, 1, 7, 8, 9, 10, 107]) (.cond (tm 107) (rg [ om 108 7, om 109 9, ov
 110 (.arith .sub .i64 (tm 109) (ci 2)), oa 111 1 108 110, ol 112 111, om 10 112] [0, 1, 7, 8, 9, 10]) .skip)) (.reg 8 [ om 113 7, om 114 9, ov 115
 (.arith .sub .i64 (tm 114) (ci 3)), ov 116 (.sl 1 (tm 113) none (some (tm 115)) none), om 117 10, ov 118 (.bs 1 1 z0 [(0, (tm 117))]), ⟨some 119,
 none, .appR 6 1 8 z0 (tm 116) (tm 118) false⟩, om 7 119] [0, 1, 7, 8]))) (sq (rg [ om 49 0, om 50 8, oa 51 2 49 50, of 52 0 51, ol 53 52, om 54 7, om
 55 9, ov 56 (.arith .sub .i64 (tm 55) (ci 2)), oa 57 1 54 56, ol 58 57, om 59 7, om 60 9, ov 61 (.arith .sub .i64 (tm 60) (ci 1)), oa 62 1 59 61, ol
 63 62, oc 64 42 [(tm 53), (tm 58), (tm 63)], om 11 64] [0, 1, 7, 8, 9, 11]) (.reg 8 [ om 65 7, om 66 9, ov 67 (.arith .sub .i64 (tm 66) (ci 2)), ov 68
 (.sl 1 (tm 65) none (some (tm 67)) none), om 69 11, ov 70 (.bs 1 1 z0 [(0, (tm 69))]), ⟨some 71, none, .appR 6 1 8 z0 (tm 68) (tm 70) false⟩, om 7 71]
 [0, 1, 7, 8])))))))))))) (rg [ om 40 8, ov 41 (.arith .add .i64 (tm 40) (ci 1)), om 8 41] [0, 1, 7, 8])))))) (sq (rg [ om 120 7, ov 121 (.ia 1 (tm
 120) (ci 0)), ol 122 121, ov 123 (.mnmx false .i64 [(ci 1048576), (tm 122)]), ov 124 (.mnmx true .i64 [(ci 0), (tm 123)]), om 4 124, oi 5 0] [4, 5])
 .ret)))))))
theorem a19 : AOf Tryz.prog 19 c19 [.t 4, .t 5] := mkA (fn := Tryz.f19) (c := Tryz.f19.body.getD .skip) (fz := [(19, 7), (21, 10), (26, 6), (17, 6)]) (im := []) kp19 (by kernel_rfl) (by kernel_rfl) (by kernel_rfl) (by kernel_rfl) (by kernel_rfl)
def kp80 (r : Nat) : List Nat := match r with
  | 0 => [0]
  | 1 => [2]
  | _ => []
def c80 : ACode :=
(sq (rg [ oi 2 0] [0]) (sq (rg [ om 3 0, ov 4 (.mnmx false .i64 [(ci 1099511627776), (tm 3)]), ov 5 (.mnmx true .i64 [(ci (-1099511627776)), (tm 4)]),
 om 2 5] [2]) .ret))
theorem a80 : AOf Tryz.prog 80 c80 [.t 2] := mkA (fn := Tryz.f80) (c := Tryz.f80.body.getD .skip) (fz := []) (im := []) kp80 (by kernel_rfl) (by kernel_rfl) (by kernel_rfl) (by kernel_rfl) (by kernel_rfl)
def kp81 (r : Nat) : List Nat := match r with
  | 0 => [0, 1]
  | 1 => [0, 1, 13]
  | 2 => [4]
  | 3 => [0, 1, 5]
  | 4 => [0, 1, 5, 6]
  | 5 => [0, 1, 5, 6, 7]
  | 6 => [0, 1, 5, 6, 7, 25]
  | 7 => [0, 1, 7]
  | 8 => [7, 33]
  | 9 => [4]
  | 10 => [4]
  | _ => []
def c81 : ACode :=
(sq (rg [ oi 4 0] [0, 1]) (sq (sq (rg [ om 8 0, ov 9 (.icmp .eql .i64 (tm 8) (ci 0)), om 10 9, gm 11 10 false 1, gv 12 10 false (.icmp .eql .i64 (tm
 11) (ci 0)), oz 13 10 12] [0, 1, 13]) (.cond (tm 13) (sq (rg [ oi 4 0] [4]) .ret) .skip)) (sq (rg [ om 14 0, om 15 0, ov 16 (.neg .i64 (tm 15)), ov 17
 (.mnmx true .i64 [(tm 14), (tm 16)]), om 5 17] [0, 1, 5]) (sq (rg [ om 18 1, om 19 1, ov 20 (.neg .i64 (tm 19)), ov 21 (.mnmx true .i64 [(tm 18), (tm
 20)]), om 6 21] [0, 1, 5, 6]) (sq (rg [ oi 7 1099511627776] [0, 1, 5, 6, 7]) (sq (sq (rg [ om 22 5, om 23 6, ov 24 (.arith .quo .i64 (ci
 1099511627776) (tm 23)), ov 25 (.icmp .leq .i64 (tm 22) (tm 24))] [0, 1, 5, 6, 7, 25]) (.cond (tm 25) (rg [ om 26 5, om 27 6, ov 28 (.arith .mul .i64
 (tm 26) (tm 27)), om 7 28] [0, 1, 7]) .skip)) (sq (sq (rg [ om 29 0, ov 30 (.icmp .lss .i64 (tm 29) (ci 0)), om 31 1, ov 32 (.icmp .lss .i64 (tm 31)
 (ci 0)), ov 33 (.beq true (tm 30) (tm 32))] [7, 33]) (.cond (tm 33) (sq (rg [ om 34 7, ov 35 (.neg .i64 (tm 34)), om 4 35] [4]) .ret) .skip)) (sq (rg
 [ om 36 7, om 4 36] [4]) .ret))))))))
theorem a81 : AOf Tryz.prog 81 c81 [.t 4] := mkA (fn := Tryz.f81) (c := Tryz.f81.body.getD .skip) (fz := []) (im := []) kp81 (by kernel_rfl) (by kernel_rfl) (by kernel_rfl) (by kernel_rfl) (by kernel_rfl)
def kp82 (r : Nat) : List Nat := match r with
  | 0 => [0, 1]
  | 1 => [0, 1, 7]
  | 2 => [4]
  | 3 => [0, 1, 5]
  | 4 => [5, 22]
  | 5 => [5]
  | 6 => [4]
  | _ => []
def c82 : ACode :=
(sq (rg [ oi 4 0] [0, 1]) (sq (sq (rg [ om 6 1, ov 7 (.icmp .eql .i64 (tm 6) (ci 0))] [0, 1, 7]) (.cond (tm 7) (sq (rg [ oi 4 0] [4]) .ret) .skip)) (sq
 (rg [ om 8 0, om 9 1, ov 10 (.arith .quo .i64 (tm 8) (tm 9)), om 5 10] [0, 1, 5]) (sq (sq (rg [ om 11 5, om 12 1, ov 13 (.arith .mul .i64 (tm 11) (tm
 12)), om 14 0, ov 15 (.icmp .neq .i64 (tm 13) (tm 14)), om 16 15, gm 17 16 true 0, gv 18 16 true (.icmp .lss .i64 (tm 17) (ci 0)), gm 19 16 true 1, gv
 20 16 true (.icmp .lss .i64 (tm 19) (ci 0)), gv 21 16 true (.beq true (tm 18) (tm 20)), oy 22 16 21] [5, 22]) (.cond (tm 22) (rg [ om 23 5, ov 24
 (.arith .sub .i64 (tm 23) (ci 1)), om 5 24] [5]) .skip)) (sq (rg [ om 25 5, om 4 25] [4]) .ret)))))
theorem a82 : AOf Tryz.prog 82 c82 [.t 4] := mkA (fn := Tryz.f82) (c := Tryz.f82.body.getD .skip) (fz := []) (im := []) kp82 (by kernel_rfl) (by kernel_rfl) (by kernel_rfl) (by kernel_rfl) (by kernel_rfl)
def kp20 (r : Nat) : List Nat := match r with
  | 0 => [0, 1, 2]
  | 1 => [1, 2, 7]
  | 2 => [1, 2, 7, 8]
  | 3 => [6]
  | 4 => [1, 2, 7, 14]
  | 5 => [6]
  | 6 => [1, 2, 7, 20]
  | 7 => [6]
  | 8 => [1, 2, 7, 26]
  | 9 => [6]
  | 10 => [1, 2, 31]
  | 11 => [6]
  | 12 => [6]
  | _ => []
def c20 : ACode :=
(sq (rg [ oi 6 0] [0, 1, 2]) (sq (sq (rg [ om 7 0] [1, 2, 7]) (.block 0 (sq (rg [ ov 9 (.icmp .eql .i64 (tm 7) (ci 3)), om 8 9] [1, 2, 7, 8]) (.cond
 (tm 8) (sq (rg [ om 10 1, om 11 2, ov 12 (.arith .add .i64 (tm 10) (tm 11)), ov 13 (.mnmx false .i64 [(ci 1048576), (tm 12)]), om 6 13] [6]) .ret) (sq
 (rg [ ov 15 (.icmp .eql .i64 (tm 7) (ci 4)), om 14 15] [1, 2, 7, 14]) (.cond (tm 14) (sq (rg [ om 16 1, om 17 2, ov 18 (.arith .sub .i64 (tm 16) (tm
 17)), ov 19 (.mnmx true .i64 [(ci 0), (tm 18)]), om 6 19] [6]) .ret) (sq (rg [ ov 21 (.icmp .eql .i64 (tm 7) (ci 5)), om 20 21] [1, 2, 7, 20]) (.cond
 (tm 20) (sq (rg [ om 22 1, om 23 2, ov 24 (.arith .mul .i64 (tm 22) (tm 23)), ov 25 (.mnmx false .i64 [(ci 1048576), (tm 24)]), om 6 25] [6]) .ret)
 (sq (rg [ ov 27 (.icmp .eql .i64 (tm 7) (ci 6)), om 26 27] [1, 2, 7, 26]) (.cond (tm 26) (sq (rg [ om 28 1, om 29 2, ov 30 (.arith .quo .i64 (tm 28)
 (tm 29)), om 6 30] [6]) .ret) (sq (rg [ ov 32 (.icmp .eql .i64 (tm 7) (ci 7)), om 31 32] [1, 2, 31]) (.cond (tm 31) (sq (rg [ om 33 1, om 34 2, ov 35
 (.mnmx false .i64 [(tm 33), (tm 34)]), om 6 35] [6]) .ret) .skip)))))))))))) (sq (rg [ om 36 1, om 37 2, ov 38 (.mnmx true .i64 [(tm 36), (tm 37)]),
 om 6 38] [6]) .ret)))
theorem a20 : AOf Tryz.prog 20 c20 [.t 6] := mkA (fn := Tryz.f20) (c := Tryz.f20.body.getD .skip) (fz := []) (im := []) kp20 (by kernel_rfl) (by kernel_rfl) (by kernel_rfl) (by kernel_rfl) (by kernel_rfl)
end Go.AM
end
section
set_option maxRecDepth 20000
set_option linter.all false
namespace Go.AM
open Go.Proofs
def kp3 (r : Nat) : List Nat := match r with
  | 0 => [0]
  | 1 => [0, 10]
  | 2 => [2]
  | 3 => [0, 13]
  | 4 => [2]
  | 5 => [0, 3, 4, 5]
  | 6 => [3, 4, 5, 6, 7, 8]
  | 7 => [2]
  | _ => []
def c3 : ACode :=
(sq (rg [ ob 2 false] [0]) (sq (sq (rg [ oc 9 10 [], ot 10 9] [0, 10]) (.cond (tm 10) (sq (rg [ ob 2 false] [2]) .ret) .skip)) (sq (sq (rg [ om 11 0,
 ov 12 (.lenS (tm 11)), ov 13 (.icmp .gtr .i64 (tm 12) (ci 3000))] [0, 13]) (.cond (tm 13) (sq (rg [ ob 2 true] [2]) .ret) .skip)) (sq (rg [ om 15 0,
 oc 16 11 [(tm 15)], om 14 16, ox 17 0 14, ox 18 1 14, ox 19 2 14, om 3 17, om 4 18, om 5 19] [0, 3, 4, 5]) (sq (rg [ om 21 0, oc 22 12 [(tm 21)], om
 20 22, ox 23 0 20, ox 24 1 20, ox 25 2 20, om 6 23, om 7 24, om 8 25] [3, 4, 5, 6, 7, 8]) (sq (rg [ om 26 3, om 27 6, oc 28 13 [(tm 26), (tm 27)], om
 29 28, gm 30 29 true 4, gm 31 29 true 7, gv 32 29 true (.icmp .eql .i64 (tm 30) (tm 31)), oy 33 29 32, om 34 33, gm 35 34 true 5, gm 36 34 true 8, gv
 37 34 true (.icmp .eql .i64 (tm 35) (tm 36)), oy 38 34 37, om 2 38] [2]) .ret))))))
theorem l3 : Callable Tryz.prog 3 := ⟨Tryz.f3, by kernel_rfl, by kernel_rfl, by kernel_rfl⟩
theorem a3 : AOf Tryz.prog 3 c3 [.t 2] := mkA (fn := Tryz.f3) (c := Tryz.f3.body.getD .skip) (fz := []) (im := []) kp3 (by kernel_rfl) (by kernel_rfl) (by kernel_rfl) (by kernel_rfl) (by kernel_rfl)
def kp4 (r : Nat) : List Nat := match r with
  | 0 => [0]
  | 1 => [0, 8]
  | 2 => [2]
  | 3 => [0, 11]
  | 4 => [2]
  | 5 => [0, 3, 4]
  | 6 => [0, 3, 4, 5, 6]
  | 7 => [2]
  | _ => []
def c4 : ACode :=
(sq (rg [ ob 2 false] [0]) (sq (sq (rg [ oc 7 10 [], ot 8 7] [0, 8]) (.cond (tm 8) (sq (rg [ ob 2 false] [2]) .ret) .skip)) (sq (sq (rg [ om 9 0, on 10
 9, ov 11 (.icmp .gtr .i64 (tm 10) (ci 300))] [0, 11]) (.cond (tm 11) (sq (rg [ ob 2 true] [2]) .ret) .skip)) (sq (rg [ om 13 0, oc 14 14 [(tm 13)], om
 12 14, ox 15 0 12, ox 16 1 12, om 3 15, om 4 16] [0, 3, 4]) (sq (rg [ om 18 0, oc 19 15 [(tm 18)], om 17 19, ox 20 0 17, ox 21 1 17, om 5 20, om 6 21]
 [0, 3, 4, 5, 6]) (sq (rg [ om 22 3, om 23 5, ov 24 (.scmp .eql (tm 22) (tm 23)), om 25 24, gm 26 25 true 4, gm 27 25 true 6, gv 28 25 true (.icmp .eql
 .i64 (tm 26) (tm 27)), oy 29 25 28, om 30 29, gm 31 30 true 0, ⟨some 32, some (30, true), .call true (.c (.fn (.func 16) [] [])) [(tm 31)]⟩, gm 33 30
 true 0, ⟨some 34, some (30, true), .call true (.c (.fn (.func 17) [] [])) [(tm 33)]⟩, gv 35 30 true (.icmp .eql .i64 (tm 32) (tm 34)), oy 36 30 35, om
 2 36] [2]) .ret))))))
theorem a4 : AOf Tryz.prog 4 c4 [.t 2] := mkA (fn := Tryz.f4) (c := Tryz.f4.body.getD .skip) (fz := []) (im := []) kp4 (by kernel_rfl) (by kernel_rfl) (by kernel_rfl) (by kernel_rfl) (by kernel_rfl)
def kp5 (r : Nat) : List Nat := match r with
  | 0 => [0, 1]
  | 1 => [0, 1, 10]
  | 2 => [4]
  | 3 => [0, 1, 18]
  | 4 => [4]
  | 5 => [0, 1, 5, 6]
  | 6 => [5, 6, 7, 8]
  | 7 => [4]
  | _ => []
def c5 : ACode :=
(sq (rg [ ob 4 false] [0, 1]) (sq (sq (rg [ oc 9 10 [], ot 10 9] [0, 1, 10]) (.cond (tm 10) (sq (rg [ ob 4 false] [4]) .ret) .skip)) (sq (sq (rg [ om
 11 0, on 12 11, ov 13 (.icmp .gtr .i64 (tm 12) (ci 300)), om 14 13, gm 15 14 false 1, gv 16 14 false (.len (tm 15)), gv 17 14 false (.icmp .gtr .i64
 (tm 16) (ci 20)), oz 18 14 17] [0, 1, 18]) (.cond (tm 18) (sq (rg [ ob 4 true] [4]) .ret) .skip)) (sq (rg [ om 20 0, om 21 1, oc 22 18 [(tm 20), (tm
 21)], om 19 22, ox 23 0 19, ox 24 1 19, om 5 23, om 6 24] [0, 1, 5, 6]) (sq (rg [ om 26 0, om 27 1, oc 28 19 [(tm 26), (tm 27)], om 25 28, ox 29 0 25,
 ox 30 1 25, om 7 29, om 8 30] [5, 6, 7, 8]) (sq (rg [ om 31 5, om 32 7, ov 33 (.icmp .eql .i64 (tm 31) (tm 32)), om 34 33, gm 35 34 true 6, gm 36 34
 true 8, gv 37 34 true (.icmp .eql .i64 (tm 35) (tm 36)), oy 38 34 37, om 4 38] [4]) .ret))))))
theorem a5 : AOf Tryz.prog 5 c5 [.t 4] := mkA (fn := Tryz.f5) (c := Tryz.f5.body.getD .skip) (fz := []) (im := []) kp5 (by kernel_rfl) (by kernel_rfl) (by kernel_rfl) (by kernel_rfl) (by kernel_rfl)
def kp6 (r : Nat) : List Nat := match r with
  | 0 => [0, 1, 2]
  | 1 => [0, 1, 2, 18]
  | 2 => [6]
  | 3 => [0, 1, 2, 31]
  | 4 => [6]
  | 5 => [0, 1, 2, 7, 8]
  | 6 => [0, 1, 2, 7, 8, 38]
  | 7 => [0, 1, 2, 8, 9, 10, 11]
  | 8 => [0, 1, 2, 8, 56]
  | 9 => [6]
  | 10 => [1, 2, 62]
  | 11 => [6]
  | 12 => [1, 2, 12, 13, 14]
  | 13 => [1, 2, 12, 13, 70]
  | 14 => [6]
  | 15 => [12, 13, 15, 16]
  | 16 => [6]
  | _ => []
def c6 : ACode :=
(sq (rg [ ob 6 false] [0, 1, 2]) (sq (sq (rg [ oc 17 10 [], ot 18 17] [0, 1, 2, 18]) (.cond (tm 18) (sq (rg [ ob 6 false] [6]) .ret) .skip)) (sq (sq
 (rg [ om 19 0, on 20 19, ov 21 (.icmp .gtr .i64 (tm 20) (ci 300)), om 22 21, gm 23 22 false 1, gv 24 22 false (.lenS (tm 23)), gv 25 22 false (.icmp
 .gtr .i64 (tm 24) (ci 3000)), oz 26 22 25, om 27 26, gm 28 27 false 2, gv 29 27 false (.len (tm 28)), gv 30 27 false (.icmp .gtr .i64 (tm 29) (ci
 20)), oz 31 27 30] [0, 1, 2, 31]) (.cond (tm 31) (sq (rg [ ob 6 true] [6]) .ret) .skip)) (sq (rg [ om 33 0, oc 34 14 [(tm 33)], om 32 34, ox 35 0 32,
 ox 36 1 32, om 7 35, om 8 36] [0, 1, 2, 7, 8]) (sq (sq (rg [ om 37 8, ov 38 (.icmp .eql .i64 (tm 37) (ci 0))] [0, 1, 2, 7, 8, 38]) (.cond (tm 38) (sq
 (rg [ om 40 7, oc 41 11 [(tm 40)], om 39 41, ox 42 0 39, ox 43 1 39, ox 44 2 39, om 9 42, om 10 43, om 11 44] [0, 1, 2, 8, 9, 10, 11]) (sq (rg [ om 45
 11, ov 46 (.icmp .neq .i64 (tm 45) (ci 0)), om 47 46, gm 48 47 false 10, gv 49 47 false (.icmp .neq .i64 (tm 48) (ci 0)), oz 50 47 49, om 51 50, gm 52
 51 false 0, gm 53 51 false 9, ⟨some 54, some (51, false), .call true (.c (.fn (.func 13) [] [])) [(tm 52), (tm 53)]⟩, gv 55 51 false (.not (tm 54)),
 oz 56 51 55] [0, 1, 2, 8, 56]) (.cond (tm 56) (sq (rg [ ob 6 false] [6]) .ret) .skip))) .skip)) (sq (sq (rg [ om 57 8, ov 58 (.icmp .eql .i64 (tm 57)
 (ci 0)), om 59 0, oc 60 16 [(tm 59)], ov 61 (.icmp .eql .i64 (tm 60) (ci 0)), ov 62 (.beq true (tm 58) (tm 61))] [1, 2, 62]) (.cond (tm 62) (sq (rg [
 ob 6 false] [6]) .ret) .skip)) (sq (rg [ om 64 1, oc 65 11 [(tm 64)], om 63 65, ox 66 0 63, ox 67 1 63, ox 68 2 63, om 12 66, om 13 67, om 14 68] [1,
 2, 12, 13, 14]) (sq (sq (rg [ om 69 14, ov 70 (.icmp .neq .i64 (tm 69) (ci 0))] [1, 2, 12, 13, 70]) (.cond (tm 70) (sq (rg [ om 71 12, on 72 71, ov 73
 (.icmp .eql .i64 (tm 72) (ci 0)), om 74 73, gm 75 74 true 13, gv 76 74 true (.icmp .geq .i64 (tm 75) (ci 0)), oy 77 74 76, om 78 77, gm 79 78 true 13,
 gm 80 78 true 1, gv 81 78 true (.lenS (tm 80)), gv 82 78 true (.icmp .leq .i64 (tm 79) (tm 81)), oy 83 78 82, om 6 83] [6]) .ret) .skip)) (sq (rg [ om
 85 12, om 86 2, oc 87 18 [(tm 85), (tm 86)], om 84 87, ox 88 0 84, ox 89 1 84, om 15 88, om 16 89] [12, 13, 15, 16]) (sq (rg [ om 90 12, oc 91 16 [(tm
 90)], ov 92 (.icmp .eql .i64 (tm 91) (ci 0)), om 93 92, gm 94 93 true 13, gv 95 93 true (.icmp .eql .i64 (tm 94) (ci 0)), oy 96 93 95, om 97 96, gm 98
 97 true 15, gv 99 97 true (.icmp .geq .i64 (tm 98) (ci 0)), oy 100 97 99, om 101 100, gm 102 101 true 15, gv 103 101 true (.icmp .leq .i64 (tm 102)
 (ci 1048576)), oy 104 101 103, om 105 104, gm 106 105 true 16, gv 107 105 true (.icmp .eql .i64 (tm 106) (ci 0)), gm 108 105 true 107, gm 109 108
 false 16, gv 110 108 false (.icmp .eql .i64 (tm 109) (ci 1)), ⟨some 111, some (105, true), .pick (tm 108) cT (tm 110)⟩, oy 112 105 111, om 6 112] [6])
 .ret))))))))))
theorem a6 : AOf Tryz.prog 6 c6 [.t 6] := mkA (fn := Tryz.f6) (c := Tryz.f6.body.getD .skip) (fz := []) (im := []) kp6 (by kernel_rfl) (by kernel_rfl) (by kernel_rfl) (by kernel_rfl) (by kernel_rfl)
def kp7 (r : Nat) : List Nat := match r with
  | 0 => [0]
  | 1 => [0, 10]
  | 2 => [2]
  | 3 => [0, 13]
  | 4 => [2]
  | 5 => [0, 3, 5]
  | 6 => [3, 5, 6, 8]
  | 7 => [2]
  | _ => []
def c7 : ACode :=
(sq (rg [ ob 2 false] [0]) (sq (sq (rg [ oc 9 10 [], ot 10 9] [0, 10]) (.cond (tm 10) (sq (rg [ ob 2 false] [2]) .ret) .skip)) (sq (sq (rg [ om 11 0,
 ov 12 (.lenS (tm 11)), ov 13 (.icmp .gtr .i64 (tm 12) (ci 3000))] [0, 13]) (.cond (tm 13) (sq (rg [ ob 2 true] [2]) .ret) .skip)) (sq (rg [ om 15 0,
 oc 16 11 [(tm 15)], om 14 16, ox 17 0 14, ox 18 1 14, ox 19 2 14, om 3 17, om 4 18, om 5 19] [0, 3, 5]) (sq (rg [ om 21 0, ov 22 (.sadd (.c (.str [10,
 9, 32])) (tm 21)), ov 23 (.sadd (tm 22) (.c (.str [10]))), oc 24 11 [(tm 23)], om 20 24, ox 25 0 20, ox 26 1 20, ox 27 2 20, om 6 25, om 7 26, om 8
 27] [3, 5, 6, 8]) (sq (rg [ om 28 3, om 29 6, oc 30 13 [(tm 28), (tm 29)], om 31 30, gm 32 31 true 5, gm 33 31 true 8, gv 34 31 true (.icmp .eql .i64
 (tm 32) (tm 33)), oy 35 31 34, om 2 35] [2]) .ret))))))
theorem a7 : AOf Tryz.prog 7 c7 [.t 2] := mkA (fn := Tryz.f7) (c := Tryz.f7.body.getD .skip) (fz := []) (im := []) kp7 (by kernel_rfl) (by kernel_rfl) (by kernel_rfl) (by kernel_rfl) (by kernel_rfl)
def kp8 (r : Nat) : List Nat := match r with
  | 0 => [0, 1, 2]
  | 1 => [0, 1, 2, 19]
  | 2 => [6]
  | 3 => [0, 1, 2, 32]
  | 4 => [6]
  | 5 => [0, 1, 2, 7, 8]
  | 6 => [0, 1, 2, 7, 8, 9, 10]
  | 7 => [0, 1, 2, 7, 9, 74]
  | 8 => [6]
  | 9 => [2, 7, 9, 11]
  | 10 => [2, 7, 9, 11, 12]
  | 11 => [2, 7, 9, 11, 12, 81]
  | 13 => [2, 7, 9, 11, 12, 13, 14]
  | 14 => [2, 7, 9, 11, 12, 105]
  | 15 => [6]
  | 12 => [2, 7, 9, 11, 12]
  | 16 => [2, 7, 9, 15]
  | 17 => [7, 9, 16, 17]
  | 18 => [6]
  | _ => []
def c8 : ACode :=
(sq (rg [ ob 6 false] [0, 1, 2]) (sq (sq (rg [ oc 18 10 [], ot 19 18] [0, 1, 2, 19]) (.cond (tm 19) (sq (rg [ ob 6 false] [6]) .ret) .skip)) (sq (sq
 (rg [ om 20 0, on 21 20, ov 22 (.icmp .gtr .i64 (tm 21) (ci 100)), om 23 22, gm 24 23 false 1, gv 25 23 false (.len (tm 24)), gv 26 23 false (.icmp
 .gtr .i64 (tm 25) (ci 100)), oz 27 23 26, om 28 27, gm 29 28 false 2, gv 30 28 false (.len (tm 29)), gv 31 28 false (.icmp .gtr .i64 (tm 30) (ci 20)),
 oz 32 28 31] [0, 1, 2, 32]) (.cond (tm 32) (sq (rg [ ob 6 true] [6]) .ret) .skip)) (sq (rg [ om 34 0, om 35 2, oc 36 18 [(tm 34), (tm 35)], om 33 36,
 ox 37 0 33, ox 38 1 33, om 7 37, om 8 38] [0, 1, 2, 7, 8]) (sq (rg [ om 40 1, om 41 2, oc 42 18 [(tm 40), (tm 41)], om 39 42, ox 43 0 39, ox 44 1 39,
 om 9 43, om 10 44] [0, 1, 2, 7, 8, 9, 10]) (sq (sq (rg [ om 45 8, ov 46 (.icmp .neq .i64 (tm 45) (ci 0)), om 47 46, gm 48 47 false 10, gv 49 47 false
 (.icmp .neq .i64 (tm 48) (ci 0)), oz 50 47 49, om 51 50, gm 52 51 false 7, gv 53 51 false (.icmp .lss .i64 (tm 52) (ci 1)), oz 54 51 53, om 55 54, gm
 56 55 false 7, gv 57 55 false (.icmp .geq .i64 (tm 56) (ci 1048576)), oz 58 55 57, om 59 58, gm 60 59 false 9, gv 61 59 false (.icmp .lss .i64 (tm 60)
 (ci 1)), oz 62 59 61, om 63 62, gm 64 63 false 9, gv 65 63 false (.icmp .geq .i64 (tm 64) (ci 1048576)), oz 66 63 65, om 67 66, gm 68 67 false 0, gv
 69 67 false (.len (tm 68)), gm 70 67 false 1, gv 71 67 false (.len (tm 70)), gv 72 67 false (.arith .add .i64 (tm 69) (tm 71)), gv 73 67 false (.icmp
 .gtr .i64 (tm 72) (ci 100)), oz 74 67 73] [0, 1, 2, 7, 9, 74]) (.cond (tm 74) (sq (rg [ ob 6 true] [6]) .ret) .skip)) (sq (.reg 6 [ ov 75 (.bs 2 0
 (.agg [z0, z0]) []), om 76 0, ⟨some 77, none, .app 2 2 16 (tm 75) (tm 76) false⟩, om 78 1, ⟨some 79, none, .app 4 2 16 (tm 77) (tm 78) false⟩, om 11
 79] [2, 7, 9, 11]) (sq (sq (rg [ oi 12 3] [2, 7, 9, 11, 12]) (.block 0 (.loop (sq (sq (rg [ om 80 12, ov 81 (.icmp .leq .i64 (tm 80) (ci 8))] [2, 7,
 9, 11, 12, 81]) (.cond (tm 81) .skip (.exit 0))) (sq (.block 1 (sq (.reg 14 [ ov 85 (.bs 2 0 (.agg [z0, z0]) []), om 86 11, ⟨some 87, none, .app 2 2
 16 (tm 85) (tm 86) false⟩, om 88 12, ov 89 (.build [z0, z0] [(0, 1, (tm 88))]), ov 90 (.bs 2 1 (.agg [z0, z0]) [(0, (tm 89))]), ⟨some 91, none, .app 6
 2 16 (tm 87) (tm 90) false⟩, om 92 2, oc 93 18 [(tm 91), (tm 92)], om 84 93, ox 94 0 84, ox 95 1 84, om 13 94, om 14 95] [2, 7, 9, 11, 12, 13, 14])
 (sq (rg [ om 96 14, ov 97 (.icmp .neq .i64 (tm 96) (ci 0)), om 98 97, gm 99 98 false 13, gm 100 98 false 12, gm 101 98 false 7, gm 102 98 false 9,
 ⟨some 103, some (98, false), .call true (.c (.fn (.func 20) [] [])) [(tm 100), (tm 101), (tm 102)]⟩, gv 104 98 false (.icmp .neq .i64 (tm 99) (tm
 103)), oz 105 98 104] [2, 7, 9, 11, 12, 105]) (.cond (tm 105) (sq (rg [ ob 6 false] [6]) .ret) .skip)))) (rg [ om 82 12, ov 83 (.arith .add .i64 (tm
 82) (ci 1)), om 12 83] [2, 7, 9, 11, 12])))))) (sq (.reg 12 [ ov 106 (.bs 2 0 (.agg [z0, z0]) []), om 107 11, ⟨some 108, none, .app 2 2 16 (tm 106)
 (tm 107) false⟩, ov 109 (.build [z0, z0] [(0, 1, (ci 9))]), ov 110 (.bs 2 1 (.agg [z0, z0]) [(0, (tm 109))]), ⟨some 111, none, .app 5 2 16 (tm 108)
 (tm 110) false⟩, om 112 11, ov 113 (.build [z0, z0] [(0, 1, (ci 10))]), ov 114 (.bs 2 1 (.agg [z0, z0]) [(0, (tm 113))]), ⟨some 115, none, .app 9 2 16
 (tm 112) (tm 114) false⟩, ⟨some 116, none, .app 10 2 16 (tm 111) (tm 115) false⟩, om 15 116] [2, 7, 9, 15]) (sq (rg [ om 118 15, om 119 2, oc 120 18
 [(tm 118), (tm 119)], om 117 120, ox 121 0 117, ox 122 1 117, om 16 121, om 17 122] [7, 9, 16, 17]) (sq (rg [ om 123 17, ov 124 (.icmp .eql .i64 (tm
 123) (ci 0)), om 125 124, gm 126 125 true 16, gm 127 125 true 7, gm 128 125 true 9, gv 129 125 true (.mnmx false .i64 [(tm 127), (tm 128)]), gv 130
 125 true (.icmp .eql .i64 (tm 126) (tm 129)), oy 131 125 130, om 6 131] [6]) .ret)))))))))))
theorem a8 : AOf Tryz.prog 8 c8 [.t 6] := mkA (fn := Tryz.f8) (c := Tryz.f8.body.getD .skip) (fz := []) (im := []) kp8 (by kernel_rfl) (by kernel_rfl) (by kernel_rfl) (by kernel_rfl) (by kernel_rfl)
def kp9 (r : Nat) : List Nat := match r with
  | 0 => [0, 1, 2, 3]
  | 1 => [0, 1, 2, 3, 16]
  | 2 => [8]
  | 3 => [0, 1, 2, 3, 42]
  | 4 => [8]
  | 5 => [0, 1, 2, 3, 9]
  | 6 => [0, 1, 2, 3, 9, 46]
  | 8 => [0, 1, 2, 3, 9, 63]
  | 9 => [8]
  | 7 => [0, 1, 2, 3, 9]
  | 10 => [0, 1, 2, 3, 10, 11]
  | 11 => [0, 2, 3, 10, 11, 12]
  | 12 => [0, 10, 11, 12]
  | 13 => [10, 11, 13, 14]
  | 14 => [8]
  | _ => []
def c9 : ACode :=
(sq (rg [ ob 8 false] [0, 1, 2, 3]) (sq (sq (rg [ oc 15 10 [], ot 16 15] [0, 1, 2, 3, 16]) (.cond (tm 16) (sq (rg [ ob 8 false] [8]) .ret) .skip)) (sq
 (sq (rg [ om 17 0, on 18 17, ov 19 (.icmp .gtr .i64 (tm 18) (ci 300)), om 20 19, gm 21 20 false 1, gv 22 20 false (.len (tm 21)), gv 23 20 false
 (.icmp .gtr .i64 (tm 22) (ci 20)), oz 24 20 23, om 25 24, gm 26 25 false 2, gv 27 25 false (.icmp .lss .i64 (tm 26) (ci 0)), oz 28 25 27, om 29 28, gm
 30 29 false 2, gm 31 29 false 1, gv 32 29 false (.len (tm 31)), gv 33 29 false (.icmp .geq .i64 (tm 30) (tm 32)), oz 34 29 33, om 35 34, gm 36 35
 false 3, gv 37 35 false (.icmp .lss .i64 (tm 36) (ci 0)), oz 38 35 37, om 39 38, gm 40 39 false 3, gv 41 39 false (.icmp .gtr .i64 (tm 40) (ci
 1048576)), oz 42 39 41] [0, 1, 2, 3, 42]) (.cond (tm 42) (sq (rg [ ob 8 true] [8]) .ret) .skip)) (sq (sq (rg [ oi 9 0] [0, 1, 2, 3, 9]) (.block 0
 (.loop (sq (sq (rg [ om 43 9, om 44 0, on 45 44, ov 46 (.icmp .lss .i64 (tm 43) (tm 45))] [0, 1, 2, 3, 9, 46]) (.cond (tm 46) .skip (.exit 0))) (sq
 (.block 1 (sq (rg [ om 49 0, om 50 9, oa 51 2 49 50, of 52 0 51, ol 53 52, ov 54 (.icmp .eql .i64 (tm 53) (ci 2)), om 55 54, gm 56 55 true 0, gm 57 55
 true 9, ga 58 55 true 2 56 57, gf 59 55 true 1 58, gl 60 55 true 59, gm 61 55 true 2, gv 62 55 true (.icmp .eql .i64 (tm 60) (tm 61)), oy 63 55 62]
 [0, 1, 2, 3, 9, 63]) (.cond (tm 63) (sq (rg [ ob 8 true] [8]) .ret) .skip))) (rg [ om 47 9, ov 48 (.arith .add .i64 (tm 47) (ci 1)), om 9 48] [0, 1,
 2, 3, 9])))))) (sq (rg [ om 65 0, om 66 1, oc 67 18 [(tm 65), (tm 66)], om 64 67, ox 68 0 64, ox 69 1 64, om 10 68, om 11 69] [0, 1, 2, 3, 10, 11])
 (sq (.reg 4 [ ov 70 (.bs 1 0 z0 []), om 71 1, ⟨some 72, none, .appR 2 1 8 z0 (tm 70) (tm 71) false⟩, om 12 72] [0, 2, 3, 10, 11, 12]) (sq (sq (rg [ om
 73 12, om 74 2, om 75 3, oa 76 1 73 74, ⟨none, none, .st 1 (tm 76) (tm 75)⟩] [0, 10, 11, 12]) (.frz 12)) (sq (rg [ om 78 0, om 79 12, oc 80 18 [(tm
 78), (tm 79)], om 77 80, ox 81 0 77, ox 82 1 77, om 13 81, om 14 82] [10, 11, 13, 14]) (sq (rg [ om 83 11, ov 84 (.icmp .neq .i64 (tm 83) (ci 0)), om
 85 84, gm 86 85 false 14, gv 87 85 false (.icmp .eql .i64 (tm 86) (ci 0)), gm 88 85 false 87, gm 89 88 true 10, gm 90 88 true 13, gv 91 88 true (.icmp
 .eql .i64 (tm 89) (tm 90)), ⟨some 92, some (85, false), .pick (tm 88) (tm 91) cF⟩, oz 93 85 92, om 8 93] [8]) .ret)))))))))
theorem a9 : AOf Tryz.prog 9 c9 [.t 8] := mkA (fn := Tryz.f9) (c := Tryz.f9.body.getD .skip) (fz := [(11, 2), (12, 1012)]) (im := []) kp9 (by kernel_rfl) (by kernel_rfl) (by kernel_rfl) (by kernel_rfl) (by kernel_rfl)
def kp10 (r : Nat) : List Nat := match r with
  | 0 => []
  | 1 => [1]
  | 2 => [1, 2, 4]
  | 3 => [1, 2, 4, 6, 7]
  | 4 => [1, 2, 4, 6, 7, 9, 10]
  | 5 => [1, 2, 4, 6, 7, 9, 10, 12, 13]
  | 6 => [1, 2, 4, 6, 7, 9, 10, 12, 13, 14, 16]
  | 7 => [1, 2, 4, 6, 7, 9, 10, 12, 13, 14, 16, 17, 19]
  | 8 => [1, 2, 4, 6, 7, 9, 10, 12, 13, 14, 16, 19, 20, 21]
  | 9 => [1, 2, 4, 6, 7, 9, 10, 12, 13, 14, 16, 19, 20, 21, 22, 24]
  | 10 => [1, 2, 4, 6, 7, 9, 10, 12, 13, 14, 16, 19, 20, 21, 24, 25, 26]
  | 11 => [1, 2, 4, 6, 7, 9, 10, 12, 13, 14, 16, 19, 20, 21, 24, 25, 26, 27, 29]
  | 12 => [1, 2, 4, 6, 7, 9, 10, 12, 13, 14, 16, 19, 20, 21, 24, 25, 26, 29, 30, 31]
  | 13 => [1, 2, 4, 6, 7, 9, 10, 12, 13, 14, 16, 19, 20, 21, 24, 25, 26, 29, 30, 31, 32, 34]
  | 14 => [1, 2, 4, 6, 7, 9, 10, 12, 13, 14, 16, 19, 20, 21, 24, 25, 26, 29, 30, 31, 34, 35, 36]
  | 15 => [1, 2, 4, 6, 7, 9, 10, 12, 13, 14, 16, 19, 20, 21, 24, 25, 26, 29, 30, 31, 34, 35, 36, 37, 38]
  | 16 => [1, 2, 4, 6, 7, 9, 10, 12, 13, 14, 16, 19, 20, 21, 24, 25, 26, 29, 30, 31, 34, 35, 36, 37, 38, 39, 40]
  | 17 => [2, 4, 6, 7, 9, 10, 12, 13, 14, 16, 19, 20, 21, 24, 25, 26, 29, 30, 31, 34, 35, 36, 37, 38, 39, 40, 42]
  | 18 => [2, 6, 9, 12, 14, 20, 25, 30, 35, 37, 39, 192]
  | 19 => [0]
  | 20 => [0]
  | _ => []
def c10 : ACode :=
(sq (rg [ ob 0 false] []) (sq (rg [ ov 43 (.bs 1 5 z0 [(0, (ci 0)), (1, (ci 0)), (2, (ci 0)), (3, (ci 0)), (4, (ci 0))]), om 1 43] [1]) (sq (rg [ oc 45
 11 [(.c (.str [49, 48, 48, 32, 47, 32, 112, 108, 97, 99, 101]))], om 44 45, ox 46 0 44, ox 47 1 44, ox 48 2 44, om 2 46, om 3 47, om 4 48] [1, 2, 4])
 (sq (rg [ oc 50 11 [(.c zr)], om 49 50, ox 51 0 49, ox 52 1 49, ox 53 2 49, om 5 51, om 6 52, om 7 53] [1, 2, 4, 6, 7]) (sq (rg [ oc 55 11 [(.c (.str
 [49, 32, 43]))], om 54 55, ox 56 0 54, ox 57 1 54, ox 58 2 54, om 8 56, om 9 57, om 10 58] [1, 2, 4, 6, 7, 9, 10]) (sq (rg [ oc 60 11 [(.c (.str [114,
 97, 110, 107]))], om 59 60, ox 61 0 59, ox 62 1 59, ox 63 2 59, om 11 61, om 12 62, om 13 63] [1, 2, 4, 6, 7, 9, 10, 12, 13]) (sq (rg [ oc 65 11 [(.c
 (.str [105, 102, 32, 112, 108, 97, 99, 101, 32, 60, 32, 52, 32, 116, 104, 101, 110, 32, 49, 48, 32, 101, 108, 115, 101, 32, 48]))], om 64 65, ox 66 0
 64, ox 67 1 64, ox 68 2 64, om 14 66, om 15 67, om 16 68] [1, 2, 4, 6, 7, 9, 10, 12, 13, 14, 16]) (sq (rg [ oc 70 11 [(.c (.str [49, 32, 43, 32, 50,
 32, 42, 32, 112, 108, 97, 99, 101]))], om 69 70, ox 71 0 69, ox 72 1 69, ox 73 2 69, om 17 71, om 18 72, om 19 73] [1, 2, 4, 6, 7, 9, 10, 12, 13, 14,
 16, 17, 19]) (sq (rg [ om 75 17, oc 76 14 [(tm 75)], om 74 76, ox 77 0 74, ox 78 1 74, om 20 77, om 21 78] [1, 2, 4, 6, 7, 9, 10, 12, 13, 14, 16, 19,
 20, 21]) (sq (rg [ oc 80 11 [(.c (.str [40, 32, 55, 32, 45, 32, 57, 32, 41, 32, 47, 32, 50, 32, 43, 32, 51]))], om 79 80, ox 81 0 79, ox 82 1 79, ox
 83 2 79, om 22 81, om 23 82, om 24 83] [1, 2, 4, 6, 7, 9, 10, 12, 13, 14, 16, 19, 20, 21, 22, 24]) (sq (rg [ om 85 22, om 86 1, oc 87 18 [(tm 85), (tm
 86)], om 84 87, ox 88 0 84, ox 89 1 84, om 25 88, om 26 89] [1, 2, 4, 6, 7, 9, 10, 12, 13, 14, 16, 19, 20, 21, 24, 25, 26]) (sq (rg [ oc 91 11 [(.c
 (.str [55, 32, 45, 32, 57]))], om 90 91, ox 92 0 90, ox 93 1 90, ox 94 2 90, om 27 92, om 28 93, om 29 94] [1, 2, 4, 6, 7, 9, 10, 12, 13, 14, 16, 19,
 20, 21, 24, 25, 26, 27, 29]) (sq (rg [ om 96 27, om 97 1, oc 98 18 [(tm 96), (tm 97)], om 95 98, ox 99 0 95, ox 100 1 95, om 30 99, om 31 100] [1, 2,
 4, 6, 7, 9, 10, 12, 13, 14, 16, 19, 20, 21, 24, 25, 26, 29, 30, 31]) (sq (rg [ oc 102 11 [(.c (.str [49, 32, 47, 32, 48]))], om 101 102, ox 103 0 101,
 ox 104 1 101, ox 105 2 101, om 32 103, om 33 104, om 34 105] [1, 2, 4, 6, 7, 9, 10, 12, 13, 14, 16, 19, 20, 21, 24, 25, 26, 29, 30, 31, 32, 34]) (sq
 (rg [ om 107 32, om 108 1, oc 109 18 [(tm 107), (tm 108)], om 106 109, ox 110 0 106, ox 111 1 106, om 35 110, om 36 111] [1, 2, 4, 6, 7, 9, 10, 12,
 13, 14, 16, 19, 20, 21, 24, 25, 26, 29, 30, 31, 34, 35, 36]) (sq (rg [ om 113 2, ov 114 (.bs 1 5 z0 [(0, (ci 3)), (1, (ci 0)), (2, (ci 0)), (3, (ci
 0)), (4, (ci 0))]), oc 115 18 [(tm 113), (tm 114)], om 112 115, ox 116 0 112, ox 117 1 112, om 37 116, om 38 117] [1, 2, 4, 6, 7, 9, 10, 12, 13, 14,
 16, 19, 20, 21, 24, 25, 26, 29, 30, 31, 34, 35, 36, 37, 38]) (sq (rg [ om 119 14, ov 120 (.bs 1 5 z0 [(0, (ci 3)), (1, (ci 0)), (2, (ci 0)), (3, (ci
 0)), (4, (ci 0))]), oc 121 18 [(tm 119), (tm 120)], om 118 121, ox 122 0 118, ox 123 1 118, om 39 122, om 40 123] [1, 2, 4, 6, 7, 9, 10, 12, 13, 14,
 16, 19, 20, 21, 24, 25, 26, 29, 30, 31, 34, 35, 36, 37, 38, 39, 40]) (sq (rg [ om 125 14, om 126 1, ov 127 (.sl 1 (tm 126) (some (ci 1)) none none),
 oc 128 18 [(tm 125), (tm 127)], om 124 128, ox 129 0 124, ox 130 1 124, om 41 129, om 42 130] [2, 4, 6, 7, 9, 10, 12, 13, 14, 16, 19, 20, 21, 24, 25,
 26, 29, 30, 31, 34, 35, 36, 37, 38, 39, 40, 42]) (sq (sq (rg [ om 131 4, ov 132 (.icmp .neq .i64 (tm 131) (ci 0)), om 133 132, gm 134 133 false 7, gv
 135 133 false (.icmp .neq .i64 (tm 134) (ci 150)), oz 136 133 135, om 137 136, gm 138 137 false 10, gv 139 137 false (.icmp .neq .i64 (tm 138) (ci
 150)), oz 140 137 139, om 141 140, gm 142 141 false 13, gv 143 141 false (.icmp .neq .i64 (tm 142) (ci 150)), oz 144 141 143, om 145 144, gm 146 145
 false 16, gv 147 145 false (.icmp .neq .i64 (tm 146) (ci 0)), oz 148 145 147, om 149 148, gm 150 149 false 19, gv 151 149 false (.icmp .neq .i64 (tm
 150) (ci 0)), oz 152 149 151, om 153 152, gm 154 153 false 21, gv 155 153 false (.icmp .neq .i64 (tm 154) (ci 0)), oz 156 153 155, om 157 156, gm 158
 157 false 24, gv 159 157 false (.icmp .neq .i64 (tm 158) (ci 0)), oz 160 157 159, om 161 160, gm 162 161 false 26, gv 163 161 false (.icmp .neq .i64
 (tm 162) (ci 0)), oz 164 161 163, om 165 164, gm 166 165 false 29, gv 167 165 false (.icmp .neq .i64 (tm 166) (ci 0)), oz 168 165 167, om 169 168, gm
 170 169 false 31, gv 171 169 false (.icmp .neq .i64 (tm 170) (ci 0)), oz 172 169 171, om 173 172, gm 174 173 false 34, gv 175 173 false (.icmp .neq
 .i64 (tm 174) (ci 0)), oz 176 173 175, om 177 176, gm 178 177 false 36, gv 179 177 false (.icmp .neq .i64 (tm 178) (ci 0)), oz 180 177 179, om 181
 180, gm 182 181 false 38, gv 183 181 false (.icmp .neq .i64 (tm 182) (ci 0)), oz 184 181 183, om 185 184, gm 186 185 false 40, gv 187 185 false (.icmp
 .neq .i64 (tm 186) (ci 0)), oz 188 185 187, om 189 188, gm 190 189 false 42, gv 191 189 false (.icmp .neq .i64 (tm 190) (ci 1)), oz 192 189 191] [2,
 6, 9, 12, 14, 20, 25, 30, 35, 37, 39, 192]) (.cond (tm 192) (sq (rg [ ob 0 false] [0]) .ret) .skip)) (sq (rg [ om 193 2, ov 194 (.build [z0, z0] [(0,
 1, (ci 1)), (1, 1, (ci 100))]), ov 195 (.build [z0, z0] [(0, 1, (ci 2))]), ov 196 (.build [z0, z0] [(0, 1, (ci 6))]), ov 197 (.bs 2 3 (.agg [z0, z0])
 [(0, (tm 194)), (1, (tm 195)), (2, (tm 196))]), oc 198 13 [(tm 193), (tm 197)], om 199 198, gm 200 199 true 6, gv 201 199 true (.icmp .eql .i64 (tm
 200) (ci 0)), oy 202 199 201, om 203 202, gm 204 203 true 9, gv 205 203 true (.icmp .eql .i64 (tm 204) (ci 3)), oy 206 203 205, om 207 206, gm 208 207
 true 12, gv 209 207 true (.icmp .eql .i64 (tm 208) (ci 0)), oy 210 207 209, om 211 210, gm 212 211 true 14, gv 213 211 true (.len (tm 212)), gv 214
 211 true (.icmp .eql .i64 (tm 213) (ci 6)), oy 215 211 214, om 216 215, gm 217 216 true 20, gv 218 216 true (.scmp .eql (tm 217) (.c (.str [40, 32,
 49, 32, 43, 32, 40, 32, 50, 32, 42, 32, 112, 108, 97, 99, 101, 32, 41, 32, 41]))), oy 219 216 218, om 220 219, gm 221 220 true 25, gv 222 220 true
 (.icmp .eql .i64 (tm 221) (ci 2)), oy 223 220 222, om 224 223, gm 225 224 true 30, gv 226 224 true (.icmp .eql .i64 (tm 225) (ci 0)), oy 227 224 226,
 om 228 227, gm 229 228 true 35, gv 230 228 true (.icmp .eql .i64 (tm 229) (ci 0)), oy 231 228 230, om 232 231, gm 233 232 true 37, gv 234 232 true
 (.icmp .eql .i64 (tm 233) (ci 33)), oy 235 232 234, om 236 235, gm 237 236 true 39, gv 238 236 true (.icmp .eql .i64 (tm 237) (ci 10)), oy 239 236
 238, om 240 239, ⟨some 241, some (240, true), .call true (.c (.fn (.func 16) [] [])) [(.c zs)]⟩, gv 242 240 true (.icmp .eql .i64 (tm 241) (ci 520)),
 oy 243 240 242, om 0 243] [0]) .ret))))))))))))))))))))
theorem a10 : AOf Tryz.prog 10 c10 [.t 0] := mkA (fn := Tryz.f10) (c := Tryz.f10.body.getD .skip) (fz := []) (im := []) kp10 (by kernel_rfl) (by kernel_rfl) (by kernel_rfl) (by kernel_rfl) (by kernel_rfl)
end Go.AM
end
