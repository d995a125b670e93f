/-
  The abstract code of some functions, written by a program · The abstract code of some functions, written by a program · The abstract code of some functions, written by a program · The abstract code of some functions, written by a program · The abstract code of some functions, written by a program · The abstract code of some functions, written by a program · The abstract code of some functions, written by a program · The abstract code of some functions, written by a program.
  Conditions: none beyond those of its parts.
-/
import Derived.Test.YtpjedmachelflaaGreatDoorProg
import Derived.Test.YtpjedmachelflaaGreatDoorB4
import Derived.KernelRfl

section
set_option maxRecDepth 20000
set_option linter.all false
namespace Go.AM
open Go.Proofs
def kp23 (r : Nat) : List Nat := match r with
  | 0 => [0]
  | 1 => [0, 4]
  | 2 => [4, 10, 11, 12]
  | 3 => [4, 10, 11, 12, 13]
  | 4 => [4, 5, 6, 10, 11, 12]
  | 6 => [4, 5, 6, 10, 11, 12, 22]
  | 7 => [2, 3]
  | 8 => [4, 5, 6, 10, 11, 12, 26]
  | 9 => [4, 10, 11, 12]
  | 5 => [4, 10, 11, 12]
  | 10 => [4, 10, 11, 12]
  | 11 => [2, 3]
  | _ => []
def c23 : ACode :=
(sq (rg [ ov 2 (.mv (.c zr)), oi 3 0] [0]) (sq (.reg 4 [ om 7 0, on 8 7, ⟨some 9, none, .mks 2 1 16 zr (tm 8)⟩, om 4 9] [0, 4]) (sq (sq (rg [ om 10 0,
 on 11 10, oi 12 0] [4, 10, 11, 12]) (.block 0 (.loop (sq (rg [ ov 13 (.icmp .lss .i64 (tm 12) (tm 11))] [4, 10, 11, 12, 13]) (sq (.cond (tm 13) .skip
 (.exit 0)) (sq (.block 1 (sq (.reg 6 [ om 14 12, oa 15 4 10 12, ov 16 (.ld 4 true (tm 15)), ⟨some 6, none, .alloc 3 [z0, zr, z0, z0]⟩, om 5 14, ⟨none,
 none, .st 4 (tm 6) (tm 16)⟩] [4, 5, 6, 10, 11, 12]) (.block 2 (sq (rg [ ov 23 (.ld 4 true (tm 6)), oc 24 56 [(tm 23)], ot 25 24, om 22 25] [4, 5, 6,
 10, 11, 12, 22]) (.cond (tm 22) (sq (rg [ ov 2 (.mv (.c zr)), oi 3 100] [2, 3]) .ret) (sq (rg [ of 27 0 6, ol 28 27, ov 29 (.icmp .eql .i64 (tm 28)
 (ci 2)), om 26 29] [4, 5, 6, 10, 11, 12, 26]) (.cond (tm 26) (rg [ om 30 4, om 31 5, of 32 2 6, ol 33 32, oc 34 57 [(tm 33)], oa 35 1 30 31, ⟨none,
 none, .st 1 (tm 35) (tm 34)⟩] [4, 10, 11, 12]) (rg [ om 17 4, om 18 5, of 19 1 6, ol 20 19, oa 21 1 17 18, ⟨none, none, .st 1 (tm 21) (tm 20)⟩] [4,
 10, 11, 12])))))))) (rg [ ov 36 (.arith .add .i64 (tm 12) (ci 1)), om 12 36] [4, 10, 11, 12]))))))) (sq (rg [ om 37 4, oc 38 58 [(tm 37), (.c (.str
 [32]))], om 2 38, oi 3 0] [2, 3]) .ret))))
theorem a23 : AOf Tryz.prog 23 c23 [.t 2, .t 3] := mkA (fn := Tryz.f23) (c := Tryz.f23.body.getD .skip) (fz := []) (im := []) kp23 (by kernel_rfl) (by kernel_rfl) (by kernel_rfl) (by kernel_rfl) (by kernel_rfl)
def kp36 (r : Nat) : List Nat := match r with
  | 0 => [0]
  | 1 => [0, 17]
  | 2 => [2]
  | 3 => [0, 19, 20]
  | 4 => [0, 19, 20, 21]
  | 5 => [0, 3, 19, 20]
  | 6 => [0, 4, 19, 20]
  | 7 => [0, 19, 20, 36]
  | 8 => [2]
  | 9 => [0, 19, 20]
  | 10 => [2]
  | _ => []
def c36 : ACode :=
(sq (rg [ ob 2 false] [0]) (sq (sq (rg [ om 5 0, ov 6 (.scmp .eql (tm 5) (.c zr)), om 7 6, gm 8 7 false 0, gv 9 7 false (.lenS (tm 8)), gv 10 7 false
 (.icmp .gtr .i64 (tm 9) (ci 32)), oz 11 7 10, om 12 11, gm 13 12 false 0, gv 14 12 false (.ixS (tm 13) (ci 0)), ⟨some 15, some (12, false), .call true
 (.c (.fn (.func 55) [] [])) [(tm 14)]⟩, gv 16 12 false (.icmp .neq .i64 (tm 15) (ci 2)), oz 17 12 16] [0, 17]) (.cond (tm 17) (sq (rg [ ob 2 false]
 [2]) .ret) .skip)) (sq (sq (rg [ om 18 0, ov 19 (.lenS (tm 18)), oi 20 0] [0, 19, 20]) (.block 0 (.loop (sq (rg [ ov 21 (.icmp .lss .i64 (tm 20) (tm
 19))] [0, 19, 20, 21]) (sq (.cond (tm 21) .skip (.exit 0)) (sq (.block 1 (sq (rg [ om 22 20, om 3 22] [0, 3, 19, 20]) (sq (rg [ om 23 0, om 24 3, ov
 25 (.ixS (tm 23) (tm 24)), oc 26 55 [(tm 25)], om 4 26] [0, 4, 19, 20]) (sq (rg [ om 27 4, ov 28 (.icmp .neq .i64 (tm 27) (ci 2)), om 29 28, gm 30 29
 true 4, gv 31 29 true (.icmp .neq .i64 (tm 30) (ci 3)), oy 32 29 31, om 33 32, gm 34 33 true 4, gv 35 33 true (.icmp .neq .i64 (tm 34) (ci 5)), oy 36
 33 35] [0, 19, 20, 36]) (.cond (tm 36) (sq (rg [ ob 2 false] [2]) .ret) .skip))))) (rg [ ov 37 (.arith .add .i64 (tm 20) (ci 1)), om 20 37] [0, 19,
 20]))))))) (sq (rg [ ob 2 true] [2]) .ret))))
theorem a36 : AOf Tryz.prog 36 c36 [.t 2] := mkA (fn := Tryz.f36) (c := Tryz.f36.body.getD .skip) (fz := []) (im := []) kp36 (by kernel_rfl) (by kernel_rfl) (by kernel_rfl) (by kernel_rfl) (by kernel_rfl)
def kp74 (r : Nat) : List Nat := match r with
  | 0 => [0]
  | 1 => [2]
  | _ => []
def c74 : ACode :=
(sq (rg [ ob 2 false] [0]) (sq (rg [ om 3 0, ov 4 (.icmp .eql .u8 (tm 3) (.c (.int .u8 32))), om 5 4, gm 6 5 false 0, gv 7 5 false (.icmp .eql .u8 (tm
 6) (.c (.int .u8 9))), oz 8 5 7, om 9 8, gm 10 9 false 0, gv 11 9 false (.icmp .eql .u8 (tm 10) (.c (.int .u8 10))), oz 12 9 11, om 13 12, gm 14 13
 false 0, gv 15 13 false (.icmp .eql .u8 (tm 14) (.c (.int .u8 13))), oz 16 13 15, om 2 16] [2]) .ret))
theorem a74 : AOf Tryz.prog 74 c74 [.t 2] := mkA (fn := Tryz.f74) (c := Tryz.f74.body.getD .skip) (fz := []) (im := []) kp74 (by kernel_rfl) (by kernel_rfl) (by kernel_rfl) (by kernel_rfl) (by kernel_rfl)
def kp77 (r : Nat) : List Nat := match r with
  | 0 => [0]
  | 1 => [0, 17]
  | 2 => [2]
  | 3 => [0, 3]
  | 4 => [0, 3, 21]
  | 6 => [0, 3, 28]
  | 7 => [2]
  | 5 => [0, 3]
  | 8 => [2]
  | _ => []
def c77 : ACode :=
(sq (rg [ ob 2 false] [0]) (sq (sq (rg [ om 4 0, ov 5 (.lenS (tm 4)), ov 6 (.icmp .lss .i64 (tm 5) (ci 1)), om 7 6, gm 8 7 false 0, gv 9 7 false (.lenS
 (tm 8)), gv 10 7 false (.icmp .gtr .i64 (tm 9) (ci 32)), oz 11 7 10, om 12 11, gm 13 12 false 0, gv 14 12 false (.ixS (tm 13) (ci 0)), ⟨some 15, some
 (12, false), .call true (.c (.fn (.func 75) [] [])) [(tm 14)]⟩, gv 16 12 false (.not (tm 15)), oz 17 12 16] [0, 17]) (.cond (tm 17) (sq (rg [ ob 2
 false] [2]) .ret) .skip)) (sq (sq (rg [ oi 3 0] [0, 3]) (.block 0 (.loop (sq (sq (rg [ om 18 3, om 19 0, ov 20 (.lenS (tm 19)), ov 21 (.icmp .lss .i64
 (tm 18) (tm 20))] [0, 3, 21]) (.cond (tm 21) .skip (.exit 0))) (sq (.block 1 (sq (rg [ om 24 0, om 25 3, ov 26 (.ixS (tm 24) (tm 25)), oc 27 76 [(tm
 26)], ot 28 27] [0, 3, 28]) (.cond (tm 28) (sq (rg [ ob 2 false] [2]) .ret) .skip))) (rg [ om 22 3, ov 23 (.arith .add .i64 (tm 22) (ci 1)), om 3 23]
 [0, 3])))))) (sq (rg [ ob 2 true] [2]) .ret))))
theorem a77 : AOf Tryz.prog 77 c77 [.t 2] := mkA (fn := Tryz.f77) (c := Tryz.f77.body.getD .skip) (fz := []) (im := []) kp77 (by kernel_rfl) (by kernel_rfl) (by kernel_rfl) (by kernel_rfl) (by kernel_rfl)
def kp55 (r : Nat) : List Nat := match r with
  | 0 => [0]
  | 1 => [0, 3]
  | 2 => [2]
  | 3 => [0, 18]
  | 4 => [2]
  | 5 => [0, 25]
  | 6 => [2]
  | 7 => [0, 28]
  | 8 => [2]
  | 9 => [43]
  | 10 => [2]
  | 11 => [2]
  | _ => []
def c55 : ACode :=
(sq (rg [ oi 2 0] [0]) (sq (.block 0 (sq (rg [ om 4 0, ov 5 (.icmp .geq .u8 (tm 4) (.c (.int .u8 97))), om 6 5, gm 7 6 true 0, gv 8 6 true (.icmp .leq
 .u8 (tm 7) (.c (.int .u8 122))), oy 9 6 8, om 10 9, gm 11 10 false 0, gv 12 10 false (.icmp .geq .u8 (tm 11) (.c (.int .u8 65))), gm 13 10 false 12,
 gm 14 13 true 0, gv 15 13 true (.icmp .leq .u8 (tm 14) (.c (.int .u8 90))), ⟨some 16, some (10, false), .pick (tm 13) (tm 15) cF⟩, oz 17 10 16, om 3
 17] [0, 3]) (.cond (tm 3) (sq (rg [ oi 2 2] [2]) .ret) (sq (rg [ om 19 0, ov 20 (.icmp .geq .u8 (tm 19) (.c (.int .u8 48))), om 21 20, gm 22 21 true
 0, gv 23 21 true (.icmp .leq .u8 (tm 22) (.c (.int .u8 57))), oy 24 21 23, om 18 24] [0, 18]) (.cond (tm 18) (sq (rg [ oi 2 3] [2]) .ret) (sq (rg [ om
 26 0, ov 27 (.icmp .eql .u8 (tm 26) (.c (.int .u8 95))), om 25 27] [0, 25]) (.cond (tm 25) (sq (rg [ oi 2 5] [2]) .ret) (sq (rg [ om 29 0, ov 30
 (.icmp .eql .u8 (tm 29) (.c (.int .u8 32))), om 31 30, gm 32 31 false 0, gv 33 31 false (.icmp .eql .u8 (tm 32) (.c (.int .u8 9))), oz 34 31 33, om 35
 34, gm 36 35 false 0, gv 37 35 false (.icmp .eql .u8 (tm 36) (.c (.int .u8 10))), oz 38 35 37, om 39 38, gm 40 39 false 0, gv 41 39 false (.icmp .eql
 .u8 (tm 40) (.c (.int .u8 13))), oz 42 39 41, om 28 42] [0, 28]) (.cond (tm 28) (sq (rg [ oi 2 1] [2]) .ret) (sq (rg [ om 44 0, oc 45 105 [(.c (.str
 [123, 125, 40, 41, 59, 44, 61, 58, 46, 60, 62, 33, 43, 45, 42, 47])), (tm 44)], ov 46 (.icmp .geq .i64 (tm 45) (ci 0)), om 43 46] [43]) (.cond (tm 43)
 (sq (rg [ oi 2 4] [2]) .ret) .skip))))))))))) (sq (rg [ oi 2 0] [2]) .ret)))
theorem a55 : AOf Tryz.prog 55 c55 [.t 2] := mkA (fn := Tryz.f55) (c := Tryz.f55.body.getD .skip) (fz := []) (im := []) kp55 (by kernel_rfl) (by kernel_rfl) (by kernel_rfl) (by kernel_rfl) (by kernel_rfl)
def kp75 (r : Nat) : List Nat := match r with
  | 0 => [0]
  | 1 => [2]
  | _ => []
def c75 : ACode :=
(sq (rg [ ob 2 false] [0]) (sq (rg [ om 3 0, ov 4 (.icmp .geq .u8 (tm 3) (.c (.int .u8 97))), om 5 4, gm 6 5 true 0, gv 7 5 true (.icmp .leq .u8 (tm 6)
 (.c (.int .u8 122))), oy 8 5 7, om 9 8, gm 10 9 false 0, gv 11 9 false (.icmp .geq .u8 (tm 10) (.c (.int .u8 65))), gm 12 9 false 11, gm 13 12 true 0,
 gv 14 12 true (.icmp .leq .u8 (tm 13) (.c (.int .u8 90))), ⟨some 15, some (9, false), .pick (tm 12) (tm 14) cF⟩, oz 16 9 15, om 2 16] [2]) .ret))
theorem a75 : AOf Tryz.prog 75 c75 [.t 2] := mkA (fn := Tryz.f75) (c := Tryz.f75.body.getD .skip) (fz := []) (im := []) kp75 (by kernel_rfl) (by kernel_rfl) (by kernel_rfl) (by kernel_rfl) (by kernel_rfl)
def kp76 (r : Nat) : List Nat := match r with
  | 0 => [0]
  | 1 => [2]
  | _ => []
def c76 : ACode :=
(sq (rg [ ob 2 false] [0]) (sq (rg [ om 3 0, oc 4 75 [(tm 3)], om 5 4, gm 6 5 false 0, ⟨some 7, some (5, false), .call true (.c (.fn (.func 78) [] []))
 [(tm 6)]⟩, oz 8 5 7, om 9 8, gm 10 9 false 0, gv 11 9 false (.icmp .eql .u8 (tm 10) (.c (.int .u8 95))), oz 12 9 11, om 2 12] [2]) .ret))
theorem a76 : AOf Tryz.prog 76 c76 [.t 2] := mkA (fn := Tryz.f76) (c := Tryz.f76.body.getD .skip) (fz := []) (im := []) kp76 (by kernel_rfl) (by kernel_rfl) (by kernel_rfl) (by kernel_rfl) (by kernel_rfl)
def kp78 (r : Nat) : List Nat := match r with
  | 0 => [0]
  | 1 => [2]
  | _ => []
def c78 : ACode :=
(sq (rg [ ob 2 false] [0]) (sq (rg [ om 3 0, ov 4 (.icmp .geq .u8 (tm 3) (.c (.int .u8 48))), om 5 4, gm 6 5 true 0, gv 7 5 true (.icmp .leq .u8 (tm 6)
 (.c (.int .u8 57))), oy 8 5 7, om 2 8] [2]) .ret))
theorem a78 : AOf Tryz.prog 78 c78 [.t 2] := mkA (fn := Tryz.f78) (c := Tryz.f78.body.getD .skip) (fz := []) (im := []) kp78 (by kernel_rfl) (by kernel_rfl) (by kernel_rfl) (by kernel_rfl) (by kernel_rfl)
def kp80 (r : Nat) : List Nat := match r with
  | 0 => [0]
  | 1 => [0, 3]
  | 2 => [0, 3, 4]
  | 3 => [0, 3, 4, 8]
  | 5 => [0, 3, 4, 15]
  | 6 => [2]
  | 4 => [0, 3, 4]
  | 7 => [2]
  | _ => []
def c80 : ACode :=
(sq (rg [ ob 2 false] [0]) (sq (rg [ ov 3 (.mv (.c (.str [123, 125, 40, 41, 59, 44, 61, 58, 46, 60, 62, 33, 43, 45, 42, 47])))] [0, 3]) (sq (sq (rg [
 oi 4 0] [0, 3, 4]) (.block 0 (.loop (sq (sq (rg [ om 5 4, om 6 3, ov 7 (.lenS (tm 6)), ov 8 (.icmp .lss .i64 (tm 5) (tm 7))] [0, 3, 4, 8]) (.cond (tm
 8) .skip (.exit 0))) (sq (.block 1 (sq (rg [ om 11 3, om 12 4, ov 13 (.ixS (tm 11) (tm 12)), om 14 0, ov 15 (.icmp .eql .u8 (tm 13) (tm 14))] [0, 3,
 4, 15]) (.cond (tm 15) (sq (rg [ ob 2 true] [2]) .ret) .skip))) (rg [ om 9 4, ov 10 (.arith .add .i64 (tm 9) (ci 1)), om 4 10] [0, 3, 4])))))) (sq (rg
 [ ob 2 false] [2]) .ret))))
theorem a80 : AOf Tryz.prog 80 c80 [.t 2] := mkA (fn := Tryz.f80) (c := Tryz.f80.body.getD .skip) (fz := []) (im := []) kp80 (by kernel_rfl) (by kernel_rfl) (by kernel_rfl) (by kernel_rfl) (by kernel_rfl)
def kp56 (r : Nat) : List Nat := match r with
  | 0 => [1]
  | 1 => [1, 4]
  | 2 => [1, 4, 5]
  | 3 => [2]
  | 4 => [1, 4, 15]
  | 5 => [2]
  | 6 => [1, 30]
  | 7 => [2]
  | 8 => [2]
  | _ => []
def c56 : ACode :=
(sq (.reg 2 [ ⟨some 1, none, .box 0 4 (tm 0)⟩, ob 2 false] [1]) (sq (sq (rg [ of 3 0 1, ol 4 3] [1, 4]) (.block 0 (sq (rg [ ov 6 (.icmp .eql .i64 (tm
 4) (ci 1)), om 5 6] [1, 4, 5]) (.cond (tm 5) (sq (rg [ of 7 1 1, ol 8 7, oc 9 36 [(tm 8)], om 10 9, gf 11 10 true 2 1, gl 12 10 true 11, gv 13 10 true
 (.icmp .eql .i64 (tm 12) (ci 0)), oy 14 10 13, om 2 14] [2]) .ret) (sq (rg [ ov 16 (.icmp .eql .i64 (tm 4) (ci 2)), om 15 16] [1, 4, 15]) (.cond (tm
 15) (sq (rg [ of 17 1 1, ol 18 17, ov 19 (.scmp .eql (tm 18) (.c zr)), om 20 19, gf 21 20 true 2 1, gl 22 20 true 21, gv 23 20 true (.icmp .geq .i64
 (tm 22) (ci 0)), oy 24 20 23, om 25 24, gf 26 25 true 2 1, gl 27 25 true 26, gv 28 25 true (.icmp .leq .i64 (tm 27) (ci 1099511627776)), oy 29 25 28,
 om 2 29] [2]) .ret) (sq (rg [ ov 31 (.icmp .eql .i64 (tm 4) (ci 3)), om 30 31] [1, 30]) (.cond (tm 30) (sq (rg [ of 32 1 1, ol 33 32, ov 34 (.lenS (tm
 33)), ov 35 (.icmp .eql .i64 (tm 34) (ci 1)), om 36 35, gf 37 36 true 1 1, gl 38 36 true 37, gv 39 36 true (.ixS (tm 38) (ci 0)), ⟨some 40, some (36,
 true), .call true (.c (.fn (.func 55) [] [])) [(tm 39)]⟩, gv 41 36 true (.icmp .eql .i64 (tm 40) (ci 4)), oy 42 36 41, om 43 42, gf 44 43 true 2 1, gl
 45 43 true 44, gv 46 43 true (.icmp .eql .i64 (tm 45) (ci 0)), oy 47 43 46, om 2 47] [2]) .ret) .skip)))))))) (sq (rg [ ob 2 false] [2]) .ret)))
theorem a56 : AOf Tryz.prog 56 c56 [.t 2] := mkA (fn := Tryz.f56) (c := Tryz.f56.body.getD .skip) (fz := []) (im := []) kp56 (by kernel_rfl) (by kernel_rfl) (by kernel_rfl) (by kernel_rfl) (by kernel_rfl)
theorem l57 : Callable Tryz.prog 57 := ⟨Tryz.f57, by kernel_rfl, by kernel_rfl, by kernel_rfl⟩
theorem l58 : Callable Tryz.prog 58 := ⟨Tryz.f58, by kernel_rfl, by kernel_rfl, by kernel_rfl⟩
def kp50 (r : Nat) : List Nat := match r with
  | 0 => []
  | _ => []
def c50 : ACode :=
(rg [ om 2 0, ov 3 (.nilc (tm 2)), of 4 1 3, ol 5 4, ov 6 (.ifc 88 (tm 5)), ⟨none, none, .pan (tm 6)⟩] [])
theorem a50 : AOf Tryz.prog 50 c50 [] := mkA (fn := Tryz.f50) (c := Tryz.f50.body.getD .skip) (fz := []) (im := []) kp50 (by kernel_rfl) (by kernel_rfl) (by kernel_rfl) (by kernel_rfl) (by kernel_rfl)
def kp51 (r : Nat) : List Nat := match r with
  | 0 => []
  | _ => []
def c51 : ACode :=
(rg [ om 2 0, ov 3 (.nilc (tm 2)), of 4 1 3, ol 5 4, om 6 0, ov 7 (.bs 1 1 z0 [(0, (ci 1))]), oc 8 101 [(tm 6), (tm 7)], ov 9 (.lenS (tm 8)), ov 10
 (.arith .add .i64 (tm 5) (tm 9)), ov 11 (.nilc (tm 2)), of 12 1 11, ⟨none, none, .st 1 (tm 12) (tm 10)⟩] [])
theorem a51 : AOf Tryz.prog 51 c51 [] := mkA (fn := Tryz.f51) (c := Tryz.f51.body.getD .skip) (fz := []) (im := []) kp51 (by kernel_rfl) (by kernel_rfl) (by kernel_rfl) (by kernel_rfl) (by kernel_rfl)
def kp52 (r : Nat) : List Nat := match r with
  | 0 => [0, 2]
  | 1 => []
  | _ => []
def c52 : ACode :=
(sq (rg [ om 3 0, ov 4 (.bs 1 3 z0 [(0, (ci 2)), (1, (ci 3)), (2, (ci 5))]), oc 5 101 [(tm 3), (tm 4)], om 2 5] [0, 2]) (rg [ om 6 0, om 7 2, om 8 2,
 ov 9 (.build [z0, zr, z0, z0] [(0, 1, (ci 1)), (1, 1, (tm 8))]), oe 10 102 [(tm 6), (tm 7), (tm 9)]] []))
theorem a52 : AOf Tryz.prog 52 c52 [] := mkA (fn := Tryz.f52) (c := Tryz.f52.body.getD .skip) (fz := []) (im := [(1, 4)]) kp52 (by kernel_rfl) (by kernel_rfl) (by kernel_rfl) (by kernel_rfl) (by kernel_rfl)
def kp53 (r : Nat) : List Nat := match r with
  | 0 => [0, 2]
  | 1 => [0, 2, 3, 4]
  | 2 => [0, 2, 3, 20]
  | 3 => [0, 2, 3]
  | 4 => []
  | _ => []
def c53 : ACode :=
(sq (rg [ om 5 0, ov 6 (.bs 1 1 z0 [(0, (ci 3))]), oc 7 101 [(tm 5), (tm 6)], om 2 7] [0, 2]) (sq (rg [ om 9 2, oc 10 103 [(tm 9)], om 8 10, ox 11 0 8,
 ox 12 1 8, om 3 11, om 4 12] [0, 2, 3, 4]) (sq (sq (rg [ om 13 4, ⟨some 14, none, .ext (.nileq 0 true) [(tm 13)]⟩, om 15 14, gm 16 15 false 3, ⟨some
 17, some (15, false), .call true (.c (.fn (.func 57) [] [])) [(tm 16)]⟩, gm 18 15 false 2, gv 19 15 false (.scmp .neq (tm 17) (tm 18)), oz 20 15 19]
 [0, 2, 3, 20]) (.cond (tm 20) (rg [ om 21 0, ov 22 (.nilc (tm 21)), of 23 1 22, ol 24 23, ov 25 (.ifc 88 (tm 24)), ⟨none, none, .pan (tm 25)⟩] [0, 2,
 3]) .skip)) (rg [ om 26 0, om 27 2, om 28 3, ov 29 (.build [z0, zr, z0, z0] [(0, 1, (ci 2)), (2, 1, (tm 28))]), oe 30 102 [(tm 26), (tm 27), (tm 29)]]
 []))))
theorem a53 : AOf Tryz.prog 53 c53 [] := mkA (fn := Tryz.f53) (c := Tryz.f53.body.getD .skip) (fz := []) (im := [(4, 4)]) kp53 (by kernel_rfl) (by kernel_rfl) (by kernel_rfl) (by kernel_rfl) (by kernel_rfl)
def kp54 (r : Nat) : List Nat := match r with
  | 0 => [0, 13]
  | 1 => [0, 2]
  | 2 => [0, 2, 25]
  | 3 => []
  | 4 => []
  | 5 => [0, 3]
  | 6 => []
  | _ => []
def c54 : ACode :=
(sq (sq (rg [ om 4 0, ov 5 (.nilc (tm 4)), of 6 0 5, ol 7 6, om 8 0, ov 9 (.nilc (tm 8)), of 10 1 9, ol 11 10, ov 12 (.slS (tm 7) (some (tm 11)) none),
 oc 13 104 [(tm 12), (.c (.str [47, 47]))]] [0, 13]) (.cond (tm 13) (sq (sq (rg [ om 14 0, ov 15 (.nilc (tm 14)), of 16 0 15, ol 17 16, om 18 0, ov 19
 (.nilc (tm 18)), of 20 1 19, ol 21 20, ov 22 (.slS (tm 17) (some (tm 21)) none), oc 23 105 [(tm 22), (.c (.int .u8 10))], om 2 23] [0, 2]) (sq (rg [
 om 24 2, ov 25 (.icmp .geq .i64 (tm 24) (ci 0))] [0, 2, 25]) (.cond (tm 25) (rg [ om 26 0, ov 27 (.nilc (tm 26)), of 28 1 27, ol 29 28, om 30 2, ov 31
 (.arith .add .i64 (tm 29) (tm 30)), ov 32 (.nilc (tm 26)), of 33 1 32, ⟨none, none, .st 1 (tm 33) (tm 31)⟩] []) (rg [ om 34 0, om 35 0, ov 36 (.nilc
 (tm 35)), of 37 0 36, ol 38 37, ov 39 (.lenS (tm 38)), ov 40 (.nilc (tm 34)), of 41 1 40, ⟨none, none, .st 1 (tm 41) (tm 39)⟩] [])))) .ret) .skip))
 (sq (rg [ om 42 0, ov 43 (.nilc (tm 42)), of 44 0 43, ol 45 44, om 46 0, ov 47 (.nilc (tm 46)), of 48 1 47, ol 49 48, om 50 0, ov 51 (.nilc (tm 50)),
 of 52 1 51, ol 53 52, ov 54 (.arith .add .i64 (tm 53) (ci 1)), ov 55 (.slS (tm 45) (some (tm 49)) (some (tm 54))), om 3 55] [0, 3]) (rg [ om 56 0, om
 57 3, om 58 3, ov 59 (.build [z0, zr, z0, z0] [(0, 1, (ci 3)), (1, 1, (tm 58))]), oe 60 102 [(tm 56), (tm 57), (tm 59)]] [])))
theorem a54 : AOf Tryz.prog 54 c54 [] := mkA (fn := Tryz.f54) (c := Tryz.f54.body.getD .skip) (fz := []) (im := [(6, 4)]) kp54 (by kernel_rfl) (by kernel_rfl) (by kernel_rfl) (by kernel_rfl) (by kernel_rfl)
def kp101 (r : Nat) : List Nat := match r with
  | 0 => [0, 1]
  | 1 => [0, 1, 5]
  | 2 => [0, 1, 5, 27]
  | 3 => [0, 1, 5]
  | 4 => [4]
  | _ => []
def c101 : ACode :=
(sq (rg [ ov 4 (.mv (.c zr))] [0, 1]) (sq (rg [ om 6 0, ov 7 (.nilc (tm 6)), of 8 1 7, ol 9 8, om 5 9] [0, 1, 5]) (sq (.block 0 (.loop (sq (sq (rg [ om
 10 5, om 11 0, ov 12 (.nilc (tm 11)), of 13 0 12, ol 14 13, ov 15 (.lenS (tm 14)), ov 16 (.icmp .lss .i64 (tm 10) (tm 15)), om 17 16, gm 18 17 true 1,
 gm 19 17 true 0, gv 20 17 true (.nilc (tm 19)), gf 21 17 true 0 20, gl 22 17 true 21, gm 23 17 true 5, gv 24 17 true (.ixS (tm 22) (tm 23)), ⟨some 25,
 some (17, true), .call true (.c (.fn (.func 55) [] [])) [(tm 24)]⟩, ⟨some 26, some (17, true), .call true (.c (.fn (.func 111) [] [])) [(tm 18), (tm
 25)]⟩, oy 27 17 26] [0, 1, 5, 27]) (.cond (tm 27) .skip (.exit 0))) (.block 1 (rg [ om 28 5, ov 29 (.arith .add .i64 (tm 28) (ci 1)), om 5 29] [0, 1,
 5]))))) (sq (rg [ om 30 0, ov 31 (.nilc (tm 30)), of 32 0 31, ol 33 32, om 34 0, ov 35 (.nilc (tm 34)), of 36 1 35, ol 37 36, om 38 5, ov 39 (.slS (tm
 33) (some (tm 37)) (some (tm 38))), om 4 39] [4]) .ret))))
theorem l101 : Callable Tryz.prog 101 := ⟨Tryz.f101, by kernel_rfl, by kernel_rfl, by kernel_rfl⟩
theorem a101 : AOf Tryz.prog 101 c101 [.t 4] := mkA (fn := Tryz.f101) (c := Tryz.f101.body.getD .skip) (fz := []) (im := []) kp101 (by kernel_rfl) (by kernel_rfl) (by kernel_rfl) (by kernel_rfl) (by kernel_rfl)
def kp102 (r : Nat) : List Nat := match r with
  | 0 => [0, 1, 5]
  | 1 => [0, 1, 5, 8]
  | 2 => [0, 1, 5]
  | 3 => [0, 1, 5]
  | 4 => [0, 1]
  | 5 => []
  | _ => []
def c102 : ACode :=
(sq (.reg 1 [ ⟨some 5, none, .box 0 4 (tm 2)⟩] [0, 1, 5]) (sq (sq (rg [ ov 6 (.ld 4 true (tm 5)), oc 7 56 [(tm 6)], ot 8 7] [0, 1, 5, 8]) (.cond (tm 8)
 (rg [ om 9 0, ov 10 (.nilc (tm 9)), of 11 1 10, ol 12 11, ov 13 (.ifc 88 (tm 12)), ⟨none, none, .pan (tm 13)⟩] [0, 1, 5]) .skip)) (sq (rg [ om 14 0,
 ov 15 (.nilc (tm 14)), of 16 1 15, ol 17 16, of 18 3 5, ⟨none, none, .st 1 (tm 18) (tm 17)⟩] [0, 1, 5]) (sq (.reg 11 [ om 19 0, om 20 0, ov 21 (.nilc
 (tm 20)), of 22 2 21, ol 23 22, ov 24 (.ld 4 true (tm 5)), ov 25 (.bs 4 1 (.agg [z0, zr, z0, z0]) [(0, (tm 24))]), ⟨some 26, none, .app 7 4 40 (tm 23)
 (tm 25) false⟩, ov 27 (.nilc (tm 19)), of 28 2 27, ⟨none, none, .st 1 (tm 28) (tm 26)⟩] [0, 1]) (rg [ om 29 0, ov 30 (.nilc (tm 29)), of 31 1 30, ol
 32 31, om 33 1, ov 34 (.lenS (tm 33)), ov 35 (.arith .add .i64 (tm 32) (tm 34)), ov 36 (.nilc (tm 29)), of 37 1 36, ⟨none, none, .st 1 (tm 37) (tm
 35)⟩] [])))))
theorem a102 : AOf Tryz.prog 102 c102 [] := mkA (fn := Tryz.f102) (c := Tryz.f102.body.getD .skip) (fz := []) (im := []) kp102 (by kernel_rfl) (by kernel_rfl) (by kernel_rfl) (by kernel_rfl) (by kernel_rfl)
theorem l103 : Callable Tryz.prog 103 := ⟨Tryz.f103, by kernel_rfl, by kernel_rfl, by kernel_rfl⟩
theorem l104 : Callable Tryz.prog 104 := ⟨Tryz.f104, by kernel_rfl, by kernel_rfl, by kernel_rfl⟩
theorem l105 : Callable Tryz.prog 105 := ⟨Tryz.f105, by kernel_rfl, by kernel_rfl, by kernel_rfl⟩
def kp96 (r : Nat) : List Nat := match r with
  | 0 => [0]
  | 1 => [0, 3]
  | 2 => [0, 3, 11]
  | 3 => [0, 3]
  | 4 => [0, 3]
  | 5 => [2]
  | _ => []
def c96 : ACode :=
(sq (rg [ ov 2 (.mv (.c zr))] [0]) (sq (rg [ om 4 0, ov 5 (.arith .rem .i64 (tm 4) (ci 10)), ov 6 (.arith .add .i64 (ci 48) (tm 5)), ov 7 (.conv .u8
 (tm 6)), ov 8 (.bs 1 1 (.int .u8 0) [(0, (tm 7))]), ov 9 (.b2s (tm 8)), om 3 9] [0, 3]) (sq (.block 0 (.loop (sq (sq (rg [ om 10 0, ov 11 (.icmp .geq
 .i64 (tm 10) (ci 10))] [0, 3, 11]) (.cond (tm 11) .skip (.exit 0))) (.block 1 (sq (rg [ om 12 0, ov 13 (.arith .quo .i64 (tm 12) (ci 10)), om 0 13]
 [0, 3]) (rg [ om 14 0, ov 15 (.arith .rem .i64 (tm 14) (ci 10)), ov 16 (.arith .add .i64 (ci 48) (tm 15)), ov 17 (.conv .u8 (tm 16)), ov 18 (.bs 1 1
 (.int .u8 0) [(0, (tm 17))]), ov 19 (.b2s (tm 18)), om 20 3, ov 21 (.sadd (tm 19) (tm 20)), om 3 21] [0, 3])))))) (sq (rg [ om 22 3, om 2 22] [2])
 .ret))))
theorem a96 : AOf Tryz.prog 96 c96 [.t 2] := mkA (fn := Tryz.f96) (c := Tryz.f96.body.getD .skip) (fz := []) (im := []) kp96 (by kernel_rfl) (by kernel_rfl) (by kernel_rfl) (by kernel_rfl) (by kernel_rfl)
def kp111 (r : Nat) : List Nat := match r with
  | 0 => [0, 1]
  | 1 => [4]
  | _ => []
def c111 : ACode :=
(sq (rg [ ob 4 false] [0, 1]) (sq (rg [ om 5 0, om 6 1, oc 7 100 [(tm 5), (tm 6)], ov 8 (.icmp .geq .i64 (tm 7) (ci 0)), om 4 8] [4]) .ret))
theorem a111 : AOf Tryz.prog 111 c111 [.t 4] := mkA (fn := Tryz.f111) (c := Tryz.f111.body.getD .skip) (fz := []) (im := []) kp111 (by kernel_rfl) (by kernel_rfl) (by kernel_rfl) (by kernel_rfl) (by kernel_rfl)
def kp100 (r : Nat) : List Nat := match r with
  | 0 => [0, 1]
  | 1 => [0, 1, 7, 8]
  | 2 => [0, 1, 7, 8, 9]
  | 3 => [0, 1, 5, 7, 8]
  | 4 => [0, 1, 5, 7, 8, 16]
  | 5 => [4]
  | 6 => [0, 1, 7, 8]
  | 7 => [4]
  | _ => []
def c100 : ACode :=
(sq (rg [ oi 4 0] [0, 1]) (sq (sq (rg [ om 6 0, on 7 6, oi 8 0] [0, 1, 7, 8]) (.block 0 (.loop (sq (rg [ ov 9 (.icmp .lss .i64 (tm 8) (tm 7))] [0, 1,
 7, 8, 9]) (sq (.cond (tm 9) .skip (.exit 0)) (sq (.block 1 (sq (rg [ om 10 8, om 5 10] [0, 1, 5, 7, 8]) (sq (rg [ om 11 1, om 12 0, om 13 5, oa 14 1
 12 13, ol 15 14, ov 16 (.icmp .eql .i64 (tm 11) (tm 15))] [0, 1, 5, 7, 8, 16]) (.cond (tm 16) (sq (rg [ om 17 5, om 4 17] [4]) .ret) .skip)))) (rg [
 ov 18 (.arith .add .i64 (tm 8) (ci 1)), om 8 18] [0, 1, 7, 8]))))))) (sq (rg [ oi 4 (-1)] [4]) .ret)))
theorem a100 : AOf Tryz.prog 100 c100 [.t 4] := mkA (fn := Tryz.f100) (c := Tryz.f100.body.getD .skip) (fz := []) (im := []) kp100 (by kernel_rfl) (by kernel_rfl) (by kernel_rfl) (by kernel_rfl) (by kernel_rfl)
end Go.AM
end
section
set_option maxRecDepth 20000
set_option linter.all false
namespace Go.AM
open Go.Proofs
def kp49 (r : Nat) : List Nat := match r with
  | 0 => [0, 1, 2, 3]
  | 1 => [0, 1, 2, 3, 6]
  | 2 => []
  | _ => []
def c49 : ACode :=
(sq (rg [ om 5 3, ⟨some 6, none, .ext (.nileq 0 true) [(tm 5)]⟩] [0, 1, 2, 3, 6]) (.cond (tm 6) (rg [ om 7 3, ⟨some 8, none, .ext (.tas 88 false z0)
 [(tm 7)]⟩, ⟨none, none, .st 1 (tm 0) (.c zs)⟩, ⟨none, none, .st 1 (tm 1) (tm 8)⟩, ⟨none, none, .st 1 (tm 2) (ci 100)⟩] []) .skip))
theorem l49 : Callable Tryz.prog 49 := ⟨Tryz.f49, by kernel_rfl, by kernel_rfl, by kernel_rfl⟩
theorem a49 {args : List AVal} {rv : AVal} {H : AHeap} {n : Nat} {Rc : AHeap → Nat → Prop} (h : awp Tryz.prog c49 (postC [] fun o H' n' => o = .ret (.tup []) ∧ Rc H' n') ⟨(3, true, rv) :: (4, true, rv) :: penv 0 args, H, n⟩) : ADefer Tryz.prog 49 args rv H n Rc :=
  adefer_of' (id := 0) (fn := Tryz.f49) (ops := regOps (sqH (Tryz.f49.body.getD .skip))) (X := sqT (Tryz.f49.body.getD .skip)) (y := c49) (fz := []) (im := []) (kp := kp49) (t3 := 3) (t4 := 4) (by kernel_rfl) (by kernel_rfl) (by kernel_rfl) (by kernel_rfl) (by kernel_rfl) (by kernel_rfl) h
def kp22 (r : Nat) : List Nat := match r with
  | 0 => [0, 2, 3, 4]
  | 1 => [0, 2, 3, 4, 9]
  | 2 => [2, 3, 4]
  | 3 => [0, 2, 3, 4]
  | 4 => [0, 2, 3, 4, 5]
  | 5 => [0, 2, 3, 4, 5]
  | 6 => [0, 2, 3, 4, 5, 6]
  | 7 => [0, 2, 3, 4, 5, 6, 22]
  | 8 => [0, 2, 3, 4, 5, 6]
  | 9 => [2, 3, 4]
  | _ => []
def c22_0 : ACode :=
  (.reg 3 [
    ⟨some 2, none, .alloc 0 [(.sl .nil [])]⟩,
    ⟨some 3, none, .alloc 1 [(.int .i64 0)]⟩,
    ⟨some 4, none, .alloc 2 [(.int .i64 0)]⟩] [0, 2, 3, 4])
def c22_1 : ACode :=
  (.seq
   (.reg 0 [
     ⟨some 7, none, .v (.mv (.t 0))⟩,
     ⟨some 8, none, .v (.lenS (.t 7))⟩,
     ⟨some 9, none, .v (.icmp .gtr .i64 (.t 8) (.c (.int .i64 65536)))⟩] [0, 2, 3, 4, 9])
   (.cond (.t 9)
    (.seq
     (.reg 0 [
       ⟨none, none, .st 1 (.t 2) (.c (.sl .nil []))⟩,
       ⟨none, none, .st 1 (.t 3) (.c (.int .i64 0))⟩,
       ⟨none, none, .st 1 (.t 4) (.c (.int .i64 2))⟩] [2, 3, 4])
     .ret)
    .skip))
def c22 : ACode :=
(sq (.reg 1 [ ⟨some 5, none, .alloc 0 [.nilfn, .nilfn, .nilfn, .nilfn, .nilfn, .nilfn]⟩] [0, 2, 3, 4, 5]) (sq (rg [ ov 11 (.build [.nilfn, .nilfn,
 .nilfn, .nilfn, .nilfn, .nilfn] [(0, 1, (.c (.fn (.func 50) [] []))), (1, 1, (.c (.fn (.func 51) [] []))), (2, 1, (.c (.fn (.func 52) [] []))), (3, 1,
 (.c (.fn (.func 53) [] []))), (4, 1, (.c (.fn (.func 54) [] []))), (5, 1, (.c (.fn (.func 50) [] [])))]), of 12 0 5, ⟨none, none, .st 6 (tm 12) (tm
 11)⟩] [0, 2, 3, 4, 5]) (sq (.reg 4 [ om 13 0, ov 14 (.build [zr, z0, zs] [(0, 1, (tm 13))]), ⟨some 15, none, .box 2 3 (tm 14)⟩, om 6 15] [0, 2, 3, 4,
 5, 6]) (sq (.block 0 (.loop (sq (sq (rg [ om 16 6, ov 17 (.nilc (tm 16)), of 18 1 17, ol 19 18, om 20 0, ov 21 (.lenS (tm 20)), ov 22 (.icmp .lss .i64
 (tm 19) (tm 21))] [0, 2, 3, 4, 5, 6, 22]) (.cond (tm 22) .skip (.exit 0))) (.block 1 (rg [ om 23 0, om 24 6, ov 25 (.nilc (tm 24)), of 26 1 25, ol 27
 26, ov 28 (.ixS (tm 23) (tm 27)), oc 29 55 [(tm 28)], of 30 0 5, ov 31 (.iaA 6 1 (tm 30) (tm 29)), ol 32 31, om 33 6, ⟨some 34, none, .call false (tm
 32) [(tm 33)]⟩] [0, 2, 3, 4, 5, 6]))))) (sq (rg [ om 35 6, ov 36 (.nilc (tm 35)), of 37 2 36, ol 38 37, ⟨none, none, .st 1 (tm 2) (tm 38)⟩, ⟨none,
 none, .st 1 (tm 3) (ci 0)⟩, ⟨none, none, .st 1 (tm 4) (ci 0)⟩] [2, 3, 4]) .ret)))))
theorem a22 {args : List AVal} {H : AHeap} {n : Nat} {R : AOut → AHeap → Nat → Prop} (h : awp Tryz.prog (aspine [c22_0, c22_1]) (postD Tryz.prog 10 ⟨(some 10), none, .v (.fn (.func 49) [] [(.t 2), (.t 3), (.t 4)])⟩ c22 5 49 [.c 2 1 false, .c 3 1 false, .c 4 1 false] R) ⟨penv 0 args, H, n⟩) : ACalls Tryz.prog 22 args H n R :=
  acalls_defer' (id := 3) (fn := Tryz.f22) (pre := [sqH (Tryz.f22.body.getD .skip), sqH (sqT (Tryz.f22.body.getD .skip))]) (ys := [c22_0, c22_1]) (ops := regOps (sqH (sqT (sqT (Tryz.f22.body.getD .skip))))) (X := (sqT (sqT (sqT (Tryz.f22.body.getD .skip))))) (y := c22) (fz := []) (fzX := [(999999, 5)]) (im := [(8, 11)]) (kp := kp22) (rs := [.c 2 1 false, .c 3 1 false, .c 4 1 false]) (d0 := (some 10)) (k := .fn (.func 49) [] [(.t 2), (.t 3), (.t 4)]) (t := 10) (by kernel_rfl) (by kernel_rfl) (by kernel_rfl) (by kernel_rfl) (by kernel_rfl) (by kernel_rfl) (by kernel_rfl) (by kernel_rfl) (by kernel_rfl) l49 h
end Go.AM
end
section
set_option maxRecDepth 20000
set_option linter.all false
namespace Go.AM
open Go.Proofs
end Go.AM
end
section
set_option maxRecDepth 20000
set_option linter.all false
namespace Go.AM
open Go.Proofs
def kp71 (r : Nat) : List Nat := match r with
  | 0 => [0, 7]
  | 1 => [0]
  | 2 => []
  | _ => []
def c71 : ACode :=
(sq (sq (rg [ om 2 0, ov 3 (.nilc (tm 2)), of 4 1 3, ol 5 4, on 6 5, ov 7 (.icmp .gtr .i64 (tm 6) (ci 0))] [0, 7]) (.cond (tm 7) (rg [ om 8 0, ov 9
 (.nilc (tm 8)), of 10 1 9, ol 11 10, ov 12 (.ia 4 (tm 11) (ci 0)), of 13 3 12, ol 14 13, ov 15 (.ifc 59 (tm 14)), ⟨none, none, .pan (tm 15)⟩] [0])
 .skip)) (rg [ om 16 0, ov 17 (.nilc (tm 16)), of 18 0 17, ol 19 18, ov 20 (.lenS (tm 19)), ov 21 (.ifc 59 (tm 20)), ⟨none, none, .pan (tm 21)⟩] []))
theorem l71 : Callable Tryz.prog 71 := ⟨Tryz.f71, by kernel_rfl, by kernel_rfl, by kernel_rfl⟩
theorem a71 : AOf Tryz.prog 71 c71 [] := mkA (fn := Tryz.f71) (c := Tryz.f71.body.getD .skip) (fz := []) (im := []) kp71 (by kernel_rfl) (by kernel_rfl) (by kernel_rfl) (by kernel_rfl) (by kernel_rfl)
def kp70 (r : Nat) : List Nat := match r with
  | 0 => [0, 1]
  | 1 => [0, 31]
  | 2 => [4]
  | 3 => []
  | 4 => [4]
  | _ => []
def c70 : ACode :=
(sq (rg [ ob 4 false] [0, 1]) (sq (sq (rg [ om 5 0, ov 6 (.nilc (tm 5)), of 7 1 6, ol 8 7, on 9 8, ov 10 (.icmp .eql .i64 (tm 9) (ci 0)), om 11 10, gm
 12 11 false 0, gv 13 11 false (.nilc (tm 12)), gf 14 11 false 1 13, gl 15 11 false 14, gv 16 11 false (.ia 4 (tm 15) (ci 0)), gf 17 11 false 0 16, gl
 18 11 false 17, gv 19 11 false (.icmp .eql .i64 (tm 18) (ci 2)), oz 20 11 19, om 21 20, gm 22 21 false 0, gv 23 21 false (.nilc (tm 22)), gf 24 21
 false 1 23, gl 25 21 false 24, gv 26 21 false (.ia 4 (tm 25) (ci 0)), gf 27 21 false 1 26, gl 28 21 false 27, gm 29 21 false 1, gv 30 21 false (.scmp
 .neq (tm 28) (tm 29)), oz 31 21 30] [0, 31]) (.cond (tm 31) (sq (rg [ ob 4 false] [4]) .ret) .skip)) (sq (rg [ om 32 0, om 33 0, ov 34 (.nilc (tm
 33)), of 35 1 34, ol 36 35, ov 37 (.sl 4 (tm 36) (some (ci 1)) none none), ov 38 (.nilc (tm 32)), of 39 1 38, ⟨none, none, .st 1 (tm 39) (tm 37)⟩] [])
 (sq (rg [ ob 4 true] [4]) .ret))))
theorem l70 : Callable Tryz.prog 70 := ⟨Tryz.f70, by kernel_rfl, by kernel_rfl, by kernel_rfl⟩
theorem a70 : AOf Tryz.prog 70 c70 [.t 4] := mkA (fn := Tryz.f70) (c := Tryz.f70.body.getD .skip) (fz := []) (im := []) kp70 (by kernel_rfl) (by kernel_rfl) (by kernel_rfl) (by kernel_rfl) (by kernel_rfl)
def kp66 (r : Nat) : List Nat := match r with
  | 0 => [0, 6, 7, 8]
  | 1 => [0, 6, 7, 8, 9]
  | 2 => [0, 5, 6, 7, 8]
  | 3 => [0, 6, 7, 8, 15]
  | 4 => [0, 6, 7, 8]
  | 5 => [0, 6, 7, 8]
  | _ => []
def c66 : ACode :=
(sq (rg [ om 6 1, on 7 6, oi 8 0] [0, 6, 7, 8]) (.block 0 (.loop (sq (rg [ ov 9 (.icmp .lss .i64 (tm 8) (tm 7))] [0, 6, 7, 8, 9]) (sq (.cond (tm 9)
 .skip (.exit 0)) (sq (.block 1 (sq (rg [ oa 10 1 6 8, ol 11 10, om 5 11] [0, 5, 6, 7, 8]) (sq (rg [ om 12 0, om 13 5, oe 14 70 [(tm 12), (tm 13)], ot
 15 14] [0, 6, 7, 8, 15]) (.cond (tm 15) (rg [ om 16 0, oe 17 71 [(tm 16)]] [0, 6, 7, 8]) .skip)))) (rg [ ov 18 (.arith .add .i64 (tm 8) (ci 1)), om 8
 18] [0, 6, 7, 8])))))))
theorem l66 : Callable Tryz.prog 66 := ⟨Tryz.f66, by kernel_rfl, by kernel_rfl, by kernel_rfl⟩
theorem a66 : AOf Tryz.prog 66 c66 [] := mkA (fn := Tryz.f66) (c := Tryz.f66.body.getD .skip) (fz := []) (im := [(3, 2), (4, 1)]) kp66 (by kernel_rfl) (by kernel_rfl) (by kernel_rfl) (by kernel_rfl) (by kernel_rfl)
def kp110 (r : Nat) : List Nat := match r with
  | 0 => [0, 1, 4]
  | 1 => [0, 4, 22]
  | 2 => [0, 4]
  | 3 => [0, 4, 5]
  | 4 => [4, 5]
  | 5 => [4]
  | _ => []
def c110 : ACode :=
(sq (.reg 1 [ ⟨some 4, none, .alloc 0 [z0, zr, z0, z0]⟩] [0, 1, 4]) (sq (sq (rg [ om 6 0, ov 7 (.nilc (tm 6)), of 8 1 7, ol 9 8, on 10 9, ov 11 (.icmp
 .eql .i64 (tm 10) (ci 0)), om 12 11, gm 13 12 false 0, gv 14 12 false (.nilc (tm 13)), gf 15 12 false 1 14, gl 16 12 false 15, gv 17 12 false (.ia 4
 (tm 16) (ci 0)), gf 18 12 false 0 17, gl 19 12 false 18, gm 20 12 false 1, gv 21 12 false (.icmp .neq .i64 (tm 19) (tm 20)), oz 22 12 21] [0, 4, 22])
 (.cond (tm 22) (rg [ om 23 0, oe 24 71 [(tm 23)]] [0, 4]) .skip)) (sq (.reg 8 [ om 25 0, ov 26 (.nilc (tm 25)), of 27 1 26, ol 28 27, ov 29 (.ia 4 (tm
 28) (ci 0)), ov 30 (.ld 4 true (tm 29)), ⟨some 5, none, .alloc 6 [z0, zr, z0, z0]⟩, ⟨none, none, .st 4 (tm 5) (tm 30)⟩] [0, 4, 5]) (sq (rg [ om 31 0,
 om 32 0, ov 33 (.nilc (tm 32)), of 34 1 33, ol 35 34, ov 36 (.sl 4 (tm 35) (some (ci 1)) none none), ov 37 (.nilc (tm 31)), of 38 1 37, ⟨none, none,
 .st 1 (tm 38) (tm 36)⟩] [4, 5]) (sq (rg [ ov 39 (.ld 4 true (tm 5)), ⟨none, none, .st 4 (tm 4) (tm 39)⟩] [4]) .ret)))))
theorem l110 : Callable Tryz.prog 110 := ⟨Tryz.f110, by kernel_rfl, by kernel_rfl, by kernel_rfl⟩
theorem a110 : AOf Tryz.prog 110 c110 [.c 4 4 true] := mkA (fn := Tryz.f110) (c := Tryz.f110.body.getD .skip) (fz := []) (im := [(2, 1)]) kp110 (by kernel_rfl) (by kernel_rfl) (by kernel_rfl) (by kernel_rfl) (by kernel_rfl)
def kp67 (r : Nat) : List Nat := match r with
  | 0 => [0]
  | 1 => [2]
  | _ => []
def c67 : ACode :=
(sq (rg [ ov 2 (.mv (.c zr))] [0]) (sq (rg [ om 3 0, oe 4 110 [(tm 3), (ci 1)], ov 5 (.fld 1 1 false (tm 4)), om 2 5] [2]) .ret))
theorem l67 : Callable Tryz.prog 67 := ⟨Tryz.f67, by kernel_rfl, by kernel_rfl, by kernel_rfl⟩
theorem a67 : AOf Tryz.prog 67 c67 [.t 2] := mkA (fn := Tryz.f67) (c := Tryz.f67.body.getD .skip) (fz := []) (im := [(1, 1)]) kp67 (by kernel_rfl) (by kernel_rfl) (by kernel_rfl) (by kernel_rfl) (by kernel_rfl)
def kp68 (r : Nat) : List Nat := match r with
  | 0 => [0]
  | 1 => [2]
  | _ => []
def c68 : ACode :=
(sq (rg [ oi 2 0] [0]) (sq (rg [ om 3 0, oe 4 110 [(tm 3), (ci 2)], ov 5 (.fld 2 1 false (tm 4)), om 2 5] [2]) .ret))
theorem l68 : Callable Tryz.prog 68 := ⟨Tryz.f68, by kernel_rfl, by kernel_rfl, by kernel_rfl⟩
theorem a68 : AOf Tryz.prog 68 c68 [.t 2] := mkA (fn := Tryz.f68) (c := Tryz.f68.body.getD .skip) (fz := []) (im := [(1, 1)]) kp68 (by kernel_rfl) (by kernel_rfl) (by kernel_rfl) (by kernel_rfl) (by kernel_rfl)
def kp69 (r : Nat) : List Nat := match r with
  | 0 => [0]
  | 1 => [0, 3]
  | 2 => [0, 3, 8]
  | 3 => [0, 3]
  | 4 => [2]
  | _ => []
def c69 : ACode :=
(sq (rg [ ov 2 (.mv (.c zs))] [0]) (sq (rg [ om 4 0, oe 5 67 [(tm 4)], ov 6 (.bs 1 1 zr [(0, (tm 5))]), om 3 6] [0, 3]) (sq (.block 0 (.loop (sq (sq
 (rg [ om 7 0, oe 8 70 [(tm 7), (.c (.str [44]))]] [0, 3, 8]) (.cond (tm 8) .skip (.exit 0))) (.block 1 (.reg 6 [ om 9 3, om 10 0, oe 11 67 [(tm 10)],
 ov 12 (.bs 1 1 zr [(0, (tm 11))]), ⟨some 13, none, .app 4 1 16 (tm 9) (tm 12) false⟩, om 3 13] [0, 3]))))) (sq (rg [ om 14 3, om 2 14] [2]) .ret))))
theorem l69 : Callable Tryz.prog 69 := ⟨Tryz.f69, by kernel_rfl, by kernel_rfl, by kernel_rfl⟩
theorem a69 : AOf Tryz.prog 69 c69 [.t 2] := mkA (fn := Tryz.f69) (c := Tryz.f69.body.getD .skip) (fz := []) (im := [(1, 1), (2, 1), (3, 2)]) kp69 (by kernel_rfl) (by kernel_rfl) (by kernel_rfl) (by kernel_rfl) (by kernel_rfl)
def kp59 (r : Nat) : List Nat := match r with
  | 0 => [0, 2]
  | 1 => [2]
  | _ => []
def c59 : ACode :=
(sq (.reg 1 [ ⟨some 2, none, .alloc 0 [z0, z0, zs, zs]⟩] [0, 2]) (sq (rg [ om 3 0, oe 4 69 [(tm 3)], ov 5 (.build [z0, z0, zs, zs] [(0, 1, (ci 1)), (3,
 1, (tm 4))]), ⟨none, none, .st 4 (tm 2) (tm 5)⟩] [2]) .ret))
theorem l59 : Callable Tryz.prog 59 := ⟨Tryz.f59, by kernel_rfl, by kernel_rfl, by kernel_rfl⟩
theorem a59 : AOf Tryz.prog 59 c59 [.c 2 4 true] := mkA (fn := Tryz.f59) (c := Tryz.f59.body.getD .skip) (fz := []) (im := [(1, 1)]) kp59 (by kernel_rfl) (by kernel_rfl) (by kernel_rfl) (by kernel_rfl) (by kernel_rfl)
def kp60 (r : Nat) : List Nat := match r with
  | 0 => [0, 2]
  | 1 => [2]
  | _ => []
def c60 : ACode :=
(sq (.reg 1 [ ⟨some 2, none, .alloc 0 [z0, z0, zs, zs]⟩] [0, 2]) (sq (rg [ om 3 0, oe 4 69 [(tm 3)], ov 5 (.build [z0, z0, zs, zs] [(0, 1, (ci 4)), (3,
 1, (tm 4))]), ⟨none, none, .st 4 (tm 2) (tm 5)⟩] [2]) .ret))
theorem l60 : Callable Tryz.prog 60 := ⟨Tryz.f60, by kernel_rfl, by kernel_rfl, by kernel_rfl⟩
theorem a60 : AOf Tryz.prog 60 c60 [.c 2 4 true] := mkA (fn := Tryz.f60) (c := Tryz.f60.body.getD .skip) (fz := []) (im := [(1, 1)]) kp60 (by kernel_rfl) (by kernel_rfl) (by kernel_rfl) (by kernel_rfl) (by kernel_rfl)
def kp61 (r : Nat) : List Nat := match r with
  | 0 => [0, 2]
  | 1 => [2]
  | _ => []
def c61 : ACode :=
(sq (.reg 1 [ ⟨some 2, none, .alloc 0 [z0, z0, zs, zs]⟩] [0, 2]) (sq (rg [ om 3 0, oe 4 69 [(tm 3)], ov 5 (.build [z0, z0, zs, zs] [(0, 1, (ci 5)), (3,
 1, (tm 4))]), ⟨none, none, .st 4 (tm 2) (tm 5)⟩] [2]) .ret))
theorem l61 : Callable Tryz.prog 61 := ⟨Tryz.f61, by kernel_rfl, by kernel_rfl, by kernel_rfl⟩
theorem a61 : AOf Tryz.prog 61 c61 [.c 2 4 true] := mkA (fn := Tryz.f61) (c := Tryz.f61.body.getD .skip) (fz := []) (im := [(1, 1)]) kp61 (by kernel_rfl) (by kernel_rfl) (by kernel_rfl) (by kernel_rfl) (by kernel_rfl)
def kp62 (r : Nat) : List Nat := match r with
  | 0 => [0, 2]
  | 1 => [0, 2, 3]
  | 2 => [0, 2, 3]
  | 3 => [2, 3]
  | 4 => [2]
  | _ => []
def c62 : ACode :=
(sq (.reg 1 [ ⟨some 2, none, .alloc 0 [z0, z0, zs, zs]⟩] [0, 2]) (sq (.reg 6 [ om 4 0, oe 5 67 [(tm 4)], ov 6 (.bs 1 1 zr [(0, (tm 5))]), ov 7 (.build
 [z0, z0, zs, zs] [(0, 1, (ci 2)), (2, 1, (tm 6))]), ⟨some 3, none, .alloc 4 [z0, z0, zs, zs]⟩, ⟨none, none, .st 4 (tm 3) (tm 7)⟩] [0, 2, 3]) (sq (rg [
 om 8 0, ov 9 (.bs 1 1 zr [(0, (.c (.str [58])))]), oe 10 66 [(tm 8), (tm 9)]] [0, 2, 3]) (sq (rg [ om 11 0, oe 12 69 [(tm 11)], of 13 3 3, ⟨none,
 none, .st 1 (tm 13) (tm 12)⟩] [2, 3]) (sq (rg [ ov 14 (.ld 4 true (tm 3)), ⟨none, none, .st 4 (tm 2) (tm 14)⟩] [2]) .ret)))))
theorem l62 : Callable Tryz.prog 62 := ⟨Tryz.f62, by kernel_rfl, by kernel_rfl, by kernel_rfl⟩
theorem a62 : AOf Tryz.prog 62 c62 [.c 2 4 true] := mkA (fn := Tryz.f62) (c := Tryz.f62.body.getD .skip) (fz := []) (im := [(1, 1), (2, 2), (3, 1)]) kp62 (by kernel_rfl) (by kernel_rfl) (by kernel_rfl) (by kernel_rfl) (by kernel_rfl)
def kp63 (r : Nat) : List Nat := match r with
  | 0 => [0, 2]
  | 1 => [0, 2, 3]
  | 2 => [0, 2, 3]
  | 3 => [2, 3]
  | 4 => [2]
  | _ => []
def c63 : ACode :=
(sq (.reg 1 [ ⟨some 2, none, .alloc 0 [z0, z0, zs, zs]⟩] [0, 2]) (sq (.reg 5 [ om 4 0, oe 5 68 [(tm 4)], ov 6 (.build [z0, z0, zs, zs] [(0, 1, (ci 3)),
 (1, 1, (tm 5))]), ⟨some 3, none, .alloc 3 [z0, z0, zs, zs]⟩, ⟨none, none, .st 4 (tm 3) (tm 6)⟩] [0, 2, 3]) (sq (rg [ om 7 0, ov 8 (.bs 1 1 zr [(0, (.c
 (.str [58])))]), oe 9 66 [(tm 7), (tm 8)]] [0, 2, 3]) (sq (rg [ om 10 0, oe 11 69 [(tm 10)], of 12 3 3, ⟨none, none, .st 1 (tm 12) (tm 11)⟩] [2, 3])
 (sq (rg [ ov 13 (.ld 4 true (tm 3)), ⟨none, none, .st 4 (tm 2) (tm 13)⟩] [2]) .ret)))))
theorem l63 : Callable Tryz.prog 63 := ⟨Tryz.f63, by kernel_rfl, by kernel_rfl, by kernel_rfl⟩
theorem a63 : AOf Tryz.prog 63 c63 [.c 2 4 true] := mkA (fn := Tryz.f63) (c := Tryz.f63.body.getD .skip) (fz := []) (im := [(1, 1), (2, 2), (3, 1)]) kp63 (by kernel_rfl) (by kernel_rfl) (by kernel_rfl) (by kernel_rfl) (by kernel_rfl)
def kp64 (r : Nat) : List Nat := match r with
  | 0 => [0, 2]
  | 1 => [0, 2, 3]
  | 2 => [0, 2, 3]
  | 3 => [0, 2, 3]
  | 4 => [2, 3]
  | 5 => [2]
  | _ => []
def c64 : ACode :=
(sq (.reg 1 [ ⟨some 2, none, .alloc 0 [z0, z0, zs, zs]⟩] [0, 2]) (sq (.reg 5 [ om 4 0, oe 5 68 [(tm 4)], ov 6 (.build [z0, z0, zs, zs] [(0, 1, (ci 6)),
 (1, 1, (tm 5))]), ⟨some 3, none, .alloc 3 [z0, z0, zs, zs]⟩, ⟨none, none, .st 4 (tm 3) (tm 6)⟩] [0, 2, 3]) (sq (rg [ om 7 0, oe 8 69 [(tm 7)], of 9 2
 3, ⟨none, none, .st 1 (tm 9) (tm 8)⟩] [0, 2, 3]) (sq (rg [ om 10 0, ov 11 (.bs 1 1 zr [(0, (.c (.str [58])))]), oe 12 66 [(tm 10), (tm 11)]] [0, 2,
 3]) (sq (rg [ om 13 0, oe 14 69 [(tm 13)], of 15 3 3, ⟨none, none, .st 1 (tm 15) (tm 14)⟩] [2, 3]) (sq (rg [ ov 16 (.ld 4 true (tm 3)), ⟨none, none,
 .st 4 (tm 2) (tm 16)⟩] [2]) .ret))))))
theorem l64 : Callable Tryz.prog 64 := ⟨Tryz.f64, by kernel_rfl, by kernel_rfl, by kernel_rfl⟩
theorem a64 : AOf Tryz.prog 64 c64 [.c 2 4 true] := mkA (fn := Tryz.f64) (c := Tryz.f64.body.getD .skip) (fz := []) (im := [(1, 1), (2, 1), (3, 2), (4, 1)]) kp64 (by kernel_rfl) (by kernel_rfl) (by kernel_rfl) (by kernel_rfl) (by kernel_rfl)
def kp65 (r : Nat) : List Nat := match r with
  | 0 => [0, 2]
  | 1 => [0, 2, 3]
  | 2 => [0, 2, 3]
  | 3 => [2, 3]
  | 4 => [2]
  | _ => []
def c65 : ACode :=
(sq (.reg 1 [ ⟨some 2, none, .alloc 0 [z0, z0, zs, zs]⟩] [0, 2]) (sq (.reg 6 [ om 4 0, oe 5 67 [(tm 4)], ov 6 (.bs 1 1 zr [(0, (tm 5))]), ov 7 (.build
 [z0, z0, zs, zs] [(3, 1, (tm 6))]), ⟨some 3, none, .alloc 4 [z0, z0, zs, zs]⟩, ⟨none, none, .st 4 (tm 3) (tm 7)⟩] [0, 2, 3]) (sq (rg [ om 8 0, ov 9
 (.bs 1 1 zr [(0, (.c (.str [58])))]), oe 10 66 [(tm 8), (tm 9)]] [0, 2, 3]) (sq (rg [ om 11 0, oe 12 69 [(tm 11)], of 13 2 3, ⟨none, none, .st 1 (tm
 13) (tm 12)⟩] [2, 3]) (sq (rg [ ov 14 (.ld 4 true (tm 3)), ⟨none, none, .st 4 (tm 2) (tm 14)⟩] [2]) .ret)))))
theorem l65 : Callable Tryz.prog 65 := ⟨Tryz.f65, by kernel_rfl, by kernel_rfl, by kernel_rfl⟩
theorem a65 : AOf Tryz.prog 65 c65 [.c 2 4 true] := mkA (fn := Tryz.f65) (c := Tryz.f65.body.getD .skip) (fz := []) (im := [(1, 1), (2, 2), (3, 1)]) kp65 (by kernel_rfl) (by kernel_rfl) (by kernel_rfl) (by kernel_rfl) (by kernel_rfl)
def kp27 (r : Nat) : List Nat := match r with
  | 0 => [0, 2]
  | 1 => [0, 2, 4]
  | 2 => [0, 2, 4]
  | 3 => [0, 2, 4]
  | 4 => [0, 2, 4]
  | 5 => [0, 2, 4]
  | 6 => [0, 2, 4]
  | 7 => [0, 2, 4]
  | 8 => [0, 2, 4]
  | 9 => [0, 2, 4]
  | 10 => [0, 2, 4]
  | 11 => [0, 2, 3, 4]
  | 12 => [0, 2, 3, 4, 46]
  | 13 => [0, 2, 3, 4, 74]
  | 14 => [0, 2, 3, 4]
  | 15 => [0, 2, 3, 4, 5]
  | 16 => [0, 2, 3, 4, 5]
  | 17 => [0, 2, 3, 4, 6]
  | 18 => [0, 2, 3, 4, 6]
  | 19 => [0, 2, 3, 4, 6, 7, 8]
  | 20 => [0, 2, 3, 4, 6, 7, 8, 9, 10]
  | 21 => [0, 2, 3, 4, 6, 7, 9]
  | 22 => [0, 2, 3, 4, 6, 7, 9, 125]
  | 23 => [0, 2, 3, 4]
  | 24 => [0, 2, 3, 4]
  | 25 => [0, 2, 3, 11, 12]
  | 26 => [0, 2, 3, 11, 12, 13, 14]
  | 27 => [0, 2, 3, 12, 14]
  | 28 => [2, 3, 12, 14]
  | 29 => [2, 3]
  | _ => []
def c27 : ACode :=
(sq (.reg 2 [ ⟨some 2, none, .alloc 0 [zr, z0, zs, zs, zs, zs, z0, z0]⟩, ob 3 false] [0, 2]) (sq (.reg 10 [ ⟨some 15, none, .ext (.mkm 0) []⟩, ⟨none,
 none, .ext (.mput .str) [(tm 15), (.c (.str [100, 105, 102, 102, 101, 114, 101, 110, 116])), (.c (.fn (.func 59) [] []))]⟩, ⟨none, none, .ext (.mput
 .str) [(tm 15), (.c (.str [114, 105, 115, 101])), (.c (.fn (.func 60) [] []))]⟩, ⟨none, none, .ext (.mput .str) [(tm 15), (.c (.str [110, 101, 97,
 114])), (.c (.fn (.func 61) [] []))]⟩, ⟨none, none, .ext (.mput .str) [(tm 15), (.c (.str [104, 111, 109, 101])), (.c (.fn (.func 62) [] []))]⟩,
 ⟨none, none, .ext (.mput .str) [(tm 15), (.c (.str [97, 112, 97, 114, 116])), (.c (.fn (.func 63) [] []))]⟩, ⟨none, none, .ext (.mput .str) [(tm 15),
 (.c (.str [113, 117, 111, 116, 97])), (.c (.fn (.func 64) [] []))]⟩, ⟨none, none, .ext (.mput .str) [(tm 15), (.c (.str [111, 110, 108, 121])), (.c
 (.fn (.func 65) [] []))]⟩, om 16 15, om 4 16] [0, 2, 4]) (sq (rg [ om 17 0, ov 18 (.bs 1 1 zr [(0, (.c (.str [108, 101, 109, 109, 97])))]), oe 19 66
 [(tm 17), (tm 18)]] [0, 2, 4]) (sq (rg [ om 20 0, oe 21 67 [(tm 20)], of 22 0 2, ⟨none, none, .st 1 (tm 22) (tm 21)⟩] [0, 2, 4]) (sq (rg [ om 23 0, ov
 24 (.bs 1 1 zr [(0, (.c (.str [108, 101, 118, 101, 108])))]), oe 25 66 [(tm 23), (tm 24)]] [0, 2, 4]) (sq (rg [ om 26 0, oe 27 68 [(tm 26)], of 28 1
 2, ⟨none, none, .st 1 (tm 28) (tm 27)⟩] [0, 2, 4]) (sq (rg [ om 29 0, ov 30 (.bs 1 2 zr [(0, (.c (.str [123]))), (1, (.c (.str [99, 101, 108, 108,
 115])))]), oe 31 66 [(tm 29), (tm 30)]] [0, 2, 4]) (sq (rg [ om 32 0, oe 33 69 [(tm 32)], of 34 2 2, ⟨none, none, .st 1 (tm 34) (tm 33)⟩] [0, 2, 4])
 (sq (rg [ om 35 0, ov 36 (.bs 1 2 zr [(0, (.c (.str [59]))), (1, (.c (.str [108, 101, 116, 116, 101, 114, 115])))]), oe 37 66 [(tm 35), (tm 36)]] [0,
 2, 4]) (sq (rg [ om 38 0, oe 39 69 [(tm 38)], of 40 3 2, ⟨none, none, .st 1 (tm 40) (tm 39)⟩] [0, 2, 4]) (sq (rg [ om 41 0, ov 42 (.bs 1 1 zr [(0, (.c
 (.str [59])))]), oe 43 66 [(tm 41), (tm 42)]] [0, 2, 4]) (sq (rg [ ob 3 true] [0, 2, 3, 4]) (sq (.block 0 (.loop (sq (sq (rg [ om 44 0, oe 45 70 [(tm
 44), (.c (.str [108, 97, 99, 107, 115]))], ot 46 45] [0, 2, 3, 4, 46]) (.cond (tm 46) .skip (.exit 0))) (.block 1 (sq (sq (rg [ om 47 0, ov 48 (.nilc
 (tm 47)), of 49 1 48, ol 50 49, on 51 50, ov 52 (.icmp .eql .i64 (tm 51) (ci 0)), om 53 52, gm 54 53 false 0, gv 55 53 false (.nilc (tm 54)), gf 56 53
 false 1 55, gl 57 53 false 56, gv 58 53 false (.ia 4 (tm 57) (ci 0)), gf 59 53 false 0 58, gl 60 53 false 59, gv 61 53 false (.icmp .neq .i64 (tm 60)
 (ci 1)), oz 62 53 61, om 63 62, gm 64 63 false 4, gm 65 63 false 0, gv 66 63 false (.nilc (tm 65)), gf 67 63 false 1 66, gl 68 63 false 67, gv 69 63
 false (.ia 4 (tm 68) (ci 0)), gf 70 63 false 1 69, gl 71 63 false 70, ⟨some 72, some (63, false), .ext (.look .str .nilfn false) [(tm 64), (tm 71)]⟩,
 ⟨some 73, some (63, false), .ext (.nileq 2 false) [(tm 72)]⟩, oz 74 63 73] [0, 2, 3, 4, 74]) (.cond (tm 74) (rg [ om 75 0, oe 76 71 [(tm 75)]] [0, 2,
 3, 4]) .skip)) (sq (rg [ om 77 4, om 78 0, ov 79 (.nilc (tm 78)), of 80 1 79, ol 81 80, ov 82 (.ia 4 (tm 81) (ci 0)), of 83 1 82, ol 84 83, ⟨some 85,
 none, .ext (.look .str .nilfn false) [(tm 77), (tm 84)]⟩, om 5 85] [0, 2, 3, 4, 5]) (sq (rg [ om 86 0, om 87 0, ov 88 (.nilc (tm 87)), of 89 1 88, ol
 90 89, ov 91 (.sl 4 (tm 90) (some (ci 1)) none none), ov 92 (.nilc (tm 86)), of 93 1 92, ⟨none, none, .st 1 (tm 93) (tm 91)⟩] [0, 2, 3, 4, 5]) (sq
 (.reg 5 [ om 94 5, om 95 0, ⟨some 96, none, .call false (tm 94) [(tm 95)]⟩, ⟨some 6, none, .alloc 3 [z0, z0, zs, zs]⟩, ⟨none, none, .st 4 (tm 6) (tm
 96)⟩] [0, 2, 3, 4, 6]) (sq (rg [ om 97 0, ov 98 (.bs 1 1 zr [(0, (.c (.str [59])))]), oe 99 66 [(tm 97), (tm 98)]] [0, 2, 3, 4, 6]) (sq (rg [ of 101 2
 2, ol 102 101, of 103 3 6, ol 104 103, oc 105 72 [(tm 102), (tm 104)], om 100 105, ox 106 0 100, ox 107 1 100, om 7 106, om 8 107] [0, 2, 3, 4, 6, 7,
 8]) (sq (rg [ of 109 3 2, ol 110 109, of 111 2 6, ol 112 111, oc 113 72 [(tm 110), (tm 112)], om 108 113, ox 114 0 108, ox 115 1 108, om 9 114, om 10
 115] [0, 2, 3, 4, 6, 7, 8, 9, 10]) (sq (rg [ om 116 3, om 117 116, gm 118 117 true 8, oy 119 117 118, om 120 119, gm 121 120 true 10, oy 122 120 121,
 om 3 122] [0, 2, 3, 4, 6, 7, 9]) (sq (rg [ of 123 0 6, ol 124 123, ov 125 (.icmp .eql .i64 (tm 124) (ci 0))] [0, 2, 3, 4, 6, 7, 9, 125]) (.cond (tm
 125) (.reg 11 [ of 126 5 2, ol 127 126, om 128 7, ov 129 (.ia 1 (tm 128) (ci 0)), ol 130 129, om 131 9, ov 132 (.build [z0, zs] [(0, 1, (tm 130)), (1,
 1, (tm 131))]), ov 133 (.bs 2 1 (.agg [z0, zs]) [(0, (tm 132))]), ⟨some 134, none, .app 8 2 32 (tm 127) (tm 133) false⟩, of 135 5 2, ⟨none, none, .st
 1 (tm 135) (tm 134)⟩] [0, 2, 3, 4]) (.reg 13 [ of 136 4 2, ol 137 136, of 138 0 6, ol 139 138, om 140 7, om 141 9, of 142 1 6, ol 143 142, ov 144
 (.build [z0, zs, zs, z0] [(0, 1, (tm 139)), (1, 1, (tm 140)), (2, 1, (tm 141)), (3, 1, (tm 143))]), ov 145 (.bs 4 1 (.agg [z0, zs, zs, z0]) [(0, (tm
 144))]), ⟨some 146, none, .app 10 4 64 (tm 137) (tm 145) false⟩, of 147 4 2, ⟨none, none, .st 1 (tm 147) (tm 146)⟩] [0, 2, 3, 4]))))))))))))))) (sq
 (.regx 0 [ (0, of 149 2 2), (300004, ol 150 149), (0, om 151 0), (300003, oe 152 67 [(tm 151)]), (0, ov 153 (.bs 1 1 zr [(0, (tm 152))])), (0, oc 154
 72 [(tm 150), (tm 153)]), (0, om 148 154), (0, ox 155 0 148), (0, ox 156 1 148), (0, om 11 155), (0, om 12 156)] [0, 2, 3, 11, 12]) (sq (.regx 0 [ (0,
 of 158 3 2), (300004, ol 159 158), (0, om 160 0), (300003, oe 161 67 [(tm 160)]), (0, ov 162 (.bs 1 1 zr [(0, (tm 161))])), (0, oc 163 72 [(tm 159),
 (tm 162)]), (0, om 157 163), (0, ox 164 0 157), (0, ox 165 1 157), (0, om 13 164), (0, om 14 165)] [0, 2, 3, 11, 12, 13, 14]) (sq (.regx 0 [ (0, om
 166 11), (0, ov 167 (.ia 1 (tm 166) (ci 0))), (300008, ol 168 167), (0, om 169 13), (0, ov 170 (.ia 1 (tm 169) (ci 0))), (300008, ol 171 170), (0, of
 172 6 2), (300007, ⟨none, none, .st 1 (tm 172) (tm 168)⟩), (0, of 173 7 2), (300007, ⟨none, none, .st 1 (tm 173) (tm 171)⟩)] [0, 2, 3, 12, 14]) (sq
 (rg [ om 174 0, ov 175 (.bs 1 2 zr [(0, (.c (.str [59]))), (1, (.c (.str [125])))]), oe 176 66 [(tm 174), (tm 175)]] [2, 3, 12, 14]) (sq (rg [ ov 177
 (.ld 8 true (tm 2)), om 178 3, om 179 178, gm 180 179 true 12, oy 181 179 180, om 182 181, gm 183 182 true 14, oy 184 182 183, ⟨none, none, .st 8 (tm
 2) (tm 177)⟩, om 3 184] [2, 3]) .ret))))))))))))))))))
theorem l27 : Callable Tryz.prog 27 := ⟨Tryz.f27, by kernel_rfl, by kernel_rfl, by kernel_rfl⟩
theorem a27 : AOf Tryz.prog 27 c27 [.c 2 8 true, .t 3] := mkA (fn := Tryz.f27) (c := Tryz.f27.body.getD .skip) (fz := [(700149, 300001), (800152, 300000), (700158, 300001), (800161, 300000), (700167, 300005), (700170, 300005), (700172, 300004), (700173, 300004)]) (im := [(17, 2), (2, 2), (3, 1), (4, 2), (5, 1), (6, 2), (7, 1), (8, 2), (9, 1), (10, 2), (12, 1), (14, 1), (18, 2), (25, 3), (26, 3), (28, 2)]) kp27 (by kernel_rfl) (by kernel_rfl) (by kernel_rfl) (by kernel_rfl) (by kernel_rfl)
def kp26 (r : Nat) : List Nat := match r with
  | 0 => [0, 1, 2, 3]
  | 1 => [0, 1, 2, 3, 6]
  | 2 => []
  | _ => []
def c26 : ACode :=
(sq (rg [ om 5 3, ⟨some 6, none, .ext (.nileq 0 true) [(tm 5)]⟩] [0, 1, 2, 3, 6]) (.cond (tm 6) (rg [ om 7 3, ⟨some 8, none, .ext (.tas 59 false z0)
 [(tm 7)]⟩, ⟨none, none, .st 1 (tm 0) (.c zs)⟩, ⟨none, none, .st 1 (tm 1) (tm 8)⟩, ⟨none, none, .st 1 (tm 2) (ci 150)⟩] []) .skip))
theorem l26 : Callable Tryz.prog 26 := ⟨Tryz.f26, by kernel_rfl, by kernel_rfl, by kernel_rfl⟩
theorem a26 {args : List AVal} {rv : AVal} {H : AHeap} {n : Nat} {Rc : AHeap → Nat → Prop} (h : awp Tryz.prog c26 (postC [] fun o H' n' => o = .ret (.tup []) ∧ Rc H' n') ⟨(3, true, rv) :: (4, true, rv) :: penv 0 args, H, n⟩) : ADefer Tryz.prog 26 args rv H n Rc :=
  adefer_of' (id := 0) (fn := Tryz.f26) (ops := regOps (sqH (Tryz.f26.body.getD .skip))) (X := sqT (Tryz.f26.body.getD .skip)) (y := c26) (fz := []) (im := []) (kp := kp26) (t3 := 3) (t4 := 4) (by kernel_rfl) (by kernel_rfl) (by kernel_rfl) (by kernel_rfl) (by kernel_rfl) (by kernel_rfl) h
def kp11 (r : Nat) : List Nat := match r with
  | 0 => [0, 2, 3, 4]
  | 1 => [0, 2, 3, 4, 5]
  | 2 => [0, 2, 3, 4, 5, 17]
  | 3 => [2, 3, 4]
  | 4 => [0, 2, 3, 4, 5]
  | 5 => [2, 3, 4, 6]
  | 6 => [2, 3, 4, 6, 7]
  | 7 => [2, 3, 4, 6, 7, 30]
  | 8 => [2, 3, 4, 6, 7, 8, 9]
  | 9 => [2, 3, 4, 6, 7, 9]
  | 10 => [2, 3, 4, 6, 7]
  | 11 => [2, 3, 4, 7, 44]
  | 12 => [2, 3, 4]
  | 13 => [2, 3, 4, 48]
  | 14 => [2, 3, 4]
  | 15 => [2, 3, 4, 51]
  | 16 => [2, 3, 4]
  | 17 => [2, 3, 4]
  | _ => []
def c11_0 : ACode :=
  (.reg 3 [
    ⟨some 2, none, .alloc 0 [(.sl .nil [])]⟩,
    ⟨some 3, none, .alloc 1 [(.int .i64 0)]⟩,
    ⟨some 4, none, .alloc 2 [(.int .i64 0)]⟩] [0, 2, 3, 4])
def c11_1 : ACode :=
  (.reg 0 [
    ⟨some 11, none, .v (.mv (.t 0))⟩,
    ⟨some 12, none, .call true (.c (.fn (.func 22) [] [])) [(.t 11)]⟩,
    ⟨some 10, none, .v (.mv (.t 12))⟩,
    ⟨some 13, none, .v (.ext 0 (.t 10))⟩,
    ⟨some 14, none, .v (.ext 1 (.t 10))⟩,
    ⟨some 15, none, .v (.ext 2 (.t 10))⟩,
    ⟨some 5, none, .v (.mv (.t 13))⟩,
    ⟨none, none, .st 1 (.t 3) (.t 14)⟩,
    ⟨none, none, .st 1 (.t 4) (.t 15)⟩] [0, 2, 3, 4, 5])
def c11_2 : ACode :=
  (.seq
   (.reg 0 [
     ⟨some 16, none, .v (.ld 1 false (.t 4))⟩,
     ⟨some 17, none, .v (.icmp .neq .i64 (.t 16) (.c (.int .i64 0)))⟩] [0, 2, 3, 4, 5, 17])
   (.cond (.t 17)
    (.seq
     (.regx 0 [
       (5, ⟨some 18, none, .v (.ld 1 false (.t 3))⟩),
       (4, ⟨some 19, none, .v (.ld 1 false (.t 4))⟩),
       (6, ⟨none, none, .st 1 (.t 2) (.c (.sl .nil []))⟩),
       (5, ⟨none, none, .st 1 (.t 3) (.t 18)⟩),
       (4, ⟨none, none, .st 1 (.t 4) (.t 19)⟩)] [2, 3, 4])
     .ret)
    .skip))
def c11 : ACode :=
(sq (.reg 5 [ om 21 0, om 22 5, ov 23 (.build [zr, zs] [(0, 1, (tm 21)), (1, 1, (tm 22))]), ⟨some 24, none, .box 3 2 (tm 23)⟩, om 6 24] [2, 3, 4, 6])
 (sq (rg [ ob 7 true] [2, 3, 4, 6, 7]) (sq (.block 0 (.loop (sq (sq (rg [ om 25 6, ov 26 (.nilc (tm 25)), of 27 1 26, ol 28 27, on 29 28, ov 30 (.icmp
 .gtr .i64 (tm 29) (ci 0))] [2, 3, 4, 6, 7, 30]) (.cond (tm 30) .skip (.exit 0))) (.block 1 (sq (.reg 8 [ om 32 6, oe 33 27 [(tm 32)], om 31 33, ox 34
 0 31, ox 35 1 31, ⟨some 8, none, .alloc 5 [zr, z0, zs, zs, zs, zs, z0, z0]⟩, ⟨none, none, .st 8 (tm 8) (tm 34)⟩, om 9 35] [2, 3, 4, 6, 7, 8, 9]) (sq
 (.reg 5 [ ol 36 2, ov 37 (.ld 8 true (tm 8)), ov 38 (.bs 8 1 (.agg [zr, z0, zs, zs, zs, zs, z0, z0]) [(0, (tm 37))]), ⟨some 39, none, .app 3 8 136 (tm
 36) (tm 38) false⟩, ⟨none, none, .st 1 (tm 2) (tm 39)⟩] [2, 3, 4, 6, 7, 9]) (rg [ om 40 7, om 41 40, gm 42 41 true 9, oy 43 41 42, om 7 43] [2, 3, 4,
 6, 7]))))))) (sq (.block 2 (sq (rg [ ol 45 2, on 46 45, ov 47 (.icmp .gtr .i64 (tm 46) (ci 16)), om 44 47] [2, 3, 4, 7, 44]) (.cond (tm 44) (sq (rg [
 ⟨none, none, .st 1 (tm 2) (.c zs)⟩, ⟨none, none, .st 1 (tm 3) (ci 0)⟩, ⟨none, none, .st 1 (tm 4) (ci 2)⟩] [2, 3, 4]) .ret) (sq (rg [ om 49 7, ot 50
 49, om 48 50] [2, 3, 4, 48]) (.cond (tm 48) (sq (rg [ ⟨none, none, .st 1 (tm 2) (.c zs)⟩, ⟨none, none, .st 1 (tm 3) (ci 0)⟩, ⟨none, none, .st 1 (tm 4)
 (ci 160)⟩] [2, 3, 4]) .ret) (sq (rg [ ol 52 2, oc 53 28 [(tm 52), (.c (.fn (.func 29) [] []))], om 51 53] [2, 3, 4, 51]) (.cond (tm 51) (sq (rg [
 ⟨none, none, .st 1 (tm 2) (.c zs)⟩, ⟨none, none, .st 1 (tm 3) (ci 0)⟩, ⟨none, none, .st 1 (tm 4) (ci 300)⟩] [2, 3, 4]) .ret) .skip))))))) (sq (rg [ ol
 54 2, ⟨none, none, .st 1 (tm 2) (tm 54)⟩, ⟨none, none, .st 1 (tm 3) (ci 0)⟩, ⟨none, none, .st 1 (tm 4) (ci 0)⟩] [2, 3, 4]) .ret)))))
theorem a11 {args : List AVal} {H : AHeap} {n : Nat} {R : AOut → AHeap → Nat → Prop} (h : awp Tryz.prog (aspine [c11_0, c11_1, c11_2]) (postD Tryz.prog 20 ⟨(some 20), none, .v (.fn (.func 26) [] [(.t 2), (.t 3), (.t 4)])⟩ c11 5 26 [.c 2 1 false, .c 3 1 false, .c 4 1 false] R) ⟨penv 0 args, H, n⟩) : ACalls Tryz.prog 11 args H n R :=
  acalls_defer' (id := 4) (fn := Tryz.f11) (pre := [sqH (Tryz.f11.body.getD .skip), sqH (sqT (Tryz.f11.body.getD .skip)), sqH (sqT (sqT (Tryz.f11.body.getD .skip)))]) (ys := [c11_0, c11_1, c11_2]) (ops := regOps (sqH (sqT (sqT (sqT (Tryz.f11.body.getD .skip)))))) (X := (sqT (sqT (sqT (sqT (Tryz.f11.body.getD .skip)))))) (y := c11) (fz := [(700002, 3), (700003, 2), (700004, 1)]) (fzX := [(999999, 5), (700002, 3), (700003, 2), (700004, 1)]) (im := [(8, 1)]) (kp := kp11) (rs := [.c 2 1 false, .c 3 1 false, .c 4 1 false]) (d0 := (some 20)) (k := .fn (.func 26) [] [(.t 2), (.t 3), (.t 4)]) (t := 20) (by kernel_rfl) (by kernel_rfl) (by kernel_rfl) (by kernel_rfl) (by kernel_rfl) (by kernel_rfl) (by kernel_rfl) (by kernel_rfl) (by kernel_rfl) l26 h
end Go.AM
end
section
set_option maxRecDepth 20000
set_option linter.all false
namespace Go.AM
open Go.Proofs
def kp72 (r : Nat) : List Nat := match r with
  | 0 => [0, 1, 4]
  | 1 => [0, 1, 4, 5]
  | 2 => [0, 4, 5, 9, 10, 11]
  | 3 => [0, 4, 5, 9, 10, 11, 12]
  | 4 => [0, 4, 5, 7, 9, 10, 11]
  | 5 => [0, 4, 5, 8, 9, 10, 11]
  | 6 => [0, 4, 5, 8, 9, 10, 11]
  | 7 => [0, 4, 5, 9, 10, 11]
  | 8 => [0, 4, 5, 9, 10, 11]
  | 9 => [4, 5]
  | _ => []
def c72 : ACode :=
(sq (rg [ ov 4 (.mv (.c zs)), ob 5 false] [0, 1, 4]) (sq (rg [ ob 5 true] [0, 1, 4, 5]) (sq (sq (rg [ om 9 1, on 10 9, oi 11 0] [0, 4, 5, 9, 10, 11])
 (.block 0 (.loop (sq (rg [ ov 12 (.icmp .lss .i64 (tm 11) (tm 10))] [0, 4, 5, 9, 10, 11, 12]) (sq (.cond (tm 12) .skip (.exit 0)) (sq (.block 1 (sq
 (rg [ oa 13 1 9 11, ol 14 13, om 7 14] [0, 4, 5, 7, 9, 10, 11]) (sq (rg [ om 15 0, om 16 7, oc 17 99 [(tm 15), (tm 16)], om 8 17] [0, 4, 5, 8, 9, 10,
 11]) (sq (.reg 5 [ om 18 4, om 19 8, ov 20 (.bs 1 1 z0 [(0, (tm 19))]), ⟨some 21, none, .app 3 1 8 (tm 18) (tm 20) false⟩, om 4 21] [0, 4, 5, 8, 9,
 10, 11]) (rg [ om 22 5, om 23 22, gm 24 23 true 8, gv 25 23 true (.icmp .geq .i64 (tm 24) (ci 0)), oy 26 23 25, om 5 26] [0, 4, 5, 9, 10, 11]))))) (rg
 [ ov 27 (.arith .add .i64 (tm 11) (ci 1)), om 11 27] [0, 4, 5, 9, 10, 11]))))))) (sq (rg [ om 28 4, om 29 5, om 4 28, om 5 29] [4, 5]) .ret))))
theorem a72 : AOf Tryz.prog 72 c72 [.t 4, .t 5] := mkA (fn := Tryz.f72) (c := Tryz.f72.body.getD .skip) (fz := []) (im := []) kp72 (by kernel_rfl) (by kernel_rfl) (by kernel_rfl) (by kernel_rfl) (by kernel_rfl)
def kp99 (r : Nat) : List Nat := match r with
  | 0 => [0, 1]
  | 1 => [0, 1, 7, 8]
  | 2 => [0, 1, 7, 8, 9]
  | 3 => [0, 1, 5, 7, 8]
  | 4 => [0, 1, 5, 7, 8, 16]
  | 5 => [4]
  | 6 => [0, 1, 7, 8]
  | 7 => [4]
  | _ => []
def c99 : ACode :=
(sq (rg [ oi 4 0] [0, 1]) (sq (sq (rg [ om 6 0, on 7 6, oi 8 0] [0, 1, 7, 8]) (.block 0 (.loop (sq (rg [ ov 9 (.icmp .lss .i64 (tm 8) (tm 7))] [0, 1,
 7, 8, 9]) (sq (.cond (tm 9) .skip (.exit 0)) (sq (.block 1 (sq (rg [ om 10 8, om 5 10] [0, 1, 5, 7, 8]) (sq (rg [ om 11 1, om 12 0, om 13 5, oa 14 1
 12 13, ol 15 14, ov 16 (.scmp .eql (tm 11) (tm 15))] [0, 1, 5, 7, 8, 16]) (.cond (tm 16) (sq (rg [ om 17 5, om 4 17] [4]) .ret) .skip)))) (rg [ ov 18
 (.arith .add .i64 (tm 8) (ci 1)), om 8 18] [0, 1, 7, 8]))))))) (sq (rg [ oi 4 (-1)] [4]) .ret)))
theorem a99 : AOf Tryz.prog 99 c99 [.t 4] := mkA (fn := Tryz.f99) (c := Tryz.f99.body.getD .skip) (fz := []) (im := []) kp99 (by kernel_rfl) (by kernel_rfl) (by kernel_rfl) (by kernel_rfl) (by kernel_rfl)
def kp42 (r : Nat) : List Nat := match r with
  | 0 => [0, 1]
  | 1 => [0, 1, 10]
  | 2 => [4]
  | 3 => [0, 1, 12, 13]
  | 4 => [0, 1, 12, 13, 14]
  | 5 => [0, 1, 5, 12, 13]
  | 6 => [0, 1, 12, 13, 24]
  | 7 => [4]
  | 8 => [0, 1, 12, 13]
  | 9 => [4]
  | _ => []
def c42 : ACode :=
(sq (rg [ ob 4 false] [0, 1]) (sq (sq (rg [ om 6 0, on 7 6, om 8 1, on 9 8, ov 10 (.icmp .neq .i64 (tm 7) (tm 9))] [0, 1, 10]) (.cond (tm 10) (sq (rg [
 ob 4 false] [4]) .ret) .skip)) (sq (sq (rg [ om 11 0, on 12 11, oi 13 0] [0, 1, 12, 13]) (.block 0 (.loop (sq (rg [ ov 14 (.icmp .lss .i64 (tm 13) (tm
 12))] [0, 1, 12, 13, 14]) (sq (.cond (tm 14) .skip (.exit 0)) (sq (.block 1 (sq (rg [ om 15 13, om 5 15] [0, 1, 5, 12, 13]) (sq (rg [ om 16 0, om 17
 5, oa 18 1 16 17, ol 19 18, om 20 1, om 21 5, oa 22 1 20 21, ol 23 22, ov 24 (.icmp .neq .i64 (tm 19) (tm 23))] [0, 1, 12, 13, 24]) (.cond (tm 24) (sq
 (rg [ ob 4 false] [4]) .ret) .skip)))) (rg [ ov 25 (.arith .add .i64 (tm 13) (ci 1)), om 13 25] [0, 1, 12, 13]))))))) (sq (rg [ ob 4 true] [4])
 .ret))))
theorem a42 : AOf Tryz.prog 42 c42 [.t 4] := mkA (fn := Tryz.f42) (c := Tryz.f42.body.getD .skip) (fz := []) (im := []) kp42 (by kernel_rfl) (by kernel_rfl) (by kernel_rfl) (by kernel_rfl) (by kernel_rfl)
def kp45 (r : Nat) : List Nat := match r with
  | 0 => [0, 1]
  | 1 => [0, 1, 10]
  | 2 => [4]
  | 3 => [0, 1, 12, 13]
  | 4 => [0, 1, 12, 13, 14]
  | 5 => [0, 1, 5, 12, 13]
  | 6 => [0, 1, 12, 13, 24]
  | 7 => [4]
  | 8 => [0, 1, 12, 13]
  | 9 => [4]
  | _ => []
def c45 : ACode :=
(sq (rg [ ob 4 false] [0, 1]) (sq (sq (rg [ om 6 0, on 7 6, om 8 1, on 9 8, ov 10 (.icmp .neq .i64 (tm 7) (tm 9))] [0, 1, 10]) (.cond (tm 10) (sq (rg [
 ob 4 false] [4]) .ret) .skip)) (sq (sq (rg [ om 11 0, on 12 11, oi 13 0] [0, 1, 12, 13]) (.block 0 (.loop (sq (rg [ ov 14 (.icmp .lss .i64 (tm 13) (tm
 12))] [0, 1, 12, 13, 14]) (sq (.cond (tm 14) .skip (.exit 0)) (sq (.block 1 (sq (rg [ om 15 13, om 5 15] [0, 1, 5, 12, 13]) (sq (rg [ om 16 0, om 17
 5, oa 18 1 16 17, ol 19 18, om 20 1, om 21 5, oa 22 1 20 21, ol 23 22, ov 24 (.scmp .neq (tm 19) (tm 23))] [0, 1, 12, 13, 24]) (.cond (tm 24) (sq (rg
 [ ob 4 false] [4]) .ret) .skip)))) (rg [ ov 25 (.arith .add .i64 (tm 13) (ci 1)), om 13 25] [0, 1, 12, 13]))))))) (sq (rg [ ob 4 true] [4]) .ret))))
theorem a45 : AOf Tryz.prog 45 c45 [.t 4] := mkA (fn := Tryz.f45) (c := Tryz.f45.body.getD .skip) (fz := []) (im := []) kp45 (by kernel_rfl) (by kernel_rfl) (by kernel_rfl) (by kernel_rfl) (by kernel_rfl)
def kp95 (r : Nat) : List Nat := match r with
  | 0 => [0]
  | 1 => [0, 3]
  | 2 => [3, 6, 7]
  | 3 => [3, 6, 7, 8]
  | 4 => [3, 4, 6, 7]
  | 5 => [3, 6, 7]
  | 6 => [3, 6, 7]
  | 7 => [2]
  | _ => []
def c95 : ACode :=
(sq (rg [ ov 2 (.mv (.c zs))] [0]) (sq (rg [ ov 3 (.mv (.c zs))] [0, 3]) (sq (sq (rg [ om 5 0, on 6 5, oi 7 0] [3, 6, 7]) (.block 0 (.loop (sq (rg [ ov
 8 (.icmp .lss .i64 (tm 7) (tm 6))] [3, 6, 7, 8]) (sq (.cond (tm 8) .skip (.exit 0)) (sq (.block 1 (sq (rg [ om 9 7, om 4 9] [3, 4, 6, 7]) (.reg 5 [ om
 10 3, om 11 4, ov 12 (.bs 1 1 z0 [(0, (tm 11))]), ⟨some 13, none, .app 3 1 8 (tm 10) (tm 12) false⟩, om 3 13] [3, 6, 7]))) (rg [ ov 14 (.arith .add
 .i64 (tm 7) (ci 1)), om 7 14] [3, 6, 7]))))))) (sq (rg [ om 15 3, om 2 15] [2]) .ret))))
theorem a95 : AOf Tryz.prog 95 c95 [.t 2] := mkA (fn := Tryz.f95) (c := Tryz.f95.body.getD .skip) (fz := []) (im := []) kp95 (by kernel_rfl) (by kernel_rfl) (by kernel_rfl) (by kernel_rfl) (by kernel_rfl)
def kp38 (r : Nat) : List Nat := match r with
  | 0 => [0, 1, 2]
  | 1 => [0, 1, 2, 9, 10, 11]
  | 2 => [0, 1, 2, 9, 10, 11, 12]
  | 3 => [0, 1, 2, 7, 8, 9, 10, 11]
  | 4 => [0, 1, 2, 9, 10, 11, 29]
  | 5 => [6]
  | 6 => [0, 1, 2, 9, 10, 11]
  | 7 => [6]
  | _ => []
def c38 : ACode :=
(sq (rg [ ob 6 false] [0, 1, 2]) (sq (sq (rg [ om 9 0, on 10 9, oi 11 0] [0, 1, 2, 9, 10, 11]) (.block 0 (.loop (sq (rg [ ov 12 (.icmp .lss .i64 (tm
 11) (tm 10))] [0, 1, 2, 9, 10, 11, 12]) (sq (.cond (tm 12) .skip (.exit 0)) (sq (.block 1 (sq (rg [ om 13 11, oa 14 1 9 11, ol 15 14, om 7 13, om 8
 15] [0, 1, 2, 7, 8, 9, 10, 11]) (sq (rg [ om 16 8, ov 17 (.icmp .lss .i64 (tm 16) (ci 0)), om 18 17, gm 19 18 false 8, gm 20 18 false 1, gv 21 18
 false (.icmp .geq .i64 (tm 19) (tm 20)), oz 22 18 21, om 23 22, gm 24 23 false 0, gm 25 23 false 8, ⟨some 26, some (23, false), .call true (.c (.fn
 (.func 100) [] [])) [(tm 24), (tm 25)]⟩, gm 27 23 false 7, gv 28 23 false (.icmp .neq .i64 (tm 26) (tm 27)), oz 29 23 28] [0, 1, 2, 9, 10, 11, 29])
 (.cond (tm 29) (sq (rg [ ob 6 false] [6]) .ret) .skip)))) (rg [ ov 30 (.arith .add .i64 (tm 11) (ci 1)), om 11 30] [0, 1, 2, 9, 10, 11]))))))) (sq (rg
 [ om 31 0, on 32 31, om 33 2, ov 34 (.icmp .geq .i64 (tm 32) (tm 33)), om 6 34] [6]) .ret)))
theorem a38 : AOf Tryz.prog 38 c38 [.t 6] := mkA (fn := Tryz.f38) (c := Tryz.f38.body.getD .skip) (fz := []) (im := []) kp38 (by kernel_rfl) (by kernel_rfl) (by kernel_rfl) (by kernel_rfl) (by kernel_rfl)
def kp37 (r : Nat) : List Nat := match r with
  | 0 => [0, 1]
  | 1 => [0, 1, 7, 8, 9]
  | 2 => [0, 1, 7, 8, 9, 10]
  | 3 => [0, 1, 5, 6, 7, 8, 9]
  | 4 => [0, 1, 7, 8, 9, 23]
  | 5 => [4]
  | 6 => [0, 1, 7, 8, 9]
  | 7 => [4]
  | _ => []
def c37 : ACode :=
(sq (rg [ ob 4 false] [0, 1]) (sq (sq (rg [ om 7 0, on 8 7, oi 9 0] [0, 1, 7, 8, 9]) (.block 0 (.loop (sq (rg [ ov 10 (.icmp .lss .i64 (tm 9) (tm 8))]
 [0, 1, 7, 8, 9, 10]) (sq (.cond (tm 10) .skip (.exit 0)) (sq (.block 1 (sq (rg [ om 11 9, oa 12 1 7 9, ol 13 12, om 5 11, om 6 13] [0, 1, 5, 6, 7, 8,
 9]) (sq (rg [ om 14 6, oc 15 36 [(tm 14)], ot 16 15, om 17 16, gm 18 17 false 0, gm 19 17 false 6, ⟨some 20, some (17, false), .call true (.c (.fn
 (.func 99) [] [])) [(tm 18), (tm 19)]⟩, gm 21 17 false 5, gv 22 17 false (.icmp .neq .i64 (tm 20) (tm 21)), oz 23 17 22] [0, 1, 7, 8, 9, 23]) (.cond
 (tm 23) (sq (rg [ ob 4 false] [4]) .ret) .skip)))) (rg [ ov 24 (.arith .add .i64 (tm 9) (ci 1)), om 9 24] [0, 1, 7, 8, 9]))))))) (sq (rg [ om 25 0, on
 26 25, ov 27 (.icmp .geq .i64 (tm 26) (ci 1)), om 28 27, gm 29 28 true 0, gv 30 28 true (.len (tm 29)), gm 31 28 true 1, gv 32 28 true (.icmp .leq
 .i64 (tm 30) (tm 31)), oy 33 28 32, om 4 33] [4]) .ret)))
theorem a37 : AOf Tryz.prog 37 c37 [.t 4] := mkA (fn := Tryz.f37) (c := Tryz.f37.body.getD .skip) (fz := []) (im := []) kp37 (by kernel_rfl) (by kernel_rfl) (by kernel_rfl) (by kernel_rfl) (by kernel_rfl)
def kp39 (r : Nat) : List Nat := match r with
  | 0 => [1, 2, 3]
  | 1 => [3, 20]
  | 2 => [6]
  | 3 => [3, 7, 8]
  | 4 => [3, 7, 8, 28]
  | 5 => [3, 7, 8, 28, 29]
  | 6 => [3, 7, 8, 28, 29]
  | 7 => [6]
  | 8 => [3, 7, 8, 28, 43]
  | 9 => [6]
  | 10 => [3, 7, 8, 28, 52]
  | 11 => [6]
  | 12 => [3, 7, 8, 28, 70]
  | 13 => [6]
  | 14 => [3, 7, 8, 83]
  | 15 => [6]
  | 16 => [6]
  | _ => []
def c39 : ACode :=
(sq (.reg 2 [ ⟨some 3, none, .box 0 4 (tm 0)⟩, ob 6 false] [1, 2, 3]) (sq (sq (rg [ of 9 1 3, ol 10 9, om 11 1, oc 12 38 [(tm 10), (tm 11), (ci 1)], ot
 13 12, om 14 13, gf 15 14 false 2 3, gl 16 14 false 15, gm 17 14 false 2, ⟨some 18, some (14, false), .call true (.c (.fn (.func 38) [] [])) [(tm 16),
 (tm 17), (ci 0)]⟩, gv 19 14 false (.not (tm 18)), oz 20 14 19] [3, 20]) (.cond (tm 20) (sq (rg [ ob 6 false] [6]) .ret) .skip)) (sq (rg [ of 21 1 3,
 ol 22 21, on 23 22, of 24 2 3, ol 25 24, on 26 25, om 7 23, om 8 26] [3, 7, 8]) (sq (sq (rg [ of 27 0 3, ol 28 27] [3, 7, 8, 28]) (.block 0 (sq (sq
 (rg [ ov 30 (.icmp .eql .i64 (tm 28) (ci 1)), om 29 30] [3, 7, 8, 28, 29]) (.cond (tm 29) .skip (rg [ ov 31 (.icmp .eql .i64 (tm 28) (ci 4)), om 29
 31] [3, 7, 8, 28, 29]))) (.cond (tm 29) (sq (rg [ om 32 7, ov 33 (.icmp .geq .i64 (tm 32) (ci 2)), om 34 33, gm 35 34 true 8, gv 36 34 true (.icmp
 .eql .i64 (tm 35) (ci 0)), oy 37 34 36, om 38 37, gf 39 38 true 3 3, gl 40 38 true 39, gv 41 38 true (.icmp .eql .i64 (tm 40) (ci 0)), oy 42 38 41, om
 6 42] [6]) .ret) (sq (rg [ ov 44 (.icmp .eql .i64 (tm 28) (ci 2)), om 43 44] [3, 7, 8, 28, 43]) (.cond (tm 43) (sq (rg [ om 45 8, ov 46 (.icmp .eql
 .i64 (tm 45) (ci 1)), om 47 46, gf 48 47 true 3 3, gl 49 47 true 48, gv 50 47 true (.icmp .eql .i64 (tm 49) (ci 0)), oy 51 47 50, om 6 51] [6]) .ret)
 (sq (rg [ ov 53 (.icmp .eql .i64 (tm 28) (ci 3)), om 52 53] [3, 7, 8, 28, 52]) (.cond (tm 52) (sq (rg [ om 54 7, ov 55 (.icmp .eql .i64 (tm 54) (ci
 2)), om 56 55, gm 57 56 true 8, gv 58 56 true (.icmp .eql .i64 (tm 57) (ci 0)), oy 59 56 58, om 60 59, gf 61 60 true 3 3, gl 62 60 true 61, gv 63 60
 true (.icmp .geq .i64 (tm 62) (ci 1)), oy 64 60 63, om 65 64, gf 66 65 true 3 3, gl 67 65 true 66, gv 68 65 true (.icmp .leq .i64 (tm 67) (ci 99)), oy
 69 65 68, om 6 69] [6]) .ret) (sq (rg [ ov 71 (.icmp .eql .i64 (tm 28) (ci 5)), om 70 71] [3, 7, 8, 28, 70]) (.cond (tm 70) (sq (rg [ om 72 7, ov 73
 (.icmp .eql .i64 (tm 72) (ci 2)), om 74 73, gm 75 74 true 8, gv 76 74 true (.icmp .eql .i64 (tm 75) (ci 0)), oy 77 74 76, om 78 77, gf 79 78 true 3 3,
 gl 80 78 true 79, gv 81 78 true (.icmp .eql .i64 (tm 80) (ci 0)), oy 82 78 81, om 6 82] [6]) .ret) (sq (rg [ ov 84 (.icmp .eql .i64 (tm 28) (ci 6)),
 om 83 84] [3, 7, 8, 83]) (.cond (tm 83) (sq (rg [ om 85 8, ov 86 (.icmp .geq .i64 (tm 85) (ci 1)), om 87 86, gf 88 87 true 3 3, gl 89 87 true 88, gv
 90 87 true (.icmp .geq .i64 (tm 89) (ci 0)), oy 91 87 90, om 92 91, gf 93 92 true 3 3, gl 94 92 true 93, gm 95 92 true 7, gv 96 92 true (.icmp .leq
 .i64 (tm 94) (tm 95)), oy 97 92 96, om 6 97] [6]) .ret) .skip)))))))))))) (sq (rg [ ob 6 false] [6]) .ret)))))
theorem a39 : AOf Tryz.prog 39 c39 [.t 6] := mkA (fn := Tryz.f39) (c := Tryz.f39.body.getD .skip) (fz := []) (im := []) kp39 (by kernel_rfl) (by kernel_rfl) (by kernel_rfl) (by kernel_rfl) (by kernel_rfl)
def kp18 (r : Nat) : List Nat := match r with
  | 0 => [1]
  | 1 => [1, 3]
  | 2 => [1, 3, 4]
  | 3 => [1, 3, 4]
  | 4 => [1, 3, 4, 58, 59, 60]
  | 5 => [1, 3, 4, 58, 59, 60, 61]
  | 6 => [1, 3, 4, 6, 58, 59, 60]
  | 7 => [1, 3, 4, 58, 59, 60]
  | 8 => [1, 3, 4, 58, 59, 60]
  | 9 => [1, 3, 4, 77, 78, 79]
  | 10 => [1, 3, 4, 77, 78, 79, 80]
  | 11 => [1, 3, 4, 8, 77, 78, 79]
  | 12 => [1, 3, 4, 8, 77, 78, 79]
  | 13 => [1, 3, 4, 77, 78, 79]
  | 14 => [1, 3, 4, 77, 78, 79]
  | 15 => [107]
  | 16 => [2]
  | 17 => [2]
  | _ => []
def c18 : ACode :=
(sq (.reg 2 [ ⟨some 1, none, .box 0 8 (tm 0)⟩, oi 2 0] [1]) (sq (rg [ ov 3 (.mv (.c zs))] [1, 3]) (sq (rg [ of 9 0 1, ol 10 9, oc 11 36 [(tm 10)], om
 12 11, gf 13 12 true 1 1, gl 14 12 true 13, gv 15 12 true (.icmp .geq .i64 (tm 14) (ci 1)), oy 16 12 15, om 17 16, gf 18 17 true 1 1, gl 19 17 true
 18, gv 20 17 true (.icmp .leq .i64 (tm 19) (ci 8)), oy 21 17 20, om 22 21, gf 23 22 true 2 1, gl 24 22 true 23, ⟨some 25, some (22, true), .call true
 (.c (.fn (.func 37) [] [])) [(tm 24), (ci 4)]⟩, oy 26 22 25, om 27 26, gf 28 27 true 3 1, gl 29 27 true 28, ⟨some 30, some (27, true), .call true (.c
 (.fn (.func 37) [] [])) [(tm 29), (ci 3)]⟩, oy 31 27 30, om 32 31, gf 33 32 true 4 1, gl 34 32 true 33, gv 35 32 true (.len (tm 34)), gv 36 32 true
 (.icmp .leq .i64 (tm 35) (ci 6)), oy 37 32 36, om 4 37] [1, 3, 4]) (sq (rg [ om 38 4, om 39 38, gf 40 39 true 6 1, gl 41 39 true 40, gv 42 39 true
 (.bs 1 1 z0 [(0, (tm 41))]), gf 43 39 true 2 1, gl 44 39 true 43, gv 45 39 true (.len (tm 44)), ⟨some 46, some (39, true), .call true (.c (.fn (.func
 38) [] [])) [(tm 42), (tm 45), (ci 1)]⟩, oy 47 39 46, om 48 47, gf 49 48 true 7 1, gl 50 48 true 49, gv 51 48 true (.bs 1 1 z0 [(0, (tm 50))]), gf 52
 48 true 3 1, gl 53 48 true 52, gv 54 48 true (.len (tm 53)), ⟨some 55, some (48, true), .call true (.c (.fn (.func 38) [] [])) [(tm 51), (tm 54), (ci
 1)]⟩, oy 56 48 55, om 4 56] [1, 3, 4]) (sq (sq (rg [ of 57 4 1, ol 58 57, on 59 58, oi 60 0] [1, 3, 4, 58, 59, 60]) (.block 0 (.loop (sq (rg [ ov 61
 (.icmp .lss .i64 (tm 60) (tm 59))] [1, 3, 4, 58, 59, 60, 61]) (sq (.cond (tm 61) .skip (.exit 0)) (sq (.block 1 (sq (.reg 4 [ oa 62 4 58 60, ov 63
 (.ld 4 true (tm 62)), ⟨some 6, none, .alloc 2 [z0, zs, zs, z0]⟩, ⟨none, none, .st 4 (tm 6) (tm 63)⟩] [1, 3, 4, 6, 58, 59, 60]) (rg [ om 64 4, om 65
 64, gv 66 65 true (.ld 4 true (tm 6)), gf 67 65 true 2 1, gl 68 65 true 67, gv 69 65 true (.len (tm 68)), gf 70 65 true 3 1, gl 71 65 true 70, gv 72
 65 true (.len (tm 71)), ⟨some 73, some (65, true), .call true (.c (.fn (.func 39) [] [])) [(tm 66), (tm 69), (tm 72)]⟩, oy 74 65 73, om 4 74] [1, 3,
 4, 58, 59, 60]))) (rg [ ov 75 (.arith .add .i64 (tm 60) (ci 1)), om 60 75] [1, 3, 4, 58, 59, 60]))))))) (sq (sq (rg [ of 76 5 1, ol 77 76, on 78 77,
 oi 79 0] [1, 3, 4, 77, 78, 79]) (.block 2 (.loop (sq (rg [ ov 80 (.icmp .lss .i64 (tm 79) (tm 78))] [1, 3, 4, 77, 78, 79, 80]) (sq (.cond (tm 80)
 .skip (.exit 2)) (sq (.block 3 (sq (.reg 4 [ oa 81 2 77 79, ov 82 (.ld 2 true (tm 81)), ⟨some 8, none, .alloc 2 [z0, zs]⟩, ⟨none, none, .st 2 (tm 8)
 (tm 82)⟩] [1, 3, 4, 8, 77, 78, 79]) (sq (.reg 6 [ om 83 3, of 84 0 8, ol 85 84, ov 86 (.bs 1 1 z0 [(0, (tm 85))]), ⟨some 87, none, .app 4 1 8 (tm 83)
 (tm 86) false⟩, om 3 87] [1, 3, 4, 8, 77, 78, 79]) (rg [ om 88 4, om 89 88, gf 90 89 true 1 8, gl 91 89 true 90, gf 92 89 true 3 1, gl 93 89 true 92,
 gv 94 89 true (.len (tm 93)), ⟨some 95, some (89, true), .call true (.c (.fn (.func 38) [] [])) [(tm 91), (tm 94), (ci 1)]⟩, oy 96 89 95, om 4 96] [1,
 3, 4, 77, 78, 79])))) (rg [ ov 97 (.arith .add .i64 (tm 79) (ci 1)), om 79 97] [1, 3, 4, 77, 78, 79]))))))) (sq (sq (rg [ om 98 4, ot 99 98, om 100
 99, gm 101 100 false 3, gf 102 100 false 2 1, gl 103 100 false 102, gv 104 100 false (.len (tm 103)), ⟨some 105, some (100, false), .call true (.c
 (.fn (.func 38) [] [])) [(tm 101), (tm 104), (ci 0)]⟩, gv 106 100 false (.not (tm 105)), oz 107 100 106] [107]) (.cond (tm 107) (sq (rg [ oi 2 300]
 [2]) .ret) .skip)) (sq (rg [ oi 2 0] [2]) .ret))))))))
theorem a18 : AOf Tryz.prog 18 c18 [.t 2] := mkA (fn := Tryz.f18) (c := Tryz.f18.body.getD .skip) (fz := []) (im := []) kp18 (by kernel_rfl) (by kernel_rfl) (by kernel_rfl) (by kernel_rfl) (by kernel_rfl)
def kp41 (r : Nat) : List Nat := match r with
  | 0 => [2, 3]
  | 1 => [4]
  | _ => []
def c41 : ACode :=
(sq (.reg 3 [ ⟨some 2, none, .box 0 4 (tm 0)⟩, ⟨some 3, none, .box 1 4 (tm 1)⟩, ob 4 false] [2, 3]) (sq (rg [ of 5 0 2, ol 6 5, of 7 0 3, ol 8 7, ov 9
 (.icmp .eql .i64 (tm 6) (tm 8)), om 10 9, gf 11 10 true 3 2, gl 12 10 true 11, gf 13 10 true 3 3, gl 14 10 true 13, gv 15 10 true (.icmp .eql .i64 (tm
 12) (tm 14)), oy 16 10 15, om 17 16, gf 18 17 true 1 2, gl 19 17 true 18, gf 20 17 true 1 3, gl 21 17 true 20, ⟨some 22, some (17, true), .call true
 (.c (.fn (.func 42) [] [])) [(tm 19), (tm 21)]⟩, oy 23 17 22, om 24 23, gf 25 24 true 2 2, gl 26 24 true 25, gf 27 24 true 2 3, gl 28 24 true 27,
 ⟨some 29, some (24, true), .call true (.c (.fn (.func 42) [] [])) [(tm 26), (tm 28)]⟩, oy 30 24 29, om 4 30] [4]) .ret))
theorem a41 : AOf Tryz.prog 41 c41 [.t 4] := mkA (fn := Tryz.f41) (c := Tryz.f41.body.getD .skip) (fz := []) (im := []) kp41 (by kernel_rfl) (by kernel_rfl) (by kernel_rfl) (by kernel_rfl) (by kernel_rfl)
def kp44 (r : Nat) : List Nat := match r with
  | 0 => [2, 3]
  | 1 => [4]
  | _ => []
def c44 : ACode :=
(sq (.reg 3 [ ⟨some 2, none, .box 0 2 (tm 0)⟩, ⟨some 3, none, .box 1 2 (tm 1)⟩, ob 4 false] [2, 3]) (sq (rg [ of 5 0 2, ol 6 5, of 7 0 3, ol 8 7, ov 9
 (.icmp .eql .i64 (tm 6) (tm 8)), om 10 9, gf 11 10 true 1 2, gl 12 10 true 11, gf 13 10 true 1 3, gl 14 10 true 13, ⟨some 15, some (10, true), .call
 true (.c (.fn (.func 42) [] [])) [(tm 12), (tm 14)]⟩, oy 16 10 15, om 4 16] [4]) .ret))
theorem a44 : AOf Tryz.prog 44 c44 [.t 4] := mkA (fn := Tryz.f44) (c := Tryz.f44.body.getD .skip) (fz := []) (im := []) kp44 (by kernel_rfl) (by kernel_rfl) (by kernel_rfl) (by kernel_rfl) (by kernel_rfl)
def kp20 (r : Nat) : List Nat := match r with
  | 0 => [2, 3]
  | 1 => [2, 3, 5]
  | 2 => [2, 3, 5, 6]
  | 3 => [4]
  | _ => []
def c20 : ACode :=
(sq (.reg 3 [ ⟨some 2, none, .box 0 8 (tm 0)⟩, ⟨some 3, none, .box 1 8 (tm 1)⟩, ob 4 false] [2, 3]) (sq (rg [ of 7 4 2, ol 8 7, of 9 4 3, ol 10 9, oc
 11 40 [(tm 8), (tm 10), (.c (.fn (.func 41) [] []))], om 5 11] [2, 3, 5]) (sq (rg [ of 12 5 2, ol 13 12, of 14 5 3, ol 15 14, oc 16 43 [(tm 13), (tm
 15), (.c (.fn (.func 44) [] []))], om 6 16] [2, 3, 5, 6]) (sq (rg [ om 17 5, om 18 17, gm 19 18 true 6, oy 20 18 19, om 21 20, gf 22 21 true 0 2, gl
 23 21 true 22, gf 24 21 true 0 3, gl 25 21 true 24, gv 26 21 true (.scmp .eql (tm 23) (tm 25)), oy 27 21 26, om 28 27, gf 29 28 true 1 2, gl 30 28
 true 29, gf 31 28 true 1 3, gl 32 28 true 31, gv 33 28 true (.icmp .eql .i64 (tm 30) (tm 32)), oy 34 28 33, om 35 34, gf 36 35 true 2 2, gl 37 35 true
 36, gf 38 35 true 2 3, gl 39 35 true 38, ⟨some 40, some (35, true), .call true (.c (.fn (.func 45) [] [])) [(tm 37), (tm 39)]⟩, oy 41 35 40, om 42 41,
 gf 43 42 true 3 2, gl 44 42 true 43, gf 45 42 true 3 3, gl 46 42 true 45, ⟨some 47, some (42, true), .call true (.c (.fn (.func 45) [] [])) [(tm 44),
 (tm 46)]⟩, oy 48 42 47, om 49 48, gf 50 49 true 6 2, gl 51 49 true 50, gf 52 49 true 6 3, gl 53 49 true 52, gv 54 49 true (.icmp .eql .i64 (tm 51) (tm
 53)), oy 55 49 54, om 56 55, gf 57 56 true 7 2, gl 58 56 true 57, gf 59 56 true 7 3, gl 60 56 true 59, gv 61 56 true (.icmp .eql .i64 (tm 58) (tm
 60)), oy 62 56 61, om 4 62] [4]) .ret))))
theorem l20 : Callable Tryz.prog 20 := ⟨Tryz.f20, by kernel_rfl, by kernel_rfl, by kernel_rfl⟩
theorem a20 : AOf Tryz.prog 20 c20 [.t 4] := mkA (fn := Tryz.f20) (c := Tryz.f20.body.getD .skip) (fz := []) (im := []) kp20 (by kernel_rfl) (by kernel_rfl) (by kernel_rfl) (by kernel_rfl) (by kernel_rfl)
def kp40 (r : Nat) : List Nat := match r with
  | 0 => [0, 1, 2]
  | 1 => [0, 1, 2, 14]
  | 2 => [6]
  | 3 => [1, 2, 15, 16, 17]
  | 4 => [1, 2, 15, 16, 17, 18]
  | 5 => [1, 2, 7, 8, 15, 16, 17]
  | 6 => [1, 2, 8, 9, 15, 16, 17]
  | 7 => [1, 2, 15, 16, 17, 30]
  | 8 => [6]
  | 9 => [1, 2, 15, 16, 17]
  | 10 => [6]
  | _ => []
def c40 : ACode :=
(sq (rg [ ob 6 false] [0, 1, 2]) (sq (sq (rg [ om 10 0, on 11 10, om 12 1, on 13 12, ov 14 (.icmp .neq .i64 (tm 11) (tm 13))] [0, 1, 2, 14]) (.cond (tm
 14) (sq (rg [ ob 6 false] [6]) .ret) .skip)) (sq (sq (rg [ om 15 0, on 16 15, oi 17 0] [1, 2, 15, 16, 17]) (.block 0 (.loop (sq (rg [ ov 18 (.icmp
 .lss .i64 (tm 17) (tm 16))] [1, 2, 15, 16, 17, 18]) (sq (.cond (tm 18) .skip (.exit 0)) (sq (.block 1 (sq (.reg 6 [ om 19 17, oa 20 4 15 17, ov 21
 (.ld 4 true (tm 20)), ⟨some 8, none, .alloc 3 [z0, zs, zs, z0]⟩, om 7 19, ⟨none, none, .st 4 (tm 8) (tm 21)⟩] [1, 2, 7, 8, 15, 16, 17]) (sq (.reg 6 [
 om 22 1, om 23 7, oa 24 4 22 23, ov 25 (.ld 4 true (tm 24)), ⟨some 9, none, .alloc 4 [z0, zs, zs, z0]⟩, ⟨none, none, .st 4 (tm 9) (tm 25)⟩] [1, 2, 8,
 9, 15, 16, 17]) (sq (rg [ om 26 2, ov 27 (.ld 4 true (tm 8)), ov 28 (.ld 4 true (tm 9)), ⟨some 29, none, .call true (tm 26) [(tm 27), (tm 28)]⟩, ot 30
 29] [1, 2, 15, 16, 17, 30]) (.cond (tm 30) (sq (rg [ ob 6 false] [6]) .ret) .skip))))) (rg [ ov 31 (.arith .add .i64 (tm 17) (ci 1)), om 17 31] [1, 2,
 15, 16, 17]))))))) (sq (rg [ ob 6 true] [6]) .ret))))
theorem a40 : AOf Tryz.prog 40 c40 [.t 6] := mkA (fn := Tryz.f40) (c := Tryz.f40.body.getD .skip) (fz := []) (im := []) kp40 (by kernel_rfl) (by kernel_rfl) (by kernel_rfl) (by kernel_rfl) (by kernel_rfl)
def kp43 (r : Nat) : List Nat := match r with
  | 0 => [0, 1, 2]
  | 1 => [0, 1, 2, 14]
  | 2 => [6]
  | 3 => [1, 2, 15, 16, 17]
  | 4 => [1, 2, 15, 16, 17, 18]
  | 5 => [1, 2, 7, 8, 15, 16, 17]
  | 6 => [1, 2, 8, 9, 15, 16, 17]
  | 7 => [1, 2, 15, 16, 17, 30]
  | 8 => [6]
  | 9 => [1, 2, 15, 16, 17]
  | 10 => [6]
  | _ => []
def c43 : ACode :=
(sq (rg [ ob 6 false] [0, 1, 2]) (sq (sq (rg [ om 10 0, on 11 10, om 12 1, on 13 12, ov 14 (.icmp .neq .i64 (tm 11) (tm 13))] [0, 1, 2, 14]) (.cond (tm
 14) (sq (rg [ ob 6 false] [6]) .ret) .skip)) (sq (sq (rg [ om 15 0, on 16 15, oi 17 0] [1, 2, 15, 16, 17]) (.block 0 (.loop (sq (rg [ ov 18 (.icmp
 .lss .i64 (tm 17) (tm 16))] [1, 2, 15, 16, 17, 18]) (sq (.cond (tm 18) .skip (.exit 0)) (sq (.block 1 (sq (.reg 6 [ om 19 17, oa 20 2 15 17, ov 21
 (.ld 2 true (tm 20)), ⟨some 8, none, .alloc 3 [z0, zs]⟩, om 7 19, ⟨none, none, .st 2 (tm 8) (tm 21)⟩] [1, 2, 7, 8, 15, 16, 17]) (sq (.reg 6 [ om 22 1,
 om 23 7, oa 24 2 22 23, ov 25 (.ld 2 true (tm 24)), ⟨some 9, none, .alloc 4 [z0, zs]⟩, ⟨none, none, .st 2 (tm 9) (tm 25)⟩] [1, 2, 8, 9, 15, 16, 17])
 (sq (rg [ om 26 2, ov 27 (.ld 2 true (tm 8)), ov 28 (.ld 2 true (tm 9)), ⟨some 29, none, .call true (tm 26) [(tm 27), (tm 28)]⟩, ot 30 29] [1, 2, 15,
 16, 17, 30]) (.cond (tm 30) (sq (rg [ ob 6 false] [6]) .ret) .skip))))) (rg [ ov 31 (.arith .add .i64 (tm 17) (ci 1)), om 17 31] [1, 2, 15, 16,
 17]))))))) (sq (rg [ ob 6 true] [6]) .ret))))
theorem a43 : AOf Tryz.prog 43 c43 [.t 6] := mkA (fn := Tryz.f43) (c := Tryz.f43.body.getD .skip) (fz := []) (im := []) kp43 (by kernel_rfl) (by kernel_rfl) (by kernel_rfl) (by kernel_rfl) (by kernel_rfl)
def kp73 (r : Nat) : List Nat := match r with
  | 0 => [0, 1]
  | 1 => [0, 1, 7, 8]
  | 2 => [0, 1, 7, 8, 9]
  | 3 => [0, 1, 5, 7, 8]
  | 4 => [0, 1, 5, 7, 8, 16]
  | 5 => [4]
  | 6 => [0, 1, 7, 8]
  | 7 => [4]
  | _ => []
def c73 : ACode :=
(sq (rg [ oi 4 0] [0, 1]) (sq (sq (rg [ om 6 0, on 7 6, oi 8 0] [0, 1, 7, 8]) (.block 0 (.loop (sq (rg [ ov 9 (.icmp .lss .i64 (tm 8) (tm 7))] [0, 1,
 7, 8, 9]) (sq (.cond (tm 9) .skip (.exit 0)) (sq (.block 1 (sq (rg [ om 10 8, om 5 10] [0, 1, 5, 7, 8]) (sq (rg [ om 11 1, om 12 0, om 13 5, oa 14 8
 12 13, ov 15 (.ld 8 true (tm 14)), ⟨some 16, none, .call true (tm 11) [(tm 15)]⟩] [0, 1, 5, 7, 8, 16]) (.cond (tm 16) (sq (rg [ om 17 5, om 4 17] [4])
 .ret) .skip)))) (rg [ ov 18 (.arith .add .i64 (tm 8) (ci 1)), om 8 18] [0, 1, 7, 8]))))))) (sq (rg [ oi 4 (-1)] [4]) .ret)))
theorem a73 : AOf Tryz.prog 73 c73 [.t 4] := mkA (fn := Tryz.f73) (c := Tryz.f73.body.getD .skip) (fz := []) (im := []) kp73 (by kernel_rfl) (by kernel_rfl) (by kernel_rfl) (by kernel_rfl) (by kernel_rfl)
def kp28 (r : Nat) : List Nat := match r with
  | 0 => [0, 1]
  | 1 => [4]
  | _ => []
def c28 : ACode :=
(sq (rg [ ob 4 false] [0, 1]) (sq (rg [ om 5 0, om 6 1, oc 7 73 [(tm 5), (tm 6)], ov 8 (.icmp .geq .i64 (tm 7) (ci 0)), om 4 8] [4]) .ret))
theorem a28 : AOf Tryz.prog 28 c28 [.t 4] := mkA (fn := Tryz.f28) (c := Tryz.f28.body.getD .skip) (fz := []) (im := []) kp28 (by kernel_rfl) (by kernel_rfl) (by kernel_rfl) (by kernel_rfl) (by kernel_rfl)
def kp29 (r : Nat) : List Nat := match r with
  | 0 => [1]
  | 1 => [2]
  | _ => []
def c29 : ACode :=
(sq (.reg 2 [ ⟨some 1, none, .box 0 8 (tm 0)⟩, ob 2 false] [1]) (sq (rg [ ov 3 (.ld 8 true (tm 1)), oc 4 18 [(tm 3)], ov 5 (.icmp .neq .i64 (tm 4) (ci
 0)), om 2 5] [2]) .ret))
theorem a29 : AOf Tryz.prog 29 c29 [.t 2] := mkA (fn := Tryz.f29) (c := Tryz.f29.body.getD .skip) (fz := []) (im := []) kp29 (by kernel_rfl) (by kernel_rfl) (by kernel_rfl) (by kernel_rfl) (by kernel_rfl)
end Go.AM
end
section
set_option maxRecDepth 20000
set_option linter.all false
namespace Go.AM
open Go.Proofs
def kp88 (r : Nat) : List Nat := match r with
  | 0 => [0, 1]
  | 1 => [0, 1, 5]
  | 2 => [0, 1, 5, 9]
  | 4 => [0, 1, 5, 17]
  | 5 => [4]
  | 3 => [0, 1, 5]
  | 6 => [4]
  | _ => []
def c88 : ACode :=
(sq (rg [ oi 4 0] [0, 1]) (sq (sq (rg [ oi 5 0] [0, 1, 5]) (.block 0 (.loop (sq (sq (rg [ om 6 5, om 7 0, on 8 7, ov 9 (.icmp .lss .i64 (tm 6) (tm 8))]
 [0, 1, 5, 9]) (.cond (tm 9) .skip (.exit 0))) (sq (.block 1 (sq (rg [ om 12 0, om 13 5, oa 14 1 12 13, ol 15 14, om 16 1, ov 17 (.scmp .eql (tm 15)
 (tm 16))] [0, 1, 5, 17]) (.cond (tm 17) (sq (rg [ om 18 5, om 4 18] [4]) .ret) .skip))) (rg [ om 10 5, ov 11 (.arith .add .i64 (tm 10) (ci 1)), om 5
 11] [0, 1, 5])))))) (sq (rg [ oi 4 (-1)] [4]) .ret)))
theorem a88 : AOf Tryz.prog 88 c88 [.t 4] := mkA (fn := Tryz.f88) (c := Tryz.f88.body.getD .skip) (fz := []) (im := []) kp88 (by kernel_rfl) (by kernel_rfl) (by kernel_rfl) (by kernel_rfl) (by kernel_rfl)
def kp91 (r : Nat) : List Nat := match r with
  | 0 => [0, 1]
  | 1 => [0, 1, 5]
  | 2 => [0, 1, 5, 10]
  | 4 => [0, 1, 5, 25]
  | 5 => [4]
  | 6 => [0, 1, 5, 6]
  | 7 => [0, 1, 5, 6, 28]
  | 9 => [0, 1, 5, 6, 39]
  | 10 => [4]
  | 8 => [0, 1, 5, 6]
  | 3 => [0, 1, 5]
  | 11 => [4]
  | _ => []
def c91 : ACode :=
(sq (rg [ ob 4 false] [0, 1]) (sq (sq (rg [ oi 5 0] [0, 1, 5]) (.block 0 (.loop (sq (sq (rg [ om 7 5, om 8 0, on 9 8, ov 10 (.icmp .lss .i64 (tm 7) (tm
 9))] [0, 1, 5, 10]) (.cond (tm 10) .skip (.exit 0))) (sq (.block 1 (sq (sq (rg [ om 13 0, om 14 5, oa 15 1 13 14, ol 16 15, ov 17 (.icmp .lss .i64 (tm
 16) (ci 0)), om 18 17, gm 19 18 false 0, gm 20 18 false 5, ga 21 18 false 1 19 20, gl 22 18 false 21, gm 23 18 false 1, gv 24 18 false (.icmp .geq
 .i64 (tm 22) (tm 23)), oz 25 18 24] [0, 1, 5, 25]) (.cond (tm 25) (sq (rg [ ob 4 false] [4]) .ret) .skip)) (sq (rg [ oi 6 0] [0, 1, 5, 6]) (.block 2
 (.loop (sq (sq (rg [ om 26 6, om 27 5, ov 28 (.icmp .lss .i64 (tm 26) (tm 27))] [0, 1, 5, 6, 28]) (.cond (tm 28) .skip (.exit 2))) (sq (.block 3 (sq
 (rg [ om 31 0, om 32 6, oa 33 1 31 32, ol 34 33, om 35 0, om 36 5, oa 37 1 35 36, ol 38 37, ov 39 (.icmp .eql .i64 (tm 34) (tm 38))] [0, 1, 5, 6, 39])
 (.cond (tm 39) (sq (rg [ ob 4 false] [4]) .ret) .skip))) (rg [ om 29 6, ov 30 (.arith .add .i64 (tm 29) (ci 1)), om 6 30] [0, 1, 5, 6])))))))) (rg [
 om 11 5, ov 12 (.arith .add .i64 (tm 11) (ci 1)), om 5 12] [0, 1, 5])))))) (sq (rg [ ob 4 true] [4]) .ret)))
theorem a91 : AOf Tryz.prog 91 c91 [.t 4] := mkA (fn := Tryz.f91) (c := Tryz.f91.body.getD .skip) (fz := []) (im := []) kp91 (by kernel_rfl) (by kernel_rfl) (by kernel_rfl) (by kernel_rfl) (by kernel_rfl)
def kp90 (r : Nat) : List Nat := match r with
  | 0 => [1, 2, 3]
  | 1 => [3, 20]
  | 2 => [6]
  | 3 => [3, 7]
  | 4 => [3, 7, 8]
  | 5 => [3, 7, 8, 28]
  | 6 => [3, 7, 8, 28, 29]
  | 7 => [3, 7, 8, 28, 29]
  | 8 => [6]
  | 9 => [3, 7, 8, 28, 43]
  | 10 => [6]
  | 11 => [3, 7, 8, 28, 56]
  | 12 => [6]
  | 13 => [3, 7, 8, 28, 74]
  | 14 => [6]
  | 15 => [3, 7, 8, 87]
  | 16 => [6]
  | 17 => [6]
  | _ => []
def c90 : ACode :=
(sq (.reg 2 [ ⟨some 3, none, .box 0 4 (tm 0)⟩, ob 6 false] [1, 2, 3]) (sq (sq (rg [ of 9 1 3, ol 10 9, om 11 1, oc 12 91 [(tm 10), (tm 11)], ot 13 12,
 om 14 13, gf 15 14 false 2 3, gl 16 14 false 15, gm 17 14 false 2, ⟨some 18, some (14, false), .call true (.c (.fn (.func 91) [] [])) [(tm 16), (tm
 17)]⟩, gv 19 14 false (.not (tm 18)), oz 20 14 19] [3, 20]) (.cond (tm 20) (sq (rg [ ob 6 false] [6]) .ret) .skip)) (sq (rg [ of 21 1 3, ol 22 21, on
 23 22, om 7 23] [3, 7]) (sq (rg [ of 24 2 3, ol 25 24, on 26 25, om 8 26] [3, 7, 8]) (sq (sq (rg [ of 27 0 3, ol 28 27] [3, 7, 8, 28]) (.block 0 (sq
 (sq (rg [ ov 30 (.icmp .eql .i64 (tm 28) (ci 1)), om 29 30] [3, 7, 8, 28, 29]) (.cond (tm 29) .skip (rg [ ov 31 (.icmp .eql .i64 (tm 28) (ci 4)), om
 29 31] [3, 7, 8, 28, 29]))) (.cond (tm 29) (sq (rg [ om 32 7, ov 33 (.icmp .geq .i64 (tm 32) (ci 2)), om 34 33, gm 35 34 true 8, gv 36 34 true (.icmp
 .eql .i64 (tm 35) (ci 0)), oy 37 34 36, om 38 37, gf 39 38 true 3 3, gl 40 38 true 39, gv 41 38 true (.icmp .eql .i64 (tm 40) (ci 0)), oy 42 38 41, om
 6 42] [6]) .ret) (sq (rg [ ov 44 (.icmp .eql .i64 (tm 28) (ci 2)), om 43 44] [3, 7, 8, 28, 43]) (.cond (tm 43) (sq (rg [ om 45 7, ov 46 (.icmp .geq
 .i64 (tm 45) (ci 1)), om 47 46, gm 48 47 true 8, gv 49 47 true (.icmp .eql .i64 (tm 48) (ci 1)), oy 50 47 49, om 51 50, gf 52 51 true 3 3, gl 53 51
 true 52, gv 54 51 true (.icmp .eql .i64 (tm 53) (ci 0)), oy 55 51 54, om 6 55] [6]) .ret) (sq (rg [ ov 57 (.icmp .eql .i64 (tm 28) (ci 3)), om 56 57]
 [3, 7, 8, 28, 56]) (.cond (tm 56) (sq (rg [ om 58 7, ov 59 (.icmp .eql .i64 (tm 58) (ci 2)), om 60 59, gm 61 60 true 8, gv 62 60 true (.icmp .eql .i64
 (tm 61) (ci 0)), oy 63 60 62, om 64 63, gf 65 64 true 3 3, gl 66 64 true 65, gv 67 64 true (.icmp .geq .i64 (tm 66) (ci 1)), oy 68 64 67, om 69 68, gf
 70 69 true 3 3, gl 71 69 true 70, gv 72 69 true (.icmp .leq .i64 (tm 71) (ci 99)), oy 73 69 72, om 6 73] [6]) .ret) (sq (rg [ ov 75 (.icmp .eql .i64
 (tm 28) (ci 5)), om 74 75] [3, 7, 8, 28, 74]) (.cond (tm 74) (sq (rg [ om 76 7, ov 77 (.icmp .eql .i64 (tm 76) (ci 2)), om 78 77, gm 79 78 true 8, gv
 80 78 true (.icmp .eql .i64 (tm 79) (ci 0)), oy 81 78 80, om 82 81, gf 83 82 true 3 3, gl 84 82 true 83, gv 85 82 true (.icmp .eql .i64 (tm 84) (ci
 0)), oy 86 82 85, om 6 86] [6]) .ret) (sq (rg [ ov 88 (.icmp .eql .i64 (tm 28) (ci 6)), om 87 88] [3, 7, 8, 87]) (.cond (tm 87) (sq (rg [ om 89 7, ov
 90 (.icmp .geq .i64 (tm 89) (ci 1)), om 91 90, gm 92 91 true 8, gv 93 91 true (.icmp .geq .i64 (tm 92) (ci 1)), oy 94 91 93, om 95 94, gf 96 95 true 3
 3, gl 97 95 true 96, gv 98 95 true (.icmp .geq .i64 (tm 97) (ci 0)), oy 99 95 98, om 100 99, gf 101 100 true 3 3, gl 102 100 true 101, gm 103 100 true
 7, gv 104 100 true (.icmp .leq .i64 (tm 102) (tm 103)), oy 105 100 104, om 6 105] [6]) .ret) .skip)))))))))))) (sq (rg [ ob 6 false] [6]) .ret))))))
theorem a90 : AOf Tryz.prog 90 c90 [.t 6] := mkA (fn := Tryz.f90) (c := Tryz.f90.body.getD .skip) (fz := []) (im := []) kp90 (by kernel_rfl) (by kernel_rfl) (by kernel_rfl) (by kernel_rfl) (by kernel_rfl)
def kp89 (r : Nat) : List Nat := match r with
  | 0 => [0, 1]
  | 1 => [0, 1, 5]
  | 2 => [0, 1, 5, 9]
  | 4 => [0, 1, 5, 27]
  | 5 => [4]
  | 3 => [0, 1, 5]
  | 6 => [4]
  | _ => []
def c89 : ACode :=
(sq (rg [ ob 4 false] [0, 1]) (sq (sq (rg [ oi 5 0] [0, 1, 5]) (.block 0 (.loop (sq (sq (rg [ om 6 5, om 7 0, on 8 7, ov 9 (.icmp .lss .i64 (tm 6) (tm
 8))] [0, 1, 5, 9]) (.cond (tm 9) .skip (.exit 0))) (sq (.block 1 (sq (rg [ om 12 0, om 13 5, oa 14 1 12 13, ol 15 14, oc 16 77 [(tm 15)], ot 17 16, om
 18 17, gm 19 18 false 0, gm 20 18 false 0, gm 21 18 false 5, ga 22 18 false 1 20 21, gl 23 18 false 22, ⟨some 24, some (18, false), .call true (.c
 (.fn (.func 88) [] [])) [(tm 19), (tm 23)]⟩, gm 25 18 false 5, gv 26 18 false (.icmp .neq .i64 (tm 24) (tm 25)), oz 27 18 26] [0, 1, 5, 27]) (.cond
 (tm 27) (sq (rg [ ob 4 false] [4]) .ret) .skip))) (rg [ om 10 5, ov 11 (.arith .add .i64 (tm 10) (ci 1)), om 5 11] [0, 1, 5])))))) (sq (rg [ om 28 0,
 on 29 28, ov 30 (.icmp .geq .i64 (tm 29) (ci 1)), om 31 30, gm 32 31 true 0, gv 33 31 true (.len (tm 32)), gm 34 31 true 1, gv 35 31 true (.icmp .leq
 .i64 (tm 33) (tm 34)), oy 36 31 35, om 4 36] [4]) .ret)))
theorem a89 : AOf Tryz.prog 89 c89 [.t 4] := mkA (fn := Tryz.f89) (c := Tryz.f89.body.getD .skip) (fz := []) (im := []) kp89 (by kernel_rfl) (by kernel_rfl) (by kernel_rfl) (by kernel_rfl) (by kernel_rfl)
def kp33 (r : Nat) : List Nat := match r with
  | 0 => [1]
  | 1 => [1, 37]
  | 2 => [2]
  | 3 => [1, 61]
  | 4 => [2]
  | 5 => [1, 3]
  | 6 => [1, 3, 66]
  | 8 => [1, 3, 81]
  | 9 => [2]
  | 7 => [1, 3]
  | 10 => [1, 4]
  | 11 => [1, 4, 5]
  | 12 => [1, 4, 5, 87]
  | 14 => [1, 4, 5]
  | 15 => [1, 4, 5, 119]
  | 16 => [2]
  | 13 => [1, 4, 5]
  | 17 => [2]
  | _ => []
def c33 : ACode :=
(sq (.reg 2 [ ⟨some 1, none, .box 0 8 (tm 0)⟩, ob 2 false] [1]) (sq (sq (rg [ of 6 0 1, ol 7 6, oc 8 77 [(tm 7)], ot 9 8, om 10 9, gf 11 10 false 1 1,
 gl 12 10 false 11, gv 13 10 false (.icmp .lss .i64 (tm 12) (ci 1)), oz 14 10 13, om 15 14, gf 16 15 false 1 1, gl 17 15 false 16, gv 18 15 false
 (.icmp .gtr .i64 (tm 17) (ci 8)), oz 19 15 18, om 20 19, gf 21 20 false 2 1, gl 22 20 false 21, ⟨some 23, some (20, false), .call true (.c (.fn (.func
 89) [] [])) [(tm 22), (ci 4)]⟩, gv 24 20 false (.not (tm 23)), oz 25 20 24, om 26 25, gf 27 26 false 3 1, gl 28 26 false 27, ⟨some 29, some (26,
 false), .call true (.c (.fn (.func 89) [] [])) [(tm 28), (ci 3)]⟩, gv 30 26 false (.not (tm 29)), oz 31 26 30, om 32 31, gf 33 32 false 4 1, gl 34 32
 false 33, gv 35 32 false (.len (tm 34)), gv 36 32 false (.icmp .gtr .i64 (tm 35) (ci 6)), oz 37 32 36] [1, 37]) (.cond (tm 37) (sq (rg [ ob 2 false]
 [2]) .ret) .skip)) (sq (sq (rg [ of 38 6 1, ol 39 38, ov 40 (.icmp .lss .i64 (tm 39) (ci 0)), om 41 40, gf 42 41 false 6 1, gl 43 41 false 42, gf 44
 41 false 2 1, gl 45 41 false 44, gv 46 41 false (.len (tm 45)), gv 47 41 false (.icmp .geq .i64 (tm 43) (tm 46)), oz 48 41 47, om 49 48, gf 50 49
 false 7 1, gl 51 49 false 50, gv 52 49 false (.icmp .lss .i64 (tm 51) (ci 0)), oz 53 49 52, om 54 53, gf 55 54 false 7 1, gl 56 54 false 55, gf 57 54
 false 3 1, gl 58 54 false 57, gv 59 54 false (.len (tm 58)), gv 60 54 false (.icmp .geq .i64 (tm 56) (tm 59)), oz 61 54 60] [1, 61]) (.cond (tm 61)
 (sq (rg [ ob 2 false] [2]) .ret) .skip)) (sq (sq (rg [ oi 3 0] [1, 3]) (.block 0 (.loop (sq (sq (rg [ om 62 3, of 63 4 1, ol 64 63, on 65 64, ov 66
 (.icmp .lss .i64 (tm 62) (tm 65))] [1, 3, 66]) (.cond (tm 66) .skip (.exit 0))) (sq (.block 1 (sq (rg [ of 69 4 1, ol 70 69, om 71 3, oa 72 4 70 71,
 ov 73 (.ld 4 true (tm 72)), of 74 2 1, ol 75 74, on 76 75, of 77 3 1, ol 78 77, on 79 78, oc 80 90 [(tm 73), (tm 76), (tm 79)], ot 81 80] [1, 3, 81])
 (.cond (tm 81) (sq (rg [ ob 2 false] [2]) .ret) .skip))) (rg [ om 67 3, ov 68 (.arith .add .i64 (tm 67) (ci 1)), om 3 68] [1, 3])))))) (sq (rg [ ov 82
 (.bs 1 0 z0 []), om 4 82] [1, 4]) (sq (sq (rg [ oi 5 0] [1, 4, 5]) (.block 2 (.loop (sq (sq (rg [ om 83 5, of 84 5 1, ol 85 84, on 86 85, ov 87 (.icmp
 .lss .i64 (tm 83) (tm 86))] [1, 4, 5, 87]) (.cond (tm 87) .skip (.exit 2))) (sq (.block 3 (sq (.reg 10 [ om 90 4, of 91 5 1, ol 92 91, om 93 5, oa 94
 2 92 93, of 95 0 94, ol 96 95, ov 97 (.bs 1 1 z0 [(0, (tm 96))]), ⟨some 98, none, .app 8 1 8 (tm 90) (tm 97) false⟩, om 4 98] [1, 4, 5]) (sq (rg [ of
 99 5 1, ol 100 99, om 101 5, oa 102 2 100 101, of 103 1 102, ol 104 103, on 105 104, ov 106 (.icmp .eql .i64 (tm 105) (ci 0)), om 107 106, gf 108 107
 false 5 1, gl 109 107 false 108, gm 110 107 false 5, ga 111 107 false 2 109 110, gf 112 107 false 1 111, gl 113 107 false 112, gf 114 107 false 3 1,
 gl 115 107 false 114, gv 116 107 false (.len (tm 115)), ⟨some 117, some (107, false), .call true (.c (.fn (.func 91) [] [])) [(tm 113), (tm 116)]⟩, gv
 118 107 false (.not (tm 117)), oz 119 107 118] [1, 4, 5, 119]) (.cond (tm 119) (sq (rg [ ob 2 false] [2]) .ret) .skip)))) (rg [ om 88 5, ov 89 (.arith
 .add .i64 (tm 88) (ci 1)), om 5 89] [1, 4, 5])))))) (sq (rg [ om 120 4, of 121 2 1, ol 122 121, on 123 122, oc 124 91 [(tm 120), (tm 123)], om 2 124]
 [2]) .ret)))))))
theorem a33 : AOf Tryz.prog 33 c33 [.t 2] := mkA (fn := Tryz.f33) (c := Tryz.f33.body.getD .skip) (fz := []) (im := []) kp33 (by kernel_rfl) (by kernel_rfl) (by kernel_rfl) (by kernel_rfl) (by kernel_rfl)
def kp19 (r : Nat) : List Nat := match r with
  | 0 => [1]
  | 1 => [4]
  | 2 => [2]
  | 3 => [2]
  | _ => []
def c19 : ACode :=
(sq (.reg 2 [ ⟨some 1, none, .box 0 8 (tm 0)⟩, oi 2 0] [1]) (sq (sq (rg [ ov 3 (.ld 8 true (tm 1)), oc 4 33 [(tm 3)]] [4]) (.cond (tm 4) (sq (rg [ oi 2
 0] [2]) .ret) .skip)) (sq (rg [ oi 2 300] [2]) .ret)))
theorem a19 : AOf Tryz.prog 19 c19 [.t 2] := mkA (fn := Tryz.f19) (c := Tryz.f19.body.getD .skip) (fz := []) (im := []) kp19 (by kernel_rfl) (by kernel_rfl) (by kernel_rfl) (by kernel_rfl) (by kernel_rfl)
end Go.AM
end
section
set_option maxRecDepth 20000
set_option linter.all false
namespace Go.AM
open Go.Proofs
def kp92 (r : Nat) : List Nat := match r with
  | 0 => [0, 6, 7, 8]
  | 1 => [0, 6, 7, 8, 9]
  | 2 => [0, 5, 6, 7, 8]
  | 3 => [0, 5, 6, 7, 8, 13]
  | 4 => [0, 6, 7, 8]
  | 5 => [0, 6, 7, 8]
  | 6 => [0, 6, 7, 8]
  | _ => []
def c92 : ACode :=
(sq (rg [ om 6 1, on 7 6, oi 8 0] [0, 6, 7, 8]) (.block 0 (.loop (sq (rg [ ov 9 (.icmp .lss .i64 (tm 8) (tm 7))] [0, 6, 7, 8, 9]) (sq (.cond (tm 9)
 .skip (.exit 0)) (sq (.block 1 (sq (rg [ oa 10 1 6 8, ol 11 10, om 5 11] [0, 5, 6, 7, 8]) (sq (rg [ om 12 5, oc 13 36 [(tm 12)]] [0, 5, 6, 7, 8, 13])
 (.cond (tm 13) (.reg 12 [ om 14 0, om 15 0, ov 16 (.nilc (tm 15)), of 17 0 16, ol 18 17, om 19 5, ov 20 (.build [z0, zr, z0, z0] [(0, 1, (ci 1)), (1,
 1, (tm 19))]), ov 21 (.bs 4 1 (.agg [z0, zr, z0, z0]) [(0, (tm 20))]), ⟨some 22, none, .app 8 4 40 (tm 18) (tm 21) false⟩, ov 23 (.nilc (tm 14)), of
 24 0 23, ⟨none, none, .st 1 (tm 24) (tm 22)⟩] [0, 6, 7, 8]) (.reg 12 [ om 25 0, om 26 0, ov 27 (.nilc (tm 26)), of 28 0 27, ol 29 28, om 30 5, ov 31
 (.build [z0, zr, z0, z0] [(0, 1, (ci 3)), (1, 1, (tm 30))]), ov 32 (.bs 4 1 (.agg [z0, zr, z0, z0]) [(0, (tm 31))]), ⟨some 33, none, .app 8 4 40 (tm
 29) (tm 32) false⟩, ov 34 (.nilc (tm 25)), of 35 0 34, ⟨none, none, .st 1 (tm 35) (tm 33)⟩] [0, 6, 7, 8]))))) (rg [ ov 36 (.arith .add .i64 (tm 8) (ci
 1)), om 8 36] [0, 6, 7, 8])))))))
theorem a92 : AOf Tryz.prog 92 c92 [] := mkA (fn := Tryz.f92) (c := Tryz.f92.body.getD .skip) (fz := []) (im := []) kp92 (by kernel_rfl) (by kernel_rfl) (by kernel_rfl) (by kernel_rfl) (by kernel_rfl)
def kp93 (r : Nat) : List Nat := match r with
  | 0 => []
  | _ => []
def c93 : ACode :=
(.reg 12 [ om 4 0, om 5 0, ov 6 (.nilc (tm 5)), of 7 0 6, ol 8 7, om 9 1, ov 10 (.build [z0, zr, z0, z0] [(0, 1, (ci 2)), (2, 1, (tm 9))]), ov 11 (.bs
 4 1 (.agg [z0, zr, z0, z0]) [(0, (tm 10))]), ⟨some 12, none, .app 8 4 40 (tm 8) (tm 11) false⟩, ov 13 (.nilc (tm 4)), of 14 0 13, ⟨none, none, .st 1
 (tm 14) (tm 12)⟩] [])
theorem a93 : AOf Tryz.prog 93 c93 [] := mkA (fn := Tryz.f93) (c := Tryz.f93.body.getD .skip) (fz := []) (im := []) kp93 (by kernel_rfl) (by kernel_rfl) (by kernel_rfl) (by kernel_rfl) (by kernel_rfl)
def kp94 (r : Nat) : List Nat := match r with
  | 0 => [0, 1, 8, 9, 10]
  | 1 => [0, 1, 8, 9, 10, 11]
  | 2 => [0, 1, 6, 7, 8, 9, 10]
  | 3 => [0, 1, 7, 8, 9, 10, 16]
  | 4 => [0, 1, 7, 8, 9, 10]
  | 5 => [0, 1, 8, 9, 10]
  | 6 => [0, 1, 8, 9, 10]
  | _ => []
def c94 : ACode :=
(sq (rg [ om 8 2, on 9 8, oi 10 0] [0, 1, 8, 9, 10]) (.block 0 (.loop (sq (rg [ ov 11 (.icmp .lss .i64 (tm 10) (tm 9))] [0, 1, 8, 9, 10, 11]) (sq
 (.cond (tm 11) .skip (.exit 0)) (sq (.block 1 (sq (rg [ om 12 10, oa 13 1 8 10, ol 14 13, om 6 12, om 7 14] [0, 1, 6, 7, 8, 9, 10]) (sq (sq (rg [ om
 15 6, ov 16 (.icmp .gtr .i64 (tm 15) (ci 0))] [0, 1, 7, 8, 9, 10, 16]) (.cond (tm 16) (rg [ om 17 0, ov 18 (.bs 1 1 zr [(0, (.c (.str [44])))]), oe 19
 92 [(tm 17), (tm 18)]] [0, 1, 7, 8, 9, 10]) .skip)) (rg [ om 20 0, om 21 1, om 22 7, oa 23 1 21 22, ol 24 23, ov 25 (.bs 1 1 zr [(0, (tm 24))]), oe 26
 92 [(tm 20), (tm 25)]] [0, 1, 8, 9, 10])))) (rg [ ov 27 (.arith .add .i64 (tm 10) (ci 1)), om 10 27] [0, 1, 8, 9, 10])))))))
theorem a94 : AOf Tryz.prog 94 c94 [] := mkA (fn := Tryz.f94) (c := Tryz.f94.body.getD .skip) (fz := []) (im := [(4, 2), (5, 6)]) kp94 (by kernel_rfl) (by kernel_rfl) (by kernel_rfl) (by kernel_rfl) (by kernel_rfl)
def kp34 (r : Nat) : List Nat := match r with
  | 0 => [0, 3]
  | 1 => [0, 3]
  | 2 => [0, 3]
  | 3 => [0, 3]
  | 4 => [0, 3]
  | 5 => [0, 3]
  | 6 => [0, 3]
  | 7 => [0, 3]
  | 8 => [0, 3, 41, 42, 43]
  | 9 => [0, 3, 41, 42, 43, 44]
  | 10 => [0, 3, 5, 41, 42, 43]
  | 11 => [0, 3, 5, 41, 42, 43]
  | 12 => [0, 3, 5, 41, 42, 43, 61]
  | 13 => [0, 3, 5, 41, 42, 43]
  | 14 => [0, 3, 5, 41, 42, 43]
  | 15 => [0, 3, 5, 41, 42, 43, 84]
  | 16 => [0, 3, 5, 41, 42, 43]
  | 17 => [0, 3, 41, 42, 43]
  | 18 => [0, 3, 41, 42, 43]
  | 19 => [0, 3, 41, 42, 43]
  | 20 => [0, 3, 99, 100, 101]
  | 21 => [0, 3, 99, 100, 101, 102]
  | 22 => [0, 3, 7, 99, 100, 101]
  | 23 => [0, 3, 7, 99, 100, 101]
  | 24 => [0, 3, 99, 100, 101]
  | 25 => [0, 3, 99, 100, 101]
  | 26 => [0, 3, 99, 100, 101]
  | 27 => []
  | _ => []
def c34 : ACode :=
(sq (.reg 1 [ ⟨some 3, none, .box 0 8 (tm 1)⟩] [0, 3]) (sq (rg [ om 8 0, of 9 0 3, ol 10 9, ov 11 (.bs 1 3 zr [(0, (.c (.str [108, 101, 109, 109,
 97]))), (1, (tm 10)), (2, (.c (.str [108, 101, 118, 101, 108])))]), oe 12 92 [(tm 8), (tm 11)]] [0, 3]) (sq (rg [ om 13 0, of 14 1 3, ol 15 14, oe 16
 93 [(tm 13), (tm 15)]] [0, 3]) (sq (rg [ om 17 0, ov 18 (.bs 1 2 zr [(0, (.c (.str [123]))), (1, (.c (.str [99, 101, 108, 108, 115])))]), oe 19 92
 [(tm 17), (tm 18)]] [0, 3]) (sq (rg [ om 20 0, of 21 2 3, ol 22 21, of 23 2 3, ol 24 23, oc 25 95 [(tm 24)], oe 26 94 [(tm 20), (tm 22), (tm 25)]] [0,
 3]) (sq (rg [ om 27 0, ov 28 (.bs 1 2 zr [(0, (.c (.str [59]))), (1, (.c (.str [108, 101, 116, 116, 101, 114, 115])))]), oe 29 92 [(tm 27), (tm 28)]]
 [0, 3]) (sq (rg [ om 30 0, of 31 3 3, ol 32 31, of 33 3 3, ol 34 33, oc 35 95 [(tm 34)], oe 36 94 [(tm 30), (tm 32), (tm 35)]] [0, 3]) (sq (rg [ om 37
 0, ov 38 (.bs 1 1 zr [(0, (.c (.str [59])))]), oe 39 92 [(tm 37), (tm 38)]] [0, 3]) (sq (sq (rg [ of 40 4 3, ol 41 40, on 42 41, oi 43 0] [0, 3, 41,
 42, 43]) (.block 0 (.loop (sq (rg [ ov 44 (.icmp .lss .i64 (tm 43) (tm 42))] [0, 3, 41, 42, 43, 44]) (sq (.cond (tm 44) .skip (.exit 0)) (sq (.block 1
 (sq (.reg 4 [ oa 45 4 41 43, ov 46 (.ld 4 true (tm 45)), ⟨some 5, none, .alloc 2 [z0, zs, zs, z0]⟩, ⟨none, none, .st 4 (tm 5) (tm 46)⟩] [0, 3, 5, 41,
 42, 43]) (sq (rg [ om 47 0, ov 48 (.build [zr, zr, zr, zr, zr, zr, zr] [(1, 1, (.c (.str [100, 105, 102, 102, 101, 114, 101, 110, 116]))), (2, 1, (.c
 (.str [104, 111, 109, 101]))), (3, 1, (.c (.str [97, 112, 97, 114, 116]))), (4, 1, (.c (.str [114, 105, 115, 101]))), (5, 1, (.c (.str [110, 101, 97,
 114]))), (6, 1, (.c (.str [113, 117, 111, 116, 97])))]), of 49 0 5, ol 50 49, ov 51 (.ixA 7 1 false (tm 48) (tm 50)), ov 52 (.bs 1 1 zr [(0, (tm
 51))]), oe 53 92 [(tm 47), (tm 52)]] [0, 3, 5, 41, 42, 43]) (sq (sq (rg [ of 54 0 5, ol 55 54, ov 56 (.icmp .eql .i64 (tm 55) (ci 3)), om 57 56, gf 58
 57 false 0 5, gl 59 57 false 58, gv 60 57 false (.icmp .eql .i64 (tm 59) (ci 6)), oz 61 57 60] [0, 3, 5, 41, 42, 43, 61]) (.cond (tm 61) (rg [ om 62
 0, of 63 3 5, ol 64 63, oe 65 93 [(tm 62), (tm 64)]] [0, 3, 5, 41, 42, 43]) .skip)) (sq (rg [ om 66 0, of 67 3 3, ol 68 67, of 69 2 5, ol 70 69, oe 71
 94 [(tm 66), (tm 68), (tm 70)]] [0, 3, 5, 41, 42, 43]) (sq (sq (rg [ of 72 0 5, ol 73 72, ov 74 (.icmp .eql .i64 (tm 73) (ci 3)), om 75 74, gf 76 75
 false 0 5, gl 77 75 false 76, gv 78 75 false (.icmp .eql .i64 (tm 77) (ci 6)), oz 79 75 78, om 80 79, gf 81 80 false 0 5, gl 82 80 false 81, gv 83 80
 false (.icmp .eql .i64 (tm 82) (ci 2)), oz 84 80 83] [0, 3, 5, 41, 42, 43, 84]) (.cond (tm 84) (rg [ om 85 0, ov 86 (.bs 1 1 zr [(0, (.c (.str
 [58])))]), oe 87 92 [(tm 85), (tm 86)]] [0, 3, 5, 41, 42, 43]) .skip)) (sq (rg [ om 88 0, of 89 2 3, ol 90 89, of 91 1 5, ol 92 91, oe 93 94 [(tm 88),
 (tm 90), (tm 92)]] [0, 3, 41, 42, 43]) (rg [ om 94 0, ov 95 (.bs 1 1 zr [(0, (.c (.str [59])))]), oe 96 92 [(tm 94), (tm 95)]] [0, 3, 41, 42,
 43])))))))) (rg [ ov 97 (.arith .add .i64 (tm 43) (ci 1)), om 43 97] [0, 3, 41, 42, 43]))))))) (sq (sq (rg [ of 98 5 3, ol 99 98, on 100 99, oi 101 0]
 [0, 3, 99, 100, 101]) (.block 2 (.loop (sq (rg [ ov 102 (.icmp .lss .i64 (tm 101) (tm 100))] [0, 3, 99, 100, 101, 102]) (sq (.cond (tm 102) .skip
 (.exit 2)) (sq (.block 3 (sq (.reg 4 [ oa 103 2 99 101, ov 104 (.ld 2 true (tm 103)), ⟨some 7, none, .alloc 2 [z0, zs]⟩, ⟨none, none, .st 2 (tm 7) (tm
 104)⟩] [0, 3, 7, 99, 100, 101]) (sq (rg [ om 105 0, of 106 2 3, ol 107 106, of 108 0 7, ol 109 108, oa 110 1 107 109, ol 111 110, ov 112 (.bs 1 3 zr
 [(0, (.c (.str [111, 110, 108, 121]))), (1, (tm 111)), (2, (.c (.str [58])))]), oe 113 92 [(tm 105), (tm 112)]] [0, 3, 7, 99, 100, 101]) (sq (rg [ om
 114 0, of 115 3 3, ol 116 115, of 117 1 7, ol 118 117, oe 119 94 [(tm 114), (tm 116), (tm 118)]] [0, 3, 99, 100, 101]) (rg [ om 120 0, ov 121 (.bs 1 1
 zr [(0, (.c (.str [59])))]), oe 122 92 [(tm 120), (tm 121)]] [0, 3, 99, 100, 101]))))) (rg [ ov 123 (.arith .add .i64 (tm 101) (ci 1)), om 101 123]
 [0, 3, 99, 100, 101]))))))) (rg [ om 124 0, of 125 2 3, ol 126 125, of 127 6 3, ol 128 127, oa 129 1 126 128, ol 130 129, of 131 3 3, ol 132 131, of
 133 7 3, ol 134 133, oa 135 1 132 134, ol 136 135, ov 137 (.bs 1 5 zr [(0, (.c (.str [108, 97, 99, 107, 115]))), (1, (tm 130)), (2, (tm 136)), (3, (.c
 (.str [59]))), (4, (.c (.str [125])))]), oe 138 92 [(tm 124), (tm 137)]] [])))))))))))
theorem a34 : AOf Tryz.prog 34 c34 [] := mkA (fn := Tryz.f34) (c := Tryz.f34.body.getD .skip) (fz := []) (im := [(1, 4), (2, 3), (3, 2), (4, 6), (5, 2), (6, 6), (7, 2), (11, 6), (13, 3), (14, 5), (16, 2), (17, 5), (18, 2), (23, 8), (24, 5), (25, 2), (27, 14)]) kp34 (by kernel_rfl) (by kernel_rfl) (by kernel_rfl) (by kernel_rfl) (by kernel_rfl)
def kp16 (r : Nat) : List Nat := match r with
  | 0 => [0]
  | 1 => [0, 9]
  | 2 => [2, 3]
  | 3 => [0, 4]
  | 4 => [4, 10, 11, 12]
  | 5 => [4, 10, 11, 12, 13]
  | 6 => [4, 6, 10, 11, 12]
  | 7 => [4, 6, 10, 11, 12, 18]
  | 8 => [2, 3]
  | 9 => [4, 10, 11, 12]
  | 10 => [4, 10, 11, 12]
  | 11 => [2, 3]
  | _ => []
def c16 : ACode :=
(sq (rg [ ov 2 (.mv (.c zr)), oi 3 0] [0]) (sq (sq (rg [ om 7 0, on 8 7, ov 9 (.icmp .gtr .i64 (tm 8) (ci 16))] [0, 9]) (.cond (tm 9) (sq (rg [ ov 2
 (.mv (.c zr)), oi 3 2] [2, 3]) .ret) .skip)) (sq (.reg 1 [ ⟨some 4, none, .alloc 0 [zs]⟩] [0, 4]) (sq (sq (rg [ om 10 0, on 11 10, oi 12 0] [4, 10,
 11, 12]) (.block 0 (.loop (sq (rg [ ov 13 (.icmp .lss .i64 (tm 12) (tm 11))] [4, 10, 11, 12, 13]) (sq (.cond (tm 13) .skip (.exit 0)) (sq (.block 1
 (sq (.reg 4 [ oa 14 8 10 12, ov 15 (.ld 8 true (tm 14)), ⟨some 6, none, .alloc 2 [zr, z0, zs, zs, zs, zs, z0, z0]⟩, ⟨none, none, .st 8 (tm 6) (tm
 15)⟩] [4, 6, 10, 11, 12]) (sq (sq (rg [ ov 16 (.ld 8 true (tm 6)), oc 17 18 [(tm 16)], ov 18 (.icmp .neq .i64 (tm 17) (ci 0))] [4, 6, 10, 11, 12, 18])
 (.cond (tm 18) (sq (rg [ ov 2 (.mv (.c zr)), oi 3 300] [2, 3]) .ret) .skip)) (rg [ ov 19 (.ld 8 true (tm 6)), oe 20 34 [(tm 4), (tm 19)]] [4, 10, 11,
 12])))) (rg [ ov 21 (.arith .add .i64 (tm 12) (ci 1)), om 12 21] [4, 10, 11, 12]))))))) (sq (rg [ of 22 0 4, ol 23 22, oc 24 23 [(tm 23)], ox 25 0 24,
 ox 26 1 24, om 2 25, om 3 26] [2, 3]) .ret)))))
theorem l16 : Callable Tryz.prog 16 := ⟨Tryz.f16, by kernel_rfl, by kernel_rfl, by kernel_rfl⟩
theorem a16 : AOf Tryz.prog 16 c16 [.t 2, .t 3] := mkA (fn := Tryz.f16) (c := Tryz.f16.body.getD .skip) (fz := []) (im := [(9, 1)]) kp16 (by kernel_rfl) (by kernel_rfl) (by kernel_rfl) (by kernel_rfl) (by kernel_rfl)
def kp97 (r : Nat) : List Nat := match r with
  | 0 => [0, 1, 2]
  | 1 => [0, 1, 2, 7]
  | 2 => [0, 1, 2, 7, 11]
  | 4 => [0, 1, 2, 7, 15]
  | 5 => [0, 1, 2, 7]
  | 6 => [0, 1, 2, 7]
  | 3 => [0, 1, 2, 7]
  | 7 => [6]
  | _ => []
def c97 : ACode :=
(sq (rg [ ov 6 (.mv (.c zr))] [0, 1, 2]) (sq (sq (rg [ oi 7 0] [0, 1, 2, 7]) (.block 0 (.loop (sq (sq (rg [ om 8 7, om 9 2, on 10 9, ov 11 (.icmp .lss
 .i64 (tm 8) (tm 10))] [0, 1, 2, 7, 11]) (.cond (tm 11) .skip (.exit 0))) (sq (.block 1 (sq (sq (rg [ om 14 7, ov 15 (.icmp .gtr .i64 (tm 14) (ci 0))]
 [0, 1, 2, 7, 15]) (.cond (tm 15) (rg [ om 16 0, ov 17 (.sadd (tm 16) (.c (.str [32, 44]))), om 0 17] [0, 1, 2, 7]) .skip)) (rg [ om 18 0, ov 19 (.sadd
 (tm 18) (.c (.str [32]))), om 20 1, om 21 2, om 22 7, oa 23 1 21 22, ol 24 23, oa 25 1 20 24, ol 26 25, ov 27 (.sadd (tm 19) (tm 26)), om 0 27] [0, 1,
 2, 7]))) (rg [ om 12 7, ov 13 (.arith .add .i64 (tm 12) (ci 1)), om 7 13] [0, 1, 2, 7])))))) (sq (rg [ om 28 0, om 6 28] [6]) .ret)))
theorem a97 : AOf Tryz.prog 97 c97 [.t 6] := mkA (fn := Tryz.f97) (c := Tryz.f97.body.getD .skip) (fz := []) (im := []) kp97 (by kernel_rfl) (by kernel_rfl) (by kernel_rfl) (by kernel_rfl) (by kernel_rfl)
def kp98 (r : Nat) : List Nat := match r with
  | 0 => [0]
  | 1 => [0, 3]
  | 2 => [0, 3, 4]
  | 3 => [0, 3, 4, 9]
  | 5 => [0, 3, 4]
  | 4 => [0, 3, 4]
  | 6 => [2]
  | _ => []
def c98 : ACode :=
(sq (rg [ ov 2 (.mv (.c zs))] [0]) (sq (rg [ ov 5 (.bs 1 0 z0 []), om 3 5] [0, 3]) (sq (sq (rg [ oi 4 0] [0, 3, 4]) (.block 0 (.loop (sq (sq (rg [ om 6
 4, om 7 0, on 8 7, ov 9 (.icmp .lss .i64 (tm 6) (tm 8))] [0, 3, 4, 9]) (.cond (tm 9) .skip (.exit 0))) (sq (.block 1 (.reg 5 [ om 12 3, om 13 4, ov 14
 (.bs 1 1 z0 [(0, (tm 13))]), ⟨some 15, none, .app 3 1 8 (tm 12) (tm 14) false⟩, om 3 15] [0, 3, 4])) (rg [ om 10 4, ov 11 (.arith .add .i64 (tm 10)
 (ci 1)), om 4 11] [0, 3, 4])))))) (sq (rg [ om 16 3, om 2 16] [2]) .ret))))
theorem a98 : AOf Tryz.prog 98 c98 [.t 2] := mkA (fn := Tryz.f98) (c := Tryz.f98.body.getD .skip) (fz := []) (im := []) kp98 (by kernel_rfl) (by kernel_rfl) (by kernel_rfl) (by kernel_rfl) (by kernel_rfl)
def kp35 (r : Nat) : List Nat := match r with
  | 0 => [1]
  | 1 => [1, 3]
  | 2 => [1, 3]
  | 3 => [1, 3]
  | 4 => [1, 3, 4]
  | 5 => [1, 3, 4, 37]
  | 7 => [1, 3, 4, 5]
  | 8 => [1, 3, 4, 5, 46]
  | 9 => [1, 3, 4, 5, 46, 47]
  | 10 => [1, 3, 4, 5]
  | 11 => [1, 3, 4, 5, 46, 51]
  | 12 => [1, 3, 4, 5]
  | 13 => [1, 3, 4, 5, 46, 61]
  | 14 => [1, 3, 4, 5]
  | 15 => [1, 3, 4, 5, 46, 70]
  | 16 => [1, 3, 4, 5]
  | 17 => [1, 3, 4, 5, 46, 74]
  | 18 => [1, 3, 4, 5]
  | 19 => [1, 3, 4, 5, 78]
  | 20 => [1, 3, 4, 5]
  | 21 => [1, 3, 4]
  | 6 => [1, 3, 4]
  | 22 => [1, 3, 6]
  | 23 => [1, 3, 6, 103]
  | 25 => [1, 3, 6, 7]
  | 26 => [1, 3, 6]
  | 24 => [1, 3, 6]
  | 27 => [2]
  | _ => []
def c35 : ACode :=
(sq (.reg 2 [ ⟨some 1, none, .box 0 8 (tm 0)⟩, ov 2 (.mv (.c zr))] [1]) (sq (rg [ of 8 0 1, ol 9 8, ov 10 (.sadd (.c (.str [108, 101, 109, 109, 97,
 32])) (tm 9)), ov 11 (.sadd (tm 10) (.c (.str [32, 108, 101, 118, 101, 108, 32]))), of 12 1 1, ol 13 12, oc 14 96 [(tm 13)], ov 15 (.sadd (tm 11) (tm
 14)), ov 16 (.sadd (tm 15) (.c (.str [32, 123, 32, 99, 101, 108, 108, 115]))), om 3 16] [1, 3]) (sq (rg [ om 17 3, of 18 2 1, ol 19 18, of 20 2 1, ol
 21 20, oc 22 98 [(tm 21)], oc 23 97 [(tm 17), (tm 19), (tm 22)], ov 24 (.sadd (tm 23) (.c (.str [32, 59, 32, 108, 101, 116, 116, 101, 114, 115]))), om
 3 24] [1, 3]) (sq (rg [ om 25 3, of 26 3 1, ol 27 26, of 28 3 1, ol 29 28, oc 30 98 [(tm 29)], oc 31 97 [(tm 25), (tm 27), (tm 30)], ov 32 (.sadd (tm
 31) (.c (.str [32, 59]))), om 3 32] [1, 3]) (sq (sq (rg [ oi 4 0] [1, 3, 4]) (.block 0 (.loop (sq (sq (rg [ om 33 4, of 34 4 1, ol 35 34, on 36 35, ov
 37 (.icmp .lss .i64 (tm 33) (tm 36))] [1, 3, 4, 37]) (.cond (tm 37) .skip (.exit 0))) (sq (.block 1 (sq (.reg 7 [ of 40 4 1, ol 41 40, om 42 4, oa 43
 4 41 42, ov 44 (.ld 4 true (tm 43)), ⟨some 5, none, .alloc 5 [z0, zs, zs, z0]⟩, ⟨none, none, .st 4 (tm 5) (tm 44)⟩] [1, 3, 4, 5]) (sq (sq (rg [ of 45
 0 5, ol 46 45] [1, 3, 4, 5, 46]) (.block 2 (sq (rg [ ov 48 (.icmp .eql .i64 (tm 46) (ci 1)), om 47 48] [1, 3, 4, 5, 46, 47]) (.cond (tm 47) (rg [ om
 49 3, ov 50 (.sadd (tm 49) (.c (.str [32, 100, 105, 102, 102, 101, 114, 101, 110, 116]))), om 3 50] [1, 3, 4, 5]) (sq (rg [ ov 52 (.icmp .eql .i64 (tm
 46) (ci 2)), om 51 52] [1, 3, 4, 5, 46, 51]) (.cond (tm 51) (rg [ om 53 3, ov 54 (.sadd (tm 53) (.c (.str [32, 104, 111, 109, 101]))), of 55 3 1, ol
 56 55, of 57 2 5, ol 58 57, oc 59 97 [(tm 54), (tm 56), (tm 58)], ov 60 (.sadd (tm 59) (.c (.str [32, 58]))), om 3 60] [1, 3, 4, 5]) (sq (rg [ ov 62
 (.icmp .eql .i64 (tm 46) (ci 3)), om 61 62] [1, 3, 4, 5, 46, 61]) (.cond (tm 61) (rg [ om 63 3, ov 64 (.sadd (tm 63) (.c (.str [32, 97, 112, 97, 114,
 116, 32]))), of 65 3 5, ol 66 65, oc 67 96 [(tm 66)], ov 68 (.sadd (tm 64) (tm 67)), ov 69 (.sadd (tm 68) (.c (.str [32, 58]))), om 3 69] [1, 3, 4,
 5]) (sq (rg [ ov 71 (.icmp .eql .i64 (tm 46) (ci 4)), om 70 71] [1, 3, 4, 5, 46, 70]) (.cond (tm 70) (rg [ om 72 3, ov 73 (.sadd (tm 72) (.c (.str
 [32, 114, 105, 115, 101]))), om 3 73] [1, 3, 4, 5]) (sq (rg [ ov 75 (.icmp .eql .i64 (tm 46) (ci 5)), om 74 75] [1, 3, 4, 5, 46, 74]) (.cond (tm 74)
 (rg [ om 76 3, ov 77 (.sadd (tm 76) (.c (.str [32, 110, 101, 97, 114]))), om 3 77] [1, 3, 4, 5]) (sq (rg [ ov 79 (.icmp .eql .i64 (tm 46) (ci 6)), om
 78 79] [1, 3, 4, 5, 78]) (.cond (tm 78) (rg [ om 80 3, ov 81 (.sadd (tm 80) (.c (.str [32, 113, 117, 111, 116, 97, 32]))), of 82 3 5, ol 83 82, oc 84
 96 [(tm 83)], ov 85 (.sadd (tm 81) (tm 84)), of 86 3 1, ol 87 86, of 88 2 5, ol 89 88, oc 90 97 [(tm 85), (tm 87), (tm 89)], ov 91 (.sadd (tm 90) (.c
 (.str [32, 58]))), om 3 91] [1, 3, 4, 5]) .skip)))))))))))))) (rg [ om 92 3, of 93 2 1, ol 94 93, of 95 1 5, ol 96 95, oc 97 97 [(tm 92), (tm 94), (tm
 96)], ov 98 (.sadd (tm 97) (.c (.str [32, 59]))), om 3 98] [1, 3, 4])))) (rg [ om 38 4, ov 39 (.arith .add .i64 (tm 38) (ci 1)), om 4 39] [1, 3,
 4])))))) (sq (sq (rg [ oi 6 0] [1, 3, 6]) (.block 3 (.loop (sq (sq (rg [ om 99 6, of 100 5 1, ol 101 100, on 102 101, ov 103 (.icmp .lss .i64 (tm 99)
 (tm 102))] [1, 3, 6, 103]) (.cond (tm 103) .skip (.exit 3))) (sq (.block 4 (sq (.reg 7 [ of 106 5 1, ol 107 106, om 108 6, oa 109 2 107 108, ov 110
 (.ld 2 true (tm 109)), ⟨some 7, none, .alloc 5 [z0, zs]⟩, ⟨none, none, .st 2 (tm 7) (tm 110)⟩] [1, 3, 6, 7]) (rg [ om 111 3, ov 112 (.sadd (tm 111)
 (.c (.str [32, 111, 110, 108, 121, 32]))), of 113 2 1, ol 114 113, of 115 0 7, ol 116 115, oa 117 1 114 116, ol 118 117, ov 119 (.sadd (tm 112) (tm
 118)), ov 120 (.sadd (tm 119) (.c (.str [32, 58]))), of 121 3 1, ol 122 121, of 123 1 7, ol 124 123, oc 125 97 [(tm 120), (tm 122), (tm 124)], ov 126
 (.sadd (tm 125) (.c (.str [32, 59]))), om 3 126] [1, 3, 6]))) (rg [ om 104 6, ov 105 (.arith .add .i64 (tm 104) (ci 1)), om 6 105] [1, 3, 6])))))) (sq
 (rg [ om 127 3, ov 128 (.sadd (tm 127) (.c (.str [32, 108, 97, 99, 107, 115, 32]))), of 129 2 1, ol 130 129, of 131 6 1, ol 132 131, oa 133 1 130 132,
 ol 134 133, ov 135 (.sadd (tm 128) (tm 134)), ov 136 (.sadd (tm 135) (.c (.str [32]))), of 137 3 1, ol 138 137, of 139 7 1, ol 140 139, oa 141 1 138
 140, ol 142 141, ov 143 (.sadd (tm 136) (tm 142)), ov 144 (.sadd (tm 143) (.c (.str [32, 59, 32, 125]))), om 2 144] [2]) .ret)))))))
theorem a35 : AOf Tryz.prog 35 c35 [.t 2] := mkA (fn := Tryz.f35) (c := Tryz.f35.body.getD .skip) (fz := []) (im := []) kp35 (by kernel_rfl) (by kernel_rfl) (by kernel_rfl) (by kernel_rfl) (by kernel_rfl)
def kp17 (r : Nat) : List Nat := match r with
  | 0 => [0]
  | 1 => [0, 8]
  | 2 => [2, 3]
  | 3 => [0, 4]
  | 4 => [0, 4, 5]
  | 5 => [0, 4, 5, 12]
  | 7 => [0, 4, 5, 20]
  | 8 => [2, 3]
  | 9 => [0, 4, 5, 22]
  | 10 => [0, 4, 5]
  | 11 => [0, 4, 5]
  | 6 => [0, 4, 5]
  | 12 => [2, 3]
  | _ => []
def c17 : ACode :=
(sq (rg [ ov 2 (.mv (.c zr)), oi 3 0] [0]) (sq (sq (rg [ om 6 0, on 7 6, ov 8 (.icmp .gtr .i64 (tm 7) (ci 16))] [0, 8]) (.cond (tm 8) (sq (rg [ ov 2
 (.mv (.c zr)), oi 3 2] [2, 3]) .ret) .skip)) (sq (rg [ ov 4 (.mv (.c zr))] [0, 4]) (sq (sq (rg [ oi 5 0] [0, 4, 5]) (.block 0 (.loop (sq (sq (rg [ om
 9 5, om 10 0, on 11 10, ov 12 (.icmp .lss .i64 (tm 9) (tm 11))] [0, 4, 5, 12]) (.cond (tm 12) .skip (.exit 0))) (sq (.block 1 (sq (sq (rg [ om 15 0,
 om 16 5, oa 17 8 15 16, ov 18 (.ld 8 true (tm 17)), oc 19 33 [(tm 18)], ot 20 19] [0, 4, 5, 20]) (.cond (tm 20) (sq (rg [ ov 2 (.mv (.c zr)), oi 3
 300] [2, 3]) .ret) .skip)) (sq (sq (rg [ om 21 5, ov 22 (.icmp .gtr .i64 (tm 21) (ci 0))] [0, 4, 5, 22]) (.cond (tm 22) (rg [ om 23 4, ov 24 (.sadd
 (tm 23) (.c (.str [32]))), om 4 24] [0, 4, 5]) .skip)) (rg [ om 25 4, om 26 0, om 27 5, oa 28 8 26 27, ov 29 (.ld 8 true (tm 28)), oc 30 35 [(tm 29)],
 ov 31 (.sadd (tm 25) (tm 30)), om 4 31] [0, 4, 5])))) (rg [ om 13 5, ov 14 (.arith .add .i64 (tm 13) (ci 1)), om 5 14] [0, 4, 5])))))) (sq (rg [ om 32
 4, om 2 32, oi 3 0] [2, 3]) .ret)))))
theorem a17 : AOf Tryz.prog 17 c17 [.t 2, .t 3] := mkA (fn := Tryz.f17) (c := Tryz.f17.body.getD .skip) (fz := []) (im := []) kp17 (by kernel_rfl) (by kernel_rfl) (by kernel_rfl) (by kernel_rfl) (by kernel_rfl)
def kp46 (r : Nat) : List Nat := match r with
  | 0 => [0, 1]
  | 1 => [0, 1, 10]
  | 2 => [4]
  | 3 => [0, 1, 5]
  | 4 => [0, 1, 5, 14]
  | 6 => [0, 1, 5, 25]
  | 7 => [4]
  | 5 => [0, 1, 5]
  | 8 => [4]
  | _ => []
def c46 : ACode :=
(sq (rg [ ob 4 false] [0, 1]) (sq (sq (rg [ om 6 0, on 7 6, om 8 1, on 9 8, ov 10 (.icmp .neq .i64 (tm 7) (tm 9))] [0, 1, 10]) (.cond (tm 10) (sq (rg [
 ob 4 false] [4]) .ret) .skip)) (sq (sq (rg [ oi 5 0] [0, 1, 5]) (.block 0 (.loop (sq (sq (rg [ om 11 5, om 12 0, on 13 12, ov 14 (.icmp .lss .i64 (tm
 11) (tm 13))] [0, 1, 5, 14]) (.cond (tm 14) .skip (.exit 0))) (sq (.block 1 (sq (rg [ om 17 0, om 18 5, oa 19 1 17 18, ol 20 19, om 21 1, om 22 5, oa
 23 1 21 22, ol 24 23, ov 25 (.scmp .neq (tm 20) (tm 24))] [0, 1, 5, 25]) (.cond (tm 25) (sq (rg [ ob 4 false] [4]) .ret) .skip))) (rg [ om 15 5, ov 16
 (.arith .add .i64 (tm 15) (ci 1)), om 5 16] [0, 1, 5])))))) (sq (rg [ ob 4 true] [4]) .ret))))
theorem a46 : AOf Tryz.prog 46 c46 [.t 4] := mkA (fn := Tryz.f46) (c := Tryz.f46.body.getD .skip) (fz := []) (im := []) kp46 (by kernel_rfl) (by kernel_rfl) (by kernel_rfl) (by kernel_rfl) (by kernel_rfl)
def kp48 (r : Nat) : List Nat := match r with
  | 0 => [0, 1]
  | 1 => [0, 1, 10]
  | 2 => [4]
  | 3 => [0, 1, 5]
  | 4 => [0, 1, 5, 14]
  | 6 => [0, 1, 5, 25]
  | 7 => [4]
  | 5 => [0, 1, 5]
  | 8 => [4]
  | _ => []
def c48 : ACode :=
(sq (rg [ ob 4 false] [0, 1]) (sq (sq (rg [ om 6 0, on 7 6, om 8 1, on 9 8, ov 10 (.icmp .neq .i64 (tm 7) (tm 9))] [0, 1, 10]) (.cond (tm 10) (sq (rg [
 ob 4 false] [4]) .ret) .skip)) (sq (sq (rg [ oi 5 0] [0, 1, 5]) (.block 0 (.loop (sq (sq (rg [ om 11 5, om 12 0, on 13 12, ov 14 (.icmp .lss .i64 (tm
 11) (tm 13))] [0, 1, 5, 14]) (.cond (tm 14) .skip (.exit 0))) (sq (.block 1 (sq (rg [ om 17 0, om 18 5, oa 19 1 17 18, ol 20 19, om 21 1, om 22 5, oa
 23 1 21 22, ol 24 23, ov 25 (.icmp .neq .i64 (tm 20) (tm 24))] [0, 1, 5, 25]) (.cond (tm 25) (sq (rg [ ob 4 false] [4]) .ret) .skip))) (rg [ om 15 5,
 ov 16 (.arith .add .i64 (tm 15) (ci 1)), om 5 16] [0, 1, 5])))))) (sq (rg [ ob 4 true] [4]) .ret))))
theorem a48 : AOf Tryz.prog 48 c48 [.t 4] := mkA (fn := Tryz.f48) (c := Tryz.f48.body.getD .skip) (fz := []) (im := []) kp48 (by kernel_rfl) (by kernel_rfl) (by kernel_rfl) (by kernel_rfl) (by kernel_rfl)
def kp47 (r : Nat) : List Nat := match r with
  | 0 => [2, 3]
  | 1 => [4]
  | _ => []
def c47 : ACode :=
(sq (.reg 3 [ ⟨some 2, none, .box 0 4 (tm 0)⟩, ⟨some 3, none, .box 1 4 (tm 1)⟩, ob 4 false] [2, 3]) (sq (rg [ of 5 0 2, ol 6 5, of 7 0 3, ol 8 7, ov 9
 (.icmp .eql .i64 (tm 6) (tm 8)), om 10 9, gf 11 10 true 3 2, gl 12 10 true 11, gf 13 10 true 3 3, gl 14 10 true 13, gv 15 10 true (.icmp .eql .i64 (tm
 12) (tm 14)), oy 16 10 15, om 17 16, gf 18 17 true 1 2, gl 19 17 true 18, gf 20 17 true 1 3, gl 21 17 true 20, ⟨some 22, some (17, true), .call true
 (.c (.fn (.func 48) [] [])) [(tm 19), (tm 21)]⟩, oy 23 17 22, om 24 23, gf 25 24 true 2 2, gl 26 24 true 25, gf 27 24 true 2 3, gl 28 24 true 27,
 ⟨some 29, some (24, true), .call true (.c (.fn (.func 48) [] [])) [(tm 26), (tm 28)]⟩, oy 30 24 29, om 4 30] [4]) .ret))
theorem a47 : AOf Tryz.prog 47 c47 [.t 4] := mkA (fn := Tryz.f47) (c := Tryz.f47.body.getD .skip) (fz := []) (im := []) kp47 (by kernel_rfl) (by kernel_rfl) (by kernel_rfl) (by kernel_rfl) (by kernel_rfl)
def kp21 (r : Nat) : List Nat := match r with
  | 0 => [2, 3]
  | 1 => [2, 3, 66]
  | 2 => [4]
  | 3 => [2, 3, 5]
  | 4 => [2, 3, 5, 71]
  | 6 => [2, 3, 5, 85]
  | 7 => [4]
  | 5 => [2, 3, 5]
  | 8 => [2, 3, 6]
  | 9 => [2, 3, 6, 90]
  | 11 => [2, 3, 6, 121]
  | 12 => [4]
  | 10 => [2, 3, 6]
  | 13 => [4]
  | _ => []
def c21 : ACode :=
(sq (.reg 3 [ ⟨some 2, none, .box 0 8 (tm 0)⟩, ⟨some 3, none, .box 1 8 (tm 1)⟩, ob 4 false] [2, 3]) (sq (sq (rg [ of 7 0 2, ol 8 7, of 9 0 3, ol 10 9,
 ov 11 (.scmp .neq (tm 8) (tm 10)), om 12 11, gf 13 12 false 1 2, gl 14 12 false 13, gf 15 12 false 1 3, gl 16 12 false 15, gv 17 12 false (.icmp .neq
 .i64 (tm 14) (tm 16)), oz 18 12 17, om 19 18, gf 20 19 false 2 2, gl 21 19 false 20, gf 22 19 false 2 3, gl 23 19 false 22, ⟨some 24, some (19,
 false), .call true (.c (.fn (.func 46) [] [])) [(tm 21), (tm 23)]⟩, gv 25 19 false (.not (tm 24)), oz 26 19 25, om 27 26, gf 28 27 false 3 2, gl 29 27
 false 28, gf 30 27 false 3 3, gl 31 27 false 30, ⟨some 32, some (27, false), .call true (.c (.fn (.func 46) [] [])) [(tm 29), (tm 31)]⟩, gv 33 27
 false (.not (tm 32)), oz 34 27 33, om 35 34, gf 36 35 false 4 2, gl 37 35 false 36, gv 38 35 false (.len (tm 37)), gf 39 35 false 4 3, gl 40 35 false
 39, gv 41 35 false (.len (tm 40)), gv 42 35 false (.icmp .neq .i64 (tm 38) (tm 41)), oz 43 35 42, om 44 43, gf 45 44 false 5 2, gl 46 44 false 45, gv
 47 44 false (.len (tm 46)), gf 48 44 false 5 3, gl 49 44 false 48, gv 50 44 false (.len (tm 49)), gv 51 44 false (.icmp .neq .i64 (tm 47) (tm 50)), oz
 52 44 51, om 53 52, gf 54 53 false 6 2, gl 55 53 false 54, gf 56 53 false 6 3, gl 57 53 false 56, gv 58 53 false (.icmp .neq .i64 (tm 55) (tm 57)), oz
 59 53 58, om 60 59, gf 61 60 false 7 2, gl 62 60 false 61, gf 63 60 false 7 3, gl 64 60 false 63, gv 65 60 false (.icmp .neq .i64 (tm 62) (tm 64)), oz
 66 60 65] [2, 3, 66]) (.cond (tm 66) (sq (rg [ ob 4 false] [4]) .ret) .skip)) (sq (sq (rg [ oi 5 0] [2, 3, 5]) (.block 0 (.loop (sq (sq (rg [ om 67 5,
 of 68 4 2, ol 69 68, on 70 69, ov 71 (.icmp .lss .i64 (tm 67) (tm 70))] [2, 3, 5, 71]) (.cond (tm 71) .skip (.exit 0))) (sq (.block 1 (sq (rg [ of 74
 4 2, ol 75 74, om 76 5, oa 77 4 75 76, ov 78 (.ld 4 true (tm 77)), of 79 4 3, ol 80 79, om 81 5, oa 82 4 80 81, ov 83 (.ld 4 true (tm 82)), oc 84 47
 [(tm 78), (tm 83)], ot 85 84] [2, 3, 5, 85]) (.cond (tm 85) (sq (rg [ ob 4 false] [4]) .ret) .skip))) (rg [ om 72 5, ov 73 (.arith .add .i64 (tm 72)
 (ci 1)), om 5 73] [2, 3, 5])))))) (sq (sq (rg [ oi 6 0] [2, 3, 6]) (.block 2 (.loop (sq (sq (rg [ om 86 6, of 87 5 2, ol 88 87, on 89 88, ov 90 (.icmp
 .lss .i64 (tm 86) (tm 89))] [2, 3, 6, 90]) (.cond (tm 90) .skip (.exit 2))) (sq (.block 3 (sq (rg [ of 93 5 2, ol 94 93, om 95 6, oa 96 2 94 95, of 97
 0 96, ol 98 97, of 99 5 3, ol 100 99, om 101 6, oa 102 2 100 101, of 103 0 102, ol 104 103, ov 105 (.icmp .neq .i64 (tm 98) (tm 104)), om 106 105, gf
 107 106 false 5 2, gl 108 106 false 107, gm 109 106 false 6, ga 110 106 false 2 108 109, gf 111 106 false 1 110, gl 112 106 false 111, gf 113 106
 false 5 3, gl 114 106 false 113, gm 115 106 false 6, ga 116 106 false 2 114 115, gf 117 106 false 1 116, gl 118 106 false 117, ⟨some 119, some (106,
 false), .call true (.c (.fn (.func 48) [] [])) [(tm 112), (tm 118)]⟩, gv 120 106 false (.not (tm 119)), oz 121 106 120] [2, 3, 6, 121]) (.cond (tm
 121) (sq (rg [ ob 4 false] [4]) .ret) .skip))) (rg [ om 91 6, ov 92 (.arith .add .i64 (tm 91) (ci 1)), om 6 92] [2, 3, 6])))))) (sq (rg [ ob 4 true]
 [4]) .ret)))))
theorem l21 : Callable Tryz.prog 21 := ⟨Tryz.f21, by kernel_rfl, by kernel_rfl, by kernel_rfl⟩
theorem a21 : AOf Tryz.prog 21 c21 [.t 4] := mkA (fn := Tryz.f21) (c := Tryz.f21.body.getD .skip) (fz := []) (im := []) kp21 (by kernel_rfl) (by kernel_rfl) (by kernel_rfl) (by kernel_rfl) (by kernel_rfl)
def kp13 (r : Nat) : List Nat := match r with
  | 0 => [0, 1]
  | 1 => [0, 1, 10]
  | 2 => [4]
  | 3 => [0, 1, 5]
  | 4 => [0, 1, 5, 14]
  | 6 => [0, 1, 5, 26]
  | 7 => [4]
  | 5 => [0, 1, 5]
  | 8 => [4]
  | _ => []
def c13 : ACode :=
(sq (rg [ ob 4 false] [0, 1]) (sq (sq (rg [ om 6 0, on 7 6, om 8 1, on 9 8, ov 10 (.icmp .neq .i64 (tm 7) (tm 9))] [0, 1, 10]) (.cond (tm 10) (sq (rg [
 ob 4 false] [4]) .ret) .skip)) (sq (sq (rg [ oi 5 0] [0, 1, 5]) (.block 0 (.loop (sq (sq (rg [ om 11 5, om 12 0, on 13 12, ov 14 (.icmp .lss .i64 (tm
 11) (tm 13))] [0, 1, 5, 14]) (.cond (tm 14) .skip (.exit 0))) (sq (.block 1 (sq (rg [ om 17 0, om 18 5, oa 19 8 17 18, ov 20 (.ld 8 true (tm 19)), om
 21 1, om 22 5, oa 23 8 21 22, ov 24 (.ld 8 true (tm 23)), oc 25 21 [(tm 20), (tm 24)], ot 26 25] [0, 1, 5, 26]) (.cond (tm 26) (sq (rg [ ob 4 false]
 [4]) .ret) .skip))) (rg [ om 15 5, ov 16 (.arith .add .i64 (tm 15) (ci 1)), om 5 16] [0, 1, 5])))))) (sq (rg [ ob 4 true] [4]) .ret))))
theorem a13 : AOf Tryz.prog 13 c13 [.t 4] := mkA (fn := Tryz.f13) (c := Tryz.f13.body.getD .skip) (fz := []) (im := []) kp13 (by kernel_rfl) (by kernel_rfl) (by kernel_rfl) (by kernel_rfl) (by kernel_rfl)
def kp15 (r : Nat) : List Nat := match r with
  | 0 => [1]
  | 1 => [1, 26]
  | 2 => [2]
  | 3 => [1, 3]
  | 4 => [1, 3, 31]
  | 6 => [1, 3, 51]
  | 7 => [2]
  | 5 => [1, 3]
  | 8 => [1, 4]
  | 9 => [1, 4, 56]
  | 11 => [1, 4, 66]
  | 12 => [2]
  | 10 => [1, 4]
  | 13 => [2]
  | _ => []
def c15 : ACode :=
(sq (.reg 2 [ ⟨some 1, none, .box 0 8 (tm 0)⟩, ob 2 false] [1]) (sq (sq (rg [ of 5 2 1, ol 6 5, on 7 6, ov 8 (.icmp .gtr .i64 (tm 7) (ci 10)), om 9 8,
 gf 10 9 false 3 1, gl 11 9 false 10, gv 12 9 false (.len (tm 11)), gv 13 9 false (.icmp .gtr .i64 (tm 12) (ci 10)), oz 14 9 13, om 15 14, gf 16 15
 false 4 1, gl 17 15 false 16, gv 18 15 false (.len (tm 17)), gv 19 15 false (.icmp .gtr .i64 (tm 18) (ci 10)), oz 20 15 19, om 21 20, gf 22 21 false 5
 1, gl 23 21 false 22, gv 24 21 false (.len (tm 23)), gv 25 21 false (.icmp .gtr .i64 (tm 24) (ci 10)), oz 26 21 25] [1, 26]) (.cond (tm 26) (sq (rg [
 ob 2 false] [2]) .ret) .skip)) (sq (sq (rg [ oi 3 0] [1, 3]) (.block 0 (.loop (sq (sq (rg [ om 27 3, of 28 4 1, ol 29 28, on 30 29, ov 31 (.icmp .lss
 .i64 (tm 27) (tm 30))] [1, 3, 31]) (.cond (tm 31) .skip (.exit 0))) (sq (.block 1 (sq (rg [ of 34 4 1, ol 35 34, om 36 3, oa 37 4 35 36, of 38 1 37,
 ol 39 38, on 40 39, ov 41 (.icmp .gtr .i64 (tm 40) (ci 10)), om 42 41, gf 43 42 false 4 1, gl 44 42 false 43, gm 45 42 false 3, ga 46 42 false 4 44
 45, gf 47 42 false 2 46, gl 48 42 false 47, gv 49 42 false (.len (tm 48)), gv 50 42 false (.icmp .gtr .i64 (tm 49) (ci 10)), oz 51 42 50] [1, 3, 51])
 (.cond (tm 51) (sq (rg [ ob 2 false] [2]) .ret) .skip))) (rg [ om 32 3, ov 33 (.arith .add .i64 (tm 32) (ci 1)), om 3 33] [1, 3])))))) (sq (sq (rg [
 oi 4 0] [1, 4]) (.block 2 (.loop (sq (sq (rg [ om 52 4, of 53 5 1, ol 54 53, on 55 54, ov 56 (.icmp .lss .i64 (tm 52) (tm 55))] [1, 4, 56]) (.cond (tm
 56) .skip (.exit 2))) (sq (.block 3 (sq (rg [ of 59 5 1, ol 60 59, om 61 4, oa 62 2 60 61, of 63 1 62, ol 64 63, on 65 64, ov 66 (.icmp .gtr .i64 (tm
 65) (ci 10))] [1, 4, 66]) (.cond (tm 66) (sq (rg [ ob 2 false] [2]) .ret) .skip))) (rg [ om 57 4, ov 58 (.arith .add .i64 (tm 57) (ci 1)), om 4 58]
 [1, 4])))))) (sq (rg [ ob 2 true] [2]) .ret)))))
theorem a15 : AOf Tryz.prog 15 c15 [.t 2] := mkA (fn := Tryz.f15) (c := Tryz.f15.body.getD .skip) (fz := []) (im := []) kp15 (by kernel_rfl) (by kernel_rfl) (by kernel_rfl) (by kernel_rfl) (by kernel_rfl)
def kp14 (r : Nat) : List Nat := match r with
  | 0 => [0]
  | 1 => [0, 3]
  | 2 => [0, 3, 11]
  | 4 => [0, 3, 19]
  | 5 => [2]
  | 3 => [0, 3]
  | 6 => [2]
  | _ => []
def c14 : ACode :=
(sq (rg [ ob 2 false] [0]) (sq (sq (rg [ oi 3 0] [0, 3]) (.block 0 (.loop (sq (sq (rg [ om 4 3, om 5 0, on 6 5, ov 7 (.icmp .lss .i64 (tm 4) (tm 6)),
 om 8 7, gm 9 8 true 3, gv 10 8 true (.icmp .lss .i64 (tm 9) (ci 20)), oy 11 8 10] [0, 3, 11]) (.cond (tm 11) .skip (.exit 0))) (sq (.block 1 (sq (rg [
 om 14 0, om 15 3, oa 16 8 14 15, ov 17 (.ld 8 true (tm 16)), oc 18 15 [(tm 17)], ot 19 18] [0, 3, 19]) (.cond (tm 19) (sq (rg [ ob 2 false] [2]) .ret)
 .skip))) (rg [ om 12 3, ov 13 (.arith .add .i64 (tm 12) (ci 1)), om 3 13] [0, 3])))))) (sq (rg [ om 20 0, on 21 20, ov 22 (.icmp .leq .i64 (tm 21) (ci
 20)), om 2 22] [2]) .ret)))
theorem a14 : AOf Tryz.prog 14 c14 [.t 2] := mkA (fn := Tryz.f14) (c := Tryz.f14.body.getD .skip) (fz := []) (im := []) kp14 (by kernel_rfl) (by kernel_rfl) (by kernel_rfl) (by kernel_rfl) (by kernel_rfl)
end Go.AM
end
section
set_option maxRecDepth 20000
set_option linter.all false
namespace Go.AM
open Go.Proofs
def kp25 (r : Nat) : List Nat := match r with
  | 0 => [0, 1]
  | 1 => [4]
  | _ => []
def c25 : ACode :=
(sq (rg [ ov 4 (.mv (.c zr))] [0, 1]) (sq (rg [ om 5 0, ov 6 (.sadd (.c (.str [108, 101, 109, 109, 97, 32, 97, 32, 108, 101, 118, 101, 108, 32])) (tm
 5)), ov 7 (.sadd (tm 6) (.c (.str [32, 123, 32, 99, 101, 108, 108, 115, 32, 112, 59, 32, 108, 101, 116, 116, 101, 114, 115, 32, 120, 59, 32]))), om 8
 1, ov 9 (.sadd (tm 7) (tm 8)), ov 10 (.sadd (tm 9) (.c (.str [125]))), om 4 10] [4]) .ret))
theorem a25 : AOf Tryz.prog 25 c25 [.t 4] := mkA (fn := Tryz.f25) (c := Tryz.f25.body.getD .skip) (fz := []) (im := []) kp25 (by kernel_rfl) (by kernel_rfl) (by kernel_rfl) (by kernel_rfl) (by kernel_rfl)
def kp10 (r : Nat) : List Nat := match r with
  | 0 => []
  | 1 => [1, 2, 3]
  | 2 => [1, 2, 3, 4, 5]
  | 3 => [1, 2, 3, 4, 5, 6, 8]
  | 4 => [1, 2, 3, 4, 5, 6, 8, 9, 11]
  | 5 => [1, 2, 3, 4, 5, 6, 8, 9, 11, 13, 14]
  | 6 => [1, 2, 3, 4, 5, 6, 8, 9, 11, 13, 14, 16, 17]
  | 7 => [1, 2, 3, 4, 5, 6, 8, 9, 11, 13, 14, 16, 17, 19, 20]
  | 8 => [1, 2, 3, 4, 5, 6, 8, 9, 11, 13, 14, 16, 17, 19, 20, 22, 23]
  | 9 => [1, 2, 3, 4, 5, 6, 8, 9, 11, 13, 14, 16, 17, 19, 20, 22, 23, 24]
  | 10 => [1, 4, 9, 19, 24, 138]
  | 11 => [0]
  | 12 => [0]
  | _ => []
def c10 : ACode :=
(sq (rg [ ob 0 false] []) (sq (rg [ oc 26 11 [(.c (.str [108, 101, 109, 109, 97, 32, 115, 105, 110, 103, 108, 101, 32, 108, 101, 118, 101, 108, 32, 49,
 32, 123, 32, 99, 101, 108, 108, 115, 32, 112, 44, 32, 113, 59, 32, 108, 101, 116, 116, 101, 114, 115, 32, 120, 59, 32, 100, 105, 102, 102, 101, 114,
 101, 110, 116, 32, 112, 44, 32, 113, 59, 32, 111, 110, 108, 121, 32, 112, 58, 32, 120, 59, 32, 108, 97, 99, 107, 115, 32, 113, 32, 120, 59, 32,
 125]))], om 25 26, ox 27 0 25, ox 28 1 25, ox 29 2 25, om 1 27, om 2 28, om 3 29] [1, 2, 3]) (sq (rg [ om 31 1, oc 32 16 [(tm 31)], om 30 32, ox 33 0
 30, ox 34 1 30, om 4 33, om 5 34] [1, 2, 3, 4, 5]) (sq (rg [ oc 36 11 [(.c zr)], om 35 36, ox 37 0 35, ox 38 1 35, ox 39 2 35, om 6 37, om 7 38, om 8
 39] [1, 2, 3, 4, 5, 6, 8]) (sq (rg [ oc 41 25 [(.c (.str [49])), (.c (.str [108, 97, 99, 107, 115, 32, 112, 32, 120, 59, 32]))], oc 42 11 [(tm 41)],
 om 40 42, ox 43 0 40, ox 44 1 40, ox 45 2 40, om 9 43, om 10 44, om 11 45] [1, 2, 3, 4, 5, 6, 8, 9, 11]) (sq (rg [ oc 47 25 [(.c (.str [49])), (.c
 (.str [108, 97, 99, 107, 115, 32, 113, 32, 120, 59, 32]))], oc 48 11 [(tm 47)], om 46 48, ox 49 0 46, ox 50 1 46, ox 51 2 46, om 12 49, om 13 50, om
 14 51] [1, 2, 3, 4, 5, 6, 8, 9, 11, 13, 14]) (sq (rg [ oc 53 25 [(.c (.str [57])), (.c (.str [108, 97, 99, 107, 115, 32, 112, 32, 120, 59, 32]))], oc
 54 11 [(tm 53)], om 52 54, ox 55 0 52, ox 56 1 52, ox 57 2 52, om 15 55, om 16 56, om 17 57] [1, 2, 3, 4, 5, 6, 8, 9, 11, 13, 14, 16, 17]) (sq (rg [
 oc 59 25 [(.c (.str [49])), (.c zr)], oc 60 11 [(tm 59)], om 58 60, ox 61 0 58, ox 62 1 58, ox 63 2 58, om 18 61, om 19 62, om 20 63] [1, 2, 3, 4, 5,
 6, 8, 9, 11, 13, 14, 16, 17, 19, 20]) (sq (rg [ oc 65 11 [(.c (.str [108, 101, 109, 109, 97, 32, 97]))], om 64 65, ox 66 0 64, ox 67 1 64, ox 68 2 64,
 om 21 66, om 22 67, om 23 68] [1, 2, 3, 4, 5, 6, 8, 9, 11, 13, 14, 16, 17, 19, 20, 22, 23]) (sq (.reg 11 [ ov 69 (.bs 1 2 zr [(0, (.c (.str [112]))),
 (1, (.c (.str [113])))]), ov 70 (.bs 1 1 zr [(0, (.c (.str [120])))]), ov 71 (.bs 1 2 z0 [(0, (ci 0)), (1, (ci 1))]), ov 72 (.build [z0, zs, zs, z0]
 [(0, 1, (ci 1)), (1, 1, (tm 71))]), ov 73 (.bs 4 1 (.agg [z0, zs, zs, z0]) [(0, (tm 72))]), ov 74 (.bs 1 1 z0 [(0, (ci 0))]), ov 75 (.build [z0, zs]
 [(1, 1, (tm 74))]), ov 76 (.bs 2 1 (.agg [z0, zs]) [(0, (tm 75))]), ov 77 (.build [zr, z0, zs, zs, zs, zs, z0, z0] [(0, 1, (.c (.str [115, 105, 110,
 103, 108, 101]))), (1, 1, (ci 1)), (2, 1, (tm 69)), (3, 1, (tm 70)), (4, 1, (tm 73)), (5, 1, (tm 76)), (6, 1, (ci 1))]), ⟨some 24, none, .alloc 9 [zr,
 z0, zs, zs, zs, zs, z0, z0]⟩, ⟨none, none, .st 8 (tm 24) (tm 77)⟩] [1, 2, 3, 4, 5, 6, 8, 9, 11, 13, 14, 16, 17, 19, 20, 22, 23, 24]) (sq (sq (rg [ om
 78 3, ov 79 (.icmp .neq .i64 (tm 78) (ci 0)), om 80 79, gm 81 80 false 2, gv 82 80 false (.icmp .neq .i64 (tm 81) (ci 0)), oz 83 80 82, om 84 83, gm
 85 84 false 5, gv 86 84 false (.icmp .neq .i64 (tm 85) (ci 0)), oz 87 84 86, om 88 87, gm 89 88 false 8, gv 90 88 false (.icmp .neq .i64 (tm 89) (ci
 0)), oz 91 88 90, om 92 91, gm 93 92 false 11, gv 94 92 false (.icmp .neq .i64 (tm 93) (ci 0)), oz 95 92 94, om 96 95, gm 97 96 false 14, gv 98 96
 false (.icmp .neq .i64 (tm 97) (ci 160)), oz 99 96 98, om 100 99, gm 101 100 false 13, gv 102 100 false (.icmp .neq .i64 (tm 101) (ci 0)), oz 103 100
 102, om 104 103, gm 105 104 false 17, gv 106 104 false (.icmp .neq .i64 (tm 105) (ci 300)), oz 107 104 106, om 108 107, gm 109 108 false 16, gv 110
 108 false (.icmp .neq .i64 (tm 109) (ci 0)), oz 111 108 110, om 112 111, gm 113 112 false 20, gv 114 112 false (.icmp .neq .i64 (tm 113) (ci 150)), oz
 115 112 114, om 116 115, gm 117 116 false 23, gv 118 116 false (.icmp .neq .i64 (tm 117) (ci 150)), oz 119 116 118, om 120 119, gm 121 120 false 22,
 gv 122 120 false (.icmp .neq .i64 (tm 121) (ci 7)), oz 123 120 122, om 124 123, gm 125 124 false 1, gv 126 124 false (.len (tm 125)), gv 127 124 false
 (.icmp .neq .i64 (tm 126) (ci 1)), oz 128 124 127, om 129 128, gm 130 129 false 6, gv 131 129 false (.len (tm 130)), gv 132 129 false (.icmp .neq .i64
 (tm 131) (ci 0)), oz 133 129 132, om 134 133, gm 135 134 false 9, gv 136 134 false (.len (tm 135)), gv 137 134 false (.icmp .neq .i64 (tm 136) (ci
 1)), oz 138 134 137] [1, 4, 9, 19, 24, 138]) (.cond (tm 138) (sq (rg [ ob 0 false] [0]) .ret) .skip)) (sq (rg [ om 139 19, oc 140 25 [(.c (.str
 [49])), (.c zr)], ov 141 (.lenS (tm 140)), ov 142 (.arith .sub .i64 (tm 141) (ci 1)), ov 143 (.icmp .eql .i64 (tm 139) (tm 142)), om 144 143, gm 145
 144 true 1, gv 146 144 true (.ia 8 (tm 145) (ci 0)), gv 147 144 true (.ld 8 true (tm 146)), gv 148 144 true (.ld 8 true (tm 24)), ⟨some 149, some
 (144, true), .call true (.c (.fn (.func 21) [] [])) [(tm 147), (tm 148)]⟩, oy 150 144 149, om 151 150, gm 152 151 true 4, gv 153 151 true (.scmp .eql
 (tm 152) (.c (.str [108, 101, 109, 109, 97, 32, 115, 105, 110, 103, 108, 101, 32, 108, 101, 118, 101, 108, 32, 49, 32, 123, 32, 99, 101, 108, 108,
 115, 32, 112, 32, 44, 32, 113, 32, 59, 32, 108, 101, 116, 116, 101, 114, 115, 32, 120, 32, 59, 32, 100, 105, 102, 102, 101, 114, 101, 110, 116, 32,
 112, 32, 44, 32, 113, 32, 59, 32, 111, 110, 108, 121, 32, 112, 32, 58, 32, 120, 32, 59, 32, 108, 97, 99, 107, 115, 32, 113, 32, 120, 32, 59, 32,
 125]))), oy 154 151 153, om 155 154, gv 156 155 true (.ld 8 true (tm 24)), ⟨some 157, some (155, true), .call true (.c (.fn (.func 18) [] [])) [(tm
 156)]⟩, gv 158 155 true (.icmp .eql .i64 (tm 157) (ci 0)), oy 159 155 158, om 160 159, gv 161 160 true (.build [zr, z0, zs, zs, zs, zs, z0, z0] []),
 ⟨some 162, some (160, true), .call true (.c (.fn (.func 18) [] [])) [(tm 161)]⟩, gv 163 160 true (.icmp .eql .i64 (tm 162) (ci 300)), oy 164 160 163,
 om 165 164, gv 166 165 true (.ld 8 true (tm 24)), gm 167 165 true 1, gv 168 165 true (.ia 8 (tm 167) (ci 0)), gv 169 165 true (.ld 8 true (tm 168)),
 ⟨some 170, some (165, true), .call true (.c (.fn (.func 20) [] [])) [(tm 166), (tm 169)]⟩, oy 171 165 170, om 172 171, gv 173 172 true (.ld 8 true (tm
 24)), gm 174 172 true 9, gv 175 172 true (.ia 8 (tm 174) (ci 0)), gv 176 172 true (.ld 8 true (tm 175)), ⟨some 177, some (172, true), .call true (.c
 (.fn (.func 20) [] [])) [(tm 173), (tm 176)]⟩, gv 178 172 true (.not (tm 177)), oy 179 172 178, om 0 179] [0]) .ret))))))))))))
theorem a10 : AOf Tryz.prog 10 c10 [.t 0] := mkA (fn := Tryz.f10) (c := Tryz.f10.body.getD .skip) (fz := []) (im := []) kp10 (by kernel_rfl) (by kernel_rfl) (by kernel_rfl) (by kernel_rfl) (by kernel_rfl)
def kp24 (r : Nat) : List Nat := match r with
  | 0 => [1]
  | 1 => [1, 3, 4]
  | 2 => [1, 4, 5, 7]
  | 3 => [2]
  | _ => []
def c24 : ACode :=
(sq (.reg 2 [ ⟨some 1, none, .box 0 8 (tm 0)⟩, ob 2 false] [1]) (sq (rg [ ov 9 (.ld 8 true (tm 1)), ov 10 (.bs 8 1 (.agg [zr, z0, zs, zs, zs, zs, z0,
 z0]) [(0, (tm 9))]), oc 11 16 [(tm 10)], om 8 11, ox 12 0 8, ox 13 1 8, om 3 12, om 4 13] [1, 3, 4]) (sq (rg [ om 15 3, oc 16 11 [(tm 15)], om 14 16,
 ox 17 0 14, ox 18 1 14, ox 19 2 14, om 5 17, om 6 18, om 7 19] [1, 4, 5, 7]) (sq (rg [ ov 20 (.ld 8 true (tm 1)), oc 21 18 [(tm 20)], ov 22 (.icmp
 .eql .i64 (tm 21) (ci 0)), om 23 22, gm 24 23 true 4, gv 25 23 true (.icmp .eql .i64 (tm 24) (ci 0)), oy 26 23 25, om 27 26, gm 28 27 true 7, gv 29 27
 true (.icmp .eql .i64 (tm 28) (ci 0)), oy 30 27 29, om 31 30, gm 32 31 true 5, gv 33 31 true (.len (tm 32)), gv 34 31 true (.icmp .eql .i64 (tm 33)
 (ci 1)), oy 35 31 34, om 36 35, gm 37 36 true 5, gv 38 36 true (.ia 8 (tm 37) (ci 0)), gv 39 36 true (.ld 8 true (tm 38)), gv 40 36 true (.ld 8 true
 (tm 1)), ⟨some 41, some (36, true), .call true (.c (.fn (.func 21) [] [])) [(tm 39), (tm 40)]⟩, oy 42 36 41, om 2 42] [2]) .ret))))
theorem a24 : AOf Tryz.prog 24 c24 [.t 2] := mkA (fn := Tryz.f24) (c := Tryz.f24.body.getD .skip) (fz := []) (im := []) kp24 (by kernel_rfl) (by kernel_rfl) (by kernel_rfl) (by kernel_rfl) (by kernel_rfl)
def kp4 (r : Nat) : List Nat := match r with
  | 0 => [0, 4, 5]
  | 1 => [0, 4, 5, 12]
  | 2 => [6]
  | 3 => [0, 4, 5, 25]
  | 4 => [6]
  | 5 => [0, 4, 5, 7, 8]
  | 6 => [4, 5, 7, 8, 9, 10]
  | 7 => [6]
  | _ => []
def c4 : ACode :=
(sq (.reg 3 [ ⟨some 4, none, .box 0 8 (tm 1)⟩, ⟨some 5, none, .box 1 8 (tm 2)⟩, ob 6 false] [0, 4, 5]) (sq (sq (rg [ oc 11 10 [], ot 12 11] [0, 4, 5,
 12]) (.cond (tm 12) (sq (rg [ ob 6 false] [6]) .ret) .skip)) (sq (sq (rg [ om 13 0, oc 14 14 [(tm 13)], ot 15 14, om 16 15, gv 17 16 false (.ld 8 true
 (tm 4)), ⟨some 18, some (16, false), .call true (.c (.fn (.func 15) [] [])) [(tm 17)]⟩, gv 19 16 false (.not (tm 18)), oz 20 16 19, om 21 20, gv 22 21
 false (.ld 8 true (tm 5)), ⟨some 23, some (21, false), .call true (.c (.fn (.func 15) [] [])) [(tm 22)]⟩, gv 24 21 false (.not (tm 23)), oz 25 21 24]
 [0, 4, 5, 25]) (.cond (tm 25) (sq (rg [ ob 6 true] [6]) .ret) .skip)) (sq (rg [ om 27 0, oc 28 16 [(tm 27)], om 26 28, ox 29 0 26, ox 30 1 26, om 7
 29, om 8 30] [0, 4, 5, 7, 8]) (sq (rg [ om 32 0, oc 33 17 [(tm 32)], om 31 33, ox 34 0 31, ox 35 1 31, om 9 34, om 10 35] [4, 5, 7, 8, 9, 10]) (sq (rg
 [ om 36 7, om 37 9, ov 38 (.scmp .eql (tm 36) (tm 37)), om 39 38, gm 40 39 true 8, gm 41 39 true 10, gv 42 39 true (.icmp .eql .i64 (tm 40) (tm 41)),
 oy 43 39 42, om 44 43, gv 45 44 true (.ld 8 true (tm 4)), ⟨some 46, some (44, true), .call true (.c (.fn (.func 18) [] [])) [(tm 45)]⟩, gv 47 44 true
 (.ld 8 true (tm 4)), ⟨some 48, some (44, true), .call true (.c (.fn (.func 19) [] [])) [(tm 47)]⟩, gv 49 44 true (.icmp .eql .i64 (tm 46) (tm 48)), oy
 50 44 49, om 51 50, gv 52 51 true (.ld 8 true (tm 4)), gv 53 51 true (.ld 8 true (tm 5)), ⟨some 54, some (51, true), .call true (.c (.fn (.func 20) []
 [])) [(tm 52), (tm 53)]⟩, gv 55 51 true (.ld 8 true (tm 4)), gv 56 51 true (.ld 8 true (tm 5)), ⟨some 57, some (51, true), .call true (.c (.fn (.func
 21) [] [])) [(tm 55), (tm 56)]⟩, gv 58 51 true (.beq false (tm 54) (tm 57)), oy 59 51 58, om 60 59, gv 61 60 true (.ld 8 true (tm 4)), gv 62 60 true
 (.ld 8 true (tm 4)), ⟨some 63, some (60, true), .call true (.c (.fn (.func 20) [] [])) [(tm 61), (tm 62)]⟩, oy 64 60 63, om 6 64] [6]) .ret))))))
theorem l4 : Callable Tryz.prog 4 := ⟨Tryz.f4, by kernel_rfl, by kernel_rfl, by kernel_rfl⟩
theorem a4 : AOf Tryz.prog 4 c4 [.t 6] := mkA (fn := Tryz.f4) (c := Tryz.f4.body.getD .skip) (fz := []) (im := []) kp4 (by kernel_rfl) (by kernel_rfl) (by kernel_rfl) (by kernel_rfl) (by kernel_rfl)
end Go.AM
end
