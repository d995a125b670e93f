/-
  The abstract code of some functions, written by a program · The abstract code of some functions, written by a program · The abstract code of some functions, written by a program · The abstract code of some functions, written by a program · The abstract code of some functions, written by a program.
  Conditions: none beyond those of its parts.
-/
import Derived.Test.YtpdnjncfblclfaaGreatProg
import Derived.Test.YtpdnjncfblclfaaGreatB4
import Derived.KernelRfl

section
set_option maxRecDepth 20000
set_option linter.all false
namespace Go.AM
open Go.Proofs
def kp53 (r : Nat) : List Nat := match r with
  | 0 => [0, 1]
  | 1 => [0, 1, 10]
  | 2 => [4]
  | 3 => [0, 1, 12, 13]
  | 4 => [0, 1, 12, 13, 14]
  | 5 => [0, 1, 5, 12, 13]
  | 6 => [0, 1, 12, 13, 24]
  | 7 => [4]
  | 8 => [0, 1, 12, 13]
  | 9 => [4]
  | _ => []
def c53 : ACode :=
(sq (rg [ ob 4 false] [0, 1]) (sq (sq (rg [ om 6 0, on 7 6, om 8 1, on 9 8, ov 10 (.icmp .neq .i64 (tm 7) (tm 9))] [0, 1, 10]) (.cond (tm 10) (sq (rg [
 ob 4 false] [4]) .ret) .skip)) (sq (sq (rg [ om 11 0, on 12 11, oi 13 0] [0, 1, 12, 13]) (.block 0 (.loop (sq (rg [ ov 14 (.icmp .lss .i64 (tm 13) (tm
 12))] [0, 1, 12, 13, 14]) (sq (.cond (tm 14) .skip (.exit 0)) (sq (.block 1 (sq (rg [ om 15 13, om 5 15] [0, 1, 5, 12, 13]) (sq (rg [ om 16 0, om 17
 5, oa 18 1 16 17, ol 19 18, om 20 1, om 21 5, oa 22 1 20 21, ol 23 22, ov 24 (.icmp .neq .i64 (tm 19) (tm 23))] [0, 1, 12, 13, 24]) (.cond (tm 24) (sq
 (rg [ ob 4 false] [4]) .ret) .skip)))) (rg [ ov 25 (.arith .add .i64 (tm 13) (ci 1)), om 13 25] [0, 1, 12, 13]))))))) (sq (rg [ ob 4 true] [4])
 .ret))))
theorem a53 : AOf Tryz.prog 53 c53 [.t 4] := mkA (fn := Tryz.f53) (c := Tryz.f53.body.getD .skip) (fz := []) (im := []) kp53 (by kernel_rfl) (by kernel_rfl) (by kernel_rfl) (by kernel_rfl) (by kernel_rfl)
def kp55 (r : Nat) : List Nat := match r with
  | 0 => [0, 1]
  | 1 => [0, 1, 10]
  | 2 => [4]
  | 3 => [0, 1, 12, 13]
  | 4 => [0, 1, 12, 13, 14]
  | 5 => [0, 1, 5, 12, 13]
  | 6 => [0, 1, 12, 13, 24]
  | 7 => [4]
  | 8 => [0, 1, 12, 13]
  | 9 => [4]
  | _ => []
def c55 : ACode :=
(sq (rg [ ob 4 false] [0, 1]) (sq (sq (rg [ om 6 0, on 7 6, om 8 1, on 9 8, ov 10 (.icmp .neq .i64 (tm 7) (tm 9))] [0, 1, 10]) (.cond (tm 10) (sq (rg [
 ob 4 false] [4]) .ret) .skip)) (sq (sq (rg [ om 11 0, on 12 11, oi 13 0] [0, 1, 12, 13]) (.block 0 (.loop (sq (rg [ ov 14 (.icmp .lss .i64 (tm 13) (tm
 12))] [0, 1, 12, 13, 14]) (sq (.cond (tm 14) .skip (.exit 0)) (sq (.block 1 (sq (rg [ om 15 13, om 5 15] [0, 1, 5, 12, 13]) (sq (rg [ om 16 0, om 17
 5, oa 18 1 16 17, ol 19 18, om 20 1, om 21 5, oa 22 1 20 21, ol 23 22, ov 24 (.scmp .neq (tm 19) (tm 23))] [0, 1, 12, 13, 24]) (.cond (tm 24) (sq (rg
 [ ob 4 false] [4]) .ret) .skip)))) (rg [ ov 25 (.arith .add .i64 (tm 13) (ci 1)), om 13 25] [0, 1, 12, 13]))))))) (sq (rg [ ob 4 true] [4]) .ret))))
theorem a55 : AOf Tryz.prog 55 c55 [.t 4] := mkA (fn := Tryz.f55) (c := Tryz.f55.body.getD .skip) (fz := []) (im := []) kp55 (by kernel_rfl) (by kernel_rfl) (by kernel_rfl) (by kernel_rfl) (by kernel_rfl)
def kp56 (r : Nat) : List Nat := match r with
  | 0 => [0, 1]
  | 1 => [0, 1, 10]
  | 2 => [4]
  | 3 => [0, 1, 12, 13]
  | 4 => [0, 1, 12, 13, 14]
  | 5 => [0, 1, 5, 12, 13]
  | 6 => [0, 1, 12, 13, 24]
  | 7 => [4]
  | 8 => [0, 1, 12, 13]
  | 9 => [4]
  | _ => []
def c56 : ACode :=
(sq (rg [ ob 4 false] [0, 1]) (sq (sq (rg [ om 6 0, on 7 6, om 8 1, on 9 8, ov 10 (.icmp .neq .i64 (tm 7) (tm 9))] [0, 1, 10]) (.cond (tm 10) (sq (rg [
 ob 4 false] [4]) .ret) .skip)) (sq (sq (rg [ om 11 0, on 12 11, oi 13 0] [0, 1, 12, 13]) (.block 0 (.loop (sq (rg [ ov 14 (.icmp .lss .i64 (tm 13) (tm
 12))] [0, 1, 12, 13, 14]) (sq (.cond (tm 14) .skip (.exit 0)) (sq (.block 1 (sq (rg [ om 15 13, om 5 15] [0, 1, 5, 12, 13]) (sq (rg [ om 16 0, om 17
 5, oa 18 2 16 17, ov 19 (.ld 2 true (tm 18)), om 20 1, om 21 5, oa 22 2 20 21, ov 23 (.ld 2 true (tm 22)), ov 24 (.aeq true [2, 0] (tm 19) (tm 23))]
 [0, 1, 12, 13, 24]) (.cond (tm 24) (sq (rg [ ob 4 false] [4]) .ret) .skip)))) (rg [ ov 25 (.arith .add .i64 (tm 13) (ci 1)), om 13 25] [0, 1, 12,
 13]))))))) (sq (rg [ ob 4 true] [4]) .ret))))
theorem a56 : AOf Tryz.prog 56 c56 [.t 4] := mkA (fn := Tryz.f56) (c := Tryz.f56.body.getD .skip) (fz := []) (im := []) kp56 (by kernel_rfl) (by kernel_rfl) (by kernel_rfl) (by kernel_rfl) (by kernel_rfl)
def kp58 (r : Nat) : List Nat := match r with
  | 0 => [0, 1]
  | 1 => [0, 1, 10]
  | 2 => [4]
  | 3 => [0, 1, 12, 13]
  | 4 => [0, 1, 12, 13, 14]
  | 5 => [0, 1, 5, 12, 13]
  | 6 => [0, 1, 12, 13, 24]
  | 7 => [4]
  | 8 => [0, 1, 12, 13]
  | 9 => [4]
  | _ => []
def c58 : ACode :=
(sq (rg [ ob 4 false] [0, 1]) (sq (sq (rg [ om 6 0, on 7 6, om 8 1, on 9 8, ov 10 (.icmp .neq .i64 (tm 7) (tm 9))] [0, 1, 10]) (.cond (tm 10) (sq (rg [
 ob 4 false] [4]) .ret) .skip)) (sq (sq (rg [ om 11 0, on 12 11, oi 13 0] [0, 1, 12, 13]) (.block 0 (.loop (sq (rg [ ov 14 (.icmp .lss .i64 (tm 13) (tm
 12))] [0, 1, 12, 13, 14]) (sq (.cond (tm 14) .skip (.exit 0)) (sq (.block 1 (sq (rg [ om 15 13, om 5 15] [0, 1, 5, 12, 13]) (sq (rg [ om 16 0, om 17
 5, oa 18 6 16 17, ov 19 (.ld 6 true (tm 18)), om 20 1, om 21 5, oa 22 6 20 21, ov 23 (.ld 6 true (tm 22)), ov 24 (.aeq true [2, 2, 0, 0, 0, 0] (tm 19)
 (tm 23))] [0, 1, 12, 13, 24]) (.cond (tm 24) (sq (rg [ ob 4 false] [4]) .ret) .skip)))) (rg [ ov 25 (.arith .add .i64 (tm 13) (ci 1)), om 13 25] [0,
 1, 12, 13]))))))) (sq (rg [ ob 4 true] [4]) .ret))))
theorem a58 : AOf Tryz.prog 58 c58 [.t 4] := mkA (fn := Tryz.f58) (c := Tryz.f58.body.getD .skip) (fz := []) (im := []) kp58 (by kernel_rfl) (by kernel_rfl) (by kernel_rfl) (by kernel_rfl) (by kernel_rfl)
def kp52 (r : Nat) : List Nat := match r with
  | 0 => [0, 1, 2]
  | 1 => [0, 1, 2, 14]
  | 2 => [6]
  | 3 => [1, 2, 15, 16, 17]
  | 4 => [1, 2, 15, 16, 17, 18]
  | 5 => [1, 2, 7, 8, 15, 16, 17]
  | 6 => [1, 2, 8, 9, 15, 16, 17]
  | 7 => [1, 2, 15, 16, 17, 30]
  | 8 => [6]
  | 9 => [1, 2, 15, 16, 17]
  | 10 => [6]
  | _ => []
def c52 : ACode :=
(sq (rg [ ob 6 false] [0, 1, 2]) (sq (sq (rg [ om 10 0, on 11 10, om 12 1, on 13 12, ov 14 (.icmp .neq .i64 (tm 11) (tm 13))] [0, 1, 2, 14]) (.cond (tm
 14) (sq (rg [ ob 6 false] [6]) .ret) .skip)) (sq (sq (rg [ om 15 0, on 16 15, oi 17 0] [1, 2, 15, 16, 17]) (.block 0 (.loop (sq (rg [ ov 18 (.icmp
 .lss .i64 (tm 17) (tm 16))] [1, 2, 15, 16, 17, 18]) (sq (.cond (tm 18) .skip (.exit 0)) (sq (.block 1 (sq (rg [ om 19 17, oa 20 1 15 17, ol 21 20, om
 7 19, om 8 21] [1, 2, 7, 8, 15, 16, 17]) (sq (rg [ om 22 1, om 23 7, oa 24 1 22 23, ol 25 24, om 9 25] [1, 2, 8, 9, 15, 16, 17]) (sq (rg [ om 26 2, om
 27 8, om 28 9, ⟨some 29, none, .call true (tm 26) [(tm 27), (tm 28)]⟩, ot 30 29] [1, 2, 15, 16, 17, 30]) (.cond (tm 30) (sq (rg [ ob 6 false] [6])
 .ret) .skip))))) (rg [ ov 31 (.arith .add .i64 (tm 17) (ci 1)), om 17 31] [1, 2, 15, 16, 17]))))))) (sq (rg [ ob 6 true] [6]) .ret))))
theorem a52 : AOf Tryz.prog 52 c52 [.t 6] := mkA (fn := Tryz.f52) (c := Tryz.f52.body.getD .skip) (fz := []) (im := []) kp52 (by kernel_rfl) (by kernel_rfl) (by kernel_rfl) (by kernel_rfl) (by kernel_rfl)
def kp57 (r : Nat) : List Nat := match r with
  | 0 => [0, 1, 2]
  | 1 => [0, 1, 2, 14]
  | 2 => [6]
  | 3 => [1, 2, 15, 16, 17]
  | 4 => [1, 2, 15, 16, 17, 18]
  | 5 => [1, 2, 7, 8, 15, 16, 17]
  | 6 => [1, 2, 8, 9, 15, 16, 17]
  | 7 => [1, 2, 15, 16, 17, 30]
  | 8 => [6]
  | 9 => [1, 2, 15, 16, 17]
  | 10 => [6]
  | _ => []
def c57 : ACode :=
(sq (rg [ ob 6 false] [0, 1, 2]) (sq (sq (rg [ om 10 0, on 11 10, om 12 1, on 13 12, ov 14 (.icmp .neq .i64 (tm 11) (tm 13))] [0, 1, 2, 14]) (.cond (tm
 14) (sq (rg [ ob 6 false] [6]) .ret) .skip)) (sq (sq (rg [ om 15 0, on 16 15, oi 17 0] [1, 2, 15, 16, 17]) (.block 0 (.loop (sq (rg [ ov 18 (.icmp
 .lss .i64 (tm 17) (tm 16))] [1, 2, 15, 16, 17, 18]) (sq (.cond (tm 18) .skip (.exit 0)) (sq (.block 1 (sq (.reg 6 [ om 19 17, oa 20 2 15 17, ov 21
 (.ld 2 true (tm 20)), ⟨some 8, none, .alloc 3 [zr, zs]⟩, om 7 19, ⟨none, none, .st 2 (tm 8) (tm 21)⟩] [1, 2, 7, 8, 15, 16, 17]) (sq (.reg 6 [ om 22 1,
 om 23 7, oa 24 2 22 23, ov 25 (.ld 2 true (tm 24)), ⟨some 9, none, .alloc 4 [zr, zs]⟩, ⟨none, none, .st 2 (tm 9) (tm 25)⟩] [1, 2, 8, 9, 15, 16, 17])
 (sq (rg [ om 26 2, ov 27 (.ld 2 true (tm 8)), ov 28 (.ld 2 true (tm 9)), ⟨some 29, none, .call true (tm 26) [(tm 27), (tm 28)]⟩, ot 30 29] [1, 2, 15,
 16, 17, 30]) (.cond (tm 30) (sq (rg [ ob 6 false] [6]) .ret) .skip))))) (rg [ ov 31 (.arith .add .i64 (tm 17) (ci 1)), om 17 31] [1, 2, 15, 16,
 17]))))))) (sq (rg [ ob 6 true] [6]) .ret))))
theorem a57 : AOf Tryz.prog 57 c57 [.t 6] := mkA (fn := Tryz.f57) (c := Tryz.f57.body.getD .skip) (fz := []) (im := []) kp57 (by kernel_rfl) (by kernel_rfl) (by kernel_rfl) (by kernel_rfl) (by kernel_rfl)
def kp59 (r : Nat) : List Nat := match r with
  | 0 => [0, 1, 2]
  | 1 => [0, 1, 2, 14]
  | 2 => [6]
  | 3 => [1, 2, 15, 16, 17]
  | 4 => [1, 2, 15, 16, 17, 18]
  | 5 => [1, 2, 7, 8, 15, 16, 17]
  | 6 => [1, 2, 8, 9, 15, 16, 17]
  | 7 => [1, 2, 15, 16, 17, 30]
  | 8 => [6]
  | 9 => [1, 2, 15, 16, 17]
  | 10 => [6]
  | _ => []
def c59 : ACode :=
(sq (rg [ ob 6 false] [0, 1, 2]) (sq (sq (rg [ om 10 0, on 11 10, om 12 1, on 13 12, ov 14 (.icmp .neq .i64 (tm 11) (tm 13))] [0, 1, 2, 14]) (.cond (tm
 14) (sq (rg [ ob 6 false] [6]) .ret) .skip)) (sq (sq (rg [ om 15 0, on 16 15, oi 17 0] [1, 2, 15, 16, 17]) (.block 0 (.loop (sq (rg [ ov 18 (.icmp
 .lss .i64 (tm 17) (tm 16))] [1, 2, 15, 16, 17, 18]) (sq (.cond (tm 18) .skip (.exit 0)) (sq (.block 1 (sq (.reg 6 [ om 19 17, oa 20 12 15 17, ov 21
 (.ld 12 true (tm 20)), ⟨some 8, none, .alloc 3 [zr, zr, z0, z0, zs, zs, z0, z0, z0, z0, zr, z0]⟩, om 7 19, ⟨none, none, .st 12 (tm 8) (tm 21)⟩] [1, 2,
 7, 8, 15, 16, 17]) (sq (.reg 6 [ om 22 1, om 23 7, oa 24 12 22 23, ov 25 (.ld 12 true (tm 24)), ⟨some 9, none, .alloc 4 [zr, zr, z0, z0, zs, zs, z0,
 z0, z0, z0, zr, z0]⟩, ⟨none, none, .st 12 (tm 9) (tm 25)⟩] [1, 2, 8, 9, 15, 16, 17]) (sq (rg [ om 26 2, ov 27 (.ld 12 true (tm 8)), ov 28 (.ld 12 true
 (tm 9)), ⟨some 29, none, .call true (tm 26) [(tm 27), (tm 28)]⟩, ot 30 29] [1, 2, 15, 16, 17, 30]) (.cond (tm 30) (sq (rg [ ob 6 false] [6]) .ret)
 .skip))))) (rg [ ov 31 (.arith .add .i64 (tm 17) (ci 1)), om 17 31] [1, 2, 15, 16, 17]))))))) (sq (rg [ ob 6 true] [6]) .ret))))
theorem a59 : AOf Tryz.prog 59 c59 [.t 6] := mkA (fn := Tryz.f59) (c := Tryz.f59.body.getD .skip) (fz := []) (im := []) kp59 (by kernel_rfl) (by kernel_rfl) (by kernel_rfl) (by kernel_rfl) (by kernel_rfl)
def kp51 (r : Nat) : List Nat := match r with
  | 0 => [2, 3]
  | 1 => [4]
  | _ => []
def c51 : ACode :=
(sq (.reg 3 [ ⟨some 2, none, .box 0 2 (tm 0)⟩, ⟨some 3, none, .box 1 2 (tm 1)⟩, ob 4 false] [2, 3]) (sq (rg [ of 5 0 2, ol 6 5, of 7 0 3, ol 8 7, ov 9
 (.scmp .eql (tm 6) (tm 8)), om 10 9, gf 11 10 true 1 2, gl 12 10 true 11, gf 13 10 true 1 3, gl 14 10 true 13, ⟨some 15, some (10, true), .call true
 (.c (.fn (.func 52) [] [])) [(tm 12), (tm 14), (.c (.fn (.func 53) [] []))]⟩, oy 16 10 15, om 4 16] [4]) .ret))
theorem a51 : AOf Tryz.prog 51 c51 [.t 4] := mkA (fn := Tryz.f51) (c := Tryz.f51.body.getD .skip) (fz := []) (im := []) kp51 (by kernel_rfl) (by kernel_rfl) (by kernel_rfl) (by kernel_rfl) (by kernel_rfl)
def kp54 (r : Nat) : List Nat := match r with
  | 0 => [2, 3]
  | 1 => [2, 3, 5]
  | 2 => [4]
  | _ => []
def c54 : ACode :=
(sq (.reg 3 [ ⟨some 2, none, .box 0 12 (tm 0)⟩, ⟨some 3, none, .box 1 12 (tm 1)⟩, ob 4 false] [2, 3]) (sq (rg [ of 6 4 2, ol 7 6, of 8 4 3, ol 9 8, oc
 10 55 [(tm 7), (tm 9)], om 11 10, gf 12 11 true 5 2, gl 13 11 true 12, gf 14 11 true 5 3, gl 15 11 true 14, ⟨some 16, some (11, true), .call true (.c
 (.fn (.func 55) [] [])) [(tm 13), (tm 15)]⟩, oy 17 11 16, om 18 17, gf 19 18 true 0 2, gl 20 18 true 19, gf 21 18 true 0 3, gl 22 18 true 21, gv 23 18
 true (.scmp .eql (tm 20) (tm 22)), oy 24 18 23, om 25 24, gf 26 25 true 1 2, gl 27 25 true 26, gf 28 25 true 1 3, gl 29 25 true 28, gv 30 25 true
 (.scmp .eql (tm 27) (tm 29)), oy 31 25 30, om 32 31, gf 33 32 true 10 2, gl 34 32 true 33, gf 35 32 true 10 3, gl 36 32 true 35, gv 37 32 true (.scmp
 .eql (tm 34) (tm 36)), oy 38 32 37, om 5 38] [2, 3, 5]) (sq (rg [ om 39 5, om 40 39, gf 41 40 true 2 2, gl 42 40 true 41, gf 43 40 true 3 2, gl 44 40
 true 43, gf 45 40 true 6 2, gl 46 40 true 45, gf 47 40 true 7 2, gl 48 40 true 47, gf 49 40 true 8 2, gl 50 40 true 49, gf 51 40 true 9 2, gl 52 40
 true 51, gf 53 40 true 11 2, gl 54 40 true 53, gv 55 40 true (.build [z0, z0, z0, z0, z0, z0, z0] [(0, 1, (tm 42)), (1, 1, (tm 44)), (2, 1, (tm 46)),
 (3, 1, (tm 48)), (4, 1, (tm 50)), (5, 1, (tm 52)), (6, 1, (tm 54))]), gf 56 40 true 2 3, gl 57 40 true 56, gf 58 40 true 3 3, gl 59 40 true 58, gf 60
 40 true 6 3, gl 61 40 true 60, gf 62 40 true 7 3, gl 63 40 true 62, gf 64 40 true 8 3, gl 65 40 true 64, gf 66 40 true 9 3, gl 67 40 true 66, gf 68 40
 true 11 3, gl 69 40 true 68, gv 70 40 true (.build [z0, z0, z0, z0, z0, z0, z0] [(0, 1, (tm 57)), (1, 1, (tm 59)), (2, 1, (tm 61)), (3, 1, (tm 63)),
 (4, 1, (tm 65)), (5, 1, (tm 67)), (6, 1, (tm 69))]), gv 71 40 true (.aeq false [0, 0, 0, 0, 0, 0, 0] (tm 55) (tm 70)), oy 72 40 71, om 4 72] [4])
 .ret)))
theorem a54 : AOf Tryz.prog 54 c54 [.t 4] := mkA (fn := Tryz.f54) (c := Tryz.f54.body.getD .skip) (fz := []) (im := []) kp54 (by kernel_rfl) (by kernel_rfl) (by kernel_rfl) (by kernel_rfl) (by kernel_rfl)
def kp19 (r : Nat) : List Nat := match r with
  | 0 => [2, 3]
  | 1 => [2, 3, 5]
  | 2 => [2, 3, 5, 6]
  | 3 => [2, 3, 5, 6, 7]
  | 4 => [4]
  | _ => []
def c19 : ACode :=
(sq (.reg 3 [ ⟨some 2, none, .box 0 10 (tm 0)⟩, ⟨some 3, none, .box 1 10 (tm 1)⟩, ob 4 false] [2, 3]) (sq (rg [ of 8 0 2, ol 9 8, of 10 0 3, ol 11 10,
 ov 12 (.scmp .eql (tm 9) (tm 11)), om 13 12, gf 14 13 true 1 2, gl 15 13 true 14, gf 16 13 true 1 3, gl 17 13 true 16, gv 18 13 true (.icmp .eql .i64
 (tm 15) (tm 17)), oy 19 13 18, om 20 19, gf 21 20 true 2 2, gl 22 20 true 21, gf 23 20 true 2 3, gl 24 20 true 23, gv 25 20 true (.icmp .eql .i64 (tm
 22) (tm 24)), oy 26 20 25, om 27 26, gf 28 27 true 3 2, gl 29 27 true 28, gf 30 27 true 3 3, gl 31 27 true 30, gv 32 27 true (.icmp .eql .i64 (tm 29)
 (tm 31)), oy 33 27 32, om 34 33, gf 35 34 true 4 2, gl 36 34 true 35, gf 37 34 true 4 3, gl 38 34 true 37, gv 39 34 true (.icmp .eql .i64 (tm 36) (tm
 38)), oy 40 34 39, om 5 40] [2, 3, 5]) (sq (rg [ ov 6 (.mv (.c (.fn (.func 51) [] [])))] [2, 3, 5, 6]) (sq (rg [ ov 7 (.mv (.c (.fn (.func 54) []
 [])))] [2, 3, 5, 6, 7]) (sq (rg [ om 41 5, om 42 41, gf 43 42 true 5 2, gl 44 42 true 43, gf 45 42 true 5 3, gl 46 42 true 45, ⟨some 47, some (42,
 true), .call true (.c (.fn (.func 53) [] [])) [(tm 44), (tm 46)]⟩, oy 48 42 47, om 49 48, gf 50 49 true 6 2, gl 51 49 true 50, gf 52 49 true 6 3, gl
 53 49 true 52, ⟨some 54, some (49, true), .call true (.c (.fn (.func 56) [] [])) [(tm 51), (tm 53)]⟩, oy 55 49 54, om 56 55, gf 57 56 true 7 2, gl 58
 56 true 57, gf 59 56 true 7 3, gl 60 56 true 59, gm 61 56 true 6, ⟨some 62, some (56, true), .call true (.c (.fn (.func 57) [] [])) [(tm 58), (tm 60),
 (tm 61)]⟩, oy 63 56 62, om 64 63, gf 65 64 true 8 2, gl 66 64 true 65, gf 67 64 true 8 3, gl 68 64 true 67, ⟨some 69, some (64, true), .call true (.c
 (.fn (.func 58) [] [])) [(tm 66), (tm 68)]⟩, oy 70 64 69, om 71 70, gf 72 71 true 9 2, gl 73 71 true 72, gf 74 71 true 9 3, gl 75 71 true 74, gm 76 71
 true 7, ⟨some 77, some (71, true), .call true (.c (.fn (.func 59) [] [])) [(tm 73), (tm 75), (tm 76)]⟩, oy 78 71 77, om 4 78] [4]) .ret)))))
theorem a19 : AOf Tryz.prog 19 c19 [.t 4] := mkA (fn := Tryz.f19) (c := Tryz.f19.body.getD .skip) (fz := []) (im := []) kp19 (by kernel_rfl) (by kernel_rfl) (by kernel_rfl) (by kernel_rfl) (by kernel_rfl)
theorem l61 : Callable Tryz.prog 61 := ⟨Tryz.f61, by kernel_rfl, by kernel_rfl, by kernel_rfl⟩
def kp60 (r : Nat) : List Nat := match r with
  | 0 => [0]
  | 1 => [0, 4]
  | 2 => [2]
  | 3 => [2]
  | _ => []
def c60 : ACode :=
(sq (rg [ ov 2 (.mv (.c zs))] [0]) (sq (sq (rg [ om 3 0, ⟨some 4, none, .nils false (tm 3)⟩] [0, 4]) (.cond (tm 4) (sq (rg [ ov 2 (.mv (.c zs))] [2])
 .ret) .skip)) (sq (.reg 4 [ ov 5 (.bs 1 0 z0 []), om 6 0, ⟨some 7, none, .app 2 1 8 (tm 5) (tm 6) false⟩, om 2 7] [2]) .ret)))
theorem a60 : AOf Tryz.prog 60 c60 [.t 2] := mkA (fn := Tryz.f60) (c := Tryz.f60.body.getD .skip) (fz := []) (im := []) kp60 (by kernel_rfl) (by kernel_rfl) (by kernel_rfl) (by kernel_rfl) (by kernel_rfl)
def kp45 (r : Nat) : List Nat := match r with
  | 0 => [0]
  | 1 => [0, 4]
  | 2 => [2]
  | 3 => [2]
  | _ => []
def c45 : ACode :=
(sq (rg [ ov 2 (.mv (.c zs))] [0]) (sq (sq (rg [ om 3 0, ⟨some 4, none, .nils false (tm 3)⟩] [0, 4]) (.cond (tm 4) (sq (rg [ ov 2 (.mv (.c zs))] [2])
 .ret) .skip)) (sq (.reg 4 [ ov 5 (.bs 6 0 (.agg [zr, zr, z0, z0, z0, z0]) []), om 6 0, ⟨some 7, none, .appR 2 6 64 (.agg [zr, zr, z0, z0, z0, z0]) (tm
 5) (tm 6) false⟩, om 2 7] [2]) .ret)))
theorem l45 : Callable Tryz.prog 45 := ⟨Tryz.f45, by kernel_rfl, by kernel_rfl, by kernel_rfl⟩
theorem a45 : AOf Tryz.prog 45 c45 [.t 2] := mkA (fn := Tryz.f45) (c := Tryz.f45.body.getD .skip) (fz := [(3, 2)]) (im := []) kp45 (by kernel_rfl) (by kernel_rfl) (by kernel_rfl) (by kernel_rfl) (by kernel_rfl)
def kp49 (r : Nat) : List Nat := match r with
  | 0 => [0]
  | 1 => [0, 4]
  | 2 => [2]
  | 3 => [2]
  | _ => []
def c49 : ACode :=
(sq (rg [ ov 2 (.mv (.c zs))] [0]) (sq (sq (rg [ om 3 0, ⟨some 4, none, .nils false (tm 3)⟩] [0, 4]) (.cond (tm 4) (sq (rg [ ov 2 (.mv (.c zs))] [2])
 .ret) .skip)) (sq (.reg 4 [ ov 5 (.bs 12 0 (.agg [zr, zr, z0, z0, zs, zs, z0, z0, z0, z0, zr, z0]) []), om 6 0, ⟨some 7, none, .appR 2 12 152 (.agg
 [zr, zr, z0, z0, zs, zs, z0, z0, z0, z0, zr, z0]) (tm 5) (tm 6) false⟩, om 2 7] [2]) .ret)))
theorem l49 : Callable Tryz.prog 49 := ⟨Tryz.f49, by kernel_rfl, by kernel_rfl, by kernel_rfl⟩
theorem a49 : AOf Tryz.prog 49 c49 [.t 2] := mkA (fn := Tryz.f49) (c := Tryz.f49.body.getD .skip) (fz := [(3, 2)]) (im := []) kp49 (by kernel_rfl) (by kernel_rfl) (by kernel_rfl) (by kernel_rfl) (by kernel_rfl)
def kp22 (r : Nat) : List Nat := match r with
  | 0 => [0, 1, 2, 3, 8]
  | 1 => [0, 1, 2, 3, 8, 45]
  | 2 => [8, 9]
  | 3 => [0, 1, 2, 3, 8, 10]
  | 4 => [0, 1, 2, 3, 8, 10, 47, 48, 49]
  | 5 => [0, 1, 2, 3, 8, 10, 47, 48, 49, 50]
  | 6 => [0, 1, 2, 3, 8, 10, 12, 47, 48, 49]
  | 7 => [0, 1, 2, 3, 8, 12, 47, 48, 49, 62]
  | 8 => [8, 9]
  | 9 => [0, 1, 2, 3, 8, 10, 47, 48, 49]
  | 10 => [0, 1, 2, 3, 8, 10, 47, 48, 49]
  | 11 => [1, 2, 3, 8]
  | 12 => [3, 8, 74, 75]
  | 13 => [3, 8, 74, 75, 76]
  | 14 => [3, 8, 13, 74, 75]
  | 15 => [3, 8, 13, 15, 74, 75]
  | 16 => [3, 8, 13, 74, 75, 85]
  | 17 => [3, 8, 74, 75]
  | 18 => [3, 8, 74, 75]
  | 19 => [8, 9]
  | _ => []
def c22 : ACode :=
(sq (.reg 2 [ ⟨some 8, none, .alloc 0 [z0, z0, z0, zs, zs]⟩, oi 9 0] [0, 1, 2, 3, 8]) (sq (sq (rg [ om 16 0, ov 17 (.icmp .neq .i64 (tm 16) (ci 1)), om
 18 17, gm 19 18 true 0, gv 20 18 true (.icmp .neq .i64 (tm 19) (ci 2)), oy 21 18 20, om 22 21, gm 23 22 false 1, gv 24 22 false (.icmp .lss .i64 (tm
 23) (ci 1)), oz 25 22 24, om 26 25, gm 27 26 false 1, gv 28 26 false (.icmp .gtr .i64 (tm 27) (ci 16)), oz 29 26 28, om 30 29, gm 31 30 false 2, gv 32
 30 false (.icmp .lss .i64 (tm 31) (ci 1)), oz 33 30 32, om 34 33, gm 35 34 false 2, gv 36 34 false (.icmp .gtr .i64 (tm 35) (ci 16)), oz 37 34 36, om
 38 37, gm 39 38 false 3, gv 40 38 false (.len (tm 39)), gm 41 38 false 1, gm 42 38 false 2, gv 43 38 false (.arith .mul .i64 (tm 41) (tm 42)), gv 44
 38 false (.icmp .geq .i64 (tm 40) (tm 43)), oz 45 38 44] [0, 1, 2, 3, 8, 45]) (.cond (tm 45) (sq (rg [ ov 46 (.ld 5 true (tm 8)), ⟨none, none, .st 5
 (tm 8) (tm 46)⟩, oi 9 130] [8, 9]) .ret) .skip)) (sq (rg [ oi 10 (-1)] [0, 1, 2, 3, 8, 10]) (sq (sq (rg [ om 47 3, on 48 47, oi 49 0] [0, 1, 2, 3, 8,
 10, 47, 48, 49]) (.block 0 (.loop (sq (rg [ ov 50 (.icmp .lss .i64 (tm 49) (tm 48))] [0, 1, 2, 3, 8, 10, 47, 48, 49, 50]) (sq (.cond (tm 50) .skip
 (.exit 0)) (sq (.block 1 (sq (rg [ oa 51 1 47 49, ol 52 51, om 12 52] [0, 1, 2, 3, 8, 10, 12, 47, 48, 49]) (sq (sq (rg [ om 53 12, om 54 10, ov 55
 (.icmp .leq .i64 (tm 53) (tm 54)), om 56 55, gm 57 56 false 12, gm 58 56 false 1, gm 59 56 false 2, gv 60 56 false (.arith .mul .i64 (tm 58) (tm 59)),
 gv 61 56 false (.icmp .geq .i64 (tm 57) (tm 60)), oz 62 56 61] [0, 1, 2, 3, 8, 12, 47, 48, 49, 62]) (.cond (tm 62) (sq (rg [ ov 63 (.ld 5 true (tm
 8)), ⟨none, none, .st 5 (tm 8) (tm 63)⟩, oi 9 130] [8, 9]) .ret) .skip)) (rg [ om 64 12, om 10 64] [0, 1, 2, 3, 8, 10, 47, 48, 49])))) (rg [ ov 65
 (.arith .add .i64 (tm 49) (ci 1)), om 49 65] [0, 1, 2, 3, 8, 10, 47, 48, 49]))))))) (sq (rg [ om 66 0, om 67 1, om 68 2, om 69 3, oc 70 60 [(tm 69)],
 ov 71 (.build [z0, z0, z0, zs, zs] [(0, 1, (tm 66)), (1, 1, (tm 67)), (2, 1, (tm 68)), (3, 1, (tm 70))]), ⟨none, none, .st 5 (tm 8) (tm 71)⟩] [1, 2,
 3, 8]) (sq (sq (rg [ om 72 1, om 73 2, ov 74 (.arith .mul .i64 (tm 72) (tm 73)), oi 75 0] [3, 8, 74, 75]) (.block 2 (.loop (sq (rg [ ov 76 (.icmp .lss
 .i64 (tm 75) (tm 74))] [3, 8, 74, 75, 76]) (sq (.cond (tm 76) .skip (.exit 2)) (sq (.block 3 (sq (rg [ om 77 75, om 13 77] [3, 8, 13, 74, 75]) (sq (rg
 [ om 79 3, om 80 13, oc 81 61 [(tm 79), (tm 80)], om 78 81, ox 82 0 78, ox 83 1 78, om 14 82, om 15 83] [3, 8, 13, 15, 74, 75]) (sq (rg [ om 84 15, ot
 85 84] [3, 8, 13, 74, 75, 85]) (.cond (tm 85) (.reg 7 [ of 86 4 8, ol 87 86, om 88 13, ov 89 (.bs 1 1 z0 [(0, (tm 88))]), ⟨some 90, none, .app 4 1 8
 (tm 87) (tm 89) false⟩, of 91 4 8, ⟨none, none, .st 1 (tm 91) (tm 90)⟩] [3, 8, 74, 75]) .skip))))) (rg [ ov 92 (.arith .add .i64 (tm 75) (ci 1)), om
 75 92] [3, 8, 74, 75]))))))) (sq (rg [ ov 93 (.ld 5 true (tm 8)), ⟨none, none, .st 5 (tm 8) (tm 93)⟩, oi 9 0] [8, 9]) .ret)))))))
theorem a22 : AOf Tryz.prog 22 c22 [.c 8 5 true, .t 9] := mkA (fn := Tryz.f22) (c := Tryz.f22.body.getD .skip) (fz := []) (im := []) kp22 (by kernel_rfl) (by kernel_rfl) (by kernel_rfl) (by kernel_rfl) (by kernel_rfl)
def kp84 (r : Nat) : List Nat := match r with
  | 0 => [1]
  | 1 => [1, 2, 3]
  | 2 => [25]
  | 3 => [2]
  | 4 => [2]
  | _ => []
def c84 : ACode :=
(sq (.reg 2 [ ⟨some 1, none, .box 0 5 (tm 0)⟩, oi 2 0] [1]) (sq (.reg 15 [ of 5 0 1, ol 6 5, of 7 1 1, ol 8 7, of 9 2 1, ol 10 9, of 11 3 1, ol 12 11,
 oc 13 22 [(tm 6), (tm 8), (tm 10), (tm 12)], om 4 13, ox 14 0 4, ox 15 1 4, ⟨some 3, none, .alloc 12 [z0, z0, z0, zs, zs]⟩, ⟨none, none, .st 5 (tm 3)
 (tm 14)⟩, om 2 15] [1, 2, 3]) (sq (sq (rg [ om 16 2, ov 17 (.icmp .neq .i64 (tm 16) (ci 0)), om 18 17, gf 19 18 false 4 3, gl 20 18 false 19, gf 21 18
 false 4 1, gl 22 18 false 21, ⟨some 23, some (18, false), .call true (.c (.fn (.func 53) [] [])) [(tm 20), (tm 22)]⟩, gv 24 18 false (.not (tm 23)),
 oz 25 18 24] [25]) (.cond (tm 25) (sq (rg [ oi 2 130] [2]) .ret) .skip)) (sq (rg [ oi 2 0] [2]) .ret))))
theorem a84 : AOf Tryz.prog 84 c84 [.t 2] := mkA (fn := Tryz.f84) (c := Tryz.f84.body.getD .skip) (fz := []) (im := []) kp84 (by kernel_rfl) (by kernel_rfl) (by kernel_rfl) (by kernel_rfl) (by kernel_rfl)
def kp62 (r : Nat) : List Nat := match r with
  | 0 => [1, 2, 4]
  | 1 => [1, 2, 4, 21]
  | 2 => [4, 5]
  | 3 => [2, 4, 22, 23, 24]
  | 4 => [2, 4, 22, 23, 24, 25]
  | 5 => [2, 4, 7, 22, 23, 24]
  | 6 => [2, 4, 7, 8, 22, 23, 24]
  | 7 => [2, 4, 7, 8, 9, 22, 23, 24]
  | 8 => [2, 4, 8, 9, 22, 23, 24, 29, 30, 31]
  | 9 => [2, 4, 8, 9, 22, 23, 24, 29, 30, 31, 32]
  | 10 => [2, 4, 8, 9, 11, 22, 23, 24, 29, 30, 31]
  | 11 => [2, 4, 8, 9, 12, 13, 22, 23, 24, 29, 30, 31]
  | 12 => [2, 4, 8, 9, 12, 22, 23, 24, 29, 30, 31, 48]
  | 13 => [4, 5]
  | 14 => [2, 4, 8, 9, 12, 22, 23, 24, 29, 30, 31]
  | 15 => [2, 4, 8, 9, 22, 23, 24, 29, 30, 31]
  | 16 => [2, 4, 8, 9, 22, 23, 24, 29, 30, 31]
  | 17 => [2, 4, 8, 22, 23, 24, 58]
  | 18 => [4, 5]
  | 19 => [2, 4, 22, 23, 24]
  | 20 => [2, 4, 22, 23, 24]
  | 21 => [4, 5]
  | _ => []
def c62 : ACode :=
(sq (.reg 3 [ ⟨some 2, none, .box 0 5 (tm 0)⟩, ov 4 (.mv (.c zs)), oi 5 0] [1, 2, 4]) (sq (sq (rg [ ov 14 (.ld 5 true (tm 2)), oc 15 84 [(tm 14)], ov
 16 (.icmp .neq .i64 (tm 15) (ci 0)), om 17 16, gm 18 17 false 1, gv 19 17 false (.len (tm 18)), gv 20 17 false (.icmp .gtr .i64 (tm 19) (ci 64)), oz
 21 17 20] [1, 2, 4, 21]) (.cond (tm 21) (sq (rg [ ov 4 (.mv (.c zs)), oi 5 130] [4, 5]) .ret) .skip)) (sq (sq (rg [ om 22 1, on 23 22, oi 24 0] [2, 4,
 22, 23, 24]) (.block 0 (.loop (sq (rg [ ov 25 (.icmp .lss .i64 (tm 24) (tm 23))] [2, 4, 22, 23, 24, 25]) (sq (.cond (tm 25) .skip (.exit 0)) (sq
 (.block 1 (sq (rg [ oa 26 1 22 24, ol 27 26, om 7 27] [2, 4, 7, 22, 23, 24]) (sq (rg [ ov 8 (.mv (.c zs))] [2, 4, 7, 8, 22, 23, 24]) (sq (.reg 2 [
 ⟨some 28, none, .ext (.mkm 0) []⟩, om 9 28] [2, 4, 7, 8, 9, 22, 23, 24]) (sq (sq (rg [ om 29 7, on 30 29, oi 31 0] [2, 4, 8, 9, 22, 23, 24, 29, 30,
 31]) (.block 2 (.loop (sq (rg [ ov 32 (.icmp .lss .i64 (tm 31) (tm 30))] [2, 4, 8, 9, 22, 23, 24, 29, 30, 31, 32]) (sq (.cond (tm 32) .skip (.exit 2))
 (sq (.block 3 (sq (rg [ oa 33 1 29 31, ol 34 33, om 11 34] [2, 4, 8, 9, 11, 22, 23, 24, 29, 30, 31]) (sq (rg [ of 36 4 2, ol 37 36, om 38 11, oc 39 61
 [(tm 37), (tm 38)], om 35 39, ox 40 0 35, ox 41 1 35, om 12 40, om 13 41] [2, 4, 8, 9, 12, 13, 22, 23, 24, 29, 30, 31]) (sq (sq (rg [ om 42 13, ot 43
 42, om 44 43, gm 45 44 false 9, gm 46 44 false 12, ⟨some 47, some (44, false), .ext (.look (.int .i64) zb false) [(tm 45), (tm 46)]⟩, oz 48 44 47] [2,
 4, 8, 9, 12, 22, 23, 24, 29, 30, 31, 48]) (.cond (tm 48) (sq (rg [ ov 4 (.mv (.c zs)), oi 5 130] [4, 5]) .ret) .skip)) (sq (rg [ om 49 9, om 50 12,
 ⟨none, none, .ext (.mput (.int .i64)) [(tm 49), (tm 50), cT]⟩] [2, 4, 8, 9, 12, 22, 23, 24, 29, 30, 31]) (.reg 5 [ om 51 8, om 52 12, ov 53 (.bs 1 1
 z0 [(0, (tm 52))]), ⟨some 54, none, .app 3 1 8 (tm 51) (tm 53) false⟩, om 8 54] [2, 4, 8, 9, 22, 23, 24, 29, 30, 31])))))) (rg [ ov 55 (.arith .add
 .i64 (tm 31) (ci 1)), om 31 55] [2, 4, 8, 9, 22, 23, 24, 29, 30, 31]))))))) (sq (sq (rg [ om 56 8, on 57 56, ov 58 (.icmp .eql .i64 (tm 57) (ci 0))]
 [2, 4, 8, 22, 23, 24, 58]) (.cond (tm 58) (sq (rg [ ov 4 (.mv (.c zs)), oi 5 130] [4, 5]) .ret) .skip)) (.reg 5 [ om 59 4, om 60 8, ov 61 (.bs 1 1 zs
 [(0, (tm 60))]), ⟨some 62, none, .app 3 1 24 (tm 59) (tm 61) false⟩, om 4 62] [2, 4, 22, 23, 24]))))))) (rg [ ov 63 (.arith .add .i64 (tm 24) (ci 1)),
 om 24 63] [2, 4, 22, 23, 24]))))))) (sq (rg [ om 64 4, om 4 64, oi 5 0] [4, 5]) .ret))))
theorem a62 : AOf Tryz.prog 62 c62 [.t 4, .t 5] := mkA (fn := Tryz.f62) (c := Tryz.f62.body.getD .skip) (fz := []) (im := []) kp62 (by kernel_rfl) (by kernel_rfl) (by kernel_rfl) (by kernel_rfl) (by kernel_rfl)
end Go.AM
end
section
set_option maxRecDepth 20000
set_option linter.all false
namespace Go.AM
open Go.Proofs
def kp41 (r : Nat) : List Nat := match r with
  | 0 => []
  | 1 => [0]
  | _ => []
def c41 : ACode :=
(sq (rg [ ov 0 (.mv (.c zs))] []) (sq (rg [ ov 1 (.bs 1 8 zr [(0, (.c (.str [99, 101, 108, 108, 115]))), (1, (.c (.str [114, 111, 119, 115]))), (2, (.c
 (.str [99, 111, 108, 117, 109, 110, 115]))), (3, (.c (.str [100, 105, 97, 103, 111, 110, 97, 108, 115]))), (4, (.c (.str [97, 114, 111, 117, 110,
 100]))), (5, (.c (.str [110, 101, 97, 114]))), (6, (.c (.str [112, 97, 105, 114, 115]))), (7, (.c (.str [97, 108, 108])))]), om 0 1] [0]) .ret))
theorem a41 : AOf Tryz.prog 41 c41 [.t 0] := mkA (fn := Tryz.f41) (c := Tryz.f41.body.getD .skip) (fz := []) (im := []) kp41 (by kernel_rfl) (by kernel_rfl) (by kernel_rfl) (by kernel_rfl) (by kernel_rfl)
def kp37 (r : Nat) : List Nat := match r with
  | 0 => [1]
  | 1 => [2]
  | _ => []
def c37 : ACode :=
(sq (.reg 2 [ ⟨some 1, none, .box 0 2 (tm 0)⟩, ov 2 (.mv (.c zr))] [1]) (sq (rg [ of 3 0 1, ol 4 3, om 2 4] [2]) .ret))
theorem a37 : AOf Tryz.prog 37 c37 [.t 2] := mkA (fn := Tryz.f37) (c := Tryz.f37.body.getD .skip) (fz := []) (im := []) kp37 (by kernel_rfl) (by kernel_rfl) (by kernel_rfl) (by kernel_rfl) (by kernel_rfl)
def kp39 (r : Nat) : List Nat := match r with
  | 0 => [1]
  | 1 => [2]
  | _ => []
def c39 : ACode :=
(sq (.reg 2 [ ⟨some 1, none, .box 0 2 (tm 0)⟩, ov 2 (.mv (.c zr))] [1]) (sq (rg [ of 3 0 1, ol 4 3, om 2 4] [2]) .ret))
theorem a39 : AOf Tryz.prog 39 c39 [.t 2] := mkA (fn := Tryz.f39) (c := Tryz.f39.body.getD .skip) (fz := []) (im := []) kp39 (by kernel_rfl) (by kernel_rfl) (by kernel_rfl) (by kernel_rfl) (by kernel_rfl)
def kp44 (r : Nat) : List Nat := match r with
  | 0 => [1]
  | 1 => [2]
  | _ => []
def c44 : ACode :=
(sq (.reg 2 [ ⟨some 1, none, .box 0 6 (tm 0)⟩, ov 2 (.mv (.c zr))] [1]) (sq (rg [ of 3 0 1, ol 4 3, om 2 4] [2]) .ret))
theorem a44 : AOf Tryz.prog 44 c44 [.t 2] := mkA (fn := Tryz.f44) (c := Tryz.f44.body.getD .skip) (fz := []) (im := []) kp44 (by kernel_rfl) (by kernel_rfl) (by kernel_rfl) (by kernel_rfl) (by kernel_rfl)
def kp48 (r : Nat) : List Nat := match r with
  | 0 => [1]
  | 1 => [2]
  | _ => []
def c48 : ACode :=
(sq (.reg 2 [ ⟨some 1, none, .box 0 12 (tm 0)⟩, ov 2 (.mv (.c zr))] [1]) (sq (rg [ of 3 0 1, ol 4 3, om 2 4] [2]) .ret))
theorem a48 : AOf Tryz.prog 48 c48 [.t 2] := mkA (fn := Tryz.f48) (c := Tryz.f48.body.getD .skip) (fz := []) (im := []) kp48 (by kernel_rfl) (by kernel_rfl) (by kernel_rfl) (by kernel_rfl) (by kernel_rfl)
def kp42 (r : Nat) : List Nat := match r with
  | 0 => [0]
  | 1 => [2]
  | _ => []
def c42 : ACode :=
(sq (rg [ ov 2 (.mv (.c zr))] [0]) (sq (rg [ om 3 0, om 2 3] [2]) .ret))
theorem a42 : AOf Tryz.prog 42 c42 [.t 2] := mkA (fn := Tryz.f42) (c := Tryz.f42.body.getD .skip) (fz := []) (im := []) kp42 (by kernel_rfl) (by kernel_rfl) (by kernel_rfl) (by kernel_rfl) (by kernel_rfl)
def kp36 (r : Nat) : List Nat := match r with
  | 0 => [0, 1, 2, 3]
  | 1 => [1, 2, 3, 13, 14, 15]
  | 2 => [1, 2, 3, 13, 14, 15, 16]
  | 3 => [1, 2, 3, 9, 10, 13, 14, 15]
  | 4 => [1, 2, 3, 9, 10, 12, 13, 14, 15]
  | 5 => [1, 2, 3, 9, 10, 13, 14, 15, 28]
  | 6 => [1, 2, 3, 9, 10, 13, 14, 15]
  | 7 => [1, 2, 3, 13, 14, 15]
  | 8 => [1, 2, 3, 13, 14, 15]
  | 9 => [8]
  | _ => []
def c36 : ACode :=
(sq (rg [ ov 8 (.mv (.c .nilmp))] [0, 1, 2, 3]) (sq (sq (rg [ om 13 0, on 14 13, oi 15 0] [1, 2, 3, 13, 14, 15]) (.block 0 (.loop (sq (rg [ ov 16
 (.icmp .lss .i64 (tm 15) (tm 14))] [1, 2, 3, 13, 14, 15, 16]) (sq (.cond (tm 16) .skip (.exit 0)) (sq (.block 1 (sq (.reg 6 [ om 17 15, oa 18 2 13 15,
 ov 19 (.ld 2 true (tm 18)), ⟨some 10, none, .alloc 3 [zr, z0]⟩, om 9 17, ⟨none, none, .st 2 (tm 10) (tm 19)⟩] [1, 2, 3, 9, 10, 13, 14, 15]) (sq (sq
 (rg [ om 21 3, om 22 2, ov 23 (.ld 2 true (tm 10)), ⟨some 24, none, .call true (tm 22) [(tm 23)]⟩, ⟨some 25, none, .ext (.look .str z0 true) [(tm 21),
 (tm 24)]⟩, om 20 25, ox 26 0 20, ox 27 1 20, om 11 26, om 12 27] [1, 2, 3, 9, 10, 12, 13, 14, 15]) (sq (rg [ om 28 12] [1, 2, 3, 9, 10, 13, 14, 15,
 28]) (.cond (tm 28) (rg [ ov 29 (.ifc 31 (ci 161)), ⟨none, none, .pan (tm 29)⟩] [1, 2, 3, 9, 10, 13, 14, 15]) .skip))) (rg [ om 30 3, om 31 2, ov 32
 (.ld 2 true (tm 10)), ⟨some 33, none, .call true (tm 31) [(tm 32)]⟩, om 34 1, om 35 9, ov 36 (.arith .add .i64 (tm 34) (tm 35)), ⟨none, none, .ext
 (.mput .str) [(tm 30), (tm 33), (tm 36)]⟩] [1, 2, 3, 13, 14, 15])))) (rg [ ov 37 (.arith .add .i64 (tm 15) (ci 1)), om 15 37] [1, 2, 3, 13, 14,
 15]))))))) (sq (rg [ om 38 3, om 8 38] [8]) .ret)))
theorem l36 : Callable Tryz.prog 36 := ⟨Tryz.f36, by kernel_rfl, by kernel_rfl, by kernel_rfl⟩
theorem a36 : AOf Tryz.prog 36 c36 [.t 8] := mkA (fn := Tryz.f36) (c := Tryz.f36.body.getD .skip) (fz := []) (im := []) kp36 (by kernel_rfl) (by kernel_rfl) (by kernel_rfl) (by kernel_rfl) (by kernel_rfl)
def kp38 (r : Nat) : List Nat := match r with
  | 0 => [0, 1, 2, 3]
  | 1 => [1, 2, 3, 13, 14, 15]
  | 2 => [1, 2, 3, 13, 14, 15, 16]
  | 3 => [1, 2, 3, 9, 10, 13, 14, 15]
  | 4 => [1, 2, 3, 9, 10, 12, 13, 14, 15]
  | 5 => [1, 2, 3, 9, 10, 13, 14, 15, 28]
  | 6 => [1, 2, 3, 9, 10, 13, 14, 15]
  | 7 => [1, 2, 3, 13, 14, 15]
  | 8 => [1, 2, 3, 13, 14, 15]
  | 9 => [8]
  | _ => []
def c38 : ACode :=
(sq (rg [ ov 8 (.mv (.c .nilmp))] [0, 1, 2, 3]) (sq (sq (rg [ om 13 0, on 14 13, oi 15 0] [1, 2, 3, 13, 14, 15]) (.block 0 (.loop (sq (rg [ ov 16
 (.icmp .lss .i64 (tm 15) (tm 14))] [1, 2, 3, 13, 14, 15, 16]) (sq (.cond (tm 16) .skip (.exit 0)) (sq (.block 1 (sq (.reg 6 [ om 17 15, oa 18 2 13 15,
 ov 19 (.ld 2 true (tm 18)), ⟨some 10, none, .alloc 3 [zr, zs]⟩, om 9 17, ⟨none, none, .st 2 (tm 10) (tm 19)⟩] [1, 2, 3, 9, 10, 13, 14, 15]) (sq (sq
 (rg [ om 21 3, om 22 2, ov 23 (.ld 2 true (tm 10)), ⟨some 24, none, .call true (tm 22) [(tm 23)]⟩, ⟨some 25, none, .ext (.look .str z0 true) [(tm 21),
 (tm 24)]⟩, om 20 25, ox 26 0 20, ox 27 1 20, om 11 26, om 12 27] [1, 2, 3, 9, 10, 12, 13, 14, 15]) (sq (rg [ om 28 12] [1, 2, 3, 9, 10, 13, 14, 15,
 28]) (.cond (tm 28) (rg [ ov 29 (.ifc 31 (ci 161)), ⟨none, none, .pan (tm 29)⟩] [1, 2, 3, 9, 10, 13, 14, 15]) .skip))) (rg [ om 30 3, om 31 2, ov 32
 (.ld 2 true (tm 10)), ⟨some 33, none, .call true (tm 31) [(tm 32)]⟩, om 34 1, om 35 9, ov 36 (.arith .add .i64 (tm 34) (tm 35)), ⟨none, none, .ext
 (.mput .str) [(tm 30), (tm 33), (tm 36)]⟩] [1, 2, 3, 13, 14, 15])))) (rg [ ov 37 (.arith .add .i64 (tm 15) (ci 1)), om 15 37] [1, 2, 3, 13, 14,
 15]))))))) (sq (rg [ om 38 3, om 8 38] [8]) .ret)))
theorem l38 : Callable Tryz.prog 38 := ⟨Tryz.f38, by kernel_rfl, by kernel_rfl, by kernel_rfl⟩
theorem a38 : AOf Tryz.prog 38 c38 [.t 8] := mkA (fn := Tryz.f38) (c := Tryz.f38.body.getD .skip) (fz := []) (im := []) kp38 (by kernel_rfl) (by kernel_rfl) (by kernel_rfl) (by kernel_rfl) (by kernel_rfl)
def kp40 (r : Nat) : List Nat := match r with
  | 0 => [0, 1, 2, 3]
  | 1 => [1, 2, 3, 13, 14, 15]
  | 2 => [1, 2, 3, 13, 14, 15, 16]
  | 3 => [1, 2, 3, 9, 10, 13, 14, 15]
  | 4 => [1, 2, 3, 9, 10, 12, 13, 14, 15]
  | 5 => [1, 2, 3, 9, 10, 13, 14, 15, 28]
  | 6 => [1, 2, 3, 9, 10, 13, 14, 15]
  | 7 => [1, 2, 3, 13, 14, 15]
  | 8 => [1, 2, 3, 13, 14, 15]
  | 9 => [8]
  | _ => []
def c40 : ACode :=
(sq (rg [ ov 8 (.mv (.c .nilmp))] [0, 1, 2, 3]) (sq (sq (rg [ om 13 0, on 14 13, oi 15 0] [1, 2, 3, 13, 14, 15]) (.block 0 (.loop (sq (rg [ ov 16
 (.icmp .lss .i64 (tm 15) (tm 14))] [1, 2, 3, 13, 14, 15, 16]) (sq (.cond (tm 16) .skip (.exit 0)) (sq (.block 1 (sq (rg [ om 17 15, oa 18 1 13 15, ol
 19 18, om 9 17, om 10 19] [1, 2, 3, 9, 10, 13, 14, 15]) (sq (sq (rg [ om 21 3, om 22 2, om 23 10, ⟨some 24, none, .call true (tm 22) [(tm 23)]⟩, ⟨some
 25, none, .ext (.look .str z0 true) [(tm 21), (tm 24)]⟩, om 20 25, ox 26 0 20, ox 27 1 20, om 11 26, om 12 27] [1, 2, 3, 9, 10, 12, 13, 14, 15]) (sq
 (rg [ om 28 12] [1, 2, 3, 9, 10, 13, 14, 15, 28]) (.cond (tm 28) (rg [ ov 29 (.ifc 31 (ci 161)), ⟨none, none, .pan (tm 29)⟩] [1, 2, 3, 9, 10, 13, 14,
 15]) .skip))) (rg [ om 30 3, om 31 2, om 32 10, ⟨some 33, none, .call true (tm 31) [(tm 32)]⟩, om 34 1, om 35 9, ov 36 (.arith .add .i64 (tm 34) (tm
 35)), ⟨none, none, .ext (.mput .str) [(tm 30), (tm 33), (tm 36)]⟩] [1, 2, 3, 13, 14, 15])))) (rg [ ov 37 (.arith .add .i64 (tm 15) (ci 1)), om 15 37]
 [1, 2, 3, 13, 14, 15]))))))) (sq (rg [ om 38 3, om 8 38] [8]) .ret)))
theorem l40 : Callable Tryz.prog 40 := ⟨Tryz.f40, by kernel_rfl, by kernel_rfl, by kernel_rfl⟩
theorem a40 : AOf Tryz.prog 40 c40 [.t 8] := mkA (fn := Tryz.f40) (c := Tryz.f40.body.getD .skip) (fz := []) (im := []) kp40 (by kernel_rfl) (by kernel_rfl) (by kernel_rfl) (by kernel_rfl) (by kernel_rfl)
def kp43 (r : Nat) : List Nat := match r with
  | 0 => [0, 1, 2, 3]
  | 1 => [1, 2, 3, 13, 14, 15]
  | 2 => [1, 2, 3, 13, 14, 15, 16]
  | 3 => [1, 2, 3, 9, 10, 13, 14, 15]
  | 4 => [1, 2, 3, 9, 10, 12, 13, 14, 15]
  | 5 => [1, 2, 3, 9, 10, 13, 14, 15, 28]
  | 6 => [1, 2, 3, 9, 10, 13, 14, 15]
  | 7 => [1, 2, 3, 13, 14, 15]
  | 8 => [1, 2, 3, 13, 14, 15]
  | 9 => [8]
  | _ => []
def c43 : ACode :=
(sq (rg [ ov 8 (.mv (.c .nilmp))] [0, 1, 2, 3]) (sq (sq (rg [ om 13 0, on 14 13, oi 15 0] [1, 2, 3, 13, 14, 15]) (.block 0 (.loop (sq (rg [ ov 16
 (.icmp .lss .i64 (tm 15) (tm 14))] [1, 2, 3, 13, 14, 15, 16]) (sq (.cond (tm 16) .skip (.exit 0)) (sq (.block 1 (sq (.reg 6 [ om 17 15, oa 18 6 13 15,
 ov 19 (.ld 6 true (tm 18)), ⟨some 10, none, .alloc 3 [zr, zr, z0, z0, z0, z0]⟩, om 9 17, ⟨none, none, .st 6 (tm 10) (tm 19)⟩] [1, 2, 3, 9, 10, 13, 14,
 15]) (sq (sq (rg [ om 21 3, om 22 2, ov 23 (.ld 6 true (tm 10)), ⟨some 24, none, .call true (tm 22) [(tm 23)]⟩, ⟨some 25, none, .ext (.look .str z0
 true) [(tm 21), (tm 24)]⟩, om 20 25, ox 26 0 20, ox 27 1 20, om 11 26, om 12 27] [1, 2, 3, 9, 10, 12, 13, 14, 15]) (sq (rg [ om 28 12] [1, 2, 3, 9,
 10, 13, 14, 15, 28]) (.cond (tm 28) (rg [ ov 29 (.ifc 31 (ci 161)), ⟨none, none, .pan (tm 29)⟩] [1, 2, 3, 9, 10, 13, 14, 15]) .skip))) (rg [ om 30 3,
 om 31 2, ov 32 (.ld 6 true (tm 10)), ⟨some 33, none, .call true (tm 31) [(tm 32)]⟩, om 34 1, om 35 9, ov 36 (.arith .add .i64 (tm 34) (tm 35)), ⟨none,
 none, .ext (.mput .str) [(tm 30), (tm 33), (tm 36)]⟩] [1, 2, 3, 13, 14, 15])))) (rg [ ov 37 (.arith .add .i64 (tm 15) (ci 1)), om 15 37] [1, 2, 3, 13,
 14, 15]))))))) (sq (rg [ om 38 3, om 8 38] [8]) .ret)))
theorem l43 : Callable Tryz.prog 43 := ⟨Tryz.f43, by kernel_rfl, by kernel_rfl, by kernel_rfl⟩
theorem a43 : AOf Tryz.prog 43 c43 [.t 8] := mkA (fn := Tryz.f43) (c := Tryz.f43.body.getD .skip) (fz := []) (im := []) kp43 (by kernel_rfl) (by kernel_rfl) (by kernel_rfl) (by kernel_rfl) (by kernel_rfl)
def kp47 (r : Nat) : List Nat := match r with
  | 0 => [0, 1, 2, 3]
  | 1 => [1, 2, 3, 13, 14, 15]
  | 2 => [1, 2, 3, 13, 14, 15, 16]
  | 3 => [1, 2, 3, 9, 10, 13, 14, 15]
  | 4 => [1, 2, 3, 9, 10, 12, 13, 14, 15]
  | 5 => [1, 2, 3, 9, 10, 13, 14, 15, 28]
  | 6 => [1, 2, 3, 9, 10, 13, 14, 15]
  | 7 => [1, 2, 3, 13, 14, 15]
  | 8 => [1, 2, 3, 13, 14, 15]
  | 9 => [8]
  | _ => []
def c47 : ACode :=
(sq (rg [ ov 8 (.mv (.c .nilmp))] [0, 1, 2, 3]) (sq (sq (rg [ om 13 0, on 14 13, oi 15 0] [1, 2, 3, 13, 14, 15]) (.block 0 (.loop (sq (rg [ ov 16
 (.icmp .lss .i64 (tm 15) (tm 14))] [1, 2, 3, 13, 14, 15, 16]) (sq (.cond (tm 16) .skip (.exit 0)) (sq (.block 1 (sq (.reg 6 [ om 17 15, oa 18 12 13
 15, ov 19 (.ld 12 true (tm 18)), ⟨some 10, none, .alloc 3 [zr, zr, z0, z0, zs, zs, z0, z0, z0, z0, zr, z0]⟩, om 9 17, ⟨none, none, .st 12 (tm 10) (tm
 19)⟩] [1, 2, 3, 9, 10, 13, 14, 15]) (sq (sq (rg [ om 21 3, om 22 2, ov 23 (.ld 12 true (tm 10)), ⟨some 24, none, .call true (tm 22) [(tm 23)]⟩, ⟨some
 25, none, .ext (.look .str z0 true) [(tm 21), (tm 24)]⟩, om 20 25, ox 26 0 20, ox 27 1 20, om 11 26, om 12 27] [1, 2, 3, 9, 10, 12, 13, 14, 15]) (sq
 (rg [ om 28 12] [1, 2, 3, 9, 10, 13, 14, 15, 28]) (.cond (tm 28) (rg [ ov 29 (.ifc 31 (ci 161)), ⟨none, none, .pan (tm 29)⟩] [1, 2, 3, 9, 10, 13, 14,
 15]) .skip))) (rg [ om 30 3, om 31 2, ov 32 (.ld 12 true (tm 10)), ⟨some 33, none, .call true (tm 31) [(tm 32)]⟩, om 34 1, om 35 9, ov 36 (.arith .add
 .i64 (tm 34) (tm 35)), ⟨none, none, .ext (.mput .str) [(tm 30), (tm 33), (tm 36)]⟩] [1, 2, 3, 13, 14, 15])))) (rg [ ov 37 (.arith .add .i64 (tm 15)
 (ci 1)), om 15 37] [1, 2, 3, 13, 14, 15]))))))) (sq (rg [ om 38 3, om 8 38] [8]) .ret)))
theorem l47 : Callable Tryz.prog 47 := ⟨Tryz.f47, by kernel_rfl, by kernel_rfl, by kernel_rfl⟩
theorem a47 : AOf Tryz.prog 47 c47 [.t 8] := mkA (fn := Tryz.f47) (c := Tryz.f47.body.getD .skip) (fz := []) (im := []) kp47 (by kernel_rfl) (by kernel_rfl) (by kernel_rfl) (by kernel_rfl) (by kernel_rfl)
def kp46 (r : Nat) : List Nat := match r with
  | 0 => [0, 1]
  | 1 => [5, 6]
  | 2 => [5, 14]
  | 3 => [5]
  | 4 => [4]
  | _ => []
def c46 : ACode :=
(sq (rg [ oi 4 0] [0, 1]) (sq (rg [ om 8 0, om 9 1, ⟨some 10, none, .ext (.look .str z0 true) [(tm 8), (tm 9)]⟩, om 7 10, ox 11 0 7, ox 12 1 7, om 5
 11, om 6 12] [5, 6]) (sq (sq (rg [ om 13 6, ot 14 13] [5, 14]) (.cond (tm 14) (rg [ ov 15 (.ifc 31 (ci 160)), ⟨none, none, .pan (tm 15)⟩] [5]) .skip))
 (sq (rg [ om 16 5, om 4 16] [4]) .ret))))
theorem a46 : AOf Tryz.prog 46 c46 [.t 4] := mkA (fn := Tryz.f46) (c := Tryz.f46.body.getD .skip) (fz := []) (im := []) kp46 (by kernel_rfl) (by kernel_rfl) (by kernel_rfl) (by kernel_rfl) (by kernel_rfl)
def kp50 (r : Nat) : List Nat := match r with
  | 0 => [0, 1, 3]
  | 1 => [1, 3, 6, 7, 8]
  | 2 => [1, 3, 6, 7, 8, 9]
  | 3 => [1, 3, 5, 6, 7, 8]
  | 4 => [1, 3, 6, 7, 8]
  | 5 => [1, 3, 6, 7, 8]
  | 6 => [3]
  | _ => []
def c50 : ACode :=
(sq (rg [ oi 3 0] [0, 1, 3]) (sq (sq (rg [ om 6 0, on 7 6, oi 8 0] [1, 3, 6, 7, 8]) (.block 0 (.loop (sq (rg [ ov 9 (.icmp .lss .i64 (tm 8) (tm 7))]
 [1, 3, 6, 7, 8, 9]) (sq (.cond (tm 9) .skip (.exit 0)) (sq (.block 1 (sq (rg [ oa 10 1 6 8, ol 11 10, om 5 11] [1, 3, 5, 6, 7, 8]) (rg [ om 12 3, ol
 13 1, om 14 5, oe 15 46 [(tm 13), (tm 14)], ov 16 (.shift .shl .i64 .i64 (ci 1) (tm 15)), ov 17 (.arith .or .i64 (tm 12) (tm 16)), om 3 17] [1, 3, 6,
 7, 8]))) (rg [ ov 18 (.arith .add .i64 (tm 8) (ci 1)), om 8 18] [1, 3, 6, 7, 8]))))))) (sq (rg [ om 19 3, om 3 19] [3]) .ret)))
theorem a50 : AOf Tryz.prog 50 c50 [.t 3] := mkA (fn := Tryz.f50) (c := Tryz.f50.body.getD .skip) (fz := []) (im := [(4, 3)]) kp50 (by kernel_rfl) (by kernel_rfl) (by kernel_rfl) (by kernel_rfl) (by kernel_rfl)
def kp35 (r : Nat) : List Nat := match r with
  | 0 => [0, 1, 2]
  | 1 => [0, 1, 2, 5]
  | 2 => []
  | _ => []
def c35 : ACode :=
(sq (rg [ om 4 2, ⟨some 5, none, .ext (.nileq 0 true) [(tm 4)]⟩] [0, 1, 2, 5]) (.cond (tm 5) (rg [ ov 6 (.build [zr, z0, z0, z0, z0, zs, zs, zs, zs,
 zs] []), om 7 2, ⟨some 8, none, .ext (.tas 31 false z0) [(tm 7)]⟩, ⟨none, none, .st 10 (tm 0) (tm 6)⟩, ⟨none, none, .st 1 (tm 1) (tm 8)⟩] []) .skip))
theorem l35 : Callable Tryz.prog 35 := ⟨Tryz.f35, by kernel_rfl, by kernel_rfl, by kernel_rfl⟩
theorem a35 {args : List AVal} {rv : AVal} {H : AHeap} {n : Nat} {Rc : AHeap → Nat → Prop} (h : awp Tryz.prog c35 (postC [] fun o H' n' => o = .ret (.tup []) ∧ Rc H' n') ⟨(2, true, rv) :: (3, true, rv) :: penv 0 args, H, n⟩) : ADefer Tryz.prog 35 args rv H n Rc :=
  adefer_of' (id := 0) (fn := Tryz.f35) (ops := regOps (sqH (Tryz.f35.body.getD .skip))) (X := sqT (Tryz.f35.body.getD .skip)) (y := c35) (fz := []) (im := []) (kp := kp35) (t3 := 2) (t4 := 3) (by kernel_rfl) (by kernel_rfl) (by kernel_rfl) (by kernel_rfl) (by kernel_rfl) (by kernel_rfl) h
def kp18 (r : Nat) : List Nat := match r with
  | 0 => [1, 2, 3]
  | 1 => [1, 2, 3]
  | 2 => [1, 2, 3, 15]
  | 3 => [2, 3]
  | 4 => [1, 2, 3, 4]
  | 5 => [1, 2, 3, 4, 5]
  | 6 => [1, 2, 3, 4, 5, 6]
  | 7 => [1, 2, 3, 4, 5, 6]
  | 8 => [1, 2, 3, 4, 5, 6, 37, 38]
  | 9 => [1, 2, 3, 4, 5, 6, 37, 38, 39]
  | 10 => [1, 2, 3, 4, 5, 6, 7, 37, 38]
  | 11 => [1, 2, 3, 4, 5, 6, 37, 38]
  | 12 => [1, 2, 3, 4, 5, 6, 37, 38]
  | 13 => [1, 2, 3, 4, 5, 6]
  | 14 => [1, 2, 3, 4, 5, 6]
  | 15 => [1, 2, 3, 5, 6, 8]
  | 16 => [1, 2, 3, 5, 6, 8, 66, 67]
  | 17 => [1, 2, 3, 5, 6, 8, 66, 67, 68]
  | 18 => [1, 2, 3, 5, 6, 8, 9, 66, 67]
  | 19 => [1, 2, 3, 5, 6, 8, 10, 66, 67]
  | 20 => [1, 2, 3, 5, 6, 8, 10, 66, 67]
  | 21 => [1, 2, 3, 5, 6, 8, 10, 66, 67, 84]
  | 22 => [1, 2, 3, 5, 6, 8, 10, 66, 67]
  | 23 => [1, 2, 3, 5, 6, 8, 10, 66, 67]
  | 24 => [1, 2, 3, 5, 6, 8, 10, 66, 67, 116]
  | 25 => [1, 2, 3, 5, 6, 8, 66, 67]
  | 26 => [1, 2, 3, 5, 6, 8, 66, 67]
  | 27 => [2, 3]
  | _ => []
def c18_0 : ACode :=
  (.reg 3 [
    ⟨some 1, none, .box 0 10 (.t 0)⟩,
    ⟨some 2, none, .alloc 1 [(.str []), (.int .i64 0), (.int .i64 0), (.int .i64 0), (.int .i64 0), (.sl .nil []), (.sl .nil []), (.sl .nil []), (.sl .nil []), (.sl .nil [])]⟩,
    ⟨some 3, none, .alloc 2 [(.int .i64 0)]⟩] [1, 2, 3])
def c18 : ACode :=
(sq (sq (rg [ of 12 6 1, ol 13 12, on 14 13, ov 15 (.icmp .gtr .i64 (tm 14) (ci 16))] [1, 2, 3, 15]) (.cond (tm 15) (sq (rg [ ov 16 (.ld 10 true (tm
 2)), ⟨none, none, .st 10 (tm 2) (tm 16)⟩, ⟨none, none, .st 1 (tm 3) (ci 2)⟩] [2, 3]) .ret) .skip)) (sq (.reg 6 [ of 17 6 1, ol 18 17, ⟨some 19, none,
 .ext (.mkm 2) []⟩, oe 20 36 [(tm 18), (ci 0), (.c (.fn (.func 37) [] [])), (tm 19)], ⟨some 4, none, .alloc 4 [.nilmp]⟩, ⟨none, none, .st 1 (tm 4) (tm
 20)⟩] [1, 2, 3, 4]) (sq (.regx 7 [ (0, of 21 7 1), (500010, ol 22 21), (0, ⟨some 23, none, .cpu (.c (.fn (.func 41) [] [])) []⟩), (0, ⟨some 24, none,
 .ext (.mkm 3) []⟩), (500009, oe 25 40 [(tm 23), (ci 0), (.c (.fn (.func 42) [] [])), (tm 24)]), (500009, oe 26 38 [(tm 22), (ci 8), (.c (.fn (.func
 39) [] [])), (tm 25)]), (0, om 5 26)] [1, 2, 3, 4, 5]) (sq (.reg 5 [ of 27 8 1, ol 28 27, ⟨some 29, none, .ext (.mkm 2) []⟩, oe 30 43 [(tm 28), (ci
 0), (.c (.fn (.func 44) [] [])), (tm 29)], om 6 30] [1, 2, 3, 4, 5, 6]) (sq (rg [ of 31 8 1, ol 32 31, oe 33 45 [(tm 32)], of 34 8 1, ⟨none, none, .st
 1 (tm 34) (tm 33)⟩] [1, 2, 3, 4, 5, 6]) (sq (sq (rg [ of 35 8 1, ol 36 35, on 37 36, oi 38 0] [1, 2, 3, 4, 5, 6, 37, 38]) (.block 0 (.loop (sq (rg [
 ov 39 (.icmp .lss .i64 (tm 38) (tm 37))] [1, 2, 3, 4, 5, 6, 37, 38, 39]) (sq (.cond (tm 39) .skip (.exit 0)) (sq (.block 1 (sq (rg [ om 40 38, om 7
 40] [1, 2, 3, 4, 5, 6, 7, 37, 38]) (.regx 0 [ (0, of 41 8 1), (300092, ol 42 41), (0, om 43 7), (0, om 44 5), (0, of 45 8 1), (300092, ol 46 45), (0,
 om 47 7), (0, oa 48 6 46 47), (0, of 49 1 48), (1, ol 50 49), (300091, oe 51 46 [(tm 44), (tm 50)]), (0, oa 52 6 42 43), (0, of 53 2 52), (0, ⟨none,
 none, .st 1 (tm 53) (tm 51)⟩)] [1, 2, 3, 4, 5, 6, 37, 38]))) (rg [ ov 54 (.arith .add .i64 (tm 38) (ci 1)), om 38 54] [1, 2, 3, 4, 5, 6, 37,
 38]))))))) (sq (.reg 4 [ of 55 9 1, ol 56 55, ⟨some 57, none, .ext (.mkm 2) []⟩, oe 58 47 [(tm 56), (ci 0), (.c (.fn (.func 48) [] [])), (tm 57)]] [1,
 2, 3, 4, 5, 6]) (sq (rg [ of 59 9 1, ol 60 59, oe 61 49 [(tm 60)], of 62 9 1, ⟨none, none, .st 1 (tm 62) (tm 61)⟩] [1, 2, 3, 4, 5, 6]) (sq (rg [ ov 63
 (.fn (.func 50) [] [(tm 4)]), om 8 63] [1, 2, 3, 5, 6, 8]) (sq (sq (rg [ of 64 9 1, ol 65 64, on 66 65, oi 67 0] [1, 2, 3, 5, 6, 8, 66, 67]) (.block 2
 (.loop (sq (rg [ ov 68 (.icmp .lss .i64 (tm 67) (tm 66))] [1, 2, 3, 5, 6, 8, 66, 67, 68]) (sq (.cond (tm 68) .skip (.exit 2)) (sq (.block 3 (sq (rg [
 om 69 67, om 9 69] [1, 2, 3, 5, 6, 8, 9, 66, 67]) (sq (rg [ of 70 9 1, ol 71 70, om 72 9, oa 73 12 71 72, om 10 73] [1, 2, 3, 5, 6, 8, 10, 66, 67])
 (sq (rg [ om 74 10, om 75 10, ov 76 (.nilc (tm 74)), of 77 3 76, ⟨none, none, .st 1 (tm 77) (ci 0)⟩, ov 78 (.nilc (tm 75)), of 79 11 78, ⟨none, none,
 .st 1 (tm 79) (ci (-1))⟩] [1, 2, 3, 5, 6, 8, 10, 66, 67]) (sq (sq (rg [ om 80 10, ov 81 (.nilc (tm 80)), of 82 1 81, ol 83 82, ov 84 (.scmp .neq (tm
 83) (.c zr))] [1, 2, 3, 5, 6, 8, 10, 66, 67, 84]) (.cond (tm 84) (rg [ om 85 10, om 86 5, om 87 10, ov 88 (.nilc (tm 87)), of 89 1 88, ol 90 89, oe 91
 46 [(tm 86), (tm 90)], ov 92 (.nilc (tm 85)), of 93 3 92, ⟨none, none, .st 1 (tm 93) (tm 91)⟩] [1, 2, 3, 5, 6, 8, 10, 66, 67]) .skip)) (sq (.regx 0 [
 (0, om 94 10), (0, om 95 10), (0, om 96 8), (0, om 97 10), (0, ov 98 (.nilc (tm 97))), (0, of 99 4 98), (1, ol 100 99), (0, om 102 8), (0, om 103 10),
 (0, ov 104 (.nilc (tm 103))), (0, of 105 5 104), (300012, ol 106 105), (300011, ⟨some 101, none, .call false (tm 96) [(tm 100)]⟩), (300011, ⟨some 107,
 none, .call false (tm 102) [(tm 106)]⟩), (0, ov 108 (.nilc (tm 94))), (0, of 109 6 108), (0, ⟨none, none, .st 1 (tm 109) (tm 101)⟩), (0, ov 110 (.nilc
 (tm 95))), (0, of 111 7 110), (0, ⟨none, none, .st 1 (tm 111) (tm 107)⟩)] [1, 2, 3, 5, 6, 8, 10, 66, 67]) (sq (rg [ om 112 10, ov 113 (.nilc (tm
 112)), of 114 10 113, ol 115 114, ov 116 (.scmp .neq (tm 115) (.c zr))] [1, 2, 3, 5, 6, 8, 10, 66, 67, 116]) (.cond (tm 116) (rg [ om 117 10, om 118
 6, om 119 10, ov 120 (.nilc (tm 119)), of 121 10 120, ol 122 121, oe 123 46 [(tm 118), (tm 122)], ov 124 (.nilc (tm 117)), of 125 11 124, ⟨none, none,
 .st 1 (tm 125) (tm 123)⟩] [1, 2, 3, 5, 6, 8, 66, 67]) .skip)))))))) (rg [ ov 126 (.arith .add .i64 (tm 67) (ci 1)), om 67 126] [1, 2, 3, 5, 6, 8, 66,
 67]))))))) (sq (rg [ ov 127 (.ld 10 true (tm 1)), ⟨none, none, .st 10 (tm 2) (tm 127)⟩, ⟨none, none, .st 1 (tm 3) (ci 0)⟩] [2, 3]) .ret)))))))))))
theorem a18 {args : List AVal} {H : AHeap} {n : Nat} {R : AOut → AHeap → Nat → Prop} (h : awp Tryz.prog (aspine [c18_0]) (postD Tryz.prog 11 ⟨(some 11), none, .v (.fn (.func 35) [] [(.t 2), (.t 3)])⟩ c18 4 35 [.c 2 10 true, .c 3 1 false] R) ⟨penv 0 args, H, n⟩) : ACalls Tryz.prog 18 args H n R :=
  acalls_defer' (id := 1) (fn := Tryz.f18) (pre := [sqH (Tryz.f18.body.getD .skip)]) (ys := [c18_0]) (ops := regOps (sqH (sqT (Tryz.f18.body.getD .skip)))) (X := (sqT (sqT (Tryz.f18.body.getD .skip)))) (y := c18) (fz := [(5, 2), (700021, 500007), (800025, 500006), (800026, 500006), (700041, 300089), (700045, 300089), (800051, 300088), (700105, 300009), (800101, 300008), (800107, 300008), (990023, 0), (990023, 1), (990023, 2), (990023, 3), (990023, 4), (990023, 5), (990023, 6), (990023, 8), (990023, 9), (990023, 10), (990023, 11), (990023, 12), (990023, 7), (990023, 13), (990023, 14), (990023, 15), (990023, 16), (990023, 17), (990023, 18), (990023, 19)]) (fzX := [(999999, 4), (5, 2), (700021, 500007), (800025, 500006), (800026, 500006), (700041, 300089), (700045, 300089), (800051, 300088), (700105, 300009), (800101, 300008), (800107, 300008), (990023, 0), (990023, 1), (990023, 2), (990023, 3), (990023, 4), (990023, 5), (990023, 6), (990023, 8), (990023, 9), (990023, 10), (990023, 11), (990023, 12), (990023, 7), (990023, 13), (990023, 14), (990023, 15), (990023, 16), (990023, 17), (990023, 18), (990023, 19)]) (im := [(5, 2), (23, 7), (23, 13), (4, 3), (5, 4), (5, 5), (6, 3), (7, 2), (11, 10), (13, 3), (14, 2), (22, 6), (25, 6)]) (kp := kp18) (rs := [.c 2 10 true, .c 3 1 false]) (d0 := (some 11)) (k := .fn (.func 35) [] [(.t 2), (.t 3)]) (t := 11) (by kernel_rfl) (by kernel_rfl) (by kernel_rfl) (by kernel_rfl) (by kernel_rfl) (by kernel_rfl) (by kernel_rfl) (by kernel_rfl) (by kernel_rfl) l35 h
end Go.AM
end
section
set_option maxRecDepth 20000
set_option linter.all false
namespace Go.AM
open Go.Proofs
def kp34 (r : Nat) : List Nat := match r with
  | 0 => [0, 2]
  | 1 => [0, 2, 3]
  | 2 => [0, 2, 3, 23]
  | 3 => [2]
  | 4 => [2]
  | _ => []
def c34 : ACode :=
(sq (.reg 1 [ ⟨some 2, none, .alloc 0 [zb, zb, zb, zb, zb, zb, zb, z0]⟩] [0, 2]) (sq (.reg 16 [ ov 4 (.build [zb, zb, zb, zb, zb, zb, zb, z0] [(0, 1,
 cT), (5, 1, cT), (6, 1, cT)]), ov 5 (.build [zb, zb, zb, zb, zb, zb, zb, z0] [(0, 1, cT), (1, 1, cT), (3, 1, cT), (5, 1, cT), (6, 1, cT)]), ov 6
 (.build [zb, zb, zb, zb, zb, zb, zb, z0] [(0, 1, cT), (3, 1, cT), (5, 1, cT), (6, 1, cT)]), ov 7 (.build [zb, zb, zb, zb, zb, zb, zb, z0] [(0, 1, cT),
 (5, 1, cT), (6, 1, cT)]), ov 8 (.build [zb, zb, zb, zb, zb, zb, zb, z0] [(0, 1, cT), (1, 1, cT), (5, 1, cT), (6, 1, cT), (7, 1, (ci 3))]), ov 9
 (.build [zb, zb, zb, zb, zb, zb, zb, z0] [(5, 1, cT), (6, 1, cT)]), ov 10 (.build [zb, zb, zb, zb, zb, zb, zb, z0] [(4, 1, cT), (5, 1, cT), (6, 1,
 cT)]), ov 11 (.build [zb, zb, zb, zb, zb, zb, zb, z0] [(1, 1, cT), (2, 1, cT), (5, 1, cT), (6, 1, cT)]), ov 12 (.build [zb, zb, zb, zb, zb, zb, zb,
 z0] [(1, 1, cT), (5, 1, cT), (6, 1, cT)]), ov 13 (.build [zb, zb, zb, zb, zb, zb, zb, z0] [(1, 1, cT), (5, 1, cT), (6, 1, cT)]), ov 14 (.build [zb,
 zb, zb, zb, zb, zb, zb, z0] [(5, 1, cT), (6, 1, cT), (7, 1, (ci 1))]), ov 15 (.build [zb, zb, zb, zb, zb, zb, zb, z0] [(0, 1, cT), (6, 1, cT)]), ov 16
 (.build [zb, zb, zb, zb, zb, zb, zb, z0] [(3, 1, cT), (6, 1, cT)]), ov 17 (.build [zb, zb, zb, zb, zb, zb, zb, z0, zb, zb, zb, zb, zb, zb, zb, z0, zb,
 zb, zb, zb, zb, zb, zb, z0, zb, zb, zb, zb, zb, zb, zb, z0, zb, zb, zb, zb, zb, zb, zb, z0, zb, zb, zb, zb, zb, zb, zb, z0, zb, zb, zb, zb, zb, zb,
 zb, z0, zb, zb, zb, zb, zb, zb, zb, z0, zb, zb, zb, zb, zb, zb, zb, z0, zb, zb, zb, zb, zb, zb, zb, z0, zb, zb, zb, zb, zb, zb, zb, z0, zb, zb, zb,
 zb, zb, zb, zb, z0, zb, zb, zb, zb, zb, zb, zb, z0, zb, zb, zb, zb, zb, zb, zb, z0] [(8, 8, (tm 4)), (16, 8, (tm 5)), (24, 8, (tm 6)), (32, 8, (tm
 7)), (40, 8, (tm 8)), (48, 8, (tm 9)), (56, 8, (tm 10)), (64, 8, (tm 11)), (72, 8, (tm 12)), (80, 8, (tm 13)), (88, 8, (tm 14)), (96, 8, (tm 15)),
 (104, 8, (tm 16))]), ⟨some 3, none, .alloc 14 [zb, zb, zb, zb, zb, zb, zb, z0, zb, zb, zb, zb, zb, zb, zb, z0, zb, zb, zb, zb, zb, zb, zb, z0, zb, zb,
 zb, zb, zb, zb, zb, z0, zb, zb, zb, zb, zb, zb, zb, z0, zb, zb, zb, zb, zb, zb, zb, z0, zb, zb, zb, zb, zb, zb, zb, z0, zb, zb, zb, zb, zb, zb, zb,
 z0, zb, zb, zb, zb, zb, zb, zb, z0, zb, zb, zb, zb, zb, zb, zb, z0, zb, zb, zb, zb, zb, zb, zb, z0, zb, zb, zb, zb, zb, zb, zb, z0, zb, zb, zb, zb,
 zb, zb, zb, z0, zb, zb, zb, zb, zb, zb, zb, z0]⟩, ⟨none, none, .st 112 (tm 3) (tm 17)⟩] [0, 2, 3]) (sq (sq (rg [ om 18 0, ov 19 (.icmp .lss .i64 (tm
 18) (ci 0)), om 20 19, gm 21 20 false 0, gv 22 20 false (.icmp .geq .i64 (tm 21) (ci 14)), oz 23 20 22] [0, 2, 3, 23]) (.cond (tm 23) (sq (rg [ ov 24
 (.build [zb, zb, zb, zb, zb, zb, zb, z0] []), ⟨none, none, .st 8 (tm 2) (tm 24)⟩] [2]) .ret) .skip)) (sq (rg [ om 25 0, ov 26 (.iaA 14 8 (tm 3) (tm
 25)), ov 27 (.ld 8 true (tm 26)), ⟨none, none, .st 8 (tm 2) (tm 27)⟩] [2]) .ret))))
theorem a34 : AOf Tryz.prog 34 c34 [.c 2 8 true] := mkA (fn := Tryz.f34) (c := Tryz.f34.body.getD .skip) (fz := []) (im := []) kp34 (by kernel_rfl) (by kernel_rfl) (by kernel_rfl) (by kernel_rfl) (by kernel_rfl)
def kp68 (r : Nat) : List Nat := match r with
  | 0 => [1]
  | 1 => [1, 5]
  | 2 => [1, 5, 6]
  | 3 => [2]
  | 4 => [1, 5, 23]
  | 5 => [2]
  | 6 => [1, 38]
  | 7 => [1, 3]
  | 8 => [2]
  | 9 => [2]
  | _ => []
def c68 : ACode :=
(sq (.reg 2 [ ⟨some 1, none, .box 0 6 (tm 0)⟩, ob 2 false] [1]) (sq (sq (rg [ of 4 3 1, ol 5 4] [1, 5]) (.block 0 (sq (rg [ ov 7 (.icmp .eql .i64 (tm
 5) (ci 2)), om 6 7] [1, 5, 6]) (.cond (tm 6) (sq (rg [ of 8 4 1, ol 9 8, ov 10 (.icmp .leq .i64 (ci 0) (tm 9)), om 11 10, gf 12 11 true 4 1, gl 13 11
 true 12, gf 14 11 true 5 1, gl 15 11 true 14, gv 16 11 true (.icmp .leq .i64 (tm 13) (tm 15)), oy 17 11 16, om 18 17, gf 19 18 true 5 1, gl 20 18 true
 19, gv 21 18 true (.icmp .leq .i64 (tm 20) (ci 65536)), oy 22 18 21, om 2 22] [2]) .ret) (sq (rg [ ov 24 (.icmp .eql .i64 (tm 5) (ci 1)), om 23 24]
 [1, 5, 23]) (.cond (tm 23) (sq (rg [ of 25 2 1, ol 26 25, ov 27 (.icmp .eql .i64 (tm 26) (ci 0)), om 28 27, gf 29 28 true 4 1, gl 30 28 true 29, gv 31
 28 true (.icmp .eql .i64 (tm 30) (ci 0)), oy 32 28 31, om 33 32, gf 34 33 true 5 1, gl 35 33 true 34, gv 36 33 true (.icmp .eql .i64 (tm 35) (ci 0)),
 oy 37 33 36, om 2 37] [2]) .ret) (sq (rg [ ov 39 (.icmp .eql .i64 (tm 5) (ci 3)), om 38 39] [1, 38]) (.cond (tm 38) (sq (rg [ of 40 2 1, ol 41 40, ov
 42 (.icmp .geq .i64 (tm 41) (ci 1)), om 43 42, gf 44 43 true 2 1, gl 45 43 true 44, gv 46 43 true (.icmp .leq .i64 (tm 45) (ci 3)), oy 47 43 46, om 48
 47, gf 49 48 false 2 1, gl 50 48 false 49, gv 51 48 false (.icmp .geq .i64 (tm 50) (ci 8)), oz 52 48 51, om 3 52] [1, 3]) (sq (rg [ om 53 3, om 54 53,
 gf 55 54 true 4 1, gl 56 54 true 55, gv 57 54 true (.icmp .eql .i64 (tm 56) (ci 0)), oy 58 54 57, om 59 58, gf 60 59 true 5 1, gl 61 59 true 60, gv 62
 59 true (.icmp .eql .i64 (tm 61) (ci 0)), oy 63 59 62, om 2 63] [2]) .ret)) .skip)))))))) (sq (rg [ ob 2 false] [2]) .ret)))
theorem a68 : AOf Tryz.prog 68 c68 [.t 2] := mkA (fn := Tryz.f68) (c := Tryz.f68.body.getD .skip) (fz := []) (im := []) kp68 (by kernel_rfl) (by kernel_rfl) (by kernel_rfl) (by kernel_rfl) (by kernel_rfl)
def kp67 (r : Nat) : List Nat := match r with
  | 0 => [2, 3]
  | 1 => [2, 3, 5]
  | 2 => [2, 3, 5, 14]
  | 3 => [4]
  | 4 => [2, 3, 5, 68]
  | 5 => [4]
  | 6 => [2, 3, 5, 99]
  | 7 => [4]
  | 8 => [2, 3, 5, 6]
  | 9 => [2, 3, 5, 117]
  | 10 => [4]
  | 11 => [2, 3, 5, 7]
  | 12 => [2, 3, 7, 126]
  | 13 => [2, 3, 7]
  | 14 => [2, 3, 7, 128]
  | 15 => [4]
  | 16 => [2, 3, 7, 147]
  | 17 => [4]
  | 18 => [3, 7, 8]
  | 19 => [4]
  | _ => []
def c67 : ACode :=
(sq (.reg 3 [ ⟨some 2, none, .box 0 10 (tm 0)⟩, ⟨some 3, none, .box 1 12 (tm 1)⟩, ob 4 false] [2, 3]) (sq (.reg 5 [ of 9 2 3, ol 10 9, oc 11 34 [(tm
 10)], ⟨some 5, none, .alloc 3 [zb, zb, zb, zb, zb, zb, zb, z0]⟩, ⟨none, none, .st 8 (tm 5) (tm 11)⟩] [2, 3, 5]) (sq (sq (rg [ of 12 6 5, ol 13 12, ot
 14 13] [2, 3, 5, 14]) (.cond (tm 14) (sq (rg [ ob 4 false] [4]) .ret) .skip)) (sq (sq (rg [ of 15 0 5, ol 16 15, of 17 1 3, ol 18 17, ov 19 (.scmp
 .neq (tm 18) (.c zr)), ov 20 (.beq true (tm 16) (tm 19)), om 21 20, gf 22 21 false 1 5, gl 23 21 false 22, gf 24 21 false 6 3, gl 25 21 false 24, gv
 26 21 false (.icmp .neq .i64 (tm 25) (ci 0)), gv 27 21 false (.beq true (tm 23) (tm 26)), oz 28 21 27, om 29 28, gf 30 29 false 2 5, gl 31 29 false
 30, gf 32 29 false 7 3, gl 33 29 false 32, gv 34 29 false (.icmp .neq .i64 (tm 33) (ci 0)), gv 35 29 false (.beq true (tm 31) (tm 34)), oz 36 29 35,
 om 37 36, gf 38 37 false 0 5, gl 39 37 false 38, gv 40 37 false (.not (tm 39)), gm 41 37 false 40, gf 42 41 true 3 3, gl 43 41 true 42, gv 44 41 true
 (.icmp .neq .i64 (tm 43) (ci 0)), ⟨some 45, some (37, false), .pick (tm 41) (tm 44) cF⟩, oz 46 37 45, om 47 46, gf 48 47 false 1 5, gl 49 47 false 48,
 gv 50 47 false (.not (tm 49)), gm 51 47 false 50, gf 52 51 true 4 3, gl 53 51 true 52, gv 54 51 true (.len (tm 53)), gv 55 51 true (.icmp .gtr .i64
 (tm 54) (ci 0)), ⟨some 56, some (47, false), .pick (tm 51) (tm 55) cF⟩, oz 57 47 56, om 58 57, gf 59 58 false 2 5, gl 60 58 false 59, gv 61 58 false
 (.not (tm 60)), gm 62 58 false 61, gf 63 62 true 5 3, gl 64 62 true 63, gv 65 62 true (.len (tm 64)), gv 66 62 true (.icmp .gtr .i64 (tm 65) (ci 0)),
 ⟨some 67, some (58, false), .pick (tm 62) (tm 66) cF⟩, oz 68 58 67] [2, 3, 5, 68]) (.cond (tm 68) (sq (rg [ ob 4 false] [4]) .ret) .skip)) (sq (sq (rg
 [ of 69 3 5, ol 70 69, of 71 8 3, ol 72 71, ov 73 (.icmp .geq .i64 (tm 72) (ci 1)), om 74 73, gf 75 74 true 8 3, gl 76 74 true 75, gv 77 74 true
 (.icmp .leq .i64 (tm 76) (ci 3)), oy 78 74 77, ov 79 (.beq true (tm 70) (tm 78)), om 80 79, gf 81 80 false 3 5, gl 82 80 false 81, gv 83 80 false
 (.not (tm 82)), gm 84 80 false 83, gf 85 84 true 8 3, gl 86 84 true 85, gv 87 84 true (.icmp .neq .i64 (tm 86) (ci 0)), ⟨some 88, some (80, false),
 .pick (tm 84) (tm 87) cF⟩, oz 89 80 88, om 90 89, gf 91 90 false 9 3, gl 92 90 false 91, gv 93 90 false (.icmp .lss .i64 (tm 92) (ci 0)), oz 94 90 93,
 om 95 94, gf 96 95 false 9 3, gl 97 95 false 96, gv 98 95 false (.icmp .gtr .i64 (tm 97) (ci 65536)), oz 99 95 98] [2, 3, 5, 99]) (.cond (tm 99) (sq
 (rg [ ob 4 false] [4]) .ret) .skip)) (sq (rg [ of 100 4 5, ol 101 100, om 102 101, gf 103 102 false 3 5, gl 104 102 false 103, gm 105 102 false 104,
 gf 106 105 true 10 3, gl 107 105 true 106, gv 108 105 true (.scmp .eql (tm 107) (.c zr)), ⟨some 109, some (102, false), .pick (tm 105) (tm 108) cF⟩,
 oz 110 102 109, om 6 110] [2, 3, 5, 6]) (sq (sq (rg [ om 111 6, ot 112 111, om 113 112, gf 114 113 true 9 3, gl 115 113 true 114, gv 116 113 true
 (.icmp .neq .i64 (tm 115) (ci 0)), oy 117 113 116] [2, 3, 5, 117]) (.cond (tm 117) (sq (rg [ ob 4 false] [4]) .ret) .skip)) (sq (rg [ of 118 7 5, ol
 119 118, om 7 119] [2, 3, 5, 7]) (sq (sq (rg [ of 120 3 5, ol 121 120, om 122 121, gf 123 122 true 10 3, gl 124 122 true 123, gv 125 122 true (.scmp
 .neq (tm 124) (.c zr)), oy 126 122 125] [2, 3, 7, 126]) (.cond (tm 126) (rg [ oi 7 2] [2, 3, 7]) .skip)) (sq (sq (rg [ om 127 7, ov 128 (.icmp .eql
 .i64 (tm 127) (ci 0))] [2, 3, 7, 128]) (.cond (tm 128) (sq (rg [ of 129 10 3, ol 130 129, ov 131 (.scmp .eql (tm 130) (.c zr)), om 132 131, gf 133 132
 true 11 3, gl 134 132 true 133, gv 135 132 true (.icmp .eql .i64 (tm 134) (ci (-1))), oy 136 132 135, om 4 136] [4]) .ret) .skip)) (sq (sq (rg [ of
 137 11 3, ol 138 137, ov 139 (.icmp .lss .i64 (tm 138) (ci 0)), om 140 139, gf 141 140 false 11 3, gl 142 140 false 141, gf 143 140 false 8 2, gl 144
 140 false 143, gv 145 140 false (.len (tm 144)), gv 146 140 false (.icmp .geq .i64 (tm 142) (tm 145)), oz 147 140 146] [2, 3, 7, 147]) (.cond (tm 147)
 (sq (rg [ ob 4 false] [4]) .ret) .skip)) (sq (.reg 8 [ of 148 8 2, ol 149 148, of 150 11 3, ol 151 150, oa 152 6 149 151, ov 153 (.ld 6 true (tm
 152)), ⟨some 8, none, .alloc 6 [zr, zr, z0, z0, z0, z0]⟩, ⟨none, none, .st 6 (tm 8) (tm 153)⟩] [3, 7, 8]) (sq (rg [ of 154 3 8, ol 155 154, om 156 7,
 ov 157 (.icmp .eql .i64 (tm 155) (tm 156)), om 158 157, gm 159 158 true 7, gv 160 158 true (.icmp .eql .i64 (tm 159) (ci 1)), gm 161 158 true 160, gf
 162 161 false 2 8, gl 163 161 false 162, gf 164 161 false 3 3, gl 165 161 false 164, gv 166 161 false (.icmp .eql .i64 (tm 163) (tm 165)), ⟨some 167,
 some (158, true), .pick (tm 161) cT (tm 166)⟩, oy 168 158 167, om 4 168] [4]) .ret)))))))))))))
theorem a67 : AOf Tryz.prog 67 c67 [.t 4] := mkA (fn := Tryz.f67) (c := Tryz.f67.body.getD .skip) (fz := []) (im := []) kp67 (by kernel_rfl) (by kernel_rfl) (by kernel_rfl) (by kernel_rfl) (by kernel_rfl)
def kp16 (r : Nat) : List Nat := match r with
  | 0 => [0, 1]
  | 1 => [1, 5]
  | 2 => [4]
  | 3 => [4]
  | _ => []
def c16 : ACode :=
(sq (rg [ oi 4 0] [0, 1]) (sq (sq (rg [ om 5 0] [1, 5]) (.cond (tm 5) (sq (rg [ oi 4 0] [4]) .ret) .skip)) (sq (rg [ om 6 1, om 4 6] [4]) .ret)))
theorem a16 : AOf Tryz.prog 16 c16 [.t 4] := mkA (fn := Tryz.f16) (c := Tryz.f16.body.getD .skip) (fz := []) (im := []) kp16 (by kernel_rfl) (by kernel_rfl) (by kernel_rfl) (by kernel_rfl) (by kernel_rfl)
def kp26 (r : Nat) : List Nat := match r with
  | 0 => [1]
  | 1 => [1, 11, 12, 13]
  | 2 => [1, 11, 12, 13, 14]
  | 3 => [1, 4, 11, 12, 13]
  | 4 => [1, 11, 12, 13, 24]
  | 5 => [2]
  | 6 => [1, 11, 12, 13]
  | 7 => [1, 5]
  | 8 => [1, 5, 28, 29, 30]
  | 9 => [1, 5, 28, 29, 30, 31]
  | 10 => [1, 5, 7, 28, 29, 30]
  | 11 => [1, 5, 7, 28, 29, 30, 37]
  | 12 => [2]
  | 13 => [1, 5, 28, 29, 30]
  | 14 => [1, 5, 28, 29, 30]
  | 15 => [5, 45, 46, 47]
  | 16 => [5, 45, 46, 47, 48]
  | 17 => [5, 8, 9, 45, 46, 47]
  | 18 => [5, 45, 46, 47, 60]
  | 19 => [2]
  | 20 => [5, 45, 46, 47]
  | 21 => [2]
  | _ => []
def c26 : ACode :=
(sq (.reg 2 [ ⟨some 1, none, .box 0 10 (tm 0)⟩, ob 2 false] [1]) (sq (sq (rg [ of 10 6 1, ol 11 10, on 12 11, oi 13 0] [1, 11, 12, 13]) (.block 0
 (.loop (sq (rg [ ov 14 (.icmp .lss .i64 (tm 13) (tm 12))] [1, 11, 12, 13, 14]) (sq (.cond (tm 14) .skip (.exit 0)) (sq (.block 1 (sq (.reg 4 [ oa 15 2
 11 13, ov 16 (.ld 2 true (tm 15)), ⟨some 4, none, .alloc 2 [zr, z0]⟩, ⟨none, none, .st 2 (tm 4) (tm 16)⟩] [1, 4, 11, 12, 13]) (sq (rg [ of 17 1 4, ol
 18 17, ov 19 (.icmp .lss .i64 (tm 18) (ci 0)), om 20 19, gf 21 20 false 1 4, gl 22 20 false 21, gv 23 20 false (.icmp .gtr .i64 (tm 22) (ci 99)), oz
 24 20 23] [1, 11, 12, 13, 24]) (.cond (tm 24) (sq (rg [ ob 2 false] [2]) .ret) .skip)))) (rg [ ov 25 (.arith .add .i64 (tm 13) (ci 1)), om 13 25] [1,
 11, 12, 13]))))))) (sq (.reg 2 [ ⟨some 26, none, .ext (.mkm 0) []⟩, om 5 26] [1, 5]) (sq (sq (rg [ of 27 9 1, ol 28 27, on 29 28, oi 30 0] [1, 5, 28,
 29, 30]) (.block 2 (.loop (sq (rg [ ov 31 (.icmp .lss .i64 (tm 30) (tm 29))] [1, 5, 28, 29, 30, 31]) (sq (.cond (tm 31) .skip (.exit 2)) (sq (.block 3
 (sq (.reg 4 [ oa 32 12 28 30, ov 33 (.ld 12 true (tm 32)), ⟨some 7, none, .alloc 2 [zr, zr, z0, z0, zs, zs, z0, z0, z0, z0, zr, z0]⟩, ⟨none, none, .st
 12 (tm 7) (tm 33)⟩] [1, 5, 7, 28, 29, 30]) (sq (sq (rg [ ov 34 (.ld 10 true (tm 1)), ov 35 (.ld 12 true (tm 7)), oc 36 67 [(tm 34), (tm 35)], ot 37
 36] [1, 5, 7, 28, 29, 30, 37]) (.cond (tm 37) (sq (rg [ ob 2 false] [2]) .ret) .skip)) (rg [ om 38 5, of 39 11 7, ol 40 39, ⟨some 41, none, .ext
 (.look (.int .i64) z0 false) [(tm 38), (tm 40)]⟩, ov 42 (.arith .add .i64 (tm 41) (ci 1)), ⟨none, none, .ext (.mput (.int .i64)) [(tm 38), (tm 40),
 (tm 42)]⟩] [1, 5, 28, 29, 30])))) (rg [ ov 43 (.arith .add .i64 (tm 30) (ci 1)), om 30 43] [1, 5, 28, 29, 30]))))))) (sq (sq (rg [ of 44 8 1, ol 45
 44, on 46 45, oi 47 0] [5, 45, 46, 47]) (.block 4 (.loop (sq (rg [ ov 48 (.icmp .lss .i64 (tm 47) (tm 46))] [5, 45, 46, 47, 48]) (sq (.cond (tm 48)
 .skip (.exit 4)) (sq (.block 5 (sq (.reg 6 [ om 49 47, oa 50 6 45 47, ov 51 (.ld 6 true (tm 50)), ⟨some 9, none, .alloc 3 [zr, zr, z0, z0, z0, z0]⟩,
 om 8 49, ⟨none, none, .st 6 (tm 9) (tm 51)⟩] [5, 8, 9, 45, 46, 47]) (sq (rg [ om 52 5, om 53 8, ⟨some 54, none, .ext (.look (.int .i64) z0 false) [(tm
 52), (tm 53)]⟩, ov 55 (.icmp .neq .i64 (tm 54) (ci 1)), om 56 55, gv 57 56 false (.ld 6 true (tm 9)), ⟨some 58, some (56, false), .call true (.c (.fn
 (.func 68) [] [])) [(tm 57)]⟩, gv 59 56 false (.not (tm 58)), oz 60 56 59] [5, 45, 46, 47, 60]) (.cond (tm 60) (sq (rg [ ob 2 false] [2]) .ret)
 .skip)))) (rg [ ov 61 (.arith .add .i64 (tm 47) (ci 1)), om 47 61] [5, 45, 46, 47]))))))) (sq (rg [ ob 2 true] [2]) .ret))))))
theorem a26 : AOf Tryz.prog 26 c26 [.t 2] := mkA (fn := Tryz.f26) (c := Tryz.f26.body.getD .skip) (fz := []) (im := []) kp26 (by kernel_rfl) (by kernel_rfl) (by kernel_rfl) (by kernel_rfl) (by kernel_rfl)
def kp14 (r : Nat) : List Nat := match r with
  | 0 => [1]
  | 1 => [2]
  | _ => []
def c14 : ACode :=
(sq (.reg 2 [ ⟨some 1, none, .box 0 12 (tm 0)⟩, ob 2 false] [1]) (sq (rg [ of 3 2 1, ol 4 3, oc 5 34 [(tm 4)], ov 6 (.fld 5 1 false (tm 5)), om 2 6]
 [2]) .ret))
theorem a14 : AOf Tryz.prog 14 c14 [.t 2] := mkA (fn := Tryz.f14) (c := Tryz.f14.body.getD .skip) (fz := []) (im := []) kp14 (by kernel_rfl) (by kernel_rfl) (by kernel_rfl) (by kernel_rfl) (by kernel_rfl)
def kp13 (r : Nat) : List Nat := match r with
  | 0 => [1, 2]
  | 1 => [2, 6, 7, 8]
  | 2 => [2, 6, 7, 8, 9]
  | 3 => [2, 3, 4, 6, 7, 8]
  | 4 => [2, 3, 6, 7, 8, 15]
  | 5 => [2, 6, 7, 8]
  | 6 => [2, 6, 7, 8]
  | 7 => [2]
  | _ => []
def c13 : ACode :=
(sq (.reg 2 [ ⟨some 1, none, .box 0 10 (tm 0)⟩, ov 2 (.mv (.c zs))] [1, 2]) (sq (sq (rg [ of 5 9 1, ol 6 5, on 7 6, oi 8 0] [2, 6, 7, 8]) (.block 0
 (.loop (sq (rg [ ov 9 (.icmp .lss .i64 (tm 8) (tm 7))] [2, 6, 7, 8, 9]) (sq (.cond (tm 9) .skip (.exit 0)) (sq (.block 1 (sq (.reg 6 [ om 10 8, oa 11
 12 6 8, ov 12 (.ld 12 true (tm 11)), ⟨some 4, none, .alloc 3 [zr, zr, z0, z0, zs, zs, z0, z0, z0, z0, zr, z0]⟩, om 3 10, ⟨none, none, .st 12 (tm 4)
 (tm 12)⟩] [2, 3, 4, 6, 7, 8]) (sq (rg [ ov 13 (.ld 12 true (tm 4)), oc 14 14 [(tm 13)], ot 15 14] [2, 3, 6, 7, 8, 15]) (.cond (tm 15) (.reg 5 [ om 16
 2, om 17 3, ov 18 (.bs 1 1 z0 [(0, (tm 17))]), ⟨some 19, none, .app 3 1 8 (tm 16) (tm 18) false⟩, om 2 19] [2, 6, 7, 8]) .skip)))) (rg [ ov 20 (.arith
 .add .i64 (tm 8) (ci 1)), om 8 20] [2, 6, 7, 8]))))))) (sq (rg [ om 21 2, om 2 21] [2]) .ret)))
theorem a13 : AOf Tryz.prog 13 c13 [.t 2] := mkA (fn := Tryz.f13) (c := Tryz.f13.body.getD .skip) (fz := []) (im := []) kp13 (by kernel_rfl) (by kernel_rfl) (by kernel_rfl) (by kernel_rfl) (by kernel_rfl)
def kp10 (r : Nat) : List Nat := match r with
  | 0 => [1, 2, 3, 6, 7, 8]
  | 1 => [1, 2, 3, 6, 7, 8, 16]
  | 2 => [6, 7, 8]
  | 3 => [1, 2, 6, 7, 8, 23, 24, 25]
  | 4 => [1, 2, 6, 7, 8, 23, 24, 25, 26]
  | 5 => [1, 2, 6, 7, 8, 9, 10, 23, 24, 25]
  | 6 => [1, 2, 6, 7, 8, 10, 23, 24, 25, 34]
  | 7 => [1, 2, 6, 7, 8, 10, 23, 24, 25, 42]
  | 8 => [6, 7, 8]
  | 9 => [1, 2, 6, 7, 8, 10, 23, 24, 25, 44]
  | 10 => [1, 2, 6, 7, 8, 10, 23, 24, 25]
  | 11 => [1, 2, 6, 7, 8, 23, 24, 25]
  | 12 => [1, 2, 6, 7, 8, 23, 24, 25]
  | 13 => [6, 7, 8]
  | _ => []
def c10 : ACode :=
(sq (.reg 4 [ ⟨some 3, none, .box 0 10 (tm 0)⟩, oi 6 0, oi 7 0, ob 8 false] [1, 2, 3, 6, 7, 8]) (sq (sq (rg [ om 11 2, ov 12 (.icmp .lss .i64 (tm 11)
 (ci 0)), om 13 12, gm 14 13 false 2, gv 15 13 false (.icmp .gtr .i64 (tm 14) (ci 256)), oz 16 13 15] [1, 2, 3, 6, 7, 8, 16]) (.cond (tm 16) (sq (rg [
 oi 6 0, oi 7 0, ob 8 false] [6, 7, 8]) .ret) .skip)) (sq (sq (rg [ of 17 6 3, ol 18 17, of 19 6 3, ol 20 19, on 21 20, ov 22 (.mnmx false .i64 [(tm
 21), (ci 16)]), ov 23 (.sl 2 (tm 18) none (some (tm 22)) none), on 24 23, oi 25 0] [1, 2, 6, 7, 8, 23, 24, 25]) (.block 0 (.loop (sq (rg [ ov 26
 (.icmp .lss .i64 (tm 25) (tm 24))] [1, 2, 6, 7, 8, 23, 24, 25, 26]) (sq (.cond (tm 26) .skip (.exit 0)) (sq (.block 1 (sq (.reg 6 [ om 27 25, oa 28 2
 23 25, ov 29 (.ld 2 true (tm 28)), ⟨some 10, none, .alloc 3 [zr, z0]⟩, om 9 27, ⟨none, none, .st 2 (tm 10) (tm 29)⟩] [1, 2, 6, 7, 8, 9, 10, 23, 24,
 25]) (sq (sq (rg [ om 30 1, om 31 9, ov 32 (.shift .shr .i64 .i64 (tm 30) (tm 31)), ov 33 (.arith .and .i64 (tm 32) (ci 1)), ov 34 (.icmp .eql .i64
 (tm 33) (ci 0))] [1, 2, 6, 7, 8, 10, 23, 24, 25, 34]) (.cond (tm 34) (.exit 1) .skip)) (sq (sq (rg [ of 35 1 10, ol 36 35, ov 37 (.icmp .lss .i64 (tm
 36) (ci 0)), om 38 37, gf 39 38 false 1 10, gl 40 38 false 39, gv 41 38 false (.icmp .gtr .i64 (tm 40) (ci 99)), oz 42 38 41] [1, 2, 6, 7, 8, 10, 23,
 24, 25, 42]) (.cond (tm 42) (sq (rg [ oi 6 0, oi 7 0, ob 8 false] [6, 7, 8]) .ret) .skip)) (sq (sq (rg [ om 43 8, ot 44 43] [1, 2, 6, 7, 8, 10, 23,
 24, 25, 44]) (.cond (tm 44) (rg [ of 45 1 10, ol 46 45, of 47 1 10, ol 48 47, om 6 46, om 7 48, ob 8 true] [1, 2, 6, 7, 8, 10, 23, 24, 25]) .skip))
 (rg [ om 49 6, of 50 1 10, ol 51 50, ov 52 (.mnmx false .i64 [(tm 49), (tm 51)]), om 53 7, of 54 1 10, ol 55 54, ov 56 (.mnmx true .i64 [(tm 53), (tm
 55)]), om 6 52, om 7 56] [1, 2, 6, 7, 8, 23, 24, 25])))))) (rg [ ov 57 (.arith .add .i64 (tm 25) (ci 1)), om 25 57] [1, 2, 6, 7, 8, 23, 24, 25])))))))
 (sq (rg [ om 58 2, om 59 6, ov 60 (.arith .mul .i64 (tm 58) (tm 59)), om 61 2, om 62 7, ov 63 (.arith .mul .i64 (tm 61) (tm 62)), om 64 8, om 6 60, om
 7 63, om 8 64] [6, 7, 8]) .ret))))
theorem a10 : AOf Tryz.prog 10 c10 [.t 6, .t 7, .t 8] := mkA (fn := Tryz.f10) (c := Tryz.f10.body.getD .skip) (fz := []) (im := []) kp10 (by kernel_rfl) (by kernel_rfl) (by kernel_rfl) (by kernel_rfl) (by kernel_rfl)
def kp63 (r : Nat) : List Nat := match r with
  | 0 => [0]
  | 1 => [3]
  | 2 => [3]
  | 3 => [2]
  | _ => []
def c63 : ACode :=
(sq (rg [ ov 2 (.mv (.c zs))] [0]) (sq (rg [ om 4 0, oe 5 85 [(tm 4)], om 3 5] [3]) (sq (rg [ om 6 3, oe 7 86 [(tm 6)]] [3]) (sq (rg [ om 8 3, om 2 8]
 [2]) .ret))))
theorem l63 : Callable Tryz.prog 63 := ⟨Tryz.f63, by kernel_rfl, by kernel_rfl, by kernel_rfl⟩
theorem a63 : AOf Tryz.prog 63 c63 [.t 2] := mkA (fn := Tryz.f63) (c := Tryz.f63.body.getD .skip) (fz := []) (im := [(1, 1), (2, 1)]) kp63 (by kernel_rfl) (by kernel_rfl) (by kernel_rfl) (by kernel_rfl) (by kernel_rfl)
def kp64 (r : Nat) : List Nat := match r with
  | 0 => [1]
  | 1 => [2]
  | _ => []
def c64 : ACode :=
(sq (.reg 2 [ ⟨some 1, none, .box 0 1 (tm 0)⟩, ov 2 (.mv (.c .nilfn))] [1]) (sq (rg [ ov 3 (.fn (.func 87) [] [(tm 1)]), om 2 3] [2]) .ret))
theorem l64 : Callable Tryz.prog 64 := ⟨Tryz.f64, by kernel_rfl, by kernel_rfl, by kernel_rfl⟩
theorem a64 : AOf Tryz.prog 64 c64 [.t 2] := mkA (fn := Tryz.f64) (c := Tryz.f64.body.getD .skip) (fz := []) (im := []) kp64 (by kernel_rfl) (by kernel_rfl) (by kernel_rfl) (by kernel_rfl) (by kernel_rfl)
def kp87 (r : Nat) : List Nat := match r with
  | 0 => [0, 5, 6, 7]
  | 1 => [0, 5, 6, 7, 8]
  | 2 => [0, 4, 5, 6, 7]
  | 3 => [0, 5, 6, 7, 14]
  | 4 => [0, 5, 6, 7]
  | _ => []
def c87 : ACode :=
(sq (rg [ ol 5 1, on 6 5, oi 7 0] [0, 5, 6, 7]) (.block 0 (.loop (sq (rg [ ov 8 (.icmp .lss .i64 (tm 7) (tm 6))] [0, 5, 6, 7, 8]) (sq (.cond (tm 8)
 .skip (.exit 0)) (sq (.block 1 (sq (rg [ oa 9 1 5 7, ol 10 9, om 4 10] [0, 4, 5, 6, 7]) (sq (rg [ om 11 0, om 12 4, ⟨some 13, none, .call false (tm
 11) [(tm 12)]⟩, ot 14 13] [0, 5, 6, 7, 14]) (.cond (tm 14) .ret .skip)))) (rg [ ov 15 (.arith .add .i64 (tm 7) (ci 1)), om 7 15] [0, 5, 6, 7])))))))
theorem a87 : AOf Tryz.prog 87 c87 [] := mkA (fn := Tryz.f87) (c := Tryz.f87.body.getD .skip) (fz := []) (im := [(3, 2)]) kp87 (by kernel_rfl) (by kernel_rfl) (by kernel_rfl) (by kernel_rfl) (by kernel_rfl)
def kp85 (r : Nat) : List Nat := match r with
  | 0 => [0]
  | 1 => [2]
  | _ => []
def c85 : ACode :=
(sq (rg [ ov 2 (.mv (.c zs))] [0]) (sq (rg [ om 3 0, oe 4 97 [(.c zs), (tm 3)], om 2 4] [2]) .ret))
theorem a85 : AOf Tryz.prog 85 c85 [.t 2] := mkA (fn := Tryz.f85) (c := Tryz.f85.body.getD .skip) (fz := []) (im := [(1, 1)]) kp85 (by kernel_rfl) (by kernel_rfl) (by kernel_rfl) (by kernel_rfl) (by kernel_rfl)
noncomputable def ra97_0 : Code := ((rfs (Tryz.f97.body.getD .skip))[0]?.getD (#[], .skip, .skip)).2.1
noncomputable def rb97_0 : Code := ((rfs (Tryz.f97.body.getD .skip))[0]?.getD (#[], .skip, .skip)).2.2
def kp97_0b (r : Nat) : List Nat := match r with
  | 3 => []
  | _ => []
def c97_0b : ACode :=
  (.block 1
   (.reg 5 [
     ⟨some 8, none, .v (.ld 1 false (.t 2))⟩,
     ⟨some 9, none, .v (.mv (.t 5))⟩,
     ⟨some 10, none, .v (.bs 1 1 (.int .i64 0) [(0, (.t 9))])⟩,
     ⟨some 11, none, .appR 3 1 8 (.int .i64 0) (.t 8) (.t 10) false⟩,
     ⟨none, none, .st 1 (.t 2) (.t 11)⟩] []))
def kp97_0a (r : Nat) : List Nat := match r with
  | 2 => [2, 5]
  | _ => []
def c97_0a : ACode :=
  (.reg 0 [
    ⟨some 5, none, .v (.mv (.t 7))⟩] [2, 5])
theorem y97_0 {l id : Nat} {st : LoopState} {pend : Option Code} {env : List (Nat × Bool × AVal)} {args : List AVal} {H : AHeap} {n : Nat} {R : Bool → AHeap → Nat → Prop} (ho : hget H id = some (.lp ⟨l, st, pend, 13, env, #[7], ra97_0, rb97_0⟩)) (hps : args.length = 1) (h : awp Tryz.prog c97_0a (roundA Tryz.prog id c97_0b R) ⟨renv [7] args env, H, n⟩) : AYield Tryz.prog l args H n R :=
  ayield_of_awp (aa := c97_0a) (ab := c97_0b) (fz := [(3, 3)]) (im := []) (fz2 := [(3, 3)]) (im2 := []) (kp := kp97_0a) (kp2 := kp97_0b) ho rfl hps rfl (by kernel_rfl) (by kernel_rfl) rfl rfl h
def kp97 (r : Nat) : List Nat := match r with
  | 0 => [1, 2, 4]
  | 1 => [2, 4, 6]
  | 4 => [4]
  | _ => []
noncomputable def c97 : ACode :=
(sq (.reg 2 [ ⟨some 2, none, .box 0 1 (tm 0)⟩, ov 4 (.mv (.c zs))] [1, 2, 4]) (sq (sq (rg [ om 6 1] [2, 4, 6]) (.block 0 (.rfun (tm 6) #[7] 13 ra97_0
 rb97_0))) (sq (rg [ ol 12 2, om 4 12] [4]) .ret)))
theorem a97 : AOf Tryz.prog 97 c97 [.t 4] := mkA (fn := Tryz.f97) (c := Tryz.f97.body.getD .skip) (fz := [(3, 3)]) (im := []) kp97 (by kernel_rfl) (by kernel_rfl) (by kernel_rfl) (by kernel_rfl) (by kernel_rfl)
def kp66 (r : Nat) : List Nat := match r with
  | 0 => [0, 1]
  | 1 => [3]
  | _ => []
def c66 : ACode :=
(sq (rg [ ob 3 false] [0, 1]) (sq (rg [ ol 4 1, om 5 0, oc 6 53 [(tm 4), (tm 5)], om 3 6] [3]) .ret))
theorem l66 : Callable Tryz.prog 66 := ⟨Tryz.f66, by kernel_rfl, by kernel_rfl, by kernel_rfl⟩
theorem a66 : AOf Tryz.prog 66 c66 [.t 3] := mkA (fn := Tryz.f66) (c := Tryz.f66.body.getD .skip) (fz := []) (im := []) kp66 (by kernel_rfl) (by kernel_rfl) (by kernel_rfl) (by kernel_rfl) (by kernel_rfl)
def kp88 (r : Nat) : List Nat := match r with
  | 0 => [0, 1]
  | 1 => [0, 1, 7, 8]
  | 2 => [0, 1, 7, 8, 9]
  | 3 => [0, 1, 5, 7, 8]
  | 4 => [0, 1, 5, 7, 8, 16]
  | 5 => [4]
  | 6 => [0, 1, 7, 8]
  | 7 => [4]
  | _ => []
def c88 : ACode :=
(sq (rg [ oi 4 0] [0, 1]) (sq (sq (rg [ om 6 0, on 7 6, oi 8 0] [0, 1, 7, 8]) (.block 0 (.loop (sq (rg [ ov 9 (.icmp .lss .i64 (tm 8) (tm 7))] [0, 1,
 7, 8, 9]) (sq (.cond (tm 9) .skip (.exit 0)) (sq (.block 1 (sq (rg [ om 10 8, om 5 10] [0, 1, 5, 7, 8]) (sq (rg [ om 11 1, om 12 0, om 13 5, oa 14 1
 12 13, ol 15 14, ⟨some 16, none, .call true (tm 11) [(tm 15)]⟩] [0, 1, 5, 7, 8, 16]) (.cond (tm 16) (sq (rg [ om 17 5, om 4 17] [4]) .ret) .skip))))
 (rg [ ov 18 (.arith .add .i64 (tm 8) (ci 1)), om 8 18] [0, 1, 7, 8]))))))) (sq (rg [ oi 4 (-1)] [4]) .ret)))
theorem l88 : Callable Tryz.prog 88 := ⟨Tryz.f88, by kernel_rfl, by kernel_rfl, by kernel_rfl⟩
theorem a88 : AOf Tryz.prog 88 c88 [.t 4] := mkA (fn := Tryz.f88) (c := Tryz.f88.body.getD .skip) (fz := []) (im := []) kp88 (by kernel_rfl) (by kernel_rfl) (by kernel_rfl) (by kernel_rfl) (by kernel_rfl)
def kp65 (r : Nat) : List Nat := match r with
  | 0 => [0, 1]
  | 1 => [4]
  | _ => []
def c65 : ACode :=
(sq (rg [ ob 4 false] [0, 1]) (sq (rg [ om 5 0, om 6 1, oc 7 88 [(tm 5), (tm 6)], ov 8 (.icmp .geq .i64 (tm 7) (ci 0)), om 4 8] [4]) .ret))
theorem l65 : Callable Tryz.prog 65 := ⟨Tryz.f65, by kernel_rfl, by kernel_rfl, by kernel_rfl⟩
theorem a65 : AOf Tryz.prog 65 c65 [.t 4] := mkA (fn := Tryz.f65) (c := Tryz.f65.body.getD .skip) (fz := []) (im := []) kp65 (by kernel_rfl) (by kernel_rfl) (by kernel_rfl) (by kernel_rfl) (by kernel_rfl)
def kp24 (r : Nat) : List Nat := match r with
  | 0 => [2, 3]
  | 1 => [3, 14, 15, 16]
  | 2 => [3, 14, 15, 16, 17]
  | 3 => [3, 6, 14, 15, 16]
  | 4 => [3, 6, 8, 14, 15, 16]
  | 5 => [3, 6, 8, 14, 15, 16, 28]
  | 6 => [4]
  | 7 => [3, 6, 9, 14, 15, 16]
  | 8 => [3, 9, 14, 15, 16, 31, 32, 33]
  | 9 => [3, 9, 14, 15, 16, 31, 32, 33, 34]
  | 10 => [3, 9, 11, 14, 15, 16, 31, 32, 33]
  | 11 => [3, 9, 12, 14, 15, 16, 31, 32, 33]
  | 12 => [3, 9, 12, 14, 15, 16, 31, 32, 33, 42]
  | 13 => [4]
  | 14 => [3, 9, 14, 15, 16, 31, 32, 33]
  | 15 => [3, 9, 14, 15, 16, 31, 32, 33]
  | 16 => [3, 14, 15, 16]
  | 17 => [4]
  | _ => []
def c24 : ACode :=
(sq (.reg 3 [ ⟨some 2, none, .box 0 10 (tm 0)⟩, ⟨some 3, none, .box 1 5 (tm 1)⟩, oi 4 0] [2, 3]) (sq (sq (rg [ of 13 7 2, ol 14 13, on 15 14, oi 16 0]
 [3, 14, 15, 16]) (.block 0 (.loop (sq (rg [ ov 17 (.icmp .lss .i64 (tm 16) (tm 15))] [3, 14, 15, 16, 17]) (sq (.cond (tm 17) .skip (.exit 0)) (sq
 (.block 1 (sq (.reg 4 [ oa 18 2 14 16, ov 19 (.ld 2 true (tm 18)), ⟨some 6, none, .alloc 2 [zr, zs]⟩, ⟨none, none, .st 2 (tm 6) (tm 19)⟩] [3, 6, 14,
 15, 16]) (sq (sq (rg [ ov 21 (.ld 5 true (tm 3)), of 22 1 6, ol 23 22, oc 24 62 [(tm 21), (tm 23)], om 20 24, ox 25 0 20, ox 26 1 20, om 7 25, om 8
 26] [3, 6, 8, 14, 15, 16]) (sq (rg [ om 27 8, ov 28 (.icmp .neq .i64 (tm 27) (ci 0))] [3, 6, 8, 14, 15, 16, 28]) (.cond (tm 28) (sq (rg [ om 29 8, om
 4 29] [4]) .ret) .skip))) (sq (rg [ ov 9 (.mv (.c zs))] [3, 6, 9, 14, 15, 16]) (sq (rg [ of 30 1 6, ol 31 30, on 32 31, oi 33 0] [3, 9, 14, 15, 16,
 31, 32, 33]) (.block 2 (.loop (sq (rg [ ov 34 (.icmp .lss .i64 (tm 33) (tm 32))] [3, 9, 14, 15, 16, 31, 32, 33, 34]) (sq (.cond (tm 34) .skip (.exit
 2)) (sq (.block 3 (sq (rg [ oa 35 1 31 33, ol 36 35, om 11 36] [3, 9, 11, 14, 15, 16, 31, 32, 33]) (sq (.reg 5 [ om 37 11, oe 38 64 [(tm 37)], oc 39
 63 [(tm 38)], ⟨some 12, none, .alloc 3 [zs]⟩, ⟨none, none, .st 1 (tm 12) (tm 39)⟩] [3, 9, 12, 14, 15, 16, 31, 32, 33]) (sq (sq (rg [ om 40 9, ov 41
 (.fn (.func 66) [] [(tm 12)]), oc 42 65 [(tm 40), (tm 41)]] [3, 9, 12, 14, 15, 16, 31, 32, 33, 42]) (.cond (tm 42) (sq (rg [ oi 4 161] [4]) .ret)
 .skip)) (.reg 5 [ om 43 9, ol 44 12, ov 45 (.bs 1 1 zs [(0, (tm 44))]), ⟨some 46, none, .app 3 1 24 (tm 43) (tm 45) false⟩, om 9 46] [3, 9, 14, 15,
 16, 31, 32, 33]))))) (rg [ ov 47 (.arith .add .i64 (tm 33) (ci 1)), om 33 47] [3, 9, 14, 15, 16, 31, 32, 33]))))))))))) (rg [ ov 48 (.arith .add .i64
 (tm 16) (ci 1)), om 16 48] [3, 14, 15, 16]))))))) (sq (rg [ oi 4 0] [4]) .ret)))
theorem a24 : AOf Tryz.prog 24 c24 [.t 4] := mkA (fn := Tryz.f24) (c := Tryz.f24.body.getD .skip) (fz := []) (im := [(11, 1)]) kp24 (by kernel_rfl) (by kernel_rfl) (by kernel_rfl) (by kernel_rfl) (by kernel_rfl)
def kp15 (r : Nat) : List Nat := match r with
  | 0 => [0]
  | 1 => [1]
  | _ => []
def c15 : ACode :=
(sq (rg [ oi 1 0] [0]) (sq (rg [ of 2 6 0, ol 3 2, on 4 3, ov 5 (.icmp .gtr .i64 (tm 4) (ci 0)), om 6 5, gf 7 6 true 6 0, gl 8 6 true 7, gv 9 6 true
 (.len (tm 8)), gv 10 6 true (.icmp .leq .i64 (tm 9) (ci 16)), oy 11 6 10, om 12 11, gf 13 12 true 7 0, gl 14 12 true 13, gv 15 12 true (.len (tm 14)),
 gv 16 12 true (.icmp .leq .i64 (tm 15) (ci 4)), oy 17 12 16, om 18 17, gf 19 18 true 8 0, gl 20 18 true 19, gv 21 18 true (.len (tm 20)), gv 22 18
 true (.icmp .leq .i64 (tm 21) (ci 4)), oy 23 18 22, om 24 23, gf 25 24 true 9 0, gl 26 24 true 25, gv 27 24 true (.len (tm 26)), gv 28 24 true (.icmp
 .leq .i64 (tm 27) (ci 16)), oy 29 24 28, oc 30 16 [(tm 29), (ci 2)], om 1 30] [1]) .ret))
theorem l15 : Callable Tryz.prog 15 := ⟨Tryz.f15, by kernel_rfl, by kernel_rfl, by kernel_rfl⟩
theorem a15 : AOf Tryz.prog 15 c15 [.t 1] := mkA (fn := Tryz.f15) (c := Tryz.f15.body.getD .skip) (fz := []) (im := []) kp15 (by kernel_rfl) (by kernel_rfl) (by kernel_rfl) (by kernel_rfl) (by kernel_rfl)
def kp17 (r : Nat) : List Nat := match r with
  | 0 => [0]
  | 1 => [0, 2, 3]
  | 2 => [0, 2, 3, 10]
  | 3 => [1]
  | 4 => [1]
  | _ => []
def c17 : ACode :=
(sq (rg [ oi 1 0] [0]) (sq (.reg 8 [ ov 5 (.ld 10 true (tm 0)), oc 6 18 [(tm 5)], om 4 6, ox 7 0 4, ox 8 1 4, ⟨some 2, none, .alloc 5 [zr, z0, z0, z0,
 z0, zs, zs, zs, zs, zs]⟩, ⟨none, none, .st 10 (tm 2) (tm 7)⟩, om 3 8] [0, 2, 3]) (sq (sq (rg [ om 9 3, ov 10 (.icmp .neq .i64 (tm 9) (ci 0))] [0, 2,
 3, 10]) (.cond (tm 10) (sq (rg [ om 11 3, om 1 11] [1]) .ret) .skip)) (sq (rg [ ov 12 (.ld 10 true (tm 2)), ov 13 (.ld 10 true (tm 0)), oc 14 19 [(tm
 12), (tm 13)], oc 15 16 [(tm 14), (ci 170)], om 1 15] [1]) .ret))))
theorem l17 : Callable Tryz.prog 17 := ⟨Tryz.f17, by kernel_rfl, by kernel_rfl, by kernel_rfl⟩
theorem a17 : AOf Tryz.prog 17 c17 [.t 1] := mkA (fn := Tryz.f17) (c := Tryz.f17.body.getD .skip) (fz := []) (im := []) kp17 (by kernel_rfl) (by kernel_rfl) (by kernel_rfl) (by kernel_rfl) (by kernel_rfl)
def kp20 (r : Nat) : List Nat := match r with
  | 0 => [0]
  | 1 => [1]
  | _ => []
def c20 : ACode :=
(sq (rg [ oi 1 0] [0]) (sq (rg [ of 2 1 0, ol 3 2, ov 4 (.icmp .geq .i64 (tm 3) (ci 1)), om 5 4, gf 6 5 true 1 0, gl 7 5 true 6, gv 8 5 true (.icmp
 .leq .i64 (tm 7) (ci 255)), oy 9 5 8, oc 10 16 [(tm 9), (ci 170)], om 1 10] [1]) .ret))
theorem l20 : Callable Tryz.prog 20 := ⟨Tryz.f20, by kernel_rfl, by kernel_rfl, by kernel_rfl⟩
theorem a20 : AOf Tryz.prog 20 c20 [.t 1] := mkA (fn := Tryz.f20) (c := Tryz.f20.body.getD .skip) (fz := []) (im := []) kp20 (by kernel_rfl) (by kernel_rfl) (by kernel_rfl) (by kernel_rfl) (by kernel_rfl)
def kp21 (r : Nat) : List Nat := match r with
  | 0 => [0, 1]
  | 1 => [2]
  | 2 => [2]
  | _ => []
def c21 : ACode :=
(sq (rg [ oi 2 0] [0, 1]) (sq (rg [ of 4 2 0, ol 5 4, of 6 3 0, ol 7 6, of 8 4 0, ol 9 8, of 10 5 0, ol 11 10, oc 12 22 [(tm 5), (tm 7), (tm 9), (tm
 11)], om 3 12, ox 13 0 3, ox 14 1 3, ⟨none, none, .st 5 (tm 1) (tm 13)⟩, om 2 14] [2]) (sq (rg [ om 15 2, om 2 15] [2]) .ret)))
theorem a21 : AOf Tryz.prog 21 c21 [.t 2] := mkA (fn := Tryz.f21) (c := Tryz.f21.body.getD .skip) (fz := []) (im := []) kp21 (by kernel_rfl) (by kernel_rfl) (by kernel_rfl) (by kernel_rfl) (by kernel_rfl)
def kp23 (r : Nat) : List Nat := match r with
  | 0 => [0, 1]
  | 1 => [2]
  | _ => []
def c23 : ACode :=
(sq (rg [ oi 2 0] [0, 1]) (sq (rg [ ov 3 (.ld 10 true (tm 0)), ov 4 (.ld 5 true (tm 1)), oc 5 24 [(tm 3), (tm 4)], om 2 5] [2]) .ret))
theorem l23 : Callable Tryz.prog 23 := ⟨Tryz.f23, by kernel_rfl, by kernel_rfl, by kernel_rfl⟩
theorem a23 : AOf Tryz.prog 23 c23 [.t 2] := mkA (fn := Tryz.f23) (c := Tryz.f23.body.getD .skip) (fz := []) (im := []) kp23 (by kernel_rfl) (by kernel_rfl) (by kernel_rfl) (by kernel_rfl) (by kernel_rfl)
def kp25 (r : Nat) : List Nat := match r with
  | 0 => [0]
  | 1 => [1]
  | _ => []
def c25 : ACode :=
(sq (rg [ oi 1 0] [0]) (sq (rg [ ov 2 (.ld 10 true (tm 0)), oc 3 26 [(tm 2)], oc 4 16 [(tm 3), (ci 170)], om 1 4] [1]) .ret))
theorem l25 : Callable Tryz.prog 25 := ⟨Tryz.f25, by kernel_rfl, by kernel_rfl, by kernel_rfl⟩
theorem a25 : AOf Tryz.prog 25 c25 [.t 1] := mkA (fn := Tryz.f25) (c := Tryz.f25.body.getD .skip) (fz := []) (im := []) kp25 (by kernel_rfl) (by kernel_rfl) (by kernel_rfl) (by kernel_rfl) (by kernel_rfl)
def kp27 (r : Nat) : List Nat := match r with
  | 0 => [0]
  | 1 => [1]
  | _ => []
def c27 : ACode :=
(sq (rg [ oi 1 0] [0]) (sq (rg [ ov 2 (.ld 10 true (tm 0)), oc 3 13 [(tm 2)], on 4 3, ov 5 (.icmp .eql .i64 (tm 4) (ci 0)), oc 6 16 [(tm 5), (ci 171)],
 om 1 6] [1]) .ret))
theorem l27 : Callable Tryz.prog 27 := ⟨Tryz.f27, by kernel_rfl, by kernel_rfl, by kernel_rfl⟩
theorem a27 : AOf Tryz.prog 27 c27 [.t 1] := mkA (fn := Tryz.f27) (c := Tryz.f27.body.getD .skip) (fz := []) (im := []) kp27 (by kernel_rfl) (by kernel_rfl) (by kernel_rfl) (by kernel_rfl) (by kernel_rfl)
def kp6 (r : Nat) : List Nat := match r with
  | 0 => [1]
  | 1 => [1, 3]
  | 2 => [14, 15, 16]
  | 3 => [14, 15, 16, 17]
  | 4 => [5, 14, 15, 16]
  | 5 => [6, 14, 15, 16]
  | 6 => [6, 14, 15, 16, 23]
  | 7 => [2]
  | 8 => [14, 15, 16]
  | 9 => [2]
  | _ => []
def c6 : ACode :=
(sq (.reg 2 [ ⟨some 1, none, .box 0 10 (tm 0)⟩, oi 2 0] [1]) (sq (.reg 1 [ ⟨some 3, none, .alloc 0 [z0, z0, z0, zs, zs]⟩] [1, 3]) (sq (sq (rg [ ov 7
 (.fn (.func 15) [] [(tm 1)]), ov 8 (.fn (.func 17) [] [(tm 1)]), ov 9 (.fn (.func 20) [] [(tm 1)]), ov 10 (.fn (.func 21) [] [(tm 1), (tm 3)]), ov 11
 (.fn (.func 23) [] [(tm 1), (tm 3)]), ov 12 (.fn (.func 25) [] [(tm 1)]), ov 13 (.fn (.func 27) [] [(tm 1)]), ov 14 (.bs 1 7 .nilfn [(0, (tm 7)), (1,
 (tm 8)), (2, (tm 9)), (3, (tm 10)), (4, (tm 11)), (5, (tm 12)), (6, (tm 13))]), on 15 14, oi 16 0] [14, 15, 16]) (.block 0 (.loop (sq (rg [ ov 17
 (.icmp .lss .i64 (tm 16) (tm 15))] [14, 15, 16, 17]) (sq (.cond (tm 17) .skip (.exit 0)) (sq (.block 1 (sq (rg [ oa 18 1 14 16, ol 19 18, om 5 19] [5,
 14, 15, 16]) (sq (rg [ om 20 5, ⟨some 21, none, .call false (tm 20) []⟩, om 6 21] [6, 14, 15, 16]) (sq (rg [ om 22 6, ov 23 (.icmp .neq .i64 (tm 22)
 (ci 0))] [6, 14, 15, 16, 23]) (.cond (tm 23) (sq (rg [ om 24 6, om 2 24] [2]) .ret) .skip))))) (rg [ ov 25 (.arith .add .i64 (tm 16) (ci 1)), om 16
 25] [14, 15, 16]))))))) (sq (rg [ oi 2 0] [2]) .ret))))
theorem a6 : AOf Tryz.prog 6 c6 [.t 2] := mkA (fn := Tryz.f6) (c := Tryz.f6.body.getD .skip) (fz := []) (im := [(5, 1)]) kp6 (by kernel_rfl) (by kernel_rfl) (by kernel_rfl) (by kernel_rfl) (by kernel_rfl)
end Go.AM
end
section
set_option maxRecDepth 20000
set_option linter.all false
namespace Go.AM
open Go.Proofs
def kp76 (r : Nat) : List Nat := match r with
  | 0 => [0, 1]
  | 1 => [0, 1, 5]
  | 2 => [0, 1, 5, 9]
  | 4 => [0, 1, 5, 17]
  | 5 => [4]
  | 3 => [0, 1, 5]
  | 6 => [4]
  | _ => []
def c76 : ACode :=
(sq (rg [ ob 4 false] [0, 1]) (sq (sq (rg [ oi 5 0] [0, 1, 5]) (.block 0 (.loop (sq (sq (rg [ om 6 5, om 7 0, on 8 7, ov 9 (.icmp .lss .i64 (tm 6) (tm
 8))] [0, 1, 5, 9]) (.cond (tm 9) .skip (.exit 0))) (sq (.block 1 (sq (rg [ om 12 0, om 13 5, oa 14 1 12 13, ol 15 14, om 16 1, ov 17 (.icmp .eql .i64
 (tm 15) (tm 16))] [0, 1, 5, 17]) (.cond (tm 17) (sq (rg [ ob 4 true] [4]) .ret) .skip))) (rg [ om 10 5, ov 11 (.arith .add .i64 (tm 10) (ci 1)), om 5
 11] [0, 1, 5])))))) (sq (rg [ ob 4 false] [4]) .ret)))
theorem a76 : AOf Tryz.prog 76 c76 [.t 4] := mkA (fn := Tryz.f76) (c := Tryz.f76.body.getD .skip) (fz := []) (im := []) kp76 (by kernel_rfl) (by kernel_rfl) (by kernel_rfl) (by kernel_rfl) (by kernel_rfl)
def kp12 (r : Nat) : List Nat := match r with
  | 0 => [0, 1]
  | 1 => [0, 1, 10]
  | 2 => [4]
  | 3 => [0, 1, 5]
  | 4 => [0, 1, 5, 14]
  | 6 => [0, 1, 5, 25]
  | 7 => [4]
  | 5 => [0, 1, 5]
  | 8 => [4]
  | _ => []
def c12 : ACode :=
(sq (rg [ ob 4 false] [0, 1]) (sq (sq (rg [ om 6 0, on 7 6, om 8 1, on 9 8, ov 10 (.icmp .neq .i64 (tm 7) (tm 9))] [0, 1, 10]) (.cond (tm 10) (sq (rg [
 ob 4 false] [4]) .ret) .skip)) (sq (sq (rg [ oi 5 0] [0, 1, 5]) (.block 0 (.loop (sq (sq (rg [ om 11 5, om 12 0, on 13 12, ov 14 (.icmp .lss .i64 (tm
 11) (tm 13))] [0, 1, 5, 14]) (.cond (tm 14) .skip (.exit 0))) (sq (.block 1 (sq (rg [ om 17 0, om 18 5, oa 19 1 17 18, ol 20 19, om 21 1, om 22 5, oa
 23 1 21 22, ol 24 23, ov 25 (.icmp .neq .i64 (tm 20) (tm 24))] [0, 1, 5, 25]) (.cond (tm 25) (sq (rg [ ob 4 false] [4]) .ret) .skip))) (rg [ om 15 5,
 ov 16 (.arith .add .i64 (tm 15) (ci 1)), om 5 16] [0, 1, 5])))))) (sq (rg [ ob 4 true] [4]) .ret))))
theorem a12 : AOf Tryz.prog 12 c12 [.t 4] := mkA (fn := Tryz.f12) (c := Tryz.f12.body.getD .skip) (fz := []) (im := []) kp12 (by kernel_rfl) (by kernel_rfl) (by kernel_rfl) (by kernel_rfl) (by kernel_rfl)
def kp30 (r : Nat) : List Nat := match r with
  | 0 => [0, 1, 2, 3, 8]
  | 1 => [0, 1, 2, 3, 8, 34]
  | 2 => [8, 9]
  | 3 => [0, 1, 2, 3, 8, 10]
  | 4 => [0, 1, 2, 3, 8, 10, 39]
  | 6 => [0, 1, 2, 3, 8, 10, 72]
  | 7 => [8, 9]
  | 5 => [0, 1, 2, 3, 8, 10]
  | 8 => [1, 2, 3, 8, 11]
  | 9 => [1, 2, 3, 8, 11, 12]
  | 10 => [1, 2, 3, 8, 11, 12, 82]
  | 12 => [1, 2, 3, 8, 11, 12, 87]
  | 13 => [1, 2, 3, 8, 11, 12]
  | 14 => [1, 2, 3, 8, 11, 12]
  | 11 => [1, 2, 3, 8, 11, 12]
  | 15 => [8, 11, 103]
  | 16 => [8, 9]
  | 17 => [8, 9]
  | _ => []
def c30 : ACode :=
(sq (.reg 2 [ ⟨some 8, none, .alloc 0 [z0, z0, z0, zs, zs]⟩, oi 9 0] [0, 1, 2, 3, 8]) (sq (sq (rg [ om 13 0, ov 14 (.icmp .neq .i64 (tm 13) (ci 1)), om
 15 14, gm 16 15 true 0, gv 17 15 true (.icmp .neq .i64 (tm 16) (ci 2)), oy 18 15 17, om 19 18, gm 20 19 false 1, gv 21 19 false (.icmp .lss .i64 (tm
 20) (ci 1)), oz 22 19 21, om 23 22, gm 24 23 false 1, gv 25 23 false (.icmp .gtr .i64 (tm 24) (ci 16)), oz 26 23 25, om 27 26, gm 28 27 false 2, gv 29
 27 false (.icmp .lss .i64 (tm 28) (ci 1)), oz 30 27 29, om 31 30, gm 32 31 false 2, gv 33 31 false (.icmp .gtr .i64 (tm 32) (ci 16)), oz 34 31 33] [0,
 1, 2, 3, 8, 34]) (.cond (tm 34) (sq (rg [ ov 35 (.build [z0, z0, z0, zs, zs] []), ⟨none, none, .st 5 (tm 8) (tm 35)⟩, oi 9 130] [8, 9]) .ret) .skip))
 (sq (sq (rg [ oi 10 0] [0, 1, 2, 3, 8, 10]) (.block 0 (.loop (sq (sq (rg [ om 36 10, om 37 3, on 38 37, ov 39 (.icmp .lss .i64 (tm 36) (tm 38))] [0,
 1, 2, 3, 8, 10, 39]) (.cond (tm 39) .skip (.exit 0))) (sq (.block 1 (sq (rg [ om 42 3, om 43 10, oa 44 1 42 43, ol 45 44, ov 46 (.icmp .lss .i64 (tm
 45) (ci 0)), om 47 46, gm 48 47 false 3, gm 49 47 false 10, ga 50 47 false 1 48 49, gl 51 47 false 50, gm 52 47 false 1, gm 53 47 false 2, gv 54 47
 false (.arith .mul .i64 (tm 52) (tm 53)), gv 55 47 false (.icmp .geq .i64 (tm 51) (tm 54)), oz 56 47 55, om 57 56, gm 58 57 false 10, gv 59 57 false
 (.icmp .gtr .i64 (tm 58) (ci 0)), gm 60 57 false 59, gm 61 60 true 3, gm 62 60 true 10, ga 63 60 true 1 61 62, gl 64 60 true 63, gm 65 60 true 3, gm
 66 60 true 10, gv 67 60 true (.arith .sub .i64 (tm 66) (ci 1)), ga 68 60 true 1 65 67, gl 69 60 true 68, gv 70 60 true (.icmp .leq .i64 (tm 64) (tm
 69)), ⟨some 71, some (57, false), .pick (tm 60) (tm 70) cF⟩, oz 72 57 71] [0, 1, 2, 3, 8, 10, 72]) (.cond (tm 72) (sq (rg [ ov 73 (.build [z0, z0, z0,
 zs, zs] []), ⟨none, none, .st 5 (tm 8) (tm 73)⟩, oi 9 130] [8, 9]) .ret) .skip))) (rg [ om 40 10, ov 41 (.arith .add .i64 (tm 40) (ci 1)), om 10 41]
 [0, 1, 2, 3, 8, 10])))))) (sq (.reg 6 [ om 74 0, om 75 1, om 76 2, ov 77 (.build [z0, z0, z0, zs, zs] [(0, 1, (tm 74)), (1, 1, (tm 75)), (2, 1, (tm
 76))]), ⟨some 11, none, .alloc 4 [z0, z0, z0, zs, zs]⟩, ⟨none, none, .st 5 (tm 11) (tm 77)⟩] [1, 2, 3, 8, 11]) (sq (sq (rg [ oi 12 0] [1, 2, 3, 8, 11,
 12]) (.block 2 (.loop (sq (sq (rg [ om 78 12, om 79 1, om 80 2, ov 81 (.arith .mul .i64 (tm 79) (tm 80)), ov 82 (.icmp .lss .i64 (tm 78) (tm 81))] [1,
 2, 3, 8, 11, 12, 82]) (.cond (tm 82) .skip (.exit 2))) (sq (.block 3 (sq (rg [ om 85 3, om 86 12, oc 87 76 [(tm 85), (tm 86)]] [1, 2, 3, 8, 11, 12,
 87]) (.cond (tm 87) (.reg 7 [ of 88 3 11, ol 89 88, om 90 12, ov 91 (.bs 1 1 z0 [(0, (tm 90))]), ⟨some 92, none, .app 4 1 8 (tm 89) (tm 91) false⟩, of
 93 3 11, ⟨none, none, .st 1 (tm 93) (tm 92)⟩] [1, 2, 3, 8, 11, 12]) (.reg 7 [ of 94 4 11, ol 95 94, om 96 12, ov 97 (.bs 1 1 z0 [(0, (tm 96))]), ⟨some
 98, none, .app 4 1 8 (tm 95) (tm 97) false⟩, of 99 4 11, ⟨none, none, .st 1 (tm 99) (tm 98)⟩] [1, 2, 3, 8, 11, 12])))) (rg [ om 83 12, ov 84 (.arith
 .add .i64 (tm 83) (ci 1)), om 12 84] [1, 2, 3, 8, 11, 12])))))) (sq (sq (rg [ of 100 4 11, ol 101 100, on 102 101, ov 103 (.icmp .eql .i64 (tm 102)
 (ci 0))] [8, 11, 103]) (.cond (tm 103) (sq (rg [ ov 104 (.build [z0, z0, z0, zs, zs] []), ⟨none, none, .st 5 (tm 8) (tm 104)⟩, oi 9 130] [8, 9]) .ret)
 .skip)) (sq (rg [ ov 105 (.ld 5 true (tm 11)), ⟨none, none, .st 5 (tm 8) (tm 105)⟩, oi 9 0] [8, 9]) .ret)))))))
theorem a30 : AOf Tryz.prog 30 c30 [.c 8 5 true, .t 9] := mkA (fn := Tryz.f30) (c := Tryz.f30.body.getD .skip) (fz := []) (im := []) kp30 (by kernel_rfl) (by kernel_rfl) (by kernel_rfl) (by kernel_rfl) (by kernel_rfl)
def kp92 (r : Nat) : List Nat := match r with
  | 0 => [1]
  | 1 => [1, 3, 4]
  | 2 => [26]
  | 3 => [2]
  | 4 => [2]
  | _ => []
def c92 : ACode :=
(sq (.reg 2 [ ⟨some 1, none, .box 0 5 (tm 0)⟩, oi 2 0] [1]) (sq (.reg 15 [ of 6 0 1, ol 7 6, of 8 1 1, ol 9 8, of 10 2 1, ol 11 10, of 12 3 1, ol 13
 12, oc 14 30 [(tm 7), (tm 9), (tm 11), (tm 13)], om 5 14, ox 15 0 5, ox 16 1 5, ⟨some 3, none, .alloc 12 [z0, z0, z0, zs, zs]⟩, ⟨none, none, .st 5 (tm
 3) (tm 15)⟩, om 4 16] [1, 3, 4]) (sq (sq (rg [ om 17 4, ov 18 (.icmp .neq .i64 (tm 17) (ci 0)), om 19 18, gf 20 19 false 4 3, gl 21 19 false 20, gf 22
 19 false 4 1, gl 23 19 false 22, ⟨some 24, some (19, false), .call true (.c (.fn (.func 12) [] [])) [(tm 21), (tm 23)]⟩, gv 25 19 false (.not (tm
 24)), oz 26 19 25] [26]) (.cond (tm 26) (sq (rg [ oi 2 130] [2]) .ret) .skip)) (sq (rg [ oi 2 0] [2]) .ret))))
theorem a92 : AOf Tryz.prog 92 c92 [.t 2] := mkA (fn := Tryz.f92) (c := Tryz.f92.body.getD .skip) (fz := []) (im := []) kp92 (by kernel_rfl) (by kernel_rfl) (by kernel_rfl) (by kernel_rfl) (by kernel_rfl)
def kp93 (r : Nat) : List Nat := match r with
  | 0 => [1, 2]
  | 1 => [1, 2, 6]
  | 2 => [1, 2, 6, 11]
  | 4 => [1, 2, 6, 20]
  | 5 => [4, 5]
  | 3 => [1, 2, 6]
  | 6 => [4, 5]
  | _ => []
def c93 : ACode :=
(sq (.reg 3 [ ⟨some 2, none, .box 0 5 (tm 0)⟩, oi 4 0, ob 5 false] [1, 2]) (sq (sq (rg [ oi 6 0] [1, 2, 6]) (.block 0 (.loop (sq (sq (rg [ om 7 6, of 8
 4 2, ol 9 8, on 10 9, ov 11 (.icmp .lss .i64 (tm 7) (tm 10))] [1, 2, 6, 11]) (.cond (tm 11) .skip (.exit 0))) (sq (.block 1 (sq (rg [ of 14 4 2, ol 15
 14, om 16 6, oa 17 1 15 16, ol 18 17, om 19 1, ov 20 (.icmp .eql .i64 (tm 18) (tm 19))] [1, 2, 6, 20]) (.cond (tm 20) (sq (rg [ om 21 6, om 4 21, ob 5
 true] [4, 5]) .ret) .skip))) (rg [ om 12 6, ov 13 (.arith .add .i64 (tm 12) (ci 1)), om 6 13] [1, 2, 6])))))) (sq (rg [ oi 4 0, ob 5 false] [4, 5])
 .ret)))
theorem a93 : AOf Tryz.prog 93 c93 [.t 4, .t 5] := mkA (fn := Tryz.f93) (c := Tryz.f93.body.getD .skip) (fz := []) (im := []) kp93 (by kernel_rfl) (by kernel_rfl) (by kernel_rfl) (by kernel_rfl) (by kernel_rfl)
def kp77 (r : Nat) : List Nat := match r with
  | 0 => [1, 2]
  | 1 => [1, 2, 19]
  | 2 => [4, 5]
  | 3 => [1, 2, 6]
  | 4 => [1, 2, 6, 7]
  | 5 => [1, 2, 6, 7, 23]
  | 7 => [1, 2, 6, 7, 8]
  | 8 => [1, 2, 6, 7, 8, 9]
  | 9 => [1, 2, 6, 7, 8, 9, 32]
  | 11 => [1, 2, 6, 7, 8, 9, 10, 11]
  | 12 => [1, 2, 6, 7, 8, 9, 10, 53]
  | 13 => [4, 5]
  | 14 => [1, 2, 6, 7, 8, 9]
  | 10 => [1, 2, 6, 7, 8, 9]
  | 15 => [1, 2, 6, 7, 8, 60]
  | 16 => [4, 5]
  | 17 => [1, 2, 6, 7]
  | 6 => [1, 2, 6, 7]
  | 18 => [4, 5]
  | _ => []
def c77 : ACode :=
(sq (.reg 3 [ ⟨some 2, none, .box 0 5 (tm 0)⟩, ov 4 (.mv (.c zs)), oi 5 0] [1, 2]) (sq (sq (rg [ ov 12 (.ld 5 true (tm 2)), oc 13 92 [(tm 12)], ov 14
 (.icmp .neq .i64 (tm 13) (ci 0)), om 15 14, gm 16 15 false 1, gv 17 15 false (.len (tm 16)), gv 18 15 false (.icmp .gtr .i64 (tm 17) (ci 64)), oz 19
 15 18] [1, 2, 19]) (.cond (tm 19) (sq (rg [ ov 4 (.mv (.c zs)), oi 5 130] [4, 5]) .ret) .skip)) (sq (rg [ ov 6 (.mv (.c zs))] [1, 2, 6]) (sq (sq (rg [
 oi 7 0] [1, 2, 6, 7]) (.block 0 (.loop (sq (sq (rg [ om 20 7, om 21 1, on 22 21, ov 23 (.icmp .lss .i64 (tm 20) (tm 22))] [1, 2, 6, 7, 23]) (.cond (tm
 23) .skip (.exit 0))) (sq (.block 1 (sq (rg [ ov 8 (.mv (.c zs))] [1, 2, 6, 7, 8]) (sq (sq (rg [ oi 9 0] [1, 2, 6, 7, 8, 9]) (.block 2 (.loop (sq (sq
 (rg [ om 26 9, om 27 1, om 28 7, oa 29 1 27 28, ol 30 29, on 31 30, ov 32 (.icmp .lss .i64 (tm 26) (tm 31))] [1, 2, 6, 7, 8, 9, 32]) (.cond (tm 32)
 .skip (.exit 2))) (sq (.block 3 (sq (rg [ ov 36 (.ld 5 true (tm 2)), om 37 1, om 38 7, oa 39 1 37 38, ol 40 39, om 41 9, oa 42 1 40 41, ol 43 42, oc
 44 93 [(tm 36), (tm 43)], om 35 44, ox 45 0 35, ox 46 1 35, om 10 45, om 11 46] [1, 2, 6, 7, 8, 9, 10, 11]) (sq (sq (rg [ om 47 11, ot 48 47, om 49
 48, gm 50 49 false 8, gm 51 49 false 10, ⟨some 52, some (49, false), .call true (.c (.fn (.func 76) [] [])) [(tm 50), (tm 51)]⟩, oz 53 49 52] [1, 2,
 6, 7, 8, 9, 10, 53]) (.cond (tm 53) (sq (rg [ ov 4 (.mv (.c zs)), oi 5 130] [4, 5]) .ret) .skip)) (.reg 5 [ om 54 8, om 55 10, ov 56 (.bs 1 1 z0 [(0,
 (tm 55))]), ⟨some 57, none, .app 3 1 8 (tm 54) (tm 56) false⟩, om 8 57] [1, 2, 6, 7, 8, 9])))) (rg [ om 33 9, ov 34 (.arith .add .i64 (tm 33) (ci 1)),
 om 9 34] [1, 2, 6, 7, 8, 9])))))) (sq (sq (rg [ om 58 8, on 59 58, ov 60 (.icmp .eql .i64 (tm 59) (ci 0))] [1, 2, 6, 7, 8, 60]) (.cond (tm 60) (sq (rg
 [ ov 4 (.mv (.c zs)), oi 5 130] [4, 5]) .ret) .skip)) (.reg 5 [ om 61 6, om 62 8, ov 63 (.bs 1 1 zs [(0, (tm 62))]), ⟨some 64, none, .app 3 1 24 (tm
 61) (tm 63) false⟩, om 6 64] [1, 2, 6, 7]))))) (rg [ om 24 7, ov 25 (.arith .add .i64 (tm 24) (ci 1)), om 7 25] [1, 2, 6, 7])))))) (sq (rg [ om 65 6,
 om 4 65, oi 5 0] [4, 5]) .ret)))))
theorem a77 : AOf Tryz.prog 77 c77 [.t 4, .t 5] := mkA (fn := Tryz.f77) (c := Tryz.f77.body.getD .skip) (fz := []) (im := []) kp77 (by kernel_rfl) (by kernel_rfl) (by kernel_rfl) (by kernel_rfl) (by kernel_rfl)
def kp5 (r : Nat) : List Nat := match r with
  | 0 => [1]
  | 1 => [1, 3]
  | 2 => [1, 3, 4]
  | 3 => [1, 3, 4, 43]
  | 5 => [1, 3, 4]
  | 4 => [1, 3, 4]
  | 6 => [1, 3, 5]
  | 7 => [1, 3, 5, 63]
  | 9 => [1, 3, 5]
  | 10 => [1, 3, 5, 6]
  | 11 => [1, 3, 5, 6, 95]
  | 13 => [1, 3, 5, 6]
  | 12 => [1, 3, 5, 6]
  | 8 => [1, 3, 5]
  | 14 => [1, 3, 7]
  | 15 => [1, 3, 7, 118]
  | 17 => [1, 3, 7]
  | 16 => [1, 3, 7]
  | 18 => [1, 3, 8]
  | 19 => [1, 3, 8, 146]
  | 21 => [1, 3, 8, 9]
  | 22 => [1, 3, 8, 9]
  | 23 => [1, 3, 8, 9, 10]
  | 24 => [1, 3, 8, 9, 10, 183]
  | 26 => [1, 3, 8, 9, 10]
  | 25 => [1, 3, 8, 9, 10]
  | 27 => [1, 3, 8, 9, 11]
  | 28 => [1, 3, 8, 9, 11, 202]
  | 30 => [1, 3, 8, 9, 11]
  | 29 => [1, 3, 8, 9, 11]
  | 20 => [1, 3, 8]
  | 31 => [2]
  | _ => []
def c5 : ACode :=
(sq (.reg 2 [ ⟨some 1, none, .box 0 10 (tm 0)⟩, ob 2 false] [1]) (sq (rg [ of 12 0 1, ol 13 12, ov 14 (.lenS (tm 13)), of 15 5 1, ol 16 15, on 17 16,
 ov 18 (.arith .add .i64 (tm 14) (tm 17)), of 19 6 1, ol 20 19, on 21 20, ov 22 (.arith .add .i64 (tm 18) (tm 21)), of 23 7 1, ol 24 23, on 25 24, ov
 26 (.arith .add .i64 (tm 22) (tm 25)), of 27 8 1, ol 28 27, on 29 28, ov 30 (.arith .add .i64 (tm 26) (tm 29)), of 31 9 1, ol 32 31, on 33 32, ov 34
 (.arith .add .i64 (tm 30) (tm 33)), om 3 34] [1, 3]) (sq (sq (rg [ oi 4 0] [1, 3, 4]) (.block 0 (.loop (sq (sq (rg [ om 35 4, of 36 6 1, ol 37 36, on
 38 37, ov 39 (.icmp .lss .i64 (tm 35) (tm 38)), om 40 39, gm 41 40 true 3, gv 42 40 true (.icmp .lss .i64 (tm 41) (ci 2000)), oy 43 40 42] [1, 3, 4,
 43]) (.cond (tm 43) .skip (.exit 0))) (sq (.block 1 (rg [ om 46 3, of 47 6 1, ol 48 47, om 49 4, oa 50 2 48 49, of 51 0 50, ol 52 51, ov 53 (.lenS (tm
 52)), ov 54 (.arith .add .i64 (tm 46) (tm 53)), om 3 54] [1, 3, 4])) (rg [ om 44 4, ov 45 (.arith .add .i64 (tm 44) (ci 1)), om 4 45] [1, 3, 4]))))))
 (sq (sq (rg [ oi 5 0] [1, 3, 5]) (.block 2 (.loop (sq (sq (rg [ om 55 5, of 56 7 1, ol 57 56, on 58 57, ov 59 (.icmp .lss .i64 (tm 55) (tm 58)), om 60
 59, gm 61 60 true 3, gv 62 60 true (.icmp .lss .i64 (tm 61) (ci 2000)), oy 63 60 62] [1, 3, 5, 63]) (.cond (tm 63) .skip (.exit 2))) (sq (.block 3 (sq
 (rg [ om 66 3, of 67 7 1, ol 68 67, om 69 5, oa 70 2 68 69, of 71 0 70, ol 72 71, ov 73 (.lenS (tm 72)), ov 74 (.arith .add .i64 (tm 66) (tm 73)), of
 75 7 1, ol 76 75, om 77 5, oa 78 2 76 77, of 79 1 78, ol 80 79, on 81 80, ov 82 (.arith .add .i64 (tm 74) (tm 81)), om 3 82] [1, 3, 5]) (sq (rg [ oi 6
 0] [1, 3, 5, 6]) (.block 4 (.loop (sq (sq (rg [ om 83 6, of 84 7 1, ol 85 84, om 86 5, oa 87 2 85 86, of 88 1 87, ol 89 88, on 90 89, ov 91 (.icmp
 .lss .i64 (tm 83) (tm 90)), om 92 91, gm 93 92 true 3, gv 94 92 true (.icmp .lss .i64 (tm 93) (ci 2000)), oy 95 92 94] [1, 3, 5, 6, 95]) (.cond (tm
 95) .skip (.exit 4))) (sq (.block 5 (rg [ om 98 3, of 99 7 1, ol 100 99, om 101 5, oa 102 2 100 101, of 103 1 102, ol 104 103, om 105 6, oa 106 1 104
 105, ol 107 106, on 108 107, ov 109 (.arith .add .i64 (tm 98) (tm 108)), om 3 109] [1, 3, 5, 6])) (rg [ om 96 6, ov 97 (.arith .add .i64 (tm 96) (ci
 1)), om 6 97] [1, 3, 5, 6])))))))) (rg [ om 64 5, ov 65 (.arith .add .i64 (tm 64) (ci 1)), om 5 65] [1, 3, 5])))))) (sq (sq (rg [ oi 7 0] [1, 3, 7])
 (.block 6 (.loop (sq (sq (rg [ om 110 7, of 111 8 1, ol 112 111, on 113 112, ov 114 (.icmp .lss .i64 (tm 110) (tm 113)), om 115 114, gm 116 115 true
 3, gv 117 115 true (.icmp .lss .i64 (tm 116) (ci 2000)), oy 118 115 117] [1, 3, 7, 118]) (.cond (tm 118) .skip (.exit 6))) (sq (.block 7 (rg [ om 121
 3, of 122 8 1, ol 123 122, om 124 7, oa 125 6 123 124, of 126 0 125, ol 127 126, ov 128 (.lenS (tm 127)), ov 129 (.arith .add .i64 (tm 121) (tm 128)),
 of 130 8 1, ol 131 130, om 132 7, oa 133 6 131 132, of 134 1 133, ol 135 134, ov 136 (.lenS (tm 135)), ov 137 (.arith .add .i64 (tm 129) (tm 136)), om
 3 137] [1, 3, 7])) (rg [ om 119 7, ov 120 (.arith .add .i64 (tm 119) (ci 1)), om 7 120] [1, 3, 7])))))) (sq (sq (rg [ oi 8 0] [1, 3, 8]) (.block 8
 (.loop (sq (sq (rg [ om 138 8, of 139 9 1, ol 140 139, on 141 140, ov 142 (.icmp .lss .i64 (tm 138) (tm 141)), om 143 142, gm 144 143 true 3, gv 145
 143 true (.icmp .lss .i64 (tm 144) (ci 2000)), oy 146 143 145] [1, 3, 8, 146]) (.cond (tm 146) .skip (.exit 8))) (sq (.block 9 (sq (.reg 7 [ of 149 9
 1, ol 150 149, om 151 8, oa 152 12 150 151, ov 153 (.ld 12 true (tm 152)), ⟨some 9, none, .alloc 5 [zr, zr, z0, z0, zs, zs, z0, z0, z0, z0, zr, z0]⟩,
 ⟨none, none, .st 12 (tm 9) (tm 153)⟩] [1, 3, 8, 9]) (sq (rg [ om 154 3, of 155 0 9, ol 156 155, ov 157 (.lenS (tm 156)), ov 158 (.arith .add .i64 (tm
 154) (tm 157)), of 159 1 9, ol 160 159, ov 161 (.lenS (tm 160)), ov 162 (.arith .add .i64 (tm 158) (tm 161)), of 163 10 9, ol 164 163, ov 165 (.lenS
 (tm 164)), ov 166 (.arith .add .i64 (tm 162) (tm 165)), of 167 4 9, ol 168 167, on 169 168, ov 170 (.arith .add .i64 (tm 166) (tm 169)), of 171 5 9,
 ol 172 171, on 173 172, ov 174 (.arith .add .i64 (tm 170) (tm 173)), om 3 174] [1, 3, 8, 9]) (sq (sq (rg [ oi 10 0] [1, 3, 8, 9, 10]) (.block 10
 (.loop (sq (sq (rg [ om 175 10, of 176 4 9, ol 177 176, on 178 177, ov 179 (.icmp .lss .i64 (tm 175) (tm 178)), om 180 179, gm 181 180 true 3, gv 182
 180 true (.icmp .lss .i64 (tm 181) (ci 2000)), oy 183 180 182] [1, 3, 8, 9, 10, 183]) (.cond (tm 183) .skip (.exit 10))) (sq (.block 11 (rg [ om 186
 3, of 187 4 9, ol 188 187, om 189 10, oa 190 1 188 189, ol 191 190, ov 192 (.lenS (tm 191)), ov 193 (.arith .add .i64 (tm 186) (tm 192)), om 3 193]
 [1, 3, 8, 9, 10])) (rg [ om 184 10, ov 185 (.arith .add .i64 (tm 184) (ci 1)), om 10 185] [1, 3, 8, 9, 10])))))) (sq (rg [ oi 11 0] [1, 3, 8, 9, 11])
 (.block 12 (.loop (sq (sq (rg [ om 194 11, of 195 5 9, ol 196 195, on 197 196, ov 198 (.icmp .lss .i64 (tm 194) (tm 197)), om 199 198, gm 200 199 true
 3, gv 201 199 true (.icmp .lss .i64 (tm 200) (ci 2000)), oy 202 199 201] [1, 3, 8, 9, 11, 202]) (.cond (tm 202) .skip (.exit 12))) (sq (.block 13 (rg
 [ om 205 3, of 206 5 9, ol 207 206, om 208 11, oa 209 1 207 208, ol 210 209, ov 211 (.lenS (tm 210)), ov 212 (.arith .add .i64 (tm 205) (tm 211)), om
 3 212] [1, 3, 8, 9, 11])) (rg [ om 203 11, ov 204 (.arith .add .i64 (tm 203) (ci 1)), om 11 204] [1, 3, 8, 9, 11])))))))))) (rg [ om 147 8, ov 148
 (.arith .add .i64 (tm 147) (ci 1)), om 8 148] [1, 3, 8])))))) (sq (rg [ om 213 3, ov 214 (.icmp .lss .i64 (tm 213) (ci 2000)), om 2 214] [2])
 .ret)))))))
theorem a5 : AOf Tryz.prog 5 c5 [.t 2] := mkA (fn := Tryz.f5) (c := Tryz.f5.body.getD .skip) (fz := []) (im := []) kp5 (by kernel_rfl) (by kernel_rfl) (by kernel_rfl) (by kernel_rfl) (by kernel_rfl)
def kp78 (r : Nat) : List Nat := match r with
  | 0 => [0, 1]
  | 1 => [0, 1, 5]
  | 2 => [0, 1, 5, 10]
  | 4 => [0, 1, 5, 19]
  | 5 => [4]
  | 3 => [0, 1, 5]
  | 6 => [0, 1, 6]
  | 7 => [0, 1, 6, 23]
  | 9 => [0, 1, 6, 32]
  | 10 => [4]
  | 8 => [0, 1, 6]
  | 11 => [4]
  | _ => []
def c78 : ACode :=
(sq (rg [ ob 4 false] [0, 1]) (sq (sq (rg [ oi 5 0] [0, 1, 5]) (.block 0 (.loop (sq (sq (rg [ om 7 5, om 8 0, on 9 8, ov 10 (.icmp .lss .i64 (tm 7) (tm
 9))] [0, 1, 5, 10]) (.cond (tm 10) .skip (.exit 0))) (sq (.block 1 (sq (rg [ om 13 1, om 14 0, om 15 5, oa 16 1 14 15, ol 17 16, oc 18 76 [(tm 13),
 (tm 17)], ot 19 18] [0, 1, 5, 19]) (.cond (tm 19) (sq (rg [ ob 4 false] [4]) .ret) .skip))) (rg [ om 11 5, ov 12 (.arith .add .i64 (tm 11) (ci 1)), om
 5 12] [0, 1, 5])))))) (sq (sq (rg [ oi 6 0] [0, 1, 6]) (.block 2 (.loop (sq (sq (rg [ om 20 6, om 21 1, on 22 21, ov 23 (.icmp .lss .i64 (tm 20) (tm
 22))] [0, 1, 6, 23]) (.cond (tm 23) .skip (.exit 2))) (sq (.block 3 (sq (rg [ om 26 0, om 27 1, om 28 6, oa 29 1 27 28, ol 30 29, oc 31 76 [(tm 26),
 (tm 30)], ot 32 31] [0, 1, 6, 32]) (.cond (tm 32) (sq (rg [ ob 4 false] [4]) .ret) .skip))) (rg [ om 24 6, ov 25 (.arith .add .i64 (tm 24) (ci 1)), om
 6 25] [0, 1, 6])))))) (sq (rg [ ob 4 true] [4]) .ret))))
theorem a78 : AOf Tryz.prog 78 c78 [.t 4] := mkA (fn := Tryz.f78) (c := Tryz.f78.body.getD .skip) (fz := []) (im := []) kp78 (by kernel_rfl) (by kernel_rfl) (by kernel_rfl) (by kernel_rfl) (by kernel_rfl)
def kp31 (r : Nat) : List Nat := match r with
  | 0 => [2, 3]
  | 1 => [2, 3, 5]
  | 2 => [2, 3, 5, 15]
  | 4 => [2, 3, 5, 6]
  | 5 => [2, 3, 5, 6, 8]
  | 6 => [2, 3, 5, 6, 8, 31]
  | 7 => [4]
  | 8 => [2, 3, 5, 6, 9]
  | 9 => [2, 3, 5, 6, 9, 36]
  | 11 => [2, 3, 5, 6, 9, 10]
  | 12 => [2, 3, 5, 6, 9, 10, 41]
  | 14 => [2, 3, 5, 6, 9, 10, 52]
  | 15 => [4]
  | 13 => [2, 3, 5, 6, 9, 10]
  | 10 => [2, 3, 5, 6, 9]
  | 3 => [2, 3, 5]
  | 16 => [4]
  | _ => []
def c31 : ACode :=
(sq (.reg 3 [ ⟨some 2, none, .box 0 10 (tm 0)⟩, ⟨some 3, none, .box 1 5 (tm 1)⟩, oi 4 0] [2, 3]) (sq (sq (rg [ oi 5 0] [2, 3, 5]) (.block 0 (.loop (sq
 (sq (rg [ om 11 5, of 12 7 2, ol 13 12, on 14 13, ov 15 (.icmp .lss .i64 (tm 11) (tm 14))] [2, 3, 5, 15]) (.cond (tm 15) .skip (.exit 0))) (sq (.block
 1 (sq (rg [ of 18 7 2, ol 19 18, om 20 5, oa 21 2 19 20, of 22 1 21, ol 23 22, om 6 23] [2, 3, 5, 6]) (sq (rg [ ov 25 (.ld 5 true (tm 3)), om 26 6, oc
 27 77 [(tm 25), (tm 26)], om 24 27, ox 28 0 24, ox 29 1 24, om 7 28, om 8 29] [2, 3, 5, 6, 8]) (sq (sq (rg [ om 30 8, ov 31 (.icmp .neq .i64 (tm 30)
 (ci 0))] [2, 3, 5, 6, 8, 31]) (.cond (tm 31) (sq (rg [ om 32 8, om 4 32] [4]) .ret) .skip)) (sq (rg [ oi 9 0] [2, 3, 5, 6, 9]) (.block 2 (.loop (sq
 (sq (rg [ om 33 9, om 34 6, on 35 34, ov 36 (.icmp .lss .i64 (tm 33) (tm 35))] [2, 3, 5, 6, 9, 36]) (.cond (tm 36) .skip (.exit 2))) (sq (.block 3 (sq
 (rg [ oi 10 0] [2, 3, 5, 6, 9, 10]) (.block 4 (.loop (sq (sq (rg [ om 39 10, om 40 9, ov 41 (.icmp .lss .i64 (tm 39) (tm 40))] [2, 3, 5, 6, 9, 10,
 41]) (.cond (tm 41) .skip (.exit 4))) (sq (.block 5 (sq (rg [ om 44 6, om 45 9, oa 46 1 44 45, ol 47 46, om 48 6, om 49 10, oa 50 1 48 49, ol 51 50,
 oc 52 78 [(tm 47), (tm 51)]] [2, 3, 5, 6, 9, 10, 52]) (.cond (tm 52) (sq (rg [ oi 4 161] [4]) .ret) .skip))) (rg [ om 42 10, ov 43 (.arith .add .i64
 (tm 42) (ci 1)), om 10 43] [2, 3, 5, 6, 9, 10]))))))) (rg [ om 37 9, ov 38 (.arith .add .i64 (tm 37) (ci 1)), om 9 38] [2, 3, 5, 6, 9])))))))))) (rg [
 om 16 5, ov 17 (.arith .add .i64 (tm 16) (ci 1)), om 5 17] [2, 3, 5])))))) (sq (rg [ oi 4 0] [4]) .ret)))
theorem a31 : AOf Tryz.prog 31 c31 [.t 4] := mkA (fn := Tryz.f31) (c := Tryz.f31.body.getD .skip) (fz := []) (im := []) kp31 (by kernel_rfl) (by kernel_rfl) (by kernel_rfl) (by kernel_rfl) (by kernel_rfl)
def kp80 (r : Nat) : List Nat := match r with
  | 0 => [1]
  | 1 => [1, 5]
  | 2 => [1, 5, 6]
  | 3 => [2]
  | 4 => [1, 5, 21]
  | 5 => [2]
  | 6 => [1, 38]
  | 7 => [1, 3]
  | 8 => [2]
  | 9 => [2]
  | _ => []
def c80 : ACode :=
(sq (.reg 2 [ ⟨some 1, none, .box 0 6 (tm 0)⟩, ob 2 false] [1]) (sq (sq (rg [ of 4 3 1, ol 5 4] [1, 5]) (.block 0 (sq (rg [ ov 7 (.icmp .eql .i64 (tm
 5) (ci 1)), om 6 7] [1, 5, 6]) (.cond (tm 6) (sq (rg [ of 8 2 1, ol 9 8, ov 10 (.icmp .eql .i64 (tm 9) (ci 0)), om 11 10, gf 12 11 true 4 1, gl 13 11
 true 12, gv 14 11 true (.icmp .eql .i64 (tm 13) (ci 0)), oy 15 11 14, om 16 15, gf 17 16 true 5 1, gl 18 16 true 17, gv 19 16 true (.icmp .eql .i64
 (tm 18) (ci 0)), oy 20 16 19, om 2 20] [2]) .ret) (sq (rg [ ov 22 (.icmp .eql .i64 (tm 5) (ci 2)), om 21 22] [1, 5, 21]) (.cond (tm 21) (sq (rg [ of
 23 4 1, ol 24 23, ov 25 (.icmp .geq .i64 (tm 24) (ci 0)), om 26 25, gf 27 26 true 4 1, gl 28 26 true 27, gf 29 26 true 5 1, gl 30 26 true 29, gv 31 26
 true (.icmp .leq .i64 (tm 28) (tm 30)), oy 32 26 31, om 33 32, gf 34 33 true 5 1, gl 35 33 true 34, gv 36 33 true (.icmp .leq .i64 (tm 35) (ci
 65536)), oy 37 33 36, om 2 37] [2]) .ret) (sq (rg [ ov 39 (.icmp .eql .i64 (tm 5) (ci 3)), om 38 39] [1, 38]) (.cond (tm 38) (sq (rg [ of 40 2 1, ol
 41 40, ov 42 (.icmp .eql .i64 (tm 41) (ci 1)), om 43 42, gf 44 43 false 2 1, gl 45 43 false 44, gv 46 43 false (.icmp .eql .i64 (tm 45) (ci 2)), oz 47
 43 46, om 48 47, gf 49 48 false 2 1, gl 50 48 false 49, gv 51 48 false (.icmp .eql .i64 (tm 50) (ci 3)), oz 52 48 51, om 53 52, gf 54 53 false 2 1, gl
 55 53 false 54, gv 56 53 false (.icmp .geq .i64 (tm 55) (ci 8)), oz 57 53 56, om 3 57] [1, 3]) (sq (rg [ om 58 3, om 59 58, gf 60 59 true 4 1, gl 61
 59 true 60, gv 62 59 true (.icmp .eql .i64 (tm 61) (ci 0)), oy 63 59 62, om 64 63, gf 65 64 true 5 1, gl 66 64 true 65, gv 67 64 true (.icmp .eql .i64
 (tm 66) (ci 0)), oy 68 64 67, om 2 68] [2]) .ret)) .skip)))))))) (sq (rg [ ob 2 false] [2]) .ret)))
theorem a80 : AOf Tryz.prog 80 c80 [.t 2] := mkA (fn := Tryz.f80) (c := Tryz.f80.body.getD .skip) (fz := []) (im := []) kp80 (by kernel_rfl) (by kernel_rfl) (by kernel_rfl) (by kernel_rfl) (by kernel_rfl)
def kp95 (r : Nat) : List Nat := match r with
  | 0 => [2, 3, 4, 5]
  | 1 => [2, 3, 4, 5, 20]
  | 2 => [8]
  | 3 => [2, 3, 5, 9]
  | 4 => [8]
  | _ => []
def c95 : ACode :=
(sq (.reg 3 [ ⟨some 4, none, .box 0 10 (tm 0)⟩, ⟨some 5, none, .box 1 12 (tm 1)⟩, ob 8 false] [2, 3, 4, 5]) (sq (sq (rg [ of 10 11 5, ol 11 10, ov 12
 (.icmp .lss .i64 (tm 11) (ci 0)), om 13 12, gf 14 13 false 11 5, gl 15 13 false 14, gf 16 13 false 8 4, gl 17 13 false 16, gv 18 13 false (.len (tm
 17)), gv 19 13 false (.icmp .geq .i64 (tm 15) (tm 18)), oz 20 13 19] [2, 3, 4, 5, 20]) (.cond (tm 20) (sq (rg [ ob 8 false] [8]) .ret) .skip)) (sq
 (.reg 8 [ of 21 8 4, ol 22 21, of 23 11 5, ol 24 23, oa 25 6 22 24, ov 26 (.ld 6 true (tm 25)), ⟨some 9, none, .alloc 6 [zr, zr, z0, z0, z0, z0]⟩,
 ⟨none, none, .st 6 (tm 9) (tm 26)⟩] [2, 3, 5, 9]) (sq (rg [ of 27 3 9, ol 28 27, om 29 2, ov 30 (.icmp .eql .i64 (tm 28) (tm 29)), om 31 30, gm 32 31
 true 3, gv 33 31 true (.not (tm 32)), gm 34 31 true 33, gf 35 34 false 2 9, gl 36 34 false 35, gf 37 34 false 3 5, gl 38 34 false 37, gv 39 34 false
 (.icmp .eql .i64 (tm 36) (tm 38)), ⟨some 40, some (31, true), .pick (tm 34) cT (tm 39)⟩, oy 41 31 40, om 8 41] [8]) .ret))))
theorem a95 : AOf Tryz.prog 95 c95 [.t 8] := mkA (fn := Tryz.f95) (c := Tryz.f95.body.getD .skip) (fz := []) (im := []) kp95 (by kernel_rfl) (by kernel_rfl) (by kernel_rfl) (by kernel_rfl) (by kernel_rfl)
def kp94 (r : Nat) : List Nat := match r with
  | 0 => [2, 3]
  | 1 => [2, 3, 12]
  | 2 => [4]
  | 3 => [2, 3, 15]
  | 4 => [4]
  | 5 => [4]
  | _ => []
def c94 : ACode :=
(sq (.reg 3 [ ⟨some 2, none, .box 0 10 (tm 0)⟩, ⟨some 3, none, .box 1 12 (tm 1)⟩, ob 4 false] [2, 3]) (sq (sq (rg [ of 5 8 3, ol 6 5, ov 7 (.icmp .lss
 .i64 (tm 6) (ci 1)), om 8 7, gf 9 8 false 8 3, gl 10 8 false 9, gv 11 8 false (.icmp .gtr .i64 (tm 10) (ci 3)), oz 12 8 11] [2, 3, 12]) (.cond (tm 12)
 (sq (rg [ ob 4 false] [4]) .ret) .skip)) (sq (sq (rg [ of 13 10 3, ol 14 13, ov 15 (.scmp .eql (tm 14) (.c zr))] [2, 3, 15]) (.cond (tm 15) (sq (rg [
 of 16 9 3, ol 17 16, ov 18 (.icmp .geq .i64 (tm 17) (ci 0)), om 19 18, gf 20 19 true 9 3, gl 21 19 true 20, gv 22 19 true (.icmp .leq .i64 (tm 21) (ci
 65536)), oy 23 19 22, om 24 23, gf 25 24 true 11 3, gl 26 24 true 25, gv 27 24 true (.icmp .eql .i64 (tm 26) (ci (-1))), oy 28 24 27, om 4 28] [4])
 .ret) .skip)) (sq (rg [ of 29 9 3, ol 30 29, ov 31 (.icmp .eql .i64 (tm 30) (ci 0)), om 32 31, gv 33 32 true (.ld 10 true (tm 2)), gv 34 32 true (.ld
 12 true (tm 3)), ⟨some 35, some (32, true), .call true (.c (.fn (.func 95) [] [])) [(tm 33), (tm 34), (ci 2), cT]⟩, oy 36 32 35, om 4 36] [4])
 .ret))))
theorem a94 : AOf Tryz.prog 94 c94 [.t 4] := mkA (fn := Tryz.f94) (c := Tryz.f94.body.getD .skip) (fz := []) (im := []) kp94 (by kernel_rfl) (by kernel_rfl) (by kernel_rfl) (by kernel_rfl) (by kernel_rfl)
def kp79 (r : Nat) : List Nat := match r with
  | 0 => [2, 3]
  | 1 => [2, 3, 5]
  | 2 => [2, 3, 5, 6]
  | 3 => [2, 3, 5, 6, 7]
  | 4 => [2, 3, 5, 6, 7, 8]
  | 5 => [2, 3, 5, 6, 7, 8, 9]
  | 6 => [2, 3, 5, 6, 7, 8, 9, 10]
  | 7 => [2, 3, 5, 6, 7, 8, 9, 10, 12]
  | 9 => [2, 3, 5, 6, 7, 8, 9, 10, 12, 13]
  | 10 => [2, 3, 5, 6, 7, 8, 9, 10, 12, 13]
  | 11 => [2, 3, 5, 6, 7, 8, 9, 10, 12, 13]
  | 12 => [2, 3, 5, 6, 7, 8, 9, 10]
  | 13 => [2, 3, 5, 6, 7, 8, 9, 10, 12, 17]
  | 14 => [2, 3, 5, 7, 8, 9]
  | 15 => [2, 3, 5, 6, 7, 8, 9]
  | 16 => [2, 3, 5, 6, 7, 8, 9, 10]
  | 17 => [2, 3, 5, 6, 7, 8, 9, 10, 12, 19]
  | 18 => [2, 3, 5, 6, 7, 8, 9]
  | 19 => [2, 3, 5, 6, 7, 8, 9, 10]
  | 20 => [2, 3, 5, 6, 7, 8, 9, 10, 12, 21]
  | 21 => [2, 3, 5, 7, 8, 10]
  | 22 => [2, 3, 5, 6, 7, 8, 10]
  | 23 => [2, 3, 5, 6, 7, 8, 9, 10]
  | 24 => [2, 3, 5, 6, 7, 8, 9, 10, 12, 23]
  | 25 => [2, 3, 5, 6, 7, 8, 9, 10, 12, 25]
  | 26 => [2, 3, 5, 6, 7, 8, 9, 10]
  | 27 => [2, 3, 5, 6, 7, 8, 9, 10, 12, 27]
  | 28 => [2, 3, 5, 6, 8, 9, 10]
  | 29 => [2, 3, 5, 6, 7, 8, 9, 10]
  | 30 => [2, 3, 5, 6, 7, 8, 9, 10, 12, 29]
  | 31 => [2, 3, 5, 6, 7, 8, 9, 10, 12, 29]
  | 32 => [2, 3, 5, 6, 7, 8, 9, 10]
  | 33 => [2, 3, 5, 6, 7, 8, 9, 10, 12, 32]
  | 34 => [2, 3, 5, 6, 7, 8, 9, 10]
  | 35 => [2, 3, 5, 6, 7, 8, 9, 34]
  | 36 => [2, 3, 5, 6, 7, 8, 9, 10]
  | 8 => [4]
  | 37 => [2, 3, 5, 6, 7, 8, 9, 10, 77]
  | 38 => [4]
  | 39 => [2, 3, 8, 9, 10, 99]
  | 40 => [4]
  | 41 => [2, 3, 8, 10, 129]
  | 42 => [4]
  | 43 => [2, 3, 149]
  | 44 => [4]
  | 45 => [2, 3, 152]
  | 46 => [4]
  | 47 => [4]
  | _ => []
def c79 : ACode :=
(sq (.reg 3 [ ⟨some 2, none, .box 0 10 (tm 0)⟩, ⟨some 3, none, .box 1 12 (tm 1)⟩, ob 4 false] [2, 3]) (sq (rg [ ob 5 false] [2, 3, 5]) (sq (rg [ ob 6
 false] [2, 3, 5, 6]) (sq (rg [ ob 7 false] [2, 3, 5, 6, 7]) (sq (rg [ ob 8 false] [2, 3, 5, 6, 7, 8]) (sq (rg [ ob 9 false] [2, 3, 5, 6, 7, 8, 9]) (sq
 (rg [ ob 10 false] [2, 3, 5, 6, 7, 8, 9, 10]) (sq (sq (rg [ of 11 2 3, ol 12 11] [2, 3, 5, 6, 7, 8, 9, 10, 12]) (.block 0 (sq (sq (rg [ ov 14 (.icmp
 .eql .i64 (tm 12) (ci 1)), om 13 14] [2, 3, 5, 6, 7, 8, 9, 10, 12, 13]) (.cond (tm 13) .skip (sq (rg [ ov 15 (.icmp .eql .i64 (tm 12) (ci 4)), om 13
 15] [2, 3, 5, 6, 7, 8, 9, 10, 12, 13]) (.cond (tm 13) .skip (rg [ ov 16 (.icmp .eql .i64 (tm 12) (ci 12)), om 13 16] [2, 3, 5, 6, 7, 8, 9, 10, 12,
 13]))))) (.cond (tm 13) (rg [ ob 5 true] [2, 3, 5, 6, 7, 8, 9, 10]) (sq (rg [ ov 18 (.icmp .eql .i64 (tm 12) (ci 2)), om 17 18] [2, 3, 5, 6, 7, 8, 9,
 10, 12, 17]) (.cond (tm 17) (sq (rg [ ob 5 true] [2, 3, 5, 7, 8, 9]) (sq (rg [ ob 6 true] [2, 3, 5, 6, 7, 8, 9]) (rg [ ob 10 true] [2, 3, 5, 6, 7, 8,
 9, 10]))) (sq (rg [ ov 20 (.icmp .eql .i64 (tm 12) (ci 3)), om 19 20] [2, 3, 5, 6, 7, 8, 9, 10, 12, 19]) (.cond (tm 19) (sq (rg [ ob 5 true] [2, 3, 5,
 6, 7, 8, 9]) (rg [ ob 10 true] [2, 3, 5, 6, 7, 8, 9, 10])) (sq (rg [ ov 22 (.icmp .eql .i64 (tm 12) (ci 5)), om 21 22] [2, 3, 5, 6, 7, 8, 9, 10, 12,
 21]) (.cond (tm 21) (sq (rg [ ob 5 true] [2, 3, 5, 7, 8, 10]) (sq (rg [ ob 6 true] [2, 3, 5, 6, 7, 8, 10]) (rg [ ob 9 true] [2, 3, 5, 6, 7, 8, 9,
 10]))) (sq (rg [ ov 24 (.icmp .eql .i64 (tm 12) (ci 6)), om 23 24] [2, 3, 5, 6, 7, 8, 9, 10, 12, 23]) (.cond (tm 23) .skip (sq (rg [ ov 26 (.icmp .eql
 .i64 (tm 12) (ci 7)), om 25 26] [2, 3, 5, 6, 7, 8, 9, 10, 12, 25]) (.cond (tm 25) (rg [ ob 8 true] [2, 3, 5, 6, 7, 8, 9, 10]) (sq (rg [ ov 28 (.icmp
 .eql .i64 (tm 12) (ci 8)), om 27 28] [2, 3, 5, 6, 7, 8, 9, 10, 12, 27]) (.cond (tm 27) (sq (rg [ ob 6 true] [2, 3, 5, 6, 8, 9, 10]) (rg [ ob 7 true]
 [2, 3, 5, 6, 7, 8, 9, 10])) (sq (sq (rg [ ov 30 (.icmp .eql .i64 (tm 12) (ci 9)), om 29 30] [2, 3, 5, 6, 7, 8, 9, 10, 12, 29]) (.cond (tm 29) .skip
 (rg [ ov 31 (.icmp .eql .i64 (tm 12) (ci 10)), om 29 31] [2, 3, 5, 6, 7, 8, 9, 10, 12, 29]))) (.cond (tm 29) (rg [ ob 6 true] [2, 3, 5, 6, 7, 8, 9,
 10]) (sq (rg [ ov 33 (.icmp .eql .i64 (tm 12) (ci 11)), om 32 33] [2, 3, 5, 6, 7, 8, 9, 10, 12, 32]) (.cond (tm 32) (rg [ ob 9 true] [2, 3, 5, 6, 7,
 8, 9, 10]) (sq (rg [ ov 35 (.icmp .eql .i64 (tm 12) (ci 13)), om 34 35] [2, 3, 5, 6, 7, 8, 9, 34]) (.cond (tm 34) (rg [ ob 10 true] [2, 3, 5, 6, 7, 8,
 9, 10]) (sq (rg [ ob 4 false] [4]) .ret))))))))))))))))))))))) (sq (sq (rg [ om 36 5, ot 37 36, om 38 37, gf 39 38 true 1 3, gl 40 38 true 39, gv 41
 38 true (.scmp .neq (tm 40) (.c zr)), gm 42 38 true 41, gf 43 42 false 3 3, gl 44 42 false 43, gv 45 42 false (.icmp .neq .i64 (tm 44) (ci 0)), ⟨some
 46, some (38, true), .pick (tm 42) cT (tm 45)⟩, oy 47 38 46, om 48 47, gm 49 48 false 6, gv 50 48 false (.not (tm 49)), gm 51 48 false 50, gf 52 51
 true 4 3, gl 53 51 true 52, gv 54 51 true (.len (tm 53)), gv 55 51 true (.icmp .gtr .i64 (tm 54) (ci 0)), gm 56 51 true 55, gf 57 56 false 6 3, gl 58
 56 false 57, gv 59 56 false (.icmp .neq .i64 (tm 58) (ci 0)), ⟨some 60, some (51, true), .pick (tm 56) cT (tm 59)⟩, ⟨some 61, some (48, false), .pick
 (tm 51) (tm 60) cF⟩, oz 62 48 61, om 63 62, gm 64 63 false 7, gv 65 63 false (.not (tm 64)), gm 66 63 false 65, gf 67 66 true 5 3, gl 68 66 true 67,
 gv 69 66 true (.len (tm 68)), gv 70 66 true (.icmp .gtr .i64 (tm 69) (ci 0)), gm 71 66 true 70, gf 72 71 false 7 3, gl 73 71 false 72, gv 74 71 false
 (.icmp .neq .i64 (tm 73) (ci 0)), ⟨some 75, some (66, true), .pick (tm 71) cT (tm 74)⟩, ⟨some 76, some (63, false), .pick (tm 66) (tm 75) cF⟩, oz 77
 63 76] [2, 3, 5, 6, 7, 8, 9, 10, 77]) (.cond (tm 77) (sq (rg [ ob 4 false] [4]) .ret) .skip)) (sq (sq (rg [ om 78 5, om 79 78, gf 80 79 true 1 3, gl
 81 79 true 80, gv 82 79 true (.scmp .eql (tm 81) (.c zr)), oy 83 79 82, om 84 83, gm 85 84 false 6, gm 86 84 false 85, gf 87 86 true 6 3, gl 88 86
 true 87, gv 89 86 true (.icmp .eql .i64 (tm 88) (ci 0)), ⟨some 90, some (84, false), .pick (tm 86) (tm 89) cF⟩, oz 91 84 90, om 92 91, gm 93 92 false
 7, gm 94 92 false 93, gf 95 94 true 7 3, gl 96 94 true 95, gv 97 94 true (.icmp .eql .i64 (tm 96) (ci 0)), ⟨some 98, some (92, false), .pick (tm 94)
 (tm 97) cF⟩, oz 99 92 98] [2, 3, 8, 9, 10, 99]) (.cond (tm 99) (sq (rg [ ob 4 false] [4]) .ret) .skip)) (sq (sq (rg [ om 100 10, ot 101 100, om 102
 101, gf 103 102 true 8 3, gl 104 102 true 103, gv 105 102 true (.icmp .neq .i64 (tm 104) (ci 0)), gm 106 102 true 105, gm 107 106 false 8, gv 108 106
 false (.not (tm 107)), gm 109 106 false 108, gf 110 109 true 9 3, gl 111 109 true 110, gv 112 109 true (.icmp .neq .i64 (tm 111) (ci 0)), ⟨some 113,
 some (106, false), .pick (tm 109) (tm 112) cF⟩, ⟨some 114, some (102, true), .pick (tm 106) cT (tm 113)⟩, gm 115 102 true 114, gm 116 115 false 9, gv
 117 115 false (.not (tm 116)), gm 118 115 false 117, gf 119 118 true 10 3, gl 120 118 true 119, gv 121 118 true (.scmp .neq (tm 120) (.c zr)), gm 122
 118 true 121, gf 123 122 false 11 3, gl 124 122 false 123, gv 125 122 false (.icmp .neq .i64 (tm 124) (ci (-1))), ⟨some 126, some (118, true), .pick
 (tm 122) cT (tm 125)⟩, ⟨some 127, some (115, false), .pick (tm 118) (tm 126) cF⟩, ⟨some 128, some (102, true), .pick (tm 115) cT (tm 127)⟩, oy 129 102
 128] [2, 3, 8, 10, 129]) (.cond (tm 129) (sq (rg [ ob 4 false] [4]) .ret) .skip)) (sq (sq (rg [ om 130 10, om 131 130, gv 132 131 true (.ld 10 true
 (tm 2)), gv 133 131 true (.ld 12 true (tm 3)), ⟨some 134, some (131, true), .call true (.c (.fn (.func 94) [] [])) [(tm 132), (tm 133)]⟩, gv 135 131
 true (.not (tm 134)), oy 136 131 135, om 137 136, gm 138 137 false 8, gm 139 137 false 138, gf 140 139 true 9 3, gl 141 139 true 140, gv 142 139 true
 (.icmp .lss .i64 (tm 141) (ci 0)), gm 143 139 true 142, gf 144 143 false 9 3, gl 145 143 false 144, gv 146 143 false (.icmp .gtr .i64 (tm 145) (ci
 65536)), ⟨some 147, some (139, true), .pick (tm 143) cT (tm 146)⟩, ⟨some 148, some (137, false), .pick (tm 139) (tm 147) cF⟩, oz 149 137 148] [2, 3,
 149]) (.cond (tm 149) (sq (rg [ ob 4 false] [4]) .ret) .skip)) (sq (sq (rg [ of 150 2 3, ol 151 150, ov 152 (.icmp .eql .i64 (tm 151) (ci 5))] [2, 3,
 152]) (.cond (tm 152) (sq (rg [ ov 153 (.ld 10 true (tm 2)), ov 154 (.ld 12 true (tm 3)), oc 155 95 [(tm 153), (tm 154), (ci 3), cT], om 4 155] [4])
 .ret) .skip)) (sq (rg [ of 156 2 3, ol 157 156, ov 158 (.icmp .neq .i64 (tm 157) (ci 11)), om 159 158, gv 160 159 false (.ld 10 true (tm 2)), gv 161
 159 false (.ld 12 true (tm 3)), ⟨some 162, some (159, false), .call true (.c (.fn (.func 95) [] [])) [(tm 160), (tm 161), (ci 1), cF]⟩, oz 163 159
 162, om 4 163] [4]) .ret))))))))))))))
theorem a79 : AOf Tryz.prog 79 c79 [.t 4] := mkA (fn := Tryz.f79) (c := Tryz.f79.body.getD .skip) (fz := []) (im := []) kp79 (by kernel_rfl) (by kernel_rfl) (by kernel_rfl) (by kernel_rfl) (by kernel_rfl)
def kp32 (r : Nat) : List Nat := match r with
  | 0 => [1]
  | 1 => [1, 3]
  | 2 => [1, 3, 12]
  | 4 => [1, 3, 30]
  | 5 => [2]
  | 3 => [1, 3]
  | 6 => [1, 4]
  | 7 => [1, 4, 35]
  | 9 => [1, 4, 45]
  | 10 => [2]
  | 8 => [1, 4]
  | 11 => [1, 5]
  | 12 => [1, 5, 50]
  | 14 => [1, 5, 6]
  | 15 => [1, 5, 6, 7]
  | 16 => [1, 5, 6, 7, 57]
  | 18 => [1, 5, 6, 7, 67]
  | 19 => [1, 5, 6, 7]
  | 17 => [1, 5, 6, 7]
  | 20 => [1, 5, 80]
  | 21 => [2]
  | 13 => [1, 5]
  | 22 => [2]
  | _ => []
def c32 : ACode :=
(sq (.reg 2 [ ⟨some 1, none, .box 0 10 (tm 0)⟩, ob 2 false] [1]) (sq (sq (rg [ oi 3 0] [1, 3]) (.block 0 (.loop (sq (sq (rg [ om 8 3, of 9 6 1, ol 10
 9, on 11 10, ov 12 (.icmp .lss .i64 (tm 8) (tm 11))] [1, 3, 12]) (.cond (tm 12) .skip (.exit 0))) (sq (.block 1 (sq (rg [ of 15 6 1, ol 16 15, om 17
 3, oa 18 2 16 17, of 19 1 18, ol 20 19, ov 21 (.icmp .lss .i64 (tm 20) (ci 0)), om 22 21, gf 23 22 false 6 1, gl 24 22 false 23, gm 25 22 false 3, ga
 26 22 false 2 24 25, gf 27 22 false 1 26, gl 28 22 false 27, gv 29 22 false (.icmp .gtr .i64 (tm 28) (ci 99)), oz 30 22 29] [1, 3, 30]) (.cond (tm 30)
 (sq (rg [ ob 2 false] [2]) .ret) .skip))) (rg [ om 13 3, ov 14 (.arith .add .i64 (tm 13) (ci 1)), om 3 14] [1, 3])))))) (sq (sq (rg [ oi 4 0] [1, 4])
 (.block 2 (.loop (sq (sq (rg [ om 31 4, of 32 9 1, ol 33 32, on 34 33, ov 35 (.icmp .lss .i64 (tm 31) (tm 34))] [1, 4, 35]) (.cond (tm 35) .skip
 (.exit 2))) (sq (.block 3 (sq (rg [ ov 38 (.ld 10 true (tm 1)), of 39 9 1, ol 40 39, om 41 4, oa 42 12 40 41, ov 43 (.ld 12 true (tm 42)), oc 44 79
 [(tm 38), (tm 43)], ot 45 44] [1, 4, 45]) (.cond (tm 45) (sq (rg [ ob 2 false] [2]) .ret) .skip))) (rg [ om 36 4, ov 37 (.arith .add .i64 (tm 36) (ci
 1)), om 4 37] [1, 4])))))) (sq (sq (rg [ oi 5 0] [1, 5]) (.block 4 (.loop (sq (sq (rg [ om 46 5, of 47 8 1, ol 48 47, on 49 48, ov 50 (.icmp .lss .i64
 (tm 46) (tm 49))] [1, 5, 50]) (.cond (tm 50) .skip (.exit 4))) (sq (.block 5 (sq (rg [ oi 6 0] [1, 5, 6]) (sq (sq (rg [ oi 7 0] [1, 5, 6, 7]) (.block
 6 (.loop (sq (sq (rg [ om 53 7, of 54 9 1, ol 55 54, on 56 55, ov 57 (.icmp .lss .i64 (tm 53) (tm 56))] [1, 5, 6, 7, 57]) (.cond (tm 57) .skip (.exit
 6))) (sq (.block 7 (sq (rg [ of 60 9 1, ol 61 60, om 62 7, oa 63 12 61 62, of 64 11 63, ol 65 64, om 66 5, ov 67 (.icmp .eql .i64 (tm 65) (tm 66))]
 [1, 5, 6, 7, 67]) (.cond (tm 67) (rg [ om 68 6, ov 69 (.arith .add .i64 (tm 68) (ci 1)), om 6 69] [1, 5, 6, 7]) .skip))) (rg [ om 58 7, ov 59 (.arith
 .add .i64 (tm 58) (ci 1)), om 7 59] [1, 5, 6, 7])))))) (sq (rg [ om 70 6, ov 71 (.icmp .neq .i64 (tm 70) (ci 1)), om 72 71, gf 73 72 false 8 1, gl 74
 72 false 73, gm 75 72 false 5, ga 76 72 false 6 74 75, gv 77 72 false (.ld 6 true (tm 76)), ⟨some 78, some (72, false), .call true (.c (.fn (.func 80)
 [] [])) [(tm 77)]⟩, gv 79 72 false (.not (tm 78)), oz 80 72 79] [1, 5, 80]) (.cond (tm 80) (sq (rg [ ob 2 false] [2]) .ret) .skip))))) (rg [ om 51 5,
 ov 52 (.arith .add .i64 (tm 51) (ci 1)), om 5 52] [1, 5])))))) (sq (rg [ ob 2 true] [2]) .ret)))))
theorem a32 : AOf Tryz.prog 32 c32 [.t 2] := mkA (fn := Tryz.f32) (c := Tryz.f32.body.getD .skip) (fz := []) (im := []) kp32 (by kernel_rfl) (by kernel_rfl) (by kernel_rfl) (by kernel_rfl) (by kernel_rfl)
def kp81 (r : Nat) : List Nat := match r with
  | 0 => [1]
  | 1 => [2]
  | _ => []
def c81 : ACode :=
(sq (.reg 2 [ ⟨some 1, none, .box 0 12 (tm 0)⟩, ob 2 false] [1]) (sq (rg [ of 3 2 1, ol 4 3, ov 5 (.icmp .geq .i64 (tm 4) (ci 1)), om 6 5, gf 7 6 true
 2 1, gl 8 6 true 7, gv 9 6 true (.icmp .leq .i64 (tm 8) (ci 11)), oy 10 6 9, om 2 10] [2]) .ret))
theorem a81 : AOf Tryz.prog 81 c81 [.t 2] := mkA (fn := Tryz.f81) (c := Tryz.f81.body.getD .skip) (fz := []) (im := []) kp81 (by kernel_rfl) (by kernel_rfl) (by kernel_rfl) (by kernel_rfl) (by kernel_rfl)
def kp33 (r : Nat) : List Nat := match r with
  | 0 => [1]
  | 1 => [1, 3]
  | 2 => [1, 3, 4]
  | 3 => [1, 3, 4, 9]
  | 5 => [1, 3, 4, 18]
  | 6 => [1, 3, 4]
  | 4 => [1, 3, 4]
  | 7 => [2]
  | _ => []
def c33 : ACode :=
(sq (.reg 2 [ ⟨some 1, none, .box 0 10 (tm 0)⟩, ov 2 (.mv (.c zs))] [1]) (sq (rg [ ov 3 (.mv (.c zs))] [1, 3]) (sq (sq (rg [ oi 4 0] [1, 3, 4]) (.block
 0 (.loop (sq (sq (rg [ om 5 4, of 6 9 1, ol 7 6, on 8 7, ov 9 (.icmp .lss .i64 (tm 5) (tm 8))] [1, 3, 4, 9]) (.cond (tm 9) .skip (.exit 0))) (sq
 (.block 1 (sq (rg [ of 12 9 1, ol 13 12, om 14 4, oa 15 12 13 14, ov 16 (.ld 12 true (tm 15)), oc 17 81 [(tm 16)], ot 18 17] [1, 3, 4, 18]) (.cond (tm
 18) (.reg 5 [ om 19 3, om 20 4, ov 21 (.bs 1 1 z0 [(0, (tm 20))]), ⟨some 22, none, .app 3 1 8 (tm 19) (tm 21) false⟩, om 3 22] [1, 3, 4]) .skip))) (rg
 [ om 10 4, ov 11 (.arith .add .i64 (tm 10) (ci 1)), om 4 11] [1, 3, 4])))))) (sq (rg [ om 23 3, om 2 23] [2]) .ret))))
theorem a33 : AOf Tryz.prog 33 c33 [.t 2] := mkA (fn := Tryz.f33) (c := Tryz.f33.body.getD .skip) (fz := []) (im := []) kp33 (by kernel_rfl) (by kernel_rfl) (by kernel_rfl) (by kernel_rfl) (by kernel_rfl)
def kp7 (r : Nat) : List Nat := match r with
  | 0 => [1]
  | 1 => [1, 33]
  | 2 => [2]
  | 3 => [1, 3, 4]
  | 4 => [1, 3, 4, 40]
  | 5 => [2]
  | 6 => [1, 55]
  | 7 => [2]
  | 8 => [1, 4, 5]
  | 9 => [1, 4, 5, 69]
  | 10 => [2]
  | 11 => [1, 4]
  | 12 => [1, 4, 75]
  | 13 => [2]
  | 14 => [1, 79]
  | 15 => [2]
  | 16 => [83]
  | 17 => [2]
  | 18 => [2]
  | _ => []
def c7 : ACode :=
(sq (.reg 2 [ ⟨some 1, none, .box 0 10 (tm 0)⟩, oi 2 0] [1]) (sq (sq (rg [ of 6 6 1, ol 7 6, on 8 7, ov 9 (.icmp .eql .i64 (tm 8) (ci 0)), om 10 9, gf
 11 10 false 6 1, gl 12 10 false 11, gv 13 10 false (.len (tm 12)), gv 14 10 false (.icmp .gtr .i64 (tm 13) (ci 16)), oz 15 10 14, om 16 15, gf 17 16
 false 7 1, gl 18 16 false 17, gv 19 16 false (.len (tm 18)), gv 20 16 false (.icmp .gtr .i64 (tm 19) (ci 4)), oz 21 16 20, om 22 21, gf 23 22 false 8
 1, gl 24 22 false 23, gv 25 22 false (.len (tm 24)), gv 26 22 false (.icmp .gtr .i64 (tm 25) (ci 4)), oz 27 22 26, om 28 27, gf 29 28 false 9 1, gl 30
 28 false 29, gv 31 28 false (.len (tm 30)), gv 32 28 false (.icmp .gtr .i64 (tm 31) (ci 16)), oz 33 28 32] [1, 33]) (.cond (tm 33) (sq (rg [ oi 2 2]
 [2]) .ret) .skip)) (sq (.reg 8 [ ov 35 (.ld 10 true (tm 1)), oc 36 28 [(tm 35)], om 34 36, ox 37 0 34, ox 38 1 34, ⟨some 3, none, .alloc 5 [zr, z0,
 z0, z0, z0, zs, zs, zs, zs, zs]⟩, ⟨none, none, .st 10 (tm 3) (tm 37)⟩, om 4 38] [1, 3, 4]) (sq (sq (rg [ om 39 4, ov 40 (.icmp .neq .i64 (tm 39) (ci
 0))] [1, 3, 4, 40]) (.cond (tm 40) (sq (rg [ om 41 4, om 2 41] [2]) .ret) .skip)) (sq (sq (rg [ ov 42 (.ld 10 true (tm 3)), ov 43 (.ld 10 true (tm
 1)), oc 44 29 [(tm 42), (tm 43)], ot 45 44, om 46 45, gf 47 46 false 1 1, gl 48 46 false 47, gv 49 46 false (.icmp .lss .i64 (tm 48) (ci 1)), oz 50 46
 49, om 51 50, gf 52 51 false 1 1, gl 53 51 false 52, gv 54 51 false (.icmp .gtr .i64 (tm 53) (ci 255)), oz 55 51 54] [1, 55]) (.cond (tm 55) (sq (rg [
 oi 2 170] [2]) .ret) .skip)) (sq (.reg 15 [ of 57 2 1, ol 58 57, of 59 3 1, ol 60 59, of 61 4 1, ol 62 61, of 63 5 1, ol 64 63, oc 65 30 [(tm 58), (tm
 60), (tm 62), (tm 64)], om 56 65, ox 66 0 56, ox 67 1 56, ⟨some 5, none, .alloc 12 [z0, z0, z0, zs, zs]⟩, ⟨none, none, .st 5 (tm 5) (tm 66)⟩, om 4 67]
 [1, 4, 5]) (sq (sq (rg [ om 68 4, ov 69 (.icmp .neq .i64 (tm 68) (ci 0))] [1, 4, 5, 69]) (.cond (tm 69) (sq (rg [ om 70 4, om 2 70] [2]) .ret) .skip))
 (sq (rg [ ov 71 (.ld 10 true (tm 1)), ov 72 (.ld 5 true (tm 5)), oc 73 31 [(tm 71), (tm 72)], om 4 73] [1, 4]) (sq (sq (rg [ om 74 4, ov 75 (.icmp
 .neq .i64 (tm 74) (ci 0))] [1, 4, 75]) (.cond (tm 75) (sq (rg [ om 76 4, om 2 76] [2]) .ret) .skip)) (sq (sq (rg [ ov 77 (.ld 10 true (tm 1)), oc 78
 32 [(tm 77)], ot 79 78] [1, 79]) (.cond (tm 79) (sq (rg [ oi 2 170] [2]) .ret) .skip)) (sq (sq (rg [ ov 80 (.ld 10 true (tm 1)), oc 81 33 [(tm 80)],
 on 82 81, ov 83 (.icmp .gtr .i64 (tm 82) (ci 0))] [83]) (.cond (tm 83) (sq (rg [ oi 2 171] [2]) .ret) .skip)) (sq (rg [ oi 2 0] [2]) .ret))))))))))))
theorem a7 : AOf Tryz.prog 7 c7 [.t 2] := mkA (fn := Tryz.f7) (c := Tryz.f7.body.getD .skip) (fz := []) (im := []) kp7 (by kernel_rfl) (by kernel_rfl) (by kernel_rfl) (by kernel_rfl) (by kernel_rfl)
def kp73 (r : Nat) : List Nat := match r with
  | 0 => [0, 1]
  | 1 => [0, 1, 10]
  | 2 => [4]
  | 3 => [0, 1, 5]
  | 4 => [0, 1, 5, 14]
  | 6 => [0, 1, 5, 25]
  | 7 => [4]
  | 5 => [0, 1, 5]
  | 8 => [4]
  | _ => []
def c73 : ACode :=
(sq (rg [ ob 4 false] [0, 1]) (sq (sq (rg [ om 6 0, on 7 6, om 8 1, on 9 8, ov 10 (.icmp .neq .i64 (tm 7) (tm 9))] [0, 1, 10]) (.cond (tm 10) (sq (rg [
 ob 4 false] [4]) .ret) .skip)) (sq (sq (rg [ oi 5 0] [0, 1, 5]) (.block 0 (.loop (sq (sq (rg [ om 11 5, om 12 0, on 13 12, ov 14 (.icmp .lss .i64 (tm
 11) (tm 13))] [0, 1, 5, 14]) (.cond (tm 14) .skip (.exit 0))) (sq (.block 1 (sq (rg [ om 17 0, om 18 5, oa 19 1 17 18, ol 20 19, om 21 1, om 22 5, oa
 23 1 21 22, ol 24 23, ov 25 (.icmp .neq .i64 (tm 20) (tm 24))] [0, 1, 5, 25]) (.cond (tm 25) (sq (rg [ ob 4 false] [4]) .ret) .skip))) (rg [ om 15 5,
 ov 16 (.arith .add .i64 (tm 15) (ci 1)), om 5 16] [0, 1, 5])))))) (sq (rg [ ob 4 true] [4]) .ret))))
theorem a73 : AOf Tryz.prog 73 c73 [.t 4] := mkA (fn := Tryz.f73) (c := Tryz.f73.body.getD .skip) (fz := []) (im := []) kp73 (by kernel_rfl) (by kernel_rfl) (by kernel_rfl) (by kernel_rfl) (by kernel_rfl)
def kp74 (r : Nat) : List Nat := match r with
  | 0 => [0, 1]
  | 1 => [0, 1, 10]
  | 2 => [4]
  | 3 => [0, 1, 5]
  | 4 => [0, 1, 5, 14]
  | 6 => [0, 1, 5, 26]
  | 7 => [4]
  | 5 => [0, 1, 5]
  | 8 => [4]
  | _ => []
def c74 : ACode :=
(sq (rg [ ob 4 false] [0, 1]) (sq (sq (rg [ om 6 0, on 7 6, om 8 1, on 9 8, ov 10 (.icmp .neq .i64 (tm 7) (tm 9))] [0, 1, 10]) (.cond (tm 10) (sq (rg [
 ob 4 false] [4]) .ret) .skip)) (sq (sq (rg [ oi 5 0] [0, 1, 5]) (.block 0 (.loop (sq (sq (rg [ om 11 5, om 12 0, on 13 12, ov 14 (.icmp .lss .i64 (tm
 11) (tm 13))] [0, 1, 5, 14]) (.cond (tm 14) .skip (.exit 0))) (sq (.block 1 (sq (rg [ om 17 0, om 18 5, oa 19 1 17 18, ol 20 19, om 21 1, om 22 5, oa
 23 1 21 22, ol 24 23, oc 25 73 [(tm 20), (tm 24)], ot 26 25] [0, 1, 5, 26]) (.cond (tm 26) (sq (rg [ ob 4 false] [4]) .ret) .skip))) (rg [ om 15 5, ov
 16 (.arith .add .i64 (tm 15) (ci 1)), om 5 16] [0, 1, 5])))))) (sq (rg [ ob 4 true] [4]) .ret))))
theorem a74 : AOf Tryz.prog 74 c74 [.t 4] := mkA (fn := Tryz.f74) (c := Tryz.f74.body.getD .skip) (fz := []) (im := []) kp74 (by kernel_rfl) (by kernel_rfl) (by kernel_rfl) (by kernel_rfl) (by kernel_rfl)
def kp91 (r : Nat) : List Nat := match r with
  | 0 => [0, 1]
  | 1 => [0, 1, 10]
  | 2 => [4]
  | 3 => [0, 1, 5]
  | 4 => [0, 1, 5, 14]
  | 6 => [0, 1, 5, 25]
  | 7 => [4]
  | 5 => [0, 1, 5]
  | 8 => [4]
  | _ => []
def c91 : ACode :=
(sq (rg [ ob 4 false] [0, 1]) (sq (sq (rg [ om 6 0, on 7 6, om 8 1, on 9 8, ov 10 (.icmp .neq .i64 (tm 7) (tm 9))] [0, 1, 10]) (.cond (tm 10) (sq (rg [
 ob 4 false] [4]) .ret) .skip)) (sq (sq (rg [ oi 5 0] [0, 1, 5]) (.block 0 (.loop (sq (sq (rg [ om 11 5, om 12 0, on 13 12, ov 14 (.icmp .lss .i64 (tm
 11) (tm 13))] [0, 1, 5, 14]) (.cond (tm 14) .skip (.exit 0))) (sq (.block 1 (sq (rg [ om 17 0, om 18 5, oa 19 1 17 18, ol 20 19, om 21 1, om 22 5, oa
 23 1 21 22, ol 24 23, ov 25 (.scmp .neq (tm 20) (tm 24))] [0, 1, 5, 25]) (.cond (tm 25) (sq (rg [ ob 4 false] [4]) .ret) .skip))) (rg [ om 15 5, ov 16
 (.arith .add .i64 (tm 15) (ci 1)), om 5 16] [0, 1, 5])))))) (sq (rg [ ob 4 true] [4]) .ret))))
theorem a91 : AOf Tryz.prog 91 c91 [.t 4] := mkA (fn := Tryz.f91) (c := Tryz.f91.body.getD .skip) (fz := []) (im := []) kp91 (by kernel_rfl) (by kernel_rfl) (by kernel_rfl) (by kernel_rfl) (by kernel_rfl)
def kp75 (r : Nat) : List Nat := match r with
  | 0 => [2, 3]
  | 1 => [2, 3, 5]
  | 2 => [4]
  | _ => []
def c75 : ACode :=
(sq (.reg 3 [ ⟨some 2, none, .box 0 12 (tm 0)⟩, ⟨some 3, none, .box 1 12 (tm 1)⟩, ob 4 false] [2, 3]) (sq (rg [ of 6 0 2, ol 7 6, of 8 0 3, ol 9 8, ov
 10 (.scmp .eql (tm 7) (tm 9)), om 11 10, gf 12 11 true 1 2, gl 13 11 true 12, gf 14 11 true 1 3, gl 15 11 true 14, gv 16 11 true (.scmp .eql (tm 13)
 (tm 15)), oy 17 11 16, om 18 17, gf 19 18 true 10 2, gl 20 18 true 19, gf 21 18 true 10 3, gl 22 18 true 21, gv 23 18 true (.scmp .eql (tm 20) (tm
 22)), oy 24 18 23, om 25 24, gf 26 25 true 4 2, gl 27 25 true 26, gf 28 25 true 4 3, gl 29 25 true 28, ⟨some 30, some (25, true), .call true (.c (.fn
 (.func 91) [] [])) [(tm 27), (tm 29)]⟩, oy 31 25 30, om 32 31, gf 33 32 true 5 2, gl 34 32 true 33, gf 35 32 true 5 3, gl 36 32 true 35, ⟨some 37,
 some (32, true), .call true (.c (.fn (.func 91) [] [])) [(tm 34), (tm 36)]⟩, oy 38 32 37, om 5 38] [2, 3, 5]) (sq (rg [ om 39 5, om 40 39, gf 41 40
 true 2 2, gl 42 40 true 41, gf 43 40 true 2 3, gl 44 40 true 43, gv 45 40 true (.icmp .eql .i64 (tm 42) (tm 44)), oy 46 40 45, om 47 46, gf 48 47 true
 3 2, gl 49 47 true 48, gf 50 47 true 3 3, gl 51 47 true 50, gv 52 47 true (.icmp .eql .i64 (tm 49) (tm 51)), oy 53 47 52, om 54 53, gf 55 54 true 6 2,
 gl 56 54 true 55, gf 57 54 true 6 3, gl 58 54 true 57, gv 59 54 true (.icmp .eql .i64 (tm 56) (tm 58)), oy 60 54 59, om 61 60, gf 62 61 true 7 2, gl
 63 61 true 62, gf 64 61 true 7 3, gl 65 61 true 64, gv 66 61 true (.icmp .eql .i64 (tm 63) (tm 65)), oy 67 61 66, om 68 67, gf 69 68 true 8 2, gl 70
 68 true 69, gf 71 68 true 8 3, gl 72 68 true 71, gv 73 68 true (.icmp .eql .i64 (tm 70) (tm 72)), oy 74 68 73, om 75 74, gf 76 75 true 9 2, gl 77 75
 true 76, gf 78 75 true 9 3, gl 79 75 true 78, gv 80 75 true (.icmp .eql .i64 (tm 77) (tm 79)), oy 81 75 80, om 82 81, gf 83 82 true 11 2, gl 84 82
 true 83, gf 85 82 true 11 3, gl 86 82 true 85, gv 87 82 true (.icmp .eql .i64 (tm 84) (tm 86)), oy 88 82 87, om 4 88] [4]) .ret)))
theorem a75 : AOf Tryz.prog 75 c75 [.t 4] := mkA (fn := Tryz.f75) (c := Tryz.f75.body.getD .skip) (fz := []) (im := []) kp75 (by kernel_rfl) (by kernel_rfl) (by kernel_rfl) (by kernel_rfl) (by kernel_rfl)
def kp29 (r : Nat) : List Nat := match r with
  | 0 => [2, 3]
  | 1 => [2, 3, 49]
  | 2 => [4]
  | 3 => [2, 3, 83]
  | 4 => [4]
  | 5 => [2, 3, 5]
  | 6 => [2, 3, 5, 88]
  | 8 => [2, 3, 5, 101]
  | 9 => [4]
  | 7 => [2, 3, 5]
  | 10 => [2, 3, 6]
  | 11 => [2, 3, 6, 106]
  | 13 => [2, 3, 6, 137]
  | 14 => [4]
  | 12 => [2, 3, 6]
  | 15 => [2, 3, 7]
  | 16 => [2, 3, 7, 142]
  | 18 => [2, 3, 7, 155]
  | 19 => [4]
  | 17 => [2, 3, 7]
  | 20 => [2, 3, 8]
  | 21 => [2, 3, 8, 160]
  | 23 => [2, 3, 8, 174]
  | 24 => [4]
  | 22 => [2, 3, 8]
  | 25 => [4]
  | _ => []
def c29 : ACode :=
(sq (.reg 3 [ ⟨some 2, none, .box 0 10 (tm 0)⟩, ⟨some 3, none, .box 1 10 (tm 1)⟩, ob 4 false] [2, 3]) (sq (sq (rg [ of 9 0 2, ol 10 9, of 11 0 3, ol 12
 11, ov 13 (.scmp .neq (tm 10) (tm 12)), om 14 13, gf 15 14 false 1 2, gl 16 14 false 15, gf 17 14 false 1 3, gl 18 14 false 17, gv 19 14 false (.icmp
 .neq .i64 (tm 16) (tm 18)), oz 20 14 19, om 21 20, gf 22 21 false 2 2, gl 23 21 false 22, gf 24 21 false 2 3, gl 25 21 false 24, gv 26 21 false (.icmp
 .neq .i64 (tm 23) (tm 25)), oz 27 21 26, om 28 27, gf 29 28 false 3 2, gl 30 28 false 29, gf 31 28 false 3 3, gl 32 28 false 31, gv 33 28 false (.icmp
 .neq .i64 (tm 30) (tm 32)), oz 34 28 33, om 35 34, gf 36 35 false 4 2, gl 37 35 false 36, gf 38 35 false 4 3, gl 39 35 false 38, gv 40 35 false (.icmp
 .neq .i64 (tm 37) (tm 39)), oz 41 35 40, om 42 41, gf 43 42 false 5 2, gl 44 42 false 43, gf 45 42 false 5 3, gl 46 42 false 45, ⟨some 47, some (42,
 false), .call true (.c (.fn (.func 73) [] [])) [(tm 44), (tm 46)]⟩, gv 48 42 false (.not (tm 47)), oz 49 42 48] [2, 3, 49]) (.cond (tm 49) (sq (rg [
 ob 4 false] [4]) .ret) .skip)) (sq (sq (rg [ of 50 6 2, ol 51 50, on 52 51, of 53 6 3, ol 54 53, on 55 54, ov 56 (.icmp .neq .i64 (tm 52) (tm 55)), om
 57 56, gf 58 57 false 7 2, gl 59 57 false 58, gv 60 57 false (.len (tm 59)), gf 61 57 false 7 3, gl 62 57 false 61, gv 63 57 false (.len (tm 62)), gv
 64 57 false (.icmp .neq .i64 (tm 60) (tm 63)), oz 65 57 64, om 66 65, gf 67 66 false 8 2, gl 68 66 false 67, gv 69 66 false (.len (tm 68)), gf 70 66
 false 8 3, gl 71 66 false 70, gv 72 66 false (.len (tm 71)), gv 73 66 false (.icmp .neq .i64 (tm 69) (tm 72)), oz 74 66 73, om 75 74, gf 76 75 false 9
 2, gl 77 75 false 76, gv 78 75 false (.len (tm 77)), gf 79 75 false 9 3, gl 80 75 false 79, gv 81 75 false (.len (tm 80)), gv 82 75 false (.icmp .neq
 .i64 (tm 78) (tm 81)), oz 83 75 82] [2, 3, 83]) (.cond (tm 83) (sq (rg [ ob 4 false] [4]) .ret) .skip)) (sq (sq (rg [ oi 5 0] [2, 3, 5]) (.block 0
 (.loop (sq (sq (rg [ om 84 5, of 85 6 2, ol 86 85, on 87 86, ov 88 (.icmp .lss .i64 (tm 84) (tm 87))] [2, 3, 5, 88]) (.cond (tm 88) .skip (.exit 0)))
 (sq (.block 1 (sq (rg [ of 91 6 2, ol 92 91, om 93 5, oa 94 2 92 93, ov 95 (.ld 2 true (tm 94)), of 96 6 3, ol 97 96, om 98 5, oa 99 2 97 98, ov 100
 (.ld 2 true (tm 99)), ov 101 (.aeq true [2, 0] (tm 95) (tm 100))] [2, 3, 5, 101]) (.cond (tm 101) (sq (rg [ ob 4 false] [4]) .ret) .skip))) (rg [ om
 89 5, ov 90 (.arith .add .i64 (tm 89) (ci 1)), om 5 90] [2, 3, 5])))))) (sq (sq (rg [ oi 6 0] [2, 3, 6]) (.block 2 (.loop (sq (sq (rg [ om 102 6, of
 103 7 2, ol 104 103, on 105 104, ov 106 (.icmp .lss .i64 (tm 102) (tm 105))] [2, 3, 6, 106]) (.cond (tm 106) .skip (.exit 2))) (sq (.block 3 (sq (rg [
 of 109 7 2, ol 110 109, om 111 6, oa 112 2 110 111, of 113 0 112, ol 114 113, of 115 7 3, ol 116 115, om 117 6, oa 118 2 116 117, of 119 0 118, ol 120
 119, ov 121 (.scmp .neq (tm 114) (tm 120)), om 122 121, gf 123 122 false 7 2, gl 124 122 false 123, gm 125 122 false 6, ga 126 122 false 2 124 125, gf
 127 122 false 1 126, gl 128 122 false 127, gf 129 122 false 7 3, gl 130 122 false 129, gm 131 122 false 6, ga 132 122 false 2 130 131, gf 133 122
 false 1 132, gl 134 122 false 133, ⟨some 135, some (122, false), .call true (.c (.fn (.func 74) [] [])) [(tm 128), (tm 134)]⟩, gv 136 122 false (.not
 (tm 135)), oz 137 122 136] [2, 3, 6, 137]) (.cond (tm 137) (sq (rg [ ob 4 false] [4]) .ret) .skip))) (rg [ om 107 6, ov 108 (.arith .add .i64 (tm 107)
 (ci 1)), om 6 108] [2, 3, 6])))))) (sq (sq (rg [ oi 7 0] [2, 3, 7]) (.block 4 (.loop (sq (sq (rg [ om 138 7, of 139 8 2, ol 140 139, on 141 140, ov
 142 (.icmp .lss .i64 (tm 138) (tm 141))] [2, 3, 7, 142]) (.cond (tm 142) .skip (.exit 4))) (sq (.block 5 (sq (rg [ of 145 8 2, ol 146 145, om 147 7,
 oa 148 6 146 147, ov 149 (.ld 6 true (tm 148)), of 150 8 3, ol 151 150, om 152 7, oa 153 6 151 152, ov 154 (.ld 6 true (tm 153)), ov 155 (.aeq true
 [2, 2, 0, 0, 0, 0] (tm 149) (tm 154))] [2, 3, 7, 155]) (.cond (tm 155) (sq (rg [ ob 4 false] [4]) .ret) .skip))) (rg [ om 143 7, ov 144 (.arith .add
 .i64 (tm 143) (ci 1)), om 7 144] [2, 3, 7])))))) (sq (sq (rg [ oi 8 0] [2, 3, 8]) (.block 6 (.loop (sq (sq (rg [ om 156 8, of 157 9 2, ol 158 157, on
 159 158, ov 160 (.icmp .lss .i64 (tm 156) (tm 159))] [2, 3, 8, 160]) (.cond (tm 160) .skip (.exit 6))) (sq (.block 7 (sq (rg [ of 163 9 2, ol 164 163,
 om 165 8, oa 166 12 164 165, ov 167 (.ld 12 true (tm 166)), of 168 9 3, ol 169 168, om 170 8, oa 171 12 169 170, ov 172 (.ld 12 true (tm 171)), oc 173
 75 [(tm 167), (tm 172)], ot 174 173] [2, 3, 8, 174]) (.cond (tm 174) (sq (rg [ ob 4 false] [4]) .ret) .skip))) (rg [ om 161 8, ov 162 (.arith .add
 .i64 (tm 161) (ci 1)), om 8 162] [2, 3, 8])))))) (sq (rg [ ob 4 true] [4]) .ret))))))))
theorem a29 : AOf Tryz.prog 29 c29 [.t 4] := mkA (fn := Tryz.f29) (c := Tryz.f29.body.getD .skip) (fz := []) (im := []) kp29 (by kernel_rfl) (by kernel_rfl) (by kernel_rfl) (by kernel_rfl) (by kernel_rfl)
def kp70 (r : Nat) : List Nat := match r with
  | 0 => []
  | 1 => [0]
  | _ => []
def c70 : ACode :=
(sq (rg [ ov 0 (.mv (.c zs))] []) (sq (rg [ ov 1 (.bs 1 8 zr [(0, (.c (.str [99, 101, 108, 108, 115]))), (1, (.c (.str [114, 111, 119, 115]))), (2, (.c
 (.str [99, 111, 108, 117, 109, 110, 115]))), (3, (.c (.str [100, 105, 97, 103, 111, 110, 97, 108, 115]))), (4, (.c (.str [97, 114, 111, 117, 110,
 100]))), (5, (.c (.str [110, 101, 97, 114]))), (6, (.c (.str [112, 97, 105, 114, 115]))), (7, (.c (.str [97, 108, 108])))]), om 0 1] [0]) .ret))
theorem a70 : AOf Tryz.prog 70 c70 [.t 0] := mkA (fn := Tryz.f70) (c := Tryz.f70.body.getD .skip) (fz := []) (im := []) kp70 (by kernel_rfl) (by kernel_rfl) (by kernel_rfl) (by kernel_rfl) (by kernel_rfl)
def kp89 (r : Nat) : List Nat := match r with
  | 0 => [1, 2]
  | 1 => [1, 2, 6]
  | 2 => [1, 2, 6, 7]
  | 3 => [1, 2, 6, 7, 13]
  | 5 => [1, 2, 6, 7, 21]
  | 6 => [4, 5]
  | 4 => [1, 2, 6, 7]
  | 7 => [1, 2, 8]
  | 8 => [1, 2, 8, 27]
  | 10 => [1, 2, 8, 37]
  | 11 => [4, 5]
  | 9 => [1, 2, 8]
  | 12 => [4, 5]
  | _ => []
def c89 : ACode :=
(sq (.reg 3 [ ⟨some 2, none, .box 0 10 (tm 0)⟩, oi 4 0, ob 5 false] [1, 2]) (sq (rg [ oc 9 70 [], om 6 9] [1, 2, 6]) (sq (sq (rg [ oi 7 0] [1, 2, 6,
 7]) (.block 0 (.loop (sq (sq (rg [ om 10 7, om 11 6, on 12 11, ov 13 (.icmp .lss .i64 (tm 10) (tm 12))] [1, 2, 6, 7, 13]) (.cond (tm 13) .skip (.exit
 0))) (sq (.block 1 (sq (rg [ om 16 6, om 17 7, oa 18 1 16 17, ol 19 18, om 20 1, ov 21 (.scmp .eql (tm 19) (tm 20))] [1, 2, 6, 7, 21]) (.cond (tm 21)
 (sq (rg [ om 22 7, om 4 22, ob 5 true] [4, 5]) .ret) .skip))) (rg [ om 14 7, ov 15 (.arith .add .i64 (tm 14) (ci 1)), om 7 15] [1, 2, 6, 7])))))) (sq
 (sq (rg [ oi 8 0] [1, 2, 8]) (.block 2 (.loop (sq (sq (rg [ om 23 8, of 24 7 2, ol 25 24, on 26 25, ov 27 (.icmp .lss .i64 (tm 23) (tm 26))] [1, 2, 8,
 27]) (.cond (tm 27) .skip (.exit 2))) (sq (.block 3 (sq (rg [ of 30 7 2, ol 31 30, om 32 8, oa 33 2 31 32, of 34 0 33, ol 35 34, om 36 1, ov 37 (.scmp
 .eql (tm 35) (tm 36))] [1, 2, 8, 37]) (.cond (tm 37) (sq (rg [ om 38 8, ov 39 (.arith .add .i64 (ci 8) (tm 38)), om 4 39, ob 5 true] [4, 5]) .ret)
 .skip))) (rg [ om 28 8, ov 29 (.arith .add .i64 (tm 28) (ci 1)), om 8 29] [1, 2, 8])))))) (sq (rg [ oi 4 0, ob 5 false] [4, 5]) .ret)))))
theorem a89 : AOf Tryz.prog 89 c89 [.t 4, .t 5] := mkA (fn := Tryz.f89) (c := Tryz.f89.body.getD .skip) (fz := []) (im := []) kp89 (by kernel_rfl) (by kernel_rfl) (by kernel_rfl) (by kernel_rfl) (by kernel_rfl)
def kp112 (r : Nat) : List Nat := match r with
  | 0 => [1, 2]
  | 1 => [1, 2, 6]
  | 2 => [1, 2, 6, 11]
  | 4 => [1, 2, 6, 21]
  | 5 => [4, 5]
  | 3 => [1, 2, 6]
  | 6 => [4, 5]
  | _ => []
def c112 : ACode :=
(sq (.reg 3 [ ⟨some 2, none, .box 0 10 (tm 0)⟩, oi 4 0, ob 5 false] [1, 2]) (sq (sq (rg [ oi 6 0] [1, 2, 6]) (.block 0 (.loop (sq (sq (rg [ om 7 6, of
 8 6 2, ol 9 8, on 10 9, ov 11 (.icmp .lss .i64 (tm 7) (tm 10))] [1, 2, 6, 11]) (.cond (tm 11) .skip (.exit 0))) (sq (.block 1 (sq (rg [ of 14 6 2, ol
 15 14, om 16 6, oa 17 2 15 16, of 18 0 17, ol 19 18, om 20 1, ov 21 (.scmp .eql (tm 19) (tm 20))] [1, 2, 6, 21]) (.cond (tm 21) (sq (rg [ om 22 6, om
 4 22, ob 5 true] [4, 5]) .ret) .skip))) (rg [ om 12 6, ov 13 (.arith .add .i64 (tm 12) (ci 1)), om 6 13] [1, 2, 6])))))) (sq (rg [ oi 4 0, ob 5 false]
 [4, 5]) .ret)))
theorem a112 : AOf Tryz.prog 112 c112 [.t 4, .t 5] := mkA (fn := Tryz.f112) (c := Tryz.f112.body.getD .skip) (fz := []) (im := []) kp112 (by kernel_rfl) (by kernel_rfl) (by kernel_rfl) (by kernel_rfl) (by kernel_rfl)
def kp101 (r : Nat) : List Nat := match r with
  | 0 => [1, 2]
  | 1 => [1, 2, 6]
  | 2 => [1, 2, 6, 11]
  | 4 => [1, 2, 6, 21]
  | 5 => [4, 5]
  | 3 => [1, 2, 6]
  | 6 => [4, 5]
  | _ => []
def c101 : ACode :=
(sq (.reg 3 [ ⟨some 2, none, .box 0 10 (tm 0)⟩, oi 4 0, ob 5 false] [1, 2]) (sq (sq (rg [ oi 6 0] [1, 2, 6]) (.block 0 (.loop (sq (sq (rg [ om 7 6, of
 8 8 2, ol 9 8, on 10 9, ov 11 (.icmp .lss .i64 (tm 7) (tm 10))] [1, 2, 6, 11]) (.cond (tm 11) .skip (.exit 0))) (sq (.block 1 (sq (rg [ of 14 8 2, ol
 15 14, om 16 6, oa 17 6 15 16, of 18 0 17, ol 19 18, om 20 1, ov 21 (.scmp .eql (tm 19) (tm 20))] [1, 2, 6, 21]) (.cond (tm 21) (sq (rg [ om 22 6, om
 4 22, ob 5 true] [4, 5]) .ret) .skip))) (rg [ om 12 6, ov 13 (.arith .add .i64 (tm 12) (ci 1)), om 6 13] [1, 2, 6])))))) (sq (rg [ oi 4 0, ob 5 false]
 [4, 5]) .ret)))
theorem a101 : AOf Tryz.prog 101 c101 [.t 4, .t 5] := mkA (fn := Tryz.f101) (c := Tryz.f101.body.getD .skip) (fz := []) (im := []) kp101 (by kernel_rfl) (by kernel_rfl) (by kernel_rfl) (by kernel_rfl) (by kernel_rfl)
def kp69 (r : Nat) : List Nat := match r with
  | 0 => [0]
  | 1 => [0, 3]
  | 2 => [0, 3, 8]
  | 4 => [0, 3, 4]
  | 5 => [0, 3, 4, 13]
  | 7 => [0, 3, 4, 24]
  | 8 => [2]
  | 6 => [0, 3, 4]
  | 3 => [0, 3]
  | 9 => [2]
  | _ => []
def c69 : ACode :=
(sq (rg [ ob 2 false] [0]) (sq (sq (rg [ oi 3 0] [0, 3]) (.block 0 (.loop (sq (sq (rg [ om 5 3, om 6 0, on 7 6, ov 8 (.icmp .lss .i64 (tm 5) (tm 7))]
 [0, 3, 8]) (.cond (tm 8) .skip (.exit 0))) (sq (.block 1 (sq (rg [ oi 4 0] [0, 3, 4]) (.block 2 (.loop (sq (sq (rg [ om 11 4, om 12 3, ov 13 (.icmp
 .lss .i64 (tm 11) (tm 12))] [0, 3, 4, 13]) (.cond (tm 13) .skip (.exit 2))) (sq (.block 3 (sq (rg [ om 16 0, om 17 3, oa 18 1 16 17, ol 19 18, om 20
 0, om 21 4, oa 22 1 20 21, ol 23 22, ov 24 (.scmp .eql (tm 19) (tm 23))] [0, 3, 4, 24]) (.cond (tm 24) (sq (rg [ ob 2 true] [2]) .ret) .skip))) (rg [
 om 14 4, ov 15 (.arith .add .i64 (tm 14) (ci 1)), om 4 15] [0, 3, 4]))))))) (rg [ om 9 3, ov 10 (.arith .add .i64 (tm 9) (ci 1)), om 3 10] [0,
 3])))))) (sq (rg [ ob 2 false] [2]) .ret)))
theorem a69 : AOf Tryz.prog 69 c69 [.t 2] := mkA (fn := Tryz.f69) (c := Tryz.f69.body.getD .skip) (fz := []) (im := []) kp69 (by kernel_rfl) (by kernel_rfl) (by kernel_rfl) (by kernel_rfl) (by kernel_rfl)
def kp100 (r : Nat) : List Nat := match r with
  | 0 => [1, 2]
  | 1 => [1, 2, 6]
  | 2 => [1, 2, 6, 7]
  | 3 => [1, 2, 6, 7, 13]
  | 5 => [1, 2, 6, 7, 8, 9]
  | 6 => [1, 2, 6, 7, 8, 26]
  | 7 => [4, 5]
  | 8 => [1, 2, 6, 7]
  | 4 => [1, 2, 6, 7]
  | 9 => [4, 5]
  | _ => []
def c100 : ACode :=
(sq (.reg 3 [ ⟨some 2, none, .box 0 10 (tm 0)⟩, oi 4 0, ob 5 false] [1, 2]) (sq (rg [ oi 6 0] [1, 2, 6]) (sq (sq (rg [ oi 7 0] [1, 2, 6, 7]) (.block 0
 (.loop (sq (sq (rg [ om 10 7, om 11 1, on 12 11, ov 13 (.icmp .lss .i64 (tm 10) (tm 12))] [1, 2, 6, 7, 13]) (.cond (tm 13) .skip (.exit 0))) (sq
 (.block 1 (sq (rg [ ov 17 (.ld 10 true (tm 2)), om 18 1, om 19 7, oa 20 1 18 19, ol 21 20, oc 22 112 [(tm 17), (tm 21)], om 16 22, ox 23 0 16, ox 24 1
 16, om 8 23, om 9 24] [1, 2, 6, 7, 8, 9]) (sq (sq (rg [ om 25 9, ot 26 25] [1, 2, 6, 7, 8, 26]) (.cond (tm 26) (sq (rg [ oi 4 0, ob 5 false] [4, 5])
 .ret) .skip)) (rg [ om 27 6, om 28 8, ov 29 (.shift .shl .i64 .i64 (ci 1) (tm 28)), ov 30 (.arith .or .i64 (tm 27) (tm 29)), om 6 30] [1, 2, 6, 7]))))
 (rg [ om 14 7, ov 15 (.arith .add .i64 (tm 14) (ci 1)), om 7 15] [1, 2, 6, 7])))))) (sq (rg [ om 31 6, om 4 31, ob 5 true] [4, 5]) .ret))))
theorem a100 : AOf Tryz.prog 100 c100 [.t 4, .t 5] := mkA (fn := Tryz.f100) (c := Tryz.f100.body.getD .skip) (fz := []) (im := []) kp100 (by kernel_rfl) (by kernel_rfl) (by kernel_rfl) (by kernel_rfl) (by kernel_rfl)
def kp71 (r : Nat) : List Nat := match r with
  | 0 => [1]
  | 1 => [1, 4]
  | 2 => [1, 4, 5]
  | 3 => [1, 4, 5, 15]
  | 5 => [1, 4, 5]
  | 4 => [1, 4, 5]
  | 6 => [1, 28]
  | 7 => [2, 3]
  | 8 => [1, 6]
  | 9 => [1, 6, 7]
  | 10 => [1, 6, 7, 33]
  | 12 => [1, 6, 7, 8]
  | 13 => [1, 6, 7, 8, 9, 10]
  | 14 => [1, 6, 7, 8, 9, 49]
  | 15 => [2, 3]
  | 16 => [1, 6, 7, 8]
  | 17 => [1, 6, 7]
  | 11 => [1, 6, 7]
  | 18 => [2, 3]
  | _ => []
def c71 : ACode :=
(sq (.reg 3 [ ⟨some 1, none, .box 0 10 (tm 0)⟩, ov 2 (.mv (.c zs)), oi 3 0] [1]) (sq (rg [ ov 4 (.mv (.c zs))] [1, 4]) (sq (sq (rg [ oi 5 0] [1, 4, 5])
 (.block 0 (.loop (sq (sq (rg [ om 11 5, of 12 8 1, ol 13 12, on 14 13, ov 15 (.icmp .lss .i64 (tm 11) (tm 14))] [1, 4, 5, 15]) (.cond (tm 15) .skip
 (.exit 0))) (sq (.block 1 (.reg 10 [ om 18 4, of 19 8 1, ol 20 19, om 21 5, oa 22 6 20 21, of 23 0 22, ol 24 23, ov 25 (.bs 1 1 zr [(0, (tm 24))]),
 ⟨some 26, none, .app 8 1 16 (tm 18) (tm 25) false⟩, om 4 26] [1, 4, 5])) (rg [ om 16 5, ov 17 (.arith .add .i64 (tm 16) (ci 1)), om 5 17] [1, 4,
 5])))))) (sq (sq (rg [ om 27 4, oc 28 69 [(tm 27)]] [1, 28]) (.cond (tm 28) (sq (rg [ ov 2 (.mv (.c zs)), oi 3 161] [2, 3]) .ret) .skip)) (sq (rg [ ov
 6 (.mv (.c zs))] [1, 6]) (sq (sq (rg [ oi 7 0] [1, 6, 7]) (.block 2 (.loop (sq (sq (rg [ om 29 7, of 30 8 1, ol 31 30, on 32 31, ov 33 (.icmp .lss
 .i64 (tm 29) (tm 32))] [1, 6, 7, 33]) (.cond (tm 33) .skip (.exit 2))) (sq (.block 3 (sq (.reg 7 [ of 36 8 1, ol 37 36, om 38 7, oa 39 6 37 38, ov 40
 (.ld 6 true (tm 39)), ⟨some 8, none, .alloc 5 [zr, zr, z0, z0, z0, z0]⟩, ⟨none, none, .st 6 (tm 8) (tm 40)⟩] [1, 6, 7, 8]) (sq (rg [ ov 42 (.ld 10
 true (tm 1)), of 43 1 8, ol 44 43, oc 45 89 [(tm 42), (tm 44)], om 41 45, ox 46 0 41, ox 47 1 41, om 9 46, om 10 47] [1, 6, 7, 8, 9, 10]) (sq (sq (rg
 [ om 48 10, ot 49 48] [1, 6, 7, 8, 9, 49]) (.cond (tm 49) (sq (rg [ ov 2 (.mv (.c zs)), oi 3 160] [2, 3]) .ret) .skip)) (sq (rg [ om 50 9, of 51 2 8,
 ⟨none, none, .st 1 (tm 51) (tm 50)⟩] [1, 6, 7, 8]) (.reg 5 [ om 52 6, ov 53 (.ld 6 true (tm 8)), ov 54 (.bs 6 1 (.agg [zr, zr, z0, z0, z0, z0]) [(0,
 (tm 53))]), ⟨some 55, none, .app 3 6 64 (tm 52) (tm 54) false⟩, om 6 55] [1, 6, 7])))))) (rg [ om 34 7, ov 35 (.arith .add .i64 (tm 34) (ci 1)), om 7
 35] [1, 6, 7])))))) (sq (rg [ om 56 6, om 2 56, oi 3 0] [2, 3]) .ret)))))))
theorem a71 : AOf Tryz.prog 71 c71 [.t 2, .t 3] := mkA (fn := Tryz.f71) (c := Tryz.f71.body.getD .skip) (fz := []) (im := []) kp71 (by kernel_rfl) (by kernel_rfl) (by kernel_rfl) (by kernel_rfl) (by kernel_rfl)
def kp90 (r : Nat) : List Nat := match r with
  | 0 => [2, 3, 4]
  | 1 => [2, 3, 4]
  | 2 => [2, 3, 4, 17]
  | 3 => [2, 3, 4, 6, 7]
  | 4 => [2, 3, 4, 6, 26]
  | 5 => [4, 5]
  | 6 => [2, 3, 4]
  | 7 => [2, 3, 4, 8, 9]
  | 8 => [2, 3, 4, 8, 9, 10, 11]
  | 9 => [2, 3, 4, 9, 10, 11]
  | 10 => [2, 3, 4, 9, 11]
  | 11 => [2, 3, 4, 9, 11]
  | 12 => [2, 3, 4, 9, 11, 51]
  | 13 => [3, 4, 9, 11, 12, 13]
  | 14 => [3, 4, 9, 11, 12, 60]
  | 15 => [4, 5]
  | 16 => [3, 4, 9, 11]
  | 17 => [4, 5]
  | _ => []
def c90 : ACode :=
(sq (.reg 4 [ ⟨some 2, none, .box 0 10 (tm 0)⟩, ⟨some 3, none, .box 1 12 (tm 1)⟩, ⟨some 4, none, .alloc 2 [zr, zr, z0, z0, zs, zs, z0, z0, z0, z0, zr,
 z0]⟩, ob 5 false] [2, 3, 4]) (sq (rg [ of 14 3 3, ⟨none, none, .st 1 (tm 14) (ci 0)⟩] [2, 3, 4]) (sq (sq (rg [ of 15 1 3, ol 16 15, ov 17 (.scmp .neq
 (tm 16) (.c zr))] [2, 3, 4, 17]) (.cond (tm 17) (sq (rg [ ov 19 (.ld 10 true (tm 2)), of 20 1 3, ol 21 20, oc 22 89 [(tm 19), (tm 21)], om 18 22, ox
 23 0 18, ox 24 1 18, om 6 23, om 7 24] [2, 3, 4, 6, 7]) (sq (sq (rg [ om 25 7, ot 26 25] [2, 3, 4, 6, 26]) (.cond (tm 26) (sq (rg [ ov 27 (.ld 12 true
 (tm 3)), ⟨none, none, .st 12 (tm 4) (tm 27)⟩, ob 5 false] [4, 5]) .ret) .skip)) (rg [ om 28 6, of 29 3 3, ⟨none, none, .st 1 (tm 29) (tm 28)⟩] [2, 3,
 4]))) .skip)) (sq (rg [ ov 31 (.ld 10 true (tm 2)), of 32 4 3, ol 33 32, oc 34 100 [(tm 31), (tm 33)], om 30 34, ox 35 0 30, ox 36 1 30, om 8 35, om 9
 36] [2, 3, 4, 8, 9]) (sq (rg [ ov 38 (.ld 10 true (tm 2)), of 39 5 3, ol 40 39, oc 41 100 [(tm 38), (tm 40)], om 37 41, ox 42 0 37, ox 43 1 37, om 10
 42, om 11 43] [2, 3, 4, 8, 9, 10, 11]) (sq (rg [ om 44 8, of 45 6 3, ⟨none, none, .st 1 (tm 45) (tm 44)⟩] [2, 3, 4, 9, 10, 11]) (sq (rg [ om 46 10, of
 47 7 3, ⟨none, none, .st 1 (tm 47) (tm 46)⟩] [2, 3, 4, 9, 11]) (sq (rg [ of 48 11 3, ⟨none, none, .st 1 (tm 48) (ci (-1))⟩] [2, 3, 4, 9, 11]) (sq (sq
 (rg [ of 49 10 3, ol 50 49, ov 51 (.scmp .neq (tm 50) (.c zr))] [2, 3, 4, 9, 11, 51]) (.cond (tm 51) (sq (rg [ ov 53 (.ld 10 true (tm 2)), of 54 10 3,
 ol 55 54, oc 56 101 [(tm 53), (tm 55)], om 52 56, ox 57 0 52, ox 58 1 52, om 12 57, om 13 58] [3, 4, 9, 11, 12, 13]) (sq (sq (rg [ om 59 13, ot 60 59]
 [3, 4, 9, 11, 12, 60]) (.cond (tm 60) (sq (rg [ ov 61 (.ld 12 true (tm 3)), ⟨none, none, .st 12 (tm 4) (tm 61)⟩, ob 5 false] [4, 5]) .ret) .skip)) (rg
 [ om 62 12, of 63 11 3, ⟨none, none, .st 1 (tm 63) (tm 62)⟩] [3, 4, 9, 11]))) .skip)) (sq (rg [ ov 64 (.ld 12 true (tm 3)), om 65 9, om 66 65, gm 67
 66 true 11, oy 68 66 67, ⟨none, none, .st 12 (tm 4) (tm 64)⟩, om 5 68] [4, 5]) .ret))))))))))
theorem a90 : AOf Tryz.prog 90 c90 [.c 4 12 true, .t 5] := mkA (fn := Tryz.f90) (c := Tryz.f90.body.getD .skip) (fz := []) (im := []) kp90 (by kernel_rfl) (by kernel_rfl) (by kernel_rfl) (by kernel_rfl) (by kernel_rfl)
def kp72 (r : Nat) : List Nat := match r with
  | 0 => [1]
  | 1 => [1, 4]
  | 2 => [1, 4, 5]
  | 3 => [1, 4, 5, 14]
  | 5 => [1, 4, 5]
  | 4 => [1, 4, 5]
  | 6 => [1, 27]
  | 7 => [2, 3]
  | 8 => [1, 6]
  | 9 => [1, 6, 7]
  | 10 => [1, 6, 7, 32]
  | 12 => [1, 6, 7, 8, 9]
  | 13 => [1, 6, 7, 8, 46]
  | 14 => [2, 3]
  | 15 => [1, 6, 7]
  | 11 => [1, 6, 7]
  | 16 => [2, 3]
  | _ => []
def c72 : ACode :=
(sq (.reg 3 [ ⟨some 1, none, .box 0 10 (tm 0)⟩, ov 2 (.mv (.c zs)), oi 3 0] [1]) (sq (rg [ ov 4 (.mv (.c zs))] [1, 4]) (sq (sq (rg [ oi 5 0] [1, 4, 5])
 (.block 0 (.loop (sq (sq (rg [ om 10 5, of 11 9 1, ol 12 11, on 13 12, ov 14 (.icmp .lss .i64 (tm 10) (tm 13))] [1, 4, 5, 14]) (.cond (tm 14) .skip
 (.exit 0))) (sq (.block 1 (.reg 10 [ om 17 4, of 18 9 1, ol 19 18, om 20 5, oa 21 12 19 20, of 22 0 21, ol 23 22, ov 24 (.bs 1 1 zr [(0, (tm 23))]),
 ⟨some 25, none, .app 8 1 16 (tm 17) (tm 24) false⟩, om 4 25] [1, 4, 5])) (rg [ om 15 5, ov 16 (.arith .add .i64 (tm 15) (ci 1)), om 5 16] [1, 4,
 5])))))) (sq (sq (rg [ om 26 4, oc 27 69 [(tm 26)]] [1, 27]) (.cond (tm 27) (sq (rg [ ov 2 (.mv (.c zs)), oi 3 161] [2, 3]) .ret) .skip)) (sq (rg [ ov
 6 (.mv (.c zs))] [1, 6]) (sq (sq (rg [ oi 7 0] [1, 6, 7]) (.block 2 (.loop (sq (sq (rg [ om 28 7, of 29 9 1, ol 30 29, on 31 30, ov 32 (.icmp .lss
 .i64 (tm 28) (tm 31))] [1, 6, 7, 32]) (.cond (tm 32) .skip (.exit 2))) (sq (.block 3 (sq (.reg 13 [ ov 36 (.ld 10 true (tm 1)), of 37 9 1, ol 38 37,
 om 39 7, oa 40 12 38 39, ov 41 (.ld 12 true (tm 40)), ⟨some 42, none, .cpu (.c (.fn (.func 90) [] [])) [(tm 36), (tm 41)]⟩, om 35 42, ox 43 0 35, ox
 44 1 35, ⟨some 8, none, .alloc 10 [zr, zr, z0, z0, zs, zs, z0, z0, z0, z0, zr, z0]⟩, ⟨none, none, .st 12 (tm 8) (tm 43)⟩, om 9 44] [1, 6, 7, 8, 9])
 (sq (sq (rg [ om 45 9, ot 46 45] [1, 6, 7, 8, 46]) (.cond (tm 46) (sq (rg [ ov 2 (.mv (.c zs)), oi 3 160] [2, 3]) .ret) .skip)) (.reg 5 [ om 47 6, ov
 48 (.ld 12 true (tm 8)), ov 49 (.bs 12 1 (.agg [zr, zr, z0, z0, zs, zs, z0, z0, z0, z0, zr, z0]) [(0, (tm 48))]), ⟨some 50, none, .app 3 12 152 (tm
 47) (tm 49) false⟩, om 6 50] [1, 6, 7])))) (rg [ om 33 7, ov 34 (.arith .add .i64 (tm 33) (ci 1)), om 7 34] [1, 6, 7])))))) (sq (rg [ om 51 6, om 2
 51, oi 3 0] [2, 3]) .ret)))))))
theorem a72 : AOf Tryz.prog 72 c72 [.t 2, .t 3] := mkA (fn := Tryz.f72) (c := Tryz.f72.body.getD .skip) (fz := [(12, 6)]) (im := [(12, 6)]) kp72 (by kernel_rfl) (by kernel_rfl) (by kernel_rfl) (by kernel_rfl) (by kernel_rfl)
def kp28 (r : Nat) : List Nat := match r with
  | 0 => [1, 2]
  | 1 => [1, 2, 15]
  | 2 => [2, 3]
  | 3 => [1, 2, 4]
  | 4 => [1, 2, 4, 5]
  | 5 => [1, 2, 4, 5, 21]
  | 7 => [1, 2, 4, 5]
  | 6 => [1, 2, 4, 5]
  | 8 => [1, 2, 34]
  | 9 => [2, 3]
  | 10 => [1, 2, 6]
  | 11 => [1, 2, 6, 7]
  | 12 => [1, 2, 6, 7, 41]
  | 14 => [1, 2, 6, 7]
  | 13 => [1, 2, 6, 7]
  | 15 => [1, 2, 54]
  | 16 => [2, 3]
  | 17 => [1, 2, 8, 9]
  | 18 => [1, 2, 8, 9, 62]
  | 19 => [2, 3]
  | 20 => [1, 2, 8, 10, 11]
  | 21 => [1, 2, 8, 10, 11, 71]
  | 22 => [2, 3]
  | 23 => [1, 2, 10]
  | 24 => [1, 2]
  | 25 => [2, 3]
  | _ => []
def c28 : ACode :=
(sq (.reg 3 [ ⟨some 1, none, .box 0 10 (tm 0)⟩, ⟨some 2, none, .alloc 1 [zr, z0, z0, z0, z0, zs, zs, zs, zs, zs]⟩, oi 3 0] [1, 2]) (sq (sq (rg [ of 12
 6 1, ol 13 12, on 14 13, ov 15 (.icmp .gtr .i64 (tm 14) (ci 16))] [1, 2, 15]) (.cond (tm 15) (sq (rg [ ov 16 (.build [zr, z0, z0, z0, z0, zs, zs, zs,
 zs, zs] []), ⟨none, none, .st 10 (tm 2) (tm 16)⟩, oi 3 2] [2, 3]) .ret) .skip)) (sq (rg [ ov 4 (.mv (.c zs))] [1, 2, 4]) (sq (sq (rg [ oi 5 0] [1, 2,
 4, 5]) (.block 0 (.loop (sq (sq (rg [ om 17 5, of 18 6 1, ol 19 18, on 20 19, ov 21 (.icmp .lss .i64 (tm 17) (tm 20))] [1, 2, 4, 5, 21]) (.cond (tm
 21) .skip (.exit 0))) (sq (.block 1 (.reg 10 [ om 24 4, of 25 6 1, ol 26 25, om 27 5, oa 28 2 26 27, of 29 0 28, ol 30 29, ov 31 (.bs 1 1 zr [(0, (tm
 30))]), ⟨some 32, none, .app 8 1 16 (tm 24) (tm 31) false⟩, om 4 32] [1, 2, 4, 5])) (rg [ om 22 5, ov 23 (.arith .add .i64 (tm 22) (ci 1)), om 5 23]
 [1, 2, 4, 5])))))) (sq (sq (rg [ om 33 4, oc 34 69 [(tm 33)]] [1, 2, 34]) (.cond (tm 34) (sq (rg [ ov 35 (.build [zr, z0, z0, z0, z0, zs, zs, zs, zs,
 zs] []), ⟨none, none, .st 10 (tm 2) (tm 35)⟩, oi 3 161] [2, 3]) .ret) .skip)) (sq (rg [ oc 36 70 [], om 6 36] [1, 2, 6]) (sq (sq (rg [ oi 7 0] [1, 2,
 6, 7]) (.block 2 (.loop (sq (sq (rg [ om 37 7, of 38 7 1, ol 39 38, on 40 39, ov 41 (.icmp .lss .i64 (tm 37) (tm 40))] [1, 2, 6, 7, 41]) (.cond (tm
 41) .skip (.exit 2))) (sq (.block 3 (.reg 10 [ om 44 6, of 45 7 1, ol 46 45, om 47 7, oa 48 2 46 47, of 49 0 48, ol 50 49, ov 51 (.bs 1 1 zr [(0, (tm
 50))]), ⟨some 52, none, .app 8 1 16 (tm 44) (tm 51) false⟩, om 6 52] [1, 2, 6, 7])) (rg [ om 42 7, ov 43 (.arith .add .i64 (tm 42) (ci 1)), om 7 43]
 [1, 2, 6, 7])))))) (sq (sq (rg [ om 53 6, oc 54 69 [(tm 53)]] [1, 2, 54]) (.cond (tm 54) (sq (rg [ ov 55 (.build [zr, z0, z0, z0, z0, zs, zs, zs, zs,
 zs] []), ⟨none, none, .st 10 (tm 2) (tm 55)⟩, oi 3 161] [2, 3]) .ret) .skip)) (sq (rg [ ov 57 (.ld 10 true (tm 1)), oc 58 71 [(tm 57)], om 56 58, ox
 59 0 56, ox 60 1 56, om 8 59, om 9 60] [1, 2, 8, 9]) (sq (sq (rg [ om 61 9, ov 62 (.icmp .neq .i64 (tm 61) (ci 0))] [1, 2, 8, 9, 62]) (.cond (tm 62)
 (sq (rg [ ov 63 (.build [zr, z0, z0, z0, z0, zs, zs, zs, zs, zs] []), om 64 9, ⟨none, none, .st 10 (tm 2) (tm 63)⟩, om 3 64] [2, 3]) .ret) .skip)) (sq
 (rg [ ov 66 (.ld 10 true (tm 1)), oc 67 72 [(tm 66)], om 65 67, ox 68 0 65, ox 69 1 65, om 10 68, om 11 69] [1, 2, 8, 10, 11]) (sq (sq (rg [ om 70 11,
 ov 71 (.icmp .neq .i64 (tm 70) (ci 0))] [1, 2, 8, 10, 11, 71]) (.cond (tm 71) (sq (rg [ ov 72 (.build [zr, z0, z0, z0, z0, zs, zs, zs, zs, zs] []), om
 73 11, ⟨none, none, .st 10 (tm 2) (tm 72)⟩, om 3 73] [2, 3]) .ret) .skip)) (sq (rg [ om 74 8, of 75 8 1, ⟨none, none, .st 1 (tm 75) (tm 74)⟩] [1, 2,
 10]) (sq (rg [ om 76 10, of 77 9 1, ⟨none, none, .st 1 (tm 77) (tm 76)⟩] [1, 2]) (sq (rg [ ov 78 (.ld 10 true (tm 1)), ⟨none, none, .st 10 (tm 2) (tm
 78)⟩, oi 3 0] [2, 3]) .ret)))))))))))))))
theorem a28 : AOf Tryz.prog 28 c28 [.c 2 10 true, .t 3] := mkA (fn := Tryz.f28) (c := Tryz.f28.body.getD .skip) (fz := []) (im := []) kp28 (by kernel_rfl) (by kernel_rfl) (by kernel_rfl) (by kernel_rfl) (by kernel_rfl)
end Go.AM
end
section
set_option maxRecDepth 20000
set_option linter.all false
namespace Go.AM
open Go.Proofs
def kp8 (r : Nat) : List Nat := match r with
  | 0 => [0]
  | 1 => [0]
  | _ => []
def c8 : ACode :=
(sq (.reg 1 [ ⟨some 0, none, .alloc 0 [zr, z0, z0, z0, z0, zs, zs, zs, zs, zs]⟩] [0]) (sq (rg [ ov 1 (.build [zr, z0] [(0, 1, (.c (.str [97]))), (1, 1,
 (ci 1))]), ov 2 (.build [zr, z0] [(0, 1, (.c (.str [98]))), (1, 1, (ci 2))]), ov 3 (.bs 2 2 (.agg [zr, z0]) [(0, (tm 1)), (1, (tm 2))]), ov 4 (.build
 [zr, zr, z0, z0, z0, z0] [(0, 1, (.c (.str [103]))), (1, 1, (.c (.str [99, 101, 108, 108, 115]))), (2, 1, (ci 0)), (3, 1, (ci 1))]), ov 5 (.bs 6 1
 (.agg [zr, zr, z0, z0, z0, z0]) [(0, (tm 4))]), ov 6 (.build [zr, zr, z0, z0, zs, zs, z0, z0, z0, z0, zr, z0] [(0, 1, (.c (.str [114]))), (1, 1, (.c
 (.str [114, 111, 119, 115]))), (2, 1, (ci 1)), (3, 1, (ci 1)), (11, 1, (ci (-1)))]), ov 7 (.build [zr, zr, z0, z0, zs, zs, z0, z0, z0, z0, zr, z0]
 [(0, 1, (.c (.str [99]))), (1, 1, (.c (.str [99, 111, 108, 117, 109, 110, 115]))), (2, 1, (ci 1)), (3, 1, (ci 2)), (11, 1, (ci (-1)))]), ov 8 (.build
 [zr, zr, z0, z0, zs, zs, z0, z0, z0, z0, zr, z0] [(0, 1, (.c (.str [120]))), (2, 1, (ci 11)), (10, 1, (.c (.str [103]))), (11, 1, (ci 0))]), ov 9 (.bs
 12 3 (.agg [zr, zr, z0, z0, zs, zs, z0, z0, z0, z0, zr, z0]) [(0, (tm 6)), (1, (tm 7)), (2, (tm 8))]), ov 10 (.build [zr, z0, z0, z0, z0, zs, zs, zs,
 zs, zs] [(0, 1, (.c (.str [108, 97, 116, 105, 110]))), (1, 1, (ci 1)), (2, 1, (ci 1)), (3, 1, (ci 2)), (4, 1, (ci 2)), (6, 1, (tm 3)), (8, 1, (tm 5)),
 (9, 1, (tm 9))]), ⟨none, none, .st 10 (tm 0) (tm 10)⟩] [0]) .ret))
theorem a8 : AOf Tryz.prog 8 c8 [.c 0 10 true] := mkA (fn := Tryz.f8) (c := Tryz.f8.body.getD .skip) (fz := []) (im := []) kp8 (by kernel_rfl) (by kernel_rfl) (by kernel_rfl) (by kernel_rfl) (by kernel_rfl)
def kp9 (r : Nat) : List Nat := match r with
  | 0 => [2, 3, 4]
  | 1 => [2, 4]
  | 2 => [4]
  | _ => []
def c9 : ACode :=
(sq (.reg 3 [ ⟨some 2, none, .box 0 10 (tm 0)⟩, ⟨some 3, none, .box 1 12 (tm 1)⟩, ⟨some 4, none, .alloc 2 [zr, z0, z0, z0, z0, zs, zs, zs, zs, zs]⟩]
 [2, 3, 4]) (sq (.reg 9 [ ov 5 (.bs 12 0 (.agg [zr, zr, z0, z0, zs, zs, z0, z0, z0, z0, zr, z0]) []), of 6 9 2, ol 7 6, ⟨some 8, none, .app 3 12 152
 (tm 5) (tm 7) false⟩, ov 9 (.ld 12 true (tm 3)), ov 10 (.bs 12 1 (.agg [zr, zr, z0, z0, zs, zs, z0, z0, z0, z0, zr, z0]) [(0, (tm 9))]), ⟨some 11,
 none, .app 6 12 152 (tm 8) (tm 10) false⟩, of 12 9 2, ⟨none, none, .st 1 (tm 12) (tm 11)⟩] [2, 4]) (sq (rg [ ov 13 (.ld 10 true (tm 2)), ⟨none, none,
 .st 10 (tm 4) (tm 13)⟩] [4]) .ret)))
theorem a9 : AOf Tryz.prog 9 c9 [.c 4 10 true] := mkA (fn := Tryz.f9) (c := Tryz.f9.body.getD .skip) (fz := []) (im := []) kp9 (by kernel_rfl) (by kernel_rfl) (by kernel_rfl) (by kernel_rfl) (by kernel_rfl)
def kp11 (r : Nat) : List Nat := match r with
  | 0 => [1, 2, 4]
  | 1 => [2, 4]
  | 2 => [4]
  | _ => []
def c11 : ACode :=
(sq (.reg 2 [ ⟨some 2, none, .box 0 10 (tm 0)⟩, ⟨some 4, none, .alloc 1 [zr, z0, z0, z0, z0, zs, zs, zs, zs, zs]⟩] [1, 2, 4]) (sq (.reg 14 [ ov 5 (.bs
 12 0 (.agg [zr, zr, z0, z0, zs, zs, z0, z0, z0, z0, zr, z0]) []), of 6 9 2, ol 7 6, om 8 1, ov 9 (.sl 12 (tm 7) none (some (tm 8)) none), ⟨some 10,
 none, .app 5 12 152 (tm 5) (tm 9) false⟩, of 11 9 2, ol 12 11, om 13 1, ov 14 (.arith .add .i64 (tm 13) (ci 1)), ov 15 (.sl 12 (tm 12) (some (tm 14))
 none none), ⟨some 16, none, .app 11 12 152 (tm 10) (tm 15) false⟩, of 17 9 2, ⟨none, none, .st 1 (tm 17) (tm 16)⟩] [2, 4]) (sq (rg [ ov 18 (.ld 10
 true (tm 2)), ⟨none, none, .st 10 (tm 4) (tm 18)⟩] [4]) .ret)))
theorem a11 : AOf Tryz.prog 11 c11 [.c 4 10 true] := mkA (fn := Tryz.f11) (c := Tryz.f11.body.getD .skip) (fz := []) (im := []) kp11 (by kernel_rfl) (by kernel_rfl) (by kernel_rfl) (by kernel_rfl) (by kernel_rfl)
def kp4 (r : Nat) : List Nat := match r with
  | 0 => []
  | 1 => [1]
  | 2 => [1, 2]
  | 3 => [1, 2, 3, 4, 5]
  | 4 => [1, 2, 3, 4, 5, 8]
  | 5 => [1, 2, 3, 4, 5, 8, 9, 10, 11]
  | 6 => [1, 2, 3, 4, 5, 8, 9, 10, 11, 14]
  | 7 => [0]
  | _ => []
def c4 : ACode :=
(sq (rg [ ob 0 false] []) (sq (.reg 3 [ oc 15 8 [], ⟨some 1, none, .alloc 1 [zr, z0, z0, z0, z0, zs, zs, zs, zs, zs]⟩, ⟨none, none, .st 10 (tm 1) (tm
 15)⟩] [1]) (sq (.reg 5 [ ov 16 (.ld 10 true (tm 1)), ov 17 (.build [zr, zr, z0, z0, zs, zs, z0, z0, z0, z0, zr, z0] [(0, 1, (.c (.str [102]))), (1, 1,
 (.c (.str [114, 111, 119, 115]))), (2, 1, (ci 12)), (3, 1, (ci 1)), (11, 1, (ci (-1)))]), oc 18 9 [(tm 16), (tm 17)], ⟨some 2, none, .alloc 3 [zr, z0,
 z0, z0, z0, zs, zs, zs, zs, zs]⟩, ⟨none, none, .st 10 (tm 2) (tm 18)⟩] [1, 2]) (sq (rg [ ov 20 (.ld 10 true (tm 1)), oc 21 10 [(tm 20), (ci 3), (ci
 4)], om 19 21, ox 22 0 19, ox 23 1 19, ox 24 2 19, om 3 22, om 4 23, om 5 24] [1, 2, 3, 4, 5]) (sq (rg [ ov 26 (.ld 10 true (tm 1)), oc 27 10 [(tm
 26), (ci 4), (ci 4)], om 25 27, ox 28 0 25, ox 29 1 25, ox 30 2 25, om 6 28, om 7 29, om 8 30] [1, 2, 3, 4, 5, 8]) (sq (rg [ ov 32 (.ld 10 true (tm
 1)), oc 33 10 [(tm 32), (ci 2), (ci 256)], om 31 33, ox 34 0 31, ox 35 1 31, ox 36 2 31, om 9 34, om 10 35, om 11 36] [1, 2, 3, 4, 5, 8, 9, 10, 11])
 (sq (rg [ ov 38 (.ld 10 true (tm 1)), oc 39 10 [(tm 38), (ci 2), (ci 257)], om 37 39, ox 40 0 37, ox 41 1 37, ox 42 2 37, om 12 40, om 13 41, om 14
 42] [1, 2, 3, 4, 5, 8, 9, 10, 11, 14]) (sq (rg [ ov 43 (.ld 10 true (tm 1)), oc 44 6 [(tm 43)], ov 45 (.icmp .eql .i64 (tm 44) (ci 0)), om 46 45, gv
 47 46 true (.ld 10 true (tm 1)), ⟨some 48, some (46, true), .call true (.c (.fn (.func 11) [] [])) [(tm 47), (ci 2)]⟩, ⟨some 49, some (46, true),
 .call true (.c (.fn (.func 6) [] [])) [(tm 48)]⟩, gv 50 46 true (.icmp .eql .i64 (tm 49) (ci 170)), oy 51 46 50, om 52 51, gv 53 52 true (.ld 10 true
 (tm 2)), ⟨some 54, some (52, true), .call true (.c (.fn (.func 6) [] [])) [(tm 53)]⟩, gv 55 52 true (.icmp .eql .i64 (tm 54) (ci 171)), oy 56 52 55,
 om 57 56, gv 58 57 true (.ld 10 true (tm 2)), ⟨some 59, some (57, true), .call true (.c (.fn (.func 13) [] [])) [(tm 58)]⟩, gv 60 57 true (.bs 1 1 z0
 [(0, (ci 3))]), ⟨some 61, some (57, true), .call true (.c (.fn (.func 12) [] [])) [(tm 59), (tm 60)]⟩, oy 62 57 61, om 63 62, gv 64 63 true (.build
 [zr, z0, z0, z0, z0, zs, zs, zs, zs, zs] []), ⟨some 65, some (63, true), .call true (.c (.fn (.func 6) [] [])) [(tm 64)]⟩, gv 66 63 true (.icmp .eql
 .i64 (tm 65) (ci 2)), oy 67 63 66, om 68 67, gm 69 68 true 3, gv 70 68 true (.icmp .eql .i64 (tm 69) (ci 4)), oy 71 68 70, om 72 71, gm 73 72 true 4,
 gv 74 72 true (.icmp .eql .i64 (tm 73) (ci 8)), oy 75 72 74, om 76 75, gm 77 76 true 5, oy 78 76 77, om 79 78, gm 80 79 true 8, gv 81 79 true (.not
 (tm 80)), oy 82 79 81, om 83 82, gm 84 83 true 9, gv 85 83 true (.icmp .eql .i64 (tm 84) (ci 512)), oy 86 83 85, om 87 86, gm 88 87 true 10, gv 89 87
 true (.icmp .eql .i64 (tm 88) (ci 512)), oy 90 87 89, om 91 90, gm 92 91 true 11, oy 93 91 92, om 94 93, gm 95 94 true 14, gv 96 94 true (.not (tm
 95)), oy 97 94 96, om 98 97, gf 99 98 true 9 1, gl 100 98 true 99, gv 101 98 true (.ia 12 (tm 100) (ci 2)), gv 102 98 true (.ld 12 true (tm 101)),
 ⟨some 103, some (98, true), .call true (.c (.fn (.func 14) [] [])) [(tm 102)]⟩, oy 104 98 103, om 105 104, gv 106 105 true (.build [zr, zr, z0, z0,
 zs, zs, z0, z0, z0, z0, zr, z0] [(2, 1, (ci 13))]), ⟨some 107, some (105, true), .call true (.c (.fn (.func 14) [] [])) [(tm 106)]⟩, gv 108 105 true
 (.not (tm 107)), oy 109 105 108, om 110 109, gv 111 110 true (.build [zr, zr, z0, z0, zs, zs, z0, z0, z0, z0, zr, z0] []), ⟨some 112, some (110,
 true), .call true (.c (.fn (.func 14) [] [])) [(tm 111)]⟩, gv 113 110 true (.not (tm 112)), oy 114 110 113, om 0 114] [0]) .ret))))))))
theorem l4 : Callable Tryz.prog 4 := ⟨Tryz.f4, by kernel_rfl, by kernel_rfl, by kernel_rfl⟩
theorem a4 : AOf Tryz.prog 4 c4 [.t 0] := mkA (fn := Tryz.f4) (c := Tryz.f4.body.getD .skip) (fz := []) (im := []) kp4 (by kernel_rfl) (by kernel_rfl) (by kernel_rfl) (by kernel_rfl) (by kernel_rfl)
def kp3 (r : Nat) : List Nat := match r with
  | 0 => [1]
  | 1 => [1, 4]
  | 2 => [2]
  | 3 => [2]
  | _ => []
def c3 : ACode :=
(sq (.reg 2 [ ⟨some 1, none, .box 0 10 (tm 0)⟩, ob 2 false] [1]) (sq (sq (rg [ oc 3 4 [], ot 4 3] [1, 4]) (.cond (tm 4) (sq (rg [ ob 2 false] [2])
 .ret) .skip)) (sq (rg [ ov 5 (.ld 10 true (tm 1)), oc 6 5 [(tm 5)], ot 7 6, om 8 7, gv 9 8 false (.ld 10 true (tm 1)), ⟨some 10, some (8, false),
 .call true (.c (.fn (.func 6) [] [])) [(tm 9)]⟩, gv 11 8 false (.ld 10 true (tm 1)), ⟨some 12, some (8, false), .call true (.c (.fn (.func 7) [] []))
 [(tm 11)]⟩, gv 13 8 false (.icmp .eql .i64 (tm 10) (tm 12)), oz 14 8 13, om 2 14] [2]) .ret)))
theorem l3 : Callable Tryz.prog 3 := ⟨Tryz.f3, by kernel_rfl, by kernel_rfl, by kernel_rfl⟩
theorem a3 : AOf Tryz.prog 3 c3 [.t 2] := mkA (fn := Tryz.f3) (c := Tryz.f3.body.getD .skip) (fz := []) (im := []) kp3 (by kernel_rfl) (by kernel_rfl) (by kernel_rfl) (by kernel_rfl) (by kernel_rfl)
end Go.AM
end
