/-
  The abstract code of some functions, written by a program · The abstract code of some functions, written by a program.
  Conditions: none beyond those of its parts.
-/
import Derived.Test.YtekbplnmbbmhdaaDoorProg
import Derived.Test.YtekbplnmbbmhdaaDoorB3
import Derived.KernelRfl

/- The abstract code of some functions, written by a program. Conditions: none. -/
section
set_option maxRecDepth 10000
set_option linter.unusedSimpArgs false
set_option linter.unusedVariables false
set_option maxRecDepth 20000
set_option linter.unusedVariables false
namespace Go.AM
open Go.Proofs





/-- gridwright/press.between -/
def kp25 (r : Nat) : List Nat := match r with
  | 0 => [0, 1, 2]
  | 1 => [6]
  | _ => []
def c25 : ACode :=
  (.seq
   (.reg 0 [
     ⟨some 6, none, .v (.mv (.c (.bool false)))⟩] [0, 1, 2])
   (.seq
    (.reg 0 [
      ⟨some 7, none, .v (.mv (.t 1))⟩,
      ⟨some 8, none, .v (.mv (.t 0))⟩,
      ⟨some 9, none, .v (.icmp .leq .i64 (.t 7) (.t 8))⟩,
      ⟨some 10, none, .v (.mv (.t 9))⟩,
      ⟨some 11, some (10, true), .v (.mv (.t 0))⟩,
      ⟨some 12, some (10, true), .v (.mv (.t 2))⟩,
      ⟨some 13, some (10, true), .v (.icmp .leq .i64 (.t 11) (.t 12))⟩,
      ⟨some 14, none, .pick (.t 10) (.t 13) (.c (.bool false))⟩,
      ⟨some 6, none, .v (.mv (.t 14))⟩] [6])
    .ret))
theorem l25 : Callable Tryd.prog 25 := ⟨Tryd.f25, by kernel_rfl, by kernel_rfl, by kernel_rfl⟩
theorem a25 {args : List AVal} {H : AHeap} {n : Nat} {R : AOut → AHeap → Nat → Prop} (h : awp Tryd.prog c25 (postC [.t 6] R) ⟨penv 0 args, H, n⟩) : ACalls Tryd.prog 25 args H n R :=
  acalls_of_awp' (fn := Tryd.f25) (c := Tryd.f25.body.getD .skip) (ac := c25) (fz := []) (im := []) (kp := kp25) (rs := [.t 6]) (by kernel_rfl) (by kernel_rfl) (by kernel_rfl) (by kernel_rfl) (by kernel_rfl) h

/-- gridwright/gridwrightref57.good -/
def kp28 (r : Nat) : List Nat := match r with
  | 0 => [1]
  | 1 => [1, 40]
  | 2 => [2]
  | 3 => [2]
  | _ => []
def c28 : ACode :=
  (.seq
   (.reg 2 [
     ⟨some 1, none, .box 0 5 (.t 0)⟩,
     ⟨some 2, none, .v (.mv (.c (.bool false)))⟩] [1])
   (.seq
    (.seq
     (.reg 0 [
       ⟨some 3, none, .v (.fa 0 (.t 1))⟩,
       ⟨some 4, none, .v (.ld 1 false (.t 3))⟩,
       ⟨some 5, none, .v (.icmp .lss .i64 (.t 4) (.c (.int .i64 1)))⟩,
       ⟨some 6, none, .v (.mv (.t 5))⟩,
       ⟨some 7, some (6, false), .v (.fa 0 (.t 1))⟩,
       ⟨some 8, some (6, false), .v (.ld 1 false (.t 7))⟩,
       ⟨some 9, some (6, false), .v (.icmp .gtr .i64 (.t 8) (.c (.int .i64 4096)))⟩,
       ⟨some 10, none, .pick (.t 6) (.c (.bool true)) (.t 9)⟩,
       ⟨some 11, none, .v (.mv (.t 10))⟩,
       ⟨some 12, some (11, false), .v (.fa 1 (.t 1))⟩,
       ⟨some 13, some (11, false), .v (.ld 1 false (.t 12))⟩,
       ⟨some 14, some (11, false), .v (.icmp .lss .i64 (.t 13) (.c (.int .i64 1)))⟩,
       ⟨some 15, none, .pick (.t 11) (.c (.bool true)) (.t 14)⟩,
       ⟨some 16, none, .v (.mv (.t 15))⟩,
       ⟨some 17, some (16, false), .v (.fa 1 (.t 1))⟩,
       ⟨some 18, some (16, false), .v (.ld 1 false (.t 17))⟩,
       ⟨some 19, some (16, false), .v (.icmp .gtr .i64 (.t 18) (.c (.int .i64 4096)))⟩,
       ⟨some 20, none, .pick (.t 16) (.c (.bool true)) (.t 19)⟩,
       ⟨some 21, none, .v (.mv (.t 20))⟩,
       ⟨some 22, some (21, false), .v (.fa 2 (.t 1))⟩,
       ⟨some 23, some (21, false), .v (.ld 1 false (.t 22))⟩,
       ⟨some 24, some (21, false), .v (.icmp .lss .i64 (.t 23) (.c (.int .i64 0)))⟩,
       ⟨some 25, none, .pick (.t 21) (.c (.bool true)) (.t 24)⟩,
       ⟨some 26, none, .v (.mv (.t 25))⟩,
       ⟨some 27, some (26, false), .v (.fa 2 (.t 1))⟩,
       ⟨some 28, some (26, false), .v (.ld 1 false (.t 27))⟩,
       ⟨some 29, some (26, false), .v (.icmp .gtr .i64 (.t 28) (.c (.int .i64 4096)))⟩,
       ⟨some 30, none, .pick (.t 26) (.c (.bool true)) (.t 29)⟩,
       ⟨some 31, none, .v (.mv (.t 30))⟩,
       ⟨some 32, some (31, false), .v (.fa 3 (.t 1))⟩,
       ⟨some 33, some (31, false), .v (.ld 1 false (.t 32))⟩,
       ⟨some 34, some (31, false), .v (.icmp .lss .i64 (.t 33) (.c (.int .i64 0)))⟩,
       ⟨some 35, none, .pick (.t 31) (.c (.bool true)) (.t 34)⟩,
       ⟨some 36, none, .v (.mv (.t 35))⟩,
       ⟨some 37, some (36, false), .v (.fa 3 (.t 1))⟩,
       ⟨some 38, some (36, false), .v (.ld 1 false (.t 37))⟩,
       ⟨some 39, some (36, false), .v (.icmp .gtr .i64 (.t 38) (.c (.int .i64 4096)))⟩,
       ⟨some 40, none, .pick (.t 36) (.c (.bool true)) (.t 39)⟩] [1, 40])
     (.cond (.t 40)
      (.seq
       (.reg 0 [
         ⟨some 2, none, .v (.mv (.c (.bool false)))⟩] [2])
       .ret)
      .skip))
    (.seq
     (.reg 0 [
       ⟨some 41, none, .v (.fa 2 (.t 1))⟩,
       ⟨some 42, none, .v (.ld 1 false (.t 41))⟩,
       ⟨some 43, none, .v (.arith .mul .i64 (.c (.int .i64 2)) (.t 42))⟩,
       ⟨some 44, none, .v (.fa 0 (.t 1))⟩,
       ⟨some 45, none, .v (.ld 1 false (.t 44))⟩,
       ⟨some 46, none, .v (.icmp .lss .i64 (.t 43) (.t 45))⟩,
       ⟨some 47, none, .v (.mv (.t 46))⟩,
       ⟨some 48, some (47, true), .v (.fa 2 (.t 1))⟩,
       ⟨some 49, some (47, true), .v (.ld 1 false (.t 48))⟩,
       ⟨some 50, some (47, true), .v (.arith .mul .i64 (.c (.int .i64 2)) (.t 49))⟩,
       ⟨some 51, some (47, true), .v (.fa 1 (.t 1))⟩,
       ⟨some 52, some (47, true), .v (.ld 1 false (.t 51))⟩,
       ⟨some 53, some (47, true), .v (.icmp .lss .i64 (.t 50) (.t 52))⟩,
       ⟨some 54, none, .pick (.t 47) (.t 53) (.c (.bool false))⟩,
       ⟨some 55, none, .v (.mv (.t 54))⟩,
       ⟨some 56, some (55, true), .v (.fa 4 (.t 1))⟩,
       ⟨some 57, some (55, true), .v (.ld 1 false (.t 56))⟩,
       ⟨some 58, some (55, true), .v (.icmp .geq .i64 (.t 57) (.c (.int .i64 1)))⟩,
       ⟨some 59, none, .pick (.t 55) (.t 58) (.c (.bool false))⟩,
       ⟨some 60, none, .v (.mv (.t 59))⟩,
       ⟨some 61, some (60, true), .v (.fa 4 (.t 1))⟩,
       ⟨some 62, some (60, true), .v (.ld 1 false (.t 61))⟩,
       ⟨some 63, some (60, true), .v (.icmp .leq .i64 (.t 62) (.c (.int .i64 16)))⟩,
       ⟨some 64, none, .pick (.t 60) (.t 63) (.c (.bool false))⟩,
       ⟨some 2, none, .v (.mv (.t 64))⟩] [2])
     .ret)))
theorem l28 : Callable Tryd.prog 28 := ⟨Tryd.f28, by kernel_rfl, by kernel_rfl, by kernel_rfl⟩
theorem a28 {args : List AVal} {H : AHeap} {n : Nat} {R : AOut → AHeap → Nat → Prop} (h : awp Tryd.prog c28 (postC [.t 2] R) ⟨penv 0 args, H, n⟩) : ACalls Tryd.prog 28 args H n R :=
  acalls_of_awp' (fn := Tryd.f28) (c := Tryd.f28.body.getD .skip) (ac := c28) (fz := []) (im := []) (kp := kp28) (rs := [.t 2]) (by kernel_rfl) (by kernel_rfl) (by kernel_rfl) (by kernel_rfl) (by kernel_rfl) h

/-- gridwright/gridwrightref57.fits -/
def kp29 (r : Nat) : List Nat := match r with
  | 0 => [2, 3]
  | 1 => [2, 3, 42]
  | 2 => [4]
  | 3 => [4]
  | _ => []
def c29 : ACode :=
  (.seq
   (.reg 3 [
     ⟨some 2, none, .box 0 5 (.t 0)⟩,
     ⟨some 3, none, .box 1 4 (.t 1)⟩,
     ⟨some 4, none, .v (.mv (.c (.bool false)))⟩] [2, 3])
   (.seq
    (.seq
     (.reg 0 [
       ⟨some 5, none, .v (.fa 0 (.t 3))⟩,
       ⟨some 6, none, .v (.ld 1 false (.t 5))⟩,
       ⟨some 7, none, .v (.icmp .lss .i64 (.t 6) (.c (.int .i64 1)))⟩,
       ⟨some 8, none, .v (.mv (.t 7))⟩,
       ⟨some 9, some (8, false), .v (.fa 0 (.t 3))⟩,
       ⟨some 10, some (8, false), .v (.ld 1 false (.t 9))⟩,
       ⟨some 11, some (8, false), .v (.icmp .gtr .i64 (.t 10) (.c (.int .i64 3)))⟩,
       ⟨some 12, none, .pick (.t 8) (.c (.bool true)) (.t 11)⟩,
       ⟨some 13, none, .v (.mv (.t 12))⟩,
       ⟨some 14, some (13, false), .v (.fa 1 (.t 3))⟩,
       ⟨some 15, some (13, false), .v (.ld 1 false (.t 14))⟩,
       ⟨some 16, some (13, false), .v (.icmp .lss .i64 (.t 15) (.c (.int .i64 0)))⟩,
       ⟨some 17, none, .pick (.t 13) (.c (.bool true)) (.t 16)⟩,
       ⟨some 18, none, .v (.mv (.t 17))⟩,
       ⟨some 19, some (18, false), .v (.fa 1 (.t 3))⟩,
       ⟨some 20, some (18, false), .v (.ld 1 false (.t 19))⟩,
       ⟨some 21, some (18, false), .v (.icmp .gtr .i64 (.t 20) (.c (.int .i64 65536)))⟩,
       ⟨some 22, none, .pick (.t 18) (.c (.bool true)) (.t 21)⟩,
       ⟨some 23, none, .v (.mv (.t 22))⟩,
       ⟨some 24, some (23, false), .v (.fa 2 (.t 3))⟩,
       ⟨some 25, some (23, false), .v (.ld 1 false (.t 24))⟩,
       ⟨some 26, some (23, false), .v (.icmp .lss .i64 (.t 25) (.c (.int .i64 1)))⟩,
       ⟨some 27, none, .pick (.t 23) (.c (.bool true)) (.t 26)⟩,
       ⟨some 28, none, .v (.mv (.t 27))⟩,
       ⟨some 29, some (28, false), .v (.fa 2 (.t 3))⟩,
       ⟨some 30, some (28, false), .v (.ld 1 false (.t 29))⟩,
       ⟨some 31, some (28, false), .v (.icmp .gtr .i64 (.t 30) (.c (.int .i64 4096)))⟩,
       ⟨some 32, none, .pick (.t 28) (.c (.bool true)) (.t 31)⟩,
       ⟨some 33, none, .v (.mv (.t 32))⟩,
       ⟨some 34, some (33, false), .v (.fa 3 (.t 3))⟩,
       ⟨some 35, some (33, false), .v (.ld 1 false (.t 34))⟩,
       ⟨some 36, some (33, false), .v (.icmp .lss .i64 (.t 35) (.c (.int .i64 1)))⟩,
       ⟨some 37, none, .pick (.t 33) (.c (.bool true)) (.t 36)⟩,
       ⟨some 38, none, .v (.mv (.t 37))⟩,
       ⟨some 39, some (38, false), .v (.fa 3 (.t 3))⟩,
       ⟨some 40, some (38, false), .v (.ld 1 false (.t 39))⟩,
       ⟨some 41, some (38, false), .v (.icmp .gtr .i64 (.t 40) (.c (.int .i64 4096)))⟩,
       ⟨some 42, none, .pick (.t 38) (.c (.bool true)) (.t 41)⟩] [2, 3, 42])
     (.cond (.t 42)
      (.seq
       (.reg 0 [
         ⟨some 4, none, .v (.mv (.c (.bool false)))⟩] [4])
       .ret)
      .skip))
    (.seq
     (.reg 0 [
       ⟨some 43, none, .v (.fa 2 (.t 3))⟩,
       ⟨some 44, none, .v (.ld 1 false (.t 43))⟩,
       ⟨some 45, none, .v (.fa 4 (.t 2))⟩,
       ⟨some 46, none, .v (.ld 1 false (.t 45))⟩,
       ⟨some 47, none, .v (.arith .mul .i64 (.t 44) (.t 46))⟩,
       ⟨some 48, none, .v (.fa 0 (.t 2))⟩,
       ⟨some 49, none, .v (.ld 1 false (.t 48))⟩,
       ⟨some 50, none, .v (.fa 2 (.t 2))⟩,
       ⟨some 51, none, .v (.ld 1 false (.t 50))⟩,
       ⟨some 52, none, .v (.arith .mul .i64 (.c (.int .i64 2)) (.t 51))⟩,
       ⟨some 53, none, .v (.arith .sub .i64 (.t 49) (.t 52))⟩,
       ⟨some 54, none, .v (.icmp .leq .i64 (.t 47) (.t 53))⟩,
       ⟨some 55, none, .v (.mv (.t 54))⟩,
       ⟨some 56, some (55, true), .v (.fa 3 (.t 3))⟩,
       ⟨some 57, some (55, true), .v (.ld 1 false (.t 56))⟩,
       ⟨some 58, some (55, true), .v (.fa 4 (.t 2))⟩,
       ⟨some 59, some (55, true), .v (.ld 1 false (.t 58))⟩,
       ⟨some 60, some (55, true), .v (.arith .mul .i64 (.t 57) (.t 59))⟩,
       ⟨some 61, some (55, true), .v (.fa 1 (.t 2))⟩,
       ⟨some 62, some (55, true), .v (.ld 1 false (.t 61))⟩,
       ⟨some 63, some (55, true), .v (.fa 2 (.t 2))⟩,
       ⟨some 64, some (55, true), .v (.ld 1 false (.t 63))⟩,
       ⟨some 65, some (55, true), .v (.arith .mul .i64 (.c (.int .i64 2)) (.t 64))⟩,
       ⟨some 66, some (55, true), .v (.arith .sub .i64 (.t 62) (.t 65))⟩,
       ⟨some 67, some (55, true), .v (.icmp .leq .i64 (.t 60) (.t 66))⟩,
       ⟨some 68, none, .pick (.t 55) (.t 67) (.c (.bool false))⟩,
       ⟨some 4, none, .v (.mv (.t 68))⟩] [4])
     .ret)))
theorem l29 : Callable Tryd.prog 29 := ⟨Tryd.f29, by kernel_rfl, by kernel_rfl, by kernel_rfl⟩
theorem a29 {args : List AVal} {H : AHeap} {n : Nat} {R : AOut → AHeap → Nat → Prop} (h : awp Tryd.prog c29 (postC [.t 4] R) ⟨penv 0 args, H, n⟩) : ACalls Tryd.prog 29 args H n R :=
  acalls_of_awp' (fn := Tryd.f29) (c := Tryd.f29.body.getD .skip) (ac := c29) (fz := []) (im := []) (kp := kp29) (rs := [.t 4]) (by kernel_rfl) (by kernel_rfl) (by kernel_rfl) (by kernel_rfl) (by kernel_rfl) h

/-- gridwright/press.spread -/
def kp33 (r : Nat) : List Nat := match r with
  | 0 => [0]
  | 1 => [2]
  | _ => []
def c33 : ACode :=
  (.seq
   (.reg 0 [
     ⟨some 2, none, .v (.mv (.c (.int .i64 0)))⟩] [0])
   (.seq
    (.reg 0 [
      ⟨some 3, none, .v (.mv (.t 0))⟩,
      ⟨some 4, none, .v (.arith .add .i64 (.t 3) (.c (.int .i64 1)))⟩,
      ⟨some 5, none, .v (.arith .quo .i64 (.t 4) (.c (.int .i64 2)))⟩,
      ⟨some 2, none, .v (.mv (.t 5))⟩] [2])
    .ret))
theorem l33 : Callable Tryd.prog 33 := ⟨Tryd.f33, by kernel_rfl, by kernel_rfl, by kernel_rfl⟩
theorem a33 {args : List AVal} {H : AHeap} {n : Nat} {R : AOut → AHeap → Nat → Prop} (h : awp Tryd.prog c33 (postC [.t 2] R) ⟨penv 0 args, H, n⟩) : ACalls Tryd.prog 33 args H n R :=
  acalls_of_awp' (fn := Tryd.f33) (c := Tryd.f33.body.getD .skip) (ac := c33) (fz := []) (im := []) (kp := kp33) (rs := [.t 2]) (by kernel_rfl) (by kernel_rfl) (by kernel_rfl) (by kernel_rfl) (by kernel_rfl) h

/-- gridwright/gridwrightref57.Spread -/
def kp35 (r : Nat) : List Nat := match r with
  | 0 => [0]
  | 1 => [2]
  | _ => []
def c35 : ACode :=
  (.seq
   (.reg 0 [
     ⟨some 2, none, .v (.mv (.c (.int .i64 0)))⟩] [0])
   (.seq
    (.reg 0 [
      ⟨some 3, none, .v (.mv (.t 0))⟩,
      ⟨some 4, none, .v (.mv (.t 0))⟩,
      ⟨some 5, none, .v (.arith .quo .i64 (.t 4) (.c (.int .i64 2)))⟩,
      ⟨some 6, none, .v (.arith .sub .i64 (.t 3) (.t 5))⟩,
      ⟨some 2, none, .v (.mv (.t 6))⟩] [2])
    .ret))
theorem l35 : Callable Tryd.prog 35 := ⟨Tryd.f35, by kernel_rfl, by kernel_rfl, by kernel_rfl⟩
theorem a35 {args : List AVal} {H : AHeap} {n : Nat} {R : AOut → AHeap → Nat → Prop} (h : awp Tryd.prog c35 (postC [.t 2] R) ⟨penv 0 args, H, n⟩) : ACalls Tryd.prog 35 args H n R :=
  acalls_of_awp' (fn := Tryd.f35) (c := Tryd.f35.body.getD .skip) (ac := c35) (fz := []) (im := []) (kp := kp35) (rs := [.t 2]) (by kernel_rfl) (by kernel_rfl) (by kernel_rfl) (by kernel_rfl) (by kernel_rfl) h

/-- (gridwright/press.box).before -/
def kp36 (r : Nat) : List Nat := match r with
  | 0 => [2, 3, 4]
  | 1 => [6]
  | _ => []
def c36 : ACode :=
  (.seq
   (.reg 3 [
     ⟨some 3, none, .box 0 10 (.t 0)⟩,
     ⟨some 4, none, .box 1 10 (.t 1)⟩,
     ⟨some 6, none, .v (.mv (.c (.bool false)))⟩] [2, 3, 4])
   (.seq
    (.reg 0 [
      ⟨some 7, none, .v (.fa 0 (.t 3))⟩,
      ⟨some 8, none, .v (.fa 2 (.t 7))⟩,
      ⟨some 9, none, .v (.ld 1 false (.t 8))⟩,
      ⟨some 10, none, .v (.fa 8 (.t 3))⟩,
      ⟨some 11, none, .v (.ld 1 false (.t 10))⟩,
      ⟨some 12, none, .v (.arith .add .i64 (.t 9) (.t 11))⟩,
      ⟨some 13, none, .v (.mv (.t 2))⟩,
      ⟨some 14, none, .v (.arith .add .i64 (.t 12) (.t 13))⟩,
      ⟨some 15, none, .v (.fa 0 (.t 4))⟩,
      ⟨some 16, none, .v (.fa 2 (.t 15))⟩,
      ⟨some 17, none, .v (.ld 1 false (.t 16))⟩,
      ⟨some 18, none, .v (.icmp .leq .i64 (.t 14) (.t 17))⟩,
      ⟨some 19, none, .v (.mv (.t 18))⟩,
      ⟨some 20, some (19, false), .v (.fa 0 (.t 3))⟩,
      ⟨some 21, some (19, false), .v (.fa 3 (.t 20))⟩,
      ⟨some 22, some (19, false), .v (.ld 1 false (.t 21))⟩,
      ⟨some 23, some (19, false), .v (.fa 9 (.t 3))⟩,
      ⟨some 24, some (19, false), .v (.ld 1 false (.t 23))⟩,
      ⟨some 25, some (19, false), .v (.arith .add .i64 (.t 22) (.t 24))⟩,
      ⟨some 26, some (19, false), .v (.mv (.t 2))⟩,
      ⟨some 27, some (19, false), .v (.arith .add .i64 (.t 25) (.t 26))⟩,
      ⟨some 28, some (19, false), .v (.fa 0 (.t 4))⟩,
      ⟨some 29, some (19, false), .v (.fa 3 (.t 28))⟩,
      ⟨some 30, some (19, false), .v (.ld 1 false (.t 29))⟩,
      ⟨some 31, some (19, false), .v (.icmp .leq .i64 (.t 27) (.t 30))⟩,
      ⟨some 32, none, .pick (.t 19) (.c (.bool true)) (.t 31)⟩,
      ⟨some 6, none, .v (.mv (.t 32))⟩] [6])
    .ret))
theorem l36 : Callable Tryd.prog 36 := ⟨Tryd.f36, by kernel_rfl, by kernel_rfl, by kernel_rfl⟩
theorem a36 {args : List AVal} {H : AHeap} {n : Nat} {R : AOut → AHeap → Nat → Prop} (h : awp Tryd.prog c36 (postC [.t 6] R) ⟨penv 0 args, H, n⟩) : ACalls Tryd.prog 36 args H n R :=
  acalls_of_awp' (fn := Tryd.f36) (c := Tryd.f36.body.getD .skip) (ac := c36) (fz := []) (im := []) (kp := kp36) (rs := [.t 6]) (by kernel_rfl) (by kernel_rfl) (by kernel_rfl) (by kernel_rfl) (by kernel_rfl) h

/-- (gridwright/press.box).tells -/
def kp37 (r : Nat) : List Nat := match r with
  | 0 => [2, 3]
  | 1 => [4]
  | _ => []
def c37 : ACode :=
  (.seq
   (.reg 3 [
     ⟨some 2, none, .box 0 10 (.t 0)⟩,
     ⟨some 3, none, .box 1 10 (.t 1)⟩,
     ⟨some 4, none, .v (.mv (.c (.bool false)))⟩] [2, 3])
   (.seq
    (.reg 0 [
      ⟨some 5, none, .v (.fa 4 (.t 2))⟩,
      ⟨some 6, none, .v (.fa 1 (.t 5))⟩,
      ⟨some 7, none, .v (.ld 1 false (.t 6))⟩,
      ⟨some 8, none, .v (.fa 4 (.t 3))⟩,
      ⟨some 9, none, .v (.fa 1 (.t 8))⟩,
      ⟨some 10, none, .v (.ld 1 false (.t 9))⟩,
      ⟨some 11, none, .v (.icmp .eql .i64 (.t 7) (.t 10))⟩,
      ⟨some 12, none, .v (.mv (.t 11))⟩,
      ⟨some 13, some (12, true), .v (.fa 4 (.t 2))⟩,
      ⟨some 14, some (12, true), .v (.fa 0 (.t 13))⟩,
      ⟨some 15, some (12, true), .v (.ld 1 false (.t 14))⟩,
      ⟨some 16, some (12, true), .v (.fa 4 (.t 3))⟩,
      ⟨some 17, some (12, true), .v (.fa 0 (.t 16))⟩,
      ⟨some 18, some (12, true), .v (.ld 1 false (.t 17))⟩,
      ⟨some 19, some (12, true), .v (.mnmx false .i64 [(.t 15), (.t 18)])⟩,
      ⟨some 20, some (12, true), .v (.icmp .eql .i64 (.t 19) (.c (.int .i64 1)))⟩,
      ⟨some 21, none, .pick (.t 12) (.t 20) (.c (.bool false))⟩,
      ⟨some 22, none, .v (.mv (.t 21))⟩,
      ⟨some 23, some (22, true), .v (.fa 4 (.t 2))⟩,
      ⟨some 24, some (22, true), .v (.fa 0 (.t 23))⟩,
      ⟨some 25, some (22, true), .v (.ld 1 false (.t 24))⟩,
      ⟨some 26, some (22, true), .v (.fa 4 (.t 3))⟩,
      ⟨some 27, some (22, true), .v (.fa 0 (.t 26))⟩,
      ⟨some 28, some (22, true), .v (.ld 1 false (.t 27))⟩,
      ⟨some 29, some (22, true), .v (.mnmx true .i64 [(.t 25), (.t 28)])⟩,
      ⟨some 30, some (22, true), .v (.icmp .eql .i64 (.t 29) (.c (.int .i64 2)))⟩,
      ⟨some 31, none, .pick (.t 22) (.t 30) (.c (.bool false))⟩,
      ⟨some 4, none, .v (.mv (.t 31))⟩] [4])
    .ret))
theorem l37 : Callable Tryd.prog 37 := ⟨Tryd.f37, by kernel_rfl, by kernel_rfl, by kernel_rfl⟩
theorem a37 {args : List AVal} {H : AHeap} {n : Nat} {R : AOut → AHeap → Nat → Prop} (h : awp Tryd.prog c37 (postC [.t 4] R) ⟨penv 0 args, H, n⟩) : ACalls Tryd.prog 37 args H n R :=
  acalls_of_awp' (fn := Tryd.f37) (c := Tryd.f37.body.getD .skip) (ac := c37) (fz := []) (im := []) (kp := kp37) (rs := [.t 4]) (by kernel_rfl) (by kernel_rfl) (by kernel_rfl) (by kernel_rfl) (by kernel_rfl) h

/-- gridwright/gridwrightref57.within -/
def kp38 (r : Nat) : List Nat := match r with
  | 0 => [3, 4, 5]
  | 1 => [3, 4, 5, 37]
  | 2 => [6]
  | 3 => [6]
  | _ => []
def c38 : ACode :=
  (.seq
   (.reg 4 [
     ⟨some 3, none, .box 0 5 (.t 0)⟩,
     ⟨some 4, none, .box 1 4 (.t 1)⟩,
     ⟨some 5, none, .box 2 4 (.t 2)⟩,
     ⟨some 6, none, .v (.mv (.c (.bool false)))⟩] [3, 4, 5])
   (.seq
    (.seq
     (.reg 0 [
       ⟨some 7, none, .v (.fa 1 (.t 5))⟩,
       ⟨some 8, none, .v (.ld 1 false (.t 7))⟩,
       ⟨some 9, none, .v (.icmp .lss .i64 (.t 8) (.c (.int .i64 0)))⟩,
       ⟨some 10, none, .v (.mv (.t 9))⟩,
       ⟨some 11, some (10, false), .v (.fa 2 (.t 5))⟩,
       ⟨some 12, some (10, false), .v (.ld 1 false (.t 11))⟩,
       ⟨some 13, some (10, false), .v (.fa 2 (.t 3))⟩,
       ⟨some 14, some (10, false), .v (.ld 1 false (.t 13))⟩,
       ⟨some 15, some (10, false), .v (.icmp .lss .i64 (.t 12) (.t 14))⟩,
       ⟨some 16, none, .pick (.t 10) (.c (.bool true)) (.t 15)⟩,
       ⟨some 17, none, .v (.mv (.t 16))⟩,
       ⟨some 18, some (17, false), .v (.fa 2 (.t 5))⟩,
       ⟨some 19, some (17, false), .v (.ld 1 false (.t 18))⟩,
       ⟨some 20, some (17, false), .v (.fa 0 (.t 3))⟩,
       ⟨some 21, some (17, false), .v (.ld 1 false (.t 20))⟩,
       ⟨some 22, some (17, false), .v (.icmp .gtr .i64 (.t 19) (.t 21))⟩,
       ⟨some 23, none, .pick (.t 17) (.c (.bool true)) (.t 22)⟩,
       ⟨some 24, none, .v (.mv (.t 23))⟩,
       ⟨some 25, some (24, false), .v (.fa 3 (.t 5))⟩,
       ⟨some 26, some (24, false), .v (.ld 1 false (.t 25))⟩,
       ⟨some 27, some (24, false), .v (.fa 2 (.t 3))⟩,
       ⟨some 28, some (24, false), .v (.ld 1 false (.t 27))⟩,
       ⟨some 29, some (24, false), .v (.icmp .lss .i64 (.t 26) (.t 28))⟩,
       ⟨some 30, none, .pick (.t 24) (.c (.bool true)) (.t 29)⟩,
       ⟨some 31, none, .v (.mv (.t 30))⟩,
       ⟨some 32, some (31, false), .v (.fa 3 (.t 5))⟩,
       ⟨some 33, some (31, false), .v (.ld 1 false (.t 32))⟩,
       ⟨some 34, some (31, false), .v (.fa 1 (.t 3))⟩,
       ⟨some 35, some (31, false), .v (.ld 1 false (.t 34))⟩,
       ⟨some 36, some (31, false), .v (.icmp .gtr .i64 (.t 33) (.t 35))⟩,
       ⟨some 37, none, .pick (.t 31) (.c (.bool true)) (.t 36)⟩] [3, 4, 5, 37])
     (.cond (.t 37)
      (.seq
       (.reg 0 [
         ⟨some 6, none, .v (.mv (.c (.bool false)))⟩] [6])
       .ret)
      .skip))
    (.seq
     (.reg 0 [
       ⟨some 38, none, .v (.fa 2 (.t 5))⟩,
       ⟨some 39, none, .v (.ld 1 false (.t 38))⟩,
       ⟨some 40, none, .v (.fa 2 (.t 4))⟩,
       ⟨some 41, none, .v (.ld 1 false (.t 40))⟩,
       ⟨some 42, none, .v (.fa 4 (.t 3))⟩,
       ⟨some 43, none, .v (.ld 1 false (.t 42))⟩,
       ⟨some 44, none, .v (.arith .mul .i64 (.t 41) (.t 43))⟩,
       ⟨some 45, none, .v (.arith .add .i64 (.t 39) (.t 44))⟩,
       ⟨some 46, none, .v (.fa 0 (.t 3))⟩,
       ⟨some 47, none, .v (.ld 1 false (.t 46))⟩,
       ⟨some 48, none, .v (.fa 2 (.t 3))⟩,
       ⟨some 49, none, .v (.ld 1 false (.t 48))⟩,
       ⟨some 50, none, .v (.arith .sub .i64 (.t 47) (.t 49))⟩,
       ⟨some 51, none, .v (.icmp .leq .i64 (.t 45) (.t 50))⟩,
       ⟨some 52, none, .v (.mv (.t 51))⟩,
       ⟨some 53, some (52, true), .v (.fa 3 (.t 5))⟩,
       ⟨some 54, some (52, true), .v (.ld 1 false (.t 53))⟩,
       ⟨some 55, some (52, true), .v (.fa 3 (.t 4))⟩,
       ⟨some 56, some (52, true), .v (.ld 1 false (.t 55))⟩,
       ⟨some 57, some (52, true), .v (.fa 4 (.t 3))⟩,
       ⟨some 58, some (52, true), .v (.ld 1 false (.t 57))⟩,
       ⟨some 59, some (52, true), .v (.arith .mul .i64 (.t 56) (.t 58))⟩,
       ⟨some 60, some (52, true), .v (.arith .add .i64 (.t 54) (.t 59))⟩,
       ⟨some 61, some (52, true), .v (.fa 1 (.t 3))⟩,
       ⟨some 62, some (52, true), .v (.ld 1 false (.t 61))⟩,
       ⟨some 63, some (52, true), .v (.fa 2 (.t 3))⟩,
       ⟨some 64, some (52, true), .v (.ld 1 false (.t 63))⟩,
       ⟨some 65, some (52, true), .v (.arith .sub .i64 (.t 62) (.t 64))⟩,
       ⟨some 66, some (52, true), .v (.icmp .leq .i64 (.t 60) (.t 65))⟩,
       ⟨some 67, none, .pick (.t 52) (.t 66) (.c (.bool false))⟩,
       ⟨some 6, none, .v (.mv (.t 67))⟩] [6])
     .ret)))
theorem l38 : Callable Tryd.prog 38 := ⟨Tryd.f38, by kernel_rfl, by kernel_rfl, by kernel_rfl⟩
theorem a38 {args : List AVal} {H : AHeap} {n : Nat} {R : AOut → AHeap → Nat → Prop} (h : awp Tryd.prog c38 (postC [.t 6] R) ⟨penv 0 args, H, n⟩) : ACalls Tryd.prog 38 args H n R :=
  acalls_of_awp' (fn := Tryd.f38) (c := Tryd.f38.body.getD .skip) (ac := c38) (fz := []) (im := []) (kp := kp38) (rs := [.t 6]) (by kernel_rfl) (by kernel_rfl) (by kernel_rfl) (by kernel_rfl) (by kernel_rfl) h

/-- gridwright/gridwrightref57.ahead -/
def kp39 (r : Nat) : List Nat := match r with
  | 0 => [5, 6, 8, 9]
  | 1 => [10]
  | _ => []
def c39 : ACode :=
  (.seq
   (.reg 6 [
     ⟨some 5, none, .box 0 5 (.t 0)⟩,
     ⟨some 6, none, .box 1 4 (.t 1)⟩,
     ⟨some 7, none, .box 2 4 (.t 2)⟩,
     ⟨some 8, none, .box 3 4 (.t 3)⟩,
     ⟨some 9, none, .box 4 4 (.t 4)⟩,
     ⟨some 10, none, .v (.mv (.c (.bool false)))⟩] [5, 6, 8, 9])
   (.seq
    (.reg 0 [
      ⟨some 11, none, .v (.fa 2 (.t 8))⟩,
      ⟨some 12, none, .v (.ld 1 false (.t 11))⟩,
      ⟨some 13, none, .v (.fa 2 (.t 6))⟩,
      ⟨some 14, none, .v (.ld 1 false (.t 13))⟩,
      ⟨some 15, none, .v (.fa 4 (.t 5))⟩,
      ⟨some 16, none, .v (.ld 1 false (.t 15))⟩,
      ⟨some 17, none, .v (.arith .mul .i64 (.t 14) (.t 16))⟩,
      ⟨some 18, none, .v (.arith .add .i64 (.t 12) (.t 17))⟩,
      ⟨some 19, none, .v (.fa 3 (.t 5))⟩,
      ⟨some 20, none, .v (.ld 1 false (.t 19))⟩,
      ⟨some 21, none, .v (.arith .add .i64 (.t 18) (.t 20))⟩,
      ⟨some 22, none, .v (.fa 2 (.t 9))⟩,
      ⟨some 23, none, .v (.ld 1 false (.t 22))⟩,
      ⟨some 24, none, .v (.icmp .leq .i64 (.t 21) (.t 23))⟩,
      ⟨some 25, none, .v (.mv (.t 24))⟩,
      ⟨some 26, some (25, false), .v (.fa 3 (.t 8))⟩,
      ⟨some 27, some (25, false), .v (.ld 1 false (.t 26))⟩,
      ⟨some 28, some (25, false), .v (.fa 3 (.t 6))⟩,
      ⟨some 29, some (25, false), .v (.ld 1 false (.t 28))⟩,
      ⟨some 30, some (25, false), .v (.fa 4 (.t 5))⟩,
      ⟨some 31, some (25, false), .v (.ld 1 false (.t 30))⟩,
      ⟨some 32, some (25, false), .v (.arith .mul .i64 (.t 29) (.t 31))⟩,
      ⟨some 33, some (25, false), .v (.arith .add .i64 (.t 27) (.t 32))⟩,
      ⟨some 34, some (25, false), .v (.fa 3 (.t 5))⟩,
      ⟨some 35, some (25, false), .v (.ld 1 false (.t 34))⟩,
      ⟨some 36, some (25, false), .v (.arith .add .i64 (.t 33) (.t 35))⟩,
      ⟨some 37, some (25, false), .v (.fa 3 (.t 9))⟩,
      ⟨some 38, some (25, false), .v (.ld 1 false (.t 37))⟩,
      ⟨some 39, some (25, false), .v (.icmp .leq .i64 (.t 36) (.t 38))⟩,
      ⟨some 40, none, .pick (.t 25) (.c (.bool true)) (.t 39)⟩,
      ⟨some 10, none, .v (.mv (.t 40))⟩] [10])
    .ret))
theorem l39 : Callable Tryd.prog 39 := ⟨Tryd.f39, by kernel_rfl, by kernel_rfl, by kernel_rfl⟩
theorem a39 {args : List AVal} {H : AHeap} {n : Nat} {R : AOut → AHeap → Nat → Prop} (h : awp Tryd.prog c39 (postC [.t 10] R) ⟨penv 0 args, H, n⟩) : ACalls Tryd.prog 39 args H n R :=
  acalls_of_awp' (fn := Tryd.f39) (c := Tryd.f39.body.getD .skip) (ac := c39) (fz := []) (im := []) (kp := kp39) (rs := [.t 10]) (by kernel_rfl) (by kernel_rfl) (by kernel_rfl) (by kernel_rfl) (by kernel_rfl) h

/-- gridwright/gridwrightlaw57.spread -/
def kp20 (r : Nat) : List Nat := match r with
  | 0 => [0]
  | 1 => [2]
  | _ => []
def c20 : ACode :=
  (.seq
   (.reg 0 [
     ⟨some 2, none, .v (.mv (.c (.int .i64 0)))⟩] [0])
   (.seq
    (.reg 0 [
      ⟨some 3, none, .v (.mv (.t 0))⟩,
      ⟨some 4, none, .v (.arith .add .i64 (.t 3) (.c (.int .i64 1)))⟩,
      ⟨some 5, none, .v (.arith .quo .i64 (.t 4) (.c (.int .i64 2)))⟩,
      ⟨some 2, none, .v (.mv (.t 5))⟩] [2])
    .ret))
theorem l20 : Callable Tryd.prog 20 := ⟨Tryd.f20, by kernel_rfl, by kernel_rfl, by kernel_rfl⟩
theorem a20 {args : List AVal} {H : AHeap} {n : Nat} {R : AOut → AHeap → Nat → Prop} (h : awp Tryd.prog c20 (postC [.t 2] R) ⟨penv 0 args, H, n⟩) : ACalls Tryd.prog 20 args H n R :=
  acalls_of_awp' (fn := Tryd.f20) (c := Tryd.f20.body.getD .skip) (ac := c20) (fz := []) (im := []) (kp := kp20) (rs := [.t 2]) (by kernel_rfl) (by kernel_rfl) (by kernel_rfl) (by kernel_rfl) (by kernel_rfl) h

/-- gridwright/press.Check.1 -/
def kp26 (r : Nat) : List Nat := match r with
  | 0 => [1, 2]
  | 1 => [3]
  | _ => []
def c26 : ACode :=
  (.seq
   (.reg 2 [
     ⟨some 2, none, .box 0 4 (.t 0)⟩,
     ⟨some 3, none, .v (.mv (.c (.bool false)))⟩] [1, 2])
   (.seq
    (.reg 0 [
      ⟨some 4, none, .v (.fa 0 (.t 2))⟩,
      ⟨some 5, none, .v (.ld 1 false (.t 4))⟩,
      ⟨some 6, none, .v (.fa 1 (.t 2))⟩,
      ⟨some 7, none, .v (.ld 1 false (.t 6))⟩,
      ⟨some 8, none, .v (.build [(.int .i64 0), (.int .i64 0)] [(0, 1, (.t 5)), (1, 1, (.t 7))])⟩,
      ⟨some 9, none, .v (.fa 0 (.t 1))⟩,
      ⟨some 10, none, .v (.ld 1 false (.t 9))⟩,
      ⟨some 11, none, .v (.fa 1 (.t 1))⟩,
      ⟨some 12, none, .v (.ld 1 false (.t 11))⟩,
      ⟨some 13, none, .v (.build [(.int .i64 0), (.int .i64 0)] [(0, 1, (.t 10)), (1, 1, (.t 12))])⟩,
      ⟨some 14, none, .v (.aeq false [0, 0] (.t 8) (.t 13))⟩,
      ⟨some 3, none, .v (.mv (.t 14))⟩] [3])
    .ret))
theorem l26 : Callable Tryd.prog 26 := ⟨Tryd.f26, by kernel_rfl, by kernel_rfl, by kernel_rfl⟩
theorem a26 {args : List AVal} {H : AHeap} {n : Nat} {R : AOut → AHeap → Nat → Prop} (h : awp Tryd.prog c26 (postC [.t 3] R) ⟨penv 0 args, H, n⟩) : ACalls Tryd.prog 26 args H n R :=
  acalls_of_awp' (fn := Tryd.f26) (c := Tryd.f26.body.getD .skip) (ac := c26) (fz := []) (im := []) (kp := kp26) (rs := [.t 3]) (by kernel_rfl) (by kernel_rfl) (by kernel_rfl) (by kernel_rfl) (by kernel_rfl) h

/-- gridwright/press.Layout.1 -/
def kp31 (r : Nat) : List Nat := match r with
  | 0 => [0, 1, 2]
  | 1 => [5]
  | _ => []
def c31 : ACode :=
  (.seq
   (.reg 0 [
     ⟨some 5, none, .v (.mv (.c (.int .i64 0)))⟩] [0, 1, 2])
   (.seq
    (.reg 0 [
      ⟨some 6, none, .v (.ld 1 false (.t 2))⟩,
      ⟨some 7, none, .v (.mv (.t 0))⟩,
      ⟨some 8, none, .v (.ia 4 (.t 6) (.t 7))⟩,
      ⟨some 9, none, .v (.fa 0 (.t 8))⟩,
      ⟨some 10, none, .v (.ld 1 false (.t 9))⟩,
      ⟨some 11, none, .v (.ld 1 false (.t 2))⟩,
      ⟨some 12, none, .v (.mv (.t 1))⟩,
      ⟨some 13, none, .v (.ia 4 (.t 11) (.t 12))⟩,
      ⟨some 14, none, .v (.fa 0 (.t 13))⟩,
      ⟨some 15, none, .v (.ld 1 false (.t 14))⟩,
      ⟨some 16, none, .v (.arith .sub .i64 (.t 10) (.t 15))⟩,
      ⟨some 5, none, .v (.mv (.t 16))⟩] [5])
    .ret))
theorem l31 : Callable Tryd.prog 31 := ⟨Tryd.f31, by kernel_rfl, by kernel_rfl, by kernel_rfl⟩
theorem a31 {args : List AVal} {H : AHeap} {n : Nat} {R : AOut → AHeap → Nat → Prop} (h : awp Tryd.prog c31 (postC [.t 5] R) ⟨penv 0 args, H, n⟩) : ACalls Tryd.prog 31 args H n R :=
  acalls_of_awp' (fn := Tryd.f31) (c := Tryd.f31.body.getD .skip) (ac := c31) (fz := []) (im := []) (kp := kp31) (rs := [.t 5]) (by kernel_rfl) (by kernel_rfl) (by kernel_rfl) (by kernel_rfl) (by kernel_rfl) h

/-- gridwright/press.Check -/
def kp13 (r : Nat) : List Nat := match r with
  | 0 => [1, 2]
  | 1 => [1, 2, 10]
  | 2 => [4]
  | 3 => [1, 2, 49]
  | 4 => [4]
  | 5 => [1, 2, 50, 51, 52]
  | 6 => [1, 2, 50, 51, 52, 53]
  | 7 => [1, 2, 5, 6, 50, 51, 52]
  | 8 => [1, 2, 5, 6, 50, 51, 52, 96]
  | 9 => [4]
  | 10 => [1, 2, 5, 7, 50, 51, 52]
  | 11 => [1, 2, 50, 51, 52, 102]
  | 12 => [4]
  | 13 => [1, 2, 50, 51, 52]
  | 14 => [4]
  | _ => []
def c13 : ACode :=
  (.seq
   (.reg 2 [
     ⟨some 2, none, .box 0 5 (.t 0)⟩,
     ⟨some 4, none, .v (.mv (.c (.int .i64 0)))⟩] [1, 2])
   (.seq
    (.seq
     (.reg 0 [
       ⟨some 8, none, .v (.mv (.t 1))⟩,
       ⟨some 9, none, .v (.len (.t 8))⟩,
       ⟨some 10, none, .v (.icmp .gtr .i64 (.t 9) (.c (.int .i64 64)))⟩] [1, 2, 10])
     (.cond (.t 10)
      (.seq
       (.reg 0 [
         ⟨some 4, none, .v (.mv (.c (.int .i64 2)))⟩] [4])
       .ret)
      .skip))
    (.seq
     (.seq
      (.reg 0 [
        ⟨some 11, none, .v (.fa 0 (.t 2))⟩,
        ⟨some 12, none, .v (.ld 1 false (.t 11))⟩,
        ⟨some 13, none, .call true (.c (.fn (.func 25) [] [])) [(.t 12), (.c (.int .i64 1)), (.c (.int .i64 4096))]⟩,
        ⟨some 14, none, .v (.not (.t 13))⟩,
        ⟨some 15, none, .v (.mv (.t 14))⟩,
        ⟨some 16, some (15, false), .v (.fa 1 (.t 2))⟩,
        ⟨some 17, some (15, false), .v (.ld 1 false (.t 16))⟩,
        ⟨some 18, some (15, false), .call true (.c (.fn (.func 25) [] [])) [(.t 17), (.c (.int .i64 1)), (.c (.int .i64 4096))]⟩,
        ⟨some 19, some (15, false), .v (.not (.t 18))⟩,
        ⟨some 20, none, .pick (.t 15) (.c (.bool true)) (.t 19)⟩,
        ⟨some 21, none, .v (.mv (.t 20))⟩,
        ⟨some 22, some (21, false), .v (.fa 2 (.t 2))⟩,
        ⟨some 23, some (21, false), .v (.ld 1 false (.t 22))⟩,
        ⟨some 24, some (21, false), .call true (.c (.fn (.func 25) [] [])) [(.t 23), (.c (.int .i64 0)), (.c (.int .i64 4096))]⟩,
        ⟨some 25, some (21, false), .v (.not (.t 24))⟩,
        ⟨some 26, none, .pick (.t 21) (.c (.bool true)) (.t 25)⟩,
        ⟨some 27, none, .v (.mv (.t 26))⟩,
        ⟨some 28, some (27, false), .v (.fa 3 (.t 2))⟩,
        ⟨some 29, some (27, false), .v (.ld 1 false (.t 28))⟩,
        ⟨some 30, some (27, false), .call true (.c (.fn (.func 25) [] [])) [(.t 29), (.c (.int .i64 0)), (.c (.int .i64 4096))]⟩,
        ⟨some 31, some (27, false), .v (.not (.t 30))⟩,
        ⟨some 32, none, .pick (.t 27) (.c (.bool true)) (.t 31)⟩,
        ⟨some 33, none, .v (.mv (.t 32))⟩,
        ⟨some 34, some (33, false), .v (.fa 4 (.t 2))⟩,
        ⟨some 35, some (33, false), .v (.ld 1 false (.t 34))⟩,
        ⟨some 36, some (33, false), .call true (.c (.fn (.func 25) [] [])) [(.t 35), (.c (.int .i64 1)), (.c (.int .i64 16))]⟩,
        ⟨some 37, some (33, false), .v (.not (.t 36))⟩,
        ⟨some 38, none, .pick (.t 33) (.c (.bool true)) (.t 37)⟩,
        ⟨some 39, none, .v (.mv (.t 38))⟩,
        ⟨some 40, some (39, false), .v (.fa 2 (.t 2))⟩,
        ⟨some 41, some (39, false), .v (.ld 1 false (.t 40))⟩,
        ⟨some 42, some (39, false), .v (.arith .mul .i64 (.c (.int .i64 2)) (.t 41))⟩,
        ⟨some 43, some (39, false), .v (.fa 0 (.t 2))⟩,
        ⟨some 44, some (39, false), .v (.ld 1 false (.t 43))⟩,
        ⟨some 45, some (39, false), .v (.fa 1 (.t 2))⟩,
        ⟨some 46, some (39, false), .v (.ld 1 false (.t 45))⟩,
        ⟨some 47, some (39, false), .v (.mnmx false .i64 [(.t 44), (.t 46)])⟩,
        ⟨some 48, some (39, false), .v (.icmp .geq .i64 (.t 42) (.t 47))⟩,
        ⟨some 49, none, .pick (.t 39) (.c (.bool true)) (.t 48)⟩] [1, 2, 49])
      (.cond (.t 49)
       (.seq
        (.reg 0 [
          ⟨some 4, none, .v (.mv (.c (.int .i64 570)))⟩] [4])
        .ret)
       .skip))
     (.seq
      (.seq
       (.reg 0 [
         ⟨some 50, none, .v (.mv (.t 1))⟩,
         ⟨some 51, none, .v (.len (.t 50))⟩,
         ⟨some 52, none, .v (.mv (.c (.int .i64 0)))⟩] [1, 2, 50, 51, 52])
       (.block 0
        (.loop
         (.seq
          (.reg 0 [
            ⟨some 53, none, .v (.icmp .lss .i64 (.t 52) (.t 51))⟩] [1, 2, 50, 51, 52, 53])
          (.seq
           (.cond (.t 53)
            .skip
            (.exit 0))
           (.seq
            (.block 1
             (.seq
              (.reg 6 [
                ⟨some 54, none, .v (.mv (.t 52))⟩,
                ⟨some 55, none, .v (.ia 4 (.t 50) (.t 52))⟩,
                ⟨some 56, none, .v (.ld 4 true (.t 55))⟩,
                ⟨some 6, none, .alloc 3 [(.int .i64 0), (.int .i64 0), (.int .i64 0), (.int .i64 0)]⟩,
                ⟨some 5, none, .v (.mv (.t 54))⟩,
                ⟨none, none, .st 4 (.t 6) (.t 56)⟩] [1, 2, 5, 6, 50, 51, 52])
              (.seq
               (.seq
                (.reg 0 [
                  ⟨some 57, none, .v (.fa 0 (.t 6))⟩,
                  ⟨some 58, none, .v (.ld 1 false (.t 57))⟩,
                  ⟨some 59, none, .call true (.c (.fn (.func 25) [] [])) [(.t 58), (.c (.int .i64 1)), (.c (.int .i64 3))]⟩,
                  ⟨some 60, none, .v (.not (.t 59))⟩,
                  ⟨some 61, none, .v (.mv (.t 60))⟩,
                  ⟨some 62, some (61, false), .v (.fa 1 (.t 6))⟩,
                  ⟨some 63, some (61, false), .v (.ld 1 false (.t 62))⟩,
                  ⟨some 64, some (61, false), .call true (.c (.fn (.func 25) [] [])) [(.t 63), (.c (.int .i64 0)), (.c (.int .i64 65536))]⟩,
                  ⟨some 65, some (61, false), .v (.not (.t 64))⟩,
                  ⟨some 66, none, .pick (.t 61) (.c (.bool true)) (.t 65)⟩,
                  ⟨some 67, none, .v (.mv (.t 66))⟩,
                  ⟨some 68, some (67, false), .v (.fa 2 (.t 6))⟩,
                  ⟨some 69, some (67, false), .v (.ld 1 false (.t 68))⟩,
                  ⟨some 70, some (67, false), .v (.fa 0 (.t 2))⟩,
                  ⟨some 71, some (67, false), .v (.ld 1 false (.t 70))⟩,
                  ⟨some 72, some (67, false), .v (.fa 2 (.t 2))⟩,
                  ⟨some 73, some (67, false), .v (.ld 1 false (.t 72))⟩,
                  ⟨some 74, some (67, false), .v (.arith .mul .i64 (.c (.int .i64 2)) (.t 73))⟩,
                  ⟨some 75, some (67, false), .v (.arith .sub .i64 (.t 71) (.t 74))⟩,
                  ⟨some 76, some (67, false), .v (.fa 4 (.t 2))⟩,
                  ⟨some 77, some (67, false), .v (.ld 1 false (.t 76))⟩,
                  ⟨some 78, some (67, false), .v (.arith .quo .i64 (.t 75) (.t 77))⟩,
                  ⟨some 79, some (67, false), .call true (.c (.fn (.func 25) [] [])) [(.t 69), (.c (.int .i64 1)), (.t 78)]⟩,
                  ⟨some 80, some (67, false), .v (.not (.t 79))⟩,
                  ⟨some 81, none, .pick (.t 67) (.c (.bool true)) (.t 80)⟩,
                  ⟨some 82, none, .v (.mv (.t 81))⟩,
                  ⟨some 83, some (82, false), .v (.fa 3 (.t 6))⟩,
                  ⟨some 84, some (82, false), .v (.ld 1 false (.t 83))⟩,
                  ⟨some 85, some (82, false), .v (.fa 1 (.t 2))⟩,
                  ⟨some 86, some (82, false), .v (.ld 1 false (.t 85))⟩,
                  ⟨some 87, some (82, false), .v (.fa 2 (.t 2))⟩,
                  ⟨some 88, some (82, false), .v (.ld 1 false (.t 87))⟩,
                  ⟨some 89, some (82, false), .v (.arith .mul .i64 (.c (.int .i64 2)) (.t 88))⟩,
                  ⟨some 90, some (82, false), .v (.arith .sub .i64 (.t 86) (.t 89))⟩,
                  ⟨some 91, some (82, false), .v (.fa 4 (.t 2))⟩,
                  ⟨some 92, some (82, false), .v (.ld 1 false (.t 91))⟩,
                  ⟨some 93, some (82, false), .v (.arith .quo .i64 (.t 90) (.t 92))⟩,
                  ⟨some 94, some (82, false), .call true (.c (.fn (.func 25) [] [])) [(.t 84), (.c (.int .i64 1)), (.t 93)]⟩,
                  ⟨some 95, some (82, false), .v (.not (.t 94))⟩,
                  ⟨some 96, none, .pick (.t 82) (.c (.bool true)) (.t 95)⟩] [1, 2, 5, 6, 50, 51, 52, 96])
                (.cond (.t 96)
                 (.seq
                  (.reg 0 [
                    ⟨some 4, none, .v (.mv (.c (.int .i64 570)))⟩] [4])
                  .ret)
                 .skip))
               (.seq
                (.reg 0 [
                  ⟨some 97, none, .v (.fn (.func 26) [] [(.t 6)])⟩,
                  ⟨some 7, none, .v (.mv (.t 97))⟩] [1, 2, 5, 7, 50, 51, 52])
                (.seq
                 (.reg 0 [
                   ⟨some 98, none, .v (.mv (.t 1))⟩,
                   ⟨some 99, none, .v (.mv (.t 5))⟩,
                   ⟨some 100, none, .v (.sl 4 (.t 98) none (some (.t 99)) none)⟩,
                   ⟨some 101, none, .v (.mv (.t 7))⟩,
                   ⟨some 102, none, .call true (.c (.fn (.func 27) [] [])) [(.t 100), (.t 101)]⟩] [1, 2, 50, 51, 52, 102])
                 (.cond (.t 102)
                  (.seq
                   (.reg 0 [
                     ⟨some 4, none, .v (.mv (.c (.int .i64 570)))⟩] [4])
                   .ret)
                  .skip))))))
            (.reg 0 [
              ⟨some 103, none, .v (.arith .add .i64 (.t 52) (.c (.int .i64 1)))⟩,
              ⟨some 52, none, .v (.mv (.t 103))⟩] [1, 2, 50, 51, 52])))))))
      (.seq
       (.reg 0 [
         ⟨some 4, none, .v (.mv (.c (.int .i64 0)))⟩] [4])
       .ret)))))
theorem l13 : Callable Tryd.prog 13 := ⟨Tryd.f13, by kernel_rfl, by kernel_rfl, by kernel_rfl⟩
theorem a13 {args : List AVal} {H : AHeap} {n : Nat} {R : AOut → AHeap → Nat → Prop} (h : awp Tryd.prog c13 (postC [.t 4] R) ⟨penv 0 args, H, n⟩) : ACalls Tryd.prog 13 args H n R :=
  acalls_of_awp' (fn := Tryd.f13) (c := Tryd.f13.body.getD .skip) (ac := c13) (fz := []) (im := []) (kp := kp13) (rs := [.t 4]) (by kernel_rfl) (by kernel_rfl) (by kernel_rfl) (by kernel_rfl) (by kernel_rfl) h

/-- gridwright/gridwrightref57.Check -/
def kp14 (r : Nat) : List Nat := match r with
  | 0 => [1, 2]
  | 1 => [1, 2, 9]
  | 2 => [4]
  | 3 => [1, 2, 12]
  | 4 => [4]
  | 5 => [1, 2, 5]
  | 6 => [1, 2, 5, 16]
  | 8 => [1, 2, 5, 25]
  | 9 => [4]
  | 10 => [1, 2, 5, 6]
  | 11 => [1, 2, 5, 6, 28]
  | 13 => [1, 2, 5, 6, 54]
  | 14 => [4]
  | 12 => [1, 2, 5, 6]
  | 7 => [1, 2, 5]
  | 15 => [4]
  | _ => []
def c14 : ACode :=
  (.seq
   (.reg 2 [
     ⟨some 2, none, .box 0 5 (.t 0)⟩,
     ⟨some 4, none, .v (.mv (.c (.int .i64 0)))⟩] [1, 2])
   (.seq
    (.seq
     (.reg 0 [
       ⟨some 7, none, .v (.mv (.t 1))⟩,
       ⟨some 8, none, .v (.len (.t 7))⟩,
       ⟨some 9, none, .v (.icmp .gtr .i64 (.t 8) (.c (.int .i64 64)))⟩] [1, 2, 9])
     (.cond (.t 9)
      (.seq
       (.reg 0 [
         ⟨some 4, none, .v (.mv (.c (.int .i64 2)))⟩] [4])
       .ret)
      .skip))
    (.seq
     (.seq
      (.reg 0 [
        ⟨some 10, none, .v (.ld 5 true (.t 2))⟩,
        ⟨some 11, none, .call true (.c (.fn (.func 28) [] [])) [(.t 10)]⟩,
        ⟨some 12, none, .v (.not (.t 11))⟩] [1, 2, 12])
      (.cond (.t 12)
       (.seq
        (.reg 0 [
          ⟨some 4, none, .v (.mv (.c (.int .i64 570)))⟩] [4])
        .ret)
       .skip))
     (.seq
      (.seq
       (.reg 0 [
         ⟨some 5, none, .v (.mv (.c (.int .i64 0)))⟩] [1, 2, 5])
       (.block 0
        (.loop
         (.seq
          (.seq
           (.reg 0 [
             ⟨some 13, none, .v (.mv (.t 5))⟩,
             ⟨some 14, none, .v (.mv (.t 1))⟩,
             ⟨some 15, none, .v (.len (.t 14))⟩,
             ⟨some 16, none, .v (.icmp .lss .i64 (.t 13) (.t 15))⟩] [1, 2, 5, 16])
           (.cond (.t 16)
            .skip
            (.exit 0)))
          (.seq
           (.block 1
            (.seq
             (.seq
              (.reg 0 [
                ⟨some 19, none, .v (.ld 5 true (.t 2))⟩,
                ⟨some 20, none, .v (.mv (.t 1))⟩,
                ⟨some 21, none, .v (.mv (.t 5))⟩,
                ⟨some 22, none, .v (.ia 4 (.t 20) (.t 21))⟩,
                ⟨some 23, none, .v (.ld 4 true (.t 22))⟩,
                ⟨some 24, none, .call true (.c (.fn (.func 29) [] [])) [(.t 19), (.t 23)]⟩,
                ⟨some 25, none, .v (.not (.t 24))⟩] [1, 2, 5, 25])
              (.cond (.t 25)
               (.seq
                (.reg 0 [
                  ⟨some 4, none, .v (.mv (.c (.int .i64 570)))⟩] [4])
                .ret)
               .skip))
             (.seq
              (.reg 0 [
                ⟨some 6, none, .v (.mv (.c (.int .i64 0)))⟩] [1, 2, 5, 6])
              (.block 2
               (.loop
                (.seq
                 (.seq
                  (.reg 0 [
                    ⟨some 26, none, .v (.mv (.t 6))⟩,
                    ⟨some 27, none, .v (.mv (.t 5))⟩,
                    ⟨some 28, none, .v (.icmp .lss .i64 (.t 26) (.t 27))⟩] [1, 2, 5, 6, 28])
                  (.cond (.t 28)
                   .skip
                   (.exit 2)))
                 (.seq
                  (.block 3
                   (.seq
                    (.reg 0 [
                      ⟨some 31, none, .v (.mv (.t 1))⟩,
                      ⟨some 32, none, .v (.mv (.t 6))⟩,
                      ⟨some 33, none, .v (.ia 4 (.t 31) (.t 32))⟩,
                      ⟨some 34, none, .v (.fa 0 (.t 33))⟩,
                      ⟨some 35, none, .v (.ld 1 false (.t 34))⟩,
                      ⟨some 36, none, .v (.mv (.t 1))⟩,
                      ⟨some 37, none, .v (.mv (.t 5))⟩,
                      ⟨some 38, none, .v (.ia 4 (.t 36) (.t 37))⟩,
                      ⟨some 39, none, .v (.fa 0 (.t 38))⟩,
                      ⟨some 40, none, .v (.ld 1 false (.t 39))⟩,
                      ⟨some 41, none, .v (.icmp .eql .i64 (.t 35) (.t 40))⟩,
                      ⟨some 42, none, .v (.mv (.t 41))⟩,
                      ⟨some 43, some (42, true), .v (.mv (.t 1))⟩,
                      ⟨some 44, some (42, true), .v (.mv (.t 6))⟩,
                      ⟨some 45, some (42, true), .v (.ia 4 (.t 43) (.t 44))⟩,
                      ⟨some 46, some (42, true), .v (.fa 1 (.t 45))⟩,
                      ⟨some 47, some (42, true), .v (.ld 1 false (.t 46))⟩,
                      ⟨some 48, some (42, true), .v (.mv (.t 1))⟩,
                      ⟨some 49, some (42, true), .v (.mv (.t 5))⟩,
                      ⟨some 50, some (42, true), .v (.ia 4 (.t 48) (.t 49))⟩,
                      ⟨some 51, some (42, true), .v (.fa 1 (.t 50))⟩,
                      ⟨some 52, some (42, true), .v (.ld 1 false (.t 51))⟩,
                      ⟨some 53, some (42, true), .v (.icmp .eql .i64 (.t 47) (.t 52))⟩,
                      ⟨some 54, none, .pick (.t 42) (.t 53) (.c (.bool false))⟩] [1, 2, 5, 6, 54])
                    (.cond (.t 54)
                     (.seq
                      (.reg 0 [
                        ⟨some 4, none, .v (.mv (.c (.int .i64 570)))⟩] [4])
                      .ret)
                     .skip)))
                  (.reg 0 [
                    ⟨some 29, none, .v (.mv (.t 6))⟩,
                    ⟨some 30, none, .v (.arith .add .i64 (.t 29) (.c (.int .i64 1)))⟩,
                    ⟨some 6, none, .v (.mv (.t 30))⟩] [1, 2, 5, 6]))))))))
           (.reg 0 [
             ⟨some 17, none, .v (.mv (.t 5))⟩,
             ⟨some 18, none, .v (.arith .add .i64 (.t 17) (.c (.int .i64 1)))⟩,
             ⟨some 5, none, .v (.mv (.t 18))⟩] [1, 2, 5]))))))
      (.seq
       (.reg 0 [
         ⟨some 4, none, .v (.mv (.c (.int .i64 0)))⟩] [4])
       .ret)))))
theorem l14 : Callable Tryd.prog 14 := ⟨Tryd.f14, by kernel_rfl, by kernel_rfl, by kernel_rfl⟩
theorem a14 {args : List AVal} {H : AHeap} {n : Nat} {R : AOut → AHeap → Nat → Prop} (h : awp Tryd.prog c14 (postC [.t 4] R) ⟨penv 0 args, H, n⟩) : ACalls Tryd.prog 14 args H n R :=
  acalls_of_awp' (fn := Tryd.f14) (c := Tryd.f14.body.getD .skip) (ac := c14) (fz := []) (im := []) (kp := kp14) (rs := [.t 4]) (by kernel_rfl) (by kernel_rfl) (by kernel_rfl) (by kernel_rfl) (by kernel_rfl) h

/-- gridwright/gridwrightref57.Same -/
def kp17 (r : Nat) : List Nat := match r with
  | 0 => [0, 1]
  | 1 => [0, 1, 10]
  | 2 => [4]
  | 3 => [0, 1, 5]
  | 4 => [0, 1, 5, 14]
  | 6 => [0, 1, 5, 25]
  | 7 => [4]
  | 5 => [0, 1, 5]
  | 8 => [4]
  | _ => []
def c17 : ACode :=
  (.seq
   (.reg 0 [
     ⟨some 4, none, .v (.mv (.c (.bool false)))⟩] [0, 1])
   (.seq
    (.seq
     (.reg 0 [
       ⟨some 6, none, .v (.mv (.t 0))⟩,
       ⟨some 7, none, .v (.len (.t 6))⟩,
       ⟨some 8, none, .v (.mv (.t 1))⟩,
       ⟨some 9, none, .v (.len (.t 8))⟩,
       ⟨some 10, none, .v (.icmp .neq .i64 (.t 7) (.t 9))⟩] [0, 1, 10])
     (.cond (.t 10)
      (.seq
       (.reg 0 [
         ⟨some 4, none, .v (.mv (.c (.bool false)))⟩] [4])
       .ret)
      .skip))
    (.seq
     (.seq
      (.reg 0 [
        ⟨some 5, none, .v (.mv (.c (.int .i64 0)))⟩] [0, 1, 5])
      (.block 0
       (.loop
        (.seq
         (.seq
          (.reg 0 [
            ⟨some 11, none, .v (.mv (.t 5))⟩,
            ⟨some 12, none, .v (.mv (.t 0))⟩,
            ⟨some 13, none, .v (.len (.t 12))⟩,
            ⟨some 14, none, .v (.icmp .lss .i64 (.t 11) (.t 13))⟩] [0, 1, 5, 14])
          (.cond (.t 14)
           .skip
           (.exit 0)))
         (.seq
          (.block 1
           (.seq
            (.reg 0 [
              ⟨some 17, none, .v (.mv (.t 0))⟩,
              ⟨some 18, none, .v (.mv (.t 5))⟩,
              ⟨some 19, none, .v (.ia 4 (.t 17) (.t 18))⟩,
              ⟨some 20, none, .v (.ld 4 true (.t 19))⟩,
              ⟨some 21, none, .v (.mv (.t 1))⟩,
              ⟨some 22, none, .v (.mv (.t 5))⟩,
              ⟨some 23, none, .v (.ia 4 (.t 21) (.t 22))⟩,
              ⟨some 24, none, .v (.ld 4 true (.t 23))⟩,
              ⟨some 25, none, .v (.aeq true [0, 0, 0, 0] (.t 20) (.t 24))⟩] [0, 1, 5, 25])
            (.cond (.t 25)
             (.seq
              (.reg 0 [
                ⟨some 4, none, .v (.mv (.c (.bool false)))⟩] [4])
              .ret)
             .skip)))
          (.reg 0 [
            ⟨some 15, none, .v (.mv (.t 5))⟩,
            ⟨some 16, none, .v (.arith .add .i64 (.t 15) (.c (.int .i64 1)))⟩,
            ⟨some 5, none, .v (.mv (.t 16))⟩] [0, 1, 5]))))))
     (.seq
      (.reg 0 [
        ⟨some 4, none, .v (.mv (.c (.bool true)))⟩] [4])
      .ret))))
theorem l17 : Callable Tryd.prog 17 := ⟨Tryd.f17, by kernel_rfl, by kernel_rfl, by kernel_rfl⟩
theorem a17 {args : List AVal} {H : AHeap} {n : Nat} {R : AOut → AHeap → Nat → Prop} (h : awp Tryd.prog c17 (postC [.t 4] R) ⟨penv 0 args, H, n⟩) : ACalls Tryd.prog 17 args H n R :=
  acalls_of_awp' (fn := Tryd.f17) (c := Tryd.f17.body.getD .skip) (ac := c17) (fz := []) (im := []) (kp := kp17) (rs := [.t 4]) (by kernel_rfl) (by kernel_rfl) (by kernel_rfl) (by kernel_rfl) (by kernel_rfl) h

/-- gridwright/press.Valid -/
def kp18 (r : Nat) : List Nat := match r with
  | 0 => [1, 2, 3]
  | 1 => [1, 2, 3, 8]
  | 2 => [1, 2, 3, 8, 20]
  | 3 => [6, 7]
  | 4 => [1, 2, 3, 26]
  | 5 => [6, 7]
  | 6 => [1, 2, 3, 9]
  | 7 => [1, 3, 9, 27, 28, 29]
  | 8 => [1, 3, 9, 27, 28, 29, 30]
  | 9 => [1, 3, 9, 11, 27, 28, 29]
  | 10 => [1, 3, 9, 11, 27, 28, 29, 47]
  | 11 => [6, 7]
  | 12 => [1, 3, 9, 11, 12, 27, 28, 29]
  | 13 => [1, 3, 9, 11, 13, 27, 28, 29]
  | 14 => [1, 3, 9, 11, 13, 27, 28, 29, 95]
  | 15 => [6, 7]
  | 16 => [1, 3, 9, 11, 13, 27, 28, 29, 96, 97, 98]
  | 17 => [1, 3, 9, 11, 13, 27, 28, 29, 96, 97, 98, 99]
  | 18 => [1, 3, 9, 11, 13, 15, 27, 28, 29, 96, 97, 98]
  | 19 => [1, 3, 9, 11, 13, 27, 28, 29, 96, 97, 98, 146]
  | 20 => [6, 7]
  | 21 => [1, 3, 9, 11, 13, 27, 28, 29, 96, 97, 98]
  | 22 => [1, 3, 9, 27, 28, 29]
  | 23 => [1, 3, 9, 27, 28, 29]
  | 24 => [6, 7]
  | _ => []
def c18 : ACode :=
  (.seq
   (.reg 3 [
     ⟨some 3, none, .box 0 5 (.t 0)⟩,
     ⟨some 6, none, .v (.mv (.c (.bool false)))⟩,
     ⟨some 7, none, .v (.mv (.c (.int .i64 0)))⟩] [1, 2, 3])
   (.seq
    (.seq
     (.reg 0 [
       ⟨some 16, none, .v (.ld 5 true (.t 3))⟩,
       ⟨some 17, none, .v (.mv (.t 1))⟩,
       ⟨some 18, none, .call true (.c (.fn (.func 13) [] [])) [(.t 16), (.t 17)]⟩,
       ⟨some 8, none, .v (.mv (.t 18))⟩] [1, 2, 3, 8])
     (.seq
      (.reg 0 [
        ⟨some 19, none, .v (.mv (.t 8))⟩,
        ⟨some 20, none, .v (.icmp .neq .i64 (.t 19) (.c (.int .i64 0)))⟩] [1, 2, 3, 8, 20])
      (.cond (.t 20)
       (.seq
        (.reg 0 [
          ⟨some 21, none, .v (.mv (.t 8))⟩,
          ⟨some 6, none, .v (.mv (.c (.bool false)))⟩,
          ⟨some 7, none, .v (.mv (.t 21))⟩] [6, 7])
        .ret)
       .skip)))
    (.seq
     (.seq
      (.reg 0 [
        ⟨some 22, none, .v (.mv (.t 2))⟩,
        ⟨some 23, none, .v (.len (.t 22))⟩,
        ⟨some 24, none, .v (.mv (.t 1))⟩,
        ⟨some 25, none, .v (.len (.t 24))⟩,
        ⟨some 26, none, .v (.icmp .neq .i64 (.t 23) (.t 25))⟩] [1, 2, 3, 26])
      (.cond (.t 26)
       (.seq
        (.reg 0 [
          ⟨some 6, none, .v (.mv (.c (.bool false)))⟩,
          ⟨some 7, none, .v (.mv (.c (.int .i64 0)))⟩] [6, 7])
        .ret)
       .skip))
     (.seq
      (.reg 0 [
        ⟨some 9, none, .v (.mv (.c (.sl .nil [])))⟩] [1, 2, 3, 9])
      (.seq
       (.seq
        (.reg 0 [
          ⟨some 27, none, .v (.mv (.t 2))⟩,
          ⟨some 28, none, .v (.len (.t 27))⟩,
          ⟨some 29, none, .v (.mv (.c (.int .i64 0)))⟩] [1, 3, 9, 27, 28, 29])
        (.block 0
         (.loop
          (.seq
           (.reg 0 [
             ⟨some 30, none, .v (.icmp .lss .i64 (.t 29) (.t 28))⟩] [1, 3, 9, 27, 28, 29, 30])
           (.seq
            (.cond (.t 30)
             .skip
             (.exit 0))
            (.seq
             (.block 1
              (.seq
               (.reg 4 [
                 ⟨some 31, none, .v (.ia 4 (.t 27) (.t 29))⟩,
                 ⟨some 32, none, .v (.ld 4 true (.t 31))⟩,
                 ⟨some 11, none, .alloc 2 [(.int .i64 0), (.int .i64 0), (.int .i64 0), (.int .i64 0)]⟩,
                 ⟨none, none, .st 4 (.t 11) (.t 32)⟩] [1, 3, 9, 11, 27, 28, 29])
               (.seq
                (.seq
                 (.reg 0 [
                   ⟨some 33, none, .v (.fa 0 (.t 11))⟩,
                   ⟨some 34, none, .v (.ld 1 false (.t 33))⟩,
                   ⟨some 35, none, .v (.icmp .lss .i64 (.t 34) (.c (.int .i64 0)))⟩,
                   ⟨some 36, none, .v (.mv (.t 35))⟩,
                   ⟨some 37, some (36, false), .v (.fa 0 (.t 11))⟩,
                   ⟨some 38, some (36, false), .v (.ld 1 false (.t 37))⟩,
                   ⟨some 39, some (36, false), .v (.mv (.t 1))⟩,
                   ⟨some 40, some (36, false), .v (.len (.t 39))⟩,
                   ⟨some 41, some (36, false), .v (.icmp .geq .i64 (.t 38) (.t 40))⟩,
                   ⟨some 42, none, .pick (.t 36) (.c (.bool true)) (.t 41)⟩,
                   ⟨some 43, none, .v (.mv (.t 42))⟩,
                   ⟨some 44, some (43, false), .v (.fa 1 (.t 11))⟩,
                   ⟨some 45, some (43, false), .v (.ld 1 false (.t 44))⟩,
                   ⟨some 46, some (43, false), .v (.icmp .lss .i64 (.t 45) (.c (.int .i64 0)))⟩,
                   ⟨some 47, none, .pick (.t 43) (.c (.bool true)) (.t 46)⟩] [1, 3, 9, 11, 27, 28, 29, 47])
                 (.cond (.t 47)
                  (.seq
                   (.reg 0 [
                     ⟨some 6, none, .v (.mv (.c (.bool false)))⟩,
                     ⟨some 7, none, .v (.mv (.c (.int .i64 0)))⟩] [6, 7])
                   .ret)
                  .skip))
                (.seq
                 (.reg 7 [
                   ⟨some 48, none, .v (.mv (.t 1))⟩,
                   ⟨some 49, none, .v (.fa 0 (.t 11))⟩,
                   ⟨some 50, none, .v (.ld 1 false (.t 49))⟩,
                   ⟨some 51, none, .v (.ia 4 (.t 48) (.t 50))⟩,
                   ⟨some 52, none, .v (.ld 4 true (.t 51))⟩,
                   ⟨some 12, none, .alloc 5 [(.int .i64 0), (.int .i64 0), (.int .i64 0), (.int .i64 0)]⟩,
                   ⟨none, none, .st 4 (.t 12) (.t 52)⟩] [1, 3, 9, 11, 12, 27, 28, 29])
                 (.seq
                  (.reg 15 [
                    ⟨some 53, none, .v (.ld 4 true (.t 11))⟩,
                    ⟨some 54, none, .v (.ld 4 true (.t 12))⟩,
                    ⟨some 55, none, .v (.fa 2 (.t 12))⟩,
                    ⟨some 56, none, .v (.ld 1 false (.t 55))⟩,
                    ⟨some 57, none, .v (.fa 4 (.t 3))⟩,
                    ⟨some 58, none, .v (.ld 1 false (.t 57))⟩,
                    ⟨some 59, none, .v (.arith .mul .i64 (.t 56) (.t 58))⟩,
                    ⟨some 60, none, .v (.fa 3 (.t 12))⟩,
                    ⟨some 61, none, .v (.ld 1 false (.t 60))⟩,
                    ⟨some 62, none, .v (.fa 4 (.t 3))⟩,
                    ⟨some 63, none, .v (.ld 1 false (.t 62))⟩,
                    ⟨some 64, none, .v (.arith .mul .i64 (.t 61) (.t 63))⟩,
                    ⟨some 65, none, .v (.build [(.int .i64 0), (.int .i64 0), (.int .i64 0), (.int .i64 0), (.int .i64 0), (.int .i64 0), (.int .i64 0), (.int .i64 0), (.int .i64 0), (.int .i64 0)] [(0, 4, (.t 53)), (4, 4, (.t 54)), (8, 1, (.t 59)), (9, 1, (.t 64))])⟩,
                    ⟨some 13, none, .alloc 13 [(.int .i64 0), (.int .i64 0), (.int .i64 0), (.int .i64 0), (.int .i64 0), (.int .i64 0), (.int .i64 0), (.int .i64 0), (.int .i64 0), (.int .i64 0)]⟩,
                    ⟨none, none, .st 10 (.t 13) (.t 65)⟩] [1, 3, 9, 11, 13, 27, 28, 29])
                  (.seq
                   (.seq
                    (.reg 0 [
                      ⟨some 66, none, .v (.fa 2 (.t 11))⟩,
                      ⟨some 67, none, .v (.ld 1 false (.t 66))⟩,
                      ⟨some 68, none, .v (.fa 2 (.t 3))⟩,
                      ⟨some 69, none, .v (.ld 1 false (.t 68))⟩,
                      ⟨some 70, none, .v (.fa 0 (.t 3))⟩,
                      ⟨some 71, none, .v (.ld 1 false (.t 70))⟩,
                      ⟨some 72, none, .v (.fa 2 (.t 3))⟩,
                      ⟨some 73, none, .v (.ld 1 false (.t 72))⟩,
                      ⟨some 74, none, .v (.arith .sub .i64 (.t 71) (.t 73))⟩,
                      ⟨some 75, none, .v (.fa 8 (.t 13))⟩,
                      ⟨some 76, none, .v (.ld 1 false (.t 75))⟩,
                      ⟨some 77, none, .v (.arith .sub .i64 (.t 74) (.t 76))⟩,
                      ⟨some 78, none, .call true (.c (.fn (.func 25) [] [])) [(.t 67), (.t 69), (.t 77)]⟩,
                      ⟨some 79, none, .v (.not (.t 78))⟩,
                      ⟨some 80, none, .v (.mv (.t 79))⟩,
                      ⟨some 81, some (80, false), .v (.fa 3 (.t 11))⟩,
                      ⟨some 82, some (80, false), .v (.ld 1 false (.t 81))⟩,
                      ⟨some 83, some (80, false), .v (.fa 2 (.t 3))⟩,
                      ⟨some 84, some (80, false), .v (.ld 1 false (.t 83))⟩,
                      ⟨some 85, some (80, false), .v (.fa 1 (.t 3))⟩,
                      ⟨some 86, some (80, false), .v (.ld 1 false (.t 85))⟩,
                      ⟨some 87, some (80, false), .v (.fa 2 (.t 3))⟩,
                      ⟨some 88, some (80, false), .v (.ld 1 false (.t 87))⟩,
                      ⟨some 89, some (80, false), .v (.arith .sub .i64 (.t 86) (.t 88))⟩,
                      ⟨some 90, some (80, false), .v (.fa 9 (.t 13))⟩,
                      ⟨some 91, some (80, false), .v (.ld 1 false (.t 90))⟩,
                      ⟨some 92, some (80, false), .v (.arith .sub .i64 (.t 89) (.t 91))⟩,
                      ⟨some 93, some (80, false), .call true (.c (.fn (.func 25) [] [])) [(.t 82), (.t 84), (.t 92)]⟩,
                      ⟨some 94, some (80, false), .v (.not (.t 93))⟩,
                      ⟨some 95, none, .pick (.t 80) (.c (.bool true)) (.t 94)⟩] [1, 3, 9, 11, 13, 27, 28, 29, 95])
                    (.cond (.t 95)
                     (.seq
                      (.reg 0 [
                        ⟨some 6, none, .v (.mv (.c (.bool false)))⟩,
                        ⟨some 7, none, .v (.mv (.c (.int .i64 0)))⟩] [6, 7])
                      .ret)
                     .skip))
                   (.seq
                    (.seq
                     (.reg 0 [
                       ⟨some 96, none, .v (.mv (.t 9))⟩,
                       ⟨some 97, none, .v (.len (.t 96))⟩,
                       ⟨some 98, none, .v (.mv (.c (.int .i64 0)))⟩] [1, 3, 9, 11, 13, 27, 28, 29, 96, 97, 98])
                     (.block 2
                      (.loop
                       (.seq
                        (.reg 0 [
                          ⟨some 99, none, .v (.icmp .lss .i64 (.t 98) (.t 97))⟩] [1, 3, 9, 11, 13, 27, 28, 29, 96, 97, 98, 99])
                        (.seq
                         (.cond (.t 99)
                          .skip
                          (.exit 2))
                         (.seq
                          (.block 3
                           (.seq
                            (.reg 4 [
                              ⟨some 100, none, .v (.ia 10 (.t 96) (.t 98))⟩,
                              ⟨some 101, none, .v (.ld 10 true (.t 100))⟩,
                              ⟨some 15, none, .alloc 2 [(.int .i64 0), (.int .i64 0), (.int .i64 0), (.int .i64 0), (.int .i64 0), (.int .i64 0), (.int .i64 0), (.int .i64 0), (.int .i64 0), (.int .i64 0)]⟩,
                              ⟨none, none, .st 10 (.t 15) (.t 101)⟩] [1, 3, 9, 11, 13, 15, 27, 28, 29, 96, 97, 98])
                            (.seq
                             (.reg 0 [
                               ⟨some 102, none, .v (.fa 0 (.t 15))⟩,
                               ⟨some 103, none, .v (.fa 0 (.t 102))⟩,
                               ⟨some 104, none, .v (.ld 1 false (.t 103))⟩,
                               ⟨some 105, none, .v (.fa 0 (.t 11))⟩,
                               ⟨some 106, none, .v (.ld 1 false (.t 105))⟩,
                               ⟨some 107, none, .v (.icmp .eql .i64 (.t 104) (.t 106))⟩,
                               ⟨some 108, none, .v (.mv (.t 107))⟩,
                               ⟨some 109, some (108, false), .v (.fa 0 (.t 15))⟩,
                               ⟨some 110, some (108, false), .v (.fa 1 (.t 109))⟩,
                               ⟨some 111, some (108, false), .v (.ld 1 false (.t 110))⟩,
                               ⟨some 112, some (108, false), .v (.fa 1 (.t 11))⟩,
                               ⟨some 113, some (108, false), .v (.ld 1 false (.t 112))⟩,
                               ⟨some 114, some (108, false), .v (.icmp .eql .i64 (.t 111) (.t 113))⟩,
                               ⟨some 115, some (108, false), .v (.mv (.t 114))⟩,
                               ⟨some 116, some (115, true), .v (.ld 10 true (.t 13))⟩,
                               ⟨some 117, some (115, true), .v (.ld 10 true (.t 15))⟩,
                               ⟨some 118, some (115, true), .v (.fa 3 (.t 3))⟩,
                               ⟨some 119, some (115, true), .v (.ld 1 false (.t 118))⟩,
                               ⟨some 120, some (115, true), .call true (.c (.fn (.func 36) [] [])) [(.t 116), (.t 117), (.t 119)]⟩,
                               ⟨some 121, some (115, true), .v (.not (.t 120))⟩,
                               ⟨some 122, some (108, false), .pick (.t 115) (.t 121) (.c (.bool false))⟩,
                               ⟨some 123, some (108, false), .v (.mv (.t 122))⟩,
                               ⟨some 124, some (123, true), .v (.ld 10 true (.t 15))⟩,
                               ⟨some 125, some (123, true), .v (.ld 10 true (.t 13))⟩,
                               ⟨some 126, some (123, true), .v (.fa 3 (.t 3))⟩,
                               ⟨some 127, some (123, true), .v (.ld 1 false (.t 126))⟩,
                               ⟨some 128, some (123, true), .call true (.c (.fn (.func 36) [] [])) [(.t 124), (.t 125), (.t 127)]⟩,
                               ⟨some 129, some (123, true), .v (.not (.t 128))⟩,
                               ⟨some 130, some (108, false), .pick (.t 123) (.t 129) (.c (.bool false))⟩,
                               ⟨some 131, none, .pick (.t 108) (.c (.bool true)) (.t 130)⟩,
                               ⟨some 132, none, .v (.mv (.t 131))⟩,
                               ⟨some 133, some (132, false), .v (.fa 0 (.t 15))⟩,
                               ⟨some 134, some (132, false), .v (.fa 1 (.t 133))⟩,
                               ⟨some 135, some (132, false), .v (.ld 1 false (.t 134))⟩,
                               ⟨some 136, some (132, false), .call true (.c (.fn (.func 33) [] [])) [(.t 135)]⟩,
                               ⟨some 137, some (132, false), .v (.fa 1 (.t 11))⟩,
                               ⟨some 138, some (132, false), .v (.ld 1 false (.t 137))⟩,
                               ⟨some 139, some (132, false), .call true (.c (.fn (.func 33) [] [])) [(.t 138)]⟩,
                               ⟨some 140, some (132, false), .v (.icmp .eql .i64 (.t 136) (.t 139))⟩,
                               ⟨some 141, some (132, false), .v (.mv (.t 140))⟩,
                               ⟨some 142, some (141, true), .v (.ld 10 true (.t 13))⟩,
                               ⟨some 143, some (141, true), .v (.ld 10 true (.t 15))⟩,
                               ⟨some 144, some (141, true), .call true (.c (.fn (.func 37) [] [])) [(.t 142), (.t 143)]⟩,
                               ⟨some 145, some (132, false), .pick (.t 141) (.t 144) (.c (.bool false))⟩,
                               ⟨some 146, none, .pick (.t 132) (.c (.bool true)) (.t 145)⟩] [1, 3, 9, 11, 13, 27, 28, 29, 96, 97, 98, 146])
                             (.cond (.t 146)
                              (.seq
                               (.reg 0 [
                                 ⟨some 6, none, .v (.mv (.c (.bool false)))⟩,
                                 ⟨some 7, none, .v (.mv (.c (.int .i64 0)))⟩] [6, 7])
                               .ret)
                              .skip))))
                          (.reg 0 [
                            ⟨some 147, none, .v (.arith .add .i64 (.t 98) (.c (.int .i64 1)))⟩,
                            ⟨some 98, none, .v (.mv (.t 147))⟩] [1, 3, 9, 11, 13, 27, 28, 29, 96, 97, 98])))))))
                    (.reg 5 [
                      ⟨some 148, none, .v (.mv (.t 9))⟩,
                      ⟨some 149, none, .v (.ld 10 true (.t 13))⟩,
                      ⟨some 150, none, .v (.bs 10 1 (.agg [(.int .i64 0), (.int .i64 0), (.int .i64 0), (.int .i64 0), (.int .i64 0), (.int .i64 0), (.int .i64 0), (.int .i64 0), (.int .i64 0), (.int .i64 0)]) [(0, (.t 149))])⟩,
                      ⟨some 151, none, .app 3 10 80 (.t 148) (.t 150) false⟩,
                      ⟨some 9, none, .v (.mv (.t 151))⟩] [1, 3, 9, 27, 28, 29]))))))))
             (.reg 0 [
               ⟨some 152, none, .v (.arith .add .i64 (.t 29) (.c (.int .i64 1)))⟩,
               ⟨some 29, none, .v (.mv (.t 152))⟩] [1, 3, 9, 27, 28, 29])))))))
       (.seq
        (.reg 0 [
          ⟨some 6, none, .v (.mv (.c (.bool true)))⟩,
          ⟨some 7, none, .v (.mv (.c (.int .i64 0)))⟩] [6, 7])
        .ret))))))
theorem l18 : Callable Tryd.prog 18 := ⟨Tryd.f18, by kernel_rfl, by kernel_rfl, by kernel_rfl⟩
theorem a18 {args : List AVal} {H : AHeap} {n : Nat} {R : AOut → AHeap → Nat → Prop} (h : awp Tryd.prog c18 (postC [.t 6, .t 7] R) ⟨penv 0 args, H, n⟩) : ACalls Tryd.prog 18 args H n R :=
  acalls_of_awp' (fn := Tryd.f18) (c := Tryd.f18.body.getD .skip) (ac := c18) (fz := []) (im := []) (kp := kp18) (rs := [.t 6, .t 7]) (by kernel_rfl) (by kernel_rfl) (by kernel_rfl) (by kernel_rfl) (by kernel_rfl) h

/-- gridwright/gridwrightref57.Valid -/
def kp19 (r : Nat) : List Nat := match r with
  | 0 => [1, 2, 3]
  | 1 => [1, 2, 3, 8]
  | 2 => [1, 2, 3, 8, 17]
  | 3 => [6, 7]
  | 4 => [1, 2, 3, 23]
  | 5 => [6, 7]
  | 6 => [1, 2, 3, 9]
  | 7 => [1, 2, 3, 9, 27]
  | 9 => [1, 2, 3, 9, 62]
  | 10 => [6, 7]
  | 11 => [1, 2, 3, 9, 10]
  | 12 => [1, 2, 3, 9, 10, 11]
  | 13 => [1, 2, 3, 9, 10, 11, 73]
  | 15 => [1, 2, 3, 9, 10, 11, 12]
  | 16 => [1, 2, 3, 9, 10, 11, 12, 137]
  | 17 => [6, 7]
  | 18 => [1, 2, 3, 9, 10, 11, 177]
  | 19 => [6, 7]
  | 14 => [1, 2, 3, 9, 10, 11]
  | 8 => [1, 2, 3, 9]
  | 20 => [6, 7]
  | _ => []
def c19 : ACode :=
  (.seq
   (.reg 3 [
     ⟨some 3, none, .box 0 5 (.t 0)⟩,
     ⟨some 6, none, .v (.mv (.c (.bool false)))⟩,
     ⟨some 7, none, .v (.mv (.c (.int .i64 0)))⟩] [1, 2, 3])
   (.seq
    (.reg 0 [
      ⟨some 13, none, .v (.ld 5 true (.t 3))⟩,
      ⟨some 14, none, .v (.mv (.t 1))⟩,
      ⟨some 15, none, .call true (.c (.fn (.func 14) [] [])) [(.t 13), (.t 14)]⟩,
      ⟨some 8, none, .v (.mv (.t 15))⟩] [1, 2, 3, 8])
    (.seq
     (.seq
      (.reg 0 [
        ⟨some 16, none, .v (.mv (.t 8))⟩,
        ⟨some 17, none, .v (.icmp .neq .i64 (.t 16) (.c (.int .i64 0)))⟩] [1, 2, 3, 8, 17])
      (.cond (.t 17)
       (.seq
        (.reg 0 [
          ⟨some 18, none, .v (.mv (.t 8))⟩,
          ⟨some 6, none, .v (.mv (.c (.bool false)))⟩,
          ⟨some 7, none, .v (.mv (.t 18))⟩] [6, 7])
        .ret)
       .skip))
     (.seq
      (.seq
       (.reg 0 [
         ⟨some 19, none, .v (.mv (.t 2))⟩,
         ⟨some 20, none, .v (.len (.t 19))⟩,
         ⟨some 21, none, .v (.mv (.t 1))⟩,
         ⟨some 22, none, .v (.len (.t 21))⟩,
         ⟨some 23, none, .v (.icmp .neq .i64 (.t 20) (.t 22))⟩] [1, 2, 3, 23])
       (.cond (.t 23)
        (.seq
         (.reg 0 [
           ⟨some 6, none, .v (.mv (.c (.bool false)))⟩,
           ⟨some 7, none, .v (.mv (.c (.int .i64 0)))⟩] [6, 7])
         .ret)
        .skip))
      (.seq
       (.seq
        (.reg 0 [
          ⟨some 9, none, .v (.mv (.c (.int .i64 0)))⟩] [1, 2, 3, 9])
        (.block 0
         (.loop
          (.seq
           (.seq
            (.reg 0 [
              ⟨some 24, none, .v (.mv (.t 9))⟩,
              ⟨some 25, none, .v (.mv (.t 2))⟩,
              ⟨some 26, none, .v (.len (.t 25))⟩,
              ⟨some 27, none, .v (.icmp .lss .i64 (.t 24) (.t 26))⟩] [1, 2, 3, 9, 27])
            (.cond (.t 27)
             .skip
             (.exit 0)))
           (.seq
            (.block 1
             (.seq
              (.seq
               (.reg 0 [
                 ⟨some 30, none, .v (.mv (.t 2))⟩,
                 ⟨some 31, none, .v (.mv (.t 9))⟩,
                 ⟨some 32, none, .v (.ia 4 (.t 30) (.t 31))⟩,
                 ⟨some 33, none, .v (.fa 0 (.t 32))⟩,
                 ⟨some 34, none, .v (.ld 1 false (.t 33))⟩,
                 ⟨some 35, none, .v (.icmp .lss .i64 (.t 34) (.c (.int .i64 0)))⟩,
                 ⟨some 36, none, .v (.mv (.t 35))⟩,
                 ⟨some 37, some (36, false), .v (.mv (.t 2))⟩,
                 ⟨some 38, some (36, false), .v (.mv (.t 9))⟩,
                 ⟨some 39, some (36, false), .v (.ia 4 (.t 37) (.t 38))⟩,
                 ⟨some 40, some (36, false), .v (.fa 0 (.t 39))⟩,
                 ⟨some 41, some (36, false), .v (.ld 1 false (.t 40))⟩,
                 ⟨some 42, some (36, false), .v (.mv (.t 1))⟩,
                 ⟨some 43, some (36, false), .v (.len (.t 42))⟩,
                 ⟨some 44, some (36, false), .v (.icmp .geq .i64 (.t 41) (.t 43))⟩,
                 ⟨some 45, none, .pick (.t 36) (.c (.bool true)) (.t 44)⟩,
                 ⟨some 46, none, .v (.mv (.t 45))⟩,
                 ⟨some 47, some (46, false), .v (.ld 5 true (.t 3))⟩,
                 ⟨some 48, some (46, false), .v (.mv (.t 1))⟩,
                 ⟨some 49, some (46, false), .v (.mv (.t 2))⟩,
                 ⟨some 50, some (46, false), .v (.mv (.t 9))⟩,
                 ⟨some 51, some (46, false), .v (.ia 4 (.t 49) (.t 50))⟩,
                 ⟨some 52, some (46, false), .v (.fa 0 (.t 51))⟩,
                 ⟨some 53, some (46, false), .v (.ld 1 false (.t 52))⟩,
                 ⟨some 54, some (46, false), .v (.ia 4 (.t 48) (.t 53))⟩,
                 ⟨some 55, some (46, false), .v (.ld 4 true (.t 54))⟩,
                 ⟨some 56, some (46, false), .v (.mv (.t 2))⟩,
                 ⟨some 57, some (46, false), .v (.mv (.t 9))⟩,
                 ⟨some 58, some (46, false), .v (.ia 4 (.t 56) (.t 57))⟩,
                 ⟨some 59, some (46, false), .v (.ld 4 true (.t 58))⟩,
                 ⟨some 60, some (46, false), .call true (.c (.fn (.func 38) [] [])) [(.t 47), (.t 55), (.t 59)]⟩,
                 ⟨some 61, some (46, false), .v (.not (.t 60))⟩,
                 ⟨some 62, none, .pick (.t 46) (.c (.bool true)) (.t 61)⟩] [1, 2, 3, 9, 62])
               (.cond (.t 62)
                (.seq
                 (.reg 0 [
                   ⟨some 6, none, .v (.mv (.c (.bool false)))⟩,
                   ⟨some 7, none, .v (.mv (.c (.int .i64 0)))⟩] [6, 7])
                 .ret)
                .skip))
              (.seq
               (.reg 10 [
                 ⟨some 63, none, .v (.mv (.t 1))⟩,
                 ⟨some 64, none, .v (.mv (.t 2))⟩,
                 ⟨some 65, none, .v (.mv (.t 9))⟩,
                 ⟨some 66, none, .v (.ia 4 (.t 64) (.t 65))⟩,
                 ⟨some 67, none, .v (.fa 0 (.t 66))⟩,
                 ⟨some 68, none, .v (.ld 1 false (.t 67))⟩,
                 ⟨some 69, none, .v (.ia 4 (.t 63) (.t 68))⟩,
                 ⟨some 70, none, .v (.ld 4 true (.t 69))⟩,
                 ⟨some 10, none, .alloc 8 [(.int .i64 0), (.int .i64 0), (.int .i64 0), (.int .i64 0)]⟩,
                 ⟨none, none, .st 4 (.t 10) (.t 70)⟩] [1, 2, 3, 9, 10])
               (.seq
                (.reg 0 [
                  ⟨some 11, none, .v (.mv (.c (.int .i64 0)))⟩] [1, 2, 3, 9, 10, 11])
                (.block 2
                 (.loop
                  (.seq
                   (.seq
                    (.reg 0 [
                      ⟨some 71, none, .v (.mv (.t 11))⟩,
                      ⟨some 72, none, .v (.mv (.t 9))⟩,
                      ⟨some 73, none, .v (.icmp .lss .i64 (.t 71) (.t 72))⟩] [1, 2, 3, 9, 10, 11, 73])
                    (.cond (.t 73)
                     .skip
                     (.exit 2)))
                   (.seq
                    (.block 3
                     (.seq
                      (.reg 10 [
                        ⟨some 76, none, .v (.mv (.t 1))⟩,
                        ⟨some 77, none, .v (.mv (.t 2))⟩,
                        ⟨some 78, none, .v (.mv (.t 11))⟩,
                        ⟨some 79, none, .v (.ia 4 (.t 77) (.t 78))⟩,
                        ⟨some 80, none, .v (.fa 0 (.t 79))⟩,
                        ⟨some 81, none, .v (.ld 1 false (.t 80))⟩,
                        ⟨some 82, none, .v (.ia 4 (.t 76) (.t 81))⟩,
                        ⟨some 83, none, .v (.ld 4 true (.t 82))⟩,
                        ⟨some 12, none, .alloc 8 [(.int .i64 0), (.int .i64 0), (.int .i64 0), (.int .i64 0)]⟩,
                        ⟨none, none, .st 4 (.t 12) (.t 83)⟩] [1, 2, 3, 9, 10, 11, 12])
                      (.seq
                       (.seq
                        (.reg 0 [
                          ⟨some 84, none, .v (.mv (.t 2))⟩,
                          ⟨some 85, none, .v (.mv (.t 9))⟩,
                          ⟨some 86, none, .v (.ia 4 (.t 84) (.t 85))⟩,
                          ⟨some 87, none, .v (.fa 0 (.t 86))⟩,
                          ⟨some 88, none, .v (.ld 1 false (.t 87))⟩,
                          ⟨some 89, none, .v (.mv (.t 2))⟩,
                          ⟨some 90, none, .v (.mv (.t 11))⟩,
                          ⟨some 91, none, .v (.ia 4 (.t 89) (.t 90))⟩,
                          ⟨some 92, none, .v (.fa 0 (.t 91))⟩,
                          ⟨some 93, none, .v (.ld 1 false (.t 92))⟩,
                          ⟨some 94, none, .v (.icmp .eql .i64 (.t 88) (.t 93))⟩,
                          ⟨some 95, none, .v (.mv (.t 94))⟩,
                          ⟨some 96, some (95, false), .v (.mv (.t 2))⟩,
                          ⟨some 97, some (95, false), .v (.mv (.t 9))⟩,
                          ⟨some 98, some (95, false), .v (.ia 4 (.t 96) (.t 97))⟩,
                          ⟨some 99, some (95, false), .v (.fa 1 (.t 98))⟩,
                          ⟨some 100, some (95, false), .v (.ld 1 false (.t 99))⟩,
                          ⟨some 101, some (95, false), .v (.mv (.t 2))⟩,
                          ⟨some 102, some (95, false), .v (.mv (.t 11))⟩,
                          ⟨some 103, some (95, false), .v (.ia 4 (.t 101) (.t 102))⟩,
                          ⟨some 104, some (95, false), .v (.fa 1 (.t 103))⟩,
                          ⟨some 105, some (95, false), .v (.ld 1 false (.t 104))⟩,
                          ⟨some 106, some (95, false), .v (.icmp .eql .i64 (.t 100) (.t 105))⟩,
                          ⟨some 107, some (95, false), .v (.mv (.t 106))⟩,
                          ⟨some 108, some (107, true), .v (.ld 5 true (.t 3))⟩,
                          ⟨some 109, some (107, true), .v (.ld 4 true (.t 10))⟩,
                          ⟨some 110, some (107, true), .v (.ld 4 true (.t 12))⟩,
                          ⟨some 111, some (107, true), .v (.mv (.t 2))⟩,
                          ⟨some 112, some (107, true), .v (.mv (.t 9))⟩,
                          ⟨some 113, some (107, true), .v (.ia 4 (.t 111) (.t 112))⟩,
                          ⟨some 114, some (107, true), .v (.ld 4 true (.t 113))⟩,
                          ⟨some 115, some (107, true), .v (.mv (.t 2))⟩,
                          ⟨some 116, some (107, true), .v (.mv (.t 11))⟩,
                          ⟨some 117, some (107, true), .v (.ia 4 (.t 115) (.t 116))⟩,
                          ⟨some 118, some (107, true), .v (.ld 4 true (.t 117))⟩,
                          ⟨some 119, some (107, true), .call true (.c (.fn (.func 39) [] [])) [(.t 108), (.t 109), (.t 110), (.t 114), (.t 118)]⟩,
                          ⟨some 120, some (107, true), .v (.not (.t 119))⟩,
                          ⟨some 121, some (95, false), .pick (.t 107) (.t 120) (.c (.bool false))⟩,
                          ⟨some 122, some (95, false), .v (.mv (.t 121))⟩,
                          ⟨some 123, some (122, true), .v (.ld 5 true (.t 3))⟩,
                          ⟨some 124, some (122, true), .v (.ld 4 true (.t 12))⟩,
                          ⟨some 125, some (122, true), .v (.ld 4 true (.t 10))⟩,
                          ⟨some 126, some (122, true), .v (.mv (.t 2))⟩,
                          ⟨some 127, some (122, true), .v (.mv (.t 11))⟩,
                          ⟨some 128, some (122, true), .v (.ia 4 (.t 126) (.t 127))⟩,
                          ⟨some 129, some (122, true), .v (.ld 4 true (.t 128))⟩,
                          ⟨some 130, some (122, true), .v (.mv (.t 2))⟩,
                          ⟨some 131, some (122, true), .v (.mv (.t 9))⟩,
                          ⟨some 132, some (122, true), .v (.ia 4 (.t 130) (.t 131))⟩,
                          ⟨some 133, some (122, true), .v (.ld 4 true (.t 132))⟩,
                          ⟨some 134, some (122, true), .call true (.c (.fn (.func 39) [] [])) [(.t 123), (.t 124), (.t 125), (.t 129), (.t 133)]⟩,
                          ⟨some 135, some (122, true), .v (.not (.t 134))⟩,
                          ⟨some 136, some (95, false), .pick (.t 122) (.t 135) (.c (.bool false))⟩,
                          ⟨some 137, none, .pick (.t 95) (.c (.bool true)) (.t 136)⟩] [1, 2, 3, 9, 10, 11, 12, 137])
                        (.cond (.t 137)
                         (.seq
                          (.reg 0 [
                            ⟨some 6, none, .v (.mv (.c (.bool false)))⟩,
                            ⟨some 7, none, .v (.mv (.c (.int .i64 0)))⟩] [6, 7])
                          .ret)
                         .skip))
                       (.seq
                        (.reg 0 [
                          ⟨some 138, none, .v (.fa 1 (.t 10))⟩,
                          ⟨some 139, none, .v (.ld 1 false (.t 138))⟩,
                          ⟨some 140, none, .v (.fa 1 (.t 12))⟩,
                          ⟨some 141, none, .v (.ld 1 false (.t 140))⟩,
                          ⟨some 142, none, .v (.icmp .eql .i64 (.t 139) (.t 141))⟩,
                          ⟨some 143, none, .v (.mv (.t 142))⟩,
                          ⟨some 144, some (143, true), .v (.mv (.t 2))⟩,
                          ⟨some 145, some (143, true), .v (.mv (.t 9))⟩,
                          ⟨some 146, some (143, true), .v (.ia 4 (.t 144) (.t 145))⟩,
                          ⟨some 147, some (143, true), .v (.fa 1 (.t 146))⟩,
                          ⟨some 148, some (143, true), .v (.ld 1 false (.t 147))⟩,
                          ⟨some 149, some (143, true), .call true (.c (.fn (.func 35) [] [])) [(.t 148)]⟩,
                          ⟨some 150, some (143, true), .v (.mv (.t 2))⟩,
                          ⟨some 151, some (143, true), .v (.mv (.t 11))⟩,
                          ⟨some 152, some (143, true), .v (.ia 4 (.t 150) (.t 151))⟩,
                          ⟨some 153, some (143, true), .v (.fa 1 (.t 152))⟩,
                          ⟨some 154, some (143, true), .v (.ld 1 false (.t 153))⟩,
                          ⟨some 155, some (143, true), .call true (.c (.fn (.func 35) [] [])) [(.t 154)]⟩,
                          ⟨some 156, some (143, true), .v (.icmp .eql .i64 (.t 149) (.t 155))⟩,
                          ⟨some 157, none, .pick (.t 143) (.t 156) (.c (.bool false))⟩,
                          ⟨some 158, none, .v (.mv (.t 157))⟩,
                          ⟨some 159, some (158, true), .v (.fa 0 (.t 10))⟩,
                          ⟨some 160, some (158, true), .v (.ld 1 false (.t 159))⟩,
                          ⟨some 161, some (158, true), .v (.icmp .eql .i64 (.t 160) (.c (.int .i64 1)))⟩,
                          ⟨some 162, some (158, true), .v (.mv (.t 161))⟩,
                          ⟨some 163, some (162, true), .v (.fa 0 (.t 12))⟩,
                          ⟨some 164, some (162, true), .v (.ld 1 false (.t 163))⟩,
                          ⟨some 165, some (162, true), .v (.icmp .eql .i64 (.t 164) (.c (.int .i64 2)))⟩,
                          ⟨some 166, some (158, true), .pick (.t 162) (.t 165) (.c (.bool false))⟩,
                          ⟨some 167, some (158, true), .v (.mv (.t 166))⟩,
                          ⟨some 168, some (167, false), .v (.fa 0 (.t 10))⟩,
                          ⟨some 169, some (167, false), .v (.ld 1 false (.t 168))⟩,
                          ⟨some 170, some (167, false), .v (.icmp .eql .i64 (.t 169) (.c (.int .i64 2)))⟩,
                          ⟨some 171, some (167, false), .v (.mv (.t 170))⟩,
                          ⟨some 172, some (171, true), .v (.fa 0 (.t 12))⟩,
                          ⟨some 173, some (171, true), .v (.ld 1 false (.t 172))⟩,
                          ⟨some 174, some (171, true), .v (.icmp .eql .i64 (.t 173) (.c (.int .i64 1)))⟩,
                          ⟨some 175, some (167, false), .pick (.t 171) (.t 174) (.c (.bool false))⟩,
                          ⟨some 176, some (158, true), .pick (.t 167) (.c (.bool true)) (.t 175)⟩,
                          ⟨some 177, none, .pick (.t 158) (.t 176) (.c (.bool false))⟩] [1, 2, 3, 9, 10, 11, 177])
                        (.cond (.t 177)
                         (.seq
                          (.reg 0 [
                            ⟨some 6, none, .v (.mv (.c (.bool false)))⟩,
                            ⟨some 7, none, .v (.mv (.c (.int .i64 0)))⟩] [6, 7])
                          .ret)
                         .skip)))))
                    (.reg 0 [
                      ⟨some 74, none, .v (.mv (.t 11))⟩,
                      ⟨some 75, none, .v (.arith .add .i64 (.t 74) (.c (.int .i64 1)))⟩,
                      ⟨some 11, none, .v (.mv (.t 75))⟩] [1, 2, 3, 9, 10, 11])))))))))
            (.reg 0 [
              ⟨some 28, none, .v (.mv (.t 9))⟩,
              ⟨some 29, none, .v (.arith .add .i64 (.t 28) (.c (.int .i64 1)))⟩,
              ⟨some 9, none, .v (.mv (.t 29))⟩] [1, 2, 3, 9]))))))
       (.seq
        (.reg 0 [
          ⟨some 6, none, .v (.mv (.c (.bool true)))⟩,
          ⟨some 7, none, .v (.mv (.c (.int .i64 0)))⟩] [6, 7])
        .ret))))))
theorem l19 : Callable Tryd.prog 19 := ⟨Tryd.f19, by kernel_rfl, by kernel_rfl, by kernel_rfl⟩
theorem a19 {args : List AVal} {H : AHeap} {n : Nat} {R : AOut → AHeap → Nat → Prop} (h : awp Tryd.prog c19 (postC [.t 6, .t 7] R) ⟨penv 0 args, H, n⟩) : ACalls Tryd.prog 19 args H n R :=
  acalls_of_awp' (fn := Tryd.f19) (c := Tryd.f19.body.getD .skip) (ac := c19) (fz := []) (im := []) (kp := kp19) (rs := [.t 6, .t 7]) (by kernel_rfl) (by kernel_rfl) (by kernel_rfl) (by kernel_rfl) (by kernel_rfl) h

/-- slices.ContainsFunc[[]gridwright/api.Block,gridwright/api.Block] -/
def kp27 (r : Nat) : List Nat := match r with
  | 0 => [0, 1]
  | 1 => [4]
  | _ => []
def c27 : ACode :=
  (.seq
   (.reg 0 [
     ⟨some 4, none, .v (.mv (.c (.bool false)))⟩] [0, 1])
   (.seq
    (.reg 0 [
      ⟨some 5, none, .v (.mv (.t 0))⟩,
      ⟨some 6, none, .v (.mv (.t 1))⟩,
      ⟨some 7, none, .call true (.c (.fn (.func 41) [] [])) [(.t 5), (.t 6)]⟩,
      ⟨some 8, none, .v (.icmp .geq .i64 (.t 7) (.c (.int .i64 0)))⟩,
      ⟨some 4, none, .v (.mv (.t 8))⟩] [4])
    .ret))
theorem l27 : Callable Tryd.prog 27 := ⟨Tryd.f27, by kernel_rfl, by kernel_rfl, by kernel_rfl⟩
theorem a27 {args : List AVal} {H : AHeap} {n : Nat} {R : AOut → AHeap → Nat → Prop} (h : awp Tryd.prog c27 (postC [.t 4] R) ⟨penv 0 args, H, n⟩) : ACalls Tryd.prog 27 args H n R :=
  acalls_of_awp' (fn := Tryd.f27) (c := Tryd.f27.body.getD .skip) (ac := c27) (fz := []) (im := []) (kp := kp27) (rs := [.t 4]) (by kernel_rfl) (by kernel_rfl) (by kernel_rfl) (by kernel_rfl) (by kernel_rfl) h

/-- slices.IndexFunc[[]gridwright/api.Block,gridwright/api.Block] -/
def kp41 (r : Nat) : List Nat := match r with
  | 0 => [0, 1]
  | 1 => [0, 1, 7, 8]
  | 2 => [0, 1, 7, 8, 9]
  | 3 => [0, 1, 5, 7, 8]
  | 4 => [0, 1, 5, 7, 8, 16]
  | 5 => [4]
  | 6 => [0, 1, 7, 8]
  | 7 => [4]
  | _ => []
def c41 : ACode :=
  (.seq
   (.reg 0 [
     ⟨some 4, none, .v (.mv (.c (.int .i64 0)))⟩] [0, 1])
   (.seq
    (.seq
     (.reg 0 [
       ⟨some 6, none, .v (.mv (.t 0))⟩,
       ⟨some 7, none, .v (.len (.t 6))⟩,
       ⟨some 8, none, .v (.mv (.c (.int .i64 0)))⟩] [0, 1, 7, 8])
     (.block 0
      (.loop
       (.seq
        (.reg 0 [
          ⟨some 9, none, .v (.icmp .lss .i64 (.t 8) (.t 7))⟩] [0, 1, 7, 8, 9])
        (.seq
         (.cond (.t 9)
          .skip
          (.exit 0))
         (.seq
          (.block 1
           (.seq
            (.reg 0 [
              ⟨some 10, none, .v (.mv (.t 8))⟩,
              ⟨some 5, none, .v (.mv (.t 10))⟩] [0, 1, 5, 7, 8])
            (.seq
             (.reg 0 [
               ⟨some 11, none, .v (.mv (.t 1))⟩,
               ⟨some 12, none, .v (.mv (.t 0))⟩,
               ⟨some 13, none, .v (.mv (.t 5))⟩,
               ⟨some 14, none, .v (.ia 4 (.t 12) (.t 13))⟩,
               ⟨some 15, none, .v (.ld 4 true (.t 14))⟩,
               ⟨some 16, none, .call true (.t 11) [(.t 15)]⟩] [0, 1, 5, 7, 8, 16])
             (.cond (.t 16)
              (.seq
               (.reg 0 [
                 ⟨some 17, none, .v (.mv (.t 5))⟩,
                 ⟨some 4, none, .v (.mv (.t 17))⟩] [4])
               .ret)
              .skip))))
          (.reg 0 [
            ⟨some 18, none, .v (.arith .add .i64 (.t 8) (.c (.int .i64 1)))⟩,
            ⟨some 8, none, .v (.mv (.t 18))⟩] [0, 1, 7, 8])))))))
    (.seq
     (.reg 0 [
       ⟨some 4, none, .v (.mv (.c (.int .i64 (-1))))⟩] [4])
     .ret)))
theorem l41 : Callable Tryd.prog 41 := ⟨Tryd.f41, by kernel_rfl, by kernel_rfl, by kernel_rfl⟩
theorem a41 {args : List AVal} {H : AHeap} {n : Nat} {R : AOut → AHeap → Nat → Prop} (h : awp Tryd.prog c41 (postC [.t 4] R) ⟨penv 0 args, H, n⟩) : ACalls Tryd.prog 41 args H n R :=
  acalls_of_awp' (fn := Tryd.f41) (c := Tryd.f41.body.getD .skip) (ac := c41) (fz := []) (im := []) (kp := kp41) (rs := [.t 4]) (by kernel_rfl) (by kernel_rfl) (by kernel_rfl) (by kernel_rfl) (by kernel_rfl) h

end Go.AM
end

/- The abstract code of some functions, written by a program. Conditions: none. -/
section
set_option maxRecDepth 10000
set_option linter.unusedSimpArgs false
set_option linter.unusedVariables false
set_option maxRecDepth 20000
set_option linter.unusedVariables false
namespace Go.AM
open Go.Proofs





/-- internal/strconv.AppendInt -/
def kp40 (r : Nat) : List Nat := match r with
  | 0 => [0, 1, 2]
  | 1 => [0, 1, 2, 7]
  | 2 => [0, 2, 7, 11]
  | 3 => [0, 2, 7]
  | 4 => [0, 2, 7]
  | 5 => [6]
  | _ => []
def c40 : ACode :=
  (.seq
   (.reg 0 [
     ⟨some 6, none, .v (.mv (.c (.sl .nil [])))⟩] [0, 1, 2])
   (.seq
    (.reg 0 [
      ⟨some 8, none, .v (.mv (.t 1))⟩,
      ⟨some 9, none, .v (.conv .u64 (.t 8))⟩,
      ⟨some 7, none, .v (.mv (.t 9))⟩] [0, 1, 2, 7])
    (.seq
     (.seq
      (.reg 0 [
        ⟨some 10, none, .v (.mv (.t 1))⟩,
        ⟨some 11, none, .v (.icmp .lss .i64 (.t 10) (.c (.int .i64 0)))⟩] [0, 2, 7, 11])
      (.cond (.t 11)
       (.seq
        (.reg 4 [
          ⟨some 12, none, .v (.mv (.t 0))⟩,
          ⟨some 13, none, .v (.bs 1 1 (.int .u8 0) [(0, (.c (.int .u8 45)))])⟩,
          ⟨some 14, none, .app 2 1 1 (.t 12) (.t 13) false⟩,
          ⟨some 0, none, .v (.mv (.t 14))⟩] [0, 2, 7])
        (.reg 0 [
          ⟨some 15, none, .v (.mv (.t 7))⟩,
          ⟨some 16, none, .v (.neg .u64 (.t 15))⟩,
          ⟨some 7, none, .v (.mv (.t 16))⟩] [0, 2, 7]))
       .skip))
     (.seq
      (.reg 0 [
        ⟨some 17, none, .v (.mv (.t 0))⟩,
        ⟨some 18, none, .v (.mv (.t 7))⟩,
        ⟨some 19, none, .v (.mv (.t 2))⟩,
        ⟨some 20, none, .call false (.c (.fn (.func 44) [] [])) [(.t 17), (.t 18), (.t 19)]⟩,
        ⟨some 6, none, .v (.mv (.t 20))⟩] [6])
      .ret))))
theorem l40 : Callable Tryd.prog 40 := ⟨Tryd.f40, by kernel_rfl, by kernel_rfl, by kernel_rfl⟩
theorem a40 {args : List AVal} {H : AHeap} {n : Nat} {R : AOut → AHeap → Nat → Prop} (h : awp Tryd.prog c40 (postC [.t 6] R) ⟨penv 0 args, H, n⟩) : ACalls Tryd.prog 40 args H n R :=
  acalls_of_awp' (fn := Tryd.f40) (c := Tryd.f40.body.getD .skip) (ac := c40) (fz := []) (im := [(5, 3)]) (kp := kp40) (rs := [.t 6]) (by kernel_rfl) (by kernel_rfl) (by kernel_rfl) (by kernel_rfl) (by kernel_rfl) h

/-- internal/strconv.AppendUint -/
def kp44 (r : Nat) : List Nat := match r with
  | 0 => [0, 1, 2]
  | 1 => [0, 1, 2, 10]
  | 2 => [0, 1, 12]
  | 3 => [6]
  | 4 => [0, 1, 7]
  | 5 => [0, 1, 7, 8]
  | 6 => [0, 7, 8]
  | 7 => [6]
  | 8 => [0]
  | 9 => [6]
  | _ => []
def c44 : ACode :=
  (.seq
   (.reg 0 [
     ⟨some 6, none, .v (.mv (.c (.sl .nil [])))⟩] [0, 1, 2])
   (.seq
    (.seq
     (.reg 0 [
       ⟨some 9, none, .v (.mv (.t 2))⟩,
       ⟨some 10, none, .v (.icmp .eql .i64 (.t 9) (.c (.int .i64 10)))⟩] [0, 1, 2, 10])
     (.cond (.t 10)
      (.seq
       (.seq
        (.reg 0 [
          ⟨some 11, none, .v (.mv (.t 1))⟩,
          ⟨some 12, none, .v (.icmp .lss .u64 (.t 11) (.c (.int .u64 100)))⟩] [0, 1, 12])
        (.cond (.t 12)
         (.seq
          (.reg 6 [
            ⟨some 13, none, .v (.mv (.t 0))⟩,
            ⟨some 14, none, .v (.mv (.t 1))⟩,
            ⟨some 15, none, .v (.conv .i64 (.t 14))⟩,
            ⟨some 16, none, .call true (.c (.fn (.func 47) [] [])) [(.t 15)]⟩,
            ⟨some 17, none, .app 4 1 1 (.t 13) (.t 16) true⟩,
            ⟨some 6, none, .v (.mv (.t 17))⟩] [6])
          .ret)
         .skip))
       (.seq
        (.reg 1 [
          ⟨some 7, none, .alloc 0 [(.int .u8 0), (.int .u8 0), (.int .u8 0), (.int .u8 0), (.int .u8 0), (.int .u8 0), (.int .u8 0), (.int .u8 0), (.int .u8 0), (.int .u8 0), (.int .u8 0), (.int .u8 0), (.int .u8 0), (.int .u8 0), (.int .u8 0), (.int .u8 0), (.int .u8 0), (.int .u8 0), (.int .u8 0), (.int .u8 0), (.int .u8 0), (.int .u8 0), (.int .u8 0), (.int .u8 0)]⟩] [0, 1, 7])
        (.seq
         (.reg 0 [
           ⟨some 18, none, .v (.mv (.t 1))⟩,
           ⟨some 19, none, .call true (.c (.fn (.func 48) [] [])) [(.t 18)]⟩,
           ⟨some 8, none, .v (.mv (.t 19))⟩] [0, 1, 7, 8])
         (.seq
          (.reg 0 [
            ⟨some 20, none, .v (.mv (.t 8))⟩,
            ⟨some 21, none, .slA 24 (.t 7) none (some (.t 20))⟩,
            ⟨some 22, none, .v (.mv (.t 1))⟩,
            ⟨some 23, none, .call false (.c (.fn (.func 49) [] [])) [(.t 21), (.t 22)]⟩] [0, 7, 8])
          (.seq
           (.reg 5 [
             ⟨some 24, none, .v (.mv (.t 0))⟩,
             ⟨some 25, none, .v (.mv (.t 8))⟩,
             ⟨some 26, none, .slA 24 (.t 7) none (some (.t 25))⟩,
             ⟨some 27, none, .app 3 1 1 (.t 24) (.t 26) false⟩,
             ⟨some 6, none, .v (.mv (.t 27))⟩] [6])
           .ret)))))
      .skip))
    (.seq
     (.reg 0 [
       ⟨some 29, none, .v (.mv (.t 0))⟩,
       ⟨some 30, none, .v (.mv (.t 1))⟩,
       ⟨some 31, none, .v (.mv (.t 2))⟩,
       ⟨some 32, none, .call false (.c (.fn (.func 50) [] [])) [(.t 29), (.t 30), (.t 31), (.c (.bool false)), (.c (.bool true))]⟩,
       ⟨some 28, none, .v (.mv (.t 32))⟩,
       ⟨some 33, none, .v (.ext 0 (.t 28))⟩,
       ⟨some 34, none, .v (.ext 1 (.t 28))⟩,
       ⟨some 0, none, .v (.mv (.t 33))⟩] [0])
     (.seq
      (.reg 0 [
        ⟨some 35, none, .v (.mv (.t 0))⟩,
        ⟨some 6, none, .v (.mv (.t 35))⟩] [6])
      .ret))))
theorem l44 : Callable Tryd.prog 44 := ⟨Tryd.f44, by kernel_rfl, by kernel_rfl, by kernel_rfl⟩
theorem a44 {args : List AVal} {H : AHeap} {n : Nat} {R : AOut → AHeap → Nat → Prop} (h : awp Tryd.prog c44 (postC [.t 6] R) ⟨penv 0 args, H, n⟩) : ACalls Tryd.prog 44 args H n R :=
  acalls_of_awp' (fn := Tryd.f44) (c := Tryd.f44.body.getD .skip) (ac := c44) (fz := []) (im := [(6, 3), (8, 3)]) (kp := kp44) (rs := [.t 6]) (by kernel_rfl) (by kernel_rfl) (by kernel_rfl) (by kernel_rfl) (by kernel_rfl) h

/-- internal/strconv.small -/
def kp47 (r : Nat) : List Nat := match r with
  | 0 => [0]
  | 1 => [0, 4]
  | 2 => [2]
  | 3 => [2]
  | _ => []
def c47 : ACode :=
  (.seq
   (.reg 0 [
     ⟨some 2, none, .v (.mv (.c (.str [])))⟩] [0])
   (.seq
    (.seq
     (.reg 0 [
       ⟨some 3, none, .v (.mv (.t 0))⟩,
       ⟨some 4, none, .v (.icmp .lss .i64 (.t 3) (.c (.int .i64 10)))⟩] [0, 4])
     (.cond (.t 4)
      (.seq
       (.reg 0 [
         ⟨some 5, none, .v (.mv (.t 0))⟩,
         ⟨some 6, none, .v (.mv (.t 0))⟩,
         ⟨some 7, none, .v (.arith .add .i64 (.t 6) (.c (.int .i64 1)))⟩,
         ⟨some 8, none, .v (.slS (.c (.str [48, 49, 50, 51, 52, 53, 54, 55, 56, 57, 97, 98, 99, 100, 101, 102, 103, 104, 105, 106, 107, 108, 109, 110, 111, 112, 113, 114, 115, 116, 117, 118, 119, 120, 121, 122])) (some (.t 5)) (some (.t 7)))⟩,
         ⟨some 2, none, .v (.mv (.t 8))⟩] [2])
       .ret)
      .skip))
    (.seq
     (.reg 0 [
       ⟨some 9, none, .v (.mv (.t 0))⟩,
       ⟨some 10, none, .v (.arith .mul .i64 (.t 9) (.c (.int .i64 2)))⟩,
       ⟨some 11, none, .v (.mv (.t 0))⟩,
       ⟨some 12, none, .v (.arith .mul .i64 (.t 11) (.c (.int .i64 2)))⟩,
       ⟨some 13, none, .v (.arith .add .i64 (.t 12) (.c (.int .i64 2)))⟩,
       ⟨some 14, none, .v (.slS (.c (.str [48, 48, 48, 49, 48, 50, 48, 51, 48, 52, 48, 53, 48, 54, 48, 55, 48, 56, 48, 57, 49, 48, 49, 49, 49, 50, 49, 51, 49, 52, 49, 53, 49, 54, 49, 55, 49, 56, 49, 57, 50, 48, 50, 49, 50, 50, 50, 51, 50, 52, 50, 53, 50, 54, 50, 55, 50, 56, 50, 57, 51, 48, 51, 49, 51, 50, 51, 51, 51, 52, 51, 53, 51, 54, 51, 55, 51, 56, 51, 57, 52, 48, 52, 49, 52, 50, 52, 51, 52, 52, 52, 53, 52, 54, 52, 55, 52, 56, 52, 57, 53, 48, 53, 49, 53, 50, 53, 51, 53, 52, 53, 53, 53, 54, 53, 55, 53, 56, 53, 57, 54, 48, 54, 49, 54, 50, 54, 51, 54, 52, 54, 53, 54, 54, 54, 55, 54, 56, 54, 57, 55, 48, 55, 49, 55, 50, 55, 51, 55, 52, 55, 53, 55, 54, 55, 55, 55, 56, 55, 57, 56, 48, 56, 49, 56, 50, 56, 51, 56, 52, 56, 53, 56, 54, 56, 55, 56, 56, 56, 57, 57, 48, 57, 49, 57, 50, 57, 51, 57, 52, 57, 53, 57, 54, 57, 55, 57, 56, 57, 57])) (some (.t 10)) (some (.t 13)))⟩,
       ⟨some 2, none, .v (.mv (.t 14))⟩] [2])
     .ret)))
theorem l47 : Callable Tryd.prog 47 := ⟨Tryd.f47, by kernel_rfl, by kernel_rfl, by kernel_rfl⟩
theorem a47 {args : List AVal} {H : AHeap} {n : Nat} {R : AOut → AHeap → Nat → Prop} (h : awp Tryd.prog c47 (postC [.t 2] R) ⟨penv 0 args, H, n⟩) : ACalls Tryd.prog 47 args H n R :=
  acalls_of_awp' (fn := Tryd.f47) (c := Tryd.f47.body.getD .skip) (ac := c47) (fz := []) (im := []) (kp := kp47) (rs := [.t 2]) (by kernel_rfl) (by kernel_rfl) (by kernel_rfl) (by kernel_rfl) (by kernel_rfl) h

/-- internal/strconv.numDigits -/
def kp48 (r : Nat) : List Nat := match r with
  | 0 => [0]
  | 1 => [0, 3]
  | 2 => [2]
  | _ => []
def c48 : ACode :=
  (.seq
   (.reg 0 [
     ⟨some 2, none, .v (.mv (.c (.int .i64 0)))⟩] [0])
   (.seq
    (.reg 0 [
      ⟨some 4, none, .v (.mv (.t 0))⟩,
      ⟨some 5, none, .call true (.c (.fn (.func 53) [] [])) [(.t 4)]⟩,
      ⟨some 6, none, .call true (.c (.fn (.func 52) [] [])) [(.t 5)]⟩,
      ⟨some 3, none, .v (.mv (.t 6))⟩] [0, 3])
    (.seq
     (.reg 0 [
       ⟨some 7, none, .v (.mv (.t 3))⟩,
       ⟨some 8, none, .v (.mv (.t 0))⟩,
       ⟨some 9, none, .v (.mv (.t 3))⟩,
       ⟨some 10, none, .v (.iaA 20 1 (.c (.ep [(.int .u64 1), (.int .u64 10), (.int .u64 100), (.int .u64 1000), (.int .u64 10000), (.int .u64 100000), (.int .u64 1000000), (.int .u64 10000000), (.int .u64 100000000), (.int .u64 1000000000), (.int .u64 10000000000), (.int .u64 100000000000), (.int .u64 1000000000000), (.int .u64 10000000000000), (.int .u64 100000000000000), (.int .u64 1000000000000000), (.int .u64 10000000000000000), (.int .u64 100000000000000000), (.int .u64 1000000000000000000), (.int .u64 10000000000000000000)])) (.t 9))⟩,
       ⟨some 11, none, .v (.ld 1 false (.t 10))⟩,
       ⟨some 12, none, .v (.icmp .geq .u64 (.t 8) (.t 11))⟩,
       ⟨some 13, none, .call true (.c (.fn (.func 54) [] [])) [(.t 12)]⟩,
       ⟨some 14, none, .v (.arith .add .i64 (.t 7) (.t 13))⟩,
       ⟨some 2, none, .v (.mv (.t 14))⟩] [2])
     .ret)))
theorem l48 : Callable Tryd.prog 48 := ⟨Tryd.f48, by kernel_rfl, by kernel_rfl, by kernel_rfl⟩
theorem a48 {args : List AVal} {H : AHeap} {n : Nat} {R : AOut → AHeap → Nat → Prop} (h : awp Tryd.prog c48 (postC [.t 2] R) ⟨penv 0 args, H, n⟩) : ACalls Tryd.prog 48 args H n R :=
  acalls_of_awp' (fn := Tryd.f48) (c := Tryd.f48.body.getD .skip) (ac := c48) (fz := []) (im := []) (kp := kp48) (rs := [.t 2]) (by kernel_rfl) (by kernel_rfl) (by kernel_rfl) (by kernel_rfl) (by kernel_rfl) h

/-- internal/strconv.formatBase10 -/
def kp49 (r : Nat) : List Nat := match r with
  | 0 => [0, 1, 4]
  | 1 => [0, 1, 4, 20]
  | 2 => [0, 1, 4, 5]
  | 3 => [0, 1, 4, 5]
  | 4 => [0, 1, 4, 6, 7]
  | 5 => [0, 1, 4, 6, 8, 9]
  | 6 => [0, 1, 4, 8, 9, 10, 11]
  | 7 => [0, 1, 4, 8, 10, 11]
  | 8 => [0, 1, 4, 10, 11]
  | 9 => [0, 1, 4, 10]
  | 10 => [0, 1, 4]
  | 11 => [0, 1, 4]
  | 12 => [0, 4, 12]
  | 13 => [0, 4, 12, 99]
  | 14 => [0, 4, 12, 13]
  | 15 => [0, 4, 12, 13]
  | 16 => [0, 4, 12, 14, 15]
  | 17 => [0, 4, 12, 14]
  | 18 => [0, 4, 12]
  | 19 => [0, 4, 12]
  | 20 => [0, 4, 12, 139]
  | 21 => [0, 4, 12, 16]
  | 22 => [0, 4, 12, 16]
  | 23 => [0, 4, 12]
  | 24 => [0, 4, 12]
  | 25 => [0, 12, 161]
  | 26 => []
  | _ => []
def c49 : ACode :=
  (.seq
   (.reg 0 [
     ⟨some 17, none, .v (.mv (.t 0))⟩,
     ⟨some 18, none, .v (.len (.t 17))⟩,
     ⟨some 4, none, .v (.mv (.t 18))⟩] [0, 1, 4])
   (.seq
    (.block 0
     (.loop
      (.seq
       (.seq
        (.reg 0 [
          ⟨some 19, none, .v (.mv (.t 4))⟩,
          ⟨some 20, none, .v (.icmp .geq .i64 (.t 19) (.c (.int .i64 8)))⟩] [0, 1, 4, 20])
        (.cond (.t 20)
         .skip
         (.exit 0)))
       (.block 1
        (.seq
         (.reg 0 [
           ⟨some 21, none, .v (.mv (.t 1))⟩,
           ⟨some 22, none, .v (.arith .rem .u64 (.t 21) (.c (.int .u64 100000000)))⟩,
           ⟨some 23, none, .v (.conv .u32 (.t 22))⟩,
           ⟨some 5, none, .v (.mv (.t 23))⟩] [0, 1, 4, 5])
         (.seq
          (.reg 0 [
            ⟨some 24, none, .v (.mv (.t 1))⟩,
            ⟨some 25, none, .v (.arith .quo .u64 (.t 24) (.c (.int .u64 100000000)))⟩,
            ⟨some 1, none, .v (.mv (.t 25))⟩] [0, 1, 4, 5])
          (.seq
           (.reg 0 [
             ⟨some 26, none, .v (.mv (.t 5))⟩,
             ⟨some 27, none, .v (.arith .quo .u32 (.t 26) (.c (.int .u32 10000)))⟩,
             ⟨some 28, none, .v (.mv (.t 5))⟩,
             ⟨some 29, none, .v (.arith .rem .u32 (.t 28) (.c (.int .u32 10000)))⟩,
             ⟨some 6, none, .v (.mv (.t 27))⟩,
             ⟨some 7, none, .v (.mv (.t 29))⟩] [0, 1, 4, 6, 7])
           (.seq
            (.reg 0 [
              ⟨some 30, none, .v (.mv (.t 7))⟩,
              ⟨some 31, none, .v (.arith .quo .u32 (.t 30) (.c (.int .u32 100)))⟩,
              ⟨some 32, none, .v (.arith .mul .u32 (.t 31) (.c (.int .u32 2)))⟩,
              ⟨some 33, none, .v (.mv (.t 7))⟩,
              ⟨some 34, none, .v (.arith .rem .u32 (.t 33) (.c (.int .u32 100)))⟩,
              ⟨some 35, none, .v (.arith .mul .u32 (.t 34) (.c (.int .u32 2)))⟩,
              ⟨some 8, none, .v (.mv (.t 32))⟩,
              ⟨some 9, none, .v (.mv (.t 35))⟩] [0, 1, 4, 6, 8, 9])
            (.seq
             (.reg 0 [
               ⟨some 36, none, .v (.mv (.t 6))⟩,
               ⟨some 37, none, .v (.arith .quo .u32 (.t 36) (.c (.int .u32 100)))⟩,
               ⟨some 38, none, .v (.arith .mul .u32 (.t 37) (.c (.int .u32 2)))⟩,
               ⟨some 39, none, .v (.mv (.t 6))⟩,
               ⟨some 40, none, .v (.arith .rem .u32 (.t 39) (.c (.int .u32 100)))⟩,
               ⟨some 41, none, .v (.arith .mul .u32 (.t 40) (.c (.int .u32 2)))⟩,
               ⟨some 10, none, .v (.mv (.t 38))⟩,
               ⟨some 11, none, .v (.mv (.t 41))⟩] [0, 1, 4, 8, 9, 10, 11])
             (.seq
              (.reg 0 [
                ⟨some 42, none, .v (.mv (.t 0))⟩,
                ⟨some 43, none, .v (.mv (.t 4))⟩,
                ⟨some 44, none, .v (.arith .sub .i64 (.t 43) (.c (.int .i64 1)))⟩,
                ⟨some 45, none, .v (.mv (.t 0))⟩,
                ⟨some 46, none, .v (.mv (.t 4))⟩,
                ⟨some 47, none, .v (.arith .sub .i64 (.t 46) (.c (.int .i64 2)))⟩,
                ⟨some 48, none, .v (.mv (.t 9))⟩,
                ⟨some 49, none, .v (.arith .add .u32 (.t 48) (.c (.int .u32 1)))⟩,
                ⟨some 50, none, .v (.ixS (.c (.str [48, 48, 48, 49, 48, 50, 48, 51, 48, 52, 48, 53, 48, 54, 48, 55, 48, 56, 48, 57, 49, 48, 49, 49, 49, 50, 49, 51, 49, 52, 49, 53, 49, 54, 49, 55, 49, 56, 49, 57, 50, 48, 50, 49, 50, 50, 50, 51, 50, 52, 50, 53, 50, 54, 50, 55, 50, 56, 50, 57, 51, 48, 51, 49, 51, 50, 51, 51, 51, 52, 51, 53, 51, 54, 51, 55, 51, 56, 51, 57, 52, 48, 52, 49, 52, 50, 52, 51, 52, 52, 52, 53, 52, 54, 52, 55, 52, 56, 52, 57, 53, 48, 53, 49, 53, 50, 53, 51, 53, 52, 53, 53, 53, 54, 53, 55, 53, 56, 53, 57, 54, 48, 54, 49, 54, 50, 54, 51, 54, 52, 54, 53, 54, 54, 54, 55, 54, 56, 54, 57, 55, 48, 55, 49, 55, 50, 55, 51, 55, 52, 55, 53, 55, 54, 55, 55, 55, 56, 55, 57, 56, 48, 56, 49, 56, 50, 56, 51, 56, 52, 56, 53, 56, 54, 56, 55, 56, 56, 56, 57, 57, 48, 57, 49, 57, 50, 57, 51, 57, 52, 57, 53, 57, 54, 57, 55, 57, 56, 57, 57])) (.t 49))⟩,
                ⟨some 51, none, .v (.mv (.t 9))⟩,
                ⟨some 52, none, .v (.ixS (.c (.str [48, 48, 48, 49, 48, 50, 48, 51, 48, 52, 48, 53, 48, 54, 48, 55, 48, 56, 48, 57, 49, 48, 49, 49, 49, 50, 49, 51, 49, 52, 49, 53, 49, 54, 49, 55, 49, 56, 49, 57, 50, 48, 50, 49, 50, 50, 50, 51, 50, 52, 50, 53, 50, 54, 50, 55, 50, 56, 50, 57, 51, 48, 51, 49, 51, 50, 51, 51, 51, 52, 51, 53, 51, 54, 51, 55, 51, 56, 51, 57, 52, 48, 52, 49, 52, 50, 52, 51, 52, 52, 52, 53, 52, 54, 52, 55, 52, 56, 52, 57, 53, 48, 53, 49, 53, 50, 53, 51, 53, 52, 53, 53, 53, 54, 53, 55, 53, 56, 53, 57, 54, 48, 54, 49, 54, 50, 54, 51, 54, 52, 54, 53, 54, 54, 54, 55, 54, 56, 54, 57, 55, 48, 55, 49, 55, 50, 55, 51, 55, 52, 55, 53, 55, 54, 55, 55, 55, 56, 55, 57, 56, 48, 56, 49, 56, 50, 56, 51, 56, 52, 56, 53, 56, 54, 56, 55, 56, 56, 56, 57, 57, 48, 57, 49, 57, 50, 57, 51, 57, 52, 57, 53, 57, 54, 57, 55, 57, 56, 57, 57])) (.t 51))⟩,
                ⟨some 53, none, .v (.ia 1 (.t 42) (.t 44))⟩,
                ⟨none, none, .st 1 (.t 53) (.t 50)⟩,
                ⟨some 54, none, .v (.ia 1 (.t 45) (.t 47))⟩,
                ⟨none, none, .st 1 (.t 54) (.t 52)⟩] [0, 1, 4, 8, 10, 11])
              (.seq
               (.reg 0 [
                 ⟨some 55, none, .v (.mv (.t 0))⟩,
                 ⟨some 56, none, .v (.mv (.t 4))⟩,
                 ⟨some 57, none, .v (.arith .sub .i64 (.t 56) (.c (.int .i64 3)))⟩,
                 ⟨some 58, none, .v (.mv (.t 0))⟩,
                 ⟨some 59, none, .v (.mv (.t 4))⟩,
                 ⟨some 60, none, .v (.arith .sub .i64 (.t 59) (.c (.int .i64 4)))⟩,
                 ⟨some 61, none, .v (.mv (.t 8))⟩,
                 ⟨some 62, none, .v (.arith .add .u32 (.t 61) (.c (.int .u32 1)))⟩,
                 ⟨some 63, none, .v (.ixS (.c (.str [48, 48, 48, 49, 48, 50, 48, 51, 48, 52, 48, 53, 48, 54, 48, 55, 48, 56, 48, 57, 49, 48, 49, 49, 49, 50, 49, 51, 49, 52, 49, 53, 49, 54, 49, 55, 49, 56, 49, 57, 50, 48, 50, 49, 50, 50, 50, 51, 50, 52, 50, 53, 50, 54, 50, 55, 50, 56, 50, 57, 51, 48, 51, 49, 51, 50, 51, 51, 51, 52, 51, 53, 51, 54, 51, 55, 51, 56, 51, 57, 52, 48, 52, 49, 52, 50, 52, 51, 52, 52, 52, 53, 52, 54, 52, 55, 52, 56, 52, 57, 53, 48, 53, 49, 53, 50, 53, 51, 53, 52, 53, 53, 53, 54, 53, 55, 53, 56, 53, 57, 54, 48, 54, 49, 54, 50, 54, 51, 54, 52, 54, 53, 54, 54, 54, 55, 54, 56, 54, 57, 55, 48, 55, 49, 55, 50, 55, 51, 55, 52, 55, 53, 55, 54, 55, 55, 55, 56, 55, 57, 56, 48, 56, 49, 56, 50, 56, 51, 56, 52, 56, 53, 56, 54, 56, 55, 56, 56, 56, 57, 57, 48, 57, 49, 57, 50, 57, 51, 57, 52, 57, 53, 57, 54, 57, 55, 57, 56, 57, 57])) (.t 62))⟩,
                 ⟨some 64, none, .v (.mv (.t 8))⟩,
                 ⟨some 65, none, .v (.ixS (.c (.str [48, 48, 48, 49, 48, 50, 48, 51, 48, 52, 48, 53, 48, 54, 48, 55, 48, 56, 48, 57, 49, 48, 49, 49, 49, 50, 49, 51, 49, 52, 49, 53, 49, 54, 49, 55, 49, 56, 49, 57, 50, 48, 50, 49, 50, 50, 50, 51, 50, 52, 50, 53, 50, 54, 50, 55, 50, 56, 50, 57, 51, 48, 51, 49, 51, 50, 51, 51, 51, 52, 51, 53, 51, 54, 51, 55, 51, 56, 51, 57, 52, 48, 52, 49, 52, 50, 52, 51, 52, 52, 52, 53, 52, 54, 52, 55, 52, 56, 52, 57, 53, 48, 53, 49, 53, 50, 53, 51, 53, 52, 53, 53, 53, 54, 53, 55, 53, 56, 53, 57, 54, 48, 54, 49, 54, 50, 54, 51, 54, 52, 54, 53, 54, 54, 54, 55, 54, 56, 54, 57, 55, 48, 55, 49, 55, 50, 55, 51, 55, 52, 55, 53, 55, 54, 55, 55, 55, 56, 55, 57, 56, 48, 56, 49, 56, 50, 56, 51, 56, 52, 56, 53, 56, 54, 56, 55, 56, 56, 56, 57, 57, 48, 57, 49, 57, 50, 57, 51, 57, 52, 57, 53, 57, 54, 57, 55, 57, 56, 57, 57])) (.t 64))⟩,
                 ⟨some 66, none, .v (.ia 1 (.t 55) (.t 57))⟩,
                 ⟨none, none, .st 1 (.t 66) (.t 63)⟩,
                 ⟨some 67, none, .v (.ia 1 (.t 58) (.t 60))⟩,
                 ⟨none, none, .st 1 (.t 67) (.t 65)⟩] [0, 1, 4, 10, 11])
               (.seq
                (.reg 0 [
                  ⟨some 68, none, .v (.mv (.t 0))⟩,
                  ⟨some 69, none, .v (.mv (.t 4))⟩,
                  ⟨some 70, none, .v (.arith .sub .i64 (.t 69) (.c (.int .i64 5)))⟩,
                  ⟨some 71, none, .v (.mv (.t 0))⟩,
                  ⟨some 72, none, .v (.mv (.t 4))⟩,
                  ⟨some 73, none, .v (.arith .sub .i64 (.t 72) (.c (.int .i64 6)))⟩,
                  ⟨some 74, none, .v (.mv (.t 11))⟩,
                  ⟨some 75, none, .v (.arith .add .u32 (.t 74) (.c (.int .u32 1)))⟩,
                  ⟨some 76, none, .v (.ixS (.c (.str [48, 48, 48, 49, 48, 50, 48, 51, 48, 52, 48, 53, 48, 54, 48, 55, 48, 56, 48, 57, 49, 48, 49, 49, 49, 50, 49, 51, 49, 52, 49, 53, 49, 54, 49, 55, 49, 56, 49, 57, 50, 48, 50, 49, 50, 50, 50, 51, 50, 52, 50, 53, 50, 54, 50, 55, 50, 56, 50, 57, 51, 48, 51, 49, 51, 50, 51, 51, 51, 52, 51, 53, 51, 54, 51, 55, 51, 56, 51, 57, 52, 48, 52, 49, 52, 50, 52, 51, 52, 52, 52, 53, 52, 54, 52, 55, 52, 56, 52, 57, 53, 48, 53, 49, 53, 50, 53, 51, 53, 52, 53, 53, 53, 54, 53, 55, 53, 56, 53, 57, 54, 48, 54, 49, 54, 50, 54, 51, 54, 52, 54, 53, 54, 54, 54, 55, 54, 56, 54, 57, 55, 48, 55, 49, 55, 50, 55, 51, 55, 52, 55, 53, 55, 54, 55, 55, 55, 56, 55, 57, 56, 48, 56, 49, 56, 50, 56, 51, 56, 52, 56, 53, 56, 54, 56, 55, 56, 56, 56, 57, 57, 48, 57, 49, 57, 50, 57, 51, 57, 52, 57, 53, 57, 54, 57, 55, 57, 56, 57, 57])) (.t 75))⟩,
                  ⟨some 77, none, .v (.mv (.t 11))⟩,
                  ⟨some 78, none, .v (.ixS (.c (.str [48, 48, 48, 49, 48, 50, 48, 51, 48, 52, 48, 53, 48, 54, 48, 55, 48, 56, 48, 57, 49, 48, 49, 49, 49, 50, 49, 51, 49, 52, 49, 53, 49, 54, 49, 55, 49, 56, 49, 57, 50, 48, 50, 49, 50, 50, 50, 51, 50, 52, 50, 53, 50, 54, 50, 55, 50, 56, 50, 57, 51, 48, 51, 49, 51, 50, 51, 51, 51, 52, 51, 53, 51, 54, 51, 55, 51, 56, 51, 57, 52, 48, 52, 49, 52, 50, 52, 51, 52, 52, 52, 53, 52, 54, 52, 55, 52, 56, 52, 57, 53, 48, 53, 49, 53, 50, 53, 51, 53, 52, 53, 53, 53, 54, 53, 55, 53, 56, 53, 57, 54, 48, 54, 49, 54, 50, 54, 51, 54, 52, 54, 53, 54, 54, 54, 55, 54, 56, 54, 57, 55, 48, 55, 49, 55, 50, 55, 51, 55, 52, 55, 53, 55, 54, 55, 55, 55, 56, 55, 57, 56, 48, 56, 49, 56, 50, 56, 51, 56, 52, 56, 53, 56, 54, 56, 55, 56, 56, 56, 57, 57, 48, 57, 49, 57, 50, 57, 51, 57, 52, 57, 53, 57, 54, 57, 55, 57, 56, 57, 57])) (.t 77))⟩,
                  ⟨some 79, none, .v (.ia 1 (.t 68) (.t 70))⟩,
                  ⟨none, none, .st 1 (.t 79) (.t 76)⟩,
                  ⟨some 80, none, .v (.ia 1 (.t 71) (.t 73))⟩,
                  ⟨none, none, .st 1 (.t 80) (.t 78)⟩] [0, 1, 4, 10])
                (.seq
                 (.reg 0 [
                   ⟨some 81, none, .v (.mv (.t 0))⟩,
                   ⟨some 82, none, .v (.mv (.t 4))⟩,
                   ⟨some 83, none, .v (.arith .sub .i64 (.t 82) (.c (.int .i64 7)))⟩,
                   ⟨some 84, none, .v (.mv (.t 0))⟩,
                   ⟨some 85, none, .v (.mv (.t 4))⟩,
                   ⟨some 86, none, .v (.arith .sub .i64 (.t 85) (.c (.int .i64 8)))⟩,
                   ⟨some 87, none, .v (.mv (.t 10))⟩,
                   ⟨some 88, none, .v (.arith .add .u32 (.t 87) (.c (.int .u32 1)))⟩,
                   ⟨some 89, none, .v (.ixS (.c (.str [48, 48, 48, 49, 48, 50, 48, 51, 48, 52, 48, 53, 48, 54, 48, 55, 48, 56, 48, 57, 49, 48, 49, 49, 49, 50, 49, 51, 49, 52, 49, 53, 49, 54, 49, 55, 49, 56, 49, 57, 50, 48, 50, 49, 50, 50, 50, 51, 50, 52, 50, 53, 50, 54, 50, 55, 50, 56, 50, 57, 51, 48, 51, 49, 51, 50, 51, 51, 51, 52, 51, 53, 51, 54, 51, 55, 51, 56, 51, 57, 52, 48, 52, 49, 52, 50, 52, 51, 52, 52, 52, 53, 52, 54, 52, 55, 52, 56, 52, 57, 53, 48, 53, 49, 53, 50, 53, 51, 53, 52, 53, 53, 53, 54, 53, 55, 53, 56, 53, 57, 54, 48, 54, 49, 54, 50, 54, 51, 54, 52, 54, 53, 54, 54, 54, 55, 54, 56, 54, 57, 55, 48, 55, 49, 55, 50, 55, 51, 55, 52, 55, 53, 55, 54, 55, 55, 55, 56, 55, 57, 56, 48, 56, 49, 56, 50, 56, 51, 56, 52, 56, 53, 56, 54, 56, 55, 56, 56, 56, 57, 57, 48, 57, 49, 57, 50, 57, 51, 57, 52, 57, 53, 57, 54, 57, 55, 57, 56, 57, 57])) (.t 88))⟩,
                   ⟨some 90, none, .v (.mv (.t 10))⟩,
                   ⟨some 91, none, .v (.ixS (.c (.str [48, 48, 48, 49, 48, 50, 48, 51, 48, 52, 48, 53, 48, 54, 48, 55, 48, 56, 48, 57, 49, 48, 49, 49, 49, 50, 49, 51, 49, 52, 49, 53, 49, 54, 49, 55, 49, 56, 49, 57, 50, 48, 50, 49, 50, 50, 50, 51, 50, 52, 50, 53, 50, 54, 50, 55, 50, 56, 50, 57, 51, 48, 51, 49, 51, 50, 51, 51, 51, 52, 51, 53, 51, 54, 51, 55, 51, 56, 51, 57, 52, 48, 52, 49, 52, 50, 52, 51, 52, 52, 52, 53, 52, 54, 52, 55, 52, 56, 52, 57, 53, 48, 53, 49, 53, 50, 53, 51, 53, 52, 53, 53, 53, 54, 53, 55, 53, 56, 53, 57, 54, 48, 54, 49, 54, 50, 54, 51, 54, 52, 54, 53, 54, 54, 54, 55, 54, 56, 54, 57, 55, 48, 55, 49, 55, 50, 55, 51, 55, 52, 55, 53, 55, 54, 55, 55, 55, 56, 55, 57, 56, 48, 56, 49, 56, 50, 56, 51, 56, 52, 56, 53, 56, 54, 56, 55, 56, 56, 56, 57, 57, 48, 57, 49, 57, 50, 57, 51, 57, 52, 57, 53, 57, 54, 57, 55, 57, 56, 57, 57])) (.t 90))⟩,
                   ⟨some 92, none, .v (.ia 1 (.t 81) (.t 83))⟩,
                   ⟨none, none, .st 1 (.t 92) (.t 89)⟩,
                   ⟨some 93, none, .v (.ia 1 (.t 84) (.t 86))⟩,
                   ⟨none, none, .st 1 (.t 93) (.t 91)⟩] [0, 1, 4])
                 (.reg 0 [
                   ⟨some 94, none, .v (.mv (.t 4))⟩,
                   ⟨some 95, none, .v (.arith .sub .i64 (.t 94) (.c (.int .i64 8)))⟩,
                   ⟨some 4, none, .v (.mv (.t 95))⟩] [0, 1, 4]))))))))))))))
    (.seq
     (.reg 0 [
       ⟨some 96, none, .v (.mv (.t 1))⟩,
       ⟨some 97, none, .v (.conv .u32 (.t 96))⟩,
       ⟨some 12, none, .v (.mv (.t 97))⟩] [0, 4, 12])
     (.seq
      (.seq
       (.reg 0 [
         ⟨some 98, none, .v (.mv (.t 4))⟩,
         ⟨some 99, none, .v (.icmp .geq .i64 (.t 98) (.c (.int .i64 4)))⟩] [0, 4, 12, 99])
       (.cond (.t 99)
        (.seq
         (.reg 0 [
           ⟨some 100, none, .v (.mv (.t 12))⟩,
           ⟨some 101, none, .v (.arith .rem .u32 (.t 100) (.c (.int .u32 10000)))⟩,
           ⟨some 13, none, .v (.mv (.t 101))⟩] [0, 4, 12, 13])
         (.seq
          (.reg 0 [
            ⟨some 102, none, .v (.mv (.t 12))⟩,
            ⟨some 103, none, .v (.arith .quo .u32 (.t 102) (.c (.int .u32 10000)))⟩,
            ⟨some 12, none, .v (.mv (.t 103))⟩] [0, 4, 12, 13])
          (.seq
           (.reg 0 [
             ⟨some 104, none, .v (.mv (.t 13))⟩,
             ⟨some 105, none, .v (.arith .quo .u32 (.t 104) (.c (.int .u32 100)))⟩,
             ⟨some 106, none, .v (.arith .mul .u32 (.t 105) (.c (.int .u32 2)))⟩,
             ⟨some 107, none, .v (.mv (.t 13))⟩,
             ⟨some 108, none, .v (.arith .rem .u32 (.t 107) (.c (.int .u32 100)))⟩,
             ⟨some 109, none, .v (.arith .mul .u32 (.t 108) (.c (.int .u32 2)))⟩,
             ⟨some 14, none, .v (.mv (.t 106))⟩,
             ⟨some 15, none, .v (.mv (.t 109))⟩] [0, 4, 12, 14, 15])
           (.seq
            (.reg 0 [
              ⟨some 110, none, .v (.mv (.t 0))⟩,
              ⟨some 111, none, .v (.mv (.t 4))⟩,
              ⟨some 112, none, .v (.arith .sub .i64 (.t 111) (.c (.int .i64 1)))⟩,
              ⟨some 113, none, .v (.mv (.t 0))⟩,
              ⟨some 114, none, .v (.mv (.t 4))⟩,
              ⟨some 115, none, .v (.arith .sub .i64 (.t 114) (.c (.int .i64 2)))⟩,
              ⟨some 116, none, .v (.mv (.t 15))⟩,
              ⟨some 117, none, .v (.arith .add .u32 (.t 116) (.c (.int .u32 1)))⟩,
              ⟨some 118, none, .v (.ixS (.c (.str [48, 48, 48, 49, 48, 50, 48, 51, 48, 52, 48, 53, 48, 54, 48, 55, 48, 56, 48, 57, 49, 48, 49, 49, 49, 50, 49, 51, 49, 52, 49, 53, 49, 54, 49, 55, 49, 56, 49, 57, 50, 48, 50, 49, 50, 50, 50, 51, 50, 52, 50, 53, 50, 54, 50, 55, 50, 56, 50, 57, 51, 48, 51, 49, 51, 50, 51, 51, 51, 52, 51, 53, 51, 54, 51, 55, 51, 56, 51, 57, 52, 48, 52, 49, 52, 50, 52, 51, 52, 52, 52, 53, 52, 54, 52, 55, 52, 56, 52, 57, 53, 48, 53, 49, 53, 50, 53, 51, 53, 52, 53, 53, 53, 54, 53, 55, 53, 56, 53, 57, 54, 48, 54, 49, 54, 50, 54, 51, 54, 52, 54, 53, 54, 54, 54, 55, 54, 56, 54, 57, 55, 48, 55, 49, 55, 50, 55, 51, 55, 52, 55, 53, 55, 54, 55, 55, 55, 56, 55, 57, 56, 48, 56, 49, 56, 50, 56, 51, 56, 52, 56, 53, 56, 54, 56, 55, 56, 56, 56, 57, 57, 48, 57, 49, 57, 50, 57, 51, 57, 52, 57, 53, 57, 54, 57, 55, 57, 56, 57, 57])) (.t 117))⟩,
              ⟨some 119, none, .v (.mv (.t 15))⟩,
              ⟨some 120, none, .v (.ixS (.c (.str [48, 48, 48, 49, 48, 50, 48, 51, 48, 52, 48, 53, 48, 54, 48, 55, 48, 56, 48, 57, 49, 48, 49, 49, 49, 50, 49, 51, 49, 52, 49, 53, 49, 54, 49, 55, 49, 56, 49, 57, 50, 48, 50, 49, 50, 50, 50, 51, 50, 52, 50, 53, 50, 54, 50, 55, 50, 56, 50, 57, 51, 48, 51, 49, 51, 50, 51, 51, 51, 52, 51, 53, 51, 54, 51, 55, 51, 56, 51, 57, 52, 48, 52, 49, 52, 50, 52, 51, 52, 52, 52, 53, 52, 54, 52, 55, 52, 56, 52, 57, 53, 48, 53, 49, 53, 50, 53, 51, 53, 52, 53, 53, 53, 54, 53, 55, 53, 56, 53, 57, 54, 48, 54, 49, 54, 50, 54, 51, 54, 52, 54, 53, 54, 54, 54, 55, 54, 56, 54, 57, 55, 48, 55, 49, 55, 50, 55, 51, 55, 52, 55, 53, 55, 54, 55, 55, 55, 56, 55, 57, 56, 48, 56, 49, 56, 50, 56, 51, 56, 52, 56, 53, 56, 54, 56, 55, 56, 56, 56, 57, 57, 48, 57, 49, 57, 50, 57, 51, 57, 52, 57, 53, 57, 54, 57, 55, 57, 56, 57, 57])) (.t 119))⟩,
              ⟨some 121, none, .v (.ia 1 (.t 110) (.t 112))⟩,
              ⟨none, none, .st 1 (.t 121) (.t 118)⟩,
              ⟨some 122, none, .v (.ia 1 (.t 113) (.t 115))⟩,
              ⟨none, none, .st 1 (.t 122) (.t 120)⟩] [0, 4, 12, 14])
            (.seq
             (.reg 0 [
               ⟨some 123, none, .v (.mv (.t 0))⟩,
               ⟨some 124, none, .v (.mv (.t 4))⟩,
               ⟨some 125, none, .v (.arith .sub .i64 (.t 124) (.c (.int .i64 3)))⟩,
               ⟨some 126, none, .v (.mv (.t 0))⟩,
               ⟨some 127, none, .v (.mv (.t 4))⟩,
               ⟨some 128, none, .v (.arith .sub .i64 (.t 127) (.c (.int .i64 4)))⟩,
               ⟨some 129, none, .v (.mv (.t 14))⟩,
               ⟨some 130, none, .v (.arith .add .u32 (.t 129) (.c (.int .u32 1)))⟩,
               ⟨some 131, none, .v (.ixS (.c (.str [48, 48, 48, 49, 48, 50, 48, 51, 48, 52, 48, 53, 48, 54, 48, 55, 48, 56, 48, 57, 49, 48, 49, 49, 49, 50, 49, 51, 49, 52, 49, 53, 49, 54, 49, 55, 49, 56, 49, 57, 50, 48, 50, 49, 50, 50, 50, 51, 50, 52, 50, 53, 50, 54, 50, 55, 50, 56, 50, 57, 51, 48, 51, 49, 51, 50, 51, 51, 51, 52, 51, 53, 51, 54, 51, 55, 51, 56, 51, 57, 52, 48, 52, 49, 52, 50, 52, 51, 52, 52, 52, 53, 52, 54, 52, 55, 52, 56, 52, 57, 53, 48, 53, 49, 53, 50, 53, 51, 53, 52, 53, 53, 53, 54, 53, 55, 53, 56, 53, 57, 54, 48, 54, 49, 54, 50, 54, 51, 54, 52, 54, 53, 54, 54, 54, 55, 54, 56, 54, 57, 55, 48, 55, 49, 55, 50, 55, 51, 55, 52, 55, 53, 55, 54, 55, 55, 55, 56, 55, 57, 56, 48, 56, 49, 56, 50, 56, 51, 56, 52, 56, 53, 56, 54, 56, 55, 56, 56, 56, 57, 57, 48, 57, 49, 57, 50, 57, 51, 57, 52, 57, 53, 57, 54, 57, 55, 57, 56, 57, 57])) (.t 130))⟩,
               ⟨some 132, none, .v (.mv (.t 14))⟩,
               ⟨some 133, none, .v (.ixS (.c (.str [48, 48, 48, 49, 48, 50, 48, 51, 48, 52, 48, 53, 48, 54, 48, 55, 48, 56, 48, 57, 49, 48, 49, 49, 49, 50, 49, 51, 49, 52, 49, 53, 49, 54, 49, 55, 49, 56, 49, 57, 50, 48, 50, 49, 50, 50, 50, 51, 50, 52, 50, 53, 50, 54, 50, 55, 50, 56, 50, 57, 51, 48, 51, 49, 51, 50, 51, 51, 51, 52, 51, 53, 51, 54, 51, 55, 51, 56, 51, 57, 52, 48, 52, 49, 52, 50, 52, 51, 52, 52, 52, 53, 52, 54, 52, 55, 52, 56, 52, 57, 53, 48, 53, 49, 53, 50, 53, 51, 53, 52, 53, 53, 53, 54, 53, 55, 53, 56, 53, 57, 54, 48, 54, 49, 54, 50, 54, 51, 54, 52, 54, 53, 54, 54, 54, 55, 54, 56, 54, 57, 55, 48, 55, 49, 55, 50, 55, 51, 55, 52, 55, 53, 55, 54, 55, 55, 55, 56, 55, 57, 56, 48, 56, 49, 56, 50, 56, 51, 56, 52, 56, 53, 56, 54, 56, 55, 56, 56, 56, 57, 57, 48, 57, 49, 57, 50, 57, 51, 57, 52, 57, 53, 57, 54, 57, 55, 57, 56, 57, 57])) (.t 132))⟩,
               ⟨some 134, none, .v (.ia 1 (.t 123) (.t 125))⟩,
               ⟨none, none, .st 1 (.t 134) (.t 131)⟩,
               ⟨some 135, none, .v (.ia 1 (.t 126) (.t 128))⟩,
               ⟨none, none, .st 1 (.t 135) (.t 133)⟩] [0, 4, 12])
             (.reg 0 [
               ⟨some 136, none, .v (.mv (.t 4))⟩,
               ⟨some 137, none, .v (.arith .sub .i64 (.t 136) (.c (.int .i64 4)))⟩,
               ⟨some 4, none, .v (.mv (.t 137))⟩] [0, 4, 12]))))))
        .skip))
      (.seq
       (.seq
        (.reg 0 [
          ⟨some 138, none, .v (.mv (.t 4))⟩,
          ⟨some 139, none, .v (.icmp .geq .i64 (.t 138) (.c (.int .i64 2)))⟩] [0, 4, 12, 139])
        (.cond (.t 139)
         (.seq
          (.reg 0 [
            ⟨some 140, none, .v (.mv (.t 12))⟩,
            ⟨some 141, none, .v (.arith .rem .u32 (.t 140) (.c (.int .u32 100)))⟩,
            ⟨some 142, none, .v (.arith .mul .u32 (.t 141) (.c (.int .u32 2)))⟩,
            ⟨some 16, none, .v (.mv (.t 142))⟩] [0, 4, 12, 16])
          (.seq
           (.reg 0 [
             ⟨some 143, none, .v (.mv (.t 12))⟩,
             ⟨some 144, none, .v (.arith .quo .u32 (.t 143) (.c (.int .u32 100)))⟩,
             ⟨some 12, none, .v (.mv (.t 144))⟩] [0, 4, 12, 16])
           (.seq
            (.reg 0 [
              ⟨some 145, none, .v (.mv (.t 0))⟩,
              ⟨some 146, none, .v (.mv (.t 4))⟩,
              ⟨some 147, none, .v (.arith .sub .i64 (.t 146) (.c (.int .i64 1)))⟩,
              ⟨some 148, none, .v (.mv (.t 0))⟩,
              ⟨some 149, none, .v (.mv (.t 4))⟩,
              ⟨some 150, none, .v (.arith .sub .i64 (.t 149) (.c (.int .i64 2)))⟩,
              ⟨some 151, none, .v (.mv (.t 16))⟩,
              ⟨some 152, none, .v (.arith .add .u32 (.t 151) (.c (.int .u32 1)))⟩,
              ⟨some 153, none, .v (.ixS (.c (.str [48, 48, 48, 49, 48, 50, 48, 51, 48, 52, 48, 53, 48, 54, 48, 55, 48, 56, 48, 57, 49, 48, 49, 49, 49, 50, 49, 51, 49, 52, 49, 53, 49, 54, 49, 55, 49, 56, 49, 57, 50, 48, 50, 49, 50, 50, 50, 51, 50, 52, 50, 53, 50, 54, 50, 55, 50, 56, 50, 57, 51, 48, 51, 49, 51, 50, 51, 51, 51, 52, 51, 53, 51, 54, 51, 55, 51, 56, 51, 57, 52, 48, 52, 49, 52, 50, 52, 51, 52, 52, 52, 53, 52, 54, 52, 55, 52, 56, 52, 57, 53, 48, 53, 49, 53, 50, 53, 51, 53, 52, 53, 53, 53, 54, 53, 55, 53, 56, 53, 57, 54, 48, 54, 49, 54, 50, 54, 51, 54, 52, 54, 53, 54, 54, 54, 55, 54, 56, 54, 57, 55, 48, 55, 49, 55, 50, 55, 51, 55, 52, 55, 53, 55, 54, 55, 55, 55, 56, 55, 57, 56, 48, 56, 49, 56, 50, 56, 51, 56, 52, 56, 53, 56, 54, 56, 55, 56, 56, 56, 57, 57, 48, 57, 49, 57, 50, 57, 51, 57, 52, 57, 53, 57, 54, 57, 55, 57, 56, 57, 57])) (.t 152))⟩,
              ⟨some 154, none, .v (.mv (.t 16))⟩,
              ⟨some 155, none, .v (.ixS (.c (.str [48, 48, 48, 49, 48, 50, 48, 51, 48, 52, 48, 53, 48, 54, 48, 55, 48, 56, 48, 57, 49, 48, 49, 49, 49, 50, 49, 51, 49, 52, 49, 53, 49, 54, 49, 55, 49, 56, 49, 57, 50, 48, 50, 49, 50, 50, 50, 51, 50, 52, 50, 53, 50, 54, 50, 55, 50, 56, 50, 57, 51, 48, 51, 49, 51, 50, 51, 51, 51, 52, 51, 53, 51, 54, 51, 55, 51, 56, 51, 57, 52, 48, 52, 49, 52, 50, 52, 51, 52, 52, 52, 53, 52, 54, 52, 55, 52, 56, 52, 57, 53, 48, 53, 49, 53, 50, 53, 51, 53, 52, 53, 53, 53, 54, 53, 55, 53, 56, 53, 57, 54, 48, 54, 49, 54, 50, 54, 51, 54, 52, 54, 53, 54, 54, 54, 55, 54, 56, 54, 57, 55, 48, 55, 49, 55, 50, 55, 51, 55, 52, 55, 53, 55, 54, 55, 55, 55, 56, 55, 57, 56, 48, 56, 49, 56, 50, 56, 51, 56, 52, 56, 53, 56, 54, 56, 55, 56, 56, 56, 57, 57, 48, 57, 49, 57, 50, 57, 51, 57, 52, 57, 53, 57, 54, 57, 55, 57, 56, 57, 57])) (.t 154))⟩,
              ⟨some 156, none, .v (.ia 1 (.t 145) (.t 147))⟩,
              ⟨none, none, .st 1 (.t 156) (.t 153)⟩,
              ⟨some 157, none, .v (.ia 1 (.t 148) (.t 150))⟩,
              ⟨none, none, .st 1 (.t 157) (.t 155)⟩] [0, 4, 12])
            (.reg 0 [
              ⟨some 158, none, .v (.mv (.t 4))⟩,
              ⟨some 159, none, .v (.arith .sub .i64 (.t 158) (.c (.int .i64 2)))⟩,
              ⟨some 4, none, .v (.mv (.t 159))⟩] [0, 4, 12]))))
         .skip))
       (.seq
        (.reg 0 [
          ⟨some 160, none, .v (.mv (.t 4))⟩,
          ⟨some 161, none, .v (.icmp .gtr .i64 (.t 160) (.c (.int .i64 0)))⟩] [0, 12, 161])
        (.cond (.t 161)
         (.reg 0 [
           ⟨some 162, none, .v (.mv (.t 0))⟩,
           ⟨some 163, none, .v (.mv (.t 12))⟩,
           ⟨some 164, none, .v (.arith .add .u32 (.c (.int .u32 48)) (.t 163))⟩,
           ⟨some 165, none, .v (.conv .u8 (.t 164))⟩,
           ⟨some 166, none, .v (.ia 1 (.t 162) (.c (.int .i64 0)))⟩,
           ⟨none, none, .st 1 (.t 166) (.t 165)⟩] [])
         .skip)))))))
theorem l49 : Callable Tryd.prog 49 := ⟨Tryd.f49, by kernel_rfl, by kernel_rfl, by kernel_rfl⟩
theorem a49 {args : List AVal} {H : AHeap} {n : Nat} {R : AOut → AHeap → Nat → Prop} (h : awp Tryd.prog c49 (postC [] R) ⟨penv 0 args, H, n⟩) : ACalls Tryd.prog 49 args H n R :=
  acalls_of_awp' (fn := Tryd.f49) (c := Tryd.f49.body.getD .skip) (ac := c49) (fz := []) (im := []) (kp := kp49) (rs := []) (by kernel_rfl) (by kernel_rfl) (by kernel_rfl) (by kernel_rfl) (by kernel_rfl) h

/-- internal/strconv.formatBits -/
def kp50 (r : Nat) : List Nat := match r with
  | 0 => [0, 1, 2, 3, 4, 10, 11]
  | 1 => [0, 1, 2, 3, 4, 10, 11, 28]
  | 2 => [0, 1, 2, 3, 4, 10, 11]
  | 3 => [0, 1, 2, 3, 4, 10, 11, 12]
  | 4 => [0, 1, 2, 3, 4, 10, 11, 12, 13]
  | 5 => [0, 1, 2, 3, 4, 10, 11, 12, 13, 30]
  | 6 => [0, 1, 2, 3, 4, 10, 11, 12, 13]
  | 7 => [0, 1, 2, 3, 4, 10, 11, 12, 13, 34]
  | 8 => [0, 1, 2, 3, 4, 10, 11, 12, 13, 14]
  | 9 => [0, 1, 2, 3, 4, 10, 11, 12, 13, 14, 15]
  | 10 => [0, 1, 3, 4, 10, 11, 12, 13, 14, 15, 16]
  | 11 => [0, 1, 3, 4, 10, 11, 12, 13, 14, 15, 16, 46]
  | 12 => [0, 1, 3, 4, 10, 11, 12, 13, 14, 15, 16]
  | 13 => [0, 1, 3, 4, 10, 11, 12, 13, 14, 15, 16]
  | 14 => [0, 1, 3, 4, 10, 11, 12, 13, 14, 15, 16]
  | 15 => [0, 1, 3, 4, 10, 11, 12, 13]
  | 16 => [0, 3, 4, 10, 11, 12, 13]
  | 17 => [0, 1, 3, 4, 10, 11, 12, 13, 17]
  | 18 => [0, 1, 3, 4, 10, 11, 12, 13, 17, 68]
  | 19 => [0, 1, 3, 4, 10, 11, 12, 13, 17]
  | 20 => [0, 1, 3, 4, 10, 11, 12, 13, 17, 18]
  | 21 => [0, 3, 4, 10, 11, 12, 13, 17, 18]
  | 22 => [0, 1, 3, 4, 10, 11, 12, 13, 17]
  | 23 => [0, 1, 3, 4, 10, 11, 12, 13]
  | 24 => [0, 3, 4, 10, 11, 12, 13]
  | 25 => [0, 4, 10, 11, 12, 13, 89]
  | 26 => [0, 4, 10, 11, 12, 13]
  | 27 => [0, 4, 10, 11, 12, 13]
  | 28 => [0, 10, 11, 12, 13, 94]
  | 29 => [10, 11]
  | 30 => [10, 11]
  | _ => []
def c50 : ACode :=
  (.seq
   (.reg 0 [
     ⟨some 10, none, .v (.mv (.c (.sl .nil [])))⟩,
     ⟨some 11, none, .v (.mv (.c (.str [])))⟩] [0, 1, 2, 3, 4, 10, 11])
   (.seq
    (.seq
     (.reg 0 [
       ⟨some 19, none, .v (.mv (.t 2))⟩,
       ⟨some 20, none, .v (.icmp .lss .i64 (.t 19) (.c (.int .i64 2)))⟩,
       ⟨some 21, none, .v (.mv (.t 20))⟩,
       ⟨some 22, some (21, false), .v (.mv (.t 2))⟩,
       ⟨some 23, some (21, false), .v (.icmp .eql .i64 (.t 22) (.c (.int .i64 10)))⟩,
       ⟨some 24, none, .pick (.t 21) (.c (.bool true)) (.t 23)⟩,
       ⟨some 25, none, .v (.mv (.t 24))⟩,
       ⟨some 26, some (25, false), .v (.mv (.t 2))⟩,
       ⟨some 27, some (25, false), .v (.icmp .gtr .i64 (.t 26) (.c (.int .i64 36)))⟩,
       ⟨some 28, none, .pick (.t 25) (.c (.bool true)) (.t 27)⟩] [0, 1, 2, 3, 4, 10, 11, 28])
     (.cond (.t 28)
      (.reg 0 [
        ⟨some 29, none, .v (.ifc 9 (.c (.str [115, 116, 114, 99, 111, 110, 118, 58, 32, 105, 108, 108, 101, 103, 97, 108, 32, 65, 112, 112, 101, 110, 100, 73, 110, 116, 47, 70, 111, 114, 109, 97, 116, 73, 110, 116, 32, 98, 97, 115, 101])))⟩,
        ⟨none, none, .pan (.t 29)⟩] [0, 1, 2, 3, 4, 10, 11])
      .skip))
    (.seq
     (.reg 1 [
       ⟨some 12, none, .alloc 0 [(.int .u8 0), (.int .u8 0), (.int .u8 0), (.int .u8 0), (.int .u8 0), (.int .u8 0), (.int .u8 0), (.int .u8 0), (.int .u8 0), (.int .u8 0), (.int .u8 0), (.int .u8 0), (.int .u8 0), (.int .u8 0), (.int .u8 0), (.int .u8 0), (.int .u8 0), (.int .u8 0), (.int .u8 0), (.int .u8 0), (.int .u8 0), (.int .u8 0), (.int .u8 0), (.int .u8 0), (.int .u8 0), (.int .u8 0), (.int .u8 0), (.int .u8 0), (.int .u8 0), (.int .u8 0), (.int .u8 0), (.int .u8 0), (.int .u8 0), (.int .u8 0), (.int .u8 0), (.int .u8 0), (.int .u8 0), (.int .u8 0), (.int .u8 0), (.int .u8 0), (.int .u8 0), (.int .u8 0), (.int .u8 0), (.int .u8 0), (.int .u8 0), (.int .u8 0), (.int .u8 0), (.int .u8 0), (.int .u8 0), (.int .u8 0), (.int .u8 0), (.int .u8 0), (.int .u8 0), (.int .u8 0), (.int .u8 0), (.int .u8 0), (.int .u8 0), (.int .u8 0), (.int .u8 0), (.int .u8 0), (.int .u8 0), (.int .u8 0), (.int .u8 0), (.int .u8 0), (.int .u8 0)]⟩] [0, 1, 2, 3, 4, 10, 11, 12])
     (.seq
      (.reg 0 [
        ⟨some 13, none, .v (.mv (.c (.int .i64 65)))⟩] [0, 1, 2, 3, 4, 10, 11, 12, 13])
      (.seq
       (.seq
        (.reg 0 [
          ⟨some 30, none, .v (.mv (.t 3))⟩] [0, 1, 2, 3, 4, 10, 11, 12, 13, 30])
        (.cond (.t 30)
         (.reg 0 [
           ⟨some 31, none, .v (.mv (.t 1))⟩,
           ⟨some 32, none, .v (.neg .u64 (.t 31))⟩,
           ⟨some 1, none, .v (.mv (.t 32))⟩] [0, 1, 2, 3, 4, 10, 11, 12, 13])
         .skip))
       (.seq
        (.seq
         (.reg 0 [
           ⟨some 33, none, .v (.mv (.t 2))⟩,
           ⟨some 34, none, .call true (.c (.fn (.func 55) [] [])) [(.t 33)]⟩] [0, 1, 2, 3, 4, 10, 11, 12, 13, 34])
         (.cond (.t 34)
          (.seq
           (.reg 0 [
             ⟨some 35, none, .v (.mv (.t 2))⟩,
             ⟨some 36, none, .v (.conv .u64 (.t 35))⟩,
             ⟨some 37, none, .call true (.c (.fn (.func 56) [] [])) [(.t 36)]⟩,
             ⟨some 38, none, .v (.conv .u64 (.t 37))⟩,
             ⟨some 14, none, .v (.mv (.t 38))⟩] [0, 1, 2, 3, 4, 10, 11, 12, 13, 14])
           (.seq
            (.reg 0 [
              ⟨some 39, none, .v (.mv (.t 2))⟩,
              ⟨some 40, none, .v (.conv .u64 (.t 39))⟩,
              ⟨some 15, none, .v (.mv (.t 40))⟩] [0, 1, 2, 3, 4, 10, 11, 12, 13, 14, 15])
            (.seq
             (.reg 0 [
               ⟨some 41, none, .v (.mv (.t 2))⟩,
               ⟨some 42, none, .v (.conv .u64 (.t 41))⟩,
               ⟨some 43, none, .v (.arith .sub .u64 (.t 42) (.c (.int .u64 1)))⟩,
               ⟨some 16, none, .v (.mv (.t 43))⟩] [0, 1, 3, 4, 10, 11, 12, 13, 14, 15, 16])
             (.seq
              (.block 0
               (.loop
                (.seq
                 (.seq
                  (.reg 0 [
                    ⟨some 44, none, .v (.mv (.t 1))⟩,
                    ⟨some 45, none, .v (.mv (.t 15))⟩,
                    ⟨some 46, none, .v (.icmp .geq .u64 (.t 44) (.t 45))⟩] [0, 1, 3, 4, 10, 11, 12, 13, 14, 15, 16, 46])
                  (.cond (.t 46)
                   .skip
                   (.exit 0)))
                 (.block 1
                  (.seq
                   (.reg 0 [
                     ⟨some 47, none, .v (.mv (.t 13))⟩,
                     ⟨some 48, none, .v (.arith .sub .i64 (.t 47) (.c (.int .i64 1)))⟩,
                     ⟨some 13, none, .v (.mv (.t 48))⟩] [0, 1, 3, 4, 10, 11, 12, 13, 14, 15, 16])
                   (.seq
                    (.reg 0 [
                      ⟨some 49, none, .v (.mv (.t 13))⟩,
                      ⟨some 50, none, .v (.mv (.t 1))⟩,
                      ⟨some 51, none, .v (.mv (.t 16))⟩,
                      ⟨some 52, none, .v (.arith .and .u64 (.t 50) (.t 51))⟩,
                      ⟨some 53, none, .v (.ixS (.c (.str [48, 49, 50, 51, 52, 53, 54, 55, 56, 57, 97, 98, 99, 100, 101, 102, 103, 104, 105, 106, 107, 108, 109, 110, 111, 112, 113, 114, 115, 116, 117, 118, 119, 120, 121, 122])) (.t 52))⟩,
                      ⟨some 54, none, .v (.iaA 65 1 (.t 12) (.t 49))⟩,
                      ⟨none, none, .st 1 (.t 54) (.t 53)⟩] [0, 1, 3, 4, 10, 11, 12, 13, 14, 15, 16])
                    (.reg 0 [
                      ⟨some 55, none, .v (.mv (.t 1))⟩,
                      ⟨some 56, none, .v (.mv (.t 14))⟩,
                      ⟨some 57, none, .v (.shift .shr .u64 .u64 (.t 55) (.t 56))⟩,
                      ⟨some 1, none, .v (.mv (.t 57))⟩] [0, 1, 3, 4, 10, 11, 12, 13, 14, 15, 16])))))))
              (.seq
               (.reg 0 [
                 ⟨some 58, none, .v (.mv (.t 13))⟩,
                 ⟨some 59, none, .v (.arith .sub .i64 (.t 58) (.c (.int .i64 1)))⟩,
                 ⟨some 13, none, .v (.mv (.t 59))⟩] [0, 1, 3, 4, 10, 11, 12, 13])
               (.reg 0 [
                 ⟨some 60, none, .v (.mv (.t 13))⟩,
                 ⟨some 61, none, .v (.mv (.t 1))⟩,
                 ⟨some 62, none, .v (.ixS (.c (.str [48, 49, 50, 51, 52, 53, 54, 55, 56, 57, 97, 98, 99, 100, 101, 102, 103, 104, 105, 106, 107, 108, 109, 110, 111, 112, 113, 114, 115, 116, 117, 118, 119, 120, 121, 122])) (.t 61))⟩,
                 ⟨some 63, none, .v (.iaA 65 1 (.t 12) (.t 60))⟩,
                 ⟨none, none, .st 1 (.t 63) (.t 62)⟩] [0, 3, 4, 10, 11, 12, 13]))))))
          (.seq
           (.reg 0 [
             ⟨some 64, none, .v (.mv (.t 2))⟩,
             ⟨some 65, none, .v (.conv .u64 (.t 64))⟩,
             ⟨some 17, none, .v (.mv (.t 65))⟩] [0, 1, 3, 4, 10, 11, 12, 13, 17])
           (.seq
            (.block 2
             (.loop
              (.seq
               (.seq
                (.reg 0 [
                  ⟨some 66, none, .v (.mv (.t 1))⟩,
                  ⟨some 67, none, .v (.mv (.t 17))⟩,
                  ⟨some 68, none, .v (.icmp .geq .u64 (.t 66) (.t 67))⟩] [0, 1, 3, 4, 10, 11, 12, 13, 17, 68])
                (.cond (.t 68)
                 .skip
                 (.exit 2)))
               (.block 3
                (.seq
                 (.reg 0 [
                   ⟨some 69, none, .v (.mv (.t 13))⟩,
                   ⟨some 70, none, .v (.arith .sub .i64 (.t 69) (.c (.int .i64 1)))⟩,
                   ⟨some 13, none, .v (.mv (.t 70))⟩] [0, 1, 3, 4, 10, 11, 12, 13, 17])
                 (.seq
                  (.reg 0 [
                    ⟨some 71, none, .v (.mv (.t 1))⟩,
                    ⟨some 72, none, .v (.mv (.t 17))⟩,
                    ⟨some 73, none, .v (.arith .quo .u64 (.t 71) (.t 72))⟩,
                    ⟨some 18, none, .v (.mv (.t 73))⟩] [0, 1, 3, 4, 10, 11, 12, 13, 17, 18])
                  (.seq
                   (.reg 0 [
                     ⟨some 74, none, .v (.mv (.t 13))⟩,
                     ⟨some 75, none, .v (.mv (.t 1))⟩,
                     ⟨some 76, none, .v (.mv (.t 18))⟩,
                     ⟨some 77, none, .v (.mv (.t 17))⟩,
                     ⟨some 78, none, .v (.arith .mul .u64 (.t 76) (.t 77))⟩,
                     ⟨some 79, none, .v (.arith .sub .u64 (.t 75) (.t 78))⟩,
                     ⟨some 80, none, .v (.ixS (.c (.str [48, 49, 50, 51, 52, 53, 54, 55, 56, 57, 97, 98, 99, 100, 101, 102, 103, 104, 105, 106, 107, 108, 109, 110, 111, 112, 113, 114, 115, 116, 117, 118, 119, 120, 121, 122])) (.t 79))⟩,
                     ⟨some 81, none, .v (.iaA 65 1 (.t 12) (.t 74))⟩,
                     ⟨none, none, .st 1 (.t 81) (.t 80)⟩] [0, 3, 4, 10, 11, 12, 13, 17, 18])
                   (.reg 0 [
                     ⟨some 82, none, .v (.mv (.t 18))⟩,
                     ⟨some 1, none, .v (.mv (.t 82))⟩] [0, 1, 3, 4, 10, 11, 12, 13, 17]))))))))
            (.seq
             (.reg 0 [
               ⟨some 83, none, .v (.mv (.t 13))⟩,
               ⟨some 84, none, .v (.arith .sub .i64 (.t 83) (.c (.int .i64 1)))⟩,
               ⟨some 13, none, .v (.mv (.t 84))⟩] [0, 1, 3, 4, 10, 11, 12, 13])
             (.reg 0 [
               ⟨some 85, none, .v (.mv (.t 13))⟩,
               ⟨some 86, none, .v (.mv (.t 1))⟩,
               ⟨some 87, none, .v (.ixS (.c (.str [48, 49, 50, 51, 52, 53, 54, 55, 56, 57, 97, 98, 99, 100, 101, 102, 103, 104, 105, 106, 107, 108, 109, 110, 111, 112, 113, 114, 115, 116, 117, 118, 119, 120, 121, 122])) (.t 86))⟩,
               ⟨some 88, none, .v (.iaA 65 1 (.t 12) (.t 85))⟩,
               ⟨none, none, .st 1 (.t 88) (.t 87)⟩] [0, 3, 4, 10, 11, 12, 13]))))))
        (.seq
         (.seq
          (.reg 0 [
            ⟨some 89, none, .v (.mv (.t 3))⟩] [0, 4, 10, 11, 12, 13, 89])
          (.cond (.t 89)
           (.seq
            (.reg 0 [
              ⟨some 90, none, .v (.mv (.t 13))⟩,
              ⟨some 91, none, .v (.arith .sub .i64 (.t 90) (.c (.int .i64 1)))⟩,
              ⟨some 13, none, .v (.mv (.t 91))⟩] [0, 4, 10, 11, 12, 13])
            (.reg 0 [
              ⟨some 92, none, .v (.mv (.t 13))⟩,
              ⟨some 93, none, .v (.iaA 65 1 (.t 12) (.t 92))⟩,
              ⟨none, none, .st 1 (.t 93) (.c (.int .u8 45))⟩] [0, 4, 10, 11, 12, 13]))
           .skip))
         (.seq
          (.seq
           (.reg 0 [
             ⟨some 94, none, .v (.mv (.t 4))⟩] [0, 10, 11, 12, 13, 94])
           (.cond (.t 94)
            (.seq
             (.reg 5 [
               ⟨some 95, none, .v (.mv (.t 0))⟩,
               ⟨some 96, none, .v (.mv (.t 13))⟩,
               ⟨some 97, none, .slA 65 (.t 12) (some (.t 96)) none⟩,
               ⟨some 98, none, .app 3 1 1 (.t 95) (.t 97) false⟩,
               ⟨some 10, none, .v (.mv (.t 98))⟩] [10, 11])
             .ret)
            .skip))
          (.seq
           (.reg 0 [
             ⟨some 99, none, .v (.mv (.t 13))⟩,
             ⟨some 100, none, .slA 65 (.t 12) (some (.t 99)) none⟩,
             ⟨some 101, none, .v (.b2s (.t 100))⟩,
             ⟨some 11, none, .v (.mv (.t 101))⟩] [10, 11])
           .ret)))))))))
theorem l50 : Callable Tryd.prog 50 := ⟨Tryd.f50, by kernel_rfl, by kernel_rfl, by kernel_rfl⟩
theorem a50 {args : List AVal} {H : AHeap} {n : Nat} {R : AOut → AHeap → Nat → Prop} (h : awp Tryd.prog c50 (postC [.t 10, .t 11] R) ⟨penv 0 args, H, n⟩) : ACalls Tryd.prog 50 args H n R :=
  acalls_of_awp' (fn := Tryd.f50) (c := Tryd.f50.body.getD .skip) (ac := c50) (fz := []) (im := []) (kp := kp50) (rs := [.t 10, .t 11]) (by kernel_rfl) (by kernel_rfl) (by kernel_rfl) (by kernel_rfl) (by kernel_rfl) h

/-- internal/strconv.log10Pow2 -/
def kp52 (r : Nat) : List Nat := match r with
  | 0 => [0]
  | 1 => [2]
  | _ => []
def c52 : ACode :=
  (.seq
   (.reg 0 [
     ⟨some 2, none, .v (.mv (.c (.int .i64 0)))⟩] [0])
   (.seq
    (.reg 0 [
      ⟨some 3, none, .v (.mv (.t 0))⟩,
      ⟨some 4, none, .v (.arith .mul .i64 (.t 3) (.c (.int .i64 78913)))⟩,
      ⟨some 5, none, .v (.shift .shr .i64 .u64 (.t 4) (.c (.int .u64 18)))⟩,
      ⟨some 2, none, .v (.mv (.t 5))⟩] [2])
    .ret))
theorem l52 : Callable Tryd.prog 52 := ⟨Tryd.f52, by kernel_rfl, by kernel_rfl, by kernel_rfl⟩
theorem a52 {args : List AVal} {H : AHeap} {n : Nat} {R : AOut → AHeap → Nat → Prop} (h : awp Tryd.prog c52 (postC [.t 2] R) ⟨penv 0 args, H, n⟩) : ACalls Tryd.prog 52 args H n R :=
  acalls_of_awp' (fn := Tryd.f52) (c := Tryd.f52.body.getD .skip) (ac := c52) (fz := []) (im := []) (kp := kp52) (rs := [.t 2]) (by kernel_rfl) (by kernel_rfl) (by kernel_rfl) (by kernel_rfl) (by kernel_rfl) h

/-- math/bits.Len64 -/
def kp53 (r : Nat) : List Nat := match r with
  | 0 => [0, 2]
  | 1 => [0, 2, 4]
  | 2 => [0]
  | 3 => [0, 2]
  | 4 => [0, 2, 8]
  | 5 => [0, 2]
  | 6 => [0, 2]
  | 7 => [0, 2, 14]
  | 8 => [0, 2]
  | 9 => [0, 2]
  | 10 => [2]
  | _ => []
def c53 : ACode :=
  (.seq
   (.reg 0 [
     ⟨some 2, none, .v (.mv (.c (.int .i64 0)))⟩] [0, 2])
   (.seq
    (.seq
     (.reg 0 [
       ⟨some 3, none, .v (.mv (.t 0))⟩,
       ⟨some 4, none, .v (.icmp .geq .u64 (.t 3) (.c (.int .u64 4294967296)))⟩] [0, 2, 4])
     (.cond (.t 4)
      (.seq
       (.reg 0 [
         ⟨some 5, none, .v (.mv (.t 0))⟩,
         ⟨some 6, none, .v (.shift .shr .u64 .u64 (.t 5) (.c (.int .u64 32)))⟩,
         ⟨some 0, none, .v (.mv (.t 6))⟩] [0])
       (.reg 0 [
         ⟨some 2, none, .v (.mv (.c (.int .i64 32)))⟩] [0, 2]))
      .skip))
    (.seq
     (.seq
      (.reg 0 [
        ⟨some 7, none, .v (.mv (.t 0))⟩,
        ⟨some 8, none, .v (.icmp .geq .u64 (.t 7) (.c (.int .u64 65536)))⟩] [0, 2, 8])
      (.cond (.t 8)
       (.seq
        (.reg 0 [
          ⟨some 9, none, .v (.mv (.t 0))⟩,
          ⟨some 10, none, .v (.shift .shr .u64 .u64 (.t 9) (.c (.int .u64 16)))⟩,
          ⟨some 0, none, .v (.mv (.t 10))⟩] [0, 2])
        (.reg 0 [
          ⟨some 11, none, .v (.mv (.t 2))⟩,
          ⟨some 12, none, .v (.arith .add .i64 (.t 11) (.c (.int .i64 16)))⟩,
          ⟨some 2, none, .v (.mv (.t 12))⟩] [0, 2]))
       .skip))
     (.seq
      (.seq
       (.reg 0 [
         ⟨some 13, none, .v (.mv (.t 0))⟩,
         ⟨some 14, none, .v (.icmp .geq .u64 (.t 13) (.c (.int .u64 256)))⟩] [0, 2, 14])
       (.cond (.t 14)
        (.seq
         (.reg 0 [
           ⟨some 15, none, .v (.mv (.t 0))⟩,
           ⟨some 16, none, .v (.shift .shr .u64 .u64 (.t 15) (.c (.int .u64 8)))⟩,
           ⟨some 0, none, .v (.mv (.t 16))⟩] [0, 2])
         (.reg 0 [
           ⟨some 17, none, .v (.mv (.t 2))⟩,
           ⟨some 18, none, .v (.arith .add .i64 (.t 17) (.c (.int .i64 8)))⟩,
           ⟨some 2, none, .v (.mv (.t 18))⟩] [0, 2]))
        .skip))
      (.seq
       (.reg 0 [
         ⟨some 19, none, .v (.mv (.t 2))⟩,
         ⟨some 20, none, .v (.mv (.t 0))⟩,
         ⟨some 21, none, .v (.conv .u8 (.t 20))⟩,
         ⟨some 22, none, .v (.ixS (.c (.str [0, 1, 2, 2, 3, 3, 3, 3, 4, 4, 4, 4, 4, 4, 4, 4, 5, 5, 5, 5, 5, 5, 5, 5, 5, 5, 5, 5, 5, 5, 5, 5, 6, 6, 6, 6, 6, 6, 6, 6, 6, 6, 6, 6, 6, 6, 6, 6, 6, 6, 6, 6, 6, 6, 6, 6, 6, 6, 6, 6, 6, 6, 6, 6, 7, 7, 7, 7, 7, 7, 7, 7, 7, 7, 7, 7, 7, 7, 7, 7, 7, 7, 7, 7, 7, 7, 7, 7, 7, 7, 7, 7, 7, 7, 7, 7, 7, 7, 7, 7, 7, 7, 7, 7, 7, 7, 7, 7, 7, 7, 7, 7, 7, 7, 7, 7, 7, 7, 7, 7, 7, 7, 7, 7, 7, 7, 7, 7, 8, 8, 8, 8, 8, 8, 8, 8, 8, 8, 8, 8, 8, 8, 8, 8, 8, 8, 8, 8, 8, 8, 8, 8, 8, 8, 8, 8, 8, 8, 8, 8, 8, 8, 8, 8, 8, 8, 8, 8, 8, 8, 8, 8, 8, 8, 8, 8, 8, 8, 8, 8, 8, 8, 8, 8, 8, 8, 8, 8, 8, 8, 8, 8, 8, 8, 8, 8, 8, 8, 8, 8, 8, 8, 8, 8, 8, 8, 8, 8, 8, 8, 8, 8, 8, 8, 8, 8, 8, 8, 8, 8, 8, 8, 8, 8, 8, 8, 8, 8, 8, 8, 8, 8, 8, 8, 8, 8, 8, 8, 8, 8, 8, 8, 8, 8, 8, 8, 8, 8, 8, 8, 8, 8, 8, 8, 8, 8])) (.t 21))⟩,
         ⟨some 23, none, .v (.conv .i64 (.t 22))⟩,
         ⟨some 24, none, .v (.arith .add .i64 (.t 19) (.t 23))⟩,
         ⟨some 2, none, .v (.mv (.t 24))⟩] [2])
       .ret)))))
theorem l53 : Callable Tryd.prog 53 := ⟨Tryd.f53, by kernel_rfl, by kernel_rfl, by kernel_rfl⟩
theorem a53 {args : List AVal} {H : AHeap} {n : Nat} {R : AOut → AHeap → Nat → Prop} (h : awp Tryd.prog c53 (postC [.t 2] R) ⟨penv 0 args, H, n⟩) : ACalls Tryd.prog 53 args H n R :=
  acalls_of_awp' (fn := Tryd.f53) (c := Tryd.f53.body.getD .skip) (ac := c53) (fz := []) (im := []) (kp := kp53) (rs := [.t 2]) (by kernel_rfl) (by kernel_rfl) (by kernel_rfl) (by kernel_rfl) (by kernel_rfl) h

/-- internal/strconv.bool2[int] -/
def kp54 (r : Nat) : List Nat := match r with
  | 0 => [0]
  | 1 => [3]
  | 2 => [2]
  | 3 => [2]
  | _ => []
def c54 : ACode :=
  (.seq
   (.reg 0 [
     ⟨some 2, none, .v (.mv (.c (.int .i64 0)))⟩] [0])
   (.seq
    (.seq
     (.reg 0 [
       ⟨some 3, none, .v (.mv (.t 0))⟩] [3])
     (.cond (.t 3)
      (.seq
       (.reg 0 [
         ⟨some 2, none, .v (.mv (.c (.int .i64 1)))⟩] [2])
       .ret)
      .skip))
    (.seq
     (.reg 0 [
       ⟨some 2, none, .v (.mv (.c (.int .i64 0)))⟩] [2])
     .ret)))
theorem l54 : Callable Tryd.prog 54 := ⟨Tryd.f54, by kernel_rfl, by kernel_rfl, by kernel_rfl⟩
theorem a54 {args : List AVal} {H : AHeap} {n : Nat} {R : AOut → AHeap → Nat → Prop} (h : awp Tryd.prog c54 (postC [.t 2] R) ⟨penv 0 args, H, n⟩) : ACalls Tryd.prog 54 args H n R :=
  acalls_of_awp' (fn := Tryd.f54) (c := Tryd.f54.body.getD .skip) (ac := c54) (fz := []) (im := []) (kp := kp54) (rs := [.t 2]) (by kernel_rfl) (by kernel_rfl) (by kernel_rfl) (by kernel_rfl) (by kernel_rfl) h

/-- internal/strconv.isPowerOfTwo -/
def kp55 (r : Nat) : List Nat := match r with
  | 0 => [0]
  | 1 => [2]
  | _ => []
def c55 : ACode :=
  (.seq
   (.reg 0 [
     ⟨some 2, none, .v (.mv (.c (.bool false)))⟩] [0])
   (.seq
    (.reg 0 [
      ⟨some 3, none, .v (.mv (.t 0))⟩,
      ⟨some 4, none, .v (.mv (.t 0))⟩,
      ⟨some 5, none, .v (.arith .sub .i64 (.t 4) (.c (.int .i64 1)))⟩,
      ⟨some 6, none, .v (.arith .and .i64 (.t 3) (.t 5))⟩,
      ⟨some 7, none, .v (.icmp .eql .i64 (.t 6) (.c (.int .i64 0)))⟩,
      ⟨some 2, none, .v (.mv (.t 7))⟩] [2])
    .ret))
theorem l55 : Callable Tryd.prog 55 := ⟨Tryd.f55, by kernel_rfl, by kernel_rfl, by kernel_rfl⟩
theorem a55 {args : List AVal} {H : AHeap} {n : Nat} {R : AOut → AHeap → Nat → Prop} (h : awp Tryd.prog c55 (postC [.t 2] R) ⟨penv 0 args, H, n⟩) : ACalls Tryd.prog 55 args H n R :=
  acalls_of_awp' (fn := Tryd.f55) (c := Tryd.f55.body.getD .skip) (ac := c55) (fz := []) (im := []) (kp := kp55) (rs := [.t 2]) (by kernel_rfl) (by kernel_rfl) (by kernel_rfl) (by kernel_rfl) (by kernel_rfl) h

/-- math/bits.TrailingZeros -/
def kp56 (r : Nat) : List Nat := match r with
  | 0 => [0]
  | 1 => [2]
  | 2 => [2]
  | _ => []
def c56 : ACode :=
  (.seq
   (.reg 0 [
     ⟨some 2, none, .v (.mv (.c (.int .i64 0)))⟩] [0])
   (.seq
    (.cond (.c (.bool false))
     (.seq
      (.reg 0 [
        ⟨some 3, none, .v (.mv (.t 0))⟩,
        ⟨some 4, none, .v (.conv .u32 (.t 3))⟩,
        ⟨some 5, none, .call true (.c (.fn (.func 58) [] [])) [(.t 4)]⟩,
        ⟨some 2, none, .v (.mv (.t 5))⟩] [2])
      .ret)
     .skip)
    (.seq
     (.reg 0 [
       ⟨some 6, none, .v (.mv (.t 0))⟩,
       ⟨some 7, none, .call true (.c (.fn (.func 59) [] [])) [(.t 6)]⟩,
       ⟨some 2, none, .v (.mv (.t 7))⟩] [2])
     .ret)))
theorem l56 : Callable Tryd.prog 56 := ⟨Tryd.f56, by kernel_rfl, by kernel_rfl, by kernel_rfl⟩
theorem a56 {args : List AVal} {H : AHeap} {n : Nat} {R : AOut → AHeap → Nat → Prop} (h : awp Tryd.prog c56 (postC [.t 2] R) ⟨penv 0 args, H, n⟩) : ACalls Tryd.prog 56 args H n R :=
  acalls_of_awp' (fn := Tryd.f56) (c := Tryd.f56.body.getD .skip) (ac := c56) (fz := []) (im := []) (kp := kp56) (rs := [.t 2]) (by kernel_rfl) (by kernel_rfl) (by kernel_rfl) (by kernel_rfl) (by kernel_rfl) h

/-- strconv.AppendInt -/
def kp23 (r : Nat) : List Nat := match r with
  | 0 => [0, 1, 2]
  | 1 => [6]
  | _ => []
def c23 : ACode :=
  (.seq
   (.reg 0 [
     ⟨some 6, none, .v (.mv (.c (.sl .nil [])))⟩] [0, 1, 2])
   (.seq
    (.reg 0 [
      ⟨some 7, none, .v (.mv (.t 0))⟩,
      ⟨some 8, none, .v (.mv (.t 1))⟩,
      ⟨some 9, none, .v (.mv (.t 2))⟩,
      ⟨some 10, none, .call false (.c (.fn (.func 40) [] [])) [(.t 7), (.t 8), (.t 9)]⟩,
      ⟨some 6, none, .v (.mv (.t 10))⟩] [6])
    .ret))
theorem l23 : Callable Tryd.prog 23 := ⟨Tryd.f23, by kernel_rfl, by kernel_rfl, by kernel_rfl⟩
theorem a23 {args : List AVal} {H : AHeap} {n : Nat} {R : AOut → AHeap → Nat → Prop} (h : awp Tryd.prog c23 (postC [.t 6] R) ⟨penv 0 args, H, n⟩) : ACalls Tryd.prog 23 args H n R :=
  acalls_of_awp' (fn := Tryd.f23) (c := Tryd.f23.body.getD .skip) (ac := c23) (fz := []) (im := [(1, 3)]) (kp := kp23) (rs := [.t 6]) (by kernel_rfl) (by kernel_rfl) (by kernel_rfl) (by kernel_rfl) (by kernel_rfl) h

/-- gridwright/press.Print.1 -/
def kp22 (r : Nat) : List Nat := match r with
  | 0 => []
  | _ => []
def c22 : ACode :=
  (.reg 7 [
    ⟨some 5, none, .v (.ld 1 false (.t 2))⟩,
    ⟨some 6, none, .v (.mv (.t 0))⟩,
    ⟨some 7, none, .call false (.c (.fn (.func 23) [] [])) [(.t 5), (.t 6), (.c (.int .i64 10))]⟩,
    ⟨some 8, none, .v (.mv (.t 1))⟩,
    ⟨some 9, none, .v (.bs 1 1 (.int .u8 0) [(0, (.t 8))])⟩,
    ⟨some 10, none, .app 5 1 1 (.t 7) (.t 9) false⟩,
    ⟨none, none, .st 1 (.t 2) (.t 10)⟩] [])
theorem l22 : Callable Tryd.prog 22 := ⟨Tryd.f22, by kernel_rfl, by kernel_rfl, by kernel_rfl⟩
theorem a22 {args : List AVal} {H : AHeap} {n : Nat} {R : AOut → AHeap → Nat → Prop} (h : awp Tryd.prog c22 (postC [] R) ⟨penv 0 args, H, n⟩) : ACalls Tryd.prog 22 args H n R :=
  acalls_of_awp' (fn := Tryd.f22) (c := Tryd.f22.body.getD .skip) (ac := c22) (fz := []) (im := [(0, 2)]) (kp := kp22) (rs := []) (by kernel_rfl) (by kernel_rfl) (by kernel_rfl) (by kernel_rfl) (by kernel_rfl) h

/-- gridwright/gridwrightref57.digits -/
def kp24 (r : Nat) : List Nat := match r with
  | 0 => [0]
  | 1 => [0, 3]
  | 2 => [0, 3, 5]
  | 3 => [0, 3]
  | 4 => [0, 3]
  | 5 => [2]
  | _ => []
def c24 : ACode :=
  (.seq
   (.reg 0 [
     ⟨some 2, none, .v (.mv (.c (.str [])))⟩] [0])
   (.seq
    (.reg 0 [
      ⟨some 3, none, .v (.mv (.c (.str [])))⟩] [0, 3])
    (.seq
     (.block 0
      (.loop
       (.seq
        (.seq
         (.reg 0 [
           ⟨some 4, none, .v (.mv (.t 0))⟩,
           ⟨some 5, none, .v (.icmp .geq .i64 (.t 4) (.c (.int .i64 10)))⟩] [0, 3, 5])
         (.cond (.t 5)
          .skip
          (.exit 0)))
        (.block 1
         (.seq
          (.reg 0 [
            ⟨some 6, none, .v (.mv (.t 0))⟩,
            ⟨some 7, none, .v (.arith .rem .i64 (.t 6) (.c (.int .i64 10)))⟩,
            ⟨some 8, none, .v (.arith .add .i64 (.c (.int .i64 48)) (.t 7))⟩,
            ⟨some 9, none, .v (.conv .u8 (.t 8))⟩,
            ⟨some 10, none, .v (.bs 1 1 (.int .u8 0) [(0, (.t 9))])⟩,
            ⟨some 11, none, .v (.b2s (.t 10))⟩,
            ⟨some 12, none, .v (.mv (.t 3))⟩,
            ⟨some 13, none, .v (.sadd (.t 11) (.t 12))⟩,
            ⟨some 3, none, .v (.mv (.t 13))⟩] [0, 3])
          (.reg 0 [
            ⟨some 14, none, .v (.mv (.t 0))⟩,
            ⟨some 15, none, .v (.arith .quo .i64 (.t 14) (.c (.int .i64 10)))⟩,
            ⟨some 0, none, .v (.mv (.t 15))⟩] [0, 3]))))))
     (.seq
      (.reg 0 [
        ⟨some 16, none, .v (.mv (.t 0))⟩,
        ⟨some 17, none, .v (.arith .add .i64 (.c (.int .i64 48)) (.t 16))⟩,
        ⟨some 18, none, .v (.conv .u8 (.t 17))⟩,
        ⟨some 19, none, .v (.bs 1 1 (.int .u8 0) [(0, (.t 18))])⟩,
        ⟨some 20, none, .v (.b2s (.t 19))⟩,
        ⟨some 21, none, .v (.mv (.t 3))⟩,
        ⟨some 22, none, .v (.sadd (.t 20) (.t 21))⟩,
        ⟨some 2, none, .v (.mv (.t 22))⟩] [2])
      .ret))))
theorem l24 : Callable Tryd.prog 24 := ⟨Tryd.f24, by kernel_rfl, by kernel_rfl, by kernel_rfl⟩
theorem a24 {args : List AVal} {H : AHeap} {n : Nat} {R : AOut → AHeap → Nat → Prop} (h : awp Tryd.prog c24 (postC [.t 2] R) ⟨penv 0 args, H, n⟩) : ACalls Tryd.prog 24 args H n R :=
  acalls_of_awp' (fn := Tryd.f24) (c := Tryd.f24.body.getD .skip) (ac := c24) (fz := []) (im := []) (kp := kp24) (rs := [.t 2]) (by kernel_rfl) (by kernel_rfl) (by kernel_rfl) (by kernel_rfl) (by kernel_rfl) h

end Go.AM
end
