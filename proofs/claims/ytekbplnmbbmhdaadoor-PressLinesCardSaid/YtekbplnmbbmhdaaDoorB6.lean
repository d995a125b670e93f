/-
  The abstract code of some functions, written by a program · The abstract code of some functions, written by a program.
  Conditions: none beyond those of its parts.
-/
import Derived.Test.YtekbplnmbbmhdaaDoorProg
import Derived.Test.YtekbplnmbbmhdaaDoorB3
import Derived.KernelRfl

/- The abstract code of some functions, written by a program. Conditions: none. -/
section
set_option maxRecDepth 10000
set_option linter.unusedSimpArgs false
set_option linter.unusedVariables false
set_option maxRecDepth 20000
set_option linter.unusedVariables false
namespace Go.AM
open Go.Proofs





/-- slices.SortStableFunc[[]int,int] -/
def kp30 (r : Nat) : List Nat := match r with
  | 0 => []
  | _ => []
def c30 : ACode :=
  (.reg 0 [
    ⟨some 4, none, .v (.mv (.t 0))⟩,
    ⟨some 5, none, .v (.mv (.t 0))⟩,
    ⟨some 6, none, .v (.len (.t 5))⟩,
    ⟨some 7, none, .v (.mv (.t 1))⟩,
    ⟨some 8, none, .call false (.c (.fn (.func 42) [] [])) [(.t 4), (.t 6), (.t 7)]⟩] [])
theorem l30 : Callable Tryd.prog 30 := ⟨Tryd.f30, by kernel_rfl, by kernel_rfl, by kernel_rfl⟩
theorem a30 {args : List AVal} {H : AHeap} {n : Nat} {R : AOut → AHeap → Nat → Prop} (h : awp Tryd.prog c30 (postC [] R) ⟨penv 0 args, H, n⟩) : ACalls Tryd.prog 30 args H n R :=
  acalls_of_awp' (fn := Tryd.f30) (c := Tryd.f30.body.getD .skip) (ac := c30) (fz := []) (im := [(0, 4)]) (kp := kp30) (rs := []) (by kernel_rfl) (by kernel_rfl) (by kernel_rfl) (by kernel_rfl) (by kernel_rfl) h

/-- slices.stableCmpFunc[int] -/
def kp42 (r : Nat) : List Nat := match r with
  | 0 => [0, 1, 2, 6]
  | 1 => [0, 1, 2, 6, 7, 8]
  | 2 => [0, 1, 2, 6, 7, 8, 13]
  | 3 => [0, 1, 2, 6, 8]
  | 4 => [0, 1, 2, 6, 7, 8]
  | 5 => [0, 1, 2, 6, 7, 8]
  | 6 => [0, 1, 2, 6]
  | 7 => [0, 1, 2, 6, 30]
  | 8 => [0, 1, 2, 6, 7, 8]
  | 9 => [0, 1, 2, 6, 7, 8, 35]
  | 10 => [0, 1, 2, 6, 8]
  | 11 => [0, 1, 2, 6, 7, 8]
  | 12 => [0, 1, 2, 6, 7, 8]
  | 13 => [0, 1, 2, 6, 7, 9]
  | 14 => [0, 1, 2, 6, 7, 9, 54]
  | 15 => [0, 1, 2, 6]
  | 16 => [0, 1, 2, 6]
  | _ => []
def c42 : ACode :=
  (.seq
   (.reg 0 [
     ⟨some 6, none, .v (.mv (.c (.int .i64 20)))⟩] [0, 1, 2, 6])
   (.seq
    (.reg 0 [
      ⟨some 10, none, .v (.mv (.t 6))⟩,
      ⟨some 7, none, .v (.mv (.c (.int .i64 0)))⟩,
      ⟨some 8, none, .v (.mv (.t 10))⟩] [0, 1, 2, 6, 7, 8])
    (.seq
     (.block 0
      (.loop
       (.seq
        (.seq
         (.reg 0 [
           ⟨some 11, none, .v (.mv (.t 8))⟩,
           ⟨some 12, none, .v (.mv (.t 1))⟩,
           ⟨some 13, none, .v (.icmp .leq .i64 (.t 11) (.t 12))⟩] [0, 1, 2, 6, 7, 8, 13])
         (.cond (.t 13)
          .skip
          (.exit 0)))
        (.block 1
         (.seq
          (.reg 0 [
            ⟨some 14, none, .v (.mv (.t 0))⟩,
            ⟨some 15, none, .v (.mv (.t 7))⟩,
            ⟨some 16, none, .v (.mv (.t 8))⟩,
            ⟨some 17, none, .v (.mv (.t 2))⟩,
            ⟨some 18, none, .call false (.c (.fn (.func 45) [] [])) [(.t 14), (.t 15), (.t 16), (.t 17)]⟩] [0, 1, 2, 6, 8])
          (.seq
           (.reg 0 [
             ⟨some 19, none, .v (.mv (.t 8))⟩,
             ⟨some 7, none, .v (.mv (.t 19))⟩] [0, 1, 2, 6, 7, 8])
           (.reg 0 [
             ⟨some 20, none, .v (.mv (.t 8))⟩,
             ⟨some 21, none, .v (.mv (.t 6))⟩,
             ⟨some 22, none, .v (.arith .add .i64 (.t 20) (.t 21))⟩,
             ⟨some 8, none, .v (.mv (.t 22))⟩] [0, 1, 2, 6, 7, 8])))))))
     (.seq
      (.reg 0 [
        ⟨some 23, none, .v (.mv (.t 0))⟩,
        ⟨some 24, none, .v (.mv (.t 7))⟩,
        ⟨some 25, none, .v (.mv (.t 1))⟩,
        ⟨some 26, none, .v (.mv (.t 2))⟩,
        ⟨some 27, none, .call false (.c (.fn (.func 45) [] [])) [(.t 23), (.t 24), (.t 25), (.t 26)]⟩] [0, 1, 2, 6])
      (.block 2
       (.loop
        (.seq
         (.seq
          (.reg 0 [
            ⟨some 28, none, .v (.mv (.t 6))⟩,
            ⟨some 29, none, .v (.mv (.t 1))⟩,
            ⟨some 30, none, .v (.icmp .lss .i64 (.t 28) (.t 29))⟩] [0, 1, 2, 6, 30])
          (.cond (.t 30)
           .skip
           (.exit 2)))
         (.block 3
          (.seq
           (.reg 0 [
             ⟨some 31, none, .v (.mv (.t 6))⟩,
             ⟨some 32, none, .v (.arith .mul .i64 (.c (.int .i64 2)) (.t 31))⟩,
             ⟨some 7, none, .v (.mv (.c (.int .i64 0)))⟩,
             ⟨some 8, none, .v (.mv (.t 32))⟩] [0, 1, 2, 6, 7, 8])
           (.seq
            (.block 4
             (.loop
              (.seq
               (.seq
                (.reg 0 [
                  ⟨some 33, none, .v (.mv (.t 8))⟩,
                  ⟨some 34, none, .v (.mv (.t 1))⟩,
                  ⟨some 35, none, .v (.icmp .leq .i64 (.t 33) (.t 34))⟩] [0, 1, 2, 6, 7, 8, 35])
                (.cond (.t 35)
                 .skip
                 (.exit 4)))
               (.block 5
                (.seq
                 (.reg 0 [
                   ⟨some 36, none, .v (.mv (.t 0))⟩,
                   ⟨some 37, none, .v (.mv (.t 7))⟩,
                   ⟨some 38, none, .v (.mv (.t 7))⟩,
                   ⟨some 39, none, .v (.mv (.t 6))⟩,
                   ⟨some 40, none, .v (.arith .add .i64 (.t 38) (.t 39))⟩,
                   ⟨some 41, none, .v (.mv (.t 8))⟩,
                   ⟨some 42, none, .v (.mv (.t 2))⟩,
                   ⟨some 43, none, .call false (.c (.fn (.func 46) [] [])) [(.t 36), (.t 37), (.t 40), (.t 41), (.t 42)]⟩] [0, 1, 2, 6, 8])
                 (.seq
                  (.reg 0 [
                    ⟨some 44, none, .v (.mv (.t 8))⟩,
                    ⟨some 7, none, .v (.mv (.t 44))⟩] [0, 1, 2, 6, 7, 8])
                  (.reg 0 [
                    ⟨some 45, none, .v (.mv (.t 8))⟩,
                    ⟨some 46, none, .v (.mv (.t 6))⟩,
                    ⟨some 47, none, .v (.arith .mul .i64 (.c (.int .i64 2)) (.t 46))⟩,
                    ⟨some 48, none, .v (.arith .add .i64 (.t 45) (.t 47))⟩,
                    ⟨some 8, none, .v (.mv (.t 48))⟩] [0, 1, 2, 6, 7, 8])))))))
            (.seq
             (.seq
              (.reg 0 [
                ⟨some 49, none, .v (.mv (.t 7))⟩,
                ⟨some 50, none, .v (.mv (.t 6))⟩,
                ⟨some 51, none, .v (.arith .add .i64 (.t 49) (.t 50))⟩,
                ⟨some 9, none, .v (.mv (.t 51))⟩] [0, 1, 2, 6, 7, 9])
              (.seq
               (.reg 0 [
                 ⟨some 52, none, .v (.mv (.t 9))⟩,
                 ⟨some 53, none, .v (.mv (.t 1))⟩,
                 ⟨some 54, none, .v (.icmp .lss .i64 (.t 52) (.t 53))⟩] [0, 1, 2, 6, 7, 9, 54])
               (.cond (.t 54)
                (.reg 0 [
                  ⟨some 55, none, .v (.mv (.t 0))⟩,
                  ⟨some 56, none, .v (.mv (.t 7))⟩,
                  ⟨some 57, none, .v (.mv (.t 9))⟩,
                  ⟨some 58, none, .v (.mv (.t 1))⟩,
                  ⟨some 59, none, .v (.mv (.t 2))⟩,
                  ⟨some 60, none, .call false (.c (.fn (.func 46) [] [])) [(.t 55), (.t 56), (.t 57), (.t 58), (.t 59)]⟩] [0, 1, 2, 6])
                .skip)))
             (.reg 0 [
               ⟨some 61, none, .v (.mv (.t 6))⟩,
               ⟨some 62, none, .v (.arith .mul .i64 (.t 61) (.c (.int .i64 2)))⟩,
               ⟨some 6, none, .v (.mv (.t 62))⟩] [0, 1, 2, 6]))))))))))))
theorem l42 : Callable Tryd.prog 42 := ⟨Tryd.f42, by kernel_rfl, by kernel_rfl, by kernel_rfl⟩
theorem a42 {args : List AVal} {H : AHeap} {n : Nat} {R : AOut → AHeap → Nat → Prop} (h : awp Tryd.prog c42 (postC [] R) ⟨penv 0 args, H, n⟩) : ACalls Tryd.prog 42 args H n R :=
  acalls_of_awp' (fn := Tryd.f42) (c := Tryd.f42.body.getD .skip) (ac := c42) (fz := []) (im := [(3, 4), (6, 4), (10, 7), (15, 5)]) (kp := kp42) (rs := []) (by kernel_rfl) (by kernel_rfl) (by kernel_rfl) (by kernel_rfl) (by kernel_rfl) h

/-- slices.insertionSortCmpFunc[int] -/
def kp45 (r : Nat) : List Nat := match r with
  | 0 => [0, 1, 2, 3, 8]
  | 1 => [0, 1, 2, 3, 8, 14]
  | 3 => [0, 1, 2, 3, 8, 9]
  | 4 => [0, 1, 2, 3, 8, 9, 34]
  | 6 => [0, 1, 2, 3, 8, 9]
  | 5 => [0, 1, 2, 3, 8, 9]
  | 2 => [0, 1, 2, 3, 8]
  | _ => []
def c45 : ACode :=
  (.seq
   (.reg 0 [
     ⟨some 10, none, .v (.mv (.t 1))⟩,
     ⟨some 11, none, .v (.arith .add .i64 (.t 10) (.c (.int .i64 1)))⟩,
     ⟨some 8, none, .v (.mv (.t 11))⟩] [0, 1, 2, 3, 8])
   (.block 0
    (.loop
     (.seq
      (.seq
       (.reg 0 [
         ⟨some 12, none, .v (.mv (.t 8))⟩,
         ⟨some 13, none, .v (.mv (.t 2))⟩,
         ⟨some 14, none, .v (.icmp .lss .i64 (.t 12) (.t 13))⟩] [0, 1, 2, 3, 8, 14])
       (.cond (.t 14)
        .skip
        (.exit 0)))
      (.seq
       (.block 1
        (.seq
         (.reg 0 [
           ⟨some 17, none, .v (.mv (.t 8))⟩,
           ⟨some 9, none, .v (.mv (.t 17))⟩] [0, 1, 2, 3, 8, 9])
         (.block 2
          (.loop
           (.seq
            (.seq
             (.reg 0 [
               ⟨some 18, none, .v (.mv (.t 9))⟩,
               ⟨some 19, none, .v (.mv (.t 1))⟩,
               ⟨some 20, none, .v (.icmp .gtr .i64 (.t 18) (.t 19))⟩,
               ⟨some 21, none, .v (.mv (.t 20))⟩,
               ⟨some 22, some (21, true), .v (.mv (.t 3))⟩,
               ⟨some 23, some (21, true), .v (.mv (.t 0))⟩,
               ⟨some 24, some (21, true), .v (.mv (.t 9))⟩,
               ⟨some 25, some (21, true), .v (.ia 1 (.t 23) (.t 24))⟩,
               ⟨some 26, some (21, true), .v (.ld 1 false (.t 25))⟩,
               ⟨some 27, some (21, true), .v (.mv (.t 0))⟩,
               ⟨some 28, some (21, true), .v (.mv (.t 9))⟩,
               ⟨some 29, some (21, true), .v (.arith .sub .i64 (.t 28) (.c (.int .i64 1)))⟩,
               ⟨some 30, some (21, true), .v (.ia 1 (.t 27) (.t 29))⟩,
               ⟨some 31, some (21, true), .v (.ld 1 false (.t 30))⟩,
               ⟨some 32, some (21, true), .call true (.t 22) [(.t 26), (.t 31)]⟩,
               ⟨some 33, some (21, true), .v (.icmp .lss .i64 (.t 32) (.c (.int .i64 0)))⟩,
               ⟨some 34, none, .pick (.t 21) (.t 33) (.c (.bool false))⟩] [0, 1, 2, 3, 8, 9, 34])
             (.cond (.t 34)
              .skip
              (.exit 2)))
            (.seq
             (.block 3
              (.reg 0 [
                ⟨some 37, none, .v (.mv (.t 0))⟩,
                ⟨some 38, none, .v (.mv (.t 9))⟩,
                ⟨some 39, none, .v (.mv (.t 0))⟩,
                ⟨some 40, none, .v (.mv (.t 9))⟩,
                ⟨some 41, none, .v (.arith .sub .i64 (.t 40) (.c (.int .i64 1)))⟩,
                ⟨some 42, none, .v (.mv (.t 0))⟩,
                ⟨some 43, none, .v (.mv (.t 9))⟩,
                ⟨some 44, none, .v (.arith .sub .i64 (.t 43) (.c (.int .i64 1)))⟩,
                ⟨some 45, none, .v (.ia 1 (.t 42) (.t 44))⟩,
                ⟨some 46, none, .v (.ld 1 false (.t 45))⟩,
                ⟨some 47, none, .v (.mv (.t 0))⟩,
                ⟨some 48, none, .v (.mv (.t 9))⟩,
                ⟨some 49, none, .v (.ia 1 (.t 47) (.t 48))⟩,
                ⟨some 50, none, .v (.ld 1 false (.t 49))⟩,
                ⟨some 51, none, .v (.ia 1 (.t 37) (.t 38))⟩,
                ⟨none, none, .st 1 (.t 51) (.t 46)⟩,
                ⟨some 52, none, .v (.ia 1 (.t 39) (.t 41))⟩,
                ⟨none, none, .st 1 (.t 52) (.t 50)⟩] [0, 1, 2, 3, 8, 9]))
             (.reg 0 [
               ⟨some 35, none, .v (.mv (.t 9))⟩,
               ⟨some 36, none, .v (.arith .sub .i64 (.t 35) (.c (.int .i64 1)))⟩,
               ⟨some 9, none, .v (.mv (.t 36))⟩] [0, 1, 2, 3, 8, 9])))))))
       (.reg 0 [
         ⟨some 15, none, .v (.mv (.t 8))⟩,
         ⟨some 16, none, .v (.arith .add .i64 (.t 15) (.c (.int .i64 1)))⟩,
         ⟨some 8, none, .v (.mv (.t 16))⟩] [0, 1, 2, 3, 8]))))))
theorem l45 : Callable Tryd.prog 45 := ⟨Tryd.f45, by kernel_rfl, by kernel_rfl, by kernel_rfl⟩
theorem a45 {args : List AVal} {H : AHeap} {n : Nat} {R : AOut → AHeap → Nat → Prop} (h : awp Tryd.prog c45 (postC [] R) ⟨penv 0 args, H, n⟩) : ACalls Tryd.prog 45 args H n R :=
  acalls_of_awp' (fn := Tryd.f45) (c := Tryd.f45.body.getD .skip) (ac := c45) (fz := []) (im := []) (kp := kp45) (rs := []) (by kernel_rfl) (by kernel_rfl) (by kernel_rfl) (by kernel_rfl) (by kernel_rfl) h

/-- slices.symMergeCmpFunc[int] -/
def kp46 (r : Nat) : List Nat := match r with
  | 0 => [0, 1, 2, 3, 4, 28]
  | 1 => [0, 1, 3, 4, 10]
  | 2 => [0, 1, 4, 10, 11]
  | 3 => [0, 1, 4, 10, 11, 33]
  | 4 => [0, 1, 4, 10, 11, 12]
  | 5 => [0, 1, 4, 10, 11, 12, 50]
  | 6 => [0, 1, 4, 10, 11]
  | 7 => [0, 1, 4, 10, 11]
  | 8 => [0, 10, 13]
  | 9 => [0, 10, 13, 58]
  | 11 => [0, 10, 13]
  | 10 => [0, 10, 13]
  | 12 => [0, 1, 2, 3, 4, 80]
  | 13 => [0, 2, 4, 14]
  | 14 => [0, 2, 4, 14, 15]
  | 15 => [0, 2, 4, 14, 15, 85]
  | 16 => [0, 2, 4, 14, 15, 16]
  | 17 => [0, 2, 4, 14, 15, 16, 103]
  | 18 => [0, 2, 4, 14, 15]
  | 19 => [0, 2, 4, 14, 15]
  | 20 => [0, 14, 17]
  | 21 => [0, 14, 17, 110]
  | 23 => [0, 14, 17]
  | 22 => [0, 14, 17]
  | 24 => [0, 1, 2, 3, 4, 18]
  | 25 => [0, 1, 2, 3, 4, 18, 19]
  | 26 => [0, 1, 2, 3, 4, 18, 19]
  | 27 => [0, 1, 2, 3, 4, 18, 19, 140]
  | 28 => [0, 1, 2, 3, 4, 18, 19, 20]
  | 29 => [0, 1, 2, 3, 4, 18, 19, 20, 21]
  | 30 => [0, 1, 2, 3, 4, 18, 19, 20]
  | 31 => [0, 1, 2, 3, 4, 18, 19, 20, 21]
  | 32 => [0, 1, 2, 3, 4, 18, 19, 20, 21, 22]
  | 33 => [0, 1, 2, 3, 4, 18, 19, 20, 21, 22, 151]
  | 34 => [0, 1, 2, 3, 4, 18, 19, 20, 21, 22, 23]
  | 35 => [0, 1, 2, 3, 4, 18, 19, 20, 21, 22, 23, 171]
  | 36 => [0, 1, 2, 3, 4, 18, 19, 20, 21, 22]
  | 37 => [0, 1, 2, 3, 4, 18, 19, 20, 21, 22]
  | 38 => [0, 1, 2, 3, 4, 18, 20, 24]
  | 39 => [0, 1, 2, 3, 4, 18, 20, 24, 185]
  | 40 => [0, 1, 3, 4, 18, 20, 24]
  | 41 => [0, 1, 3, 4, 18, 20, 24, 199]
  | 42 => [0, 3, 4, 18, 24]
  | 43 => [0, 3, 4, 18, 24, 213]
  | 44 => []
  | _ => []
def c46 : ACode :=
  (.seq
   (.seq
    (.reg 0 [
      ⟨some 25, none, .v (.mv (.t 2))⟩,
      ⟨some 26, none, .v (.mv (.t 1))⟩,
      ⟨some 27, none, .v (.arith .sub .i64 (.t 25) (.t 26))⟩,
      ⟨some 28, none, .v (.icmp .eql .i64 (.t 27) (.c (.int .i64 1)))⟩] [0, 1, 2, 3, 4, 28])
    (.cond (.t 28)
     (.seq
      (.reg 0 [
        ⟨some 29, none, .v (.mv (.t 2))⟩,
        ⟨some 10, none, .v (.mv (.t 29))⟩] [0, 1, 3, 4, 10])
      (.seq
       (.reg 0 [
         ⟨some 30, none, .v (.mv (.t 3))⟩,
         ⟨some 11, none, .v (.mv (.t 30))⟩] [0, 1, 4, 10, 11])
       (.seq
        (.block 0
         (.loop
          (.seq
           (.seq
            (.reg 0 [
              ⟨some 31, none, .v (.mv (.t 10))⟩,
              ⟨some 32, none, .v (.mv (.t 11))⟩,
              ⟨some 33, none, .v (.icmp .lss .i64 (.t 31) (.t 32))⟩] [0, 1, 4, 10, 11, 33])
            (.cond (.t 33)
             .skip
             (.exit 0)))
           (.block 1
            (.seq
             (.reg 0 [
               ⟨some 34, none, .v (.mv (.t 10))⟩,
               ⟨some 35, none, .v (.mv (.t 11))⟩,
               ⟨some 36, none, .v (.arith .add .i64 (.t 34) (.t 35))⟩,
               ⟨some 37, none, .v (.conv .u64 (.t 36))⟩,
               ⟨some 38, none, .v (.shift .shr .u64 .u64 (.t 37) (.c (.int .u64 1)))⟩,
               ⟨some 39, none, .v (.conv .i64 (.t 38))⟩,
               ⟨some 12, none, .v (.mv (.t 39))⟩] [0, 1, 4, 10, 11, 12])
             (.seq
              (.reg 0 [
                ⟨some 40, none, .v (.mv (.t 4))⟩,
                ⟨some 41, none, .v (.mv (.t 0))⟩,
                ⟨some 42, none, .v (.mv (.t 12))⟩,
                ⟨some 43, none, .v (.ia 1 (.t 41) (.t 42))⟩,
                ⟨some 44, none, .v (.ld 1 false (.t 43))⟩,
                ⟨some 45, none, .v (.mv (.t 0))⟩,
                ⟨some 46, none, .v (.mv (.t 1))⟩,
                ⟨some 47, none, .v (.ia 1 (.t 45) (.t 46))⟩,
                ⟨some 48, none, .v (.ld 1 false (.t 47))⟩,
                ⟨some 49, none, .call true (.t 40) [(.t 44), (.t 48)]⟩,
                ⟨some 50, none, .v (.icmp .lss .i64 (.t 49) (.c (.int .i64 0)))⟩] [0, 1, 4, 10, 11, 12, 50])
              (.cond (.t 50)
               (.reg 0 [
                 ⟨some 51, none, .v (.mv (.t 12))⟩,
                 ⟨some 52, none, .v (.arith .add .i64 (.t 51) (.c (.int .i64 1)))⟩,
                 ⟨some 10, none, .v (.mv (.t 52))⟩] [0, 1, 4, 10, 11])
               (.reg 0 [
                 ⟨some 53, none, .v (.mv (.t 12))⟩,
                 ⟨some 11, none, .v (.mv (.t 53))⟩] [0, 1, 4, 10, 11]))))))))
        (.seq
         (.seq
          (.reg 0 [
            ⟨some 54, none, .v (.mv (.t 1))⟩,
            ⟨some 13, none, .v (.mv (.t 54))⟩] [0, 10, 13])
          (.block 2
           (.loop
            (.seq
             (.seq
              (.reg 0 [
                ⟨some 55, none, .v (.mv (.t 13))⟩,
                ⟨some 56, none, .v (.mv (.t 10))⟩,
                ⟨some 57, none, .v (.arith .sub .i64 (.t 56) (.c (.int .i64 1)))⟩,
                ⟨some 58, none, .v (.icmp .lss .i64 (.t 55) (.t 57))⟩] [0, 10, 13, 58])
              (.cond (.t 58)
               .skip
               (.exit 2)))
             (.seq
              (.block 3
               (.reg 0 [
                 ⟨some 61, none, .v (.mv (.t 0))⟩,
                 ⟨some 62, none, .v (.mv (.t 13))⟩,
                 ⟨some 63, none, .v (.mv (.t 0))⟩,
                 ⟨some 64, none, .v (.mv (.t 13))⟩,
                 ⟨some 65, none, .v (.arith .add .i64 (.t 64) (.c (.int .i64 1)))⟩,
                 ⟨some 66, none, .v (.mv (.t 0))⟩,
                 ⟨some 67, none, .v (.mv (.t 13))⟩,
                 ⟨some 68, none, .v (.arith .add .i64 (.t 67) (.c (.int .i64 1)))⟩,
                 ⟨some 69, none, .v (.ia 1 (.t 66) (.t 68))⟩,
                 ⟨some 70, none, .v (.ld 1 false (.t 69))⟩,
                 ⟨some 71, none, .v (.mv (.t 0))⟩,
                 ⟨some 72, none, .v (.mv (.t 13))⟩,
                 ⟨some 73, none, .v (.ia 1 (.t 71) (.t 72))⟩,
                 ⟨some 74, none, .v (.ld 1 false (.t 73))⟩,
                 ⟨some 75, none, .v (.ia 1 (.t 61) (.t 62))⟩,
                 ⟨none, none, .st 1 (.t 75) (.t 70)⟩,
                 ⟨some 76, none, .v (.ia 1 (.t 63) (.t 65))⟩,
                 ⟨none, none, .st 1 (.t 76) (.t 74)⟩] [0, 10, 13]))
              (.reg 0 [
                ⟨some 59, none, .v (.mv (.t 13))⟩,
                ⟨some 60, none, .v (.arith .add .i64 (.t 59) (.c (.int .i64 1)))⟩,
                ⟨some 13, none, .v (.mv (.t 60))⟩] [0, 10, 13]))))))
         .ret))))
     .skip))
   (.seq
    (.seq
     (.reg 0 [
       ⟨some 77, none, .v (.mv (.t 3))⟩,
       ⟨some 78, none, .v (.mv (.t 2))⟩,
       ⟨some 79, none, .v (.arith .sub .i64 (.t 77) (.t 78))⟩,
       ⟨some 80, none, .v (.icmp .eql .i64 (.t 79) (.c (.int .i64 1)))⟩] [0, 1, 2, 3, 4, 80])
     (.cond (.t 80)
      (.seq
       (.reg 0 [
         ⟨some 81, none, .v (.mv (.t 1))⟩,
         ⟨some 14, none, .v (.mv (.t 81))⟩] [0, 2, 4, 14])
       (.seq
        (.reg 0 [
          ⟨some 82, none, .v (.mv (.t 2))⟩,
          ⟨some 15, none, .v (.mv (.t 82))⟩] [0, 2, 4, 14, 15])
        (.seq
         (.block 4
          (.loop
           (.seq
            (.seq
             (.reg 0 [
               ⟨some 83, none, .v (.mv (.t 14))⟩,
               ⟨some 84, none, .v (.mv (.t 15))⟩,
               ⟨some 85, none, .v (.icmp .lss .i64 (.t 83) (.t 84))⟩] [0, 2, 4, 14, 15, 85])
             (.cond (.t 85)
              .skip
              (.exit 4)))
            (.block 5
             (.seq
              (.reg 0 [
                ⟨some 86, none, .v (.mv (.t 14))⟩,
                ⟨some 87, none, .v (.mv (.t 15))⟩,
                ⟨some 88, none, .v (.arith .add .i64 (.t 86) (.t 87))⟩,
                ⟨some 89, none, .v (.conv .u64 (.t 88))⟩,
                ⟨some 90, none, .v (.shift .shr .u64 .u64 (.t 89) (.c (.int .u64 1)))⟩,
                ⟨some 91, none, .v (.conv .i64 (.t 90))⟩,
                ⟨some 16, none, .v (.mv (.t 91))⟩] [0, 2, 4, 14, 15, 16])
              (.seq
               (.reg 0 [
                 ⟨some 92, none, .v (.mv (.t 4))⟩,
                 ⟨some 93, none, .v (.mv (.t 0))⟩,
                 ⟨some 94, none, .v (.mv (.t 2))⟩,
                 ⟨some 95, none, .v (.ia 1 (.t 93) (.t 94))⟩,
                 ⟨some 96, none, .v (.ld 1 false (.t 95))⟩,
                 ⟨some 97, none, .v (.mv (.t 0))⟩,
                 ⟨some 98, none, .v (.mv (.t 16))⟩,
                 ⟨some 99, none, .v (.ia 1 (.t 97) (.t 98))⟩,
                 ⟨some 100, none, .v (.ld 1 false (.t 99))⟩,
                 ⟨some 101, none, .call true (.t 92) [(.t 96), (.t 100)]⟩,
                 ⟨some 102, none, .v (.icmp .lss .i64 (.t 101) (.c (.int .i64 0)))⟩,
                 ⟨some 103, none, .v (.not (.t 102))⟩] [0, 2, 4, 14, 15, 16, 103])
               (.cond (.t 103)
                (.reg 0 [
                  ⟨some 104, none, .v (.mv (.t 16))⟩,
                  ⟨some 105, none, .v (.arith .add .i64 (.t 104) (.c (.int .i64 1)))⟩,
                  ⟨some 14, none, .v (.mv (.t 105))⟩] [0, 2, 4, 14, 15])
                (.reg 0 [
                  ⟨some 106, none, .v (.mv (.t 16))⟩,
                  ⟨some 15, none, .v (.mv (.t 106))⟩] [0, 2, 4, 14, 15]))))))))
         (.seq
          (.seq
           (.reg 0 [
             ⟨some 107, none, .v (.mv (.t 2))⟩,
             ⟨some 17, none, .v (.mv (.t 107))⟩] [0, 14, 17])
           (.block 6
            (.loop
             (.seq
              (.seq
               (.reg 0 [
                 ⟨some 108, none, .v (.mv (.t 17))⟩,
                 ⟨some 109, none, .v (.mv (.t 14))⟩,
                 ⟨some 110, none, .v (.icmp .gtr .i64 (.t 108) (.t 109))⟩] [0, 14, 17, 110])
               (.cond (.t 110)
                .skip
                (.exit 6)))
              (.seq
               (.block 7
                (.reg 0 [
                  ⟨some 113, none, .v (.mv (.t 0))⟩,
                  ⟨some 114, none, .v (.mv (.t 17))⟩,
                  ⟨some 115, none, .v (.mv (.t 0))⟩,
                  ⟨some 116, none, .v (.mv (.t 17))⟩,
                  ⟨some 117, none, .v (.arith .sub .i64 (.t 116) (.c (.int .i64 1)))⟩,
                  ⟨some 118, none, .v (.mv (.t 0))⟩,
                  ⟨some 119, none, .v (.mv (.t 17))⟩,
                  ⟨some 120, none, .v (.arith .sub .i64 (.t 119) (.c (.int .i64 1)))⟩,
                  ⟨some 121, none, .v (.ia 1 (.t 118) (.t 120))⟩,
                  ⟨some 122, none, .v (.ld 1 false (.t 121))⟩,
                  ⟨some 123, none, .v (.mv (.t 0))⟩,
                  ⟨some 124, none, .v (.mv (.t 17))⟩,
                  ⟨some 125, none, .v (.ia 1 (.t 123) (.t 124))⟩,
                  ⟨some 126, none, .v (.ld 1 false (.t 125))⟩,
                  ⟨some 127, none, .v (.ia 1 (.t 113) (.t 114))⟩,
                  ⟨none, none, .st 1 (.t 127) (.t 122)⟩,
                  ⟨some 128, none, .v (.ia 1 (.t 115) (.t 117))⟩,
                  ⟨none, none, .st 1 (.t 128) (.t 126)⟩] [0, 14, 17]))
               (.reg 0 [
                 ⟨some 111, none, .v (.mv (.t 17))⟩,
                 ⟨some 112, none, .v (.arith .sub .i64 (.t 111) (.c (.int .i64 1)))⟩,
                 ⟨some 17, none, .v (.mv (.t 112))⟩] [0, 14, 17]))))))
          .ret))))
      .skip))
    (.seq
     (.reg 0 [
       ⟨some 129, none, .v (.mv (.t 1))⟩,
       ⟨some 130, none, .v (.mv (.t 3))⟩,
       ⟨some 131, none, .v (.arith .add .i64 (.t 129) (.t 130))⟩,
       ⟨some 132, none, .v (.conv .u64 (.t 131))⟩,
       ⟨some 133, none, .v (.shift .shr .u64 .u64 (.t 132) (.c (.int .u64 1)))⟩,
       ⟨some 134, none, .v (.conv .i64 (.t 133))⟩,
       ⟨some 18, none, .v (.mv (.t 134))⟩] [0, 1, 2, 3, 4, 18])
     (.seq
      (.reg 0 [
        ⟨some 135, none, .v (.mv (.t 18))⟩,
        ⟨some 136, none, .v (.mv (.t 2))⟩,
        ⟨some 137, none, .v (.arith .add .i64 (.t 135) (.t 136))⟩,
        ⟨some 19, none, .v (.mv (.t 137))⟩] [0, 1, 2, 3, 4, 18, 19])
      (.seq
       (.reg 0 [
         ⟨some 20, none, .v (.mv (.c (.int .i64 0)))⟩,
         ⟨some 21, none, .v (.mv (.c (.int .i64 0)))⟩] [0, 1, 2, 3, 4, 18, 19])
       (.seq
        (.seq
         (.reg 0 [
           ⟨some 138, none, .v (.mv (.t 2))⟩,
           ⟨some 139, none, .v (.mv (.t 18))⟩,
           ⟨some 140, none, .v (.icmp .gtr .i64 (.t 138) (.t 139))⟩] [0, 1, 2, 3, 4, 18, 19, 140])
         (.cond (.t 140)
          (.seq
           (.reg 0 [
             ⟨some 141, none, .v (.mv (.t 19))⟩,
             ⟨some 142, none, .v (.mv (.t 3))⟩,
             ⟨some 143, none, .v (.arith .sub .i64 (.t 141) (.t 142))⟩,
             ⟨some 20, none, .v (.mv (.t 143))⟩] [0, 1, 2, 3, 4, 18, 19, 20])
           (.reg 0 [
             ⟨some 144, none, .v (.mv (.t 18))⟩,
             ⟨some 21, none, .v (.mv (.t 144))⟩] [0, 1, 2, 3, 4, 18, 19, 20, 21]))
          (.seq
           (.reg 0 [
             ⟨some 145, none, .v (.mv (.t 1))⟩,
             ⟨some 20, none, .v (.mv (.t 145))⟩] [0, 1, 2, 3, 4, 18, 19, 20])
           (.reg 0 [
             ⟨some 146, none, .v (.mv (.t 2))⟩,
             ⟨some 21, none, .v (.mv (.t 146))⟩] [0, 1, 2, 3, 4, 18, 19, 20, 21]))))
        (.seq
         (.reg 0 [
           ⟨some 147, none, .v (.mv (.t 19))⟩,
           ⟨some 148, none, .v (.arith .sub .i64 (.t 147) (.c (.int .i64 1)))⟩,
           ⟨some 22, none, .v (.mv (.t 148))⟩] [0, 1, 2, 3, 4, 18, 19, 20, 21, 22])
         (.seq
          (.block 8
           (.loop
            (.seq
             (.seq
              (.reg 0 [
                ⟨some 149, none, .v (.mv (.t 20))⟩,
                ⟨some 150, none, .v (.mv (.t 21))⟩,
                ⟨some 151, none, .v (.icmp .lss .i64 (.t 149) (.t 150))⟩] [0, 1, 2, 3, 4, 18, 19, 20, 21, 22, 151])
              (.cond (.t 151)
               .skip
               (.exit 8)))
             (.block 9
              (.seq
               (.reg 0 [
                 ⟨some 152, none, .v (.mv (.t 20))⟩,
                 ⟨some 153, none, .v (.mv (.t 21))⟩,
                 ⟨some 154, none, .v (.arith .add .i64 (.t 152) (.t 153))⟩,
                 ⟨some 155, none, .v (.conv .u64 (.t 154))⟩,
                 ⟨some 156, none, .v (.shift .shr .u64 .u64 (.t 155) (.c (.int .u64 1)))⟩,
                 ⟨some 157, none, .v (.conv .i64 (.t 156))⟩,
                 ⟨some 23, none, .v (.mv (.t 157))⟩] [0, 1, 2, 3, 4, 18, 19, 20, 21, 22, 23])
               (.seq
                (.reg 0 [
                  ⟨some 158, none, .v (.mv (.t 4))⟩,
                  ⟨some 159, none, .v (.mv (.t 0))⟩,
                  ⟨some 160, none, .v (.mv (.t 22))⟩,
                  ⟨some 161, none, .v (.mv (.t 23))⟩,
                  ⟨some 162, none, .v (.arith .sub .i64 (.t 160) (.t 161))⟩,
                  ⟨some 163, none, .v (.ia 1 (.t 159) (.t 162))⟩,
                  ⟨some 164, none, .v (.ld 1 false (.t 163))⟩,
                  ⟨some 165, none, .v (.mv (.t 0))⟩,
                  ⟨some 166, none, .v (.mv (.t 23))⟩,
                  ⟨some 167, none, .v (.ia 1 (.t 165) (.t 166))⟩,
                  ⟨some 168, none, .v (.ld 1 false (.t 167))⟩,
                  ⟨some 169, none, .call true (.t 158) [(.t 164), (.t 168)]⟩,
                  ⟨some 170, none, .v (.icmp .lss .i64 (.t 169) (.c (.int .i64 0)))⟩,
                  ⟨some 171, none, .v (.not (.t 170))⟩] [0, 1, 2, 3, 4, 18, 19, 20, 21, 22, 23, 171])
                (.cond (.t 171)
                 (.reg 0 [
                   ⟨some 172, none, .v (.mv (.t 23))⟩,
                   ⟨some 173, none, .v (.arith .add .i64 (.t 172) (.c (.int .i64 1)))⟩,
                   ⟨some 20, none, .v (.mv (.t 173))⟩] [0, 1, 2, 3, 4, 18, 19, 20, 21, 22])
                 (.reg 0 [
                   ⟨some 174, none, .v (.mv (.t 23))⟩,
                   ⟨some 21, none, .v (.mv (.t 174))⟩] [0, 1, 2, 3, 4, 18, 19, 20, 21, 22]))))))))
          (.seq
           (.reg 0 [
             ⟨some 175, none, .v (.mv (.t 19))⟩,
             ⟨some 176, none, .v (.mv (.t 20))⟩,
             ⟨some 177, none, .v (.arith .sub .i64 (.t 175) (.t 176))⟩,
             ⟨some 24, none, .v (.mv (.t 177))⟩] [0, 1, 2, 3, 4, 18, 20, 24])
           (.seq
            (.seq
             (.reg 0 [
               ⟨some 178, none, .v (.mv (.t 20))⟩,
               ⟨some 179, none, .v (.mv (.t 2))⟩,
               ⟨some 180, none, .v (.icmp .lss .i64 (.t 178) (.t 179))⟩,
               ⟨some 181, none, .v (.mv (.t 180))⟩,
               ⟨some 182, some (181, true), .v (.mv (.t 2))⟩,
               ⟨some 183, some (181, true), .v (.mv (.t 24))⟩,
               ⟨some 184, some (181, true), .v (.icmp .lss .i64 (.t 182) (.t 183))⟩,
               ⟨some 185, none, .pick (.t 181) (.t 184) (.c (.bool false))⟩] [0, 1, 2, 3, 4, 18, 20, 24, 185])
             (.cond (.t 185)
              (.reg 0 [
                ⟨some 186, none, .v (.mv (.t 0))⟩,
                ⟨some 187, none, .v (.mv (.t 20))⟩,
                ⟨some 188, none, .v (.mv (.t 2))⟩,
                ⟨some 189, none, .v (.mv (.t 24))⟩,
                ⟨some 190, none, .v (.mv (.t 4))⟩,
                ⟨some 191, none, .call false (.c (.fn (.func 51) [] [])) [(.t 186), (.t 187), (.t 188), (.t 189), (.t 190)]⟩] [0, 1, 3, 4, 18, 20, 24])
              .skip))
            (.seq
             (.seq
              (.reg 0 [
                ⟨some 192, none, .v (.mv (.t 1))⟩,
                ⟨some 193, none, .v (.mv (.t 20))⟩,
                ⟨some 194, none, .v (.icmp .lss .i64 (.t 192) (.t 193))⟩,
                ⟨some 195, none, .v (.mv (.t 194))⟩,
                ⟨some 196, some (195, true), .v (.mv (.t 20))⟩,
                ⟨some 197, some (195, true), .v (.mv (.t 18))⟩,
                ⟨some 198, some (195, true), .v (.icmp .lss .i64 (.t 196) (.t 197))⟩,
                ⟨some 199, none, .pick (.t 195) (.t 198) (.c (.bool false))⟩] [0, 1, 3, 4, 18, 20, 24, 199])
              (.cond (.t 199)
               (.reg 0 [
                 ⟨some 200, none, .v (.mv (.t 0))⟩,
                 ⟨some 201, none, .v (.mv (.t 1))⟩,
                 ⟨some 202, none, .v (.mv (.t 20))⟩,
                 ⟨some 203, none, .v (.mv (.t 18))⟩,
                 ⟨some 204, none, .v (.mv (.t 4))⟩,
                 ⟨some 205, none, .call false (.c (.fn (.func 46) [] [])) [(.t 200), (.t 201), (.t 202), (.t 203), (.t 204)]⟩] [0, 3, 4, 18, 24])
               .skip))
             (.seq
              (.reg 0 [
                ⟨some 206, none, .v (.mv (.t 18))⟩,
                ⟨some 207, none, .v (.mv (.t 24))⟩,
                ⟨some 208, none, .v (.icmp .lss .i64 (.t 206) (.t 207))⟩,
                ⟨some 209, none, .v (.mv (.t 208))⟩,
                ⟨some 210, some (209, true), .v (.mv (.t 24))⟩,
                ⟨some 211, some (209, true), .v (.mv (.t 3))⟩,
                ⟨some 212, some (209, true), .v (.icmp .lss .i64 (.t 210) (.t 211))⟩,
                ⟨some 213, none, .pick (.t 209) (.t 212) (.c (.bool false))⟩] [0, 3, 4, 18, 24, 213])
              (.cond (.t 213)
               (.reg 0 [
                 ⟨some 214, none, .v (.mv (.t 0))⟩,
                 ⟨some 215, none, .v (.mv (.t 18))⟩,
                 ⟨some 216, none, .v (.mv (.t 24))⟩,
                 ⟨some 217, none, .v (.mv (.t 3))⟩,
                 ⟨some 218, none, .v (.mv (.t 4))⟩,
                 ⟨some 219, none, .call false (.c (.fn (.func 46) [] [])) [(.t 214), (.t 215), (.t 216), (.t 217), (.t 218)]⟩] [])
               .skip)))))))))))))
theorem l46 : Callable Tryd.prog 46 := ⟨Tryd.f46, by kernel_rfl, by kernel_rfl, by kernel_rfl⟩
theorem a46 {args : List AVal} {H : AHeap} {n : Nat} {R : AOut → AHeap → Nat → Prop} (h : awp Tryd.prog c46 (postC [] R) ⟨penv 0 args, H, n⟩) : ACalls Tryd.prog 46 args H n R :=
  acalls_of_awp' (fn := Tryd.f46) (c := Tryd.f46.body.getD .skip) (ac := c46) (fz := []) (im := [(40, 5), (42, 5), (44, 5)]) (kp := kp46) (rs := []) (by kernel_rfl) (by kernel_rfl) (by kernel_rfl) (by kernel_rfl) (by kernel_rfl) h

/-- slices.rotateCmpFunc[int] -/
def kp51 (r : Nat) : List Nat := match r with
  | 0 => [0, 2, 3, 4, 10]
  | 1 => [0, 2, 4, 10, 11]
  | 2 => [0, 2, 4, 10, 11, 20]
  | 3 => [0, 2, 4, 10, 11, 23]
  | 4 => [0, 2, 4, 10, 11]
  | 5 => [0, 2, 4, 10, 11]
  | 6 => [0, 2, 4, 10, 11]
  | 7 => [0, 2, 4, 10, 11]
  | 8 => []
  | _ => []
def c51 : ACode :=
  (.seq
   (.reg 0 [
     ⟨some 12, none, .v (.mv (.t 2))⟩,
     ⟨some 13, none, .v (.mv (.t 1))⟩,
     ⟨some 14, none, .v (.arith .sub .i64 (.t 12) (.t 13))⟩,
     ⟨some 10, none, .v (.mv (.t 14))⟩] [0, 2, 3, 4, 10])
   (.seq
    (.reg 0 [
      ⟨some 15, none, .v (.mv (.t 3))⟩,
      ⟨some 16, none, .v (.mv (.t 2))⟩,
      ⟨some 17, none, .v (.arith .sub .i64 (.t 15) (.t 16))⟩,
      ⟨some 11, none, .v (.mv (.t 17))⟩] [0, 2, 4, 10, 11])
    (.seq
     (.block 0
      (.loop
       (.seq
        (.seq
         (.reg 0 [
           ⟨some 18, none, .v (.mv (.t 10))⟩,
           ⟨some 19, none, .v (.mv (.t 11))⟩,
           ⟨some 20, none, .v (.icmp .neq .i64 (.t 18) (.t 19))⟩] [0, 2, 4, 10, 11, 20])
         (.cond (.t 20)
          .skip
          (.exit 0)))
        (.block 1
         (.seq
          (.reg 0 [
            ⟨some 21, none, .v (.mv (.t 10))⟩,
            ⟨some 22, none, .v (.mv (.t 11))⟩,
            ⟨some 23, none, .v (.icmp .gtr .i64 (.t 21) (.t 22))⟩] [0, 2, 4, 10, 11, 23])
          (.cond (.t 23)
           (.seq
            (.reg 0 [
              ⟨some 24, none, .v (.mv (.t 0))⟩,
              ⟨some 25, none, .v (.mv (.t 2))⟩,
              ⟨some 26, none, .v (.mv (.t 10))⟩,
              ⟨some 27, none, .v (.arith .sub .i64 (.t 25) (.t 26))⟩,
              ⟨some 28, none, .v (.mv (.t 2))⟩,
              ⟨some 29, none, .v (.mv (.t 11))⟩,
              ⟨some 30, none, .v (.mv (.t 4))⟩,
              ⟨some 31, none, .call false (.c (.fn (.func 57) [] [])) [(.t 24), (.t 27), (.t 28), (.t 29), (.t 30)]⟩] [0, 2, 4, 10, 11])
            (.reg 0 [
              ⟨some 32, none, .v (.mv (.t 10))⟩,
              ⟨some 33, none, .v (.mv (.t 11))⟩,
              ⟨some 34, none, .v (.arith .sub .i64 (.t 32) (.t 33))⟩,
              ⟨some 10, none, .v (.mv (.t 34))⟩] [0, 2, 4, 10, 11]))
           (.seq
            (.reg 0 [
              ⟨some 35, none, .v (.mv (.t 0))⟩,
              ⟨some 36, none, .v (.mv (.t 2))⟩,
              ⟨some 37, none, .v (.mv (.t 10))⟩,
              ⟨some 38, none, .v (.arith .sub .i64 (.t 36) (.t 37))⟩,
              ⟨some 39, none, .v (.mv (.t 2))⟩,
              ⟨some 40, none, .v (.mv (.t 11))⟩,
              ⟨some 41, none, .v (.arith .add .i64 (.t 39) (.t 40))⟩,
              ⟨some 42, none, .v (.mv (.t 10))⟩,
              ⟨some 43, none, .v (.arith .sub .i64 (.t 41) (.t 42))⟩,
              ⟨some 44, none, .v (.mv (.t 10))⟩,
              ⟨some 45, none, .v (.mv (.t 4))⟩,
              ⟨some 46, none, .call false (.c (.fn (.func 57) [] [])) [(.t 35), (.t 38), (.t 43), (.t 44), (.t 45)]⟩] [0, 2, 4, 10, 11])
            (.reg 0 [
              ⟨some 47, none, .v (.mv (.t 11))⟩,
              ⟨some 48, none, .v (.mv (.t 10))⟩,
              ⟨some 49, none, .v (.arith .sub .i64 (.t 47) (.t 48))⟩,
              ⟨some 11, none, .v (.mv (.t 49))⟩] [0, 2, 4, 10, 11]))))))))
     (.reg 0 [
       ⟨some 50, none, .v (.mv (.t 0))⟩,
       ⟨some 51, none, .v (.mv (.t 2))⟩,
       ⟨some 52, none, .v (.mv (.t 10))⟩,
       ⟨some 53, none, .v (.arith .sub .i64 (.t 51) (.t 52))⟩,
       ⟨some 54, none, .v (.mv (.t 2))⟩,
       ⟨some 55, none, .v (.mv (.t 10))⟩,
       ⟨some 56, none, .v (.mv (.t 4))⟩,
       ⟨some 57, none, .call false (.c (.fn (.func 57) [] [])) [(.t 50), (.t 53), (.t 54), (.t 55), (.t 56)]⟩] []))))
theorem l51 : Callable Tryd.prog 51 := ⟨Tryd.f51, by kernel_rfl, by kernel_rfl, by kernel_rfl⟩
theorem a51 {args : List AVal} {H : AHeap} {n : Nat} {R : AOut → AHeap → Nat → Prop} (h : awp Tryd.prog c51 (postC [] R) ⟨penv 0 args, H, n⟩) : ACalls Tryd.prog 51 args H n R :=
  acalls_of_awp' (fn := Tryd.f51) (c := Tryd.f51.body.getD .skip) (ac := c51) (fz := []) (im := [(4, 7), (6, 11), (8, 7)]) (kp := kp51) (rs := []) (by kernel_rfl) (by kernel_rfl) (by kernel_rfl) (by kernel_rfl) (by kernel_rfl) h

/-- slices.swapRangeCmpFunc[int] -/
def kp57 (r : Nat) : List Nat := match r with
  | 0 => [0, 1, 2, 3, 10]
  | 1 => [0, 1, 2, 3, 10, 13]
  | 3 => [0, 1, 2, 3, 10]
  | 2 => [0, 1, 2, 3, 10]
  | _ => []
def c57 : ACode :=
  (.seq
   (.reg 0 [
     ⟨some 10, none, .v (.mv (.c (.int .i64 0)))⟩] [0, 1, 2, 3, 10])
   (.block 0
    (.loop
     (.seq
      (.seq
       (.reg 0 [
         ⟨some 11, none, .v (.mv (.t 10))⟩,
         ⟨some 12, none, .v (.mv (.t 3))⟩,
         ⟨some 13, none, .v (.icmp .lss .i64 (.t 11) (.t 12))⟩] [0, 1, 2, 3, 10, 13])
       (.cond (.t 13)
        .skip
        (.exit 0)))
      (.seq
       (.block 1
        (.reg 0 [
          ⟨some 16, none, .v (.mv (.t 0))⟩,
          ⟨some 17, none, .v (.mv (.t 1))⟩,
          ⟨some 18, none, .v (.mv (.t 10))⟩,
          ⟨some 19, none, .v (.arith .add .i64 (.t 17) (.t 18))⟩,
          ⟨some 20, none, .v (.mv (.t 0))⟩,
          ⟨some 21, none, .v (.mv (.t 2))⟩,
          ⟨some 22, none, .v (.mv (.t 10))⟩,
          ⟨some 23, none, .v (.arith .add .i64 (.t 21) (.t 22))⟩,
          ⟨some 24, none, .v (.mv (.t 0))⟩,
          ⟨some 25, none, .v (.mv (.t 2))⟩,
          ⟨some 26, none, .v (.mv (.t 10))⟩,
          ⟨some 27, none, .v (.arith .add .i64 (.t 25) (.t 26))⟩,
          ⟨some 28, none, .v (.ia 1 (.t 24) (.t 27))⟩,
          ⟨some 29, none, .v (.ld 1 false (.t 28))⟩,
          ⟨some 30, none, .v (.mv (.t 0))⟩,
          ⟨some 31, none, .v (.mv (.t 1))⟩,
          ⟨some 32, none, .v (.mv (.t 10))⟩,
          ⟨some 33, none, .v (.arith .add .i64 (.t 31) (.t 32))⟩,
          ⟨some 34, none, .v (.ia 1 (.t 30) (.t 33))⟩,
          ⟨some 35, none, .v (.ld 1 false (.t 34))⟩,
          ⟨some 36, none, .v (.ia 1 (.t 16) (.t 19))⟩,
          ⟨none, none, .st 1 (.t 36) (.t 29)⟩,
          ⟨some 37, none, .v (.ia 1 (.t 20) (.t 23))⟩,
          ⟨none, none, .st 1 (.t 37) (.t 35)⟩] [0, 1, 2, 3, 10]))
       (.reg 0 [
         ⟨some 14, none, .v (.mv (.t 10))⟩,
         ⟨some 15, none, .v (.arith .add .i64 (.t 14) (.c (.int .i64 1)))⟩,
         ⟨some 10, none, .v (.mv (.t 15))⟩] [0, 1, 2, 3, 10]))))))
theorem l57 : Callable Tryd.prog 57 := ⟨Tryd.f57, by kernel_rfl, by kernel_rfl, by kernel_rfl⟩
theorem a57 {args : List AVal} {H : AHeap} {n : Nat} {R : AOut → AHeap → Nat → Prop} (h : awp Tryd.prog c57 (postC [] R) ⟨penv 0 args, H, n⟩) : ACalls Tryd.prog 57 args H n R :=
  acalls_of_awp' (fn := Tryd.f57) (c := Tryd.f57.body.getD .skip) (ac := c57) (fz := []) (im := []) (kp := kp57) (rs := []) (by kernel_rfl) (by kernel_rfl) (by kernel_rfl) (by kernel_rfl) (by kernel_rfl) h

end Go.AM
end

/- The abstract code of some functions, written by a program. Conditions: none. -/
section
set_option maxRecDepth 10000
set_option linter.unusedSimpArgs false
set_option linter.unusedVariables false
set_option maxRecDepth 20000
set_option linter.unusedVariables false
namespace Go.AM
open Go.Proofs





/-- gridwright/press.Layout, its range over a function 0 -/
noncomputable def ra15_0 : Code := ((rfs (Tryd.f15.body.getD .skip))[0]?.getD (#[], .skip, .skip)).2.1
noncomputable def rb15_0 : Code := ((rfs (Tryd.f15.body.getD .skip))[0]?.getD (#[], .skip, .skip)).2.2
def kp15_0b (r : Nat) : List Nat := match r with
  | 26 => [15, 17, 125]
  | 27 => []
  | _ => []
def c15_0b : ACode :=
  (.block 5
   (.seq
    (.reg 0 [
      ⟨some 104, none, .v (.fa 2 (.t 17))⟩,
      ⟨some 105, none, .v (.ld 1 false (.t 104))⟩,
      ⟨some 106, none, .v (.ld 1 false (.t 13))⟩,
      ⟨some 107, none, .v (.arith .add .i64 (.t 105) (.t 106))⟩,
      ⟨some 108, none, .v (.fa 0 (.t 2))⟩,
      ⟨some 109, none, .v (.ld 1 false (.t 108))⟩,
      ⟨some 110, none, .v (.fa 2 (.t 2))⟩,
      ⟨some 111, none, .v (.ld 1 false (.t 110))⟩,
      ⟨some 112, none, .v (.arith .sub .i64 (.t 109) (.t 111))⟩,
      ⟨some 113, none, .v (.icmp .leq .i64 (.t 107) (.t 112))⟩,
      ⟨some 114, none, .v (.mv (.t 113))⟩,
      ⟨some 115, some (114, true), .v (.fa 3 (.t 17))⟩,
      ⟨some 116, some (114, true), .v (.ld 1 false (.t 115))⟩,
      ⟨some 117, some (114, true), .v (.ld 1 false (.t 14))⟩,
      ⟨some 118, some (114, true), .v (.arith .add .i64 (.t 116) (.t 117))⟩,
      ⟨some 119, some (114, true), .v (.fa 1 (.t 2))⟩,
      ⟨some 120, some (114, true), .v (.ld 1 false (.t 119))⟩,
      ⟨some 121, some (114, true), .v (.fa 2 (.t 2))⟩,
      ⟨some 122, some (114, true), .v (.ld 1 false (.t 121))⟩,
      ⟨some 123, some (114, true), .v (.arith .sub .i64 (.t 120) (.t 122))⟩,
      ⟨some 124, some (114, true), .v (.icmp .leq .i64 (.t 118) (.t 123))⟩,
      ⟨some 125, none, .pick (.t 114) (.t 124) (.c (.bool false))⟩] [15, 17, 125])
    (.cond (.t 125)
     (.seq
      (.reg 0 [
        ⟨some 126, none, .v (.ld 1 false (.t 15))⟩,
        ⟨some 127, none, .v (.ld 4 true (.t 17))⟩,
        ⟨some 128, none, .call false (.t 126) [(.t 127)]⟩] [])
      (.exit 3))
     .skip)))
def kp15_0a (r : Nat) : List Nat := match r with
  | 25 => [2, 13, 14, 15, 17]
  | _ => []
def c15_0a : ACode :=
  (.reg 2 [
    ⟨some 17, none, .alloc 0 [(.int .i64 0), (.int .i64 0), (.int .i64 0), (.int .i64 0)]⟩,
    ⟨none, none, .st 4 (.t 17) (.t 103)⟩] [2, 13, 14, 15, 17])
theorem y15_0 {l id : Nat} {st : LoopState} {pend : Option Code} {env : List (Nat × Bool × AVal)} {args : List AVal} {H : AHeap} {n : Nat} {R : Bool → AHeap → Nat → Prop} (ho : hget H id = some (.lp ⟨l, st, pend, 131, env, #[103], ra15_0, rb15_0⟩)) (hps : args.length = 1) (h : awp Tryd.prog c15_0a (roundA Tryd.prog id c15_0b R) ⟨renv [103] args env, H, n⟩) : AYield Tryd.prog l args H n R :=
  ayield_of_awp (aa := c15_0a) (ab := c15_0b) (fz := []) (im := [(10, 2), (21, 6), (23, 11), (24, 2), (27, 2)]) (fz2 := []) (im2 := [(10, 2), (21, 6), (23, 11), (24, 2), (27, 2)]) (kp := kp15_0a) (kp2 := kp15_0b) ho rfl hps rfl (by kernel_rfl) (by kernel_rfl) rfl rfl h

/-- gridwright/press.Layout -/
def kp15 (r : Nat) : List Nat := match r with
  | 0 => [2, 3, 4, 5]
  | 1 => [2, 3, 4, 5, 6]
  | 2 => [2, 3, 4, 5, 6, 22]
  | 3 => [4, 5]
  | 4 => [2, 3, 4, 5, 7]
  | 5 => [2, 3, 4, 5, 7, 28, 29]
  | 6 => [2, 3, 4, 5, 7, 28, 29, 30]
  | 7 => [2, 3, 4, 5, 7, 8, 28, 29]
  | 8 => [2, 3, 4, 5, 7, 28, 29]
  | 9 => [2, 3, 4, 5, 7, 28, 29]
  | 10 => [2, 3, 4, 5, 7]
  | 11 => [2, 3, 4, 5, 7, 9]
  | 12 => [2, 3, 4, 5, 7, 9, 10]
  | 13 => [2, 3, 4, 5, 9, 10, 40, 41, 42]
  | 14 => [2, 3, 4, 5, 9, 10, 40, 41, 42, 43]
  | 15 => [2, 3, 4, 5, 9, 10, 12, 40, 41, 42]
  | 16 => [2, 3, 4, 5, 9, 10, 12, 13, 14, 40, 41, 42]
  | 17 => [2, 3, 4, 5, 9, 10, 12, 13, 14, 15, 40, 41, 42]
  | 18 => [2, 3, 4, 5, 9, 10, 13, 14, 15, 16, 40, 41, 42]
  | 19 => [2, 3, 4, 5, 9, 10, 13, 14, 15, 16, 40, 41, 42]
  | 20 => [2, 3, 4, 5, 9, 10, 13, 14, 15, 16, 40, 41, 42, 79]
  | 21 => [2, 3, 4, 5, 9, 10, 40, 41, 42]
  | 22 => [2, 3, 4, 5, 9, 10, 13, 14, 15, 40, 41, 42, 87]
  | 23 => [2, 3, 4, 5, 9, 10, 40, 41, 42]
  | 24 => [2, 3, 4, 5, 9, 10, 13, 14, 15, 40, 41, 42, 102]
  | 28 => [2, 3, 4, 5, 9, 10, 40, 41, 42]
  | 29 => [4, 5]
  | _ => []
noncomputable def c15 : ACode :=
  (.seq
   (.reg 4 [
     ⟨some 2, none, .box 0 5 (.t 0)⟩,
     ⟨some 3, none, .box 1 1 (.t 1)⟩,
     ⟨some 4, none, .alloc 2 [(.sl .nil [])]⟩,
     ⟨some 5, none, .v (.mv (.c (.int .i64 0)))⟩] [2, 3, 4, 5])
   (.seq
    (.seq
     (.reg 0 [
       ⟨some 18, none, .v (.ld 5 true (.t 2))⟩,
       ⟨some 19, none, .v (.ld 1 false (.t 3))⟩,
       ⟨some 20, none, .call true (.c (.fn (.func 13) [] [])) [(.t 18), (.t 19)]⟩,
       ⟨some 6, none, .v (.mv (.t 20))⟩] [2, 3, 4, 5, 6])
     (.seq
      (.reg 0 [
        ⟨some 21, none, .v (.mv (.t 6))⟩,
        ⟨some 22, none, .v (.icmp .neq .i64 (.t 21) (.c (.int .i64 0)))⟩] [2, 3, 4, 5, 6, 22])
      (.cond (.t 22)
       (.seq
        (.reg 0 [
          ⟨some 23, none, .v (.mv (.t 6))⟩,
          ⟨none, none, .st 1 (.t 4) (.c (.sl .nil []))⟩,
          ⟨some 5, none, .v (.mv (.t 23))⟩] [4, 5])
        .ret)
       .skip)))
    (.seq
     (.reg 4 [
       ⟨some 24, none, .v (.ld 1 false (.t 3))⟩,
       ⟨some 25, none, .v (.len (.t 24))⟩,
       ⟨some 26, none, .mks 2 1 8 (.int .i64 0) (.t 25)⟩,
       ⟨some 7, none, .v (.mv (.t 26))⟩] [2, 3, 4, 5, 7])
     (.seq
      (.seq
       (.reg 0 [
         ⟨some 27, none, .v (.mv (.t 7))⟩,
         ⟨some 28, none, .v (.len (.t 27))⟩,
         ⟨some 29, none, .v (.mv (.c (.int .i64 0)))⟩] [2, 3, 4, 5, 7, 28, 29])
       (.block 0
        (.loop
         (.seq
          (.reg 0 [
            ⟨some 30, none, .v (.icmp .lss .i64 (.t 29) (.t 28))⟩] [2, 3, 4, 5, 7, 28, 29, 30])
          (.seq
           (.cond (.t 30)
            .skip
            (.exit 0))
           (.seq
            (.block 1
             (.seq
              (.reg 0 [
                ⟨some 31, none, .v (.mv (.t 29))⟩,
                ⟨some 8, none, .v (.mv (.t 31))⟩] [2, 3, 4, 5, 7, 8, 28, 29])
              (.reg 0 [
                ⟨some 32, none, .v (.mv (.t 7))⟩,
                ⟨some 33, none, .v (.mv (.t 8))⟩,
                ⟨some 34, none, .v (.mv (.t 8))⟩,
                ⟨some 35, none, .v (.ia 1 (.t 32) (.t 33))⟩,
                ⟨none, none, .st 1 (.t 35) (.t 34)⟩] [2, 3, 4, 5, 7, 28, 29])))
            (.reg 0 [
              ⟨some 36, none, .v (.arith .add .i64 (.t 29) (.c (.int .i64 1)))⟩,
              ⟨some 29, none, .v (.mv (.t 36))⟩] [2, 3, 4, 5, 7, 28, 29])))))))
      (.seq
       (.reg 0 [
         ⟨some 37, none, .v (.mv (.t 7))⟩,
         ⟨some 38, none, .v (.fn (.func 31) [] [(.t 3)])⟩,
         ⟨some 39, none, .call false (.c (.fn (.func 30) [] [])) [(.t 37), (.t 38)]⟩] [2, 3, 4, 5, 7])
       (.seq
        (.reg 1 [
          ⟨some 9, none, .alloc 0 [(.int .i64 0), (.int .i64 0), (.int .i64 0), (.int .i64 0)]⟩] [2, 3, 4, 5, 7, 9])
        (.seq
         (.reg 0 [
           ⟨some 10, none, .v (.mv (.c (.bool false)))⟩] [2, 3, 4, 5, 7, 9, 10])
         (.seq
          .skip
          (.seq
           (.seq
            (.reg 0 [
              ⟨some 40, none, .v (.mv (.t 7))⟩,
              ⟨some 41, none, .v (.len (.t 40))⟩,
              ⟨some 42, none, .v (.mv (.c (.int .i64 0)))⟩] [2, 3, 4, 5, 9, 10, 40, 41, 42])
            (.block 2
             (.loop
              (.seq
               (.reg 0 [
                 ⟨some 43, none, .v (.icmp .lss .i64 (.t 42) (.t 41))⟩] [2, 3, 4, 5, 9, 10, 40, 41, 42, 43])
               (.seq
                (.cond (.t 43)
                 .skip
                 (.exit 2))
                (.seq
                 (.block 3
                  (.seq
                   (.reg 4 [
                     ⟨some 44, none, .v (.ia 1 (.t 40) (.t 42))⟩,
                     ⟨some 45, none, .v (.ld 1 false (.t 44))⟩,
                     ⟨some 12, none, .alloc 2 [(.int .i64 0)]⟩,
                     ⟨none, none, .st 1 (.t 12) (.t 45)⟩] [2, 3, 4, 5, 9, 10, 12, 40, 41, 42])
                   (.seq
                    (.regx 20 [
                      (1, ⟨some 46, none, .v (.ld 1 false (.t 3))⟩),
                      (1, ⟨some 47, none, .v (.ld 1 false (.t 12))⟩),
                      (0, ⟨some 48, none, .v (.ia 4 (.t 46) (.t 47))⟩),
                      (0, ⟨some 49, none, .v (.fa 2 (.t 48))⟩),
                      (1, ⟨some 50, none, .v (.ld 1 false (.t 49))⟩),
                      (0, ⟨some 51, none, .v (.fa 4 (.t 2))⟩),
                      (1, ⟨some 52, none, .v (.ld 1 false (.t 51))⟩),
                      (0, ⟨some 53, none, .v (.arith .mul .i64 (.t 50) (.t 52))⟩),
                      (1, ⟨some 54, none, .v (.ld 1 false (.t 3))⟩),
                      (1, ⟨some 55, none, .v (.ld 1 false (.t 12))⟩),
                      (0, ⟨some 56, none, .v (.ia 4 (.t 54) (.t 55))⟩),
                      (0, ⟨some 57, none, .v (.fa 3 (.t 56))⟩),
                      (1, ⟨some 58, none, .v (.ld 1 false (.t 57))⟩),
                      (0, ⟨some 59, none, .v (.fa 4 (.t 2))⟩),
                      (1, ⟨some 60, none, .v (.ld 1 false (.t 59))⟩),
                      (0, ⟨some 61, none, .v (.arith .mul .i64 (.t 58) (.t 60))⟩),
                      (0, ⟨some 13, none, .alloc 16 [(.int .i64 0)]⟩),
                      (0, ⟨some 14, none, .alloc 17 [(.int .i64 0)]⟩),
                      (2, ⟨none, none, .st 1 (.t 13) (.t 53)⟩),
                      (2, ⟨none, none, .st 1 (.t 14) (.t 61)⟩)] [2, 3, 4, 5, 9, 10, 12, 13, 14, 40, 41, 42])
                    (.seq
                     (.reg 3 [
                       ⟨some 62, none, .v (.fn (.func 32) [] [(.t 12), (.t 4), (.t 2), (.t 9), (.t 13), (.t 14)])⟩,
                       ⟨some 15, none, .alloc 1 [.nilfn]⟩,
                       ⟨none, none, .st 1 (.t 15) (.t 62)⟩] [2, 3, 4, 5, 9, 10, 12, 13, 14, 15, 40, 41, 42])
                     (.seq
                      (.reg 0 [
                        ⟨some 63, none, .v (.ld 1 false (.t 3))⟩,
                        ⟨some 64, none, .v (.ld 1 false (.t 12))⟩,
                        ⟨some 65, none, .v (.ia 4 (.t 63) (.t 64))⟩,
                        ⟨some 66, none, .v (.fa 0 (.t 65))⟩,
                        ⟨some 67, none, .v (.ld 1 false (.t 66))⟩,
                        ⟨some 68, none, .v (.icmp .eql .i64 (.t 67) (.c (.int .i64 2)))⟩,
                        ⟨some 69, none, .v (.mv (.t 68))⟩,
                        ⟨some 70, some (69, true), .v (.mv (.t 10))⟩,
                        ⟨some 71, some (69, true), .v (.not (.t 70))⟩,
                        ⟨some 72, none, .pick (.t 69) (.t 71) (.c (.bool false))⟩,
                        ⟨some 16, none, .v (.mv (.t 72))⟩] [2, 3, 4, 5, 9, 10, 13, 14, 15, 16, 40, 41, 42])
                      (.seq
                       (.reg 0 [
                         ⟨some 73, none, .v (.mv (.t 10))⟩,
                         ⟨some 74, none, .v (.mv (.t 73))⟩,
                         ⟨some 75, some (74, false), .v (.mv (.t 16))⟩,
                         ⟨some 76, none, .pick (.t 74) (.c (.bool true)) (.t 75)⟩,
                         ⟨some 10, none, .v (.mv (.t 76))⟩] [2, 3, 4, 5, 9, 10, 13, 14, 15, 16, 40, 41, 42])
                       (.seq
                        (.seq
                         (.reg 0 [
                           ⟨some 77, none, .v (.ld 1 false (.t 4))⟩,
                           ⟨some 78, none, .v (.len (.t 77))⟩,
                           ⟨some 79, none, .v (.icmp .eql .i64 (.t 78) (.c (.int .i64 0)))⟩] [2, 3, 4, 5, 9, 10, 13, 14, 15, 16, 40, 41, 42, 79])
                         (.cond (.t 79)
                          (.seq
                           (.reg 0 [
                             ⟨some 80, none, .v (.ld 1 false (.t 15))⟩,
                             ⟨some 81, none, .v (.fa 2 (.t 2))⟩,
                             ⟨some 82, none, .v (.ld 1 false (.t 81))⟩,
                             ⟨some 83, none, .v (.fa 2 (.t 2))⟩,
                             ⟨some 84, none, .v (.ld 1 false (.t 83))⟩,
                             ⟨some 85, none, .v (.build [(.int .i64 0), (.int .i64 0), (.int .i64 0), (.int .i64 0)] [(2, 1, (.t 82)), (3, 1, (.t 84))])⟩,
                             ⟨some 86, none, .call false (.t 80) [(.t 85)]⟩] [2, 3, 4, 5, 9, 10, 40, 41, 42])
                           (.exit 3))
                          .skip))
                        (.seq
                         (.seq
                          (.reg 0 [
                            ⟨some 87, none, .v (.mv (.t 16))⟩] [2, 3, 4, 5, 9, 10, 13, 14, 15, 40, 41, 42, 87])
                          (.cond (.t 87)
                           (.seq
                            (.reg 0 [
                              ⟨some 88, none, .v (.ld 1 false (.t 15))⟩,
                              ⟨some 89, none, .v (.fa 0 (.t 9))⟩,
                              ⟨some 90, none, .v (.ld 1 false (.t 89))⟩,
                              ⟨some 91, none, .call true (.c (.fn (.func 33) [] [])) [(.t 90)]⟩,
                              ⟨some 92, none, .v (.arith .mul .i64 (.c (.int .i64 2)) (.t 91))⟩,
                              ⟨some 93, none, .v (.arith .add .i64 (.t 92) (.c (.int .i64 1)))⟩,
                              ⟨some 94, none, .v (.fa 2 (.t 2))⟩,
                              ⟨some 95, none, .v (.ld 1 false (.t 94))⟩,
                              ⟨some 96, none, .v (.fa 2 (.t 2))⟩,
                              ⟨some 97, none, .v (.ld 1 false (.t 96))⟩,
                              ⟨some 98, none, .v (.build [(.int .i64 0), (.int .i64 0), (.int .i64 0), (.int .i64 0)] [(1, 1, (.t 93)), (2, 1, (.t 95)), (3, 1, (.t 97))])⟩,
                              ⟨some 99, none, .call false (.t 88) [(.t 98)]⟩] [2, 3, 4, 5, 9, 10, 40, 41, 42])
                            (.exit 3))
                           .skip))
                         (.seq
                          (.reg 0 [
                            ⟨some 100, none, .v (.ld 5 true (.t 2))⟩,
                            ⟨some 101, none, .v (.ld 4 true (.t 9))⟩,
                            ⟨some 102, none, .call false (.c (.fn (.func 34) [] [])) [(.t 100), (.t 101)]⟩] [2, 3, 4, 5, 9, 10, 13, 14, 15, 40, 41, 42, 102])
                          (.block 4
                           (.rfun (.t 102) #[103] 131 ra15_0 rb15_0)))))))))))
                 (.reg 0 [
                   ⟨some 129, none, .v (.arith .add .i64 (.t 42) (.c (.int .i64 1)))⟩,
                   ⟨some 42, none, .v (.mv (.t 129))⟩] [2, 3, 4, 5, 9, 10, 40, 41, 42])))))))
           (.seq
            (.reg 0 [
              ⟨some 130, none, .v (.ld 1 false (.t 4))⟩,
              ⟨none, none, .st 1 (.t 4) (.t 130)⟩,
              ⟨some 5, none, .v (.mv (.c (.int .i64 0)))⟩] [4, 5])
            .ret))))))))))
theorem l15 : Callable Tryd.prog 15 := ⟨Tryd.f15, by kernel_rfl, by kernel_rfl, by kernel_rfl⟩
theorem a15 {args : List AVal} {H : AHeap} {n : Nat} {R : AOut → AHeap → Nat → Prop} (h : awp Tryd.prog c15 (postC [.c 4 1 false, .t 5] R) ⟨penv 0 args, H, n⟩) : ACalls Tryd.prog 15 args H n R :=
  acalls_of_awp' (fn := Tryd.f15) (c := Tryd.f15.body.getD .skip) (ac := c15) (fz := []) (im := [(10, 2), (21, 6), (23, 11), (24, 2), (27, 2)]) (kp := kp15) (rs := [.c 4 1 false, .t 5]) (by kernel_rfl) (by kernel_rfl) (by kernel_rfl) (by kernel_rfl) (by kernel_rfl) h

/-- gridwright/gridwrightref57.Layout -/
def kp16 (r : Nat) : List Nat := match r with
  | 0 => [1, 2]
  | 1 => [1, 2, 6]
  | 2 => [1, 2, 6, 22]
  | 3 => [4, 5]
  | 4 => [1, 2, 7]
  | 5 => [1, 2, 7, 8]
  | 6 => [1, 2, 7, 8, 9]
  | 7 => [1, 2, 7, 8, 9, 10]
  | 8 => [1, 2, 7, 8, 9, 10, 11]
  | 9 => [1, 2, 7, 8, 9, 10, 11, 12]
  | 10 => [1, 2, 7, 8, 9, 10, 11, 12, 25]
  | 12 => [1, 2, 7, 8, 9, 10, 11, 12, 13]
  | 13 => [1, 2, 7, 8, 9, 10, 11, 12, 13, 14]
  | 14 => [1, 2, 7, 8, 9, 10, 11, 12, 13, 14, 33]
  | 16 => [1, 2, 7, 8, 9, 10, 11, 12, 13, 14, 42]
  | 17 => [1, 2, 7, 8, 9, 10, 11, 12, 13, 14, 15]
  | 18 => [1, 2, 7, 8, 9, 10, 11, 12, 13, 14, 15, 16]
  | 19 => [1, 2, 7, 8, 9, 10, 11, 12, 13, 14, 15, 16, 17]
  | 21 => [1, 2, 7, 8, 9, 10, 11, 12, 13, 14, 15, 16, 17, 69]
  | 22 => [1, 2, 7, 8, 9, 10, 11, 12, 14, 15, 16, 17, 73]
  | 23 => [1, 2, 7, 11, 12, 14, 15, 16, 17]
  | 24 => [1, 2, 7, 8, 9, 10, 11, 12, 14, 15, 16, 17, 80]
  | 25 => [1, 2, 7, 10, 11, 12, 14, 15, 16, 17]
  | 26 => [1, 2, 7, 11, 12, 14, 15, 16, 17]
  | 27 => [1, 2, 7, 8, 10, 11, 12, 14, 15, 16, 17, 105]
  | 28 => [1, 2, 7, 11, 12, 14, 15, 16, 17]
  | 20 => [1, 2, 7, 11, 12, 14, 15, 16, 17]
  | 29 => [1, 2, 7, 11, 12, 14, 15, 16, 17, 131]
  | 30 => [1, 2, 7, 11, 12, 14, 15, 16, 17]
  | 31 => [1, 2, 7, 11, 12, 13, 14, 15, 16, 17]
  | 32 => [1, 2, 7, 8, 11, 12, 13, 14, 15, 16, 17]
  | 33 => [1, 2, 7, 8, 9, 11, 12, 13, 14, 16, 17]
  | 34 => [1, 2, 7, 8, 9, 10, 11, 12, 13, 14, 16, 17]
  | 35 => [1, 2, 7, 8, 9, 10, 11, 12, 13, 14, 17]
  | 36 => [1, 2, 7, 8, 9, 10, 11, 12, 13, 14]
  | 15 => [1, 2, 7, 8, 9, 10, 11, 12, 13, 14]
  | 11 => [1, 2, 7, 8, 9, 10, 11, 12]
  | 37 => [4, 5]
  | _ => []
def c16 : ACode :=
  (.seq
   (.reg 3 [
     ⟨some 2, none, .box 0 5 (.t 0)⟩,
     ⟨some 4, none, .v (.mv (.c (.sl .nil [])))⟩,
     ⟨some 5, none, .v (.mv (.c (.int .i64 0)))⟩] [1, 2])
   (.seq
    (.reg 0 [
      ⟨some 18, none, .v (.ld 5 true (.t 2))⟩,
      ⟨some 19, none, .v (.mv (.t 1))⟩,
      ⟨some 20, none, .call true (.c (.fn (.func 14) [] [])) [(.t 18), (.t 19)]⟩,
      ⟨some 6, none, .v (.mv (.t 20))⟩] [1, 2, 6])
    (.seq
     (.seq
      (.reg 0 [
        ⟨some 21, none, .v (.mv (.t 6))⟩,
        ⟨some 22, none, .v (.icmp .neq .i64 (.t 21) (.c (.int .i64 0)))⟩] [1, 2, 6, 22])
      (.cond (.t 22)
       (.seq
        (.reg 0 [
          ⟨some 23, none, .v (.mv (.t 6))⟩,
          ⟨some 4, none, .v (.mv (.c (.sl .nil [])))⟩,
          ⟨some 5, none, .v (.mv (.t 23))⟩] [4, 5])
        .ret)
       .skip))
     (.seq
      (.reg 0 [
        ⟨some 7, none, .v (.mv (.c (.sl .nil [])))⟩] [1, 2, 7])
      (.seq
       (.reg 0 [
         ⟨some 8, none, .v (.mv (.c (.int .i64 0)))⟩] [1, 2, 7, 8])
       (.seq
        (.reg 0 [
          ⟨some 9, none, .v (.mv (.c (.int .i64 0)))⟩] [1, 2, 7, 8, 9])
        (.seq
         (.reg 0 [
           ⟨some 10, none, .v (.mv (.c (.int .i64 0)))⟩] [1, 2, 7, 8, 9, 10])
         (.seq
          (.reg 0 [
            ⟨some 11, none, .v (.mv (.c (.int .i64 0)))⟩] [1, 2, 7, 8, 9, 10, 11])
          (.seq
           (.seq
            (.reg 0 [
              ⟨some 12, none, .v (.mv (.c (.int .i64 1)))⟩] [1, 2, 7, 8, 9, 10, 11, 12])
            (.block 0
             (.loop
              (.seq
               (.seq
                (.reg 0 [
                  ⟨some 24, none, .v (.mv (.t 12))⟩,
                  ⟨some 25, none, .v (.icmp .leq .i64 (.t 24) (.c (.int .i64 3)))⟩] [1, 2, 7, 8, 9, 10, 11, 12, 25])
                (.cond (.t 25)
                 .skip
                 (.exit 0)))
               (.seq
                (.block 1
                 (.seq
                  (.reg 0 [
                    ⟨some 28, none, .v (.mv (.t 12))⟩,
                    ⟨some 29, none, .v (.icmp .eql .i64 (.t 28) (.c (.int .i64 2)))⟩,
                    ⟨some 13, none, .v (.mv (.t 29))⟩] [1, 2, 7, 8, 9, 10, 11, 12, 13])
                  (.seq
                   (.reg 0 [
                     ⟨some 14, none, .v (.mv (.c (.int .i64 0)))⟩] [1, 2, 7, 8, 9, 10, 11, 12, 13, 14])
                   (.block 2
                    (.loop
                     (.seq
                      (.seq
                       (.reg 0 [
                         ⟨some 30, none, .v (.mv (.t 14))⟩,
                         ⟨some 31, none, .v (.mv (.t 1))⟩,
                         ⟨some 32, none, .v (.len (.t 31))⟩,
                         ⟨some 33, none, .v (.icmp .lss .i64 (.t 30) (.t 32))⟩] [1, 2, 7, 8, 9, 10, 11, 12, 13, 14, 33])
                       (.cond (.t 33)
                        .skip
                        (.exit 2)))
                      (.seq
                       (.block 3
                        (.seq
                         (.seq
                          (.reg 0 [
                            ⟨some 36, none, .v (.mv (.t 1))⟩,
                            ⟨some 37, none, .v (.mv (.t 14))⟩,
                            ⟨some 38, none, .v (.ia 4 (.t 36) (.t 37))⟩,
                            ⟨some 39, none, .v (.fa 0 (.t 38))⟩,
                            ⟨some 40, none, .v (.ld 1 false (.t 39))⟩,
                            ⟨some 41, none, .v (.mv (.t 12))⟩,
                            ⟨some 42, none, .v (.icmp .neq .i64 (.t 40) (.t 41))⟩] [1, 2, 7, 8, 9, 10, 11, 12, 13, 14, 42])
                          (.cond (.t 42)
                           (.exit 3)
                           .skip))
                         (.seq
                          (.reg 0 [
                            ⟨some 43, none, .v (.mv (.t 1))⟩,
                            ⟨some 44, none, .v (.mv (.t 14))⟩,
                            ⟨some 45, none, .v (.ia 4 (.t 43) (.t 44))⟩,
                            ⟨some 46, none, .v (.fa 2 (.t 45))⟩,
                            ⟨some 47, none, .v (.ld 1 false (.t 46))⟩,
                            ⟨some 48, none, .v (.fa 4 (.t 2))⟩,
                            ⟨some 49, none, .v (.ld 1 false (.t 48))⟩,
                            ⟨some 50, none, .v (.arith .mul .i64 (.t 47) (.t 49))⟩,
                            ⟨some 15, none, .v (.mv (.t 50))⟩] [1, 2, 7, 8, 9, 10, 11, 12, 13, 14, 15])
                          (.seq
                           (.reg 0 [
                             ⟨some 51, none, .v (.mv (.t 1))⟩,
                             ⟨some 52, none, .v (.mv (.t 14))⟩,
                             ⟨some 53, none, .v (.ia 4 (.t 51) (.t 52))⟩,
                             ⟨some 54, none, .v (.fa 3 (.t 53))⟩,
                             ⟨some 55, none, .v (.ld 1 false (.t 54))⟩,
                             ⟨some 56, none, .v (.fa 4 (.t 2))⟩,
                             ⟨some 57, none, .v (.ld 1 false (.t 56))⟩,
                             ⟨some 58, none, .v (.arith .mul .i64 (.t 55) (.t 57))⟩,
                             ⟨some 16, none, .v (.mv (.t 58))⟩] [1, 2, 7, 8, 9, 10, 11, 12, 13, 14, 15, 16])
                           (.seq
                            (.reg 9 [
                              ⟨some 59, none, .v (.mv (.t 14))⟩,
                              ⟨some 60, none, .v (.mv (.t 8))⟩,
                              ⟨some 61, none, .v (.fa 2 (.t 2))⟩,
                              ⟨some 62, none, .v (.ld 1 false (.t 61))⟩,
                              ⟨some 63, none, .v (.fa 2 (.t 2))⟩,
                              ⟨some 64, none, .v (.ld 1 false (.t 63))⟩,
                              ⟨some 65, none, .v (.build [(.int .i64 0), (.int .i64 0), (.int .i64 0), (.int .i64 0)] [(0, 1, (.t 59)), (1, 1, (.t 60)), (2, 1, (.t 62)), (3, 1, (.t 64))])⟩,
                              ⟨some 17, none, .alloc 7 [(.int .i64 0), (.int .i64 0), (.int .i64 0), (.int .i64 0)]⟩,
                              ⟨none, none, .st 4 (.t 17) (.t 65)⟩] [1, 2, 7, 8, 9, 10, 11, 12, 13, 14, 15, 16, 17])
                            (.seq
                             (.block 4
                              (.seq
                               (.reg 0 [
                                 ⟨some 70, none, .v (.mv (.t 7))⟩,
                                 ⟨some 71, none, .v (.len (.t 70))⟩,
                                 ⟨some 72, none, .v (.icmp .eql .i64 (.t 71) (.c (.int .i64 0)))⟩,
                                 ⟨some 69, none, .v (.mv (.t 72))⟩] [1, 2, 7, 8, 9, 10, 11, 12, 13, 14, 15, 16, 17, 69])
                               (.cond (.t 69)
                                .skip
                                (.seq
                                 (.reg 0 [
                                   ⟨some 74, none, .v (.mv (.t 13))⟩,
                                   ⟨some 73, none, .v (.mv (.t 74))⟩] [1, 2, 7, 8, 9, 10, 11, 12, 14, 15, 16, 17, 73])
                                 (.cond (.t 73)
                                  (.reg 0 [
                                    ⟨some 75, none, .v (.mv (.t 8))⟩,
                                    ⟨some 76, none, .call true (.c (.fn (.func 35) [] [])) [(.t 75)]⟩,
                                    ⟨some 77, none, .v (.arith .mul .i64 (.c (.int .i64 2)) (.t 76))⟩,
                                    ⟨some 78, none, .v (.arith .add .i64 (.t 77) (.c (.int .i64 1)))⟩,
                                    ⟨some 79, none, .v (.fa 1 (.t 17))⟩,
                                    ⟨none, none, .st 1 (.t 79) (.t 78)⟩] [1, 2, 7, 11, 12, 14, 15, 16, 17])
                                  (.seq
                                   (.reg 0 [
                                     ⟨some 81, none, .v (.mv (.t 9))⟩,
                                     ⟨some 82, none, .v (.mv (.t 15))⟩,
                                     ⟨some 83, none, .v (.arith .add .i64 (.t 81) (.t 82))⟩,
                                     ⟨some 84, none, .v (.fa 0 (.t 2))⟩,
                                     ⟨some 85, none, .v (.ld 1 false (.t 84))⟩,
                                     ⟨some 86, none, .v (.fa 2 (.t 2))⟩,
                                     ⟨some 87, none, .v (.ld 1 false (.t 86))⟩,
                                     ⟨some 88, none, .v (.arith .sub .i64 (.t 85) (.t 87))⟩,
                                     ⟨some 89, none, .v (.icmp .leq .i64 (.t 83) (.t 88))⟩,
                                     ⟨some 90, none, .v (.mv (.t 89))⟩,
                                     ⟨some 91, some (90, true), .v (.mv (.t 10))⟩,
                                     ⟨some 92, some (90, true), .v (.mv (.t 16))⟩,
                                     ⟨some 93, some (90, true), .v (.arith .add .i64 (.t 91) (.t 92))⟩,
                                     ⟨some 94, some (90, true), .v (.fa 1 (.t 2))⟩,
                                     ⟨some 95, some (90, true), .v (.ld 1 false (.t 94))⟩,
                                     ⟨some 96, some (90, true), .v (.fa 2 (.t 2))⟩,
                                     ⟨some 97, some (90, true), .v (.ld 1 false (.t 96))⟩,
                                     ⟨some 98, some (90, true), .v (.arith .sub .i64 (.t 95) (.t 97))⟩,
                                     ⟨some 99, some (90, true), .v (.icmp .leq .i64 (.t 93) (.t 98))⟩,
                                     ⟨some 100, none, .pick (.t 90) (.t 99) (.c (.bool false))⟩,
                                     ⟨some 80, none, .v (.mv (.t 100))⟩] [1, 2, 7, 8, 9, 10, 11, 12, 14, 15, 16, 17, 80])
                                   (.cond (.t 80)
                                    (.seq
                                     (.reg 0 [
                                       ⟨some 101, none, .v (.mv (.t 9))⟩,
                                       ⟨some 102, none, .v (.fa 2 (.t 17))⟩,
                                       ⟨none, none, .st 1 (.t 102) (.t 101)⟩] [1, 2, 7, 10, 11, 12, 14, 15, 16, 17])
                                     (.reg 0 [
                                       ⟨some 103, none, .v (.mv (.t 10))⟩,
                                       ⟨some 104, none, .v (.fa 3 (.t 17))⟩,
                                       ⟨none, none, .st 1 (.t 104) (.t 103)⟩] [1, 2, 7, 11, 12, 14, 15, 16, 17]))
                                    (.seq
                                     (.reg 0 [
                                       ⟨some 106, none, .v (.mv (.t 10))⟩,
                                       ⟨some 107, none, .v (.mv (.t 11))⟩,
                                       ⟨some 108, none, .v (.arith .add .i64 (.t 106) (.t 107))⟩,
                                       ⟨some 109, none, .v (.fa 3 (.t 2))⟩,
                                       ⟨some 110, none, .v (.ld 1 false (.t 109))⟩,
                                       ⟨some 111, none, .v (.arith .add .i64 (.t 108) (.t 110))⟩,
                                       ⟨some 112, none, .v (.mv (.t 16))⟩,
                                       ⟨some 113, none, .v (.arith .add .i64 (.t 111) (.t 112))⟩,
                                       ⟨some 114, none, .v (.fa 1 (.t 2))⟩,
                                       ⟨some 115, none, .v (.ld 1 false (.t 114))⟩,
                                       ⟨some 116, none, .v (.fa 2 (.t 2))⟩,
                                       ⟨some 117, none, .v (.ld 1 false (.t 116))⟩,
                                       ⟨some 118, none, .v (.arith .sub .i64 (.t 115) (.t 117))⟩,
                                       ⟨some 119, none, .v (.icmp .leq .i64 (.t 113) (.t 118))⟩,
                                       ⟨some 105, none, .v (.mv (.t 119))⟩] [1, 2, 7, 8, 10, 11, 12, 14, 15, 16, 17, 105])
                                     (.cond (.t 105)
                                      (.reg 0 [
                                        ⟨some 120, none, .v (.mv (.t 10))⟩,
                                        ⟨some 121, none, .v (.mv (.t 11))⟩,
                                        ⟨some 122, none, .v (.arith .add .i64 (.t 120) (.t 121))⟩,
                                        ⟨some 123, none, .v (.fa 3 (.t 2))⟩,
                                        ⟨some 124, none, .v (.ld 1 false (.t 123))⟩,
                                        ⟨some 125, none, .v (.arith .add .i64 (.t 122) (.t 124))⟩,
                                        ⟨some 126, none, .v (.fa 3 (.t 17))⟩,
                                        ⟨none, none, .st 1 (.t 126) (.t 125)⟩] [1, 2, 7, 11, 12, 14, 15, 16, 17])
                                      (.reg 0 [
                                        ⟨some 66, none, .v (.mv (.t 8))⟩,
                                        ⟨some 67, none, .v (.arith .add .i64 (.t 66) (.c (.int .i64 1)))⟩,
                                        ⟨some 68, none, .v (.fa 1 (.t 17))⟩,
                                        ⟨none, none, .st 1 (.t 68) (.t 67)⟩] [1, 2, 7, 11, 12, 14, 15, 16, 17]))))))))))
                             (.seq
                              (.seq
                               (.reg 0 [
                                 ⟨some 127, none, .v (.fa 2 (.t 17))⟩,
                                 ⟨some 128, none, .v (.ld 1 false (.t 127))⟩,
                                 ⟨some 129, none, .v (.fa 2 (.t 2))⟩,
                                 ⟨some 130, none, .v (.ld 1 false (.t 129))⟩,
                                 ⟨some 131, none, .v (.icmp .eql .i64 (.t 128) (.t 130))⟩] [1, 2, 7, 11, 12, 14, 15, 16, 17, 131])
                               (.cond (.t 131)
                                (.reg 0 [
                                  ⟨some 11, none, .v (.mv (.c (.int .i64 0)))⟩] [1, 2, 7, 11, 12, 14, 15, 16, 17])
                                .skip))
                              (.seq
                               (.reg 0 [
                                 ⟨some 13, none, .v (.mv (.c (.bool false)))⟩] [1, 2, 7, 11, 12, 13, 14, 15, 16, 17])
                               (.seq
                                (.reg 0 [
                                  ⟨some 132, none, .v (.fa 1 (.t 17))⟩,
                                  ⟨some 133, none, .v (.ld 1 false (.t 132))⟩,
                                  ⟨some 8, none, .v (.mv (.t 133))⟩] [1, 2, 7, 8, 11, 12, 13, 14, 15, 16, 17])
                                (.seq
                                 (.reg 0 [
                                   ⟨some 134, none, .v (.fa 2 (.t 17))⟩,
                                   ⟨some 135, none, .v (.ld 1 false (.t 134))⟩,
                                   ⟨some 136, none, .v (.mv (.t 15))⟩,
                                   ⟨some 137, none, .v (.arith .add .i64 (.t 135) (.t 136))⟩,
                                   ⟨some 138, none, .v (.fa 3 (.t 2))⟩,
                                   ⟨some 139, none, .v (.ld 1 false (.t 138))⟩,
                                   ⟨some 140, none, .v (.arith .add .i64 (.t 137) (.t 139))⟩,
                                   ⟨some 9, none, .v (.mv (.t 140))⟩] [1, 2, 7, 8, 9, 11, 12, 13, 14, 16, 17])
                                 (.seq
                                  (.reg 0 [
                                    ⟨some 141, none, .v (.fa 3 (.t 17))⟩,
                                    ⟨some 142, none, .v (.ld 1 false (.t 141))⟩,
                                    ⟨some 10, none, .v (.mv (.t 142))⟩] [1, 2, 7, 8, 9, 10, 11, 12, 13, 14, 16, 17])
                                  (.seq
                                   (.reg 0 [
                                     ⟨some 143, none, .v (.mv (.t 11))⟩,
                                     ⟨some 144, none, .v (.mv (.t 16))⟩,
                                     ⟨some 145, none, .v (.mnmx true .i64 [(.t 143), (.t 144)])⟩,
                                     ⟨some 11, none, .v (.mv (.t 145))⟩] [1, 2, 7, 8, 9, 10, 11, 12, 13, 14, 17])
                                   (.reg 5 [
                                     ⟨some 146, none, .v (.mv (.t 7))⟩,
                                     ⟨some 147, none, .v (.ld 4 true (.t 17))⟩,
                                     ⟨some 148, none, .v (.bs 4 1 (.agg [(.int .i64 0), (.int .i64 0), (.int .i64 0), (.int .i64 0)]) [(0, (.t 147))])⟩,
                                     ⟨some 149, none, .app 3 4 32 (.t 146) (.t 148) false⟩,
                                     ⟨some 7, none, .v (.mv (.t 149))⟩] [1, 2, 7, 8, 9, 10, 11, 12, 13, 14])))))))))))))
                       (.reg 0 [
                         ⟨some 34, none, .v (.mv (.t 14))⟩,
                         ⟨some 35, none, .v (.arith .add .i64 (.t 34) (.c (.int .i64 1)))⟩,
                         ⟨some 14, none, .v (.mv (.t 35))⟩] [1, 2, 7, 8, 9, 10, 11, 12, 13, 14]))))))))
                (.reg 0 [
                  ⟨some 26, none, .v (.mv (.t 12))⟩,
                  ⟨some 27, none, .v (.arith .add .i64 (.t 26) (.c (.int .i64 1)))⟩,
                  ⟨some 12, none, .v (.mv (.t 27))⟩] [1, 2, 7, 8, 9, 10, 11, 12]))))))
           (.seq
            (.reg 0 [
              ⟨some 150, none, .v (.mv (.t 7))⟩,
              ⟨some 4, none, .v (.mv (.t 150))⟩,
              ⟨some 5, none, .v (.mv (.c (.int .i64 0)))⟩] [4, 5])
            .ret))))))))))
theorem l16 : Callable Tryd.prog 16 := ⟨Tryd.f16, by kernel_rfl, by kernel_rfl, by kernel_rfl⟩
theorem a16 {args : List AVal} {H : AHeap} {n : Nat} {R : AOut → AHeap → Nat → Prop} (h : awp Tryd.prog c16 (postC [.t 4, .t 5] R) ⟨penv 0 args, H, n⟩) : ACalls Tryd.prog 16 args H n R :=
  acalls_of_awp' (fn := Tryd.f16) (c := Tryd.f16.body.getD .skip) (ac := c16) (fz := []) (im := []) (kp := kp16) (rs := [.t 4, .t 5]) (by kernel_rfl) (by kernel_rfl) (by kernel_rfl) (by kernel_rfl) (by kernel_rfl) h

/-- gridwright/press.candidates.1 -/
def kp43 (r : Nat) : List Nat := match r with
  | 0 => []
  | _ => []
def c43 : ACode :=
  (.reg 0 [
    ⟨some 4, none, .v (.mv (.t 0))⟩,
    ⟨some 5, none, .v (.fa 0 (.t 1))⟩,
    ⟨some 6, none, .v (.ld 1 false (.t 5))⟩,
    ⟨some 7, none, .v (.fa 2 (.t 1))⟩,
    ⟨some 8, none, .v (.ld 1 false (.t 7))⟩,
    ⟨some 9, none, .v (.fa 1 (.t 1))⟩,
    ⟨some 10, none, .v (.ld 1 false (.t 9))⟩,
    ⟨some 11, none, .v (.build [(.int .i64 0), (.int .i64 0), (.int .i64 0), (.int .i64 0)] [(1, 1, (.t 6)), (2, 1, (.t 8)), (3, 1, (.t 10))])⟩,
    ⟨some 12, none, .call false (.t 4) [(.t 11)]⟩,
    ⟨some 13, none, .v (.mv (.t 12))⟩,
    ⟨some 14, some (13, true), .v (.mv (.t 0))⟩,
    ⟨some 15, some (13, true), .v (.fa 0 (.t 1))⟩,
    ⟨some 16, some (13, true), .v (.ld 1 false (.t 15))⟩,
    ⟨some 17, some (13, true), .v (.fa 2 (.t 2))⟩,
    ⟨some 18, some (13, true), .v (.ld 1 false (.t 17))⟩,
    ⟨some 19, some (13, true), .v (.fa 1 (.t 1))⟩,
    ⟨some 20, some (13, true), .v (.ld 1 false (.t 19))⟩,
    ⟨some 21, some (13, true), .v (.fa 3 (.t 1))⟩,
    ⟨some 22, some (13, true), .v (.ld 1 false (.t 21))⟩,
    ⟨some 23, some (13, true), .v (.arith .add .i64 (.t 20) (.t 22))⟩,
    ⟨some 24, some (13, true), .v (.fa 3 (.t 2))⟩,
    ⟨some 25, some (13, true), .v (.ld 1 false (.t 24))⟩,
    ⟨some 26, some (13, true), .v (.arith .add .i64 (.t 23) (.t 25))⟩,
    ⟨some 27, some (13, true), .v (.build [(.int .i64 0), (.int .i64 0), (.int .i64 0), (.int .i64 0)] [(1, 1, (.t 16)), (2, 1, (.t 18)), (3, 1, (.t 26))])⟩,
    ⟨some 28, some (13, true), .call false (.t 14) [(.t 27)]⟩,
    ⟨some 29, none, .pick (.t 13) (.t 28) (.c (.bool false))⟩,
    ⟨some 30, none, .v (.mv (.t 29))⟩,
    ⟨some 31, some (30, true), .v (.mv (.t 0))⟩,
    ⟨some 32, some (30, true), .v (.fa 0 (.t 1))⟩,
    ⟨some 33, some (30, true), .v (.ld 1 false (.t 32))⟩,
    ⟨some 34, some (30, true), .v (.arith .add .i64 (.t 33) (.c (.int .i64 1)))⟩,
    ⟨some 35, some (30, true), .v (.fa 2 (.t 2))⟩,
    ⟨some 36, some (30, true), .v (.ld 1 false (.t 35))⟩,
    ⟨some 37, some (30, true), .v (.fa 2 (.t 2))⟩,
    ⟨some 38, some (30, true), .v (.ld 1 false (.t 37))⟩,
    ⟨some 39, some (30, true), .v (.build [(.int .i64 0), (.int .i64 0), (.int .i64 0), (.int .i64 0)] [(1, 1, (.t 34)), (2, 1, (.t 36)), (3, 1, (.t 38))])⟩,
    ⟨some 40, some (30, true), .call false (.t 31) [(.t 39)]⟩,
    ⟨some 41, none, .pick (.t 30) (.t 40) (.c (.bool false))⟩] [])
theorem l43 : Callable Tryd.prog 43 := ⟨Tryd.f43, by kernel_rfl, by kernel_rfl, by kernel_rfl⟩
theorem a43 {args : List AVal} {H : AHeap} {n : Nat} {R : AOut → AHeap → Nat → Prop} (h : awp Tryd.prog c43 (postC [] R) ⟨penv 0 args, H, n⟩) : ACalls Tryd.prog 43 args H n R :=
  acalls_of_awp' (fn := Tryd.f43) (c := Tryd.f43.body.getD .skip) (ac := c43) (fz := []) (im := [(0, 8), (0, 24), (0, 36)]) (kp := kp43) (rs := []) (by kernel_rfl) (by kernel_rfl) (by kernel_rfl) (by kernel_rfl) (by kernel_rfl) h

/-- gridwright/press.candidates -/
def kp34 (r : Nat) : List Nat := match r with
  | 0 => [2, 3]
  | 1 => [4]
  | _ => []
def c34 : ACode :=
  (.seq
   (.reg 3 [
     ⟨some 2, none, .box 0 5 (.t 0)⟩,
     ⟨some 3, none, .box 1 4 (.t 1)⟩,
     ⟨some 4, none, .v (.mv (.c .nilfn))⟩] [2, 3])
   (.seq
    (.reg 0 [
      ⟨some 5, none, .v (.fn (.func 43) [] [(.t 3), (.t 2)])⟩,
      ⟨some 4, none, .v (.mv (.t 5))⟩] [4])
    .ret))
theorem l34 : Callable Tryd.prog 34 := ⟨Tryd.f34, by kernel_rfl, by kernel_rfl, by kernel_rfl⟩
theorem a34 {args : List AVal} {H : AHeap} {n : Nat} {R : AOut → AHeap → Nat → Prop} (h : awp Tryd.prog c34 (postC [.t 4] R) ⟨penv 0 args, H, n⟩) : ACalls Tryd.prog 34 args H n R :=
  acalls_of_awp' (fn := Tryd.f34) (c := Tryd.f34.body.getD .skip) (ac := c34) (fz := []) (im := []) (kp := kp34) (rs := [.t 4]) (by kernel_rfl) (by kernel_rfl) (by kernel_rfl) (by kernel_rfl) (by kernel_rfl) h

/-- gridwright/press.Layout.2 -/
def kp32 (r : Nat) : List Nat := match r with
  | 0 => [1, 2, 3, 4, 5, 6, 7]
  | 1 => [2, 3, 4, 5, 6, 7]
  | 2 => [3, 4, 5, 6, 7]
  | 3 => [3, 4, 5, 6, 7, 18]
  | 4 => [3, 4, 5, 6, 7]
  | 5 => []
  | _ => []
def c32 : ACode :=
  (.seq
   (.reg 1 [
     ⟨some 7, none, .box 0 4 (.t 0)⟩] [1, 2, 3, 4, 5, 6, 7])
   (.seq
    (.reg 0 [
      ⟨some 8, none, .v (.ld 1 false (.t 1))⟩,
      ⟨some 9, none, .v (.fa 0 (.t 7))⟩,
      ⟨none, none, .st 1 (.t 9) (.t 8)⟩] [2, 3, 4, 5, 6, 7])
    (.seq
     (.reg 5 [
       ⟨some 10, none, .v (.ld 1 false (.t 2))⟩,
       ⟨some 11, none, .v (.ld 4 true (.t 7))⟩,
       ⟨some 12, none, .v (.bs 4 1 (.agg [(.int .i64 0), (.int .i64 0), (.int .i64 0), (.int .i64 0)]) [(0, (.t 11))])⟩,
       ⟨some 13, none, .app 3 4 32 (.t 10) (.t 12) false⟩,
       ⟨none, none, .st 1 (.t 2) (.t 13)⟩] [3, 4, 5, 6, 7])
     (.seq
      (.seq
       (.reg 0 [
         ⟨some 14, none, .v (.fa 2 (.t 7))⟩,
         ⟨some 15, none, .v (.ld 1 false (.t 14))⟩,
         ⟨some 16, none, .v (.fa 2 (.t 3))⟩,
         ⟨some 17, none, .v (.ld 1 false (.t 16))⟩,
         ⟨some 18, none, .v (.icmp .eql .i64 (.t 15) (.t 17))⟩] [3, 4, 5, 6, 7, 18])
       (.cond (.t 18)
        (.reg 0 [
          ⟨some 19, none, .v (.fa 3 (.t 4))⟩,
          ⟨none, none, .st 1 (.t 19) (.c (.int .i64 0))⟩] [3, 4, 5, 6, 7])
        .skip))
      (.reg 0 [
        ⟨some 20, none, .v (.fa 1 (.t 7))⟩,
        ⟨some 21, none, .v (.ld 1 false (.t 20))⟩,
        ⟨some 22, none, .v (.fa 3 (.t 7))⟩,
        ⟨some 23, none, .v (.ld 1 false (.t 22))⟩,
        ⟨some 24, none, .v (.fa 2 (.t 7))⟩,
        ⟨some 25, none, .v (.ld 1 false (.t 24))⟩,
        ⟨some 26, none, .v (.ld 1 false (.t 5))⟩,
        ⟨some 27, none, .v (.arith .add .i64 (.t 25) (.t 26))⟩,
        ⟨some 28, none, .v (.fa 3 (.t 3))⟩,
        ⟨some 29, none, .v (.ld 1 false (.t 28))⟩,
        ⟨some 30, none, .v (.arith .add .i64 (.t 27) (.t 29))⟩,
        ⟨some 31, none, .v (.fa 3 (.t 4))⟩,
        ⟨some 32, none, .v (.ld 1 false (.t 31))⟩,
        ⟨some 33, none, .v (.ld 1 false (.t 6))⟩,
        ⟨some 34, none, .v (.mnmx true .i64 [(.t 32), (.t 33)])⟩,
        ⟨some 35, none, .v (.build [(.int .i64 0), (.int .i64 0), (.int .i64 0), (.int .i64 0)] [(0, 1, (.t 21)), (1, 1, (.t 23)), (2, 1, (.t 30)), (3, 1, (.t 34))])⟩,
        ⟨none, none, .st 4 (.t 4) (.t 35)⟩] [])))))
theorem l32 : Callable Tryd.prog 32 := ⟨Tryd.f32, by kernel_rfl, by kernel_rfl, by kernel_rfl⟩
theorem a32 {args : List AVal} {H : AHeap} {n : Nat} {R : AOut → AHeap → Nat → Prop} (h : awp Tryd.prog c32 (postC [] R) ⟨penv 0 args, H, n⟩) : ACalls Tryd.prog 32 args H n R :=
  acalls_of_awp' (fn := Tryd.f32) (c := Tryd.f32.body.getD .skip) (ac := c32) (fz := []) (im := []) (kp := kp32) (rs := []) (by kernel_rfl) (by kernel_rfl) (by kernel_rfl) (by kernel_rfl) (by kernel_rfl) h

/-- gridwright/press.Print -/
def kp11 (r : Nat) : List Nat := match r with
  | 0 => [1, 2, 4]
  | 1 => [1, 2, 4, 5, 6]
  | 2 => [1, 2, 4, 5, 6, 20]
  | 3 => [4, 5]
  | 4 => [1, 2, 4, 6, 7]
  | 5 => [1, 2, 4, 6, 7]
  | 6 => [1, 2, 4, 6, 7]
  | 7 => [1, 2, 4, 7, 31, 32, 33]
  | 8 => [1, 2, 4, 7, 31, 32, 33, 34]
  | 9 => [1, 2, 4, 7, 9, 31, 32, 33]
  | 10 => [1, 2, 4, 7, 9, 10, 31, 32, 33]
  | 11 => [1, 2, 4, 7, 10, 31, 32, 33, 58, 59, 60]
  | 12 => [1, 2, 4, 7, 10, 31, 32, 33, 58, 59, 60, 61]
  | 13 => [1, 2, 4, 7, 10, 12, 31, 32, 33, 58, 59, 60]
  | 14 => [1, 2, 4, 7, 10, 31, 32, 33, 58, 59, 60]
  | 15 => [1, 2, 4, 7, 10, 31, 32, 33, 58, 59, 60]
  | 16 => [1, 2, 4, 7, 10, 31, 32, 33]
  | 17 => [1, 2, 4, 7, 31, 32, 33]
  | 18 => [1, 2, 4, 7, 31, 32, 33]
  | 19 => [4, 5]
  | _ => []
def c11 : ACode :=
  (.seq
   (.reg 3 [
     ⟨some 2, none, .box 0 5 (.t 0)⟩,
     ⟨some 4, none, .alloc 1 [(.sl .nil [])]⟩,
     ⟨some 5, none, .v (.mv (.c (.int .i64 0)))⟩] [1, 2, 4])
   (.seq
    (.reg 0 [
      ⟨some 14, none, .v (.ld 5 true (.t 2))⟩,
      ⟨some 15, none, .v (.mv (.t 1))⟩,
      ⟨some 16, none, .call true (.c (.fn (.func 15) [] [])) [(.t 14), (.t 15)]⟩,
      ⟨some 13, none, .v (.mv (.t 16))⟩,
      ⟨some 17, none, .v (.ext 0 (.t 13))⟩,
      ⟨some 18, none, .v (.ext 1 (.t 13))⟩,
      ⟨some 6, none, .v (.mv (.t 17))⟩,
      ⟨some 5, none, .v (.mv (.t 18))⟩] [1, 2, 4, 5, 6])
    (.seq
     (.seq
      (.reg 0 [
        ⟨some 19, none, .v (.mv (.t 5))⟩,
        ⟨some 20, none, .v (.icmp .neq .i64 (.t 19) (.c (.int .i64 0)))⟩] [1, 2, 4, 5, 6, 20])
      (.cond (.t 20)
       (.seq
        (.reg 0 [
          ⟨some 21, none, .v (.mv (.t 5))⟩,
          ⟨none, none, .st 1 (.t 4) (.c (.sl .nil []))⟩,
          ⟨some 5, none, .v (.mv (.t 21))⟩] [4, 5])
        .ret)
       .skip))
     (.seq
      (.reg 0 [
        ⟨some 22, none, .v (.fn (.func 22) [] [(.t 4)])⟩,
        ⟨some 7, none, .v (.mv (.t 22))⟩] [1, 2, 4, 6, 7])
      (.seq
       (.reg 0 [
         ⟨some 23, none, .v (.mv (.t 7))⟩,
         ⟨some 24, none, .v (.fa 0 (.t 2))⟩,
         ⟨some 25, none, .v (.ld 1 false (.t 24))⟩,
         ⟨some 26, none, .call false (.t 23) [(.t 25), (.c (.int .u8 32))]⟩] [1, 2, 4, 6, 7])
       (.seq
        (.reg 0 [
          ⟨some 27, none, .v (.mv (.t 7))⟩,
          ⟨some 28, none, .v (.fa 1 (.t 2))⟩,
          ⟨some 29, none, .v (.ld 1 false (.t 28))⟩,
          ⟨some 30, none, .call false (.t 27) [(.t 29), (.c (.int .u8 10))]⟩] [1, 2, 4, 6, 7])
        (.seq
         (.seq
          (.reg 0 [
            ⟨some 31, none, .v (.mv (.t 6))⟩,
            ⟨some 32, none, .v (.len (.t 31))⟩,
            ⟨some 33, none, .v (.mv (.c (.int .i64 0)))⟩] [1, 2, 4, 7, 31, 32, 33])
          (.block 0
           (.loop
            (.seq
             (.reg 0 [
               ⟨some 34, none, .v (.icmp .lss .i64 (.t 33) (.t 32))⟩] [1, 2, 4, 7, 31, 32, 33, 34])
             (.seq
              (.cond (.t 34)
               .skip
               (.exit 0))
              (.seq
               (.block 1
                (.seq
                 (.reg 4 [
                   ⟨some 35, none, .v (.ia 4 (.t 31) (.t 33))⟩,
                   ⟨some 36, none, .v (.ld 4 true (.t 35))⟩,
                   ⟨some 9, none, .alloc 2 [(.int .i64 0), (.int .i64 0), (.int .i64 0), (.int .i64 0)]⟩,
                   ⟨none, none, .st 4 (.t 9) (.t 36)⟩] [1, 2, 4, 7, 9, 31, 32, 33])
                 (.seq
                  (.reg 7 [
                    ⟨some 37, none, .v (.mv (.t 1))⟩,
                    ⟨some 38, none, .v (.fa 0 (.t 9))⟩,
                    ⟨some 39, none, .v (.ld 1 false (.t 38))⟩,
                    ⟨some 40, none, .v (.ia 4 (.t 37) (.t 39))⟩,
                    ⟨some 41, none, .v (.ld 4 true (.t 40))⟩,
                    ⟨some 10, none, .alloc 5 [(.int .i64 0), (.int .i64 0), (.int .i64 0), (.int .i64 0)]⟩,
                    ⟨none, none, .st 4 (.t 10) (.t 41)⟩] [1, 2, 4, 7, 9, 10, 31, 32, 33])
                  (.seq
                   (.seq
                    (.reg 0 [
                      ⟨some 42, none, .v (.fa 1 (.t 9))⟩,
                      ⟨some 43, none, .v (.ld 1 false (.t 42))⟩,
                      ⟨some 44, none, .v (.fa 2 (.t 9))⟩,
                      ⟨some 45, none, .v (.ld 1 false (.t 44))⟩,
                      ⟨some 46, none, .v (.fa 3 (.t 9))⟩,
                      ⟨some 47, none, .v (.ld 1 false (.t 46))⟩,
                      ⟨some 48, none, .v (.fa 2 (.t 10))⟩,
                      ⟨some 49, none, .v (.ld 1 false (.t 48))⟩,
                      ⟨some 50, none, .v (.fa 4 (.t 2))⟩,
                      ⟨some 51, none, .v (.ld 1 false (.t 50))⟩,
                      ⟨some 52, none, .v (.arith .mul .i64 (.t 49) (.t 51))⟩,
                      ⟨some 53, none, .v (.fa 3 (.t 10))⟩,
                      ⟨some 54, none, .v (.ld 1 false (.t 53))⟩,
                      ⟨some 55, none, .v (.fa 4 (.t 2))⟩,
                      ⟨some 56, none, .v (.ld 1 false (.t 55))⟩,
                      ⟨some 57, none, .v (.arith .mul .i64 (.t 54) (.t 56))⟩,
                      ⟨some 58, none, .v (.bs 1 5 (.int .i64 0) [(0, (.t 43)), (1, (.t 45)), (2, (.t 47)), (3, (.t 52)), (4, (.t 57))])⟩,
                      ⟨some 59, none, .v (.len (.t 58))⟩,
                      ⟨some 60, none, .v (.mv (.c (.int .i64 0)))⟩] [1, 2, 4, 7, 10, 31, 32, 33, 58, 59, 60])
                    (.block 2
                     (.loop
                      (.seq
                       (.reg 0 [
                         ⟨some 61, none, .v (.icmp .lss .i64 (.t 60) (.t 59))⟩] [1, 2, 4, 7, 10, 31, 32, 33, 58, 59, 60, 61])
                       (.seq
                        (.cond (.t 61)
                         .skip
                         (.exit 2))
                        (.seq
                         (.block 3
                          (.seq
                           (.reg 0 [
                             ⟨some 62, none, .v (.ia 1 (.t 58) (.t 60))⟩,
                             ⟨some 63, none, .v (.ld 1 false (.t 62))⟩,
                             ⟨some 12, none, .v (.mv (.t 63))⟩] [1, 2, 4, 7, 10, 12, 31, 32, 33, 58, 59, 60])
                           (.reg 0 [
                             ⟨some 64, none, .v (.mv (.t 7))⟩,
                             ⟨some 65, none, .v (.mv (.t 12))⟩,
                             ⟨some 66, none, .call false (.t 64) [(.t 65), (.c (.int .u8 32))]⟩] [1, 2, 4, 7, 10, 31, 32, 33, 58, 59, 60])))
                         (.reg 0 [
                           ⟨some 67, none, .v (.arith .add .i64 (.t 60) (.c (.int .i64 1)))⟩,
                           ⟨some 60, none, .v (.mv (.t 67))⟩] [1, 2, 4, 7, 10, 31, 32, 33, 58, 59, 60])))))))
                   (.seq
                    (.reg 8 [
                      ⟨some 68, none, .v (.ld 1 false (.t 4))⟩,
                      ⟨some 69, none, .v (.fa 0 (.t 10))⟩,
                      ⟨some 70, none, .v (.ld 1 false (.t 69))⟩,
                      ⟨some 71, none, .v (.arith .sub .i64 (.t 70) (.c (.int .i64 1)))⟩,
                      ⟨some 72, none, .v (.ixS (.c (.str [80, 83, 75])) (.t 71))⟩,
                      ⟨some 73, none, .v (.bs 1 2 (.int .u8 0) [(0, (.t 72)), (1, (.c (.int .u8 32)))])⟩,
                      ⟨some 74, none, .app 6 1 1 (.t 68) (.t 73) false⟩,
                      ⟨none, none, .st 1 (.t 4) (.t 74)⟩] [1, 2, 4, 7, 10, 31, 32, 33])
                    (.reg 0 [
                      ⟨some 75, none, .v (.mv (.t 7))⟩,
                      ⟨some 76, none, .v (.fa 1 (.t 10))⟩,
                      ⟨some 77, none, .v (.ld 1 false (.t 76))⟩,
                      ⟨some 78, none, .call false (.t 75) [(.t 77), (.c (.int .u8 10))]⟩] [1, 2, 4, 7, 31, 32, 33]))))))
               (.reg 0 [
                 ⟨some 79, none, .v (.arith .add .i64 (.t 33) (.c (.int .i64 1)))⟩,
                 ⟨some 33, none, .v (.mv (.t 79))⟩] [1, 2, 4, 7, 31, 32, 33])))))))
         (.seq
          (.reg 0 [
            ⟨some 80, none, .v (.ld 1 false (.t 4))⟩,
            ⟨none, none, .st 1 (.t 4) (.t 80)⟩,
            ⟨some 5, none, .v (.mv (.c (.int .i64 0)))⟩] [4, 5])
          .ret))))))))
theorem l11 : Callable Tryd.prog 11 := ⟨Tryd.f11, by kernel_rfl, by kernel_rfl, by kernel_rfl⟩
theorem a11 {args : List AVal} {H : AHeap} {n : Nat} {R : AOut → AHeap → Nat → Prop} (h : awp Tryd.prog c11 (postC [.c 4 1 false, .t 5] R) ⟨penv 0 args, H, n⟩) : ACalls Tryd.prog 11 args H n R :=
  acalls_of_awp' (fn := Tryd.f11) (c := Tryd.f11.body.getD .skip) (ac := c11) (fz := []) (im := [(5, 3), (6, 3), (14, 2), (17, 3)]) (kp := kp11) (rs := [.c 4 1 false, .t 5]) (by kernel_rfl) (by kernel_rfl) (by kernel_rfl) (by kernel_rfl) (by kernel_rfl) h

/-- gridwright/gridwrightref57.Print -/
def kp12 (r : Nat) : List Nat := match r with
  | 0 => [1, 2]
  | 1 => [1, 2, 6, 7]
  | 2 => [1, 2, 6, 7, 18]
  | 3 => [4, 5]
  | 4 => [1, 2, 6, 8]
  | 5 => [1, 2, 6, 8, 9]
  | 6 => [1, 2, 6, 8, 9, 32]
  | 8 => [1, 2, 6, 8, 9, 10]
  | 9 => [1, 2, 6, 8, 9]
  | 7 => [1, 2, 6, 8, 9]
  | 10 => [4, 5]
  | _ => []
def c12 : ACode :=
  (.seq
   (.reg 3 [
     ⟨some 2, none, .box 0 5 (.t 0)⟩,
     ⟨some 4, none, .v (.mv (.c (.sl .nil [])))⟩,
     ⟨some 5, none, .v (.mv (.c (.int .i64 0)))⟩] [1, 2])
   (.seq
    (.reg 0 [
      ⟨some 12, none, .v (.ld 5 true (.t 2))⟩,
      ⟨some 13, none, .v (.mv (.t 1))⟩,
      ⟨some 14, none, .call true (.c (.fn (.func 16) [] [])) [(.t 12), (.t 13)]⟩,
      ⟨some 11, none, .v (.mv (.t 14))⟩,
      ⟨some 15, none, .v (.ext 0 (.t 11))⟩,
      ⟨some 16, none, .v (.ext 1 (.t 11))⟩,
      ⟨some 6, none, .v (.mv (.t 15))⟩,
      ⟨some 7, none, .v (.mv (.t 16))⟩] [1, 2, 6, 7])
    (.seq
     (.seq
      (.reg 0 [
        ⟨some 17, none, .v (.mv (.t 7))⟩,
        ⟨some 18, none, .v (.icmp .neq .i64 (.t 17) (.c (.int .i64 0)))⟩] [1, 2, 6, 7, 18])
      (.cond (.t 18)
       (.seq
        (.reg 0 [
          ⟨some 19, none, .v (.mv (.t 7))⟩,
          ⟨some 4, none, .v (.mv (.c (.sl .nil [])))⟩,
          ⟨some 5, none, .v (.mv (.t 19))⟩] [4, 5])
        .ret)
       .skip))
     (.seq
      (.reg 0 [
        ⟨some 20, none, .v (.fa 0 (.t 2))⟩,
        ⟨some 21, none, .v (.ld 1 false (.t 20))⟩,
        ⟨some 22, none, .call true (.c (.fn (.func 24) [] [])) [(.t 21)]⟩,
        ⟨some 23, none, .v (.sadd (.t 22) (.c (.str [32])))⟩,
        ⟨some 24, none, .v (.fa 1 (.t 2))⟩,
        ⟨some 25, none, .v (.ld 1 false (.t 24))⟩,
        ⟨some 26, none, .call true (.c (.fn (.func 24) [] [])) [(.t 25)]⟩,
        ⟨some 27, none, .v (.sadd (.t 23) (.t 26))⟩,
        ⟨some 28, none, .v (.sadd (.t 27) (.c (.str [10])))⟩,
        ⟨some 8, none, .v (.mv (.t 28))⟩] [1, 2, 6, 8])
      (.seq
       (.seq
        (.reg 0 [
          ⟨some 9, none, .v (.mv (.c (.int .i64 0)))⟩] [1, 2, 6, 8, 9])
        (.block 0
         (.loop
          (.seq
           (.seq
            (.reg 0 [
              ⟨some 29, none, .v (.mv (.t 9))⟩,
              ⟨some 30, none, .v (.mv (.t 6))⟩,
              ⟨some 31, none, .v (.len (.t 30))⟩,
              ⟨some 32, none, .v (.icmp .lss .i64 (.t 29) (.t 31))⟩] [1, 2, 6, 8, 9, 32])
            (.cond (.t 32)
             .skip
             (.exit 0)))
           (.seq
            (.block 1
             (.seq
              (.reg 10 [
                ⟨some 35, none, .v (.mv (.t 1))⟩,
                ⟨some 36, none, .v (.mv (.t 6))⟩,
                ⟨some 37, none, .v (.mv (.t 9))⟩,
                ⟨some 38, none, .v (.ia 4 (.t 36) (.t 37))⟩,
                ⟨some 39, none, .v (.fa 0 (.t 38))⟩,
                ⟨some 40, none, .v (.ld 1 false (.t 39))⟩,
                ⟨some 41, none, .v (.ia 4 (.t 35) (.t 40))⟩,
                ⟨some 42, none, .v (.ld 4 true (.t 41))⟩,
                ⟨some 10, none, .alloc 8 [(.int .i64 0), (.int .i64 0), (.int .i64 0), (.int .i64 0)]⟩,
                ⟨none, none, .st 4 (.t 10) (.t 42)⟩] [1, 2, 6, 8, 9, 10])
              (.reg 0 [
                ⟨some 43, none, .v (.mv (.t 8))⟩,
                ⟨some 44, none, .v (.mv (.t 6))⟩,
                ⟨some 45, none, .v (.mv (.t 9))⟩,
                ⟨some 46, none, .v (.ia 4 (.t 44) (.t 45))⟩,
                ⟨some 47, none, .v (.fa 1 (.t 46))⟩,
                ⟨some 48, none, .v (.ld 1 false (.t 47))⟩,
                ⟨some 49, none, .call true (.c (.fn (.func 24) [] [])) [(.t 48)]⟩,
                ⟨some 50, none, .v (.sadd (.t 43) (.t 49))⟩,
                ⟨some 51, none, .v (.sadd (.t 50) (.c (.str [32])))⟩,
                ⟨some 52, none, .v (.mv (.t 6))⟩,
                ⟨some 53, none, .v (.mv (.t 9))⟩,
                ⟨some 54, none, .v (.ia 4 (.t 52) (.t 53))⟩,
                ⟨some 55, none, .v (.fa 2 (.t 54))⟩,
                ⟨some 56, none, .v (.ld 1 false (.t 55))⟩,
                ⟨some 57, none, .call true (.c (.fn (.func 24) [] [])) [(.t 56)]⟩,
                ⟨some 58, none, .v (.sadd (.t 51) (.t 57))⟩,
                ⟨some 59, none, .v (.sadd (.t 58) (.c (.str [32])))⟩,
                ⟨some 60, none, .v (.mv (.t 6))⟩,
                ⟨some 61, none, .v (.mv (.t 9))⟩,
                ⟨some 62, none, .v (.ia 4 (.t 60) (.t 61))⟩,
                ⟨some 63, none, .v (.fa 3 (.t 62))⟩,
                ⟨some 64, none, .v (.ld 1 false (.t 63))⟩,
                ⟨some 65, none, .call true (.c (.fn (.func 24) [] [])) [(.t 64)]⟩,
                ⟨some 66, none, .v (.sadd (.t 59) (.t 65))⟩,
                ⟨some 67, none, .v (.sadd (.t 66) (.c (.str [32])))⟩,
                ⟨some 68, none, .v (.fa 2 (.t 10))⟩,
                ⟨some 69, none, .v (.ld 1 false (.t 68))⟩,
                ⟨some 70, none, .v (.fa 4 (.t 2))⟩,
                ⟨some 71, none, .v (.ld 1 false (.t 70))⟩,
                ⟨some 72, none, .v (.arith .mul .i64 (.t 69) (.t 71))⟩,
                ⟨some 73, none, .call true (.c (.fn (.func 24) [] [])) [(.t 72)]⟩,
                ⟨some 74, none, .v (.sadd (.t 67) (.t 73))⟩,
                ⟨some 75, none, .v (.sadd (.t 74) (.c (.str [32])))⟩,
                ⟨some 76, none, .v (.fa 3 (.t 10))⟩,
                ⟨some 77, none, .v (.ld 1 false (.t 76))⟩,
                ⟨some 78, none, .v (.fa 4 (.t 2))⟩,
                ⟨some 79, none, .v (.ld 1 false (.t 78))⟩,
                ⟨some 80, none, .v (.arith .mul .i64 (.t 77) (.t 79))⟩,
                ⟨some 81, none, .call true (.c (.fn (.func 24) [] [])) [(.t 80)]⟩,
                ⟨some 82, none, .v (.sadd (.t 75) (.t 81))⟩,
                ⟨some 83, none, .v (.sadd (.t 82) (.c (.str [32])))⟩,
                ⟨some 84, none, .v (.fa 0 (.t 10))⟩,
                ⟨some 85, none, .v (.ld 1 false (.t 84))⟩,
                ⟨some 86, none, .v (.arith .sub .i64 (.t 85) (.c (.int .i64 1)))⟩,
                ⟨some 87, none, .v (.fa 0 (.t 10))⟩,
                ⟨some 88, none, .v (.ld 1 false (.t 87))⟩,
                ⟨some 89, none, .v (.slS (.c (.str [80, 83, 75])) (some (.t 86)) (some (.t 88)))⟩,
                ⟨some 90, none, .v (.sadd (.t 83) (.t 89))⟩,
                ⟨some 91, none, .v (.sadd (.t 90) (.c (.str [32])))⟩,
                ⟨some 92, none, .v (.fa 1 (.t 10))⟩,
                ⟨some 93, none, .v (.ld 1 false (.t 92))⟩,
                ⟨some 94, none, .call true (.c (.fn (.func 24) [] [])) [(.t 93)]⟩,
                ⟨some 95, none, .v (.sadd (.t 91) (.t 94))⟩,
                ⟨some 96, none, .v (.sadd (.t 95) (.c (.str [10])))⟩,
                ⟨some 8, none, .v (.mv (.t 96))⟩] [1, 2, 6, 8, 9])))
            (.reg 0 [
              ⟨some 33, none, .v (.mv (.t 9))⟩,
              ⟨some 34, none, .v (.arith .add .i64 (.t 33) (.c (.int .i64 1)))⟩,
              ⟨some 9, none, .v (.mv (.t 34))⟩] [1, 2, 6, 8, 9]))))))
       (.seq
        (.reg 0 [
          ⟨some 97, none, .v (.mv (.t 8))⟩,
          ⟨some 98, none, .v (.s2b (.t 97))⟩,
          ⟨some 4, none, .v (.mv (.t 98))⟩,
          ⟨some 5, none, .v (.mv (.c (.int .i64 0)))⟩] [4, 5])
        .ret))))))
theorem l12 : Callable Tryd.prog 12 := ⟨Tryd.f12, by kernel_rfl, by kernel_rfl, by kernel_rfl⟩
theorem a12 {args : List AVal} {H : AHeap} {n : Nat} {R : AOut → AHeap → Nat → Prop} (h : awp Tryd.prog c12 (postC [.t 4, .t 5] R) ⟨penv 0 args, H, n⟩) : ACalls Tryd.prog 12 args H n R :=
  acalls_of_awp' (fn := Tryd.f12) (c := Tryd.f12.body.getD .skip) (ac := c12) (fz := []) (im := []) (kp := kp12) (rs := [.t 4, .t 5]) (by kernel_rfl) (by kernel_rfl) (by kernel_rfl) (by kernel_rfl) (by kernel_rfl) h

/-- gridwright/gridwrightlaw57.sane -/
def kp10 (r : Nat) : List Nat := match r with
  | 0 => []
  | 1 => [1]
  | 2 => [1, 2]
  | 3 => [1, 2, 21]
  | 4 => [1, 2, 21, 22]
  | 5 => [1, 2, 3, 21]
  | 6 => [1, 2, 21]
  | 7 => [1, 2, 21]
  | 8 => [1, 2, 4]
  | 9 => [1, 2, 4, 5]
  | 10 => [1, 2, 4, 5, 6, 7]
  | 11 => [1, 2, 4, 5, 6, 7, 8, 9]
  | 12 => [1, 2, 4, 5, 6, 7, 8, 9, 10, 11]
  | 13 => [1, 2, 4, 6, 7, 8, 9, 10, 11, 12, 13]
  | 14 => [1, 2, 4, 6, 7, 8, 9, 10, 11, 12, 13, 14, 15]
  | 15 => [1, 2, 4, 6, 7, 8, 9, 10, 11, 12, 13, 14, 15, 17]
  | 16 => [1, 2, 4, 14, 15, 17, 18]
  | 17 => [14, 15, 18, 19]
  | 18 => [0]
  | _ => []
def c10 : ACode :=
  (.seq
   (.reg 0 [
     ⟨some 0, none, .v (.mv (.c (.bool false)))⟩] [])
   (.seq
    (.reg 3 [
      ⟨some 20, none, .v (.build [(.int .i64 0), (.int .i64 0), (.int .i64 0), (.int .i64 0), (.int .i64 0)] [(0, 1, (.c (.int .i64 10))), (1, 1, (.c (.int .i64 10))), (2, 1, (.c (.int .i64 1))), (3, 1, (.c (.int .i64 1))), (4, 1, (.c (.int .i64 1)))])⟩,
      ⟨some 1, none, .alloc 1 [(.int .i64 0), (.int .i64 0), (.int .i64 0), (.int .i64 0), (.int .i64 0)]⟩,
      ⟨none, none, .st 5 (.t 1) (.t 20)⟩] [1])
    (.seq
     (.reg 0 [
       ⟨some 2, none, .v (.mv (.c (.sl .nil [])))⟩] [1, 2])
     (.seq
      (.seq
       (.reg 0 [
         ⟨some 21, none, .v (.mv (.c (.int .i64 0)))⟩] [1, 2, 21])
       (.block 0
        (.loop
         (.seq
          (.reg 0 [
            ⟨some 22, none, .v (.icmp .lss .i64 (.t 21) (.c (.int .i64 4)))⟩] [1, 2, 21, 22])
          (.seq
           (.cond (.t 22)
            .skip
            (.exit 0))
           (.seq
            (.block 1
             (.seq
              (.reg 0 [
                ⟨some 23, none, .v (.mv (.t 21))⟩,
                ⟨some 3, none, .v (.mv (.t 23))⟩] [1, 2, 3, 21])
              (.reg 6 [
                ⟨some 24, none, .v (.mv (.t 2))⟩,
                ⟨some 25, none, .v (.mv (.t 3))⟩,
                ⟨some 26, none, .v (.build [(.int .i64 0), (.int .i64 0), (.int .i64 0), (.int .i64 0)] [(0, 1, (.c (.int .i64 1))), (1, 1, (.t 25)), (2, 1, (.c (.int .i64 4))), (3, 1, (.c (.int .i64 3)))])⟩,
                ⟨some 27, none, .v (.bs 4 1 (.agg [(.int .i64 0), (.int .i64 0), (.int .i64 0), (.int .i64 0)]) [(0, (.t 26))])⟩,
                ⟨some 28, none, .app 4 4 32 (.t 24) (.t 27) false⟩,
                ⟨some 2, none, .v (.mv (.t 28))⟩] [1, 2, 21])))
            (.reg 0 [
              ⟨some 29, none, .v (.arith .add .i64 (.t 21) (.c (.int .i64 1)))⟩,
              ⟨some 21, none, .v (.mv (.t 29))⟩] [1, 2, 21])))))))
      (.seq
       (.reg 0 [
         ⟨some 30, none, .v (.build [(.int .i64 0), (.int .i64 0), (.int .i64 0), (.int .i64 0)] [(0, 1, (.c (.int .i64 1))), (1, 1, (.c (.int .i64 7))), (2, 1, (.c (.int .i64 4))), (3, 1, (.c (.int .i64 3)))])⟩,
         ⟨some 31, none, .v (.bs 4 1 (.agg [(.int .i64 0), (.int .i64 0), (.int .i64 0), (.int .i64 0)]) [(0, (.t 30))])⟩,
         ⟨some 4, none, .v (.mv (.t 31))⟩] [1, 2, 4])
       (.seq
        (.reg 5 [
          ⟨some 32, none, .v (.build [(.int .i64 0), (.int .i64 0), (.int .i64 0), (.int .i64 0)] [(0, 1, (.c (.int .i64 2))), (1, 1, (.c (.int .i64 7))), (2, 1, (.c (.int .i64 4))), (3, 1, (.c (.int .i64 3)))])⟩,
          ⟨some 33, none, .v (.bs 4 1 (.agg [(.int .i64 0), (.int .i64 0), (.int .i64 0), (.int .i64 0)]) [(0, (.t 32))])⟩,
          ⟨some 34, none, .v (.mv (.t 4))⟩,
          ⟨some 35, none, .app 3 4 32 (.t 33) (.t 34) false⟩,
          ⟨some 5, none, .v (.mv (.t 35))⟩] [1, 2, 4, 5])
        (.seq
         (.reg 0 [
           ⟨some 37, none, .v (.ld 5 true (.t 1))⟩,
           ⟨some 38, none, .v (.mv (.t 2))⟩,
           ⟨some 39, none, .call true (.c (.fn (.func 15) [] [])) [(.t 37), (.t 38)]⟩,
           ⟨some 36, none, .v (.mv (.t 39))⟩,
           ⟨some 40, none, .v (.ext 0 (.t 36))⟩,
           ⟨some 41, none, .v (.ext 1 (.t 36))⟩,
           ⟨some 6, none, .v (.mv (.t 40))⟩,
           ⟨some 7, none, .v (.mv (.t 41))⟩] [1, 2, 4, 5, 6, 7])
         (.seq
          (.reg 0 [
            ⟨some 43, none, .v (.ld 5 true (.t 1))⟩,
            ⟨some 44, none, .v (.mv (.t 4))⟩,
            ⟨some 45, none, .call true (.c (.fn (.func 11) [] [])) [(.t 43), (.t 44)]⟩,
            ⟨some 42, none, .v (.mv (.t 45))⟩,
            ⟨some 46, none, .v (.ext 0 (.t 42))⟩,
            ⟨some 47, none, .v (.ext 1 (.t 42))⟩,
            ⟨some 8, none, .v (.mv (.t 46))⟩,
            ⟨some 9, none, .v (.mv (.t 47))⟩] [1, 2, 4, 5, 6, 7, 8, 9])
          (.seq
           (.reg 0 [
             ⟨some 49, none, .v (.ld 5 true (.t 1))⟩,
             ⟨some 50, none, .v (.mv (.t 5))⟩,
             ⟨some 51, none, .call true (.c (.fn (.func 15) [] [])) [(.t 49), (.t 50)]⟩,
             ⟨some 48, none, .v (.mv (.t 51))⟩,
             ⟨some 52, none, .v (.ext 0 (.t 48))⟩,
             ⟨some 53, none, .v (.ext 1 (.t 48))⟩,
             ⟨some 10, none, .v (.mv (.t 52))⟩,
             ⟨some 11, none, .v (.mv (.t 53))⟩] [1, 2, 4, 5, 6, 7, 8, 9, 10, 11])
           (.seq
            (.reg 0 [
              ⟨some 55, none, .v (.ld 5 true (.t 1))⟩,
              ⟨some 56, none, .v (.mv (.t 5))⟩,
              ⟨some 57, none, .v (.sl 4 (.t 56) none (some (.c (.int .i64 1))) none)⟩,
              ⟨some 58, none, .call true (.c (.fn (.func 15) [] [])) [(.t 55), (.t 57)]⟩,
              ⟨some 54, none, .v (.mv (.t 58))⟩,
              ⟨some 59, none, .v (.ext 0 (.t 54))⟩,
              ⟨some 60, none, .v (.ext 1 (.t 54))⟩,
              ⟨some 12, none, .v (.mv (.t 59))⟩,
              ⟨some 13, none, .v (.mv (.t 60))⟩] [1, 2, 4, 6, 7, 8, 9, 10, 11, 12, 13])
            (.seq
             (.reg 0 [
               ⟨some 62, none, .v (.ld 5 true (.t 1))⟩,
               ⟨some 63, none, .call true (.c (.fn (.func 18) [] [])) [(.t 62), (.c (.sl .nil [])), (.c (.sl .nil []))]⟩,
               ⟨some 61, none, .v (.mv (.t 63))⟩,
               ⟨some 64, none, .v (.ext 0 (.t 61))⟩,
               ⟨some 65, none, .v (.ext 1 (.t 61))⟩,
               ⟨some 14, none, .v (.mv (.t 64))⟩,
               ⟨some 15, none, .v (.mv (.t 65))⟩] [1, 2, 4, 6, 7, 8, 9, 10, 11, 12, 13, 14, 15])
             (.seq
              (.reg 0 [
                ⟨some 67, none, .v (.ld 5 true (.t 1))⟩,
                ⟨some 68, none, .v (.mkz 4 32 (.agg [(.int .i64 0), (.int .i64 0), (.int .i64 0), (.int .i64 0)]) (.c (.int .i64 65)))⟩,
                ⟨some 69, none, .call true (.c (.fn (.func 15) [] [])) [(.t 67), (.t 68)]⟩,
                ⟨some 66, none, .v (.mv (.t 69))⟩,
                ⟨some 70, none, .v (.ext 0 (.t 66))⟩,
                ⟨some 71, none, .v (.ext 1 (.t 66))⟩,
                ⟨some 16, none, .v (.mv (.t 70))⟩,
                ⟨some 17, none, .v (.mv (.t 71))⟩] [1, 2, 4, 6, 7, 8, 9, 10, 11, 12, 13, 14, 15, 17])
              (.seq
               (.reg 0 [
                 ⟨some 72, none, .v (.mv (.t 7))⟩,
                 ⟨some 73, none, .v (.icmp .eql .i64 (.t 72) (.c (.int .i64 0)))⟩,
                 ⟨some 74, none, .v (.mv (.t 73))⟩,
                 ⟨some 75, some (74, true), .v (.mv (.t 6))⟩,
                 ⟨some 76, some (74, true), .v (.build [(.int .i64 0), (.int .i64 0), (.int .i64 0), (.int .i64 0)] [(2, 1, (.c (.int .i64 1))), (3, 1, (.c (.int .i64 1)))])⟩,
                 ⟨some 77, some (74, true), .v (.build [(.int .i64 0), (.int .i64 0), (.int .i64 0), (.int .i64 0)] [(0, 1, (.c (.int .i64 1))), (2, 1, (.c (.int .i64 1))), (3, 1, (.c (.int .i64 5)))])⟩,
                 ⟨some 78, some (74, true), .v (.build [(.int .i64 0), (.int .i64 0), (.int .i64 0), (.int .i64 0)] [(0, 1, (.c (.int .i64 2))), (1, 1, (.c (.int .i64 1))), (2, 1, (.c (.int .i64 1))), (3, 1, (.c (.int .i64 1)))])⟩,
                 ⟨some 79, some (74, true), .v (.build [(.int .i64 0), (.int .i64 0), (.int .i64 0), (.int .i64 0)] [(0, 1, (.c (.int .i64 3))), (1, 1, (.c (.int .i64 1))), (2, 1, (.c (.int .i64 1))), (3, 1, (.c (.int .i64 5)))])⟩,
                 ⟨some 80, some (74, true), .v (.bs 4 4 (.agg [(.int .i64 0), (.int .i64 0), (.int .i64 0), (.int .i64 0)]) [(0, (.t 76)), (1, (.t 77)), (2, (.t 78)), (3, (.t 79))])⟩,
                 ⟨some 81, some (74, true), .call true (.c (.fn (.func 17) [] [])) [(.t 75), (.t 80)]⟩,
                 ⟨some 82, none, .pick (.t 74) (.t 81) (.c (.bool false))⟩,
                 ⟨some 83, none, .v (.mv (.t 82))⟩,
                 ⟨some 84, some (83, true), .v (.mv (.t 9))⟩,
                 ⟨some 85, some (83, true), .v (.icmp .eql .i64 (.t 84) (.c (.int .i64 0)))⟩,
                 ⟨some 86, none, .pick (.t 83) (.t 85) (.c (.bool false))⟩,
                 ⟨some 87, none, .v (.mv (.t 86))⟩,
                 ⟨some 88, some (87, true), .v (.mv (.t 8))⟩,
                 ⟨some 89, some (87, true), .v (.b2s (.t 88))⟩,
                 ⟨some 90, some (87, true), .v (.scmp .eql (.t 89) (.c (.str [49, 48, 32, 49, 48, 10, 48, 32, 49, 32, 49, 32, 52, 32, 51, 32, 80, 32, 55, 10])))⟩,
                 ⟨some 91, none, .pick (.t 87) (.t 90) (.c (.bool false))⟩,
                 ⟨some 92, none, .v (.mv (.t 91))⟩,
                 ⟨some 93, some (92, true), .v (.mv (.t 11))⟩,
                 ⟨some 94, some (92, true), .v (.icmp .eql .i64 (.t 93) (.c (.int .i64 0)))⟩,
                 ⟨some 95, none, .pick (.t 92) (.t 94) (.c (.bool false))⟩,
                 ⟨some 96, none, .v (.mv (.t 95))⟩,
                 ⟨some 97, some (96, true), .v (.mv (.t 10))⟩,
                 ⟨some 98, some (96, true), .v (.build [(.int .i64 0), (.int .i64 0), (.int .i64 0), (.int .i64 0)] [(0, 1, (.c (.int .i64 1))), (2, 1, (.c (.int .i64 1))), (3, 1, (.c (.int .i64 1)))])⟩,
                 ⟨some 99, some (96, true), .v (.build [(.int .i64 0), (.int .i64 0), (.int .i64 0), (.int .i64 0)] [(1, 1, (.c (.int .i64 1))), (2, 1, (.c (.int .i64 1))), (3, 1, (.c (.int .i64 1)))])⟩,
                 ⟨some 100, some (96, true), .v (.bs 4 2 (.agg [(.int .i64 0), (.int .i64 0), (.int .i64 0), (.int .i64 0)]) [(0, (.t 98)), (1, (.t 99))])⟩,
                 ⟨some 101, some (96, true), .call true (.c (.fn (.func 17) [] [])) [(.t 97), (.t 100)]⟩,
                 ⟨some 102, none, .pick (.t 96) (.t 101) (.c (.bool false))⟩,
                 ⟨some 103, none, .v (.mv (.t 102))⟩,
                 ⟨some 104, some (103, true), .v (.mv (.t 13))⟩,
                 ⟨some 105, some (103, true), .v (.icmp .eql .i64 (.t 104) (.c (.int .i64 0)))⟩,
                 ⟨some 106, none, .pick (.t 103) (.t 105) (.c (.bool false))⟩,
                 ⟨some 107, none, .v (.mv (.t 106))⟩,
                 ⟨some 108, some (107, true), .v (.mv (.t 12))⟩,
                 ⟨some 109, some (107, true), .v (.build [(.int .i64 0), (.int .i64 0), (.int .i64 0), (.int .i64 0)] [(2, 1, (.c (.int .i64 1))), (3, 1, (.c (.int .i64 1)))])⟩,
                 ⟨some 110, some (107, true), .v (.bs 4 1 (.agg [(.int .i64 0), (.int .i64 0), (.int .i64 0), (.int .i64 0)]) [(0, (.t 109))])⟩,
                 ⟨some 111, some (107, true), .call true (.c (.fn (.func 17) [] [])) [(.t 108), (.t 110)]⟩,
                 ⟨some 112, none, .pick (.t 107) (.t 111) (.c (.bool false))⟩,
                 ⟨some 18, none, .v (.mv (.t 112))⟩] [1, 2, 4, 14, 15, 17, 18])
               (.seq
                (.reg 32 [
                  ⟨some 113, none, .v (.build [(.int .i64 0), (.int .i64 0), (.int .i64 0), (.int .i64 0), (.int .i64 0)] [])⟩,
                  ⟨some 114, none, .call true (.c (.fn (.func 13) [] [])) [(.t 113), (.c (.sl .nil []))]⟩,
                  ⟨some 115, none, .v (.icmp .eql .i64 (.t 114) (.c (.int .i64 570)))⟩,
                  ⟨some 116, none, .v (.mv (.t 115))⟩,
                  ⟨some 117, some (116, true), .v (.mv (.t 17))⟩,
                  ⟨some 118, some (116, true), .v (.icmp .eql .i64 (.t 117) (.c (.int .i64 2)))⟩,
                  ⟨some 119, none, .pick (.t 116) (.t 118) (.c (.bool false))⟩,
                  ⟨some 120, none, .v (.mv (.t 119))⟩,
                  ⟨some 121, some (120, true), .v (.ld 5 true (.t 1))⟩,
                  ⟨some 122, some (120, true), .v (.mv (.t 4))⟩,
                  ⟨some 123, some (120, true), .v (.mv (.t 4))⟩,
                  ⟨some 124, some (120, true), .v (.ia 4 (.t 123) (.c (.int .i64 0)))⟩,
                  ⟨some 125, some (120, true), .v (.ld 4 true (.t 124))⟩,
                  ⟨some 126, some (120, true), .v (.bs 4 1 (.agg [(.int .i64 0), (.int .i64 0), (.int .i64 0), (.int .i64 0)]) [(0, (.t 125))])⟩,
                  ⟨some 127, some (120, true), .app 14 4 32 (.t 122) (.t 126) false⟩,
                  ⟨some 128, some (120, true), .call true (.c (.fn (.func 13) [] [])) [(.t 121), (.t 127)]⟩,
                  ⟨some 129, some (120, true), .v (.icmp .eql .i64 (.t 128) (.c (.int .i64 570)))⟩,
                  ⟨some 130, none, .pick (.t 120) (.t 129) (.c (.bool false))⟩,
                  ⟨some 131, none, .v (.mv (.t 130))⟩,
                  ⟨some 132, some (131, true), .v (.ld 5 true (.t 1))⟩,
                  ⟨some 133, some (131, true), .v (.build [(.int .i64 0), (.int .i64 0), (.int .i64 0), (.int .i64 0)] [(0, 1, (.c (.int .i64 1))), (2, 1, (.c (.int .i64 9))), (3, 1, (.c (.int .i64 1)))])⟩,
                  ⟨some 134, some (131, true), .v (.bs 4 1 (.agg [(.int .i64 0), (.int .i64 0), (.int .i64 0), (.int .i64 0)]) [(0, (.t 133))])⟩,
                  ⟨some 135, some (131, true), .call true (.c (.fn (.func 13) [] [])) [(.t 132), (.t 134)]⟩,
                  ⟨some 136, some (131, true), .v (.icmp .eql .i64 (.t 135) (.c (.int .i64 570)))⟩,
                  ⟨some 137, none, .pick (.t 131) (.t 136) (.c (.bool false))⟩,
                  ⟨some 138, none, .v (.mv (.t 137))⟩,
                  ⟨some 139, some (138, true), .v (.ld 5 true (.t 1))⟩,
                  ⟨some 140, some (138, true), .v (.mv (.t 2))⟩,
                  ⟨some 141, some (138, true), .call true (.c (.fn (.func 13) [] [])) [(.t 139), (.t 140)]⟩,
                  ⟨some 142, some (138, true), .v (.icmp .eql .i64 (.t 141) (.c (.int .i64 0)))⟩,
                  ⟨some 143, none, .pick (.t 138) (.t 142) (.c (.bool false))⟩,
                  ⟨some 19, none, .v (.mv (.t 143))⟩] [14, 15, 18, 19])
                (.seq
                 (.reg 0 [
                   ⟨some 144, none, .v (.mv (.t 18))⟩,
                   ⟨some 145, none, .v (.mv (.t 144))⟩,
                   ⟨some 146, some (145, true), .v (.mv (.t 19))⟩,
                   ⟨some 147, none, .pick (.t 145) (.t 146) (.c (.bool false))⟩,
                   ⟨some 148, none, .v (.mv (.t 147))⟩,
                   ⟨some 149, some (148, true), .v (.mv (.t 14))⟩,
                   ⟨some 150, none, .pick (.t 148) (.t 149) (.c (.bool false))⟩,
                   ⟨some 151, none, .v (.mv (.t 150))⟩,
                   ⟨some 152, some (151, true), .v (.mv (.t 15))⟩,
                   ⟨some 153, some (151, true), .v (.icmp .eql .i64 (.t 152) (.c (.int .i64 0)))⟩,
                   ⟨some 154, none, .pick (.t 151) (.t 153) (.c (.bool false))⟩,
                   ⟨some 0, none, .v (.mv (.t 154))⟩] [0])
                 .ret)))))))))))))))
theorem l10 : Callable Tryd.prog 10 := ⟨Tryd.f10, by kernel_rfl, by kernel_rfl, by kernel_rfl⟩
theorem a10 {args : List AVal} {H : AHeap} {n : Nat} {R : AOut → AHeap → Nat → Prop} (h : awp Tryd.prog c10 (postC [.t 0] R) ⟨penv 0 args, H, n⟩) : ACalls Tryd.prog 10 args H n R :=
  acalls_of_awp' (fn := Tryd.f10) (c := Tryd.f10.body.getD .skip) (ac := c10) (fz := [(15, 1)]) (im := []) (kp := kp10) (rs := [.t 0]) (by kernel_rfl) (by kernel_rfl) (by kernel_rfl) (by kernel_rfl) (by kernel_rfl) h

/-- gridwright/gridwrightlaw57.PressCheckSpec -/
def kp3 (r : Nat) : List Nat := match r with
  | 0 => [1, 2]
  | 1 => [1, 2, 10]
  | 2 => [4]
  | 3 => [1, 2, 5, 6]
  | 4 => [1, 2, 5, 6, 7, 8]
  | 5 => [4]
  | _ => []
def c3 : ACode :=
  (.seq
   (.reg 2 [
     ⟨some 2, none, .box 0 5 (.t 0)⟩,
     ⟨some 4, none, .v (.mv (.c (.bool false)))⟩] [1, 2])
   (.seq
    (.seq
     (.reg 0 [
       ⟨some 9, none, .call true (.c (.fn (.func 10) [] [])) []⟩,
       ⟨some 10, none, .v (.not (.t 9))⟩] [1, 2, 10])
     (.cond (.t 10)
      (.seq
       (.reg 0 [
         ⟨some 4, none, .v (.mv (.c (.bool false)))⟩] [4])
       .ret)
      .skip))
    (.seq
     (.reg 0 [
       ⟨some 12, none, .v (.ld 5 true (.t 2))⟩,
       ⟨some 13, none, .v (.mv (.t 1))⟩,
       ⟨some 14, none, .call true (.c (.fn (.func 11) [] [])) [(.t 12), (.t 13)]⟩,
       ⟨some 11, none, .v (.mv (.t 14))⟩,
       ⟨some 15, none, .v (.ext 0 (.t 11))⟩,
       ⟨some 16, none, .v (.ext 1 (.t 11))⟩,
       ⟨some 5, none, .v (.mv (.t 15))⟩,
       ⟨some 6, none, .v (.mv (.t 16))⟩] [1, 2, 5, 6])
     (.seq
      (.reg 0 [
        ⟨some 18, none, .v (.ld 5 true (.t 2))⟩,
        ⟨some 19, none, .v (.mv (.t 1))⟩,
        ⟨some 20, none, .call true (.c (.fn (.func 12) [] [])) [(.t 18), (.t 19)]⟩,
        ⟨some 17, none, .v (.mv (.t 20))⟩,
        ⟨some 21, none, .v (.ext 0 (.t 17))⟩,
        ⟨some 22, none, .v (.ext 1 (.t 17))⟩,
        ⟨some 7, none, .v (.mv (.t 21))⟩,
        ⟨some 8, none, .v (.mv (.t 22))⟩] [1, 2, 5, 6, 7, 8])
      (.seq
       (.reg 0 [
         ⟨some 23, none, .v (.ld 5 true (.t 2))⟩,
         ⟨some 24, none, .v (.mv (.t 1))⟩,
         ⟨some 25, none, .call true (.c (.fn (.func 13) [] [])) [(.t 23), (.t 24)]⟩,
         ⟨some 26, none, .v (.ld 5 true (.t 2))⟩,
         ⟨some 27, none, .v (.mv (.t 1))⟩,
         ⟨some 28, none, .call true (.c (.fn (.func 14) [] [])) [(.t 26), (.t 27)]⟩,
         ⟨some 29, none, .v (.icmp .eql .i64 (.t 25) (.t 28))⟩,
         ⟨some 30, none, .v (.mv (.t 29))⟩,
         ⟨some 31, some (30, true), .v (.mv (.t 5))⟩,
         ⟨some 32, some (30, true), .v (.b2s (.t 31))⟩,
         ⟨some 33, some (30, true), .v (.mv (.t 7))⟩,
         ⟨some 34, some (30, true), .v (.b2s (.t 33))⟩,
         ⟨some 35, some (30, true), .v (.scmp .eql (.t 32) (.t 34))⟩,
         ⟨some 36, none, .pick (.t 30) (.t 35) (.c (.bool false))⟩,
         ⟨some 37, none, .v (.mv (.t 36))⟩,
         ⟨some 38, some (37, true), .v (.mv (.t 6))⟩,
         ⟨some 39, some (37, true), .v (.mv (.t 8))⟩,
         ⟨some 40, some (37, true), .v (.icmp .eql .i64 (.t 38) (.t 39))⟩,
         ⟨some 41, none, .pick (.t 37) (.t 40) (.c (.bool false))⟩,
         ⟨some 4, none, .v (.mv (.t 41))⟩] [4])
       .ret)))))
theorem l3 : Callable Tryd.prog 3 := ⟨Tryd.f3, by kernel_rfl, by kernel_rfl, by kernel_rfl⟩
theorem a3 {args : List AVal} {H : AHeap} {n : Nat} {R : AOut → AHeap → Nat → Prop} (h : awp Tryd.prog c3 (postC [.t 4] R) ⟨penv 0 args, H, n⟩) : ACalls Tryd.prog 3 args H n R :=
  acalls_of_awp' (fn := Tryd.f3) (c := Tryd.f3.body.getD .skip) (ac := c3) (fz := []) (im := []) (kp := kp3) (rs := [.t 4]) (by kernel_rfl) (by kernel_rfl) (by kernel_rfl) (by kernel_rfl) (by kernel_rfl) h

/-- gridwright/gridwrightlaw57.PressLayoutSpec -/
def kp4 (r : Nat) : List Nat := match r with
  | 0 => [1, 2]
  | 1 => [1, 2, 10]
  | 2 => [4]
  | 3 => [1, 2, 5, 6]
  | 4 => [5, 6, 7, 8]
  | 5 => [4]
  | _ => []
def c4 : ACode :=
  (.seq
   (.reg 2 [
     ⟨some 2, none, .box 0 5 (.t 0)⟩,
     ⟨some 4, none, .v (.mv (.c (.bool false)))⟩] [1, 2])
   (.seq
    (.seq
     (.reg 0 [
       ⟨some 9, none, .call true (.c (.fn (.func 10) [] [])) []⟩,
       ⟨some 10, none, .v (.not (.t 9))⟩] [1, 2, 10])
     (.cond (.t 10)
      (.seq
       (.reg 0 [
         ⟨some 4, none, .v (.mv (.c (.bool false)))⟩] [4])
       .ret)
      .skip))
    (.seq
     (.reg 0 [
       ⟨some 12, none, .v (.ld 5 true (.t 2))⟩,
       ⟨some 13, none, .v (.mv (.t 1))⟩,
       ⟨some 14, none, .call true (.c (.fn (.func 15) [] [])) [(.t 12), (.t 13)]⟩,
       ⟨some 11, none, .v (.mv (.t 14))⟩,
       ⟨some 15, none, .v (.ext 0 (.t 11))⟩,
       ⟨some 16, none, .v (.ext 1 (.t 11))⟩,
       ⟨some 5, none, .v (.mv (.t 15))⟩,
       ⟨some 6, none, .v (.mv (.t 16))⟩] [1, 2, 5, 6])
     (.seq
      (.reg 0 [
        ⟨some 18, none, .v (.ld 5 true (.t 2))⟩,
        ⟨some 19, none, .v (.mv (.t 1))⟩,
        ⟨some 20, none, .call true (.c (.fn (.func 16) [] [])) [(.t 18), (.t 19)]⟩,
        ⟨some 17, none, .v (.mv (.t 20))⟩,
        ⟨some 21, none, .v (.ext 0 (.t 17))⟩,
        ⟨some 22, none, .v (.ext 1 (.t 17))⟩,
        ⟨some 7, none, .v (.mv (.t 21))⟩,
        ⟨some 8, none, .v (.mv (.t 22))⟩] [5, 6, 7, 8])
      (.seq
       (.reg 0 [
         ⟨some 23, none, .v (.mv (.t 5))⟩,
         ⟨some 24, none, .v (.mv (.t 7))⟩,
         ⟨some 25, none, .call true (.c (.fn (.func 17) [] [])) [(.t 23), (.t 24)]⟩,
         ⟨some 26, none, .v (.mv (.t 25))⟩,
         ⟨some 27, some (26, true), .v (.mv (.t 6))⟩,
         ⟨some 28, some (26, true), .v (.mv (.t 8))⟩,
         ⟨some 29, some (26, true), .v (.icmp .eql .i64 (.t 27) (.t 28))⟩,
         ⟨some 30, none, .pick (.t 26) (.t 29) (.c (.bool false))⟩,
         ⟨some 4, none, .v (.mv (.t 30))⟩] [4])
       .ret)))))
theorem l4 : Callable Tryd.prog 4 := ⟨Tryd.f4, by kernel_rfl, by kernel_rfl, by kernel_rfl⟩
theorem a4 {args : List AVal} {H : AHeap} {n : Nat} {R : AOut → AHeap → Nat → Prop} (h : awp Tryd.prog c4 (postC [.t 4] R) ⟨penv 0 args, H, n⟩) : ACalls Tryd.prog 4 args H n R :=
  acalls_of_awp' (fn := Tryd.f4) (c := Tryd.f4.body.getD .skip) (ac := c4) (fz := []) (im := []) (kp := kp4) (rs := [.t 4]) (by kernel_rfl) (by kernel_rfl) (by kernel_rfl) (by kernel_rfl) (by kernel_rfl) h

/-- gridwright/gridwrightlaw57.PressValidSpec -/
def kp5 (r : Nat) : List Nat := match r with
  | 0 => [1, 2, 3]
  | 1 => [1, 2, 3, 12]
  | 2 => [6]
  | 3 => [1, 2, 3, 15]
  | 4 => [6]
  | 5 => [1, 2, 3, 7, 8]
  | 6 => [7, 8, 9, 10]
  | 7 => [6]
  | _ => []
def c5 : ACode :=
  (.seq
   (.reg 2 [
     ⟨some 3, none, .box 0 5 (.t 0)⟩,
     ⟨some 6, none, .v (.mv (.c (.bool false)))⟩] [1, 2, 3])
   (.seq
    (.seq
     (.reg 0 [
       ⟨some 11, none, .call true (.c (.fn (.func 10) [] [])) []⟩,
       ⟨some 12, none, .v (.not (.t 11))⟩] [1, 2, 3, 12])
     (.cond (.t 12)
      (.seq
       (.reg 0 [
         ⟨some 6, none, .v (.mv (.c (.bool false)))⟩] [6])
       .ret)
      .skip))
    (.seq
     (.seq
      (.reg 0 [
        ⟨some 13, none, .v (.mv (.t 2))⟩,
        ⟨some 14, none, .v (.len (.t 13))⟩,
        ⟨some 15, none, .v (.icmp .gtr .i64 (.t 14) (.c (.int .i64 200)))⟩] [1, 2, 3, 15])
      (.cond (.t 15)
       (.seq
        (.reg 0 [
          ⟨some 6, none, .v (.mv (.c (.bool true)))⟩] [6])
        .ret)
       .skip))
     (.seq
      (.reg 0 [
        ⟨some 17, none, .v (.ld 5 true (.t 3))⟩,
        ⟨some 18, none, .v (.mv (.t 1))⟩,
        ⟨some 19, none, .v (.mv (.t 2))⟩,
        ⟨some 20, none, .call true (.c (.fn (.func 18) [] [])) [(.t 17), (.t 18), (.t 19)]⟩,
        ⟨some 16, none, .v (.mv (.t 20))⟩,
        ⟨some 21, none, .v (.ext 0 (.t 16))⟩,
        ⟨some 22, none, .v (.ext 1 (.t 16))⟩,
        ⟨some 7, none, .v (.mv (.t 21))⟩,
        ⟨some 8, none, .v (.mv (.t 22))⟩] [1, 2, 3, 7, 8])
      (.seq
       (.reg 0 [
         ⟨some 24, none, .v (.ld 5 true (.t 3))⟩,
         ⟨some 25, none, .v (.mv (.t 1))⟩,
         ⟨some 26, none, .v (.mv (.t 2))⟩,
         ⟨some 27, none, .call true (.c (.fn (.func 19) [] [])) [(.t 24), (.t 25), (.t 26)]⟩,
         ⟨some 23, none, .v (.mv (.t 27))⟩,
         ⟨some 28, none, .v (.ext 0 (.t 23))⟩,
         ⟨some 29, none, .v (.ext 1 (.t 23))⟩,
         ⟨some 9, none, .v (.mv (.t 28))⟩,
         ⟨some 10, none, .v (.mv (.t 29))⟩] [7, 8, 9, 10])
       (.seq
        (.reg 0 [
          ⟨some 30, none, .v (.mv (.t 7))⟩,
          ⟨some 31, none, .v (.mv (.t 9))⟩,
          ⟨some 32, none, .v (.beq false (.t 30) (.t 31))⟩,
          ⟨some 33, none, .v (.mv (.t 32))⟩,
          ⟨some 34, some (33, true), .v (.mv (.t 8))⟩,
          ⟨some 35, some (33, true), .v (.mv (.t 10))⟩,
          ⟨some 36, some (33, true), .v (.icmp .eql .i64 (.t 34) (.t 35))⟩,
          ⟨some 37, none, .pick (.t 33) (.t 36) (.c (.bool false))⟩,
          ⟨some 6, none, .v (.mv (.t 37))⟩] [6])
        .ret))))))
theorem l5 : Callable Tryd.prog 5 := ⟨Tryd.f5, by kernel_rfl, by kernel_rfl, by kernel_rfl⟩
theorem a5 {args : List AVal} {H : AHeap} {n : Nat} {R : AOut → AHeap → Nat → Prop} (h : awp Tryd.prog c5 (postC [.t 6] R) ⟨penv 0 args, H, n⟩) : ACalls Tryd.prog 5 args H n R :=
  acalls_of_awp' (fn := Tryd.f5) (c := Tryd.f5.body.getD .skip) (ac := c5) (fz := []) (im := []) (kp := kp5) (rs := [.t 6]) (by kernel_rfl) (by kernel_rfl) (by kernel_rfl) (by kernel_rfl) (by kernel_rfl) h

/-- gridwright/gridwrightlaw57.PressScale -/
def kp8 (r : Nat) : List Nat := match r with
  | 0 => [1, 2]
  | 1 => [1, 2, 18]
  | 2 => [4]
  | 3 => [1, 2, 32]
  | 4 => [4]
  | 5 => [1, 2, 5]
  | 6 => [1, 2, 5, 36, 37, 38]
  | 7 => [1, 2, 5, 36, 37, 38, 39]
  | 8 => [1, 2, 5, 6, 7, 36, 37, 38]
  | 9 => [1, 2, 5, 36, 37, 38]
  | 10 => [1, 2, 5, 36, 37, 38]
  | 11 => [1, 2, 5, 8]
  | 12 => [1, 2, 5, 8]
  | 13 => [1, 2, 5, 8, 9, 10]
  | 14 => [1, 2, 5, 8, 9, 10, 11, 12]
  | 15 => [5, 8, 9, 10, 11, 12, 13, 14]
  | 16 => [9, 10, 11, 12, 13, 14, 15, 16]
  | 17 => [4]
  | _ => []
def c8 : ACode :=
  (.seq
   (.reg 2 [
     ⟨some 2, none, .box 0 5 (.t 0)⟩,
     ⟨some 4, none, .v (.mv (.c (.bool false)))⟩] [1, 2])
   (.seq
    (.seq
     (.reg 0 [
       ⟨some 17, none, .call true (.c (.fn (.func 10) [] [])) []⟩,
       ⟨some 18, none, .v (.not (.t 17))⟩] [1, 2, 18])
     (.cond (.t 18)
      (.seq
       (.reg 0 [
         ⟨some 4, none, .v (.mv (.c (.bool false)))⟩] [4])
       .ret)
      .skip))
    (.seq
     (.seq
      (.reg 0 [
        ⟨some 19, none, .v (.ld 5 true (.t 2))⟩,
        ⟨some 20, none, .v (.mv (.t 1))⟩,
        ⟨some 21, none, .call true (.c (.fn (.func 13) [] [])) [(.t 19), (.t 20)]⟩,
        ⟨some 22, none, .v (.icmp .neq .i64 (.t 21) (.c (.int .i64 0)))⟩,
        ⟨some 23, none, .v (.mv (.t 22))⟩,
        ⟨some 24, some (23, false), .v (.fa 4 (.t 2))⟩,
        ⟨some 25, some (23, false), .v (.ld 1 false (.t 24))⟩,
        ⟨some 26, some (23, false), .v (.icmp .lss .i64 (.t 25) (.c (.int .i64 1)))⟩,
        ⟨some 27, none, .pick (.t 23) (.c (.bool true)) (.t 26)⟩,
        ⟨some 28, none, .v (.mv (.t 27))⟩,
        ⟨some 29, some (28, false), .v (.fa 4 (.t 2))⟩,
        ⟨some 30, some (28, false), .v (.ld 1 false (.t 29))⟩,
        ⟨some 31, some (28, false), .v (.icmp .gtr .i64 (.t 30) (.c (.int .i64 16)))⟩,
        ⟨some 32, none, .pick (.t 28) (.c (.bool true)) (.t 31)⟩] [1, 2, 32])
      (.cond (.t 32)
       (.seq
        (.reg 0 [
          ⟨some 4, none, .v (.mv (.c (.bool true)))⟩] [4])
        .ret)
       .skip))
     (.seq
      (.reg 4 [
        ⟨some 33, none, .v (.mv (.t 1))⟩,
        ⟨some 34, none, .v (.len (.t 33))⟩,
        ⟨some 35, none, .mks 2 4 32 (.agg [(.int .i64 0), (.int .i64 0), (.int .i64 0), (.int .i64 0)]) (.t 34)⟩,
        ⟨some 5, none, .v (.mv (.t 35))⟩] [1, 2, 5])
      (.seq
       (.seq
        (.reg 0 [
          ⟨some 36, none, .v (.mv (.t 1))⟩,
          ⟨some 37, none, .v (.len (.t 36))⟩,
          ⟨some 38, none, .v (.mv (.c (.int .i64 0)))⟩] [1, 2, 5, 36, 37, 38])
        (.block 0
         (.loop
          (.seq
           (.reg 0 [
             ⟨some 39, none, .v (.icmp .lss .i64 (.t 38) (.t 37))⟩] [1, 2, 5, 36, 37, 38, 39])
           (.seq
            (.cond (.t 39)
             .skip
             (.exit 0))
            (.seq
             (.block 1
              (.seq
               (.reg 6 [
                 ⟨some 40, none, .v (.mv (.t 38))⟩,
                 ⟨some 41, none, .v (.ia 4 (.t 36) (.t 38))⟩,
                 ⟨some 42, none, .v (.ld 4 true (.t 41))⟩,
                 ⟨some 7, none, .alloc 3 [(.int .i64 0), (.int .i64 0), (.int .i64 0), (.int .i64 0)]⟩,
                 ⟨some 6, none, .v (.mv (.t 40))⟩,
                 ⟨none, none, .st 4 (.t 7) (.t 42)⟩] [1, 2, 5, 6, 7, 36, 37, 38])
               (.reg 0 [
                 ⟨some 43, none, .v (.mv (.t 5))⟩,
                 ⟨some 44, none, .v (.mv (.t 6))⟩,
                 ⟨some 45, none, .v (.fa 0 (.t 7))⟩,
                 ⟨some 46, none, .v (.ld 1 false (.t 45))⟩,
                 ⟨some 47, none, .v (.fa 1 (.t 7))⟩,
                 ⟨some 48, none, .v (.ld 1 false (.t 47))⟩,
                 ⟨some 49, none, .v (.fa 2 (.t 7))⟩,
                 ⟨some 50, none, .v (.ld 1 false (.t 49))⟩,
                 ⟨some 51, none, .v (.fa 4 (.t 2))⟩,
                 ⟨some 52, none, .v (.ld 1 false (.t 51))⟩,
                 ⟨some 53, none, .v (.arith .mul .i64 (.t 50) (.t 52))⟩,
                 ⟨some 54, none, .v (.fa 3 (.t 7))⟩,
                 ⟨some 55, none, .v (.ld 1 false (.t 54))⟩,
                 ⟨some 56, none, .v (.fa 4 (.t 2))⟩,
                 ⟨some 57, none, .v (.ld 1 false (.t 56))⟩,
                 ⟨some 58, none, .v (.arith .mul .i64 (.t 55) (.t 57))⟩,
                 ⟨some 59, none, .v (.build [(.int .i64 0), (.int .i64 0), (.int .i64 0), (.int .i64 0)] [(0, 1, (.t 46)), (1, 1, (.t 48)), (2, 1, (.t 53)), (3, 1, (.t 58))])⟩,
                 ⟨some 60, none, .v (.ia 4 (.t 43) (.t 44))⟩,
                 ⟨none, none, .st 4 (.t 60) (.t 59)⟩] [1, 2, 5, 36, 37, 38])))
             (.reg 0 [
               ⟨some 61, none, .v (.arith .add .i64 (.t 38) (.c (.int .i64 1)))⟩,
               ⟨some 38, none, .v (.mv (.t 61))⟩] [1, 2, 5, 36, 37, 38])))))))
       (.seq
        (.reg 3 [
          ⟨some 62, none, .v (.ld 5 true (.t 2))⟩,
          ⟨some 8, none, .alloc 1 [(.int .i64 0), (.int .i64 0), (.int .i64 0), (.int .i64 0), (.int .i64 0)]⟩,
          ⟨none, none, .st 5 (.t 8) (.t 62)⟩] [1, 2, 5, 8])
        (.seq
         (.reg 0 [
           ⟨some 63, none, .v (.fa 4 (.t 8))⟩,
           ⟨none, none, .st 1 (.t 63) (.c (.int .i64 1))⟩] [1, 2, 5, 8])
         (.seq
          (.reg 0 [
            ⟨some 65, none, .v (.ld 5 true (.t 2))⟩,
            ⟨some 66, none, .v (.mv (.t 1))⟩,
            ⟨some 67, none, .call true (.c (.fn (.func 15) [] [])) [(.t 65), (.t 66)]⟩,
            ⟨some 64, none, .v (.mv (.t 67))⟩,
            ⟨some 68, none, .v (.ext 0 (.t 64))⟩,
            ⟨some 69, none, .v (.ext 1 (.t 64))⟩,
            ⟨some 9, none, .v (.mv (.t 68))⟩,
            ⟨some 10, none, .v (.mv (.t 69))⟩] [1, 2, 5, 8, 9, 10])
          (.seq
           (.reg 0 [
             ⟨some 71, none, .v (.ld 5 true (.t 8))⟩,
             ⟨some 72, none, .v (.mv (.t 5))⟩,
             ⟨some 73, none, .call true (.c (.fn (.func 15) [] [])) [(.t 71), (.t 72)]⟩,
             ⟨some 70, none, .v (.mv (.t 73))⟩,
             ⟨some 74, none, .v (.ext 0 (.t 70))⟩,
             ⟨some 75, none, .v (.ext 1 (.t 70))⟩,
             ⟨some 11, none, .v (.mv (.t 74))⟩,
             ⟨some 12, none, .v (.mv (.t 75))⟩] [1, 2, 5, 8, 9, 10, 11, 12])
           (.seq
            (.reg 0 [
              ⟨some 77, none, .v (.ld 5 true (.t 2))⟩,
              ⟨some 78, none, .v (.mv (.t 1))⟩,
              ⟨some 79, none, .call true (.c (.fn (.func 11) [] [])) [(.t 77), (.t 78)]⟩,
              ⟨some 76, none, .v (.mv (.t 79))⟩,
              ⟨some 80, none, .v (.ext 0 (.t 76))⟩,
              ⟨some 81, none, .v (.ext 1 (.t 76))⟩,
              ⟨some 13, none, .v (.mv (.t 80))⟩,
              ⟨some 14, none, .v (.mv (.t 81))⟩] [5, 8, 9, 10, 11, 12, 13, 14])
            (.seq
             (.reg 0 [
               ⟨some 83, none, .v (.ld 5 true (.t 8))⟩,
               ⟨some 84, none, .v (.mv (.t 5))⟩,
               ⟨some 85, none, .call true (.c (.fn (.func 11) [] [])) [(.t 83), (.t 84)]⟩,
               ⟨some 82, none, .v (.mv (.t 85))⟩,
               ⟨some 86, none, .v (.ext 0 (.t 82))⟩,
               ⟨some 87, none, .v (.ext 1 (.t 82))⟩,
               ⟨some 15, none, .v (.mv (.t 86))⟩,
               ⟨some 16, none, .v (.mv (.t 87))⟩] [9, 10, 11, 12, 13, 14, 15, 16])
             (.seq
              (.reg 0 [
                ⟨some 88, none, .v (.mv (.t 10))⟩,
                ⟨some 89, none, .v (.icmp .eql .i64 (.t 88) (.c (.int .i64 0)))⟩,
                ⟨some 90, none, .v (.mv (.t 89))⟩,
                ⟨some 91, some (90, true), .v (.mv (.t 12))⟩,
                ⟨some 92, some (90, true), .v (.icmp .eql .i64 (.t 91) (.c (.int .i64 0)))⟩,
                ⟨some 93, none, .pick (.t 90) (.t 92) (.c (.bool false))⟩,
                ⟨some 94, none, .v (.mv (.t 93))⟩,
                ⟨some 95, some (94, true), .v (.mv (.t 9))⟩,
                ⟨some 96, some (94, true), .v (.mv (.t 11))⟩,
                ⟨some 97, some (94, true), .call true (.c (.fn (.func 17) [] [])) [(.t 95), (.t 96)]⟩,
                ⟨some 98, none, .pick (.t 94) (.t 97) (.c (.bool false))⟩,
                ⟨some 99, none, .v (.mv (.t 98))⟩,
                ⟨some 100, some (99, true), .v (.mv (.t 14))⟩,
                ⟨some 101, some (99, true), .v (.icmp .eql .i64 (.t 100) (.c (.int .i64 0)))⟩,
                ⟨some 102, none, .pick (.t 99) (.t 101) (.c (.bool false))⟩,
                ⟨some 103, none, .v (.mv (.t 102))⟩,
                ⟨some 104, some (103, true), .v (.mv (.t 16))⟩,
                ⟨some 105, some (103, true), .v (.icmp .eql .i64 (.t 104) (.c (.int .i64 0)))⟩,
                ⟨some 106, none, .pick (.t 103) (.t 105) (.c (.bool false))⟩,
                ⟨some 107, none, .v (.mv (.t 106))⟩,
                ⟨some 108, some (107, true), .v (.mv (.t 13))⟩,
                ⟨some 109, some (107, true), .v (.b2s (.t 108))⟩,
                ⟨some 110, some (107, true), .v (.mv (.t 15))⟩,
                ⟨some 111, some (107, true), .v (.b2s (.t 110))⟩,
                ⟨some 112, some (107, true), .v (.scmp .eql (.t 109) (.t 111))⟩,
                ⟨some 113, none, .pick (.t 107) (.t 112) (.c (.bool false))⟩,
                ⟨some 4, none, .v (.mv (.t 113))⟩] [4])
              .ret))))))))))))
theorem l8 : Callable Tryd.prog 8 := ⟨Tryd.f8, by kernel_rfl, by kernel_rfl, by kernel_rfl⟩
theorem a8 {args : List AVal} {H : AHeap} {n : Nat} {R : AOut → AHeap → Nat → Prop} (h : awp Tryd.prog c8 (postC [.t 4] R) ⟨penv 0 args, H, n⟩) : ACalls Tryd.prog 8 args H n R :=
  acalls_of_awp' (fn := Tryd.f8) (c := Tryd.f8.body.getD .skip) (ac := c8) (fz := []) (im := []) (kp := kp8) (rs := [.t 4]) (by kernel_rfl) (by kernel_rfl) (by kernel_rfl) (by kernel_rfl) (by kernel_rfl) h

end Go.AM
end
