/-
  The abstract code of some functions, written by a program · The abstract code of some functions, written by a program · The abstract code of some functions, written by a program.
  Conditions: none beyond those of its parts.
-/
import Derived.Test.YtbejhipicmoobaaDoorProg
import Derived.Test.YtbejhipicmoobaaDoorB3
import Derived.KernelRfl

/- The abstract code of some functions, written by a program. Conditions: none. -/
section
set_option maxRecDepth 10000
set_option linter.unusedSimpArgs false
set_option linter.unusedVariables false
set_option maxRecDepth 20000
set_option linter.unusedVariables false
namespace Go.AM
open Go.Proofs





/-- gridwright/gridwrightref10.Equal -/
def kp14 (r : Nat) : List Nat := match r with
  | 0 => [0, 1]
  | 1 => [0, 1, 9]
  | 2 => [4]
  | 3 => [0, 1, 5]
  | 4 => [0, 1, 5, 13]
  | 6 => [0, 1, 5, 26]
  | 7 => [4]
  | 5 => [0, 1, 5]
  | 8 => [4]
  | _ => []
def c14 : ACode :=
  (.seq
   (.reg 0 [
     ⟨some 4, none, .v (.mv (.c (.bool false)))⟩] [0, 1])
   (.seq
    (.seq
     (.reg 0 [
       ⟨some 6, none, .v (.mv (.t 0))⟩,
       ⟨some 7, none, .v (.mv (.t 1))⟩,
       ⟨some 8, none, .call true (.c (.fn (.func 19) [] [])) [(.t 6), (.t 7)]⟩,
       ⟨some 9, none, .v (.not (.t 8))⟩] [0, 1, 9])
     (.cond (.t 9)
      (.seq
       (.reg 0 [
         ⟨some 4, none, .v (.mv (.c (.bool false)))⟩] [4])
       .ret)
      .skip))
    (.seq
     (.seq
      (.reg 0 [
        ⟨some 5, none, .v (.mv (.c (.int .i64 0)))⟩] [0, 1, 5])
      (.block 0
       (.loop
        (.seq
         (.seq
          (.reg 0 [
            ⟨some 10, none, .v (.mv (.t 5))⟩,
            ⟨some 11, none, .v (.mv (.t 0))⟩,
            ⟨some 12, none, .v (.len (.t 11))⟩,
            ⟨some 13, none, .v (.icmp .lss .i64 (.t 10) (.t 12))⟩] [0, 1, 5, 13])
          (.cond (.t 13)
           .skip
           (.exit 0)))
         (.seq
          (.block 1
           (.seq
            (.reg 0 [
              ⟨some 16, none, .v (.mv (.t 0))⟩,
              ⟨some 17, none, .v (.mv (.t 5))⟩,
              ⟨some 18, none, .v (.ia 4 (.t 16) (.t 17))⟩,
              ⟨some 19, none, .v (.fa 3 (.t 18))⟩,
              ⟨some 20, none, .v (.ld 1 false (.t 19))⟩,
              ⟨some 21, none, .v (.mv (.t 1))⟩,
              ⟨some 22, none, .v (.mv (.t 5))⟩,
              ⟨some 23, none, .v (.ia 4 (.t 21) (.t 22))⟩,
              ⟨some 24, none, .v (.fa 3 (.t 23))⟩,
              ⟨some 25, none, .v (.ld 1 false (.t 24))⟩,
              ⟨some 26, none, .v (.icmp .neq .i64 (.t 20) (.t 25))⟩] [0, 1, 5, 26])
            (.cond (.t 26)
             (.seq
              (.reg 0 [
                ⟨some 4, none, .v (.mv (.c (.bool false)))⟩] [4])
              .ret)
             .skip)))
          (.reg 0 [
            ⟨some 14, none, .v (.mv (.t 5))⟩,
            ⟨some 15, none, .v (.arith .add .i64 (.t 14) (.c (.int .i64 1)))⟩,
            ⟨some 5, none, .v (.mv (.t 15))⟩] [0, 1, 5]))))))
     (.seq
      (.reg 0 [
        ⟨some 4, none, .v (.mv (.c (.bool true)))⟩] [4])
      .ret))))
theorem l14 : Callable Tryd.prog 14 := ⟨Tryd.f14, by kernel_rfl, by kernel_rfl, by kernel_rfl⟩
theorem a14 {args : List AVal} {H : AHeap} {n : Nat} {R : AOut → AHeap → Nat → Prop} (h : awp Tryd.prog c14 (postC [.t 4] R) ⟨penv 0 args, H, n⟩) : ACalls Tryd.prog 14 args H n R :=
  acalls_of_awp' (fn := Tryd.f14) (c := Tryd.f14.body.getD .skip) (ac := c14) (fz := []) (im := []) (kp := kp14) (rs := [.t 4]) (by kernel_rfl) (by kernel_rfl) (by kernel_rfl) (by kernel_rfl) (by kernel_rfl) h

/-- gridwright/gridwrightref10.Few -/
def kp15 (r : Nat) : List Nat := match r with
  | 0 => [0]
  | 1 => [0, 3]
  | 2 => [0, 3, 4]
  | 3 => [0, 3, 4, 8]
  | 5 => [0, 3, 4]
  | 4 => [0, 3, 4]
  | 6 => [2]
  | _ => []
def c15 : ACode :=
  (.seq
   (.reg 0 [
     ⟨some 2, none, .v (.mv (.c (.bool false)))⟩] [0])
   (.seq
    (.reg 0 [
      ⟨some 3, none, .v (.mv (.c (.int .i64 0)))⟩] [0, 3])
    (.seq
     (.seq
      (.reg 0 [
        ⟨some 4, none, .v (.mv (.c (.int .i64 0)))⟩] [0, 3, 4])
      (.block 0
       (.loop
        (.seq
         (.seq
          (.reg 0 [
            ⟨some 5, none, .v (.mv (.t 4))⟩,
            ⟨some 6, none, .v (.mv (.t 0))⟩,
            ⟨some 7, none, .v (.len (.t 6))⟩,
            ⟨some 8, none, .v (.icmp .lss .i64 (.t 5) (.t 7))⟩] [0, 3, 4, 8])
          (.cond (.t 8)
           .skip
           (.exit 0)))
         (.seq
          (.block 1
           (.reg 0 [
             ⟨some 11, none, .v (.mv (.t 3))⟩,
             ⟨some 12, none, .v (.mv (.t 0))⟩,
             ⟨some 13, none, .v (.mv (.t 4))⟩,
             ⟨some 14, none, .v (.ia 4 (.t 12) (.t 13))⟩,
             ⟨some 15, none, .v (.fa 1 (.t 14))⟩,
             ⟨some 16, none, .v (.ld 1 false (.t 15))⟩,
             ⟨some 17, none, .v (.lenS (.t 16))⟩,
             ⟨some 18, none, .v (.arith .add .i64 (.t 11) (.t 17))⟩,
             ⟨some 3, none, .v (.mv (.t 18))⟩] [0, 3, 4]))
          (.reg 0 [
            ⟨some 9, none, .v (.mv (.t 4))⟩,
            ⟨some 10, none, .v (.arith .add .i64 (.t 9) (.c (.int .i64 1)))⟩,
            ⟨some 4, none, .v (.mv (.t 10))⟩] [0, 3, 4]))))))
     (.seq
      (.reg 0 [
        ⟨some 19, none, .v (.mv (.t 0))⟩,
        ⟨some 20, none, .v (.len (.t 19))⟩,
        ⟨some 21, none, .v (.icmp .leq .i64 (.t 20) (.c (.int .i64 200)))⟩,
        ⟨some 22, none, .v (.mv (.t 21))⟩,
        ⟨some 23, some (22, true), .v (.mv (.t 3))⟩,
        ⟨some 24, some (22, true), .v (.icmp .leq .i64 (.t 23) (.c (.int .i64 2000)))⟩,
        ⟨some 25, none, .pick (.t 22) (.t 24) (.c (.bool false))⟩,
        ⟨some 2, none, .v (.mv (.t 25))⟩] [2])
      .ret))))
theorem l15 : Callable Tryd.prog 15 := ⟨Tryd.f15, by kernel_rfl, by kernel_rfl, by kernel_rfl⟩
theorem a15 {args : List AVal} {H : AHeap} {n : Nat} {R : AOut → AHeap → Nat → Prop} (h : awp Tryd.prog c15 (postC [.t 2] R) ⟨penv 0 args, H, n⟩) : ACalls Tryd.prog 15 args H n R :=
  acalls_of_awp' (fn := Tryd.f15) (c := Tryd.f15.body.getD .skip) (ac := c15) (fz := []) (im := []) (kp := kp15) (rs := [.t 2]) (by kernel_rfl) (by kernel_rfl) (by kernel_rfl) (by kernel_rfl) (by kernel_rfl) h

/-- gridwright/lex.Text -/
def kp16 (r : Nat) : List Nat := match r with
  | 0 => [0]
  | 1 => [0, 4]
  | 2 => [4, 10, 11, 12]
  | 3 => [4, 10, 11, 12, 13]
  | 4 => [4, 5, 6, 10, 11, 12]
  | 6 => [4, 5, 6, 10, 11, 12, 22]
  | 7 => [2, 3]
  | 8 => [4, 5, 6, 10, 11, 12, 26]
  | 9 => [4, 10, 11, 12]
  | 5 => [4, 10, 11, 12]
  | 10 => [4, 10, 11, 12]
  | 11 => [2, 3]
  | _ => []
def c16 : ACode :=
  (.seq
   (.reg 0 [
     ⟨some 2, none, .v (.mv (.c (.str [])))⟩,
     ⟨some 3, none, .v (.mv (.c (.int .i64 0)))⟩] [0])
   (.seq
    (.reg 4 [
      ⟨some 7, none, .v (.mv (.t 0))⟩,
      ⟨some 8, none, .v (.len (.t 7))⟩,
      ⟨some 9, none, .mks 2 1 16 (.str []) (.t 8)⟩,
      ⟨some 4, none, .v (.mv (.t 9))⟩] [0, 4])
    (.seq
     (.seq
      (.reg 0 [
        ⟨some 10, none, .v (.mv (.t 0))⟩,
        ⟨some 11, none, .v (.len (.t 10))⟩,
        ⟨some 12, none, .v (.mv (.c (.int .i64 0)))⟩] [4, 10, 11, 12])
      (.block 0
       (.loop
        (.seq
         (.reg 0 [
           ⟨some 13, none, .v (.icmp .lss .i64 (.t 12) (.t 11))⟩] [4, 10, 11, 12, 13])
         (.seq
          (.cond (.t 13)
           .skip
           (.exit 0))
          (.seq
           (.block 1
            (.seq
             (.reg 6 [
               ⟨some 14, none, .v (.mv (.t 12))⟩,
               ⟨some 15, none, .v (.ia 4 (.t 10) (.t 12))⟩,
               ⟨some 16, none, .v (.ld 4 true (.t 15))⟩,
               ⟨some 6, none, .alloc 3 [(.int .i64 0), (.str []), (.int .i64 0), (.int .i64 0)]⟩,
               ⟨some 5, none, .v (.mv (.t 14))⟩,
               ⟨none, none, .st 4 (.t 6) (.t 16)⟩] [4, 5, 6, 10, 11, 12])
             (.block 2
              (.seq
               (.reg 0 [
                 ⟨some 23, none, .v (.ld 4 true (.t 6))⟩,
                 ⟨some 24, none, .call true (.c (.fn (.func 36) [] [])) [(.t 23)]⟩,
                 ⟨some 25, none, .v (.not (.t 24))⟩,
                 ⟨some 22, none, .v (.mv (.t 25))⟩] [4, 5, 6, 10, 11, 12, 22])
               (.cond (.t 22)
                (.seq
                 (.reg 0 [
                   ⟨some 2, none, .v (.mv (.c (.str [])))⟩,
                   ⟨some 3, none, .v (.mv (.c (.int .i64 100)))⟩] [2, 3])
                 .ret)
                (.seq
                 (.reg 0 [
                   ⟨some 27, none, .v (.fa 0 (.t 6))⟩,
                   ⟨some 28, none, .v (.ld 1 false (.t 27))⟩,
                   ⟨some 29, none, .v (.icmp .eql .i64 (.t 28) (.c (.int .i64 2)))⟩,
                   ⟨some 26, none, .v (.mv (.t 29))⟩] [4, 5, 6, 10, 11, 12, 26])
                 (.cond (.t 26)
                  (.reg 0 [
                    ⟨some 30, none, .v (.mv (.t 4))⟩,
                    ⟨some 31, none, .v (.mv (.t 5))⟩,
                    ⟨some 32, none, .v (.fa 2 (.t 6))⟩,
                    ⟨some 33, none, .v (.ld 1 false (.t 32))⟩,
                    ⟨some 34, none, .call true (.c (.fn (.func 37) [] [])) [(.t 33)]⟩,
                    ⟨some 35, none, .v (.ia 1 (.t 30) (.t 31))⟩,
                    ⟨none, none, .st 1 (.t 35) (.t 34)⟩] [4, 10, 11, 12])
                  (.reg 0 [
                    ⟨some 17, none, .v (.mv (.t 4))⟩,
                    ⟨some 18, none, .v (.mv (.t 5))⟩,
                    ⟨some 19, none, .v (.fa 1 (.t 6))⟩,
                    ⟨some 20, none, .v (.ld 1 false (.t 19))⟩,
                    ⟨some 21, none, .v (.ia 1 (.t 17) (.t 18))⟩,
                    ⟨none, none, .st 1 (.t 21) (.t 20)⟩] [4, 10, 11, 12]))))))))
           (.reg 0 [
             ⟨some 36, none, .v (.arith .add .i64 (.t 12) (.c (.int .i64 1)))⟩,
             ⟨some 12, none, .v (.mv (.t 36))⟩] [4, 10, 11, 12])))))))
     (.seq
      (.reg 0 [
        ⟨some 37, none, .v (.mv (.t 4))⟩,
        ⟨some 38, none, .call true (.c (.fn (.func 38) [] [])) [(.t 37), (.c (.str [32]))]⟩,
        ⟨some 2, none, .v (.mv (.t 38))⟩,
        ⟨some 3, none, .v (.mv (.c (.int .i64 0)))⟩] [2, 3])
      .ret))))
theorem l16 : Callable Tryd.prog 16 := ⟨Tryd.f16, by kernel_rfl, by kernel_rfl, by kernel_rfl⟩
theorem a16 {args : List AVal} {H : AHeap} {n : Nat} {R : AOut → AHeap → Nat → Prop} (h : awp Tryd.prog c16 (postC [.t 2, .t 3] R) ⟨penv 0 args, H, n⟩) : ACalls Tryd.prog 16 args H n R :=
  acalls_of_awp' (fn := Tryd.f16) (c := Tryd.f16.body.getD .skip) (ac := c16) (fz := []) (im := []) (kp := kp16) (rs := [.t 2, .t 3]) (by kernel_rfl) (by kernel_rfl) (by kernel_rfl) (by kernel_rfl) (by kernel_rfl) h

/-- gridwright/gridwrightref10.Text -/
def kp17 (r : Nat) : List Nat := match r with
  | 0 => [0]
  | 1 => [0, 4]
  | 2 => [0, 4, 5]
  | 3 => [0, 4, 5, 9]
  | 5 => [0, 4, 5, 17]
  | 6 => [2, 3]
  | 7 => [0, 4, 5, 19]
  | 8 => [0, 4, 5]
  | 9 => [0, 4, 5, 27]
  | 10 => [0, 4, 5]
  | 11 => [0, 4, 5]
  | 4 => [0, 4, 5]
  | 12 => [2, 3]
  | _ => []
def c17 : ACode :=
  (.seq
   (.reg 0 [
     ⟨some 2, none, .v (.mv (.c (.str [])))⟩,
     ⟨some 3, none, .v (.mv (.c (.int .i64 0)))⟩] [0])
   (.seq
    (.reg 0 [
      ⟨some 4, none, .v (.mv (.c (.str [])))⟩] [0, 4])
    (.seq
     (.seq
      (.reg 0 [
        ⟨some 5, none, .v (.mv (.c (.int .i64 0)))⟩] [0, 4, 5])
      (.block 0
       (.loop
        (.seq
         (.seq
          (.reg 0 [
            ⟨some 6, none, .v (.mv (.t 5))⟩,
            ⟨some 7, none, .v (.mv (.t 0))⟩,
            ⟨some 8, none, .v (.len (.t 7))⟩,
            ⟨some 9, none, .v (.icmp .lss .i64 (.t 6) (.t 8))⟩] [0, 4, 5, 9])
          (.cond (.t 9)
           .skip
           (.exit 0)))
         (.seq
          (.block 1
           (.seq
            (.seq
             (.reg 0 [
               ⟨some 12, none, .v (.mv (.t 0))⟩,
               ⟨some 13, none, .v (.mv (.t 5))⟩,
               ⟨some 14, none, .v (.ia 4 (.t 12) (.t 13))⟩,
               ⟨some 15, none, .v (.ld 4 true (.t 14))⟩,
               ⟨some 16, none, .call true (.c (.fn (.func 39) [] [])) [(.t 15)]⟩,
               ⟨some 17, none, .v (.not (.t 16))⟩] [0, 4, 5, 17])
             (.cond (.t 17)
              (.seq
               (.reg 0 [
                 ⟨some 2, none, .v (.mv (.c (.str [])))⟩,
                 ⟨some 3, none, .v (.mv (.c (.int .i64 100)))⟩] [2, 3])
               .ret)
              .skip))
            (.seq
             (.seq
              (.reg 0 [
                ⟨some 18, none, .v (.mv (.t 5))⟩,
                ⟨some 19, none, .v (.icmp .gtr .i64 (.t 18) (.c (.int .i64 0)))⟩] [0, 4, 5, 19])
              (.cond (.t 19)
               (.reg 0 [
                 ⟨some 20, none, .v (.mv (.t 4))⟩,
                 ⟨some 21, none, .v (.sadd (.t 20) (.c (.str [32])))⟩,
                 ⟨some 4, none, .v (.mv (.t 21))⟩] [0, 4, 5])
               .skip))
             (.seq
              (.reg 0 [
                ⟨some 22, none, .v (.mv (.t 0))⟩,
                ⟨some 23, none, .v (.mv (.t 5))⟩,
                ⟨some 24, none, .v (.ia 4 (.t 22) (.t 23))⟩,
                ⟨some 25, none, .v (.fa 0 (.t 24))⟩,
                ⟨some 26, none, .v (.ld 1 false (.t 25))⟩,
                ⟨some 27, none, .v (.icmp .eql .i64 (.t 26) (.c (.int .i64 2)))⟩] [0, 4, 5, 27])
              (.cond (.t 27)
               (.reg 0 [
                 ⟨some 28, none, .v (.mv (.t 4))⟩,
                 ⟨some 29, none, .v (.mv (.t 0))⟩,
                 ⟨some 30, none, .v (.mv (.t 5))⟩,
                 ⟨some 31, none, .v (.ia 4 (.t 29) (.t 30))⟩,
                 ⟨some 32, none, .v (.fa 2 (.t 31))⟩,
                 ⟨some 33, none, .v (.ld 1 false (.t 32))⟩,
                 ⟨some 34, none, .call true (.c (.fn (.func 40) [] [])) [(.t 33)]⟩,
                 ⟨some 35, none, .v (.sadd (.t 28) (.t 34))⟩,
                 ⟨some 4, none, .v (.mv (.t 35))⟩] [0, 4, 5])
               (.reg 0 [
                 ⟨some 36, none, .v (.mv (.t 4))⟩,
                 ⟨some 37, none, .v (.mv (.t 0))⟩,
                 ⟨some 38, none, .v (.mv (.t 5))⟩,
                 ⟨some 39, none, .v (.ia 4 (.t 37) (.t 38))⟩,
                 ⟨some 40, none, .v (.fa 1 (.t 39))⟩,
                 ⟨some 41, none, .v (.ld 1 false (.t 40))⟩,
                 ⟨some 42, none, .v (.sadd (.t 36) (.t 41))⟩,
                 ⟨some 4, none, .v (.mv (.t 42))⟩] [0, 4, 5]))))))
          (.reg 0 [
            ⟨some 10, none, .v (.mv (.t 5))⟩,
            ⟨some 11, none, .v (.arith .add .i64 (.t 10) (.c (.int .i64 1)))⟩,
            ⟨some 5, none, .v (.mv (.t 11))⟩] [0, 4, 5]))))))
     (.seq
      (.reg 0 [
        ⟨some 43, none, .v (.mv (.t 4))⟩,
        ⟨some 2, none, .v (.mv (.t 43))⟩,
        ⟨some 3, none, .v (.mv (.c (.int .i64 0)))⟩] [2, 3])
      .ret))))
theorem l17 : Callable Tryd.prog 17 := ⟨Tryd.f17, by kernel_rfl, by kernel_rfl, by kernel_rfl⟩
theorem a17 {args : List AVal} {H : AHeap} {n : Nat} {R : AOut → AHeap → Nat → Prop} (h : awp Tryd.prog c17 (postC [.t 2, .t 3] R) ⟨penv 0 args, H, n⟩) : ACalls Tryd.prog 17 args H n R :=
  acalls_of_awp' (fn := Tryd.f17) (c := Tryd.f17.body.getD .skip) (ac := c17) (fz := []) (im := []) (kp := kp17) (rs := [.t 2, .t 3]) (by kernel_rfl) (by kernel_rfl) (by kernel_rfl) (by kernel_rfl) (by kernel_rfl) h

/-- gridwright/lex.Same -/
def kp18 (r : Nat) : List Nat := match r with
  | 0 => [0, 1]
  | 1 => [4]
  | _ => []
def c18 : ACode :=
  (.seq
   (.reg 0 [
     ⟨some 4, none, .v (.mv (.c (.bool false)))⟩] [0, 1])
   (.seq
    (.reg 0 [
      ⟨some 5, none, .v (.mv (.t 0))⟩,
      ⟨some 6, none, .v (.mv (.t 1))⟩,
      ⟨some 7, none, .call true (.c (.fn (.func 41) [] [])) [(.t 5), (.t 6), (.c (.fn (.func 42) [] []))]⟩,
      ⟨some 4, none, .v (.mv (.t 7))⟩] [4])
    .ret))
theorem l18 : Callable Tryd.prog 18 := ⟨Tryd.f18, by kernel_rfl, by kernel_rfl, by kernel_rfl⟩
theorem a18 {args : List AVal} {H : AHeap} {n : Nat} {R : AOut → AHeap → Nat → Prop} (h : awp Tryd.prog c18 (postC [.t 4] R) ⟨penv 0 args, H, n⟩) : ACalls Tryd.prog 18 args H n R :=
  acalls_of_awp' (fn := Tryd.f18) (c := Tryd.f18.body.getD .skip) (ac := c18) (fz := []) (im := []) (kp := kp18) (rs := [.t 4]) (by kernel_rfl) (by kernel_rfl) (by kernel_rfl) (by kernel_rfl) (by kernel_rfl) h

/-- gridwright/gridwrightref10.Same -/
def kp19 (r : Nat) : List Nat := match r with
  | 0 => [0, 1]
  | 1 => [0, 1, 10]
  | 2 => [4]
  | 3 => [0, 1, 5]
  | 4 => [0, 1, 5, 14]
  | 6 => [0, 1, 5, 53]
  | 7 => [4]
  | 5 => [0, 1, 5]
  | 8 => [4]
  | _ => []
def c19 : ACode :=
  (.seq
   (.reg 0 [
     ⟨some 4, none, .v (.mv (.c (.bool false)))⟩] [0, 1])
   (.seq
    (.seq
     (.reg 0 [
       ⟨some 6, none, .v (.mv (.t 0))⟩,
       ⟨some 7, none, .v (.len (.t 6))⟩,
       ⟨some 8, none, .v (.mv (.t 1))⟩,
       ⟨some 9, none, .v (.len (.t 8))⟩,
       ⟨some 10, none, .v (.icmp .neq .i64 (.t 7) (.t 9))⟩] [0, 1, 10])
     (.cond (.t 10)
      (.seq
       (.reg 0 [
         ⟨some 4, none, .v (.mv (.c (.bool false)))⟩] [4])
       .ret)
      .skip))
    (.seq
     (.seq
      (.reg 0 [
        ⟨some 5, none, .v (.mv (.c (.int .i64 0)))⟩] [0, 1, 5])
      (.block 0
       (.loop
        (.seq
         (.seq
          (.reg 0 [
            ⟨some 11, none, .v (.mv (.t 5))⟩,
            ⟨some 12, none, .v (.mv (.t 0))⟩,
            ⟨some 13, none, .v (.len (.t 12))⟩,
            ⟨some 14, none, .v (.icmp .lss .i64 (.t 11) (.t 13))⟩] [0, 1, 5, 14])
          (.cond (.t 14)
           .skip
           (.exit 0)))
         (.seq
          (.block 1
           (.seq
            (.reg 0 [
              ⟨some 17, none, .v (.mv (.t 0))⟩,
              ⟨some 18, none, .v (.mv (.t 5))⟩,
              ⟨some 19, none, .v (.ia 4 (.t 17) (.t 18))⟩,
              ⟨some 20, none, .v (.fa 0 (.t 19))⟩,
              ⟨some 21, none, .v (.ld 1 false (.t 20))⟩,
              ⟨some 22, none, .v (.mv (.t 1))⟩,
              ⟨some 23, none, .v (.mv (.t 5))⟩,
              ⟨some 24, none, .v (.ia 4 (.t 22) (.t 23))⟩,
              ⟨some 25, none, .v (.fa 0 (.t 24))⟩,
              ⟨some 26, none, .v (.ld 1 false (.t 25))⟩,
              ⟨some 27, none, .v (.icmp .neq .i64 (.t 21) (.t 26))⟩,
              ⟨some 28, none, .v (.mv (.t 27))⟩,
              ⟨some 29, some (28, false), .v (.mv (.t 0))⟩,
              ⟨some 30, some (28, false), .v (.mv (.t 5))⟩,
              ⟨some 31, some (28, false), .v (.ia 4 (.t 29) (.t 30))⟩,
              ⟨some 32, some (28, false), .v (.fa 1 (.t 31))⟩,
              ⟨some 33, some (28, false), .v (.ld 1 false (.t 32))⟩,
              ⟨some 34, some (28, false), .v (.mv (.t 1))⟩,
              ⟨some 35, some (28, false), .v (.mv (.t 5))⟩,
              ⟨some 36, some (28, false), .v (.ia 4 (.t 34) (.t 35))⟩,
              ⟨some 37, some (28, false), .v (.fa 1 (.t 36))⟩,
              ⟨some 38, some (28, false), .v (.ld 1 false (.t 37))⟩,
              ⟨some 39, some (28, false), .v (.scmp .neq (.t 33) (.t 38))⟩,
              ⟨some 40, none, .pick (.t 28) (.c (.bool true)) (.t 39)⟩,
              ⟨some 41, none, .v (.mv (.t 40))⟩,
              ⟨some 42, some (41, false), .v (.mv (.t 0))⟩,
              ⟨some 43, some (41, false), .v (.mv (.t 5))⟩,
              ⟨some 44, some (41, false), .v (.ia 4 (.t 42) (.t 43))⟩,
              ⟨some 45, some (41, false), .v (.fa 2 (.t 44))⟩,
              ⟨some 46, some (41, false), .v (.ld 1 false (.t 45))⟩,
              ⟨some 47, some (41, false), .v (.mv (.t 1))⟩,
              ⟨some 48, some (41, false), .v (.mv (.t 5))⟩,
              ⟨some 49, some (41, false), .v (.ia 4 (.t 47) (.t 48))⟩,
              ⟨some 50, some (41, false), .v (.fa 2 (.t 49))⟩,
              ⟨some 51, some (41, false), .v (.ld 1 false (.t 50))⟩,
              ⟨some 52, some (41, false), .v (.icmp .neq .i64 (.t 46) (.t 51))⟩,
              ⟨some 53, none, .pick (.t 41) (.c (.bool true)) (.t 52)⟩] [0, 1, 5, 53])
            (.cond (.t 53)
             (.seq
              (.reg 0 [
                ⟨some 4, none, .v (.mv (.c (.bool false)))⟩] [4])
              .ret)
             .skip)))
          (.reg 0 [
            ⟨some 15, none, .v (.mv (.t 5))⟩,
            ⟨some 16, none, .v (.arith .add .i64 (.t 15) (.c (.int .i64 1)))⟩,
            ⟨some 5, none, .v (.mv (.t 16))⟩] [0, 1, 5]))))))
     (.seq
      (.reg 0 [
        ⟨some 4, none, .v (.mv (.c (.bool true)))⟩] [4])
      .ret))))
theorem l19 : Callable Tryd.prog 19 := ⟨Tryd.f19, by kernel_rfl, by kernel_rfl, by kernel_rfl⟩
theorem a19 {args : List AVal} {H : AHeap} {n : Nat} {R : AOut → AHeap → Nat → Prop} (h : awp Tryd.prog c19 (postC [.t 4] R) ⟨penv 0 args, H, n⟩) : ACalls Tryd.prog 19 args H n R :=
  acalls_of_awp' (fn := Tryd.f19) (c := Tryd.f19.body.getD .skip) (ac := c19) (fz := []) (im := []) (kp := kp19) (rs := [.t 4]) (by kernel_rfl) (by kernel_rfl) (by kernel_rfl) (by kernel_rfl) (by kernel_rfl) h

/-- gridwright/lex.Name -/
def kp20 (r : Nat) : List Nat := match r with
  | 0 => [0]
  | 1 => [0, 17]
  | 2 => [2]
  | 3 => [0, 19, 20]
  | 4 => [0, 19, 20, 21]
  | 5 => [0, 3, 19, 20]
  | 6 => [0, 4, 19, 20]
  | 7 => [0, 19, 20, 36]
  | 8 => [2]
  | 9 => [0, 19, 20]
  | 10 => [2]
  | _ => []
def c20 : ACode :=
  (.seq
   (.reg 0 [
     ⟨some 2, none, .v (.mv (.c (.bool false)))⟩] [0])
   (.seq
    (.seq
     (.reg 0 [
       ⟨some 5, none, .v (.mv (.t 0))⟩,
       ⟨some 6, none, .v (.scmp .eql (.t 5) (.c (.str [])))⟩,
       ⟨some 7, none, .v (.mv (.t 6))⟩,
       ⟨some 8, some (7, false), .v (.mv (.t 0))⟩,
       ⟨some 9, some (7, false), .v (.lenS (.t 8))⟩,
       ⟨some 10, some (7, false), .v (.icmp .gtr .i64 (.t 9) (.c (.int .i64 32)))⟩,
       ⟨some 11, none, .pick (.t 7) (.c (.bool true)) (.t 10)⟩,
       ⟨some 12, none, .v (.mv (.t 11))⟩,
       ⟨some 13, some (12, false), .v (.mv (.t 0))⟩,
       ⟨some 14, some (12, false), .v (.ixS (.t 13) (.c (.int .i64 0)))⟩,
       ⟨some 15, some (12, false), .call true (.c (.fn (.func 30) [] [])) [(.t 14)]⟩,
       ⟨some 16, some (12, false), .v (.icmp .neq .i64 (.t 15) (.c (.int .i64 2)))⟩,
       ⟨some 17, none, .pick (.t 12) (.c (.bool true)) (.t 16)⟩] [0, 17])
     (.cond (.t 17)
      (.seq
       (.reg 0 [
         ⟨some 2, none, .v (.mv (.c (.bool false)))⟩] [2])
       .ret)
      .skip))
    (.seq
     (.seq
      (.reg 0 [
        ⟨some 18, none, .v (.mv (.t 0))⟩,
        ⟨some 19, none, .v (.lenS (.t 18))⟩,
        ⟨some 20, none, .v (.mv (.c (.int .i64 0)))⟩] [0, 19, 20])
      (.block 0
       (.loop
        (.seq
         (.reg 0 [
           ⟨some 21, none, .v (.icmp .lss .i64 (.t 20) (.t 19))⟩] [0, 19, 20, 21])
         (.seq
          (.cond (.t 21)
           .skip
           (.exit 0))
          (.seq
           (.block 1
            (.seq
             (.reg 0 [
               ⟨some 22, none, .v (.mv (.t 20))⟩,
               ⟨some 3, none, .v (.mv (.t 22))⟩] [0, 3, 19, 20])
             (.seq
              (.reg 0 [
                ⟨some 23, none, .v (.mv (.t 0))⟩,
                ⟨some 24, none, .v (.mv (.t 3))⟩,
                ⟨some 25, none, .v (.ixS (.t 23) (.t 24))⟩,
                ⟨some 26, none, .call true (.c (.fn (.func 30) [] [])) [(.t 25)]⟩,
                ⟨some 4, none, .v (.mv (.t 26))⟩] [0, 4, 19, 20])
              (.seq
               (.reg 0 [
                 ⟨some 27, none, .v (.mv (.t 4))⟩,
                 ⟨some 28, none, .v (.icmp .neq .i64 (.t 27) (.c (.int .i64 2)))⟩,
                 ⟨some 29, none, .v (.mv (.t 28))⟩,
                 ⟨some 30, some (29, true), .v (.mv (.t 4))⟩,
                 ⟨some 31, some (29, true), .v (.icmp .neq .i64 (.t 30) (.c (.int .i64 3)))⟩,
                 ⟨some 32, none, .pick (.t 29) (.t 31) (.c (.bool false))⟩,
                 ⟨some 33, none, .v (.mv (.t 32))⟩,
                 ⟨some 34, some (33, true), .v (.mv (.t 4))⟩,
                 ⟨some 35, some (33, true), .v (.icmp .neq .i64 (.t 34) (.c (.int .i64 5)))⟩,
                 ⟨some 36, none, .pick (.t 33) (.t 35) (.c (.bool false))⟩] [0, 19, 20, 36])
               (.cond (.t 36)
                (.seq
                 (.reg 0 [
                   ⟨some 2, none, .v (.mv (.c (.bool false)))⟩] [2])
                 .ret)
                .skip)))))
           (.reg 0 [
             ⟨some 37, none, .v (.arith .add .i64 (.t 20) (.c (.int .i64 1)))⟩,
             ⟨some 20, none, .v (.mv (.t 37))⟩] [0, 19, 20])))))))
     (.seq
      (.reg 0 [
        ⟨some 2, none, .v (.mv (.c (.bool true)))⟩] [2])
      .ret))))
theorem l20 : Callable Tryd.prog 20 := ⟨Tryd.f20, by kernel_rfl, by kernel_rfl, by kernel_rfl⟩
theorem a20 {args : List AVal} {H : AHeap} {n : Nat} {R : AOut → AHeap → Nat → Prop} (h : awp Tryd.prog c20 (postC [.t 2] R) ⟨penv 0 args, H, n⟩) : ACalls Tryd.prog 20 args H n R :=
  acalls_of_awp' (fn := Tryd.f20) (c := Tryd.f20.body.getD .skip) (ac := c20) (fz := []) (im := []) (kp := kp20) (rs := [.t 2]) (by kernel_rfl) (by kernel_rfl) (by kernel_rfl) (by kernel_rfl) (by kernel_rfl) h

/-- gridwright/gridwrightref10.Name -/
def kp21 (r : Nat) : List Nat := match r with
  | 0 => [0]
  | 1 => [0, 17]
  | 2 => [2]
  | 3 => [0, 3]
  | 4 => [0, 3, 21]
  | 6 => [0, 3, 28]
  | 7 => [2]
  | 5 => [0, 3]
  | 8 => [2]
  | _ => []
def c21 : ACode :=
  (.seq
   (.reg 0 [
     ⟨some 2, none, .v (.mv (.c (.bool false)))⟩] [0])
   (.seq
    (.seq
     (.reg 0 [
       ⟨some 4, none, .v (.mv (.t 0))⟩,
       ⟨some 5, none, .v (.lenS (.t 4))⟩,
       ⟨some 6, none, .v (.icmp .lss .i64 (.t 5) (.c (.int .i64 1)))⟩,
       ⟨some 7, none, .v (.mv (.t 6))⟩,
       ⟨some 8, some (7, false), .v (.mv (.t 0))⟩,
       ⟨some 9, some (7, false), .v (.lenS (.t 8))⟩,
       ⟨some 10, some (7, false), .v (.icmp .gtr .i64 (.t 9) (.c (.int .i64 32)))⟩,
       ⟨some 11, none, .pick (.t 7) (.c (.bool true)) (.t 10)⟩,
       ⟨some 12, none, .v (.mv (.t 11))⟩,
       ⟨some 13, some (12, false), .v (.mv (.t 0))⟩,
       ⟨some 14, some (12, false), .v (.ixS (.t 13) (.c (.int .i64 0)))⟩,
       ⟨some 15, some (12, false), .call true (.c (.fn (.func 31) [] [])) [(.t 14)]⟩,
       ⟨some 16, some (12, false), .v (.not (.t 15))⟩,
       ⟨some 17, none, .pick (.t 12) (.c (.bool true)) (.t 16)⟩] [0, 17])
     (.cond (.t 17)
      (.seq
       (.reg 0 [
         ⟨some 2, none, .v (.mv (.c (.bool false)))⟩] [2])
       .ret)
      .skip))
    (.seq
     (.seq
      (.reg 0 [
        ⟨some 3, none, .v (.mv (.c (.int .i64 0)))⟩] [0, 3])
      (.block 0
       (.loop
        (.seq
         (.seq
          (.reg 0 [
            ⟨some 18, none, .v (.mv (.t 3))⟩,
            ⟨some 19, none, .v (.mv (.t 0))⟩,
            ⟨some 20, none, .v (.lenS (.t 19))⟩,
            ⟨some 21, none, .v (.icmp .lss .i64 (.t 18) (.t 20))⟩] [0, 3, 21])
          (.cond (.t 21)
           .skip
           (.exit 0)))
         (.seq
          (.block 1
           (.seq
            (.reg 0 [
              ⟨some 24, none, .v (.mv (.t 0))⟩,
              ⟨some 25, none, .v (.mv (.t 3))⟩,
              ⟨some 26, none, .v (.ixS (.t 24) (.t 25))⟩,
              ⟨some 27, none, .call true (.c (.fn (.func 32) [] [])) [(.t 26)]⟩,
              ⟨some 28, none, .v (.not (.t 27))⟩] [0, 3, 28])
            (.cond (.t 28)
             (.seq
              (.reg 0 [
                ⟨some 2, none, .v (.mv (.c (.bool false)))⟩] [2])
              .ret)
             .skip)))
          (.reg 0 [
            ⟨some 22, none, .v (.mv (.t 3))⟩,
            ⟨some 23, none, .v (.arith .add .i64 (.t 22) (.c (.int .i64 1)))⟩,
            ⟨some 3, none, .v (.mv (.t 23))⟩] [0, 3]))))))
     (.seq
      (.reg 0 [
        ⟨some 2, none, .v (.mv (.c (.bool true)))⟩] [2])
      .ret))))
theorem l21 : Callable Tryd.prog 21 := ⟨Tryd.f21, by kernel_rfl, by kernel_rfl, by kernel_rfl⟩
theorem a21 {args : List AVal} {H : AHeap} {n : Nat} {R : AOut → AHeap → Nat → Prop} (h : awp Tryd.prog c21 (postC [.t 2] R) ⟨penv 0 args, H, n⟩) : ACalls Tryd.prog 21 args H n R :=
  acalls_of_awp' (fn := Tryd.f21) (c := Tryd.f21.body.getD .skip) (ac := c21) (fz := []) (im := []) (kp := kp21) (rs := [.t 2]) (by kernel_rfl) (by kernel_rfl) (by kernel_rfl) (by kernel_rfl) (by kernel_rfl) h

/-- gridwright/gridwrightref10.Space -/
def kp22 (r : Nat) : List Nat := match r with
  | 0 => [0]
  | 1 => [2]
  | _ => []
def c22 : ACode :=
  (.seq
   (.reg 0 [
     ⟨some 2, none, .v (.mv (.c (.bool false)))⟩] [0])
   (.seq
    (.reg 0 [
      ⟨some 3, none, .v (.mv (.t 0))⟩,
      ⟨some 4, none, .v (.icmp .eql .u8 (.t 3) (.c (.int .u8 32)))⟩,
      ⟨some 5, none, .v (.mv (.t 4))⟩,
      ⟨some 6, some (5, false), .v (.mv (.t 0))⟩,
      ⟨some 7, some (5, false), .v (.icmp .eql .u8 (.t 6) (.c (.int .u8 9)))⟩,
      ⟨some 8, none, .pick (.t 5) (.c (.bool true)) (.t 7)⟩,
      ⟨some 9, none, .v (.mv (.t 8))⟩,
      ⟨some 10, some (9, false), .v (.mv (.t 0))⟩,
      ⟨some 11, some (9, false), .v (.icmp .eql .u8 (.t 10) (.c (.int .u8 10)))⟩,
      ⟨some 12, none, .pick (.t 9) (.c (.bool true)) (.t 11)⟩,
      ⟨some 13, none, .v (.mv (.t 12))⟩,
      ⟨some 14, some (13, false), .v (.mv (.t 0))⟩,
      ⟨some 15, some (13, false), .v (.icmp .eql .u8 (.t 14) (.c (.int .u8 13)))⟩,
      ⟨some 16, none, .pick (.t 13) (.c (.bool true)) (.t 15)⟩,
      ⟨some 2, none, .v (.mv (.t 16))⟩] [2])
    .ret))
theorem l22 : Callable Tryd.prog 22 := ⟨Tryd.f22, by kernel_rfl, by kernel_rfl, by kernel_rfl⟩
theorem a22 {args : List AVal} {H : AHeap} {n : Nat} {R : AOut → AHeap → Nat → Prop} (h : awp Tryd.prog c22 (postC [.t 2] R) ⟨penv 0 args, H, n⟩) : ACalls Tryd.prog 22 args H n R :=
  acalls_of_awp' (fn := Tryd.f22) (c := Tryd.f22.body.getD .skip) (ac := c22) (fz := []) (im := []) (kp := kp22) (rs := [.t 2]) (by kernel_rfl) (by kernel_rfl) (by kernel_rfl) (by kernel_rfl) (by kernel_rfl) h

/-- gridwright/gridwrightlaw10.spelled -/
def kp23 (r : Nat) : List Nat := match r with
  | 0 => [1]
  | 1 => [1, 7]
  | 2 => [2]
  | 3 => [1, 3]
  | 4 => [3, 4]
  | 6 => [3, 4]
  | 7 => [3, 4, 23]
  | 8 => [2]
  | 5 => [3, 4]
  | _ => []
def c23 : ACode :=
  (.seq
   (.reg 2 [
     ⟨some 1, none, .box 0 4 (.t 0)⟩,
     ⟨some 2, none, .v (.mv (.c (.str [])))⟩] [1])
   (.seq
    (.seq
     (.reg 0 [
       ⟨some 5, none, .v (.fa 0 (.t 1))⟩,
       ⟨some 6, none, .v (.ld 1 false (.t 5))⟩,
       ⟨some 7, none, .v (.icmp .neq .i64 (.t 6) (.c (.int .i64 2)))⟩] [1, 7])
     (.cond (.t 7)
      (.seq
       (.reg 0 [
         ⟨some 8, none, .v (.fa 1 (.t 1))⟩,
         ⟨some 9, none, .v (.ld 1 false (.t 8))⟩,
         ⟨some 2, none, .v (.mv (.t 9))⟩] [2])
       .ret)
      .skip))
    (.seq
     (.reg 0 [
       ⟨some 3, none, .v (.mv (.c (.str [])))⟩] [1, 3])
     (.seq
      (.reg 0 [
        ⟨some 10, none, .v (.fa 2 (.t 1))⟩,
        ⟨some 11, none, .v (.ld 1 false (.t 10))⟩,
        ⟨some 4, none, .v (.mv (.t 11))⟩] [3, 4])
      (.block 0
       (.loop
        (.seq
         (.block 1
          (.seq
           (.reg 0 [
             ⟨some 14, none, .v (.mv (.t 4))⟩,
             ⟨some 15, none, .v (.arith .rem .i64 (.t 14) (.c (.int .i64 10)))⟩,
             ⟨some 16, none, .v (.arith .add .i64 (.c (.int .i64 48)) (.t 15))⟩,
             ⟨some 17, none, .v (.conv .u8 (.t 16))⟩,
             ⟨some 18, none, .v (.bs 1 1 (.int .u8 0) [(0, (.t 17))])⟩,
             ⟨some 19, none, .v (.b2s (.t 18))⟩,
             ⟨some 20, none, .v (.mv (.t 3))⟩,
             ⟨some 21, none, .v (.sadd (.t 19) (.t 20))⟩,
             ⟨some 3, none, .v (.mv (.t 21))⟩] [3, 4])
           (.seq
            (.reg 0 [
              ⟨some 22, none, .v (.mv (.t 4))⟩,
              ⟨some 23, none, .v (.icmp .lss .i64 (.t 22) (.c (.int .i64 10)))⟩] [3, 4, 23])
            (.cond (.t 23)
             (.seq
              (.reg 0 [
                ⟨some 24, none, .v (.mv (.t 3))⟩,
                ⟨some 2, none, .v (.mv (.t 24))⟩] [2])
              .ret)
             .skip))))
         (.reg 0 [
           ⟨some 12, none, .v (.mv (.t 4))⟩,
           ⟨some 13, none, .v (.arith .quo .i64 (.t 12) (.c (.int .i64 10)))⟩,
           ⟨some 4, none, .v (.mv (.t 13))⟩] [3, 4]))))))))
theorem l23 : Callable Tryd.prog 23 := ⟨Tryd.f23, by kernel_rfl, by kernel_rfl, by kernel_rfl⟩
theorem a23 {args : List AVal} {H : AHeap} {n : Nat} {R : AOut → AHeap → Nat → Prop} (h : awp Tryd.prog c23 (postC [.t 2] R) ⟨penv 0 args, H, n⟩) : ACalls Tryd.prog 23 args H n R :=
  acalls_of_awp' (fn := Tryd.f23) (c := Tryd.f23.body.getD .skip) (ac := c23) (fz := []) (im := []) (kp := kp23) (rs := [.t 2]) (by kernel_rfl) (by kernel_rfl) (by kernel_rfl) (by kernel_rfl) (by kernel_rfl) h

/-- (*gridwright/lex.scanner).wrong -/
def kp25 (r : Nat) : List Nat := match r with
  | 0 => []
  | _ => []
def c25 : ACode :=
  (.reg 0 [
    ⟨some 2, none, .v (.mv (.t 0))⟩,
    ⟨some 3, none, .v (.nilc (.t 2))⟩,
    ⟨some 4, none, .v (.fa 1 (.t 3))⟩,
    ⟨some 5, none, .v (.ld 1 false (.t 4))⟩,
    ⟨some 6, none, .v (.ifc 42 (.t 5))⟩,
    ⟨none, none, .pan (.t 6)⟩] [])
theorem l25 : Callable Tryd.prog 25 := ⟨Tryd.f25, by kernel_rfl, by kernel_rfl, by kernel_rfl⟩
theorem a25 {args : List AVal} {H : AHeap} {n : Nat} {R : AOut → AHeap → Nat → Prop} (h : awp Tryd.prog c25 (postC [] R) ⟨penv 0 args, H, n⟩) : ACalls Tryd.prog 25 args H n R :=
  acalls_of_awp' (fn := Tryd.f25) (c := Tryd.f25.body.getD .skip) (ac := c25) (fz := []) (im := []) (kp := kp25) (rs := []) (by kernel_rfl) (by kernel_rfl) (by kernel_rfl) (by kernel_rfl) (by kernel_rfl) h

/-- (*gridwright/lex.scanner).space -/
def kp26 (r : Nat) : List Nat := match r with
  | 0 => []
  | _ => []
def c26 : ACode :=
  (.reg 0 [
    ⟨some 2, none, .v (.mv (.t 0))⟩,
    ⟨some 3, none, .v (.nilc (.t 2))⟩,
    ⟨some 4, none, .v (.fa 1 (.t 3))⟩,
    ⟨some 5, none, .v (.ld 1 false (.t 4))⟩,
    ⟨some 6, none, .v (.mv (.t 0))⟩,
    ⟨some 7, none, .v (.bs 1 1 (.int .i64 0) [(0, (.c (.int .i64 1)))])⟩,
    ⟨some 8, none, .call true (.c (.fn (.func 43) [] [])) [(.t 6), (.t 7)]⟩,
    ⟨some 9, none, .v (.lenS (.t 8))⟩,
    ⟨some 10, none, .v (.arith .add .i64 (.t 5) (.t 9))⟩,
    ⟨some 11, none, .v (.nilc (.t 2))⟩,
    ⟨some 12, none, .v (.fa 1 (.t 11))⟩,
    ⟨none, none, .st 1 (.t 12) (.t 10)⟩] [])
theorem l26 : Callable Tryd.prog 26 := ⟨Tryd.f26, by kernel_rfl, by kernel_rfl, by kernel_rfl⟩
theorem a26 {args : List AVal} {H : AHeap} {n : Nat} {R : AOut → AHeap → Nat → Prop} (h : awp Tryd.prog c26 (postC [] R) ⟨penv 0 args, H, n⟩) : ACalls Tryd.prog 26 args H n R :=
  acalls_of_awp' (fn := Tryd.f26) (c := Tryd.f26.body.getD .skip) (ac := c26) (fz := []) (im := []) (kp := kp26) (rs := []) (by kernel_rfl) (by kernel_rfl) (by kernel_rfl) (by kernel_rfl) (by kernel_rfl) h

/-- (*gridwright/lex.scanner).name -/
def kp27 (r : Nat) : List Nat := match r with
  | 0 => [0, 2]
  | 1 => []
  | _ => []
def c27 : ACode :=
  (.seq
   (.reg 0 [
     ⟨some 3, none, .v (.mv (.t 0))⟩,
     ⟨some 4, none, .v (.bs 1 3 (.int .i64 0) [(0, (.c (.int .i64 2))), (1, (.c (.int .i64 3))), (2, (.c (.int .i64 5)))])⟩,
     ⟨some 5, none, .call true (.c (.fn (.func 43) [] [])) [(.t 3), (.t 4)]⟩,
     ⟨some 2, none, .v (.mv (.t 5))⟩] [0, 2])
   (.reg 0 [
     ⟨some 6, none, .v (.mv (.t 0))⟩,
     ⟨some 7, none, .v (.mv (.t 2))⟩,
     ⟨some 8, none, .v (.mv (.t 2))⟩,
     ⟨some 9, none, .v (.build [(.int .i64 0), (.str []), (.int .i64 0), (.int .i64 0)] [(0, 1, (.c (.int .i64 1))), (1, 1, (.t 8))])⟩,
     ⟨some 10, none, .call false (.c (.fn (.func 44) [] [])) [(.t 6), (.t 7), (.t 9)]⟩] []))
theorem l27 : Callable Tryd.prog 27 := ⟨Tryd.f27, by kernel_rfl, by kernel_rfl, by kernel_rfl⟩
theorem a27 {args : List AVal} {H : AHeap} {n : Nat} {R : AOut → AHeap → Nat → Prop} (h : awp Tryd.prog c27 (postC [] R) ⟨penv 0 args, H, n⟩) : ACalls Tryd.prog 27 args H n R :=
  acalls_of_awp' (fn := Tryd.f27) (c := Tryd.f27.body.getD .skip) (ac := c27) (fz := []) (im := [(1, 4)]) (kp := kp27) (rs := []) (by kernel_rfl) (by kernel_rfl) (by kernel_rfl) (by kernel_rfl) (by kernel_rfl) h

/-- (*gridwright/lex.scanner).number -/
def kp28 (r : Nat) : List Nat := match r with
  | 0 => [0, 2]
  | 1 => [0, 2, 3, 4]
  | 2 => [0, 2, 3, 20]
  | 3 => [0, 2, 3]
  | 4 => []
  | _ => []
def c28 : ACode :=
  (.seq
   (.reg 0 [
     ⟨some 5, none, .v (.mv (.t 0))⟩,
     ⟨some 6, none, .v (.bs 1 1 (.int .i64 0) [(0, (.c (.int .i64 3)))])⟩,
     ⟨some 7, none, .call true (.c (.fn (.func 43) [] [])) [(.t 5), (.t 6)]⟩,
     ⟨some 2, none, .v (.mv (.t 7))⟩] [0, 2])
   (.seq
    (.reg 0 [
      ⟨some 9, none, .v (.mv (.t 2))⟩,
      ⟨some 10, none, .call true (.c (.fn (.func 45) [] [])) [(.t 9)]⟩,
      ⟨some 8, none, .v (.mv (.t 10))⟩,
      ⟨some 11, none, .v (.ext 0 (.t 8))⟩,
      ⟨some 12, none, .v (.ext 1 (.t 8))⟩,
      ⟨some 3, none, .v (.mv (.t 11))⟩,
      ⟨some 4, none, .v (.mv (.t 12))⟩] [0, 2, 3, 4])
    (.seq
     (.seq
      (.reg 0 [
        ⟨some 13, none, .v (.mv (.t 4))⟩,
        ⟨some 14, none, .ext (.nileq 0 true) [(.t 13)]⟩,
        ⟨some 15, none, .v (.mv (.t 14))⟩,
        ⟨some 16, some (15, false), .v (.mv (.t 3))⟩,
        ⟨some 17, some (15, false), .call true (.c (.fn (.func 37) [] [])) [(.t 16)]⟩,
        ⟨some 18, some (15, false), .v (.mv (.t 2))⟩,
        ⟨some 19, some (15, false), .v (.scmp .neq (.t 17) (.t 18))⟩,
        ⟨some 20, none, .pick (.t 15) (.c (.bool true)) (.t 19)⟩] [0, 2, 3, 20])
      (.cond (.t 20)
       (.reg 0 [
         ⟨some 21, none, .v (.mv (.t 0))⟩,
         ⟨some 22, none, .v (.nilc (.t 21))⟩,
         ⟨some 23, none, .v (.fa 1 (.t 22))⟩,
         ⟨some 24, none, .v (.ld 1 false (.t 23))⟩,
         ⟨some 25, none, .v (.ifc 42 (.t 24))⟩,
         ⟨none, none, .pan (.t 25)⟩] [0, 2, 3])
       .skip))
     (.reg 0 [
       ⟨some 26, none, .v (.mv (.t 0))⟩,
       ⟨some 27, none, .v (.mv (.t 2))⟩,
       ⟨some 28, none, .v (.mv (.t 3))⟩,
       ⟨some 29, none, .v (.build [(.int .i64 0), (.str []), (.int .i64 0), (.int .i64 0)] [(0, 1, (.c (.int .i64 2))), (2, 1, (.t 28))])⟩,
       ⟨some 30, none, .call false (.c (.fn (.func 44) [] [])) [(.t 26), (.t 27), (.t 29)]⟩] []))))
theorem l28 : Callable Tryd.prog 28 := ⟨Tryd.f28, by kernel_rfl, by kernel_rfl, by kernel_rfl⟩
theorem a28 {args : List AVal} {H : AHeap} {n : Nat} {R : AOut → AHeap → Nat → Prop} (h : awp Tryd.prog c28 (postC [] R) ⟨penv 0 args, H, n⟩) : ACalls Tryd.prog 28 args H n R :=
  acalls_of_awp' (fn := Tryd.f28) (c := Tryd.f28.body.getD .skip) (ac := c28) (fz := []) (im := [(4, 4)]) (kp := kp28) (rs := []) (by kernel_rfl) (by kernel_rfl) (by kernel_rfl) (by kernel_rfl) (by kernel_rfl) h

/-- (*gridwright/lex.scanner).sign -/
def kp29 (r : Nat) : List Nat := match r with
  | 0 => [0, 13]
  | 1 => [0, 2]
  | 2 => [0, 2, 25]
  | 3 => []
  | 4 => []
  | 5 => [0, 3]
  | 6 => []
  | _ => []
def c29 : ACode :=
  (.seq
   (.seq
    (.reg 0 [
      ⟨some 4, none, .v (.mv (.t 0))⟩,
      ⟨some 5, none, .v (.nilc (.t 4))⟩,
      ⟨some 6, none, .v (.fa 0 (.t 5))⟩,
      ⟨some 7, none, .v (.ld 1 false (.t 6))⟩,
      ⟨some 8, none, .v (.mv (.t 0))⟩,
      ⟨some 9, none, .v (.nilc (.t 8))⟩,
      ⟨some 10, none, .v (.fa 1 (.t 9))⟩,
      ⟨some 11, none, .v (.ld 1 false (.t 10))⟩,
      ⟨some 12, none, .v (.slS (.t 7) (some (.t 11)) none)⟩,
      ⟨some 13, none, .call true (.c (.fn (.func 46) [] [])) [(.t 12), (.c (.str [47, 47]))]⟩] [0, 13])
    (.cond (.t 13)
     (.seq
      (.seq
       (.reg 0 [
         ⟨some 14, none, .v (.mv (.t 0))⟩,
         ⟨some 15, none, .v (.nilc (.t 14))⟩,
         ⟨some 16, none, .v (.fa 0 (.t 15))⟩,
         ⟨some 17, none, .v (.ld 1 false (.t 16))⟩,
         ⟨some 18, none, .v (.mv (.t 0))⟩,
         ⟨some 19, none, .v (.nilc (.t 18))⟩,
         ⟨some 20, none, .v (.fa 1 (.t 19))⟩,
         ⟨some 21, none, .v (.ld 1 false (.t 20))⟩,
         ⟨some 22, none, .v (.slS (.t 17) (some (.t 21)) none)⟩,
         ⟨some 23, none, .call true (.c (.fn (.func 47) [] [])) [(.t 22), (.c (.int .u8 10))]⟩,
         ⟨some 2, none, .v (.mv (.t 23))⟩] [0, 2])
       (.seq
        (.reg 0 [
          ⟨some 24, none, .v (.mv (.t 2))⟩,
          ⟨some 25, none, .v (.icmp .geq .i64 (.t 24) (.c (.int .i64 0)))⟩] [0, 2, 25])
        (.cond (.t 25)
         (.reg 0 [
           ⟨some 26, none, .v (.mv (.t 0))⟩,
           ⟨some 27, none, .v (.nilc (.t 26))⟩,
           ⟨some 28, none, .v (.fa 1 (.t 27))⟩,
           ⟨some 29, none, .v (.ld 1 false (.t 28))⟩,
           ⟨some 30, none, .v (.mv (.t 2))⟩,
           ⟨some 31, none, .v (.arith .add .i64 (.t 29) (.t 30))⟩,
           ⟨some 32, none, .v (.nilc (.t 26))⟩,
           ⟨some 33, none, .v (.fa 1 (.t 32))⟩,
           ⟨none, none, .st 1 (.t 33) (.t 31)⟩] [])
         (.reg 0 [
           ⟨some 34, none, .v (.mv (.t 0))⟩,
           ⟨some 35, none, .v (.mv (.t 0))⟩,
           ⟨some 36, none, .v (.nilc (.t 35))⟩,
           ⟨some 37, none, .v (.fa 0 (.t 36))⟩,
           ⟨some 38, none, .v (.ld 1 false (.t 37))⟩,
           ⟨some 39, none, .v (.lenS (.t 38))⟩,
           ⟨some 40, none, .v (.nilc (.t 34))⟩,
           ⟨some 41, none, .v (.fa 1 (.t 40))⟩,
           ⟨none, none, .st 1 (.t 41) (.t 39)⟩] []))))
      .ret)
     .skip))
   (.seq
    (.reg 0 [
      ⟨some 42, none, .v (.mv (.t 0))⟩,
      ⟨some 43, none, .v (.nilc (.t 42))⟩,
      ⟨some 44, none, .v (.fa 0 (.t 43))⟩,
      ⟨some 45, none, .v (.ld 1 false (.t 44))⟩,
      ⟨some 46, none, .v (.mv (.t 0))⟩,
      ⟨some 47, none, .v (.nilc (.t 46))⟩,
      ⟨some 48, none, .v (.fa 1 (.t 47))⟩,
      ⟨some 49, none, .v (.ld 1 false (.t 48))⟩,
      ⟨some 50, none, .v (.mv (.t 0))⟩,
      ⟨some 51, none, .v (.nilc (.t 50))⟩,
      ⟨some 52, none, .v (.fa 1 (.t 51))⟩,
      ⟨some 53, none, .v (.ld 1 false (.t 52))⟩,
      ⟨some 54, none, .v (.arith .add .i64 (.t 53) (.c (.int .i64 1)))⟩,
      ⟨some 55, none, .v (.slS (.t 45) (some (.t 49)) (some (.t 54)))⟩,
      ⟨some 3, none, .v (.mv (.t 55))⟩] [0, 3])
    (.reg 0 [
      ⟨some 56, none, .v (.mv (.t 0))⟩,
      ⟨some 57, none, .v (.mv (.t 3))⟩,
      ⟨some 58, none, .v (.mv (.t 3))⟩,
      ⟨some 59, none, .v (.build [(.int .i64 0), (.str []), (.int .i64 0), (.int .i64 0)] [(0, 1, (.c (.int .i64 3))), (1, 1, (.t 58))])⟩,
      ⟨some 60, none, .call false (.c (.fn (.func 44) [] [])) [(.t 56), (.t 57), (.t 59)]⟩] [])))
theorem l29 : Callable Tryd.prog 29 := ⟨Tryd.f29, by kernel_rfl, by kernel_rfl, by kernel_rfl⟩
theorem a29 {args : List AVal} {H : AHeap} {n : Nat} {R : AOut → AHeap → Nat → Prop} (h : awp Tryd.prog c29 (postC [] R) ⟨penv 0 args, H, n⟩) : ACalls Tryd.prog 29 args H n R :=
  acalls_of_awp' (fn := Tryd.f29) (c := Tryd.f29.body.getD .skip) (ac := c29) (fz := []) (im := [(6, 4)]) (kp := kp29) (rs := []) (by kernel_rfl) (by kernel_rfl) (by kernel_rfl) (by kernel_rfl) (by kernel_rfl) h

/-- gridwright/lex.class -/
def kp30 (r : Nat) : List Nat := match r with
  | 0 => [0]
  | 1 => [0, 3]
  | 2 => [2]
  | 3 => [0, 18]
  | 4 => [2]
  | 5 => [0, 25]
  | 6 => [2]
  | 7 => [0, 28]
  | 8 => [2]
  | 9 => [43]
  | 10 => [2]
  | 11 => [2]
  | _ => []
def c30 : ACode :=
  (.seq
   (.reg 0 [
     ⟨some 2, none, .v (.mv (.c (.int .i64 0)))⟩] [0])
   (.seq
    (.block 0
     (.seq
      (.reg 0 [
        ⟨some 4, none, .v (.mv (.t 0))⟩,
        ⟨some 5, none, .v (.icmp .geq .u8 (.t 4) (.c (.int .u8 97)))⟩,
        ⟨some 6, none, .v (.mv (.t 5))⟩,
        ⟨some 7, some (6, true), .v (.mv (.t 0))⟩,
        ⟨some 8, some (6, true), .v (.icmp .leq .u8 (.t 7) (.c (.int .u8 122)))⟩,
        ⟨some 9, none, .pick (.t 6) (.t 8) (.c (.bool false))⟩,
        ⟨some 10, none, .v (.mv (.t 9))⟩,
        ⟨some 11, some (10, false), .v (.mv (.t 0))⟩,
        ⟨some 12, some (10, false), .v (.icmp .geq .u8 (.t 11) (.c (.int .u8 65)))⟩,
        ⟨some 13, some (10, false), .v (.mv (.t 12))⟩,
        ⟨some 14, some (13, true), .v (.mv (.t 0))⟩,
        ⟨some 15, some (13, true), .v (.icmp .leq .u8 (.t 14) (.c (.int .u8 90)))⟩,
        ⟨some 16, some (10, false), .pick (.t 13) (.t 15) (.c (.bool false))⟩,
        ⟨some 17, none, .pick (.t 10) (.c (.bool true)) (.t 16)⟩,
        ⟨some 3, none, .v (.mv (.t 17))⟩] [0, 3])
      (.cond (.t 3)
       (.seq
        (.reg 0 [
          ⟨some 2, none, .v (.mv (.c (.int .i64 2)))⟩] [2])
        .ret)
       (.seq
        (.reg 0 [
          ⟨some 19, none, .v (.mv (.t 0))⟩,
          ⟨some 20, none, .v (.icmp .geq .u8 (.t 19) (.c (.int .u8 48)))⟩,
          ⟨some 21, none, .v (.mv (.t 20))⟩,
          ⟨some 22, some (21, true), .v (.mv (.t 0))⟩,
          ⟨some 23, some (21, true), .v (.icmp .leq .u8 (.t 22) (.c (.int .u8 57)))⟩,
          ⟨some 24, none, .pick (.t 21) (.t 23) (.c (.bool false))⟩,
          ⟨some 18, none, .v (.mv (.t 24))⟩] [0, 18])
        (.cond (.t 18)
         (.seq
          (.reg 0 [
            ⟨some 2, none, .v (.mv (.c (.int .i64 3)))⟩] [2])
          .ret)
         (.seq
          (.reg 0 [
            ⟨some 26, none, .v (.mv (.t 0))⟩,
            ⟨some 27, none, .v (.icmp .eql .u8 (.t 26) (.c (.int .u8 95)))⟩,
            ⟨some 25, none, .v (.mv (.t 27))⟩] [0, 25])
          (.cond (.t 25)
           (.seq
            (.reg 0 [
              ⟨some 2, none, .v (.mv (.c (.int .i64 5)))⟩] [2])
            .ret)
           (.seq
            (.reg 0 [
              ⟨some 29, none, .v (.mv (.t 0))⟩,
              ⟨some 30, none, .v (.icmp .eql .u8 (.t 29) (.c (.int .u8 32)))⟩,
              ⟨some 31, none, .v (.mv (.t 30))⟩,
              ⟨some 32, some (31, false), .v (.mv (.t 0))⟩,
              ⟨some 33, some (31, false), .v (.icmp .eql .u8 (.t 32) (.c (.int .u8 9)))⟩,
              ⟨some 34, none, .pick (.t 31) (.c (.bool true)) (.t 33)⟩,
              ⟨some 35, none, .v (.mv (.t 34))⟩,
              ⟨some 36, some (35, false), .v (.mv (.t 0))⟩,
              ⟨some 37, some (35, false), .v (.icmp .eql .u8 (.t 36) (.c (.int .u8 10)))⟩,
              ⟨some 38, none, .pick (.t 35) (.c (.bool true)) (.t 37)⟩,
              ⟨some 39, none, .v (.mv (.t 38))⟩,
              ⟨some 40, some (39, false), .v (.mv (.t 0))⟩,
              ⟨some 41, some (39, false), .v (.icmp .eql .u8 (.t 40) (.c (.int .u8 13)))⟩,
              ⟨some 42, none, .pick (.t 39) (.c (.bool true)) (.t 41)⟩,
              ⟨some 28, none, .v (.mv (.t 42))⟩] [0, 28])
            (.cond (.t 28)
             (.seq
              (.reg 0 [
                ⟨some 2, none, .v (.mv (.c (.int .i64 1)))⟩] [2])
              .ret)
             (.seq
              (.reg 0 [
                ⟨some 44, none, .v (.mv (.t 0))⟩,
                ⟨some 45, none, .call true (.c (.fn (.func 47) [] [])) [(.c (.str [123, 125, 40, 41, 59, 44, 61, 58, 46, 60, 62, 33, 43, 45, 42, 47])), (.t 44)]⟩,
                ⟨some 46, none, .v (.icmp .geq .i64 (.t 45) (.c (.int .i64 0)))⟩,
                ⟨some 43, none, .v (.mv (.t 46))⟩] [43])
              (.cond (.t 43)
               (.seq
                (.reg 0 [
                  ⟨some 2, none, .v (.mv (.c (.int .i64 4)))⟩] [2])
                .ret)
               .skip)))))))))))
    (.seq
     (.reg 0 [
       ⟨some 2, none, .v (.mv (.c (.int .i64 0)))⟩] [2])
     .ret)))
theorem l30 : Callable Tryd.prog 30 := ⟨Tryd.f30, by kernel_rfl, by kernel_rfl, by kernel_rfl⟩
theorem a30 {args : List AVal} {H : AHeap} {n : Nat} {R : AOut → AHeap → Nat → Prop} (h : awp Tryd.prog c30 (postC [.t 2] R) ⟨penv 0 args, H, n⟩) : ACalls Tryd.prog 30 args H n R :=
  acalls_of_awp' (fn := Tryd.f30) (c := Tryd.f30.body.getD .skip) (ac := c30) (fz := []) (im := []) (kp := kp30) (rs := [.t 2]) (by kernel_rfl) (by kernel_rfl) (by kernel_rfl) (by kernel_rfl) (by kernel_rfl) h

/-- gridwright/gridwrightref10.Letter -/
def kp31 (r : Nat) : List Nat := match r with
  | 0 => [0]
  | 1 => [2]
  | _ => []
def c31 : ACode :=
  (.seq
   (.reg 0 [
     ⟨some 2, none, .v (.mv (.c (.bool false)))⟩] [0])
   (.seq
    (.reg 0 [
      ⟨some 3, none, .v (.mv (.t 0))⟩,
      ⟨some 4, none, .v (.icmp .geq .u8 (.t 3) (.c (.int .u8 97)))⟩,
      ⟨some 5, none, .v (.mv (.t 4))⟩,
      ⟨some 6, some (5, true), .v (.mv (.t 0))⟩,
      ⟨some 7, some (5, true), .v (.icmp .leq .u8 (.t 6) (.c (.int .u8 122)))⟩,
      ⟨some 8, none, .pick (.t 5) (.t 7) (.c (.bool false))⟩,
      ⟨some 9, none, .v (.mv (.t 8))⟩,
      ⟨some 10, some (9, false), .v (.mv (.t 0))⟩,
      ⟨some 11, some (9, false), .v (.icmp .geq .u8 (.t 10) (.c (.int .u8 65)))⟩,
      ⟨some 12, some (9, false), .v (.mv (.t 11))⟩,
      ⟨some 13, some (12, true), .v (.mv (.t 0))⟩,
      ⟨some 14, some (12, true), .v (.icmp .leq .u8 (.t 13) (.c (.int .u8 90)))⟩,
      ⟨some 15, some (9, false), .pick (.t 12) (.t 14) (.c (.bool false))⟩,
      ⟨some 16, none, .pick (.t 9) (.c (.bool true)) (.t 15)⟩,
      ⟨some 2, none, .v (.mv (.t 16))⟩] [2])
    .ret))
theorem l31 : Callable Tryd.prog 31 := ⟨Tryd.f31, by kernel_rfl, by kernel_rfl, by kernel_rfl⟩
theorem a31 {args : List AVal} {H : AHeap} {n : Nat} {R : AOut → AHeap → Nat → Prop} (h : awp Tryd.prog c31 (postC [.t 2] R) ⟨penv 0 args, H, n⟩) : ACalls Tryd.prog 31 args H n R :=
  acalls_of_awp' (fn := Tryd.f31) (c := Tryd.f31.body.getD .skip) (ac := c31) (fz := []) (im := []) (kp := kp31) (rs := [.t 2]) (by kernel_rfl) (by kernel_rfl) (by kernel_rfl) (by kernel_rfl) (by kernel_rfl) h

/-- gridwright/gridwrightref10.part -/
def kp32 (r : Nat) : List Nat := match r with
  | 0 => [0]
  | 1 => [2]
  | _ => []
def c32 : ACode :=
  (.seq
   (.reg 0 [
     ⟨some 2, none, .v (.mv (.c (.bool false)))⟩] [0])
   (.seq
    (.reg 0 [
      ⟨some 3, none, .v (.mv (.t 0))⟩,
      ⟨some 4, none, .call true (.c (.fn (.func 31) [] [])) [(.t 3)]⟩,
      ⟨some 5, none, .v (.mv (.t 4))⟩,
      ⟨some 6, some (5, false), .v (.mv (.t 0))⟩,
      ⟨some 7, some (5, false), .call true (.c (.fn (.func 33) [] [])) [(.t 6)]⟩,
      ⟨some 8, none, .pick (.t 5) (.c (.bool true)) (.t 7)⟩,
      ⟨some 9, none, .v (.mv (.t 8))⟩,
      ⟨some 10, some (9, false), .v (.mv (.t 0))⟩,
      ⟨some 11, some (9, false), .v (.icmp .eql .u8 (.t 10) (.c (.int .u8 95)))⟩,
      ⟨some 12, none, .pick (.t 9) (.c (.bool true)) (.t 11)⟩,
      ⟨some 2, none, .v (.mv (.t 12))⟩] [2])
    .ret))
theorem l32 : Callable Tryd.prog 32 := ⟨Tryd.f32, by kernel_rfl, by kernel_rfl, by kernel_rfl⟩
theorem a32 {args : List AVal} {H : AHeap} {n : Nat} {R : AOut → AHeap → Nat → Prop} (h : awp Tryd.prog c32 (postC [.t 2] R) ⟨penv 0 args, H, n⟩) : ACalls Tryd.prog 32 args H n R :=
  acalls_of_awp' (fn := Tryd.f32) (c := Tryd.f32.body.getD .skip) (ac := c32) (fz := []) (im := []) (kp := kp32) (rs := [.t 2]) (by kernel_rfl) (by kernel_rfl) (by kernel_rfl) (by kernel_rfl) (by kernel_rfl) h

/-- gridwright/gridwrightref10.Figure -/
def kp33 (r : Nat) : List Nat := match r with
  | 0 => [0]
  | 1 => [2]
  | _ => []
def c33 : ACode :=
  (.seq
   (.reg 0 [
     ⟨some 2, none, .v (.mv (.c (.bool false)))⟩] [0])
   (.seq
    (.reg 0 [
      ⟨some 3, none, .v (.mv (.t 0))⟩,
      ⟨some 4, none, .v (.icmp .geq .u8 (.t 3) (.c (.int .u8 48)))⟩,
      ⟨some 5, none, .v (.mv (.t 4))⟩,
      ⟨some 6, some (5, true), .v (.mv (.t 0))⟩,
      ⟨some 7, some (5, true), .v (.icmp .leq .u8 (.t 6) (.c (.int .u8 57)))⟩,
      ⟨some 8, none, .pick (.t 5) (.t 7) (.c (.bool false))⟩,
      ⟨some 2, none, .v (.mv (.t 8))⟩] [2])
    .ret))
theorem l33 : Callable Tryd.prog 33 := ⟨Tryd.f33, by kernel_rfl, by kernel_rfl, by kernel_rfl⟩
theorem a33 {args : List AVal} {H : AHeap} {n : Nat} {R : AOut → AHeap → Nat → Prop} (h : awp Tryd.prog c33 (postC [.t 2] R) ⟨penv 0 args, H, n⟩) : ACalls Tryd.prog 33 args H n R :=
  acalls_of_awp' (fn := Tryd.f33) (c := Tryd.f33.body.getD .skip) (ac := c33) (fz := []) (im := []) (kp := kp33) (rs := [.t 2]) (by kernel_rfl) (by kernel_rfl) (by kernel_rfl) (by kernel_rfl) (by kernel_rfl) h

/-- gridwright/gridwrightref10.number -/
def kp34 (r : Nat) : List Nat := match r with
  | 0 => [0]
  | 1 => [0, 4]
  | 2 => [0, 4, 5]
  | 3 => [0, 4, 5, 9]
  | 5 => [0, 4, 5]
  | 6 => [0, 4, 5, 21]
  | 7 => [2, 3]
  | 4 => [0, 4, 5]
  | 8 => [2, 3]
  | _ => []
def c34 : ACode :=
  (.seq
   (.reg 0 [
     ⟨some 2, none, .v (.mv (.c (.int .i64 0)))⟩,
     ⟨some 3, none, .v (.mv (.c (.bool false)))⟩] [0])
   (.seq
    (.reg 0 [
      ⟨some 4, none, .v (.mv (.c (.int .i64 0)))⟩] [0, 4])
    (.seq
     (.seq
      (.reg 0 [
        ⟨some 5, none, .v (.mv (.c (.int .i64 0)))⟩] [0, 4, 5])
      (.block 0
       (.loop
        (.seq
         (.seq
          (.reg 0 [
            ⟨some 6, none, .v (.mv (.t 5))⟩,
            ⟨some 7, none, .v (.mv (.t 0))⟩,
            ⟨some 8, none, .v (.lenS (.t 7))⟩,
            ⟨some 9, none, .v (.icmp .lss .i64 (.t 6) (.t 8))⟩] [0, 4, 5, 9])
          (.cond (.t 9)
           .skip
           (.exit 0)))
         (.seq
          (.block 1
           (.seq
            (.reg 0 [
              ⟨some 12, none, .v (.mv (.t 4))⟩,
              ⟨some 13, none, .v (.arith .mul .i64 (.c (.int .i64 10)) (.t 12))⟩,
              ⟨some 14, none, .v (.mv (.t 0))⟩,
              ⟨some 15, none, .v (.mv (.t 5))⟩,
              ⟨some 16, none, .v (.ixS (.t 14) (.t 15))⟩,
              ⟨some 17, none, .v (.arith .sub .u8 (.t 16) (.c (.int .u8 48)))⟩,
              ⟨some 18, none, .v (.conv .i64 (.t 17))⟩,
              ⟨some 19, none, .v (.arith .add .i64 (.t 13) (.t 18))⟩,
              ⟨some 4, none, .v (.mv (.t 19))⟩] [0, 4, 5])
            (.seq
             (.reg 0 [
               ⟨some 20, none, .v (.mv (.t 4))⟩,
               ⟨some 21, none, .v (.icmp .gtr .i64 (.t 20) (.c (.int .i64 1099511627776)))⟩] [0, 4, 5, 21])
             (.cond (.t 21)
              (.seq
               (.reg 0 [
                 ⟨some 2, none, .v (.mv (.c (.int .i64 0)))⟩,
                 ⟨some 3, none, .v (.mv (.c (.bool false)))⟩] [2, 3])
               .ret)
              .skip))))
          (.reg 0 [
            ⟨some 10, none, .v (.mv (.t 5))⟩,
            ⟨some 11, none, .v (.arith .add .i64 (.t 10) (.c (.int .i64 1)))⟩,
            ⟨some 5, none, .v (.mv (.t 11))⟩] [0, 4, 5]))))))
     (.seq
      (.reg 0 [
        ⟨some 22, none, .v (.mv (.t 4))⟩,
        ⟨some 23, none, .v (.mv (.t 0))⟩,
        ⟨some 24, none, .v (.lenS (.t 23))⟩,
        ⟨some 25, none, .v (.icmp .eql .i64 (.t 24) (.c (.int .i64 1)))⟩,
        ⟨some 26, none, .v (.mv (.t 25))⟩,
        ⟨some 27, some (26, false), .v (.mv (.t 0))⟩,
        ⟨some 28, some (26, false), .v (.ixS (.t 27) (.c (.int .i64 0)))⟩,
        ⟨some 29, some (26, false), .v (.icmp .neq .u8 (.t 28) (.c (.int .u8 48)))⟩,
        ⟨some 30, none, .pick (.t 26) (.c (.bool true)) (.t 29)⟩,
        ⟨some 2, none, .v (.mv (.t 22))⟩,
        ⟨some 3, none, .v (.mv (.t 30))⟩] [2, 3])
      .ret))))
theorem l34 : Callable Tryd.prog 34 := ⟨Tryd.f34, by kernel_rfl, by kernel_rfl, by kernel_rfl⟩
theorem a34 {args : List AVal} {H : AHeap} {n : Nat} {R : AOut → AHeap → Nat → Prop} (h : awp Tryd.prog c34 (postC [.t 2, .t 3] R) ⟨penv 0 args, H, n⟩) : ACalls Tryd.prog 34 args H n R :=
  acalls_of_awp' (fn := Tryd.f34) (c := Tryd.f34.body.getD .skip) (ac := c34) (fz := []) (im := []) (kp := kp34) (rs := [.t 2, .t 3]) (by kernel_rfl) (by kernel_rfl) (by kernel_rfl) (by kernel_rfl) (by kernel_rfl) h

/-- gridwright/gridwrightref10.Sign -/
def kp35 (r : Nat) : List Nat := match r with
  | 0 => [0]
  | 1 => [0, 3]
  | 2 => [0, 3, 4]
  | 3 => [0, 3, 4, 8]
  | 5 => [0, 3, 4, 15]
  | 6 => [2]
  | 4 => [0, 3, 4]
  | 7 => [2]
  | _ => []
def c35 : ACode :=
  (.seq
   (.reg 0 [
     ⟨some 2, none, .v (.mv (.c (.bool false)))⟩] [0])
   (.seq
    (.reg 0 [
      ⟨some 3, none, .v (.mv (.c (.str [123, 125, 40, 41, 59, 44, 61, 58, 46, 60, 62, 33, 43, 45, 42, 47])))⟩] [0, 3])
    (.seq
     (.seq
      (.reg 0 [
        ⟨some 4, none, .v (.mv (.c (.int .i64 0)))⟩] [0, 3, 4])
      (.block 0
       (.loop
        (.seq
         (.seq
          (.reg 0 [
            ⟨some 5, none, .v (.mv (.t 4))⟩,
            ⟨some 6, none, .v (.mv (.t 3))⟩,
            ⟨some 7, none, .v (.lenS (.t 6))⟩,
            ⟨some 8, none, .v (.icmp .lss .i64 (.t 5) (.t 7))⟩] [0, 3, 4, 8])
          (.cond (.t 8)
           .skip
           (.exit 0)))
         (.seq
          (.block 1
           (.seq
            (.reg 0 [
              ⟨some 11, none, .v (.mv (.t 3))⟩,
              ⟨some 12, none, .v (.mv (.t 4))⟩,
              ⟨some 13, none, .v (.ixS (.t 11) (.t 12))⟩,
              ⟨some 14, none, .v (.mv (.t 0))⟩,
              ⟨some 15, none, .v (.icmp .eql .u8 (.t 13) (.t 14))⟩] [0, 3, 4, 15])
            (.cond (.t 15)
             (.seq
              (.reg 0 [
                ⟨some 2, none, .v (.mv (.c (.bool true)))⟩] [2])
              .ret)
             .skip)))
          (.reg 0 [
            ⟨some 9, none, .v (.mv (.t 4))⟩,
            ⟨some 10, none, .v (.arith .add .i64 (.t 9) (.c (.int .i64 1)))⟩,
            ⟨some 4, none, .v (.mv (.t 10))⟩] [0, 3, 4]))))))
     (.seq
      (.reg 0 [
        ⟨some 2, none, .v (.mv (.c (.bool false)))⟩] [2])
      .ret))))
theorem l35 : Callable Tryd.prog 35 := ⟨Tryd.f35, by kernel_rfl, by kernel_rfl, by kernel_rfl⟩
theorem a35 {args : List AVal} {H : AHeap} {n : Nat} {R : AOut → AHeap → Nat → Prop} (h : awp Tryd.prog c35 (postC [.t 2] R) ⟨penv 0 args, H, n⟩) : ACalls Tryd.prog 35 args H n R :=
  acalls_of_awp' (fn := Tryd.f35) (c := Tryd.f35.body.getD .skip) (ac := c35) (fz := []) (im := []) (kp := kp35) (rs := [.t 2]) (by kernel_rfl) (by kernel_rfl) (by kernel_rfl) (by kernel_rfl) (by kernel_rfl) h

/-- gridwright/lex.valid -/
def kp36 (r : Nat) : List Nat := match r with
  | 0 => [1]
  | 1 => [1, 4]
  | 2 => [1, 4, 5]
  | 3 => [2]
  | 4 => [1, 4, 15]
  | 5 => [2]
  | 6 => [1, 30]
  | 7 => [2]
  | 8 => [2]
  | _ => []
def c36 : ACode :=
  (.seq
   (.reg 2 [
     ⟨some 1, none, .box 0 4 (.t 0)⟩,
     ⟨some 2, none, .v (.mv (.c (.bool false)))⟩] [1])
   (.seq
    (.seq
     (.reg 0 [
       ⟨some 3, none, .v (.fa 0 (.t 1))⟩,
       ⟨some 4, none, .v (.ld 1 false (.t 3))⟩] [1, 4])
     (.block 0
      (.seq
       (.reg 0 [
         ⟨some 6, none, .v (.icmp .eql .i64 (.t 4) (.c (.int .i64 1)))⟩,
         ⟨some 5, none, .v (.mv (.t 6))⟩] [1, 4, 5])
       (.cond (.t 5)
        (.seq
         (.reg 0 [
           ⟨some 7, none, .v (.fa 1 (.t 1))⟩,
           ⟨some 8, none, .v (.ld 1 false (.t 7))⟩,
           ⟨some 9, none, .call true (.c (.fn (.func 20) [] [])) [(.t 8)]⟩,
           ⟨some 10, none, .v (.mv (.t 9))⟩,
           ⟨some 11, some (10, true), .v (.fa 2 (.t 1))⟩,
           ⟨some 12, some (10, true), .v (.ld 1 false (.t 11))⟩,
           ⟨some 13, some (10, true), .v (.icmp .eql .i64 (.t 12) (.c (.int .i64 0)))⟩,
           ⟨some 14, none, .pick (.t 10) (.t 13) (.c (.bool false))⟩,
           ⟨some 2, none, .v (.mv (.t 14))⟩] [2])
         .ret)
        (.seq
         (.reg 0 [
           ⟨some 16, none, .v (.icmp .eql .i64 (.t 4) (.c (.int .i64 2)))⟩,
           ⟨some 15, none, .v (.mv (.t 16))⟩] [1, 4, 15])
         (.cond (.t 15)
          (.seq
           (.reg 0 [
             ⟨some 17, none, .v (.fa 1 (.t 1))⟩,
             ⟨some 18, none, .v (.ld 1 false (.t 17))⟩,
             ⟨some 19, none, .v (.scmp .eql (.t 18) (.c (.str [])))⟩,
             ⟨some 20, none, .v (.mv (.t 19))⟩,
             ⟨some 21, some (20, true), .v (.fa 2 (.t 1))⟩,
             ⟨some 22, some (20, true), .v (.ld 1 false (.t 21))⟩,
             ⟨some 23, some (20, true), .v (.icmp .geq .i64 (.t 22) (.c (.int .i64 0)))⟩,
             ⟨some 24, none, .pick (.t 20) (.t 23) (.c (.bool false))⟩,
             ⟨some 25, none, .v (.mv (.t 24))⟩,
             ⟨some 26, some (25, true), .v (.fa 2 (.t 1))⟩,
             ⟨some 27, some (25, true), .v (.ld 1 false (.t 26))⟩,
             ⟨some 28, some (25, true), .v (.icmp .leq .i64 (.t 27) (.c (.int .i64 1099511627776)))⟩,
             ⟨some 29, none, .pick (.t 25) (.t 28) (.c (.bool false))⟩,
             ⟨some 2, none, .v (.mv (.t 29))⟩] [2])
           .ret)
          (.seq
           (.reg 0 [
             ⟨some 31, none, .v (.icmp .eql .i64 (.t 4) (.c (.int .i64 3)))⟩,
             ⟨some 30, none, .v (.mv (.t 31))⟩] [1, 30])
           (.cond (.t 30)
            (.seq
             (.reg 0 [
               ⟨some 32, none, .v (.fa 1 (.t 1))⟩,
               ⟨some 33, none, .v (.ld 1 false (.t 32))⟩,
               ⟨some 34, none, .v (.lenS (.t 33))⟩,
               ⟨some 35, none, .v (.icmp .eql .i64 (.t 34) (.c (.int .i64 1)))⟩,
               ⟨some 36, none, .v (.mv (.t 35))⟩,
               ⟨some 37, some (36, true), .v (.fa 1 (.t 1))⟩,
               ⟨some 38, some (36, true), .v (.ld 1 false (.t 37))⟩,
               ⟨some 39, some (36, true), .v (.ixS (.t 38) (.c (.int .i64 0)))⟩,
               ⟨some 40, some (36, true), .call true (.c (.fn (.func 30) [] [])) [(.t 39)]⟩,
               ⟨some 41, some (36, true), .v (.icmp .eql .i64 (.t 40) (.c (.int .i64 4)))⟩,
               ⟨some 42, none, .pick (.t 36) (.t 41) (.c (.bool false))⟩,
               ⟨some 43, none, .v (.mv (.t 42))⟩,
               ⟨some 44, some (43, true), .v (.fa 2 (.t 1))⟩,
               ⟨some 45, some (43, true), .v (.ld 1 false (.t 44))⟩,
               ⟨some 46, some (43, true), .v (.icmp .eql .i64 (.t 45) (.c (.int .i64 0)))⟩,
               ⟨some 47, none, .pick (.t 43) (.t 46) (.c (.bool false))⟩,
               ⟨some 2, none, .v (.mv (.t 47))⟩] [2])
             .ret)
            .skip))))))))
    (.seq
     (.reg 0 [
       ⟨some 2, none, .v (.mv (.c (.bool false)))⟩] [2])
     .ret)))
theorem l36 : Callable Tryd.prog 36 := ⟨Tryd.f36, by kernel_rfl, by kernel_rfl, by kernel_rfl⟩
theorem a36 {args : List AVal} {H : AHeap} {n : Nat} {R : AOut → AHeap → Nat → Prop} (h : awp Tryd.prog c36 (postC [.t 2] R) ⟨penv 0 args, H, n⟩) : ACalls Tryd.prog 36 args H n R :=
  acalls_of_awp' (fn := Tryd.f36) (c := Tryd.f36.body.getD .skip) (ac := c36) (fz := []) (im := []) (kp := kp36) (rs := [.t 2]) (by kernel_rfl) (by kernel_rfl) (by kernel_rfl) (by kernel_rfl) (by kernel_rfl) h

/-- strconv.Itoa -/
def kp37 (r : Nat) : List Nat := match r with
  | 0 => [0]
  | 1 => [2]
  | _ => []
def c37 : ACode :=
  (.seq
   (.reg 0 [
     ⟨some 2, none, .v (.mv (.c (.str [])))⟩] [0])
   (.seq
    (.reg 0 [
      ⟨some 3, none, .v (.mv (.t 0))⟩,
      ⟨some 4, none, .call true (.c (.fn (.func 48) [] [])) [(.t 3)]⟩,
      ⟨some 2, none, .v (.mv (.t 4))⟩] [2])
    .ret))
theorem l37 : Callable Tryd.prog 37 := ⟨Tryd.f37, by kernel_rfl, by kernel_rfl, by kernel_rfl⟩
theorem a37 {args : List AVal} {H : AHeap} {n : Nat} {R : AOut → AHeap → Nat → Prop} (h : awp Tryd.prog c37 (postC [.t 2] R) ⟨penv 0 args, H, n⟩) : ACalls Tryd.prog 37 args H n R :=
  acalls_of_awp' (fn := Tryd.f37) (c := Tryd.f37.body.getD .skip) (ac := c37) (fz := []) (im := []) (kp := kp37) (rs := [.t 2]) (by kernel_rfl) (by kernel_rfl) (by kernel_rfl) (by kernel_rfl) (by kernel_rfl) h

/-- strings.Join -/
def kp38 (r : Nat) : List Nat := match r with
  | 0 => [0, 1]
  | 1 => [0, 1, 12]
  | 2 => [0, 1, 12, 13]
  | 3 => [4]
  | 4 => [0, 1, 15]
  | 5 => [4]
  | 6 => [0, 1, 5]
  | 7 => [0, 1, 5, 22]
  | 8 => [0, 1, 5, 29]
  | 9 => [0, 1, 5]
  | 10 => [0, 1, 5]
  | 11 => [0, 1, 5, 39, 40, 41]
  | 12 => [0, 1, 5, 39, 40, 41, 42]
  | 13 => [0, 1, 5, 7, 39, 40, 41]
  | 14 => [0, 1, 5, 7, 39, 40, 41, 49]
  | 15 => [0, 1, 5, 7, 39, 40, 41]
  | 16 => [0, 1, 5, 39, 40, 41]
  | 17 => [0, 1, 5, 39, 40, 41]
  | 18 => [0, 1, 5, 8]
  | 19 => [0, 1, 8]
  | 20 => [0, 1, 8]
  | 21 => [1, 8, 63, 64, 65]
  | 22 => [1, 8, 63, 64, 65, 66]
  | 23 => [1, 8, 10, 63, 64, 65]
  | 24 => [1, 8, 10, 63, 64, 65]
  | 25 => [1, 8, 63, 64, 65]
  | 26 => [1, 8, 63, 64, 65]
  | 27 => [4]
  | _ => []
def c38 : ACode :=
  (.seq
   (.reg 0 [
     ⟨some 4, none, .v (.mv (.c (.str [])))⟩] [0, 1])
   (.seq
    (.seq
     (.reg 0 [
       ⟨some 11, none, .v (.mv (.t 0))⟩,
       ⟨some 12, none, .v (.len (.t 11))⟩] [0, 1, 12])
     (.block 0
      (.seq
       (.reg 0 [
         ⟨some 14, none, .v (.icmp .eql .i64 (.t 12) (.c (.int .i64 0)))⟩,
         ⟨some 13, none, .v (.mv (.t 14))⟩] [0, 1, 12, 13])
       (.cond (.t 13)
        (.seq
         (.reg 0 [
           ⟨some 4, none, .v (.mv (.c (.str [])))⟩] [4])
         .ret)
        (.seq
         (.reg 0 [
           ⟨some 16, none, .v (.icmp .eql .i64 (.t 12) (.c (.int .i64 1)))⟩,
           ⟨some 15, none, .v (.mv (.t 16))⟩] [0, 1, 15])
         (.cond (.t 15)
          (.seq
           (.reg 0 [
             ⟨some 17, none, .v (.mv (.t 0))⟩,
             ⟨some 18, none, .v (.ia 1 (.t 17) (.c (.int .i64 0)))⟩,
             ⟨some 19, none, .v (.ld 1 false (.t 18))⟩,
             ⟨some 4, none, .v (.mv (.t 19))⟩] [4])
           .ret)
          .skip))))))
    (.seq
     (.reg 0 [
       ⟨some 5, none, .v (.mv (.c (.int .i64 0)))⟩] [0, 1, 5])
     (.seq
      (.seq
       (.reg 0 [
         ⟨some 20, none, .v (.mv (.t 1))⟩,
         ⟨some 21, none, .v (.lenS (.t 20))⟩,
         ⟨some 22, none, .v (.icmp .gtr .i64 (.t 21) (.c (.int .i64 0)))⟩] [0, 1, 5, 22])
       (.cond (.t 22)
        (.seq
         (.seq
          (.reg 0 [
            ⟨some 23, none, .v (.mv (.t 1))⟩,
            ⟨some 24, none, .v (.lenS (.t 23))⟩,
            ⟨some 25, none, .v (.mv (.t 0))⟩,
            ⟨some 26, none, .v (.len (.t 25))⟩,
            ⟨some 27, none, .v (.arith .sub .i64 (.t 26) (.c (.int .i64 1)))⟩,
            ⟨some 28, none, .v (.arith .quo .i64 (.c (.int .i64 9223372036854775807)) (.t 27))⟩,
            ⟨some 29, none, .v (.icmp .geq .i64 (.t 24) (.t 28))⟩] [0, 1, 5, 29])
          (.cond (.t 29)
           (.reg 0 [
             ⟨some 30, none, .v (.ifc 9 (.c (.str [115, 116, 114, 105, 110, 103, 115, 58, 32, 74, 111, 105, 110, 32, 111, 117, 116, 112, 117, 116, 32, 108, 101, 110, 103, 116, 104, 32, 111, 118, 101, 114, 102, 108, 111, 119])))⟩,
             ⟨none, none, .pan (.t 30)⟩] [0, 1, 5])
           .skip))
         (.reg 0 [
           ⟨some 31, none, .v (.mv (.t 5))⟩,
           ⟨some 32, none, .v (.mv (.t 1))⟩,
           ⟨some 33, none, .v (.lenS (.t 32))⟩,
           ⟨some 34, none, .v (.mv (.t 0))⟩,
           ⟨some 35, none, .v (.len (.t 34))⟩,
           ⟨some 36, none, .v (.arith .sub .i64 (.t 35) (.c (.int .i64 1)))⟩,
           ⟨some 37, none, .v (.arith .mul .i64 (.t 33) (.t 36))⟩,
           ⟨some 38, none, .v (.arith .add .i64 (.t 31) (.t 37))⟩,
           ⟨some 5, none, .v (.mv (.t 38))⟩] [0, 1, 5]))
        .skip))
      (.seq
       (.seq
        (.reg 0 [
          ⟨some 39, none, .v (.mv (.t 0))⟩,
          ⟨some 40, none, .v (.len (.t 39))⟩,
          ⟨some 41, none, .v (.mv (.c (.int .i64 0)))⟩] [0, 1, 5, 39, 40, 41])
        (.block 1
         (.loop
          (.seq
           (.reg 0 [
             ⟨some 42, none, .v (.icmp .lss .i64 (.t 41) (.t 40))⟩] [0, 1, 5, 39, 40, 41, 42])
           (.seq
            (.cond (.t 42)
             .skip
             (.exit 1))
            (.seq
             (.block 2
              (.seq
               (.reg 0 [
                 ⟨some 43, none, .v (.ia 1 (.t 39) (.t 41))⟩,
                 ⟨some 44, none, .v (.ld 1 false (.t 43))⟩,
                 ⟨some 7, none, .v (.mv (.t 44))⟩] [0, 1, 5, 7, 39, 40, 41])
               (.seq
                (.seq
                 (.reg 0 [
                   ⟨some 45, none, .v (.mv (.t 7))⟩,
                   ⟨some 46, none, .v (.lenS (.t 45))⟩,
                   ⟨some 47, none, .v (.mv (.t 5))⟩,
                   ⟨some 48, none, .v (.arith .sub .i64 (.c (.int .i64 9223372036854775807)) (.t 47))⟩,
                   ⟨some 49, none, .v (.icmp .gtr .i64 (.t 46) (.t 48))⟩] [0, 1, 5, 7, 39, 40, 41, 49])
                 (.cond (.t 49)
                  (.reg 0 [
                    ⟨some 50, none, .v (.ifc 9 (.c (.str [115, 116, 114, 105, 110, 103, 115, 58, 32, 74, 111, 105, 110, 32, 111, 117, 116, 112, 117, 116, 32, 108, 101, 110, 103, 116, 104, 32, 111, 118, 101, 114, 102, 108, 111, 119])))⟩,
                    ⟨none, none, .pan (.t 50)⟩] [0, 1, 5, 7, 39, 40, 41])
                  .skip))
                (.reg 0 [
                  ⟨some 51, none, .v (.mv (.t 5))⟩,
                  ⟨some 52, none, .v (.mv (.t 7))⟩,
                  ⟨some 53, none, .v (.lenS (.t 52))⟩,
                  ⟨some 54, none, .v (.arith .add .i64 (.t 51) (.t 53))⟩,
                  ⟨some 5, none, .v (.mv (.t 54))⟩] [0, 1, 5, 39, 40, 41]))))
             (.reg 0 [
               ⟨some 55, none, .v (.arith .add .i64 (.t 41) (.c (.int .i64 1)))⟩,
               ⟨some 41, none, .v (.mv (.t 55))⟩] [0, 1, 5, 39, 40, 41])))))))
       (.seq
        (.reg 1 [
          ⟨some 8, none, .alloc 0 [.nilp, (.sl .nil [])]⟩] [0, 1, 5, 8])
        (.seq
         (.reg 0 [
           ⟨some 56, none, .v (.mv (.t 5))⟩,
           ⟨some 57, none, .call true (.c (.fn (.func 49) [] [])) [(.t 8), (.t 56)]⟩] [0, 1, 8])
         (.seq
          (.reg 0 [
            ⟨some 58, none, .v (.mv (.t 0))⟩,
            ⟨some 59, none, .v (.ia 1 (.t 58) (.c (.int .i64 0)))⟩,
            ⟨some 60, none, .v (.ld 1 false (.t 59))⟩,
            ⟨some 61, none, .call true (.c (.fn (.func 50) [] [])) [(.t 8), (.t 60)]⟩] [0, 1, 8])
          (.seq
           (.seq
            (.reg 0 [
              ⟨some 62, none, .v (.mv (.t 0))⟩,
              ⟨some 63, none, .v (.sl 1 (.t 62) (some (.c (.int .i64 1))) none none)⟩,
              ⟨some 64, none, .v (.len (.t 63))⟩,
              ⟨some 65, none, .v (.mv (.c (.int .i64 0)))⟩] [1, 8, 63, 64, 65])
            (.block 3
             (.loop
              (.seq
               (.reg 0 [
                 ⟨some 66, none, .v (.icmp .lss .i64 (.t 65) (.t 64))⟩] [1, 8, 63, 64, 65, 66])
               (.seq
                (.cond (.t 66)
                 .skip
                 (.exit 3))
                (.seq
                 (.block 4
                  (.seq
                   (.reg 0 [
                     ⟨some 67, none, .v (.ia 1 (.t 63) (.t 65))⟩,
                     ⟨some 68, none, .v (.ld 1 false (.t 67))⟩,
                     ⟨some 10, none, .v (.mv (.t 68))⟩] [1, 8, 10, 63, 64, 65])
                   (.seq
                    (.reg 0 [
                      ⟨some 69, none, .v (.mv (.t 1))⟩,
                      ⟨some 70, none, .call true (.c (.fn (.func 50) [] [])) [(.t 8), (.t 69)]⟩] [1, 8, 10, 63, 64, 65])
                    (.reg 0 [
                      ⟨some 71, none, .v (.mv (.t 10))⟩,
                      ⟨some 72, none, .call true (.c (.fn (.func 50) [] [])) [(.t 8), (.t 71)]⟩] [1, 8, 63, 64, 65]))))
                 (.reg 0 [
                   ⟨some 73, none, .v (.arith .add .i64 (.t 65) (.c (.int .i64 1)))⟩,
                   ⟨some 65, none, .v (.mv (.t 73))⟩] [1, 8, 63, 64, 65])))))))
           (.seq
            (.reg 0 [
              ⟨some 74, none, .call true (.c (.fn (.func 51) [] [])) [(.t 8)]⟩,
              ⟨some 4, none, .v (.mv (.t 74))⟩] [4])
            .ret))))))))))
theorem l38 : Callable Tryd.prog 38 := ⟨Tryd.f38, by kernel_rfl, by kernel_rfl, by kernel_rfl⟩
theorem a38 {args : List AVal} {H : AHeap} {n : Nat} {R : AOut → AHeap → Nat → Prop} (h : awp Tryd.prog c38 (postC [.t 4] R) ⟨penv 0 args, H, n⟩) : ACalls Tryd.prog 38 args H n R :=
  acalls_of_awp' (fn := Tryd.f38) (c := Tryd.f38.body.getD .skip) (ac := c38) (fz := []) (im := []) (kp := kp38) (rs := [.t 4]) (by kernel_rfl) (by kernel_rfl) (by kernel_rfl) (by kernel_rfl) (by kernel_rfl) h

/-- gridwright/gridwrightref10.Valid -/
def kp39 (r : Nat) : List Nat := match r with
  | 0 => [1]
  | 1 => [1, 4]
  | 2 => [1, 4, 5]
  | 3 => [2]
  | 4 => [1, 4, 15]
  | 5 => [2]
  | 6 => [1, 30]
  | 7 => [2]
  | 8 => [2]
  | _ => []
def c39 : ACode :=
  (.seq
   (.reg 2 [
     ⟨some 1, none, .box 0 4 (.t 0)⟩,
     ⟨some 2, none, .v (.mv (.c (.bool false)))⟩] [1])
   (.seq
    (.seq
     (.reg 0 [
       ⟨some 3, none, .v (.fa 0 (.t 1))⟩,
       ⟨some 4, none, .v (.ld 1 false (.t 3))⟩] [1, 4])
     (.block 0
      (.seq
       (.reg 0 [
         ⟨some 6, none, .v (.icmp .eql .i64 (.t 4) (.c (.int .i64 1)))⟩,
         ⟨some 5, none, .v (.mv (.t 6))⟩] [1, 4, 5])
       (.cond (.t 5)
        (.seq
         (.reg 0 [
           ⟨some 7, none, .v (.fa 1 (.t 1))⟩,
           ⟨some 8, none, .v (.ld 1 false (.t 7))⟩,
           ⟨some 9, none, .call true (.c (.fn (.func 21) [] [])) [(.t 8)]⟩,
           ⟨some 10, none, .v (.mv (.t 9))⟩,
           ⟨some 11, some (10, true), .v (.fa 2 (.t 1))⟩,
           ⟨some 12, some (10, true), .v (.ld 1 false (.t 11))⟩,
           ⟨some 13, some (10, true), .v (.icmp .eql .i64 (.t 12) (.c (.int .i64 0)))⟩,
           ⟨some 14, none, .pick (.t 10) (.t 13) (.c (.bool false))⟩,
           ⟨some 2, none, .v (.mv (.t 14))⟩] [2])
         .ret)
        (.seq
         (.reg 0 [
           ⟨some 16, none, .v (.icmp .eql .i64 (.t 4) (.c (.int .i64 2)))⟩,
           ⟨some 15, none, .v (.mv (.t 16))⟩] [1, 4, 15])
         (.cond (.t 15)
          (.seq
           (.reg 0 [
             ⟨some 17, none, .v (.fa 1 (.t 1))⟩,
             ⟨some 18, none, .v (.ld 1 false (.t 17))⟩,
             ⟨some 19, none, .v (.scmp .eql (.t 18) (.c (.str [])))⟩,
             ⟨some 20, none, .v (.mv (.t 19))⟩,
             ⟨some 21, some (20, true), .v (.fa 2 (.t 1))⟩,
             ⟨some 22, some (20, true), .v (.ld 1 false (.t 21))⟩,
             ⟨some 23, some (20, true), .v (.icmp .geq .i64 (.t 22) (.c (.int .i64 0)))⟩,
             ⟨some 24, none, .pick (.t 20) (.t 23) (.c (.bool false))⟩,
             ⟨some 25, none, .v (.mv (.t 24))⟩,
             ⟨some 26, some (25, true), .v (.fa 2 (.t 1))⟩,
             ⟨some 27, some (25, true), .v (.ld 1 false (.t 26))⟩,
             ⟨some 28, some (25, true), .v (.icmp .leq .i64 (.t 27) (.c (.int .i64 1099511627776)))⟩,
             ⟨some 29, none, .pick (.t 25) (.t 28) (.c (.bool false))⟩,
             ⟨some 2, none, .v (.mv (.t 29))⟩] [2])
           .ret)
          (.seq
           (.reg 0 [
             ⟨some 31, none, .v (.icmp .eql .i64 (.t 4) (.c (.int .i64 3)))⟩,
             ⟨some 30, none, .v (.mv (.t 31))⟩] [1, 30])
           (.cond (.t 30)
            (.seq
             (.reg 0 [
               ⟨some 32, none, .v (.fa 1 (.t 1))⟩,
               ⟨some 33, none, .v (.ld 1 false (.t 32))⟩,
               ⟨some 34, none, .v (.lenS (.t 33))⟩,
               ⟨some 35, none, .v (.icmp .eql .i64 (.t 34) (.c (.int .i64 1)))⟩,
               ⟨some 36, none, .v (.mv (.t 35))⟩,
               ⟨some 37, some (36, true), .v (.fa 1 (.t 1))⟩,
               ⟨some 38, some (36, true), .v (.ld 1 false (.t 37))⟩,
               ⟨some 39, some (36, true), .v (.ixS (.t 38) (.c (.int .i64 0)))⟩,
               ⟨some 40, some (36, true), .call true (.c (.fn (.func 35) [] [])) [(.t 39)]⟩,
               ⟨some 41, none, .pick (.t 36) (.t 40) (.c (.bool false))⟩,
               ⟨some 42, none, .v (.mv (.t 41))⟩,
               ⟨some 43, some (42, true), .v (.fa 2 (.t 1))⟩,
               ⟨some 44, some (42, true), .v (.ld 1 false (.t 43))⟩,
               ⟨some 45, some (42, true), .v (.icmp .eql .i64 (.t 44) (.c (.int .i64 0)))⟩,
               ⟨some 46, none, .pick (.t 42) (.t 45) (.c (.bool false))⟩,
               ⟨some 2, none, .v (.mv (.t 46))⟩] [2])
             .ret)
            .skip))))))))
    (.seq
     (.reg 0 [
       ⟨some 2, none, .v (.mv (.c (.bool false)))⟩] [2])
     .ret)))
theorem l39 : Callable Tryd.prog 39 := ⟨Tryd.f39, by kernel_rfl, by kernel_rfl, by kernel_rfl⟩
theorem a39 {args : List AVal} {H : AHeap} {n : Nat} {R : AOut → AHeap → Nat → Prop} (h : awp Tryd.prog c39 (postC [.t 2] R) ⟨penv 0 args, H, n⟩) : ACalls Tryd.prog 39 args H n R :=
  acalls_of_awp' (fn := Tryd.f39) (c := Tryd.f39.body.getD .skip) (ac := c39) (fz := []) (im := []) (kp := kp39) (rs := [.t 2]) (by kernel_rfl) (by kernel_rfl) (by kernel_rfl) (by kernel_rfl) (by kernel_rfl) h

/-- gridwright/gridwrightref10.Decimal -/
def kp40 (r : Nat) : List Nat := match r with
  | 0 => [0]
  | 1 => [0, 3]
  | 2 => [0, 3, 11]
  | 3 => [0, 3]
  | 4 => [0, 3]
  | 5 => [2]
  | _ => []
def c40 : ACode :=
  (.seq
   (.reg 0 [
     ⟨some 2, none, .v (.mv (.c (.str [])))⟩] [0])
   (.seq
    (.reg 0 [
      ⟨some 4, none, .v (.mv (.t 0))⟩,
      ⟨some 5, none, .v (.arith .rem .i64 (.t 4) (.c (.int .i64 10)))⟩,
      ⟨some 6, none, .v (.arith .add .i64 (.c (.int .i64 48)) (.t 5))⟩,
      ⟨some 7, none, .v (.conv .u8 (.t 6))⟩,
      ⟨some 8, none, .v (.bs 1 1 (.int .u8 0) [(0, (.t 7))])⟩,
      ⟨some 9, none, .v (.b2s (.t 8))⟩,
      ⟨some 3, none, .v (.mv (.t 9))⟩] [0, 3])
    (.seq
     (.block 0
      (.loop
       (.seq
        (.seq
         (.reg 0 [
           ⟨some 10, none, .v (.mv (.t 0))⟩,
           ⟨some 11, none, .v (.icmp .geq .i64 (.t 10) (.c (.int .i64 10)))⟩] [0, 3, 11])
         (.cond (.t 11)
          .skip
          (.exit 0)))
        (.block 1
         (.seq
          (.reg 0 [
            ⟨some 12, none, .v (.mv (.t 0))⟩,
            ⟨some 13, none, .v (.arith .quo .i64 (.t 12) (.c (.int .i64 10)))⟩,
            ⟨some 0, none, .v (.mv (.t 13))⟩] [0, 3])
          (.reg 0 [
            ⟨some 14, none, .v (.mv (.t 0))⟩,
            ⟨some 15, none, .v (.arith .rem .i64 (.t 14) (.c (.int .i64 10)))⟩,
            ⟨some 16, none, .v (.arith .add .i64 (.c (.int .i64 48)) (.t 15))⟩,
            ⟨some 17, none, .v (.conv .u8 (.t 16))⟩,
            ⟨some 18, none, .v (.bs 1 1 (.int .u8 0) [(0, (.t 17))])⟩,
            ⟨some 19, none, .v (.b2s (.t 18))⟩,
            ⟨some 20, none, .v (.mv (.t 3))⟩,
            ⟨some 21, none, .v (.sadd (.t 19) (.t 20))⟩,
            ⟨some 3, none, .v (.mv (.t 21))⟩] [0, 3]))))))
     (.seq
      (.reg 0 [
        ⟨some 22, none, .v (.mv (.t 3))⟩,
        ⟨some 2, none, .v (.mv (.t 22))⟩] [2])
      .ret))))
theorem l40 : Callable Tryd.prog 40 := ⟨Tryd.f40, by kernel_rfl, by kernel_rfl, by kernel_rfl⟩
theorem a40 {args : List AVal} {H : AHeap} {n : Nat} {R : AOut → AHeap → Nat → Prop} (h : awp Tryd.prog c40 (postC [.t 2] R) ⟨penv 0 args, H, n⟩) : ACalls Tryd.prog 40 args H n R :=
  acalls_of_awp' (fn := Tryd.f40) (c := Tryd.f40.body.getD .skip) (ac := c40) (fz := []) (im := []) (kp := kp40) (rs := [.t 2]) (by kernel_rfl) (by kernel_rfl) (by kernel_rfl) (by kernel_rfl) (by kernel_rfl) h

/-- slices.EqualFunc[[]gridwright/api.Token,[]gridwright/api.Token,gridwright/api.Token,gridwright/api.Token] -/
def kp41 (r : Nat) : List Nat := match r with
  | 0 => [0, 1, 2]
  | 1 => [0, 1, 2, 14]
  | 2 => [6]
  | 3 => [1, 2, 15, 16, 17]
  | 4 => [1, 2, 15, 16, 17, 18]
  | 5 => [1, 2, 7, 8, 15, 16, 17]
  | 6 => [1, 2, 8, 9, 15, 16, 17]
  | 7 => [1, 2, 15, 16, 17, 30]
  | 8 => [6]
  | 9 => [1, 2, 15, 16, 17]
  | 10 => [6]
  | _ => []
def c41 : ACode :=
  (.seq
   (.reg 0 [
     ⟨some 6, none, .v (.mv (.c (.bool false)))⟩] [0, 1, 2])
   (.seq
    (.seq
     (.reg 0 [
       ⟨some 10, none, .v (.mv (.t 0))⟩,
       ⟨some 11, none, .v (.len (.t 10))⟩,
       ⟨some 12, none, .v (.mv (.t 1))⟩,
       ⟨some 13, none, .v (.len (.t 12))⟩,
       ⟨some 14, none, .v (.icmp .neq .i64 (.t 11) (.t 13))⟩] [0, 1, 2, 14])
     (.cond (.t 14)
      (.seq
       (.reg 0 [
         ⟨some 6, none, .v (.mv (.c (.bool false)))⟩] [6])
       .ret)
      .skip))
    (.seq
     (.seq
      (.reg 0 [
        ⟨some 15, none, .v (.mv (.t 0))⟩,
        ⟨some 16, none, .v (.len (.t 15))⟩,
        ⟨some 17, none, .v (.mv (.c (.int .i64 0)))⟩] [1, 2, 15, 16, 17])
      (.block 0
       (.loop
        (.seq
         (.reg 0 [
           ⟨some 18, none, .v (.icmp .lss .i64 (.t 17) (.t 16))⟩] [1, 2, 15, 16, 17, 18])
         (.seq
          (.cond (.t 18)
           .skip
           (.exit 0))
          (.seq
           (.block 1
            (.seq
             (.reg 6 [
               ⟨some 19, none, .v (.mv (.t 17))⟩,
               ⟨some 20, none, .v (.ia 4 (.t 15) (.t 17))⟩,
               ⟨some 21, none, .v (.ld 4 true (.t 20))⟩,
               ⟨some 8, none, .alloc 3 [(.int .i64 0), (.str []), (.int .i64 0), (.int .i64 0)]⟩,
               ⟨some 7, none, .v (.mv (.t 19))⟩,
               ⟨none, none, .st 4 (.t 8) (.t 21)⟩] [1, 2, 7, 8, 15, 16, 17])
             (.seq
              (.reg 6 [
                ⟨some 22, none, .v (.mv (.t 1))⟩,
                ⟨some 23, none, .v (.mv (.t 7))⟩,
                ⟨some 24, none, .v (.ia 4 (.t 22) (.t 23))⟩,
                ⟨some 25, none, .v (.ld 4 true (.t 24))⟩,
                ⟨some 9, none, .alloc 4 [(.int .i64 0), (.str []), (.int .i64 0), (.int .i64 0)]⟩,
                ⟨none, none, .st 4 (.t 9) (.t 25)⟩] [1, 2, 8, 9, 15, 16, 17])
              (.seq
               (.reg 0 [
                 ⟨some 26, none, .v (.mv (.t 2))⟩,
                 ⟨some 27, none, .v (.ld 4 true (.t 8))⟩,
                 ⟨some 28, none, .v (.ld 4 true (.t 9))⟩,
                 ⟨some 29, none, .call true (.t 26) [(.t 27), (.t 28)]⟩,
                 ⟨some 30, none, .v (.not (.t 29))⟩] [1, 2, 15, 16, 17, 30])
               (.cond (.t 30)
                (.seq
                 (.reg 0 [
                   ⟨some 6, none, .v (.mv (.c (.bool false)))⟩] [6])
                 .ret)
                .skip)))))
           (.reg 0 [
             ⟨some 31, none, .v (.arith .add .i64 (.t 17) (.c (.int .i64 1)))⟩,
             ⟨some 17, none, .v (.mv (.t 31))⟩] [1, 2, 15, 16, 17])))))))
     (.seq
      (.reg 0 [
        ⟨some 6, none, .v (.mv (.c (.bool true)))⟩] [6])
      .ret))))
theorem l41 : Callable Tryd.prog 41 := ⟨Tryd.f41, by kernel_rfl, by kernel_rfl, by kernel_rfl⟩
theorem a41 {args : List AVal} {H : AHeap} {n : Nat} {R : AOut → AHeap → Nat → Prop} (h : awp Tryd.prog c41 (postC [.t 6] R) ⟨penv 0 args, H, n⟩) : ACalls Tryd.prog 41 args H n R :=
  acalls_of_awp' (fn := Tryd.f41) (c := Tryd.f41.body.getD .skip) (ac := c41) (fz := []) (im := []) (kp := kp41) (rs := [.t 6]) (by kernel_rfl) (by kernel_rfl) (by kernel_rfl) (by kernel_rfl) (by kernel_rfl) h

/-- gridwright/lex.Same.1 -/
def kp42 (r : Nat) : List Nat := match r with
  | 0 => [2, 3]
  | 1 => [4]
  | _ => []
def c42 : ACode :=
  (.seq
   (.reg 3 [
     ⟨some 2, none, .box 0 4 (.t 0)⟩,
     ⟨some 3, none, .box 1 4 (.t 1)⟩,
     ⟨some 4, none, .v (.mv (.c (.bool false)))⟩] [2, 3])
   (.seq
    (.reg 0 [
      ⟨some 5, none, .v (.fa 0 (.t 2))⟩,
      ⟨some 6, none, .v (.ld 1 false (.t 5))⟩,
      ⟨some 7, none, .v (.fa 0 (.t 3))⟩,
      ⟨some 8, none, .v (.ld 1 false (.t 7))⟩,
      ⟨some 9, none, .v (.icmp .eql .i64 (.t 6) (.t 8))⟩,
      ⟨some 10, none, .v (.mv (.t 9))⟩,
      ⟨some 11, some (10, true), .v (.fa 1 (.t 2))⟩,
      ⟨some 12, some (10, true), .v (.ld 1 false (.t 11))⟩,
      ⟨some 13, some (10, true), .v (.fa 1 (.t 3))⟩,
      ⟨some 14, some (10, true), .v (.ld 1 false (.t 13))⟩,
      ⟨some 15, some (10, true), .v (.scmp .eql (.t 12) (.t 14))⟩,
      ⟨some 16, none, .pick (.t 10) (.t 15) (.c (.bool false))⟩,
      ⟨some 17, none, .v (.mv (.t 16))⟩,
      ⟨some 18, some (17, true), .v (.fa 2 (.t 2))⟩,
      ⟨some 19, some (17, true), .v (.ld 1 false (.t 18))⟩,
      ⟨some 20, some (17, true), .v (.fa 2 (.t 3))⟩,
      ⟨some 21, some (17, true), .v (.ld 1 false (.t 20))⟩,
      ⟨some 22, some (17, true), .v (.icmp .eql .i64 (.t 19) (.t 21))⟩,
      ⟨some 23, none, .pick (.t 17) (.t 22) (.c (.bool false))⟩,
      ⟨some 4, none, .v (.mv (.t 23))⟩] [4])
    .ret))
theorem l42 : Callable Tryd.prog 42 := ⟨Tryd.f42, by kernel_rfl, by kernel_rfl, by kernel_rfl⟩
theorem a42 {args : List AVal} {H : AHeap} {n : Nat} {R : AOut → AHeap → Nat → Prop} (h : awp Tryd.prog c42 (postC [.t 4] R) ⟨penv 0 args, H, n⟩) : ACalls Tryd.prog 42 args H n R :=
  acalls_of_awp' (fn := Tryd.f42) (c := Tryd.f42.body.getD .skip) (ac := c42) (fz := []) (im := []) (kp := kp42) (rs := [.t 4]) (by kernel_rfl) (by kernel_rfl) (by kernel_rfl) (by kernel_rfl) (by kernel_rfl) h

/-- (*gridwright/lex.scanner).run -/
def kp43 (r : Nat) : List Nat := match r with
  | 0 => [0, 1]
  | 1 => [0, 1, 5]
  | 2 => [0, 1, 5, 27]
  | 3 => [0, 1, 5]
  | 4 => [4]
  | _ => []
def c43 : ACode :=
  (.seq
   (.reg 0 [
     ⟨some 4, none, .v (.mv (.c (.str [])))⟩] [0, 1])
   (.seq
    (.reg 0 [
      ⟨some 6, none, .v (.mv (.t 0))⟩,
      ⟨some 7, none, .v (.nilc (.t 6))⟩,
      ⟨some 8, none, .v (.fa 1 (.t 7))⟩,
      ⟨some 9, none, .v (.ld 1 false (.t 8))⟩,
      ⟨some 5, none, .v (.mv (.t 9))⟩] [0, 1, 5])
    (.seq
     (.block 0
      (.loop
       (.seq
        (.seq
         (.reg 0 [
           ⟨some 10, none, .v (.mv (.t 5))⟩,
           ⟨some 11, none, .v (.mv (.t 0))⟩,
           ⟨some 12, none, .v (.nilc (.t 11))⟩,
           ⟨some 13, none, .v (.fa 0 (.t 12))⟩,
           ⟨some 14, none, .v (.ld 1 false (.t 13))⟩,
           ⟨some 15, none, .v (.lenS (.t 14))⟩,
           ⟨some 16, none, .v (.icmp .lss .i64 (.t 10) (.t 15))⟩,
           ⟨some 17, none, .v (.mv (.t 16))⟩,
           ⟨some 18, some (17, true), .v (.mv (.t 1))⟩,
           ⟨some 19, some (17, true), .v (.mv (.t 0))⟩,
           ⟨some 20, some (17, true), .v (.nilc (.t 19))⟩,
           ⟨some 21, some (17, true), .v (.fa 0 (.t 20))⟩,
           ⟨some 22, some (17, true), .v (.ld 1 false (.t 21))⟩,
           ⟨some 23, some (17, true), .v (.mv (.t 5))⟩,
           ⟨some 24, some (17, true), .v (.ixS (.t 22) (.t 23))⟩,
           ⟨some 25, some (17, true), .call true (.c (.fn (.func 30) [] [])) [(.t 24)]⟩,
           ⟨some 26, some (17, true), .call true (.c (.fn (.func 52) [] [])) [(.t 18), (.t 25)]⟩,
           ⟨some 27, none, .pick (.t 17) (.t 26) (.c (.bool false))⟩] [0, 1, 5, 27])
         (.cond (.t 27)
          .skip
          (.exit 0)))
        (.block 1
         (.reg 0 [
           ⟨some 28, none, .v (.mv (.t 5))⟩,
           ⟨some 29, none, .v (.arith .add .i64 (.t 28) (.c (.int .i64 1)))⟩,
           ⟨some 5, none, .v (.mv (.t 29))⟩] [0, 1, 5])))))
     (.seq
      (.reg 0 [
        ⟨some 30, none, .v (.mv (.t 0))⟩,
        ⟨some 31, none, .v (.nilc (.t 30))⟩,
        ⟨some 32, none, .v (.fa 0 (.t 31))⟩,
        ⟨some 33, none, .v (.ld 1 false (.t 32))⟩,
        ⟨some 34, none, .v (.mv (.t 0))⟩,
        ⟨some 35, none, .v (.nilc (.t 34))⟩,
        ⟨some 36, none, .v (.fa 1 (.t 35))⟩,
        ⟨some 37, none, .v (.ld 1 false (.t 36))⟩,
        ⟨some 38, none, .v (.mv (.t 5))⟩,
        ⟨some 39, none, .v (.slS (.t 33) (some (.t 37)) (some (.t 38)))⟩,
        ⟨some 4, none, .v (.mv (.t 39))⟩] [4])
      .ret))))
theorem l43 : Callable Tryd.prog 43 := ⟨Tryd.f43, by kernel_rfl, by kernel_rfl, by kernel_rfl⟩
theorem a43 {args : List AVal} {H : AHeap} {n : Nat} {R : AOut → AHeap → Nat → Prop} (h : awp Tryd.prog c43 (postC [.t 4] R) ⟨penv 0 args, H, n⟩) : ACalls Tryd.prog 43 args H n R :=
  acalls_of_awp' (fn := Tryd.f43) (c := Tryd.f43.body.getD .skip) (ac := c43) (fz := []) (im := []) (kp := kp43) (rs := [.t 4]) (by kernel_rfl) (by kernel_rfl) (by kernel_rfl) (by kernel_rfl) (by kernel_rfl) h

/-- (*gridwright/lex.scanner).add -/
def kp44 (r : Nat) : List Nat := match r with
  | 0 => [0, 1, 5]
  | 1 => [0, 1, 5, 8]
  | 2 => [0, 1, 5]
  | 3 => [0, 1, 5]
  | 4 => [0, 1]
  | 5 => []
  | _ => []
def c44 : ACode :=
  (.seq
   (.reg 1 [
     ⟨some 5, none, .box 0 4 (.t 2)⟩] [0, 1, 5])
   (.seq
    (.seq
     (.reg 0 [
       ⟨some 6, none, .v (.ld 4 true (.t 5))⟩,
       ⟨some 7, none, .call true (.c (.fn (.func 36) [] [])) [(.t 6)]⟩,
       ⟨some 8, none, .v (.not (.t 7))⟩] [0, 1, 5, 8])
     (.cond (.t 8)
      (.reg 0 [
        ⟨some 9, none, .v (.mv (.t 0))⟩,
        ⟨some 10, none, .v (.nilc (.t 9))⟩,
        ⟨some 11, none, .v (.fa 1 (.t 10))⟩,
        ⟨some 12, none, .v (.ld 1 false (.t 11))⟩,
        ⟨some 13, none, .v (.ifc 42 (.t 12))⟩,
        ⟨none, none, .pan (.t 13)⟩] [0, 1, 5])
      .skip))
    (.seq
     (.reg 0 [
       ⟨some 14, none, .v (.mv (.t 0))⟩,
       ⟨some 15, none, .v (.nilc (.t 14))⟩,
       ⟨some 16, none, .v (.fa 1 (.t 15))⟩,
       ⟨some 17, none, .v (.ld 1 false (.t 16))⟩,
       ⟨some 18, none, .v (.fa 3 (.t 5))⟩,
       ⟨none, none, .st 1 (.t 18) (.t 17)⟩] [0, 1, 5])
     (.seq
      (.reg 11 [
        ⟨some 19, none, .v (.mv (.t 0))⟩,
        ⟨some 20, none, .v (.mv (.t 0))⟩,
        ⟨some 21, none, .v (.nilc (.t 20))⟩,
        ⟨some 22, none, .v (.fa 2 (.t 21))⟩,
        ⟨some 23, none, .v (.ld 1 false (.t 22))⟩,
        ⟨some 24, none, .v (.ld 4 true (.t 5))⟩,
        ⟨some 25, none, .v (.bs 4 1 (.agg [(.int .i64 0), (.str []), (.int .i64 0), (.int .i64 0)]) [(0, (.t 24))])⟩,
        ⟨some 26, none, .app 7 4 40 (.t 23) (.t 25) false⟩,
        ⟨some 27, none, .v (.nilc (.t 19))⟩,
        ⟨some 28, none, .v (.fa 2 (.t 27))⟩,
        ⟨none, none, .st 1 (.t 28) (.t 26)⟩] [0, 1])
      (.reg 0 [
        ⟨some 29, none, .v (.mv (.t 0))⟩,
        ⟨some 30, none, .v (.nilc (.t 29))⟩,
        ⟨some 31, none, .v (.fa 1 (.t 30))⟩,
        ⟨some 32, none, .v (.ld 1 false (.t 31))⟩,
        ⟨some 33, none, .v (.mv (.t 1))⟩,
        ⟨some 34, none, .v (.lenS (.t 33))⟩,
        ⟨some 35, none, .v (.arith .add .i64 (.t 32) (.t 34))⟩,
        ⟨some 36, none, .v (.nilc (.t 29))⟩,
        ⟨some 37, none, .v (.fa 1 (.t 36))⟩,
        ⟨none, none, .st 1 (.t 37) (.t 35)⟩] [])))))
theorem l44 : Callable Tryd.prog 44 := ⟨Tryd.f44, by kernel_rfl, by kernel_rfl, by kernel_rfl⟩
theorem a44 {args : List AVal} {H : AHeap} {n : Nat} {R : AOut → AHeap → Nat → Prop} (h : awp Tryd.prog c44 (postC [] R) ⟨penv 0 args, H, n⟩) : ACalls Tryd.prog 44 args H n R :=
  acalls_of_awp' (fn := Tryd.f44) (c := Tryd.f44.body.getD .skip) (ac := c44) (fz := []) (im := []) (kp := kp44) (rs := []) (by kernel_rfl) (by kernel_rfl) (by kernel_rfl) (by kernel_rfl) (by kernel_rfl) h

/-- strconv.Atoi -/
def kp45 (r : Nat) : List Nat := match r with
  | 0 => [0]
  | 1 => [0, 4, 5]
  | 2 => [0, 4, 5, 12]
  | 3 => [2, 3]
  | 4 => [2, 3]
  | _ => []
def c45 : ACode :=
  (.seq
   (.reg 0 [
     ⟨some 2, none, .v (.mv (.c (.int .i64 0)))⟩,
     ⟨some 3, none, .v (.mv (.c .nilifc))⟩] [0])
   (.seq
    (.reg 0 [
      ⟨some 7, none, .v (.mv (.t 0))⟩,
      ⟨some 8, none, .call true (.c (.fn (.func 53) [] [])) [(.t 7)]⟩,
      ⟨some 6, none, .v (.mv (.t 8))⟩,
      ⟨some 9, none, .v (.ext 0 (.t 6))⟩,
      ⟨some 10, none, .v (.ext 1 (.t 6))⟩,
      ⟨some 4, none, .v (.mv (.t 9))⟩,
      ⟨some 5, none, .v (.mv (.t 10))⟩] [0, 4, 5])
    (.seq
     (.seq
      (.reg 0 [
        ⟨some 11, none, .v (.mv (.t 5))⟩,
        ⟨some 12, none, .ext (.nileq 0 true) [(.t 11)]⟩] [0, 4, 5, 12])
      (.cond (.t 12)
       (.seq
        (.reg 0 [
          ⟨some 13, none, .v (.mv (.t 4))⟩,
          ⟨some 14, none, .v (.mv (.t 0))⟩,
          ⟨some 15, none, .v (.mv (.t 5))⟩,
          ⟨some 16, none, .call true (.c (.fn (.func 54) [] [])) [(.c (.str [65, 116, 111, 105])), (.t 14), (.c (.int .i64 0)), (.c (.int .i64 0)), (.t 15)]⟩,
          ⟨some 2, none, .v (.mv (.t 13))⟩,
          ⟨some 3, none, .v (.mv (.t 16))⟩] [2, 3])
        .ret)
       .skip))
     (.seq
      (.reg 0 [
        ⟨some 17, none, .v (.mv (.t 4))⟩,
        ⟨some 2, none, .v (.mv (.t 17))⟩,
        ⟨some 3, none, .v (.mv (.c .nilifc))⟩] [2, 3])
      .ret))))
theorem l45 : Callable Tryd.prog 45 := ⟨Tryd.f45, by kernel_rfl, by kernel_rfl, by kernel_rfl⟩
theorem a45 {args : List AVal} {H : AHeap} {n : Nat} {R : AOut → AHeap → Nat → Prop} (h : awp Tryd.prog c45 (postC [.t 2, .t 3] R) ⟨penv 0 args, H, n⟩) : ACalls Tryd.prog 45 args H n R :=
  acalls_of_awp' (fn := Tryd.f45) (c := Tryd.f45.body.getD .skip) (ac := c45) (fz := []) (im := []) (kp := kp45) (rs := [.t 2, .t 3]) (by kernel_rfl) (by kernel_rfl) (by kernel_rfl) (by kernel_rfl) (by kernel_rfl) h

/-- strings.HasPrefix -/
def kp46 (r : Nat) : List Nat := match r with
  | 0 => [0, 1]
  | 1 => [4]
  | _ => []
def c46 : ACode :=
  (.seq
   (.reg 0 [
     ⟨some 4, none, .v (.mv (.c (.bool false)))⟩] [0, 1])
   (.seq
    (.reg 0 [
      ⟨some 5, none, .v (.mv (.t 0))⟩,
      ⟨some 6, none, .v (.mv (.t 1))⟩,
      ⟨some 7, none, .call true (.c (.fn (.func 55) [] [])) [(.t 5), (.t 6)]⟩,
      ⟨some 4, none, .v (.mv (.t 7))⟩] [4])
    .ret))
theorem l46 : Callable Tryd.prog 46 := ⟨Tryd.f46, by kernel_rfl, by kernel_rfl, by kernel_rfl⟩
theorem a46 {args : List AVal} {H : AHeap} {n : Nat} {R : AOut → AHeap → Nat → Prop} (h : awp Tryd.prog c46 (postC [.t 4] R) ⟨penv 0 args, H, n⟩) : ACalls Tryd.prog 46 args H n R :=
  acalls_of_awp' (fn := Tryd.f46) (c := Tryd.f46.body.getD .skip) (ac := c46) (fz := []) (im := []) (kp := kp46) (rs := [.t 4]) (by kernel_rfl) (by kernel_rfl) (by kernel_rfl) (by kernel_rfl) (by kernel_rfl) h

/-- strings.IndexByte -/
def kp47 (r : Nat) : List Nat := match r with
  | 0 => [0, 1]
  | 1 => [4]
  | _ => []
def c47 : ACode :=
  (.seq
   (.reg 0 [
     ⟨some 4, none, .v (.mv (.c (.int .i64 0)))⟩] [0, 1])
   (.seq
    (.reg 0 [
      ⟨some 5, none, .v (.mv (.t 0))⟩,
      ⟨some 6, none, .v (.mv (.t 1))⟩,
      ⟨some 7, none, .call true (.c (.fn (.func 56) [] [])) [(.t 5), (.t 6)]⟩,
      ⟨some 4, none, .v (.mv (.t 7))⟩] [4])
    .ret))
theorem l47 : Callable Tryd.prog 47 := ⟨Tryd.f47, by kernel_rfl, by kernel_rfl, by kernel_rfl⟩
theorem a47 {args : List AVal} {H : AHeap} {n : Nat} {R : AOut → AHeap → Nat → Prop} (h : awp Tryd.prog c47 (postC [.t 4] R) ⟨penv 0 args, H, n⟩) : ACalls Tryd.prog 47 args H n R :=
  acalls_of_awp' (fn := Tryd.f47) (c := Tryd.f47.body.getD .skip) (ac := c47) (fz := []) (im := []) (kp := kp47) (rs := [.t 4]) (by kernel_rfl) (by kernel_rfl) (by kernel_rfl) (by kernel_rfl) (by kernel_rfl) h

/-- slices.Contains[[]int,int] -/
def kp52 (r : Nat) : List Nat := match r with
  | 0 => [0, 1]
  | 1 => [4]
  | _ => []
def c52 : ACode :=
  (.seq
   (.reg 0 [
     ⟨some 4, none, .v (.mv (.c (.bool false)))⟩] [0, 1])
   (.seq
    (.reg 0 [
      ⟨some 5, none, .v (.mv (.t 0))⟩,
      ⟨some 6, none, .v (.mv (.t 1))⟩,
      ⟨some 7, none, .call true (.c (.fn (.func 60) [] [])) [(.t 5), (.t 6)]⟩,
      ⟨some 8, none, .v (.icmp .geq .i64 (.t 7) (.c (.int .i64 0)))⟩,
      ⟨some 4, none, .v (.mv (.t 8))⟩] [4])
    .ret))
theorem l52 : Callable Tryd.prog 52 := ⟨Tryd.f52, by kernel_rfl, by kernel_rfl, by kernel_rfl⟩
theorem a52 {args : List AVal} {H : AHeap} {n : Nat} {R : AOut → AHeap → Nat → Prop} (h : awp Tryd.prog c52 (postC [.t 4] R) ⟨penv 0 args, H, n⟩) : ACalls Tryd.prog 52 args H n R :=
  acalls_of_awp' (fn := Tryd.f52) (c := Tryd.f52.body.getD .skip) (ac := c52) (fz := []) (im := []) (kp := kp52) (rs := [.t 4]) (by kernel_rfl) (by kernel_rfl) (by kernel_rfl) (by kernel_rfl) (by kernel_rfl) h

/-- slices.Index[[]int,int] -/
def kp60 (r : Nat) : List Nat := match r with
  | 0 => [0, 1]
  | 1 => [0, 1, 7, 8]
  | 2 => [0, 1, 7, 8, 9]
  | 3 => [0, 1, 5, 7, 8]
  | 4 => [0, 1, 5, 7, 8, 16]
  | 5 => [4]
  | 6 => [0, 1, 7, 8]
  | 7 => [4]
  | _ => []
def c60 : ACode :=
  (.seq
   (.reg 0 [
     ⟨some 4, none, .v (.mv (.c (.int .i64 0)))⟩] [0, 1])
   (.seq
    (.seq
     (.reg 0 [
       ⟨some 6, none, .v (.mv (.t 0))⟩,
       ⟨some 7, none, .v (.len (.t 6))⟩,
       ⟨some 8, none, .v (.mv (.c (.int .i64 0)))⟩] [0, 1, 7, 8])
     (.block 0
      (.loop
       (.seq
        (.reg 0 [
          ⟨some 9, none, .v (.icmp .lss .i64 (.t 8) (.t 7))⟩] [0, 1, 7, 8, 9])
        (.seq
         (.cond (.t 9)
          .skip
          (.exit 0))
         (.seq
          (.block 1
           (.seq
            (.reg 0 [
              ⟨some 10, none, .v (.mv (.t 8))⟩,
              ⟨some 5, none, .v (.mv (.t 10))⟩] [0, 1, 5, 7, 8])
            (.seq
             (.reg 0 [
               ⟨some 11, none, .v (.mv (.t 1))⟩,
               ⟨some 12, none, .v (.mv (.t 0))⟩,
               ⟨some 13, none, .v (.mv (.t 5))⟩,
               ⟨some 14, none, .v (.ia 1 (.t 12) (.t 13))⟩,
               ⟨some 15, none, .v (.ld 1 false (.t 14))⟩,
               ⟨some 16, none, .v (.icmp .eql .i64 (.t 11) (.t 15))⟩] [0, 1, 5, 7, 8, 16])
             (.cond (.t 16)
              (.seq
               (.reg 0 [
                 ⟨some 17, none, .v (.mv (.t 5))⟩,
                 ⟨some 4, none, .v (.mv (.t 17))⟩] [4])
               .ret)
              .skip))))
          (.reg 0 [
            ⟨some 18, none, .v (.arith .add .i64 (.t 8) (.c (.int .i64 1)))⟩,
            ⟨some 8, none, .v (.mv (.t 18))⟩] [0, 1, 7, 8])))))))
    (.seq
     (.reg 0 [
       ⟨some 4, none, .v (.mv (.c (.int .i64 (-1))))⟩] [4])
     .ret)))
theorem l60 : Callable Tryd.prog 60 := ⟨Tryd.f60, by kernel_rfl, by kernel_rfl, by kernel_rfl⟩
theorem a60 {args : List AVal} {H : AHeap} {n : Nat} {R : AOut → AHeap → Nat → Prop} (h : awp Tryd.prog c60 (postC [.t 4] R) ⟨penv 0 args, H, n⟩) : ACalls Tryd.prog 60 args H n R :=
  acalls_of_awp' (fn := Tryd.f60) (c := Tryd.f60.body.getD .skip) (ac := c60) (fz := []) (im := []) (kp := kp60) (rs := [.t 4]) (by kernel_rfl) (by kernel_rfl) (by kernel_rfl) (by kernel_rfl) (by kernel_rfl) h

end Go.AM
end

/- The abstract code of some functions, written by a program. Conditions: none. -/
section
set_option maxRecDepth 10000
set_option linter.unusedSimpArgs false
set_option linter.unusedVariables false
set_option maxRecDepth 20000
set_option linter.unusedVariables false
namespace Go.AM
open Go.Proofs





/-- gridwright/lex.Lex.1 -/
def kp24 (r : Nat) : List Nat := match r with
  | 0 => [0, 1, 2, 3]
  | 1 => [0, 1, 2, 3, 6]
  | 2 => []
  | _ => []
def c24 : ACode :=
  (.seq
   (.reg 0 [
     ⟨some 5, none, .v (.mv (.t 3))⟩,
     ⟨some 6, none, .ext (.nileq 0 true) [(.t 5)]⟩] [0, 1, 2, 3, 6])
   (.cond (.t 6)
    (.reg 0 [
      ⟨some 7, none, .v (.mv (.t 3))⟩,
      ⟨some 8, none, .ext (.tas 42 false (.int .i64 0)) [(.t 7)]⟩,
      ⟨none, none, .st 1 (.t 0) (.c (.sl .nil []))⟩,
      ⟨none, none, .st 1 (.t 1) (.t 8)⟩,
      ⟨none, none, .st 1 (.t 2) (.c (.int .i64 100))⟩] [])
    .skip))
theorem l24 : Callable Tryd.prog 24 := ⟨Tryd.f24, by kernel_rfl, by kernel_rfl, by kernel_rfl⟩
theorem a24 {args : List AVal} {rv : AVal} {H : AHeap} {n : Nat} {Rc : AHeap → Nat → Prop} (h : awp Tryd.prog c24 (postC [] fun o H' n' => o = .ret (.tup []) ∧ Rc H' n') ⟨(3, true, rv) :: (4, true, rv) :: penv 0 args, H, n⟩) : ADefer Tryd.prog 24 args rv H n Rc :=
  adefer_of' (id := 0) (fn := Tryd.f24) (ops := regOps (sqH (Tryd.f24.body.getD .skip))) (X := sqT (Tryd.f24.body.getD .skip)) (y := c24) (fz := []) (im := []) (kp := kp24) (t3 := 3) (t4 := 4) (by kernel_rfl) (by kernel_rfl) (by kernel_rfl) (by kernel_rfl) (by kernel_rfl) (by kernel_rfl) h
/-- gridwright/lex.Lex -/
def kp12 (r : Nat) : List Nat := match r with
  | 0 => [0, 2, 3, 4]
  | 1 => [0, 2, 3, 4, 9]
  | 2 => [2, 3, 4]
  | 3 => [0, 2, 3, 4]
  | 4 => [0, 2, 3, 4, 5]
  | 5 => [0, 2, 3, 4, 5]
  | 6 => [0, 2, 3, 4, 5, 6]
  | 7 => [0, 2, 3, 4, 5, 6, 22]
  | 8 => [0, 2, 3, 4, 5, 6]
  | 9 => [2, 3, 4]
  | _ => []
def c12_0 : ACode :=
  (.reg 3 [
    ⟨some 2, none, .alloc 0 [(.sl .nil [])]⟩,
    ⟨some 3, none, .alloc 1 [(.int .i64 0)]⟩,
    ⟨some 4, none, .alloc 2 [(.int .i64 0)]⟩] [0, 2, 3, 4])
def c12_1 : ACode :=
  (.seq
   (.reg 0 [
     ⟨some 7, none, .v (.mv (.t 0))⟩,
     ⟨some 8, none, .v (.lenS (.t 7))⟩,
     ⟨some 9, none, .v (.icmp .gtr .i64 (.t 8) (.c (.int .i64 65536)))⟩] [0, 2, 3, 4, 9])
   (.cond (.t 9)
    (.seq
     (.reg 0 [
       ⟨none, none, .st 1 (.t 2) (.c (.sl .nil []))⟩,
       ⟨none, none, .st 1 (.t 3) (.c (.int .i64 0))⟩,
       ⟨none, none, .st 1 (.t 4) (.c (.int .i64 2))⟩] [2, 3, 4])
     .ret)
    .skip))
def c12 : ACode :=
  (.seq
   (.reg 1 [
     ⟨some 5, none, .alloc 0 [.nilfn, .nilfn, .nilfn, .nilfn, .nilfn, .nilfn]⟩] [0, 2, 3, 4, 5])
   (.seq
    (.reg 0 [
      ⟨some 11, none, .v (.build [.nilfn, .nilfn, .nilfn, .nilfn, .nilfn, .nilfn] [(0, 1, (.c (.fn (.func 25) [] []))), (1, 1, (.c (.fn (.func 26) [] []))), (2, 1, (.c (.fn (.func 27) [] []))), (3, 1, (.c (.fn (.func 28) [] []))), (4, 1, (.c (.fn (.func 29) [] []))), (5, 1, (.c (.fn (.func 25) [] [])))])⟩,
      ⟨some 12, none, .v (.fa 0 (.t 5))⟩,
      ⟨none, none, .st 6 (.t 12) (.t 11)⟩] [0, 2, 3, 4, 5])
    (.seq
     (.reg 4 [
       ⟨some 13, none, .v (.mv (.t 0))⟩,
       ⟨some 14, none, .v (.build [(.str []), (.int .i64 0), (.sl .nil [])] [(0, 1, (.t 13))])⟩,
       ⟨some 15, none, .box 2 3 (.t 14)⟩,
       ⟨some 6, none, .v (.mv (.t 15))⟩] [0, 2, 3, 4, 5, 6])
     (.seq
      (.block 0
       (.loop
        (.seq
         (.seq
          (.reg 0 [
            ⟨some 16, none, .v (.mv (.t 6))⟩,
            ⟨some 17, none, .v (.nilc (.t 16))⟩,
            ⟨some 18, none, .v (.fa 1 (.t 17))⟩,
            ⟨some 19, none, .v (.ld 1 false (.t 18))⟩,
            ⟨some 20, none, .v (.mv (.t 0))⟩,
            ⟨some 21, none, .v (.lenS (.t 20))⟩,
            ⟨some 22, none, .v (.icmp .lss .i64 (.t 19) (.t 21))⟩] [0, 2, 3, 4, 5, 6, 22])
          (.cond (.t 22)
           .skip
           (.exit 0)))
         (.block 1
          (.reg 0 [
            ⟨some 23, none, .v (.mv (.t 0))⟩,
            ⟨some 24, none, .v (.mv (.t 6))⟩,
            ⟨some 25, none, .v (.nilc (.t 24))⟩,
            ⟨some 26, none, .v (.fa 1 (.t 25))⟩,
            ⟨some 27, none, .v (.ld 1 false (.t 26))⟩,
            ⟨some 28, none, .v (.ixS (.t 23) (.t 27))⟩,
            ⟨some 29, none, .call true (.c (.fn (.func 30) [] [])) [(.t 28)]⟩,
            ⟨some 30, none, .v (.fa 0 (.t 5))⟩,
            ⟨some 31, none, .v (.iaA 6 1 (.t 30) (.t 29))⟩,
            ⟨some 32, none, .v (.ld 1 false (.t 31))⟩,
            ⟨some 33, none, .v (.mv (.t 6))⟩,
            ⟨some 34, none, .call false (.t 32) [(.t 33)]⟩] [0, 2, 3, 4, 5, 6])))))
      (.seq
       (.reg 0 [
         ⟨some 35, none, .v (.mv (.t 6))⟩,
         ⟨some 36, none, .v (.nilc (.t 35))⟩,
         ⟨some 37, none, .v (.fa 2 (.t 36))⟩,
         ⟨some 38, none, .v (.ld 1 false (.t 37))⟩,
         ⟨none, none, .st 1 (.t 2) (.t 38)⟩,
         ⟨none, none, .st 1 (.t 3) (.c (.int .i64 0))⟩,
         ⟨none, none, .st 1 (.t 4) (.c (.int .i64 0))⟩] [2, 3, 4])
       .ret)))))
theorem l12 : Callable Tryd.prog 12 := ⟨Tryd.f12, by kernel_rfl, by kernel_rfl, by kernel_rfl⟩
theorem a12 {args : List AVal} {H : AHeap} {n : Nat} {R : AOut → AHeap → Nat → Prop} (h : awp Tryd.prog (aspine [c12_0, c12_1]) (postD Tryd.prog 10 ⟨(some 10), none, .v (.fn (.func 24) [] [(.t 2), (.t 3), (.t 4)])⟩ c12 5 24 [.c 2 1 false, .c 3 1 false, .c 4 1 false] R) ⟨penv 0 args, H, n⟩) : ACalls Tryd.prog 12 args H n R :=
  acalls_defer' (id := 3) (fn := Tryd.f12) (pre := [sqH (Tryd.f12.body.getD .skip), sqH (sqT (Tryd.f12.body.getD .skip))]) (ys := [c12_0, c12_1]) (ops := regOps (sqH (sqT (sqT (Tryd.f12.body.getD .skip))))) (X := (sqT (sqT (sqT (Tryd.f12.body.getD .skip))))) (y := c12) (fz := []) (fzX := [(999999, 5)]) (im := [(8, 11)]) (kp := kp12) (rs := [.c 2 1 false, .c 3 1 false, .c 4 1 false]) (d0 := (some 10)) (k := .fn (.func 24) [] [(.t 2), (.t 3), (.t 4)]) (t := 10) (by kernel_rfl) (by kernel_rfl) (by kernel_rfl) (by kernel_rfl) (by kernel_rfl) (by kernel_rfl) (by kernel_rfl) (by kernel_rfl) (by kernel_rfl) l24 h
end Go.AM
end

/- The abstract code of some functions, written by a program. Conditions: none. -/
section
set_option maxRecDepth 10000
set_option linter.unusedSimpArgs false
set_option linter.unusedVariables false
set_option maxRecDepth 20000
set_option linter.unusedVariables false
namespace Go.AM
open Go.Proofs





/-- gridwright/gridwrightref10.Lex -/
def kp13 (r : Nat) : List Nat := match r with
  | 0 => [0]
  | 1 => [0, 12]
  | 2 => [2, 3, 4]
  | 3 => [0, 5]
  | 4 => [0, 5, 6]
  | 5 => [0, 5, 6, 17]
  | 6 => [0, 5, 6, 7]
  | 7 => [0, 5, 6, 7, 22]
  | 8 => [0, 5, 6]
  | 9 => [0, 5, 6, 7, 42]
  | 10 => [0, 5, 6, 52]
  | 11 => [0, 5, 6]
  | 12 => [0, 5, 6, 7, 58]
  | 13 => [0, 5, 6, 7, 68]
  | 14 => [0, 5, 6, 7]
  | 15 => [0, 5, 6, 7, 76]
  | 16 => [2, 3, 4]
  | 17 => [0, 5, 6]
  | 18 => [0, 5, 6, 7, 90]
  | 19 => [0, 5, 6, 7, 100]
  | 20 => [0, 5, 6, 7]
  | 21 => [0, 5, 6, 7, 8, 9]
  | 22 => [0, 5, 6, 7, 8, 112]
  | 23 => [2, 3, 4]
  | 24 => [0, 5, 6]
  | 25 => [0, 5, 6, 7, 124]
  | 26 => [2, 3, 4]
  | 27 => [0, 5, 6, 7]
  | 28 => [0, 5, 6]
  | 29 => [2, 3, 4]
  | _ => []
def c13 : ACode :=
  (.seq
   (.reg 0 [
     ⟨some 2, none, .v (.mv (.c (.sl .nil [])))⟩,
     ⟨some 3, none, .v (.mv (.c (.int .i64 0)))⟩,
     ⟨some 4, none, .v (.mv (.c (.int .i64 0)))⟩] [0])
   (.seq
    (.seq
     (.reg 0 [
       ⟨some 10, none, .v (.mv (.t 0))⟩,
       ⟨some 11, none, .v (.lenS (.t 10))⟩,
       ⟨some 12, none, .v (.icmp .gtr .i64 (.t 11) (.c (.int .i64 65536)))⟩] [0, 12])
     (.cond (.t 12)
      (.seq
       (.reg 0 [
         ⟨some 2, none, .v (.mv (.c (.sl .nil [])))⟩,
         ⟨some 3, none, .v (.mv (.c (.int .i64 0)))⟩,
         ⟨some 4, none, .v (.mv (.c (.int .i64 2)))⟩] [2, 3, 4])
       .ret)
      .skip))
    (.seq
     (.reg 0 [
       ⟨some 13, none, .v (.bs 4 0 (.agg [(.int .i64 0), (.str []), (.int .i64 0), (.int .i64 0)]) [])⟩,
       ⟨some 5, none, .v (.mv (.t 13))⟩] [0, 5])
     (.seq
      (.reg 0 [
        ⟨some 6, none, .v (.mv (.c (.int .i64 0)))⟩] [0, 5, 6])
      (.seq
       (.block 0
        (.loop
         (.seq
          (.seq
           (.reg 0 [
             ⟨some 14, none, .v (.mv (.t 6))⟩,
             ⟨some 15, none, .v (.mv (.t 0))⟩,
             ⟨some 16, none, .v (.lenS (.t 15))⟩,
             ⟨some 17, none, .v (.icmp .lss .i64 (.t 14) (.t 16))⟩] [0, 5, 6, 17])
           (.cond (.t 17)
            .skip
            (.exit 0)))
          (.block 1
           (.seq
            (.reg 0 [
              ⟨some 18, none, .v (.mv (.t 6))⟩,
              ⟨some 7, none, .v (.mv (.t 18))⟩] [0, 5, 6, 7])
            (.seq
             (.seq
              (.reg 0 [
                ⟨some 19, none, .v (.mv (.t 0))⟩,
                ⟨some 20, none, .v (.mv (.t 6))⟩,
                ⟨some 21, none, .v (.ixS (.t 19) (.t 20))⟩,
                ⟨some 22, none, .call true (.c (.fn (.func 22) [] [])) [(.t 21)]⟩] [0, 5, 6, 7, 22])
              (.cond (.t 22)
               (.seq
                (.reg 0 [
                  ⟨some 23, none, .v (.mv (.t 6))⟩,
                  ⟨some 24, none, .v (.arith .add .i64 (.t 23) (.c (.int .i64 1)))⟩,
                  ⟨some 6, none, .v (.mv (.t 24))⟩] [0, 5, 6])
                (.exit 1))
               .skip))
             (.seq
              (.seq
               (.reg 0 [
                 ⟨some 25, none, .v (.mv (.t 0))⟩,
                 ⟨some 26, none, .v (.mv (.t 6))⟩,
                 ⟨some 27, none, .v (.ixS (.t 25) (.t 26))⟩,
                 ⟨some 28, none, .v (.icmp .eql .u8 (.t 27) (.c (.int .u8 47)))⟩,
                 ⟨some 29, none, .v (.mv (.t 28))⟩,
                 ⟨some 30, some (29, true), .v (.mv (.t 6))⟩,
                 ⟨some 31, some (29, true), .v (.arith .add .i64 (.t 30) (.c (.int .i64 1)))⟩,
                 ⟨some 32, some (29, true), .v (.mv (.t 0))⟩,
                 ⟨some 33, some (29, true), .v (.lenS (.t 32))⟩,
                 ⟨some 34, some (29, true), .v (.icmp .lss .i64 (.t 31) (.t 33))⟩,
                 ⟨some 35, none, .pick (.t 29) (.t 34) (.c (.bool false))⟩,
                 ⟨some 36, none, .v (.mv (.t 35))⟩,
                 ⟨some 37, some (36, true), .v (.mv (.t 0))⟩,
                 ⟨some 38, some (36, true), .v (.mv (.t 6))⟩,
                 ⟨some 39, some (36, true), .v (.arith .add .i64 (.t 38) (.c (.int .i64 1)))⟩,
                 ⟨some 40, some (36, true), .v (.ixS (.t 37) (.t 39))⟩,
                 ⟨some 41, some (36, true), .v (.icmp .eql .u8 (.t 40) (.c (.int .u8 47)))⟩,
                 ⟨some 42, none, .pick (.t 36) (.t 41) (.c (.bool false))⟩] [0, 5, 6, 7, 42])
               (.cond (.t 42)
                (.seq
                 (.block 2
                  (.loop
                   (.seq
                    (.seq
                     (.reg 0 [
                       ⟨some 43, none, .v (.mv (.t 6))⟩,
                       ⟨some 44, none, .v (.mv (.t 0))⟩,
                       ⟨some 45, none, .v (.lenS (.t 44))⟩,
                       ⟨some 46, none, .v (.icmp .lss .i64 (.t 43) (.t 45))⟩,
                       ⟨some 47, none, .v (.mv (.t 46))⟩,
                       ⟨some 48, some (47, true), .v (.mv (.t 0))⟩,
                       ⟨some 49, some (47, true), .v (.mv (.t 6))⟩,
                       ⟨some 50, some (47, true), .v (.ixS (.t 48) (.t 49))⟩,
                       ⟨some 51, some (47, true), .v (.icmp .neq .u8 (.t 50) (.c (.int .u8 10)))⟩,
                       ⟨some 52, none, .pick (.t 47) (.t 51) (.c (.bool false))⟩] [0, 5, 6, 52])
                     (.cond (.t 52)
                      .skip
                      (.exit 2)))
                    (.block 3
                     (.reg 0 [
                       ⟨some 53, none, .v (.mv (.t 6))⟩,
                       ⟨some 54, none, .v (.arith .add .i64 (.t 53) (.c (.int .i64 1)))⟩,
                       ⟨some 6, none, .v (.mv (.t 54))⟩] [0, 5, 6])))))
                 (.exit 1))
                .skip))
              (.seq
               (.seq
                (.reg 0 [
                  ⟨some 55, none, .v (.mv (.t 0))⟩,
                  ⟨some 56, none, .v (.mv (.t 6))⟩,
                  ⟨some 57, none, .v (.ixS (.t 55) (.t 56))⟩,
                  ⟨some 58, none, .call true (.c (.fn (.func 31) [] [])) [(.t 57)]⟩] [0, 5, 6, 7, 58])
                (.cond (.t 58)
                 (.seq
                  (.block 4
                   (.loop
                    (.seq
                     (.seq
                      (.reg 0 [
                        ⟨some 59, none, .v (.mv (.t 6))⟩,
                        ⟨some 60, none, .v (.mv (.t 0))⟩,
                        ⟨some 61, none, .v (.lenS (.t 60))⟩,
                        ⟨some 62, none, .v (.icmp .lss .i64 (.t 59) (.t 61))⟩,
                        ⟨some 63, none, .v (.mv (.t 62))⟩,
                        ⟨some 64, some (63, true), .v (.mv (.t 0))⟩,
                        ⟨some 65, some (63, true), .v (.mv (.t 6))⟩,
                        ⟨some 66, some (63, true), .v (.ixS (.t 64) (.t 65))⟩,
                        ⟨some 67, some (63, true), .call true (.c (.fn (.func 32) [] [])) [(.t 66)]⟩,
                        ⟨some 68, none, .pick (.t 63) (.t 67) (.c (.bool false))⟩] [0, 5, 6, 7, 68])
                      (.cond (.t 68)
                       .skip
                       (.exit 4)))
                     (.block 5
                      (.reg 0 [
                        ⟨some 69, none, .v (.mv (.t 6))⟩,
                        ⟨some 70, none, .v (.arith .add .i64 (.t 69) (.c (.int .i64 1)))⟩,
                        ⟨some 6, none, .v (.mv (.t 70))⟩] [0, 5, 6, 7])))))
                  (.seq
                   (.seq
                    (.reg 0 [
                      ⟨some 71, none, .v (.mv (.t 0))⟩,
                      ⟨some 72, none, .v (.mv (.t 7))⟩,
                      ⟨some 73, none, .v (.mv (.t 6))⟩,
                      ⟨some 74, none, .v (.slS (.t 71) (some (.t 72)) (some (.t 73)))⟩,
                      ⟨some 75, none, .call true (.c (.fn (.func 21) [] [])) [(.t 74)]⟩,
                      ⟨some 76, none, .v (.not (.t 75))⟩] [0, 5, 6, 7, 76])
                    (.cond (.t 76)
                     (.seq
                      (.reg 0 [
                        ⟨some 77, none, .v (.mv (.t 7))⟩,
                        ⟨some 2, none, .v (.mv (.c (.sl .nil [])))⟩,
                        ⟨some 3, none, .v (.mv (.t 77))⟩,
                        ⟨some 4, none, .v (.mv (.c (.int .i64 100)))⟩] [2, 3, 4])
                      .ret)
                     .skip))
                   (.seq
                    (.reg 10 [
                      ⟨some 78, none, .v (.mv (.t 5))⟩,
                      ⟨some 79, none, .v (.mv (.t 0))⟩,
                      ⟨some 80, none, .v (.mv (.t 7))⟩,
                      ⟨some 81, none, .v (.mv (.t 6))⟩,
                      ⟨some 82, none, .v (.slS (.t 79) (some (.t 80)) (some (.t 81)))⟩,
                      ⟨some 83, none, .v (.mv (.t 7))⟩,
                      ⟨some 84, none, .v (.build [(.int .i64 0), (.str []), (.int .i64 0), (.int .i64 0)] [(0, 1, (.c (.int .i64 1))), (1, 1, (.t 82)), (3, 1, (.t 83))])⟩,
                      ⟨some 85, none, .v (.bs 4 1 (.agg [(.int .i64 0), (.str []), (.int .i64 0), (.int .i64 0)]) [(0, (.t 84))])⟩,
                      ⟨some 86, none, .app 8 4 40 (.t 78) (.t 85) false⟩,
                      ⟨some 5, none, .v (.mv (.t 86))⟩] [0, 5, 6])
                    (.exit 1))))
                 .skip))
               (.seq
                (.seq
                 (.reg 0 [
                   ⟨some 87, none, .v (.mv (.t 0))⟩,
                   ⟨some 88, none, .v (.mv (.t 6))⟩,
                   ⟨some 89, none, .v (.ixS (.t 87) (.t 88))⟩,
                   ⟨some 90, none, .call true (.c (.fn (.func 33) [] [])) [(.t 89)]⟩] [0, 5, 6, 7, 90])
                 (.cond (.t 90)
                  (.seq
                   (.block 6
                    (.loop
                     (.seq
                      (.seq
                       (.reg 0 [
                         ⟨some 91, none, .v (.mv (.t 6))⟩,
                         ⟨some 92, none, .v (.mv (.t 0))⟩,
                         ⟨some 93, none, .v (.lenS (.t 92))⟩,
                         ⟨some 94, none, .v (.icmp .lss .i64 (.t 91) (.t 93))⟩,
                         ⟨some 95, none, .v (.mv (.t 94))⟩,
                         ⟨some 96, some (95, true), .v (.mv (.t 0))⟩,
                         ⟨some 97, some (95, true), .v (.mv (.t 6))⟩,
                         ⟨some 98, some (95, true), .v (.ixS (.t 96) (.t 97))⟩,
                         ⟨some 99, some (95, true), .call true (.c (.fn (.func 33) [] [])) [(.t 98)]⟩,
                         ⟨some 100, none, .pick (.t 95) (.t 99) (.c (.bool false))⟩] [0, 5, 6, 7, 100])
                       (.cond (.t 100)
                        .skip
                        (.exit 6)))
                      (.block 7
                       (.reg 0 [
                         ⟨some 101, none, .v (.mv (.t 6))⟩,
                         ⟨some 102, none, .v (.arith .add .i64 (.t 101) (.c (.int .i64 1)))⟩,
                         ⟨some 6, none, .v (.mv (.t 102))⟩] [0, 5, 6, 7])))))
                   (.seq
                    (.reg 0 [
                      ⟨some 104, none, .v (.mv (.t 0))⟩,
                      ⟨some 105, none, .v (.mv (.t 7))⟩,
                      ⟨some 106, none, .v (.mv (.t 6))⟩,
                      ⟨some 107, none, .v (.slS (.t 104) (some (.t 105)) (some (.t 106)))⟩,
                      ⟨some 108, none, .call true (.c (.fn (.func 34) [] [])) [(.t 107)]⟩,
                      ⟨some 103, none, .v (.mv (.t 108))⟩,
                      ⟨some 109, none, .v (.ext 0 (.t 103))⟩,
                      ⟨some 110, none, .v (.ext 1 (.t 103))⟩,
                      ⟨some 8, none, .v (.mv (.t 109))⟩,
                      ⟨some 9, none, .v (.mv (.t 110))⟩] [0, 5, 6, 7, 8, 9])
                    (.seq
                     (.seq
                      (.reg 0 [
                        ⟨some 111, none, .v (.mv (.t 9))⟩,
                        ⟨some 112, none, .v (.not (.t 111))⟩] [0, 5, 6, 7, 8, 112])
                      (.cond (.t 112)
                       (.seq
                        (.reg 0 [
                          ⟨some 113, none, .v (.mv (.t 7))⟩,
                          ⟨some 2, none, .v (.mv (.c (.sl .nil [])))⟩,
                          ⟨some 3, none, .v (.mv (.t 113))⟩,
                          ⟨some 4, none, .v (.mv (.c (.int .i64 100)))⟩] [2, 3, 4])
                        .ret)
                       .skip))
                     (.seq
                      (.reg 7 [
                        ⟨some 114, none, .v (.mv (.t 5))⟩,
                        ⟨some 115, none, .v (.mv (.t 8))⟩,
                        ⟨some 116, none, .v (.mv (.t 7))⟩,
                        ⟨some 117, none, .v (.build [(.int .i64 0), (.str []), (.int .i64 0), (.int .i64 0)] [(0, 1, (.c (.int .i64 2))), (2, 1, (.t 115)), (3, 1, (.t 116))])⟩,
                        ⟨some 118, none, .v (.bs 4 1 (.agg [(.int .i64 0), (.str []), (.int .i64 0), (.int .i64 0)]) [(0, (.t 117))])⟩,
                        ⟨some 119, none, .app 5 4 40 (.t 114) (.t 118) false⟩,
                        ⟨some 5, none, .v (.mv (.t 119))⟩] [0, 5, 6])
                      (.exit 1)))))
                  .skip))
                (.seq
                 (.seq
                  (.reg 0 [
                    ⟨some 120, none, .v (.mv (.t 0))⟩,
                    ⟨some 121, none, .v (.mv (.t 6))⟩,
                    ⟨some 122, none, .v (.ixS (.t 120) (.t 121))⟩,
                    ⟨some 123, none, .call true (.c (.fn (.func 35) [] [])) [(.t 122)]⟩,
                    ⟨some 124, none, .v (.not (.t 123))⟩] [0, 5, 6, 7, 124])
                  (.cond (.t 124)
                   (.seq
                    (.reg 0 [
                      ⟨some 125, none, .v (.mv (.t 7))⟩,
                      ⟨some 2, none, .v (.mv (.c (.sl .nil [])))⟩,
                      ⟨some 3, none, .v (.mv (.t 125))⟩,
                      ⟨some 4, none, .v (.mv (.c (.int .i64 100)))⟩] [2, 3, 4])
                    .ret)
                   .skip))
                 (.seq
                  (.reg 0 [
                    ⟨some 126, none, .v (.mv (.t 6))⟩,
                    ⟨some 127, none, .v (.arith .add .i64 (.t 126) (.c (.int .i64 1)))⟩,
                    ⟨some 6, none, .v (.mv (.t 127))⟩] [0, 5, 6, 7])
                  (.reg 10 [
                    ⟨some 128, none, .v (.mv (.t 5))⟩,
                    ⟨some 129, none, .v (.mv (.t 0))⟩,
                    ⟨some 130, none, .v (.mv (.t 7))⟩,
                    ⟨some 131, none, .v (.mv (.t 6))⟩,
                    ⟨some 132, none, .v (.slS (.t 129) (some (.t 130)) (some (.t 131)))⟩,
                    ⟨some 133, none, .v (.mv (.t 7))⟩,
                    ⟨some 134, none, .v (.build [(.int .i64 0), (.str []), (.int .i64 0), (.int .i64 0)] [(0, 1, (.c (.int .i64 3))), (1, 1, (.t 132)), (3, 1, (.t 133))])⟩,
                    ⟨some 135, none, .v (.bs 4 1 (.agg [(.int .i64 0), (.str []), (.int .i64 0), (.int .i64 0)]) [(0, (.t 134))])⟩,
                    ⟨some 136, none, .app 8 4 40 (.t 128) (.t 135) false⟩,
                    ⟨some 5, none, .v (.mv (.t 136))⟩] [0, 5, 6]))))))))))))
       (.seq
        (.reg 0 [
          ⟨some 137, none, .v (.mv (.t 5))⟩,
          ⟨some 2, none, .v (.mv (.t 137))⟩,
          ⟨some 3, none, .v (.mv (.c (.int .i64 0)))⟩,
          ⟨some 4, none, .v (.mv (.c (.int .i64 0)))⟩] [2, 3, 4])
        .ret))))))
theorem l13 : Callable Tryd.prog 13 := ⟨Tryd.f13, by kernel_rfl, by kernel_rfl, by kernel_rfl⟩
theorem a13 {args : List AVal} {H : AHeap} {n : Nat} {R : AOut → AHeap → Nat → Prop} (h : awp Tryd.prog c13 (postC [.t 2, .t 3, .t 4] R) ⟨penv 0 args, H, n⟩) : ACalls Tryd.prog 13 args H n R :=
  acalls_of_awp' (fn := Tryd.f13) (c := Tryd.f13.body.getD .skip) (ac := c13) (fz := []) (im := []) (kp := kp13) (rs := [.t 2, .t 3, .t 4]) (by kernel_rfl) (by kernel_rfl) (by kernel_rfl) (by kernel_rfl) (by kernel_rfl) h

/-- gridwright/gridwrightlaw10.sane -/
def kp11 (r : Nat) : List Nat := match r with
  | 0 => []
  | 1 => [1, 2, 3]
  | 2 => [1, 2, 3, 4]
  | 3 => [1, 2, 3, 4, 6, 7]
  | 4 => [1, 2, 3, 4, 6, 7, 8, 10]
  | 5 => [1, 2, 3, 4, 6, 7, 8, 10, 11, 13]
  | 6 => [1, 2, 3, 4, 6, 7, 8, 10, 11, 13, 15, 16]
  | 7 => [1, 2, 3, 4, 6, 7, 8, 10, 11, 13, 15, 16, 17, 19]
  | 8 => [1, 2, 3, 4, 6, 7, 8, 10, 11, 13, 15, 16, 17, 19, 20, 21]
  | 9 => [1, 2, 3, 4, 6, 7, 8, 10, 11, 13, 15, 16, 17, 19, 20, 21, 22, 24]
  | 10 => [1, 2, 3, 4, 6, 7, 8, 10, 11, 13, 15, 16, 17, 19, 20, 21, 22, 24, 26]
  | 11 => [1, 4, 8, 11, 17, 20, 127]
  | 12 => [0]
  | 13 => [0]
  | _ => []
def c11 : ACode :=
  (.seq
   (.reg 0 [
     ⟨some 0, none, .v (.mv (.c (.bool false)))⟩] [])
   (.seq
    (.reg 0 [
      ⟨some 28, none, .call true (.c (.fn (.func 12) [] [])) [(.c (.str [115, 117, 109, 32, 51, 48, 59]))]⟩,
      ⟨some 27, none, .v (.mv (.t 28))⟩,
      ⟨some 29, none, .v (.ext 0 (.t 27))⟩,
      ⟨some 30, none, .v (.ext 1 (.t 27))⟩,
      ⟨some 31, none, .v (.ext 2 (.t 27))⟩,
      ⟨some 1, none, .v (.mv (.t 29))⟩,
      ⟨some 2, none, .v (.mv (.t 30))⟩,
      ⟨some 3, none, .v (.mv (.t 31))⟩] [1, 2, 3])
    (.seq
     (.reg 0 [
       ⟨some 32, none, .v (.build [(.int .i64 0), (.str []), (.int .i64 0), (.int .i64 0)] [(0, 1, (.c (.int .i64 1))), (1, 1, (.c (.str [115, 117, 109])))])⟩,
       ⟨some 33, none, .v (.build [(.int .i64 0), (.str []), (.int .i64 0), (.int .i64 0)] [(0, 1, (.c (.int .i64 2))), (2, 1, (.c (.int .i64 30))), (3, 1, (.c (.int .i64 4)))])⟩,
       ⟨some 34, none, .v (.build [(.int .i64 0), (.str []), (.int .i64 0), (.int .i64 0)] [(0, 1, (.c (.int .i64 3))), (1, 1, (.c (.str [59]))), (3, 1, (.c (.int .i64 6)))])⟩,
       ⟨some 35, none, .v (.bs 4 3 (.agg [(.int .i64 0), (.str []), (.int .i64 0), (.int .i64 0)]) [(0, (.t 32)), (1, (.t 33)), (2, (.t 34))])⟩,
       ⟨some 4, none, .v (.mv (.t 35))⟩] [1, 2, 3, 4])
     (.seq
      (.reg 0 [
        ⟨some 37, none, .call true (.c (.fn (.func 12) [] [])) [(.c (.str [48, 48, 55]))]⟩,
        ⟨some 36, none, .v (.mv (.t 37))⟩,
        ⟨some 38, none, .v (.ext 0 (.t 36))⟩,
        ⟨some 39, none, .v (.ext 1 (.t 36))⟩,
        ⟨some 40, none, .v (.ext 2 (.t 36))⟩,
        ⟨some 5, none, .v (.mv (.t 38))⟩,
        ⟨some 6, none, .v (.mv (.t 39))⟩,
        ⟨some 7, none, .v (.mv (.t 40))⟩] [1, 2, 3, 4, 6, 7])
      (.seq
       (.reg 0 [
         ⟨some 42, none, .call true (.c (.fn (.func 12) [] [])) [(.c (.str [49, 48, 57, 57, 53, 49, 49, 54, 50, 55, 55, 55, 54]))]⟩,
         ⟨some 41, none, .v (.mv (.t 42))⟩,
         ⟨some 43, none, .v (.ext 0 (.t 41))⟩,
         ⟨some 44, none, .v (.ext 1 (.t 41))⟩,
         ⟨some 45, none, .v (.ext 2 (.t 41))⟩,
         ⟨some 8, none, .v (.mv (.t 43))⟩,
         ⟨some 9, none, .v (.mv (.t 44))⟩,
         ⟨some 10, none, .v (.mv (.t 45))⟩] [1, 2, 3, 4, 6, 7, 8, 10])
       (.seq
        (.reg 0 [
          ⟨some 47, none, .call true (.c (.fn (.func 12) [] [])) [(.c (.str [97, 32, 47, 47, 32, 98]))]⟩,
          ⟨some 46, none, .v (.mv (.t 47))⟩,
          ⟨some 48, none, .v (.ext 0 (.t 46))⟩,
          ⟨some 49, none, .v (.ext 1 (.t 46))⟩,
          ⟨some 50, none, .v (.ext 2 (.t 46))⟩,
          ⟨some 11, none, .v (.mv (.t 48))⟩,
          ⟨some 12, none, .v (.mv (.t 49))⟩,
          ⟨some 13, none, .v (.mv (.t 50))⟩] [1, 2, 3, 4, 6, 7, 8, 10, 11, 13])
        (.seq
         (.reg 0 [
           ⟨some 52, none, .call true (.c (.fn (.func 12) [] [])) [(.c (.str [97, 32, 36]))]⟩,
           ⟨some 51, none, .v (.mv (.t 52))⟩,
           ⟨some 53, none, .v (.ext 0 (.t 51))⟩,
           ⟨some 54, none, .v (.ext 1 (.t 51))⟩,
           ⟨some 55, none, .v (.ext 2 (.t 51))⟩,
           ⟨some 14, none, .v (.mv (.t 53))⟩,
           ⟨some 15, none, .v (.mv (.t 54))⟩,
           ⟨some 16, none, .v (.mv (.t 55))⟩] [1, 2, 3, 4, 6, 7, 8, 10, 11, 13, 15, 16])
         (.seq
          (.reg 0 [
            ⟨some 57, none, .call true (.c (.fn (.func 12) [] [])) [(.c (.str [97, 61, 49]))]⟩,
            ⟨some 56, none, .v (.mv (.t 57))⟩,
            ⟨some 58, none, .v (.ext 0 (.t 56))⟩,
            ⟨some 59, none, .v (.ext 1 (.t 56))⟩,
            ⟨some 60, none, .v (.ext 2 (.t 56))⟩,
            ⟨some 17, none, .v (.mv (.t 58))⟩,
            ⟨some 18, none, .v (.mv (.t 59))⟩,
            ⟨some 19, none, .v (.mv (.t 60))⟩] [1, 2, 3, 4, 6, 7, 8, 10, 11, 13, 15, 16, 17, 19])
          (.seq
           (.reg 0 [
             ⟨some 62, none, .v (.mv (.t 17))⟩,
             ⟨some 63, none, .call true (.c (.fn (.func 16) [] [])) [(.t 62)]⟩,
             ⟨some 61, none, .v (.mv (.t 63))⟩,
             ⟨some 64, none, .v (.ext 0 (.t 61))⟩,
             ⟨some 65, none, .v (.ext 1 (.t 61))⟩,
             ⟨some 20, none, .v (.mv (.t 64))⟩,
             ⟨some 21, none, .v (.mv (.t 65))⟩] [1, 2, 3, 4, 6, 7, 8, 10, 11, 13, 15, 16, 17, 19, 20, 21])
           (.seq
            (.reg 0 [
              ⟨some 67, none, .call true (.c (.fn (.func 12) [] [])) [(.c (.str []))]⟩,
              ⟨some 66, none, .v (.mv (.t 67))⟩,
              ⟨some 68, none, .v (.ext 0 (.t 66))⟩,
              ⟨some 69, none, .v (.ext 1 (.t 66))⟩,
              ⟨some 70, none, .v (.ext 2 (.t 66))⟩,
              ⟨some 22, none, .v (.mv (.t 68))⟩,
              ⟨some 23, none, .v (.mv (.t 69))⟩,
              ⟨some 24, none, .v (.mv (.t 70))⟩] [1, 2, 3, 4, 6, 7, 8, 10, 11, 13, 15, 16, 17, 19, 20, 21, 22, 24])
            (.seq
             (.reg 0 [
               ⟨some 72, none, .v (.build [(.int .i64 0), (.str []), (.int .i64 0), (.int .i64 0)] [])⟩,
               ⟨some 73, none, .v (.bs 4 1 (.agg [(.int .i64 0), (.str []), (.int .i64 0), (.int .i64 0)]) [(0, (.t 72))])⟩,
               ⟨some 74, none, .call true (.c (.fn (.func 16) [] [])) [(.t 73)]⟩,
               ⟨some 71, none, .v (.mv (.t 74))⟩,
               ⟨some 75, none, .v (.ext 0 (.t 71))⟩,
               ⟨some 76, none, .v (.ext 1 (.t 71))⟩,
               ⟨some 25, none, .v (.mv (.t 75))⟩,
               ⟨some 26, none, .v (.mv (.t 76))⟩] [1, 2, 3, 4, 6, 7, 8, 10, 11, 13, 15, 16, 17, 19, 20, 21, 22, 24, 26])
             (.seq
              (.seq
               (.reg 0 [
                 ⟨some 77, none, .v (.mv (.t 2))⟩,
                 ⟨some 78, none, .v (.icmp .neq .i64 (.t 77) (.c (.int .i64 0)))⟩,
                 ⟨some 79, none, .v (.mv (.t 78))⟩,
                 ⟨some 80, some (79, false), .v (.mv (.t 3))⟩,
                 ⟨some 81, some (79, false), .v (.icmp .neq .i64 (.t 80) (.c (.int .i64 0)))⟩,
                 ⟨some 82, none, .pick (.t 79) (.c (.bool true)) (.t 81)⟩,
                 ⟨some 83, none, .v (.mv (.t 82))⟩,
                 ⟨some 84, some (83, false), .v (.mv (.t 7))⟩,
                 ⟨some 85, some (83, false), .v (.icmp .neq .i64 (.t 84) (.c (.int .i64 100)))⟩,
                 ⟨some 86, none, .pick (.t 83) (.c (.bool true)) (.t 85)⟩,
                 ⟨some 87, none, .v (.mv (.t 86))⟩,
                 ⟨some 88, some (87, false), .v (.mv (.t 6))⟩,
                 ⟨some 89, some (87, false), .v (.icmp .neq .i64 (.t 88) (.c (.int .i64 0)))⟩,
                 ⟨some 90, none, .pick (.t 87) (.c (.bool true)) (.t 89)⟩,
                 ⟨some 91, none, .v (.mv (.t 90))⟩,
                 ⟨some 92, some (91, false), .v (.mv (.t 10))⟩,
                 ⟨some 93, some (91, false), .v (.icmp .neq .i64 (.t 92) (.c (.int .i64 0)))⟩,
                 ⟨some 94, none, .pick (.t 91) (.c (.bool true)) (.t 93)⟩,
                 ⟨some 95, none, .v (.mv (.t 94))⟩,
                 ⟨some 96, some (95, false), .v (.mv (.t 13))⟩,
                 ⟨some 97, some (95, false), .v (.icmp .neq .i64 (.t 96) (.c (.int .i64 0)))⟩,
                 ⟨some 98, none, .pick (.t 95) (.c (.bool true)) (.t 97)⟩,
                 ⟨some 99, none, .v (.mv (.t 98))⟩,
                 ⟨some 100, some (99, false), .v (.mv (.t 16))⟩,
                 ⟨some 101, some (99, false), .v (.icmp .neq .i64 (.t 100) (.c (.int .i64 100)))⟩,
                 ⟨some 102, none, .pick (.t 99) (.c (.bool true)) (.t 101)⟩,
                 ⟨some 103, none, .v (.mv (.t 102))⟩,
                 ⟨some 104, some (103, false), .v (.mv (.t 15))⟩,
                 ⟨some 105, some (103, false), .v (.icmp .neq .i64 (.t 104) (.c (.int .i64 2)))⟩,
                 ⟨some 106, none, .pick (.t 103) (.c (.bool true)) (.t 105)⟩,
                 ⟨some 107, none, .v (.mv (.t 106))⟩,
                 ⟨some 108, some (107, false), .v (.mv (.t 19))⟩,
                 ⟨some 109, some (107, false), .v (.icmp .neq .i64 (.t 108) (.c (.int .i64 0)))⟩,
                 ⟨some 110, none, .pick (.t 107) (.c (.bool true)) (.t 109)⟩,
                 ⟨some 111, none, .v (.mv (.t 110))⟩,
                 ⟨some 112, some (111, false), .v (.mv (.t 21))⟩,
                 ⟨some 113, some (111, false), .v (.icmp .neq .i64 (.t 112) (.c (.int .i64 0)))⟩,
                 ⟨some 114, none, .pick (.t 111) (.c (.bool true)) (.t 113)⟩,
                 ⟨some 115, none, .v (.mv (.t 114))⟩,
                 ⟨some 116, some (115, false), .v (.mv (.t 24))⟩,
                 ⟨some 117, some (115, false), .v (.icmp .neq .i64 (.t 116) (.c (.int .i64 0)))⟩,
                 ⟨some 118, none, .pick (.t 115) (.c (.bool true)) (.t 117)⟩,
                 ⟨some 119, none, .v (.mv (.t 118))⟩,
                 ⟨some 120, some (119, false), .v (.mv (.t 26))⟩,
                 ⟨some 121, some (119, false), .v (.icmp .neq .i64 (.t 120) (.c (.int .i64 100)))⟩,
                 ⟨some 122, none, .pick (.t 119) (.c (.bool true)) (.t 121)⟩,
                 ⟨some 123, none, .v (.mv (.t 122))⟩,
                 ⟨some 124, some (123, false), .v (.mv (.t 22))⟩,
                 ⟨some 125, some (123, false), .v (.len (.t 124))⟩,
                 ⟨some 126, some (123, false), .v (.icmp .neq .i64 (.t 125) (.c (.int .i64 0)))⟩,
                 ⟨some 127, none, .pick (.t 123) (.c (.bool true)) (.t 126)⟩] [1, 4, 8, 11, 17, 20, 127])
               (.cond (.t 127)
                (.seq
                 (.reg 0 [
                   ⟨some 0, none, .v (.mv (.c (.bool false)))⟩] [0])
                 .ret)
                .skip))
              (.seq
               (.reg 0 [
                 ⟨some 128, none, .v (.mv (.t 1))⟩,
                 ⟨some 129, none, .v (.mv (.t 4))⟩,
                 ⟨some 130, none, .call true (.c (.fn (.func 14) [] [])) [(.t 128), (.t 129)]⟩,
                 ⟨some 131, none, .v (.mv (.t 130))⟩,
                 ⟨some 132, some (131, true), .v (.mv (.t 8))⟩,
                 ⟨some 133, some (131, true), .v (.len (.t 132))⟩,
                 ⟨some 134, some (131, true), .v (.icmp .eql .i64 (.t 133) (.c (.int .i64 1)))⟩,
                 ⟨some 135, none, .pick (.t 131) (.t 134) (.c (.bool false))⟩,
                 ⟨some 136, none, .v (.mv (.t 135))⟩,
                 ⟨some 137, some (136, true), .v (.mv (.t 8))⟩,
                 ⟨some 138, some (136, true), .v (.ia 4 (.t 137) (.c (.int .i64 0)))⟩,
                 ⟨some 139, some (136, true), .v (.fa 2 (.t 138))⟩,
                 ⟨some 140, some (136, true), .v (.ld 1 false (.t 139))⟩,
                 ⟨some 141, some (136, true), .v (.icmp .eql .i64 (.t 140) (.c (.int .i64 1099511627776)))⟩,
                 ⟨some 142, none, .pick (.t 136) (.t 141) (.c (.bool false))⟩,
                 ⟨some 143, none, .v (.mv (.t 142))⟩,
                 ⟨some 144, some (143, true), .v (.mv (.t 11))⟩,
                 ⟨some 145, some (143, true), .v (.len (.t 144))⟩,
                 ⟨some 146, some (143, true), .v (.icmp .eql .i64 (.t 145) (.c (.int .i64 1)))⟩,
                 ⟨some 147, none, .pick (.t 143) (.t 146) (.c (.bool false))⟩,
                 ⟨some 148, none, .v (.mv (.t 147))⟩,
                 ⟨some 149, some (148, true), .v (.mv (.t 11))⟩,
                 ⟨some 150, some (148, true), .v (.ia 4 (.t 149) (.c (.int .i64 0)))⟩,
                 ⟨some 151, some (148, true), .v (.fa 1 (.t 150))⟩,
                 ⟨some 152, some (148, true), .v (.ld 1 false (.t 151))⟩,
                 ⟨some 153, some (148, true), .v (.scmp .eql (.t 152) (.c (.str [97])))⟩,
                 ⟨some 154, none, .pick (.t 148) (.t 153) (.c (.bool false))⟩,
                 ⟨some 155, none, .v (.mv (.t 154))⟩,
                 ⟨some 156, some (155, true), .v (.mv (.t 20))⟩,
                 ⟨some 157, some (155, true), .v (.scmp .eql (.t 156) (.c (.str [97, 32, 61, 32, 49])))⟩,
                 ⟨some 158, none, .pick (.t 155) (.t 157) (.c (.bool false))⟩,
                 ⟨some 159, none, .v (.mv (.t 158))⟩,
                 ⟨some 160, some (159, true), .call true (.c (.fn (.func 20) [] [])) [(.c (.str [66, 95, 49, 50]))]⟩,
                 ⟨some 161, none, .pick (.t 159) (.t 160) (.c (.bool false))⟩,
                 ⟨some 162, none, .v (.mv (.t 161))⟩,
                 ⟨some 163, some (162, true), .call true (.c (.fn (.func 20) [] [])) [(.c (.str [95, 49, 50]))]⟩,
                 ⟨some 164, some (162, true), .v (.not (.t 163))⟩,
                 ⟨some 165, none, .pick (.t 162) (.t 164) (.c (.bool false))⟩,
                 ⟨some 166, none, .v (.mv (.t 165))⟩,
                 ⟨some 167, some (166, true), .v (.mv (.t 11))⟩,
                 ⟨some 168, some (166, true), .v (.mv (.t 17))⟩,
                 ⟨some 169, some (166, true), .call true (.c (.fn (.func 18) [] [])) [(.t 167), (.t 168)]⟩,
                 ⟨some 170, some (166, true), .v (.not (.t 169))⟩,
                 ⟨some 171, none, .pick (.t 166) (.t 170) (.c (.bool false))⟩,
                 ⟨some 172, none, .v (.mv (.t 171))⟩,
                 ⟨some 173, some (172, true), .v (.mv (.t 11))⟩,
                 ⟨some 174, some (172, true), .v (.build [(.int .i64 0), (.str []), (.int .i64 0), (.int .i64 0)] [(0, 1, (.c (.int .i64 1))), (1, 1, (.c (.str [97]))), (3, 1, (.c (.int .i64 9)))])⟩,
                 ⟨some 175, some (172, true), .v (.bs 4 1 (.agg [(.int .i64 0), (.str []), (.int .i64 0), (.int .i64 0)]) [(0, (.t 174))])⟩,
                 ⟨some 176, some (172, true), .call true (.c (.fn (.func 18) [] [])) [(.t 173), (.t 175)]⟩,
                 ⟨some 177, none, .pick (.t 172) (.t 176) (.c (.bool false))⟩,
                 ⟨some 0, none, .v (.mv (.t 177))⟩] [0])
               .ret)))))))))))))
theorem l11 : Callable Tryd.prog 11 := ⟨Tryd.f11, by kernel_rfl, by kernel_rfl, by kernel_rfl⟩
theorem a11 {args : List AVal} {H : AHeap} {n : Nat} {R : AOut → AHeap → Nat → Prop} (h : awp Tryd.prog c11 (postC [.t 0] R) ⟨penv 0 args, H, n⟩) : ACalls Tryd.prog 11 args H n R :=
  acalls_of_awp' (fn := Tryd.f11) (c := Tryd.f11.body.getD .skip) (ac := c11) (fz := []) (im := []) (kp := kp11) (rs := [.t 0]) (by kernel_rfl) (by kernel_rfl) (by kernel_rfl) (by kernel_rfl) (by kernel_rfl) h

/-- gridwright/gridwrightlaw10.LexSpec -/
def kp3 (r : Nat) : List Nat := match r with
  | 0 => [0]
  | 1 => [0, 10]
  | 2 => [2]
  | 3 => [0, 13]
  | 4 => [2]
  | 5 => [0, 3, 4, 5]
  | 6 => [3, 4, 5, 6, 7, 8]
  | 7 => [2]
  | _ => []
def c3 : ACode :=
  (.seq
   (.reg 0 [
     ⟨some 2, none, .v (.mv (.c (.bool false)))⟩] [0])
   (.seq
    (.seq
     (.reg 0 [
       ⟨some 9, none, .call true (.c (.fn (.func 11) [] [])) []⟩,
       ⟨some 10, none, .v (.not (.t 9))⟩] [0, 10])
     (.cond (.t 10)
      (.seq
       (.reg 0 [
         ⟨some 2, none, .v (.mv (.c (.bool false)))⟩] [2])
       .ret)
      .skip))
    (.seq
     (.seq
      (.reg 0 [
        ⟨some 11, none, .v (.mv (.t 0))⟩,
        ⟨some 12, none, .v (.lenS (.t 11))⟩,
        ⟨some 13, none, .v (.icmp .gtr .i64 (.t 12) (.c (.int .i64 70000)))⟩] [0, 13])
      (.cond (.t 13)
       (.seq
        (.reg 0 [
          ⟨some 2, none, .v (.mv (.c (.bool true)))⟩] [2])
        .ret)
       .skip))
     (.seq
      (.reg 0 [
        ⟨some 15, none, .v (.mv (.t 0))⟩,
        ⟨some 16, none, .call true (.c (.fn (.func 12) [] [])) [(.t 15)]⟩,
        ⟨some 14, none, .v (.mv (.t 16))⟩,
        ⟨some 17, none, .v (.ext 0 (.t 14))⟩,
        ⟨some 18, none, .v (.ext 1 (.t 14))⟩,
        ⟨some 19, none, .v (.ext 2 (.t 14))⟩,
        ⟨some 3, none, .v (.mv (.t 17))⟩,
        ⟨some 4, none, .v (.mv (.t 18))⟩,
        ⟨some 5, none, .v (.mv (.t 19))⟩] [0, 3, 4, 5])
      (.seq
       (.reg 0 [
         ⟨some 21, none, .v (.mv (.t 0))⟩,
         ⟨some 22, none, .call true (.c (.fn (.func 13) [] [])) [(.t 21)]⟩,
         ⟨some 20, none, .v (.mv (.t 22))⟩,
         ⟨some 23, none, .v (.ext 0 (.t 20))⟩,
         ⟨some 24, none, .v (.ext 1 (.t 20))⟩,
         ⟨some 25, none, .v (.ext 2 (.t 20))⟩,
         ⟨some 6, none, .v (.mv (.t 23))⟩,
         ⟨some 7, none, .v (.mv (.t 24))⟩,
         ⟨some 8, none, .v (.mv (.t 25))⟩] [3, 4, 5, 6, 7, 8])
       (.seq
        (.reg 0 [
          ⟨some 26, none, .v (.mv (.t 3))⟩,
          ⟨some 27, none, .v (.mv (.t 6))⟩,
          ⟨some 28, none, .call true (.c (.fn (.func 14) [] [])) [(.t 26), (.t 27)]⟩,
          ⟨some 29, none, .v (.mv (.t 28))⟩,
          ⟨some 30, some (29, true), .v (.mv (.t 4))⟩,
          ⟨some 31, some (29, true), .v (.mv (.t 7))⟩,
          ⟨some 32, some (29, true), .v (.icmp .eql .i64 (.t 30) (.t 31))⟩,
          ⟨some 33, none, .pick (.t 29) (.t 32) (.c (.bool false))⟩,
          ⟨some 34, none, .v (.mv (.t 33))⟩,
          ⟨some 35, some (34, true), .v (.mv (.t 5))⟩,
          ⟨some 36, some (34, true), .v (.mv (.t 8))⟩,
          ⟨some 37, some (34, true), .v (.icmp .eql .i64 (.t 35) (.t 36))⟩,
          ⟨some 38, none, .pick (.t 34) (.t 37) (.c (.bool false))⟩,
          ⟨some 2, none, .v (.mv (.t 38))⟩] [2])
        .ret))))))
theorem l3 : Callable Tryd.prog 3 := ⟨Tryd.f3, by kernel_rfl, by kernel_rfl, by kernel_rfl⟩
theorem a3 {args : List AVal} {H : AHeap} {n : Nat} {R : AOut → AHeap → Nat → Prop} (h : awp Tryd.prog c3 (postC [.t 2] R) ⟨penv 0 args, H, n⟩) : ACalls Tryd.prog 3 args H n R :=
  acalls_of_awp' (fn := Tryd.f3) (c := Tryd.f3.body.getD .skip) (ac := c3) (fz := []) (im := []) (kp := kp3) (rs := [.t 2]) (by kernel_rfl) (by kernel_rfl) (by kernel_rfl) (by kernel_rfl) (by kernel_rfl) h

/-- gridwright/gridwrightlaw10.LexTextSpec -/
def kp4 (r : Nat) : List Nat := match r with
  | 0 => [0, 1, 2]
  | 1 => [0, 1, 2, 12]
  | 2 => [6]
  | 3 => [0, 1, 2, 25]
  | 4 => [6]
  | 5 => [0, 1, 2, 7, 8]
  | 6 => [0, 1, 2, 7, 8, 9, 10]
  | 7 => [6]
  | _ => []
def c4 : ACode :=
  (.seq
   (.reg 0 [
     ⟨some 6, none, .v (.mv (.c (.bool false)))⟩] [0, 1, 2])
   (.seq
    (.seq
     (.reg 0 [
       ⟨some 11, none, .call true (.c (.fn (.func 11) [] [])) []⟩,
       ⟨some 12, none, .v (.not (.t 11))⟩] [0, 1, 2, 12])
     (.cond (.t 12)
      (.seq
       (.reg 0 [
         ⟨some 6, none, .v (.mv (.c (.bool false)))⟩] [6])
       .ret)
      .skip))
    (.seq
     (.seq
      (.reg 0 [
        ⟨some 13, none, .v (.mv (.t 0))⟩,
        ⟨some 14, none, .call true (.c (.fn (.func 15) [] [])) [(.t 13)]⟩,
        ⟨some 15, none, .v (.not (.t 14))⟩,
        ⟨some 16, none, .v (.mv (.t 15))⟩,
        ⟨some 17, some (16, false), .v (.mv (.t 1))⟩,
        ⟨some 18, some (16, false), .call true (.c (.fn (.func 15) [] [])) [(.t 17)]⟩,
        ⟨some 19, some (16, false), .v (.not (.t 18))⟩,
        ⟨some 20, none, .pick (.t 16) (.c (.bool true)) (.t 19)⟩,
        ⟨some 21, none, .v (.mv (.t 20))⟩,
        ⟨some 22, some (21, false), .v (.mv (.t 2))⟩,
        ⟨some 23, some (21, false), .v (.lenS (.t 22))⟩,
        ⟨some 24, some (21, false), .v (.icmp .gtr .i64 (.t 23) (.c (.int .i64 1000)))⟩,
        ⟨some 25, none, .pick (.t 21) (.c (.bool true)) (.t 24)⟩] [0, 1, 2, 25])
      (.cond (.t 25)
       (.seq
        (.reg 0 [
          ⟨some 6, none, .v (.mv (.c (.bool true)))⟩] [6])
        .ret)
       .skip))
     (.seq
      (.reg 0 [
        ⟨some 27, none, .v (.mv (.t 0))⟩,
        ⟨some 28, none, .call true (.c (.fn (.func 16) [] [])) [(.t 27)]⟩,
        ⟨some 26, none, .v (.mv (.t 28))⟩,
        ⟨some 29, none, .v (.ext 0 (.t 26))⟩,
        ⟨some 30, none, .v (.ext 1 (.t 26))⟩,
        ⟨some 7, none, .v (.mv (.t 29))⟩,
        ⟨some 8, none, .v (.mv (.t 30))⟩] [0, 1, 2, 7, 8])
      (.seq
       (.reg 0 [
         ⟨some 32, none, .v (.mv (.t 0))⟩,
         ⟨some 33, none, .call true (.c (.fn (.func 17) [] [])) [(.t 32)]⟩,
         ⟨some 31, none, .v (.mv (.t 33))⟩,
         ⟨some 34, none, .v (.ext 0 (.t 31))⟩,
         ⟨some 35, none, .v (.ext 1 (.t 31))⟩,
         ⟨some 9, none, .v (.mv (.t 34))⟩,
         ⟨some 10, none, .v (.mv (.t 35))⟩] [0, 1, 2, 7, 8, 9, 10])
       (.seq
        (.reg 0 [
          ⟨some 36, none, .v (.mv (.t 7))⟩,
          ⟨some 37, none, .v (.mv (.t 9))⟩,
          ⟨some 38, none, .v (.scmp .eql (.t 36) (.t 37))⟩,
          ⟨some 39, none, .v (.mv (.t 38))⟩,
          ⟨some 40, some (39, true), .v (.mv (.t 8))⟩,
          ⟨some 41, some (39, true), .v (.mv (.t 10))⟩,
          ⟨some 42, some (39, true), .v (.icmp .eql .i64 (.t 40) (.t 41))⟩,
          ⟨some 43, none, .pick (.t 39) (.t 42) (.c (.bool false))⟩,
          ⟨some 44, none, .v (.mv (.t 43))⟩,
          ⟨some 45, some (44, true), .v (.mv (.t 0))⟩,
          ⟨some 46, some (44, true), .v (.mv (.t 1))⟩,
          ⟨some 47, some (44, true), .call true (.c (.fn (.func 18) [] [])) [(.t 45), (.t 46)]⟩,
          ⟨some 48, some (44, true), .v (.mv (.t 0))⟩,
          ⟨some 49, some (44, true), .v (.mv (.t 1))⟩,
          ⟨some 50, some (44, true), .call true (.c (.fn (.func 19) [] [])) [(.t 48), (.t 49)]⟩,
          ⟨some 51, some (44, true), .v (.beq false (.t 47) (.t 50))⟩,
          ⟨some 52, none, .pick (.t 44) (.t 51) (.c (.bool false))⟩,
          ⟨some 53, none, .v (.mv (.t 52))⟩,
          ⟨some 54, some (53, true), .v (.mv (.t 0))⟩,
          ⟨some 55, some (53, true), .v (.mv (.t 0))⟩,
          ⟨some 56, some (53, true), .call true (.c (.fn (.func 18) [] [])) [(.t 54), (.t 55)]⟩,
          ⟨some 57, none, .pick (.t 53) (.t 56) (.c (.bool false))⟩,
          ⟨some 58, none, .v (.mv (.t 57))⟩,
          ⟨some 59, some (58, true), .v (.mv (.t 2))⟩,
          ⟨some 60, some (58, true), .call true (.c (.fn (.func 20) [] [])) [(.t 59)]⟩,
          ⟨some 61, some (58, true), .v (.mv (.t 2))⟩,
          ⟨some 62, some (58, true), .call true (.c (.fn (.func 21) [] [])) [(.t 61)]⟩,
          ⟨some 63, some (58, true), .v (.beq false (.t 60) (.t 62))⟩,
          ⟨some 64, none, .pick (.t 58) (.t 63) (.c (.bool false))⟩,
          ⟨some 6, none, .v (.mv (.t 64))⟩] [6])
        .ret))))))
theorem l4 : Callable Tryd.prog 4 := ⟨Tryd.f4, by kernel_rfl, by kernel_rfl, by kernel_rfl⟩
theorem a4 {args : List AVal} {H : AHeap} {n : Nat} {R : AOut → AHeap → Nat → Prop} (h : awp Tryd.prog c4 (postC [.t 6] R) ⟨penv 0 args, H, n⟩) : ACalls Tryd.prog 4 args H n R :=
  acalls_of_awp' (fn := Tryd.f4) (c := Tryd.f4.body.getD .skip) (ac := c4) (fz := []) (im := []) (kp := kp4) (rs := [.t 6]) (by kernel_rfl) (by kernel_rfl) (by kernel_rfl) (by kernel_rfl) (by kernel_rfl) h

/-- gridwright/gridwrightlaw10.LexBack -/
def kp5 (r : Nat) : List Nat := match r with
  | 0 => [0, 1]
  | 1 => [0, 1, 19]
  | 2 => [4]
  | 3 => [0, 1, 27]
  | 4 => [4]
  | 5 => [0, 1, 5, 6]
  | 6 => [0, 1, 5, 34]
  | 7 => [0, 1, 7, 8, 9]
  | 8 => [1, 52]
  | 9 => [4]
  | 10 => [10, 12]
  | 11 => [10, 60]
  | 12 => [4]
  | 13 => [10, 13, 14]
  | 14 => [10, 14, 15, 17]
  | 15 => [4]
  | _ => []
def c5 : ACode :=
  (.seq
   (.reg 0 [
     ⟨some 4, none, .v (.mv (.c (.bool false)))⟩] [0, 1])
   (.seq
    (.seq
     (.reg 0 [
       ⟨some 18, none, .call true (.c (.fn (.func 11) [] [])) []⟩,
       ⟨some 19, none, .v (.not (.t 18))⟩] [0, 1, 19])
     (.cond (.t 19)
      (.seq
       (.reg 0 [
         ⟨some 4, none, .v (.mv (.c (.bool false)))⟩] [4])
       .ret)
      .skip))
    (.seq
     (.seq
      (.reg 0 [
        ⟨some 20, none, .v (.mv (.t 0))⟩,
        ⟨some 21, none, .call true (.c (.fn (.func 15) [] [])) [(.t 20)]⟩,
        ⟨some 22, none, .v (.not (.t 21))⟩,
        ⟨some 23, none, .v (.mv (.t 22))⟩,
        ⟨some 24, some (23, false), .v (.mv (.t 1))⟩,
        ⟨some 25, some (23, false), .v (.lenS (.t 24))⟩,
        ⟨some 26, some (23, false), .v (.icmp .gtr .i64 (.t 25) (.c (.int .i64 3000)))⟩,
        ⟨some 27, none, .pick (.t 23) (.c (.bool true)) (.t 26)⟩] [0, 1, 27])
      (.cond (.t 27)
       (.seq
        (.reg 0 [
          ⟨some 4, none, .v (.mv (.c (.bool true)))⟩] [4])
        .ret)
       .skip))
     (.seq
      (.reg 0 [
        ⟨some 29, none, .v (.mv (.t 0))⟩,
        ⟨some 30, none, .call true (.c (.fn (.func 16) [] [])) [(.t 29)]⟩,
        ⟨some 28, none, .v (.mv (.t 30))⟩,
        ⟨some 31, none, .v (.ext 0 (.t 28))⟩,
        ⟨some 32, none, .v (.ext 1 (.t 28))⟩,
        ⟨some 5, none, .v (.mv (.t 31))⟩,
        ⟨some 6, none, .v (.mv (.t 32))⟩] [0, 1, 5, 6])
      (.seq
       (.seq
        (.reg 0 [
          ⟨some 33, none, .v (.mv (.t 6))⟩,
          ⟨some 34, none, .v (.icmp .eql .i64 (.t 33) (.c (.int .i64 0)))⟩] [0, 1, 5, 34])
        (.cond (.t 34)
         (.seq
          (.reg 0 [
            ⟨some 36, none, .v (.mv (.t 5))⟩,
            ⟨some 37, none, .call true (.c (.fn (.func 12) [] [])) [(.t 36)]⟩,
            ⟨some 35, none, .v (.mv (.t 37))⟩,
            ⟨some 38, none, .v (.ext 0 (.t 35))⟩,
            ⟨some 39, none, .v (.ext 1 (.t 35))⟩,
            ⟨some 40, none, .v (.ext 2 (.t 35))⟩,
            ⟨some 7, none, .v (.mv (.t 38))⟩,
            ⟨some 8, none, .v (.mv (.t 39))⟩,
            ⟨some 9, none, .v (.mv (.t 40))⟩] [0, 1, 7, 8, 9])
          (.seq
           (.reg 0 [
             ⟨some 41, none, .v (.mv (.t 9))⟩,
             ⟨some 42, none, .v (.icmp .neq .i64 (.t 41) (.c (.int .i64 0)))⟩,
             ⟨some 43, none, .v (.mv (.t 42))⟩,
             ⟨some 44, some (43, false), .v (.mv (.t 8))⟩,
             ⟨some 45, some (43, false), .v (.icmp .neq .i64 (.t 44) (.c (.int .i64 0)))⟩,
             ⟨some 46, none, .pick (.t 43) (.c (.bool true)) (.t 45)⟩,
             ⟨some 47, none, .v (.mv (.t 46))⟩,
             ⟨some 48, some (47, false), .v (.mv (.t 0))⟩,
             ⟨some 49, some (47, false), .v (.mv (.t 7))⟩,
             ⟨some 50, some (47, false), .call true (.c (.fn (.func 18) [] [])) [(.t 48), (.t 49)]⟩,
             ⟨some 51, some (47, false), .v (.not (.t 50))⟩,
             ⟨some 52, none, .pick (.t 47) (.c (.bool true)) (.t 51)⟩] [1, 52])
           (.cond (.t 52)
            (.seq
             (.reg 0 [
               ⟨some 4, none, .v (.mv (.c (.bool false)))⟩] [4])
             .ret)
            .skip)))
         .skip))
       (.seq
        (.reg 0 [
          ⟨some 54, none, .v (.mv (.t 1))⟩,
          ⟨some 55, none, .call true (.c (.fn (.func 12) [] [])) [(.t 54)]⟩,
          ⟨some 53, none, .v (.mv (.t 55))⟩,
          ⟨some 56, none, .v (.ext 0 (.t 53))⟩,
          ⟨some 57, none, .v (.ext 1 (.t 53))⟩,
          ⟨some 58, none, .v (.ext 2 (.t 53))⟩,
          ⟨some 10, none, .v (.mv (.t 56))⟩,
          ⟨some 11, none, .v (.mv (.t 57))⟩,
          ⟨some 12, none, .v (.mv (.t 58))⟩] [10, 12])
        (.seq
         (.seq
          (.reg 0 [
            ⟨some 59, none, .v (.mv (.t 12))⟩,
            ⟨some 60, none, .v (.icmp .neq .i64 (.t 59) (.c (.int .i64 0)))⟩] [10, 60])
          (.cond (.t 60)
           (.seq
            (.reg 0 [
              ⟨some 61, none, .v (.mv (.t 10))⟩,
              ⟨some 62, none, .v (.len (.t 61))⟩,
              ⟨some 63, none, .v (.icmp .eql .i64 (.t 62) (.c (.int .i64 0)))⟩,
              ⟨some 4, none, .v (.mv (.t 63))⟩] [4])
            .ret)
           .skip))
         (.seq
          (.reg 0 [
            ⟨some 65, none, .v (.mv (.t 10))⟩,
            ⟨some 66, none, .call true (.c (.fn (.func 16) [] [])) [(.t 65)]⟩,
            ⟨some 64, none, .v (.mv (.t 66))⟩,
            ⟨some 67, none, .v (.ext 0 (.t 64))⟩,
            ⟨some 68, none, .v (.ext 1 (.t 64))⟩,
            ⟨some 13, none, .v (.mv (.t 67))⟩,
            ⟨some 14, none, .v (.mv (.t 68))⟩] [10, 13, 14])
          (.seq
           (.reg 0 [
             ⟨some 70, none, .v (.mv (.t 13))⟩,
             ⟨some 71, none, .call true (.c (.fn (.func 12) [] [])) [(.t 70)]⟩,
             ⟨some 69, none, .v (.mv (.t 71))⟩,
             ⟨some 72, none, .v (.ext 0 (.t 69))⟩,
             ⟨some 73, none, .v (.ext 1 (.t 69))⟩,
             ⟨some 74, none, .v (.ext 2 (.t 69))⟩,
             ⟨some 15, none, .v (.mv (.t 72))⟩,
             ⟨some 16, none, .v (.mv (.t 73))⟩,
             ⟨some 17, none, .v (.mv (.t 74))⟩] [10, 14, 15, 17])
           (.seq
            (.reg 0 [
              ⟨some 75, none, .v (.mv (.t 14))⟩,
              ⟨some 76, none, .v (.icmp .eql .i64 (.t 75) (.c (.int .i64 0)))⟩,
              ⟨some 77, none, .v (.mv (.t 76))⟩,
              ⟨some 78, some (77, true), .v (.mv (.t 17))⟩,
              ⟨some 79, some (77, true), .v (.icmp .eql .i64 (.t 78) (.c (.int .i64 0)))⟩,
              ⟨some 80, none, .pick (.t 77) (.t 79) (.c (.bool false))⟩,
              ⟨some 81, none, .v (.mv (.t 80))⟩,
              ⟨some 82, some (81, true), .v (.mv (.t 10))⟩,
              ⟨some 83, some (81, true), .v (.mv (.t 15))⟩,
              ⟨some 84, some (81, true), .call true (.c (.fn (.func 18) [] [])) [(.t 82), (.t 83)]⟩,
              ⟨some 85, none, .pick (.t 81) (.t 84) (.c (.bool false))⟩,
              ⟨some 4, none, .v (.mv (.t 85))⟩] [4])
            .ret))))))))))
theorem l5 : Callable Tryd.prog 5 := ⟨Tryd.f5, by kernel_rfl, by kernel_rfl, by kernel_rfl⟩
theorem a5 {args : List AVal} {H : AHeap} {n : Nat} {R : AOut → AHeap → Nat → Prop} (h : awp Tryd.prog c5 (postC [.t 4] R) ⟨penv 0 args, H, n⟩) : ACalls Tryd.prog 5 args H n R :=
  acalls_of_awp' (fn := Tryd.f5) (c := Tryd.f5.body.getD .skip) (ac := c5) (fz := []) (im := []) (kp := kp5) (rs := [.t 4]) (by kernel_rfl) (by kernel_rfl) (by kernel_rfl) (by kernel_rfl) (by kernel_rfl) h

/-- gridwright/gridwrightlaw10.LexPlaces -/
def kp6 (r : Nat) : List Nat := match r with
  | 0 => [0]
  | 1 => [0, 12]
  | 2 => [2]
  | 3 => [0, 15]
  | 4 => [2]
  | 5 => [0, 3, 5]
  | 6 => [0, 3, 23]
  | 7 => [2]
  | 8 => [0, 3, 6]
  | 9 => [0, 3, 6, 7]
  | 10 => [0, 3, 6, 7, 30]
  | 12 => [0, 3, 6, 7, 8]
  | 13 => [0, 3, 6, 7, 8, 38]
  | 14 => [0, 3, 6, 7, 8]
  | 15 => [0, 3, 6, 7, 8, 52]
  | 16 => [2]
  | 17 => [0, 3, 6, 7, 8, 9]
  | 18 => [0, 3, 6, 7, 8, 9, 55]
  | 20 => [0, 3, 6, 7, 8, 9]
  | 21 => [0, 3, 6, 7, 8, 9, 92]
  | 22 => [2]
  | 19 => [0, 3, 6, 7, 8, 9]
  | 23 => [0, 3, 6, 7, 9, 96]
  | 24 => [0, 3, 6, 7, 9, 10]
  | 25 => [0, 3, 6, 7, 10, 127]
  | 26 => [2]
  | 27 => [0, 3, 6, 7]
  | 11 => [0, 3, 6, 7]
  | 28 => [2]
  | _ => []
def c6 : ACode :=
  (.seq
   (.reg 0 [
     ⟨some 2, none, .v (.mv (.c (.bool false)))⟩] [0])
   (.seq
    (.seq
     (.reg 0 [
       ⟨some 11, none, .call true (.c (.fn (.func 11) [] [])) []⟩,
       ⟨some 12, none, .v (.not (.t 11))⟩] [0, 12])
     (.cond (.t 12)
      (.seq
       (.reg 0 [
         ⟨some 2, none, .v (.mv (.c (.bool false)))⟩] [2])
       .ret)
      .skip))
    (.seq
     (.seq
      (.reg 0 [
        ⟨some 13, none, .v (.mv (.t 0))⟩,
        ⟨some 14, none, .v (.lenS (.t 13))⟩,
        ⟨some 15, none, .v (.icmp .gtr .i64 (.t 14) (.c (.int .i64 3000)))⟩] [0, 15])
      (.cond (.t 15)
       (.seq
        (.reg 0 [
          ⟨some 2, none, .v (.mv (.c (.bool true)))⟩] [2])
        .ret)
       .skip))
     (.seq
      (.reg 0 [
        ⟨some 17, none, .v (.mv (.t 0))⟩,
        ⟨some 18, none, .call true (.c (.fn (.func 12) [] [])) [(.t 17)]⟩,
        ⟨some 16, none, .v (.mv (.t 18))⟩,
        ⟨some 19, none, .v (.ext 0 (.t 16))⟩,
        ⟨some 20, none, .v (.ext 1 (.t 16))⟩,
        ⟨some 21, none, .v (.ext 2 (.t 16))⟩,
        ⟨some 3, none, .v (.mv (.t 19))⟩,
        ⟨some 4, none, .v (.mv (.t 20))⟩,
        ⟨some 5, none, .v (.mv (.t 21))⟩] [0, 3, 5])
      (.seq
       (.seq
        (.reg 0 [
          ⟨some 22, none, .v (.mv (.t 5))⟩,
          ⟨some 23, none, .v (.icmp .neq .i64 (.t 22) (.c (.int .i64 0)))⟩] [0, 3, 23])
        (.cond (.t 23)
         (.seq
          (.reg 0 [
            ⟨some 24, none, .v (.mv (.t 3))⟩,
            ⟨some 25, none, .v (.len (.t 24))⟩,
            ⟨some 26, none, .v (.icmp .eql .i64 (.t 25) (.c (.int .i64 0)))⟩,
            ⟨some 2, none, .v (.mv (.t 26))⟩] [2])
          .ret)
         .skip))
       (.seq
        (.reg 0 [
          ⟨some 6, none, .v (.mv (.c (.int .i64 0)))⟩] [0, 3, 6])
        (.seq
         (.seq
          (.reg 0 [
            ⟨some 7, none, .v (.mv (.c (.int .i64 0)))⟩] [0, 3, 6, 7])
          (.block 0
           (.loop
            (.seq
             (.seq
              (.reg 0 [
                ⟨some 27, none, .v (.mv (.t 7))⟩,
                ⟨some 28, none, .v (.mv (.t 3))⟩,
                ⟨some 29, none, .v (.len (.t 28))⟩,
                ⟨some 30, none, .v (.icmp .leq .i64 (.t 27) (.t 29))⟩] [0, 3, 6, 7, 30])
              (.cond (.t 30)
               .skip
               (.exit 0)))
             (.seq
              (.block 1
               (.seq
                (.reg 0 [
                  ⟨some 33, none, .v (.mv (.t 0))⟩,
                  ⟨some 34, none, .v (.lenS (.t 33))⟩,
                  ⟨some 8, none, .v (.mv (.t 34))⟩] [0, 3, 6, 7, 8])
                (.seq
                 (.seq
                  (.reg 0 [
                    ⟨some 35, none, .v (.mv (.t 7))⟩,
                    ⟨some 36, none, .v (.mv (.t 3))⟩,
                    ⟨some 37, none, .v (.len (.t 36))⟩,
                    ⟨some 38, none, .v (.icmp .lss .i64 (.t 35) (.t 37))⟩] [0, 3, 6, 7, 8, 38])
                  (.cond (.t 38)
                   (.reg 0 [
                     ⟨some 39, none, .v (.mv (.t 3))⟩,
                     ⟨some 40, none, .v (.mv (.t 7))⟩,
                     ⟨some 41, none, .v (.ia 4 (.t 39) (.t 40))⟩,
                     ⟨some 42, none, .v (.fa 3 (.t 41))⟩,
                     ⟨some 43, none, .v (.ld 1 false (.t 42))⟩,
                     ⟨some 8, none, .v (.mv (.t 43))⟩] [0, 3, 6, 7, 8])
                   .skip))
                 (.seq
                  (.seq
                   (.reg 0 [
                     ⟨some 44, none, .v (.mv (.t 8))⟩,
                     ⟨some 45, none, .v (.mv (.t 6))⟩,
                     ⟨some 46, none, .v (.icmp .lss .i64 (.t 44) (.t 45))⟩,
                     ⟨some 47, none, .v (.mv (.t 46))⟩,
                     ⟨some 48, some (47, false), .v (.mv (.t 8))⟩,
                     ⟨some 49, some (47, false), .v (.mv (.t 0))⟩,
                     ⟨some 50, some (47, false), .v (.lenS (.t 49))⟩,
                     ⟨some 51, some (47, false), .v (.icmp .gtr .i64 (.t 48) (.t 50))⟩,
                     ⟨some 52, none, .pick (.t 47) (.c (.bool true)) (.t 51)⟩] [0, 3, 6, 7, 8, 52])
                   (.cond (.t 52)
                    (.seq
                     (.reg 0 [
                       ⟨some 2, none, .v (.mv (.c (.bool false)))⟩] [2])
                     .ret)
                    .skip))
                  (.seq
                   (.reg 0 [
                     ⟨some 9, none, .v (.mv (.c (.bool false)))⟩] [0, 3, 6, 7, 8, 9])
                   (.seq
                    (.block 2
                     (.loop
                      (.seq
                       (.seq
                        (.reg 0 [
                          ⟨some 53, none, .v (.mv (.t 6))⟩,
                          ⟨some 54, none, .v (.mv (.t 8))⟩,
                          ⟨some 55, none, .v (.icmp .lss .i64 (.t 53) (.t 54))⟩] [0, 3, 6, 7, 8, 9, 55])
                        (.cond (.t 55)
                         .skip
                         (.exit 2)))
                       (.seq
                        (.block 3
                         (.seq
                          (.reg 0 [
                            ⟨some 58, none, .v (.mv (.t 0))⟩,
                            ⟨some 59, none, .v (.mv (.t 6))⟩,
                            ⟨some 60, none, .v (.ixS (.t 58) (.t 59))⟩,
                            ⟨some 61, none, .v (.icmp .neq .u8 (.t 60) (.c (.int .u8 10)))⟩,
                            ⟨some 62, none, .v (.mv (.t 61))⟩,
                            ⟨some 63, some (62, true), .v (.mv (.t 9))⟩,
                            ⟨some 64, some (62, true), .v (.mv (.t 63))⟩,
                            ⟨some 65, some (64, false), .v (.mv (.t 0))⟩,
                            ⟨some 66, some (64, false), .v (.mv (.t 6))⟩,
                            ⟨some 67, some (64, false), .v (.ixS (.t 65) (.t 66))⟩,
                            ⟨some 68, some (64, false), .v (.icmp .eql .u8 (.t 67) (.c (.int .u8 47)))⟩,
                            ⟨some 69, some (64, false), .v (.mv (.t 68))⟩,
                            ⟨some 70, some (69, true), .v (.mv (.t 6))⟩,
                            ⟨some 71, some (69, true), .v (.arith .add .i64 (.t 70) (.c (.int .i64 1)))⟩,
                            ⟨some 72, some (69, true), .v (.mv (.t 8))⟩,
                            ⟨some 73, some (69, true), .v (.icmp .lss .i64 (.t 71) (.t 72))⟩,
                            ⟨some 74, some (64, false), .pick (.t 69) (.t 73) (.c (.bool false))⟩,
                            ⟨some 75, some (64, false), .v (.mv (.t 74))⟩,
                            ⟨some 76, some (75, true), .v (.mv (.t 0))⟩,
                            ⟨some 77, some (75, true), .v (.mv (.t 6))⟩,
                            ⟨some 78, some (75, true), .v (.arith .add .i64 (.t 77) (.c (.int .i64 1)))⟩,
                            ⟨some 79, some (75, true), .v (.ixS (.t 76) (.t 78))⟩,
                            ⟨some 80, some (75, true), .v (.icmp .eql .u8 (.t 79) (.c (.int .u8 47)))⟩,
                            ⟨some 81, some (64, false), .pick (.t 75) (.t 80) (.c (.bool false))⟩,
                            ⟨some 82, some (62, true), .pick (.t 64) (.c (.bool true)) (.t 81)⟩,
                            ⟨some 83, none, .pick (.t 62) (.t 82) (.c (.bool false))⟩,
                            ⟨some 9, none, .v (.mv (.t 83))⟩] [0, 3, 6, 7, 8, 9])
                          (.seq
                           (.reg 0 [
                             ⟨some 84, none, .v (.mv (.t 9))⟩,
                             ⟨some 85, none, .v (.not (.t 84))⟩,
                             ⟨some 86, none, .v (.mv (.t 85))⟩,
                             ⟨some 87, some (86, true), .v (.mv (.t 0))⟩,
                             ⟨some 88, some (86, true), .v (.mv (.t 6))⟩,
                             ⟨some 89, some (86, true), .v (.ixS (.t 87) (.t 88))⟩,
                             ⟨some 90, some (86, true), .call true (.c (.fn (.func 22) [] [])) [(.t 89)]⟩,
                             ⟨some 91, some (86, true), .v (.not (.t 90))⟩,
                             ⟨some 92, none, .pick (.t 86) (.t 91) (.c (.bool false))⟩] [0, 3, 6, 7, 8, 9, 92])
                           (.cond (.t 92)
                            (.seq
                             (.reg 0 [
                               ⟨some 2, none, .v (.mv (.c (.bool false)))⟩] [2])
                             .ret)
                            .skip))))
                        (.reg 0 [
                          ⟨some 56, none, .v (.mv (.t 6))⟩,
                          ⟨some 57, none, .v (.arith .add .i64 (.t 56) (.c (.int .i64 1)))⟩,
                          ⟨some 6, none, .v (.mv (.t 57))⟩] [0, 3, 6, 7, 8, 9])))))
                    (.seq
                     (.seq
                      (.reg 0 [
                        ⟨some 93, none, .v (.mv (.t 7))⟩,
                        ⟨some 94, none, .v (.mv (.t 3))⟩,
                        ⟨some 95, none, .v (.len (.t 94))⟩,
                        ⟨some 96, none, .v (.icmp .eql .i64 (.t 93) (.t 95))⟩] [0, 3, 6, 7, 9, 96])
                      (.cond (.t 96)
                       (.exit 0)
                       .skip))
                     (.seq
                      (.reg 0 [
                        ⟨some 97, none, .v (.mv (.t 3))⟩,
                        ⟨some 98, none, .v (.mv (.t 7))⟩,
                        ⟨some 99, none, .v (.ia 4 (.t 97) (.t 98))⟩,
                        ⟨some 100, none, .v (.ld 4 true (.t 99))⟩,
                        ⟨some 101, none, .call true (.c (.fn (.func 23) [] [])) [(.t 100)]⟩,
                        ⟨some 10, none, .v (.mv (.t 101))⟩] [0, 3, 6, 7, 9, 10])
                      (.seq
                       (.seq
                        (.reg 0 [
                          ⟨some 102, none, .v (.mv (.t 9))⟩,
                          ⟨some 103, none, .v (.mv (.t 102))⟩,
                          ⟨some 104, some (103, false), .v (.mv (.t 10))⟩,
                          ⟨some 105, some (103, false), .v (.lenS (.t 104))⟩,
                          ⟨some 106, some (103, false), .v (.icmp .eql .i64 (.t 105) (.c (.int .i64 0)))⟩,
                          ⟨some 107, none, .pick (.t 103) (.c (.bool true)) (.t 106)⟩,
                          ⟨some 108, none, .v (.mv (.t 107))⟩,
                          ⟨some 109, some (108, false), .v (.mv (.t 6))⟩,
                          ⟨some 110, some (108, false), .v (.mv (.t 10))⟩,
                          ⟨some 111, some (108, false), .v (.lenS (.t 110))⟩,
                          ⟨some 112, some (108, false), .v (.arith .add .i64 (.t 109) (.t 111))⟩,
                          ⟨some 113, some (108, false), .v (.mv (.t 0))⟩,
                          ⟨some 114, some (108, false), .v (.lenS (.t 113))⟩,
                          ⟨some 115, some (108, false), .v (.icmp .gtr .i64 (.t 112) (.t 114))⟩,
                          ⟨some 116, none, .pick (.t 108) (.c (.bool true)) (.t 115)⟩,
                          ⟨some 117, none, .v (.mv (.t 116))⟩,
                          ⟨some 118, some (117, false), .v (.mv (.t 0))⟩,
                          ⟨some 119, some (117, false), .v (.mv (.t 6))⟩,
                          ⟨some 120, some (117, false), .v (.mv (.t 6))⟩,
                          ⟨some 121, some (117, false), .v (.mv (.t 10))⟩,
                          ⟨some 122, some (117, false), .v (.lenS (.t 121))⟩,
                          ⟨some 123, some (117, false), .v (.arith .add .i64 (.t 120) (.t 122))⟩,
                          ⟨some 124, some (117, false), .v (.slS (.t 118) (some (.t 119)) (some (.t 123)))⟩,
                          ⟨some 125, some (117, false), .v (.mv (.t 10))⟩,
                          ⟨some 126, some (117, false), .v (.scmp .neq (.t 124) (.t 125))⟩,
                          ⟨some 127, none, .pick (.t 117) (.c (.bool true)) (.t 126)⟩] [0, 3, 6, 7, 10, 127])
                        (.cond (.t 127)
                         (.seq
                          (.reg 0 [
                            ⟨some 2, none, .v (.mv (.c (.bool false)))⟩] [2])
                          .ret)
                         .skip))
                       (.reg 0 [
                         ⟨some 128, none, .v (.mv (.t 6))⟩,
                         ⟨some 129, none, .v (.mv (.t 10))⟩,
                         ⟨some 130, none, .v (.lenS (.t 129))⟩,
                         ⟨some 131, none, .v (.arith .add .i64 (.t 128) (.t 130))⟩,
                         ⟨some 6, none, .v (.mv (.t 131))⟩] [0, 3, 6, 7]))))))))))
              (.reg 0 [
                ⟨some 31, none, .v (.mv (.t 7))⟩,
                ⟨some 32, none, .v (.arith .add .i64 (.t 31) (.c (.int .i64 1)))⟩,
                ⟨some 7, none, .v (.mv (.t 32))⟩] [0, 3, 6, 7]))))))
         (.seq
          (.reg 0 [
            ⟨some 2, none, .v (.mv (.c (.bool true)))⟩] [2])
          .ret))))))))
theorem l6 : Callable Tryd.prog 6 := ⟨Tryd.f6, by kernel_rfl, by kernel_rfl, by kernel_rfl⟩
theorem a6 {args : List AVal} {H : AHeap} {n : Nat} {R : AOut → AHeap → Nat → Prop} (h : awp Tryd.prog c6 (postC [.t 2] R) ⟨penv 0 args, H, n⟩) : ACalls Tryd.prog 6 args H n R :=
  acalls_of_awp' (fn := Tryd.f6) (c := Tryd.f6.body.getD .skip) (ac := c6) (fz := []) (im := []) (kp := kp6) (rs := [.t 2]) (by kernel_rfl) (by kernel_rfl) (by kernel_rfl) (by kernel_rfl) (by kernel_rfl) h

/-- gridwright/gridwrightlaw10.LexJoined -/
def kp7 (r : Nat) : List Nat := match r with
  | 0 => [0, 1]
  | 1 => [0, 1, 18]
  | 2 => [4]
  | 3 => [0, 1, 24]
  | 4 => [4]
  | 5 => [0, 1, 5, 6, 7]
  | 6 => [0, 1, 5, 6, 7, 8, 9, 10]
  | 7 => [0, 5, 6, 7, 8, 9, 10, 11, 12, 13]
  | 8 => [0, 5, 6, 7, 8, 9, 10, 11, 12, 13, 46]
  | 9 => [4]
  | 10 => [0, 5, 8, 9, 10, 11, 12, 13, 62]
  | 11 => [4]
  | 12 => [0, 8, 11, 12, 13, 14]
  | 13 => [0, 11, 12, 13, 14, 85, 86, 87]
  | 14 => [0, 11, 12, 13, 14, 85, 86, 87, 88]
  | 15 => [0, 11, 12, 13, 14, 16, 85, 86, 87]
  | 16 => [0, 11, 12, 13, 14, 16, 85, 86, 87]
  | 17 => [0, 11, 12, 13, 14, 85, 86, 87]
  | 18 => [0, 11, 12, 13, 14, 85, 86, 87]
  | 19 => [4]
  | _ => []
def c7 : ACode :=
  (.seq
   (.reg 0 [
     ⟨some 4, none, .v (.mv (.c (.bool false)))⟩] [0, 1])
   (.seq
    (.seq
     (.reg 0 [
       ⟨some 17, none, .call true (.c (.fn (.func 11) [] [])) []⟩,
       ⟨some 18, none, .v (.not (.t 17))⟩] [0, 1, 18])
     (.cond (.t 18)
      (.seq
       (.reg 0 [
         ⟨some 4, none, .v (.mv (.c (.bool false)))⟩] [4])
       .ret)
      .skip))
    (.seq
     (.seq
      (.reg 0 [
        ⟨some 19, none, .v (.mv (.t 0))⟩,
        ⟨some 20, none, .v (.lenS (.t 19))⟩,
        ⟨some 21, none, .v (.mv (.t 1))⟩,
        ⟨some 22, none, .v (.lenS (.t 21))⟩,
        ⟨some 23, none, .v (.arith .add .i64 (.t 20) (.t 22))⟩,
        ⟨some 24, none, .v (.icmp .gtr .i64 (.t 23) (.c (.int .i64 3000)))⟩] [0, 1, 24])
      (.cond (.t 24)
       (.seq
        (.reg 0 [
          ⟨some 4, none, .v (.mv (.c (.bool true)))⟩] [4])
        .ret)
       .skip))
     (.seq
      (.reg 0 [
        ⟨some 26, none, .v (.mv (.t 0))⟩,
        ⟨some 27, none, .call true (.c (.fn (.func 12) [] [])) [(.t 26)]⟩,
        ⟨some 25, none, .v (.mv (.t 27))⟩,
        ⟨some 28, none, .v (.ext 0 (.t 25))⟩,
        ⟨some 29, none, .v (.ext 1 (.t 25))⟩,
        ⟨some 30, none, .v (.ext 2 (.t 25))⟩,
        ⟨some 5, none, .v (.mv (.t 28))⟩,
        ⟨some 6, none, .v (.mv (.t 29))⟩,
        ⟨some 7, none, .v (.mv (.t 30))⟩] [0, 1, 5, 6, 7])
      (.seq
       (.reg 0 [
         ⟨some 32, none, .v (.mv (.t 1))⟩,
         ⟨some 33, none, .call true (.c (.fn (.func 12) [] [])) [(.t 32)]⟩,
         ⟨some 31, none, .v (.mv (.t 33))⟩,
         ⟨some 34, none, .v (.ext 0 (.t 31))⟩,
         ⟨some 35, none, .v (.ext 1 (.t 31))⟩,
         ⟨some 36, none, .v (.ext 2 (.t 31))⟩,
         ⟨some 8, none, .v (.mv (.t 34))⟩,
         ⟨some 9, none, .v (.mv (.t 35))⟩,
         ⟨some 10, none, .v (.mv (.t 36))⟩] [0, 1, 5, 6, 7, 8, 9, 10])
       (.seq
        (.reg 0 [
          ⟨some 38, none, .v (.mv (.t 0))⟩,
          ⟨some 39, none, .v (.sadd (.t 38) (.c (.str [10])))⟩,
          ⟨some 40, none, .v (.mv (.t 1))⟩,
          ⟨some 41, none, .v (.sadd (.t 39) (.t 40))⟩,
          ⟨some 42, none, .call true (.c (.fn (.func 12) [] [])) [(.t 41)]⟩,
          ⟨some 37, none, .v (.mv (.t 42))⟩,
          ⟨some 43, none, .v (.ext 0 (.t 37))⟩,
          ⟨some 44, none, .v (.ext 1 (.t 37))⟩,
          ⟨some 45, none, .v (.ext 2 (.t 37))⟩,
          ⟨some 11, none, .v (.mv (.t 43))⟩,
          ⟨some 12, none, .v (.mv (.t 44))⟩,
          ⟨some 13, none, .v (.mv (.t 45))⟩] [0, 5, 6, 7, 8, 9, 10, 11, 12, 13])
        (.seq
         (.block 0
          (.seq
           (.reg 0 [
             ⟨some 47, none, .v (.mv (.t 7))⟩,
             ⟨some 48, none, .v (.icmp .neq .i64 (.t 47) (.c (.int .i64 0)))⟩,
             ⟨some 46, none, .v (.mv (.t 48))⟩] [0, 5, 6, 7, 8, 9, 10, 11, 12, 13, 46])
           (.cond (.t 46)
            (.seq
             (.reg 0 [
               ⟨some 49, none, .v (.mv (.t 13))⟩,
               ⟨some 50, none, .v (.mv (.t 7))⟩,
               ⟨some 51, none, .v (.icmp .eql .i64 (.t 49) (.t 50))⟩,
               ⟨some 52, none, .v (.mv (.t 51))⟩,
               ⟨some 53, some (52, true), .v (.mv (.t 12))⟩,
               ⟨some 54, some (52, true), .v (.mv (.t 6))⟩,
               ⟨some 55, some (52, true), .v (.icmp .eql .i64 (.t 53) (.t 54))⟩,
               ⟨some 56, none, .pick (.t 52) (.t 55) (.c (.bool false))⟩,
               ⟨some 57, none, .v (.mv (.t 56))⟩,
               ⟨some 58, some (57, true), .v (.mv (.t 11))⟩,
               ⟨some 59, some (57, true), .v (.len (.t 58))⟩,
               ⟨some 60, some (57, true), .v (.icmp .eql .i64 (.t 59) (.c (.int .i64 0)))⟩,
               ⟨some 61, none, .pick (.t 57) (.t 60) (.c (.bool false))⟩,
               ⟨some 4, none, .v (.mv (.t 61))⟩] [4])
             .ret)
            (.seq
             (.reg 0 [
               ⟨some 63, none, .v (.mv (.t 10))⟩,
               ⟨some 64, none, .v (.icmp .neq .i64 (.t 63) (.c (.int .i64 0)))⟩,
               ⟨some 62, none, .v (.mv (.t 64))⟩] [0, 5, 8, 9, 10, 11, 12, 13, 62])
             (.cond (.t 62)
              (.seq
               (.reg 0 [
                 ⟨some 65, none, .v (.mv (.t 13))⟩,
                 ⟨some 66, none, .v (.mv (.t 10))⟩,
                 ⟨some 67, none, .v (.icmp .eql .i64 (.t 65) (.t 66))⟩,
                 ⟨some 68, none, .v (.mv (.t 67))⟩,
                 ⟨some 69, some (68, true), .v (.mv (.t 12))⟩,
                 ⟨some 70, some (68, true), .v (.mv (.t 9))⟩,
                 ⟨some 71, some (68, true), .v (.mv (.t 0))⟩,
                 ⟨some 72, some (68, true), .v (.lenS (.t 71))⟩,
                 ⟨some 73, some (68, true), .v (.arith .add .i64 (.t 70) (.t 72))⟩,
                 ⟨some 74, some (68, true), .v (.arith .add .i64 (.t 73) (.c (.int .i64 1)))⟩,
                 ⟨some 75, some (68, true), .v (.icmp .eql .i64 (.t 69) (.t 74))⟩,
                 ⟨some 76, none, .pick (.t 68) (.t 75) (.c (.bool false))⟩,
                 ⟨some 77, none, .v (.mv (.t 76))⟩,
                 ⟨some 78, some (77, true), .v (.mv (.t 11))⟩,
                 ⟨some 79, some (77, true), .v (.len (.t 78))⟩,
                 ⟨some 80, some (77, true), .v (.icmp .eql .i64 (.t 79) (.c (.int .i64 0)))⟩,
                 ⟨some 81, none, .pick (.t 77) (.t 80) (.c (.bool false))⟩,
                 ⟨some 4, none, .v (.mv (.t 81))⟩] [4])
               .ret)
              .skip)))))
         (.seq
          (.reg 4 [
            ⟨some 82, none, .v (.bs 4 0 (.agg [(.int .i64 0), (.str []), (.int .i64 0), (.int .i64 0)]) [])⟩,
            ⟨some 83, none, .v (.mv (.t 5))⟩,
            ⟨some 84, none, .app 2 4 40 (.t 82) (.t 83) false⟩,
            ⟨some 14, none, .v (.mv (.t 84))⟩] [0, 8, 11, 12, 13, 14])
          (.seq
           (.seq
            (.reg 0 [
              ⟨some 85, none, .v (.mv (.t 8))⟩,
              ⟨some 86, none, .v (.len (.t 85))⟩,
              ⟨some 87, none, .v (.mv (.c (.int .i64 0)))⟩] [0, 11, 12, 13, 14, 85, 86, 87])
            (.block 1
             (.loop
              (.seq
               (.reg 0 [
                 ⟨some 88, none, .v (.icmp .lss .i64 (.t 87) (.t 86))⟩] [0, 11, 12, 13, 14, 85, 86, 87, 88])
               (.seq
                (.cond (.t 88)
                 .skip
                 (.exit 1))
                (.seq
                 (.block 2
                  (.seq
                   (.reg 4 [
                     ⟨some 89, none, .v (.ia 4 (.t 85) (.t 87))⟩,
                     ⟨some 90, none, .v (.ld 4 true (.t 89))⟩,
                     ⟨some 16, none, .alloc 2 [(.int .i64 0), (.str []), (.int .i64 0), (.int .i64 0)]⟩,
                     ⟨none, none, .st 4 (.t 16) (.t 90)⟩] [0, 11, 12, 13, 14, 16, 85, 86, 87])
                   (.seq
                    (.reg 0 [
                      ⟨some 91, none, .v (.fa 3 (.t 16))⟩,
                      ⟨some 92, none, .v (.ld 1 false (.t 91))⟩,
                      ⟨some 93, none, .v (.mv (.t 0))⟩,
                      ⟨some 94, none, .v (.lenS (.t 93))⟩,
                      ⟨some 95, none, .v (.arith .add .i64 (.t 94) (.c (.int .i64 1)))⟩,
                      ⟨some 96, none, .v (.arith .add .i64 (.t 92) (.t 95))⟩,
                      ⟨some 97, none, .v (.fa 3 (.t 16))⟩,
                      ⟨none, none, .st 1 (.t 97) (.t 96)⟩] [0, 11, 12, 13, 14, 16, 85, 86, 87])
                    (.reg 5 [
                      ⟨some 98, none, .v (.mv (.t 14))⟩,
                      ⟨some 99, none, .v (.ld 4 true (.t 16))⟩,
                      ⟨some 100, none, .v (.bs 4 1 (.agg [(.int .i64 0), (.str []), (.int .i64 0), (.int .i64 0)]) [(0, (.t 99))])⟩,
                      ⟨some 101, none, .app 3 4 40 (.t 98) (.t 100) false⟩,
                      ⟨some 14, none, .v (.mv (.t 101))⟩] [0, 11, 12, 13, 14, 85, 86, 87]))))
                 (.reg 0 [
                   ⟨some 102, none, .v (.arith .add .i64 (.t 87) (.c (.int .i64 1)))⟩,
                   ⟨some 87, none, .v (.mv (.t 102))⟩] [0, 11, 12, 13, 14, 85, 86, 87])))))))
           (.seq
            (.reg 0 [
              ⟨some 103, none, .v (.mv (.t 13))⟩,
              ⟨some 104, none, .v (.icmp .eql .i64 (.t 103) (.c (.int .i64 0)))⟩,
              ⟨some 105, none, .v (.mv (.t 104))⟩,
              ⟨some 106, some (105, true), .v (.mv (.t 12))⟩,
              ⟨some 107, some (105, true), .v (.icmp .eql .i64 (.t 106) (.c (.int .i64 0)))⟩,
              ⟨some 108, none, .pick (.t 105) (.t 107) (.c (.bool false))⟩,
              ⟨some 109, none, .v (.mv (.t 108))⟩,
              ⟨some 110, some (109, true), .v (.mv (.t 11))⟩,
              ⟨some 111, some (109, true), .v (.mv (.t 14))⟩,
              ⟨some 112, some (109, true), .call true (.c (.fn (.func 14) [] [])) [(.t 110), (.t 111)]⟩,
              ⟨some 113, none, .pick (.t 109) (.t 112) (.c (.bool false))⟩,
              ⟨some 4, none, .v (.mv (.t 113))⟩] [4])
            .ret))))))))))
theorem l7 : Callable Tryd.prog 7 := ⟨Tryd.f7, by kernel_rfl, by kernel_rfl, by kernel_rfl⟩
theorem a7 {args : List AVal} {H : AHeap} {n : Nat} {R : AOut → AHeap → Nat → Prop} (h : awp Tryd.prog c7 (postC [.t 4] R) ⟨penv 0 args, H, n⟩) : ACalls Tryd.prog 7 args H n R :=
  acalls_of_awp' (fn := Tryd.f7) (c := Tryd.f7.body.getD .skip) (ac := c7) (fz := []) (im := []) (kp := kp7) (rs := [.t 4]) (by kernel_rfl) (by kernel_rfl) (by kernel_rfl) (by kernel_rfl) (by kernel_rfl) h

/-- gridwright/gridwrightlaw10.LexSpaces -/
def kp8 (r : Nat) : List Nat := match r with
  | 0 => [0, 1, 2]
  | 1 => [0, 1, 2, 22]
  | 2 => [6]
  | 3 => [0, 1, 2, 30]
  | 4 => [6]
  | 5 => [0, 1, 2, 7]
  | 6 => [0, 1, 2, 7, 8]
  | 7 => [0, 1, 2, 7, 8, 34]
  | 9 => [0, 1, 2, 7, 8, 40]
  | 10 => [0, 1, 2, 7, 8]
  | 8 => [0, 1, 2, 7, 8]
  | 11 => [0, 1, 9]
  | 12 => [0, 1, 9, 10]
  | 13 => [0, 1, 9, 10, 52, 53, 54]
  | 14 => [0, 1, 9, 10, 52, 53, 54, 55]
  | 15 => [0, 1, 9, 10, 11, 12, 52, 53, 54]
  | 16 => [0, 1, 9, 10, 11, 13, 14, 52, 53, 54]
  | 17 => [0, 1, 9, 10, 11, 13, 52, 53, 54, 66]
  | 18 => [16]
  | 19 => [6]
  | 20 => [0, 1, 9, 10, 11, 13, 17, 52, 53, 54]
  | 21 => [0, 1, 9, 10, 11, 13, 17, 52, 53, 54, 77]
  | 22 => [0, 1, 9, 10, 13, 17, 52, 53, 54]
  | 23 => [0, 1, 9, 10, 52, 53, 54]
  | 24 => [0, 1, 9, 10, 52, 53, 54]
  | 25 => [0, 18, 19, 20]
  | 26 => [6]
  | _ => []
def c8 : ACode :=
  (.seq
   (.reg 0 [
     ⟨some 6, none, .v (.mv (.c (.bool false)))⟩] [0, 1, 2])
   (.seq
    (.seq
     (.reg 0 [
       ⟨some 21, none, .call true (.c (.fn (.func 11) [] [])) []⟩,
       ⟨some 22, none, .v (.not (.t 21))⟩] [0, 1, 2, 22])
     (.cond (.t 22)
      (.seq
       (.reg 0 [
         ⟨some 6, none, .v (.mv (.c (.bool false)))⟩] [6])
       .ret)
      .skip))
    (.seq
     (.seq
      (.reg 0 [
        ⟨some 23, none, .v (.mv (.t 0))⟩,
        ⟨some 24, none, .call true (.c (.fn (.func 15) [] [])) [(.t 23)]⟩,
        ⟨some 25, none, .v (.not (.t 24))⟩,
        ⟨some 26, none, .v (.mv (.t 25))⟩,
        ⟨some 27, some (26, false), .v (.mv (.t 2))⟩,
        ⟨some 28, some (26, false), .v (.lenS (.t 27))⟩,
        ⟨some 29, some (26, false), .v (.icmp .gtr .i64 (.t 28) (.c (.int .i64 100)))⟩,
        ⟨some 30, none, .pick (.t 26) (.c (.bool true)) (.t 29)⟩] [0, 1, 2, 30])
      (.cond (.t 30)
       (.seq
        (.reg 0 [
          ⟨some 6, none, .v (.mv (.c (.bool true)))⟩] [6])
        .ret)
       .skip))
     (.seq
      (.reg 0 [
        ⟨some 7, none, .v (.mv (.c (.str [])))⟩] [0, 1, 2, 7])
      (.seq
       (.seq
        (.reg 0 [
          ⟨some 8, none, .v (.mv (.c (.int .i64 0)))⟩] [0, 1, 2, 7, 8])
        (.block 0
         (.loop
          (.seq
           (.seq
            (.reg 0 [
              ⟨some 31, none, .v (.mv (.t 8))⟩,
              ⟨some 32, none, .v (.mv (.t 2))⟩,
              ⟨some 33, none, .v (.lenS (.t 32))⟩,
              ⟨some 34, none, .v (.icmp .lss .i64 (.t 31) (.t 33))⟩] [0, 1, 2, 7, 8, 34])
            (.cond (.t 34)
             .skip
             (.exit 0)))
           (.seq
            (.block 1
             (.seq
              (.reg 0 [
                ⟨some 37, none, .v (.mv (.t 2))⟩,
                ⟨some 38, none, .v (.mv (.t 8))⟩,
                ⟨some 39, none, .v (.ixS (.t 37) (.t 38))⟩,
                ⟨some 40, none, .v (.icmp .neq .u8 (.t 39) (.c (.int .u8 10)))⟩] [0, 1, 2, 7, 8, 40])
              (.cond (.t 40)
               (.reg 0 [
                 ⟨some 41, none, .v (.mv (.t 7))⟩,
                 ⟨some 42, none, .v (.mv (.t 2))⟩,
                 ⟨some 43, none, .v (.mv (.t 8))⟩,
                 ⟨some 44, none, .v (.mv (.t 8))⟩,
                 ⟨some 45, none, .v (.arith .add .i64 (.t 44) (.c (.int .i64 1)))⟩,
                 ⟨some 46, none, .v (.slS (.t 42) (some (.t 43)) (some (.t 45)))⟩,
                 ⟨some 47, none, .v (.sadd (.t 41) (.t 46))⟩,
                 ⟨some 7, none, .v (.mv (.t 47))⟩] [0, 1, 2, 7, 8])
               .skip)))
            (.reg 0 [
              ⟨some 35, none, .v (.mv (.t 8))⟩,
              ⟨some 36, none, .v (.arith .add .i64 (.t 35) (.c (.int .i64 1)))⟩,
              ⟨some 8, none, .v (.mv (.t 36))⟩] [0, 1, 2, 7, 8]))))))
       (.seq
        (.reg 0 [
          ⟨some 48, none, .v (.mv (.t 7))⟩,
          ⟨some 49, none, .v (.sadd (.c (.str [47, 47])) (.t 48))⟩,
          ⟨some 50, none, .v (.sadd (.t 49) (.c (.str [10])))⟩,
          ⟨some 51, none, .v (.bs 1 8 (.str []) [(0, (.c (.str [32]))), (1, (.c (.str [9]))), (2, (.c (.str [10]))), (3, (.c (.str [13, 10]))), (4, (.c (.str [32, 32]))), (5, (.t 50)), (6, (.c (.str [32, 47, 47, 32, 10]))), (7, (.c (.str [10, 47, 47, 10])))])⟩,
          ⟨some 9, none, .v (.mv (.t 51))⟩] [0, 1, 9])
        (.seq
         (.reg 0 [
           ⟨some 10, none, .v (.mv (.c (.str [10])))⟩] [0, 1, 9, 10])
         (.seq
          (.seq
           (.reg 0 [
             ⟨some 52, none, .v (.mv (.t 0))⟩,
             ⟨some 53, none, .v (.len (.t 52))⟩,
             ⟨some 54, none, .v (.mv (.c (.int .i64 0)))⟩] [0, 1, 9, 10, 52, 53, 54])
           (.block 2
            (.loop
             (.seq
              (.reg 0 [
                ⟨some 55, none, .v (.icmp .lss .i64 (.t 54) (.t 53))⟩] [0, 1, 9, 10, 52, 53, 54, 55])
              (.seq
               (.cond (.t 55)
                .skip
                (.exit 2))
               (.seq
                (.block 3
                 (.seq
                  (.reg 6 [
                    ⟨some 56, none, .v (.mv (.t 54))⟩,
                    ⟨some 57, none, .v (.ia 4 (.t 52) (.t 54))⟩,
                    ⟨some 58, none, .v (.ld 4 true (.t 57))⟩,
                    ⟨some 12, none, .alloc 3 [(.int .i64 0), (.str []), (.int .i64 0), (.int .i64 0)]⟩,
                    ⟨some 11, none, .v (.mv (.t 56))⟩,
                    ⟨none, none, .st 4 (.t 12) (.t 58)⟩] [0, 1, 9, 10, 11, 12, 52, 53, 54])
                  (.seq
                   (.reg 0 [
                     ⟨some 60, none, .v (.ld 4 true (.t 12))⟩,
                     ⟨some 61, none, .v (.bs 4 1 (.agg [(.int .i64 0), (.str []), (.int .i64 0), (.int .i64 0)]) [(0, (.t 60))])⟩,
                     ⟨some 62, none, .call true (.c (.fn (.func 16) [] [])) [(.t 61)]⟩,
                     ⟨some 59, none, .v (.mv (.t 62))⟩,
                     ⟨some 63, none, .v (.ext 0 (.t 59))⟩,
                     ⟨some 64, none, .v (.ext 1 (.t 59))⟩,
                     ⟨some 13, none, .v (.mv (.t 63))⟩,
                     ⟨some 14, none, .v (.mv (.t 64))⟩] [0, 1, 9, 10, 11, 13, 14, 52, 53, 54])
                   (.seq
                    (.seq
                     (.reg 0 [
                       ⟨some 65, none, .v (.mv (.t 14))⟩,
                       ⟨some 66, none, .v (.icmp .neq .i64 (.t 65) (.c (.int .i64 0)))⟩] [0, 1, 9, 10, 11, 13, 52, 53, 54, 66])
                     (.cond (.t 66)
                      (.seq
                       (.reg 0 [
                         ⟨some 68, none, .v (.mv (.t 0))⟩,
                         ⟨some 69, none, .call true (.c (.fn (.func 16) [] [])) [(.t 68)]⟩,
                         ⟨some 67, none, .v (.mv (.t 69))⟩,
                         ⟨some 70, none, .v (.ext 0 (.t 67))⟩,
                         ⟨some 71, none, .v (.ext 1 (.t 67))⟩,
                         ⟨some 15, none, .v (.mv (.t 70))⟩,
                         ⟨some 16, none, .v (.mv (.t 71))⟩] [16])
                       (.seq
                        (.reg 0 [
                          ⟨some 72, none, .v (.mv (.t 16))⟩,
                          ⟨some 73, none, .v (.icmp .eql .i64 (.t 72) (.c (.int .i64 100)))⟩,
                          ⟨some 6, none, .v (.mv (.t 73))⟩] [6])
                        .ret))
                      .skip))
                    (.seq
                     (.reg 0 [
                       ⟨some 17, none, .v (.mv (.c (.str [32])))⟩] [0, 1, 9, 10, 11, 13, 17, 52, 53, 54])
                     (.seq
                      (.seq
                       (.reg 0 [
                         ⟨some 74, none, .v (.mv (.t 11))⟩,
                         ⟨some 75, none, .v (.mv (.t 1))⟩,
                         ⟨some 76, none, .v (.len (.t 75))⟩,
                         ⟨some 77, none, .v (.icmp .lss .i64 (.t 74) (.t 76))⟩] [0, 1, 9, 10, 11, 13, 17, 52, 53, 54, 77])
                       (.cond (.t 77)
                        (.reg 0 [
                          ⟨some 78, none, .v (.mv (.t 9))⟩,
                          ⟨some 79, none, .v (.mv (.t 1))⟩,
                          ⟨some 80, none, .v (.mv (.t 11))⟩,
                          ⟨some 81, none, .v (.ia 1 (.t 79) (.t 80))⟩,
                          ⟨some 82, none, .v (.ld 1 false (.t 81))⟩,
                          ⟨some 83, none, .v (.conv .i64 (.t 82))⟩,
                          ⟨some 84, none, .v (.mv (.t 9))⟩,
                          ⟨some 85, none, .v (.len (.t 84))⟩,
                          ⟨some 86, none, .v (.arith .rem .i64 (.t 83) (.t 85))⟩,
                          ⟨some 87, none, .v (.ia 1 (.t 78) (.t 86))⟩,
                          ⟨some 88, none, .v (.ld 1 false (.t 87))⟩,
                          ⟨some 17, none, .v (.mv (.t 88))⟩] [0, 1, 9, 10, 13, 17, 52, 53, 54])
                        .skip))
                      (.reg 0 [
                        ⟨some 89, none, .v (.mv (.t 10))⟩,
                        ⟨some 90, none, .v (.mv (.t 13))⟩,
                        ⟨some 91, none, .v (.sadd (.t 90) (.c (.str [32])))⟩,
                        ⟨some 92, none, .v (.mv (.t 17))⟩,
                        ⟨some 93, none, .v (.sadd (.t 91) (.t 92))⟩,
                        ⟨some 94, none, .v (.sadd (.t 89) (.t 93))⟩,
                        ⟨some 10, none, .v (.mv (.t 94))⟩] [0, 1, 9, 10, 52, 53, 54])))))))
                (.reg 0 [
                  ⟨some 95, none, .v (.arith .add .i64 (.t 54) (.c (.int .i64 1)))⟩,
                  ⟨some 54, none, .v (.mv (.t 95))⟩] [0, 1, 9, 10, 52, 53, 54])))))))
          (.seq
           (.reg 0 [
             ⟨some 97, none, .v (.mv (.t 10))⟩,
             ⟨some 98, none, .call true (.c (.fn (.func 12) [] [])) [(.t 97)]⟩,
             ⟨some 96, none, .v (.mv (.t 98))⟩,
             ⟨some 99, none, .v (.ext 0 (.t 96))⟩,
             ⟨some 100, none, .v (.ext 1 (.t 96))⟩,
             ⟨some 101, none, .v (.ext 2 (.t 96))⟩,
             ⟨some 18, none, .v (.mv (.t 99))⟩,
             ⟨some 19, none, .v (.mv (.t 100))⟩,
             ⟨some 20, none, .v (.mv (.t 101))⟩] [0, 18, 19, 20])
           (.seq
            (.reg 0 [
              ⟨some 102, none, .v (.mv (.t 20))⟩,
              ⟨some 103, none, .v (.icmp .eql .i64 (.t 102) (.c (.int .i64 0)))⟩,
              ⟨some 104, none, .v (.mv (.t 103))⟩,
              ⟨some 105, some (104, true), .v (.mv (.t 19))⟩,
              ⟨some 106, some (104, true), .v (.icmp .eql .i64 (.t 105) (.c (.int .i64 0)))⟩,
              ⟨some 107, none, .pick (.t 104) (.t 106) (.c (.bool false))⟩,
              ⟨some 108, none, .v (.mv (.t 107))⟩,
              ⟨some 109, some (108, true), .v (.mv (.t 0))⟩,
              ⟨some 110, some (108, true), .v (.mv (.t 18))⟩,
              ⟨some 111, some (108, true), .call true (.c (.fn (.func 18) [] [])) [(.t 109), (.t 110)]⟩,
              ⟨some 112, none, .pick (.t 108) (.t 111) (.c (.bool false))⟩,
              ⟨some 6, none, .v (.mv (.t 112))⟩] [6])
            .ret))))))))))
theorem l8 : Callable Tryd.prog 8 := ⟨Tryd.f8, by kernel_rfl, by kernel_rfl, by kernel_rfl⟩
theorem a8 {args : List AVal} {H : AHeap} {n : Nat} {R : AOut → AHeap → Nat → Prop} (h : awp Tryd.prog c8 (postC [.t 6] R) ⟨penv 0 args, H, n⟩) : ACalls Tryd.prog 8 args H n R :=
  acalls_of_awp' (fn := Tryd.f8) (c := Tryd.f8.body.getD .skip) (ac := c8) (fz := []) (im := []) (kp := kp8) (rs := [.t 6]) (by kernel_rfl) (by kernel_rfl) (by kernel_rfl) (by kernel_rfl) (by kernel_rfl) h

/-- gridwright/gridwrightlaw10.LexWrong -/
def kp9 (r : Nat) : List Nat := match r with
  | 0 => [0, 1]
  | 1 => [0, 1, 18]
  | 2 => [4]
  | 3 => [0, 1, 24]
  | 4 => [4]
  | 5 => [0, 1, 6, 7]
  | 6 => [0, 1, 6, 7, 32]
  | 7 => [4]
  | 8 => [0, 1, 6, 46]
  | 9 => [4]
  | 10 => [0, 1, 6, 9, 10]
  | 11 => [0, 6, 9, 10, 12, 13]
  | 12 => [6, 9, 10, 12, 13, 15, 16]
  | 13 => [4]
  | _ => []
def c9 : ACode :=
  (.seq
   (.reg 0 [
     ⟨some 4, none, .v (.mv (.c (.bool false)))⟩] [0, 1])
   (.seq
    (.seq
     (.reg 0 [
       ⟨some 17, none, .call true (.c (.fn (.func 11) [] [])) []⟩,
       ⟨some 18, none, .v (.not (.t 17))⟩] [0, 1, 18])
     (.cond (.t 18)
      (.seq
       (.reg 0 [
         ⟨some 4, none, .v (.mv (.c (.bool false)))⟩] [4])
       .ret)
      .skip))
    (.seq
     (.seq
      (.reg 0 [
        ⟨some 19, none, .v (.mv (.t 0))⟩,
        ⟨some 20, none, .v (.lenS (.t 19))⟩,
        ⟨some 21, none, .v (.mv (.t 1))⟩,
        ⟨some 22, none, .v (.lenS (.t 21))⟩,
        ⟨some 23, none, .v (.arith .add .i64 (.t 20) (.t 22))⟩,
        ⟨some 24, none, .v (.icmp .gtr .i64 (.t 23) (.c (.int .i64 3000)))⟩] [0, 1, 24])
      (.cond (.t 24)
       (.seq
        (.reg 0 [
          ⟨some 4, none, .v (.mv (.c (.bool true)))⟩] [4])
        .ret)
       .skip))
     (.seq
      (.reg 0 [
        ⟨some 26, none, .v (.mv (.t 0))⟩,
        ⟨some 27, none, .call true (.c (.fn (.func 12) [] [])) [(.t 26)]⟩,
        ⟨some 25, none, .v (.mv (.t 27))⟩,
        ⟨some 28, none, .v (.ext 0 (.t 25))⟩,
        ⟨some 29, none, .v (.ext 1 (.t 25))⟩,
        ⟨some 30, none, .v (.ext 2 (.t 25))⟩,
        ⟨some 5, none, .v (.mv (.t 28))⟩,
        ⟨some 6, none, .v (.mv (.t 29))⟩,
        ⟨some 7, none, .v (.mv (.t 30))⟩] [0, 1, 6, 7])
      (.seq
       (.seq
        (.reg 0 [
          ⟨some 31, none, .v (.mv (.t 7))⟩,
          ⟨some 32, none, .v (.icmp .eql .i64 (.t 31) (.c (.int .i64 0)))⟩] [0, 1, 6, 7, 32])
        (.cond (.t 32)
         (.seq
          (.reg 0 [
            ⟨some 33, none, .v (.mv (.t 6))⟩,
            ⟨some 34, none, .v (.icmp .eql .i64 (.t 33) (.c (.int .i64 0)))⟩,
            ⟨some 4, none, .v (.mv (.t 34))⟩] [4])
          .ret)
         .skip))
       (.seq
        (.seq
         (.reg 0 [
           ⟨some 35, none, .v (.mv (.t 7))⟩,
           ⟨some 36, none, .v (.icmp .neq .i64 (.t 35) (.c (.int .i64 100)))⟩,
           ⟨some 37, none, .v (.mv (.t 36))⟩,
           ⟨some 38, some (37, false), .v (.mv (.t 6))⟩,
           ⟨some 39, some (37, false), .v (.icmp .lss .i64 (.t 38) (.c (.int .i64 0)))⟩,
           ⟨some 40, none, .pick (.t 37) (.c (.bool true)) (.t 39)⟩,
           ⟨some 41, none, .v (.mv (.t 40))⟩,
           ⟨some 42, some (41, false), .v (.mv (.t 6))⟩,
           ⟨some 43, some (41, false), .v (.mv (.t 0))⟩,
           ⟨some 44, some (41, false), .v (.lenS (.t 43))⟩,
           ⟨some 45, some (41, false), .v (.icmp .geq .i64 (.t 42) (.t 44))⟩,
           ⟨some 46, none, .pick (.t 41) (.c (.bool true)) (.t 45)⟩] [0, 1, 6, 46])
         (.cond (.t 46)
          (.seq
           (.reg 0 [
             ⟨some 4, none, .v (.mv (.c (.bool false)))⟩] [4])
           .ret)
          .skip))
        (.seq
         (.reg 0 [
           ⟨some 48, none, .v (.mv (.t 0))⟩,
           ⟨some 49, none, .v (.mv (.t 6))⟩,
           ⟨some 50, none, .v (.slS (.t 48) none (some (.t 49)))⟩,
           ⟨some 51, none, .call true (.c (.fn (.func 12) [] [])) [(.t 50)]⟩,
           ⟨some 47, none, .v (.mv (.t 51))⟩,
           ⟨some 52, none, .v (.ext 0 (.t 47))⟩,
           ⟨some 53, none, .v (.ext 1 (.t 47))⟩,
           ⟨some 54, none, .v (.ext 2 (.t 47))⟩,
           ⟨some 8, none, .v (.mv (.t 52))⟩,
           ⟨some 9, none, .v (.mv (.t 53))⟩,
           ⟨some 10, none, .v (.mv (.t 54))⟩] [0, 1, 6, 9, 10])
         (.seq
          (.reg 0 [
            ⟨some 56, none, .v (.mv (.t 0))⟩,
            ⟨some 57, none, .v (.sadd (.t 56) (.c (.str [32])))⟩,
            ⟨some 58, none, .v (.mv (.t 1))⟩,
            ⟨some 59, none, .v (.sadd (.t 57) (.t 58))⟩,
            ⟨some 60, none, .call true (.c (.fn (.func 12) [] [])) [(.t 59)]⟩,
            ⟨some 55, none, .v (.mv (.t 60))⟩,
            ⟨some 61, none, .v (.ext 0 (.t 55))⟩,
            ⟨some 62, none, .v (.ext 1 (.t 55))⟩,
            ⟨some 63, none, .v (.ext 2 (.t 55))⟩,
            ⟨some 11, none, .v (.mv (.t 61))⟩,
            ⟨some 12, none, .v (.mv (.t 62))⟩,
            ⟨some 13, none, .v (.mv (.t 63))⟩] [0, 6, 9, 10, 12, 13])
          (.seq
           (.reg 0 [
             ⟨some 65, none, .v (.mv (.t 0))⟩,
             ⟨some 66, none, .v (.mv (.t 6))⟩,
             ⟨some 67, none, .v (.slS (.t 65) (some (.t 66)) none)⟩,
             ⟨some 68, none, .call true (.c (.fn (.func 12) [] [])) [(.t 67)]⟩,
             ⟨some 64, none, .v (.mv (.t 68))⟩,
             ⟨some 69, none, .v (.ext 0 (.t 64))⟩,
             ⟨some 70, none, .v (.ext 1 (.t 64))⟩,
             ⟨some 71, none, .v (.ext 2 (.t 64))⟩,
             ⟨some 14, none, .v (.mv (.t 69))⟩,
             ⟨some 15, none, .v (.mv (.t 70))⟩,
             ⟨some 16, none, .v (.mv (.t 71))⟩] [6, 9, 10, 12, 13, 15, 16])
           (.seq
            (.reg 0 [
              ⟨some 72, none, .v (.mv (.t 10))⟩,
              ⟨some 73, none, .v (.icmp .eql .i64 (.t 72) (.c (.int .i64 0)))⟩,
              ⟨some 74, none, .v (.mv (.t 73))⟩,
              ⟨some 75, some (74, true), .v (.mv (.t 9))⟩,
              ⟨some 76, some (74, true), .v (.icmp .eql .i64 (.t 75) (.c (.int .i64 0)))⟩,
              ⟨some 77, none, .pick (.t 74) (.t 76) (.c (.bool false))⟩,
              ⟨some 78, none, .v (.mv (.t 77))⟩,
              ⟨some 79, some (78, true), .v (.mv (.t 13))⟩,
              ⟨some 80, some (78, true), .v (.icmp .eql .i64 (.t 79) (.c (.int .i64 100)))⟩,
              ⟨some 81, none, .pick (.t 78) (.t 80) (.c (.bool false))⟩,
              ⟨some 82, none, .v (.mv (.t 81))⟩,
              ⟨some 83, some (82, true), .v (.mv (.t 12))⟩,
              ⟨some 84, some (82, true), .v (.mv (.t 6))⟩,
              ⟨some 85, some (82, true), .v (.icmp .eql .i64 (.t 83) (.t 84))⟩,
              ⟨some 86, none, .pick (.t 82) (.t 85) (.c (.bool false))⟩,
              ⟨some 87, none, .v (.mv (.t 86))⟩,
              ⟨some 88, some (87, true), .v (.mv (.t 16))⟩,
              ⟨some 89, some (87, true), .v (.icmp .eql .i64 (.t 88) (.c (.int .i64 100)))⟩,
              ⟨some 90, none, .pick (.t 87) (.t 89) (.c (.bool false))⟩,
              ⟨some 91, none, .v (.mv (.t 90))⟩,
              ⟨some 92, some (91, true), .v (.mv (.t 15))⟩,
              ⟨some 93, some (91, true), .v (.icmp .eql .i64 (.t 92) (.c (.int .i64 0)))⟩,
              ⟨some 94, none, .pick (.t 91) (.t 93) (.c (.bool false))⟩,
              ⟨some 4, none, .v (.mv (.t 94))⟩] [4])
            .ret))))))))))
theorem l9 : Callable Tryd.prog 9 := ⟨Tryd.f9, by kernel_rfl, by kernel_rfl, by kernel_rfl⟩
theorem a9 {args : List AVal} {H : AHeap} {n : Nat} {R : AOut → AHeap → Nat → Prop} (h : awp Tryd.prog c9 (postC [.t 4] R) ⟨penv 0 args, H, n⟩) : ACalls Tryd.prog 9 args H n R :=
  acalls_of_awp' (fn := Tryd.f9) (c := Tryd.f9.body.getD .skip) (ac := c9) (fz := []) (im := []) (kp := kp9) (rs := [.t 4]) (by kernel_rfl) (by kernel_rfl) (by kernel_rfl) (by kernel_rfl) (by kernel_rfl) h

/-- gridwright/gridwrightlaw10.LexNames -/
def kp10 (r : Nat) : List Nat := match r with
  | 0 => [0]
  | 1 => [0, 10]
  | 2 => [2]
  | 3 => [0, 13]
  | 4 => [2]
  | 5 => [0, 3, 5]
  | 6 => [0, 6]
  | 7 => [0, 6, 8]
  | 8 => [2]
  | _ => []
def c10 : ACode :=
  (.seq
   (.reg 0 [
     ⟨some 2, none, .v (.mv (.c (.bool false)))⟩] [0])
   (.seq
    (.seq
     (.reg 0 [
       ⟨some 9, none, .call true (.c (.fn (.func 11) [] [])) []⟩,
       ⟨some 10, none, .v (.not (.t 9))⟩] [0, 10])
     (.cond (.t 10)
      (.seq
       (.reg 0 [
         ⟨some 2, none, .v (.mv (.c (.bool false)))⟩] [2])
       .ret)
      .skip))
    (.seq
     (.seq
      (.reg 0 [
        ⟨some 11, none, .v (.mv (.t 0))⟩,
        ⟨some 12, none, .v (.lenS (.t 11))⟩,
        ⟨some 13, none, .v (.icmp .gtr .i64 (.t 12) (.c (.int .i64 1000)))⟩] [0, 13])
      (.cond (.t 13)
       (.seq
        (.reg 0 [
          ⟨some 2, none, .v (.mv (.c (.bool true)))⟩] [2])
        .ret)
       .skip))
     (.seq
      (.reg 0 [
        ⟨some 15, none, .v (.mv (.t 0))⟩,
        ⟨some 16, none, .call true (.c (.fn (.func 12) [] [])) [(.t 15)]⟩,
        ⟨some 14, none, .v (.mv (.t 16))⟩,
        ⟨some 17, none, .v (.ext 0 (.t 14))⟩,
        ⟨some 18, none, .v (.ext 1 (.t 14))⟩,
        ⟨some 19, none, .v (.ext 2 (.t 14))⟩,
        ⟨some 3, none, .v (.mv (.t 17))⟩,
        ⟨some 4, none, .v (.mv (.t 18))⟩,
        ⟨some 5, none, .v (.mv (.t 19))⟩] [0, 3, 5])
      (.seq
       (.reg 0 [
         ⟨some 20, none, .v (.mv (.t 5))⟩,
         ⟨some 21, none, .v (.icmp .eql .i64 (.t 20) (.c (.int .i64 0)))⟩,
         ⟨some 22, none, .v (.mv (.t 21))⟩,
         ⟨some 23, some (22, true), .v (.mv (.t 3))⟩,
         ⟨some 24, some (22, true), .v (.len (.t 23))⟩,
         ⟨some 25, some (22, true), .v (.icmp .eql .i64 (.t 24) (.c (.int .i64 1)))⟩,
         ⟨some 26, none, .pick (.t 22) (.t 25) (.c (.bool false))⟩,
         ⟨some 27, none, .v (.mv (.t 26))⟩,
         ⟨some 28, some (27, true), .v (.mv (.t 3))⟩,
         ⟨some 29, some (27, true), .v (.ia 4 (.t 28) (.c (.int .i64 0)))⟩,
         ⟨some 30, some (27, true), .v (.fa 0 (.t 29))⟩,
         ⟨some 31, some (27, true), .v (.ld 1 false (.t 30))⟩,
         ⟨some 32, some (27, true), .v (.icmp .eql .i64 (.t 31) (.c (.int .i64 1)))⟩,
         ⟨some 33, none, .pick (.t 27) (.t 32) (.c (.bool false))⟩,
         ⟨some 34, none, .v (.mv (.t 33))⟩,
         ⟨some 35, some (34, true), .v (.mv (.t 3))⟩,
         ⟨some 36, some (34, true), .v (.ia 4 (.t 35) (.c (.int .i64 0)))⟩,
         ⟨some 37, some (34, true), .v (.fa 1 (.t 36))⟩,
         ⟨some 38, some (34, true), .v (.ld 1 false (.t 37))⟩,
         ⟨some 39, some (34, true), .v (.mv (.t 0))⟩,
         ⟨some 40, some (34, true), .v (.scmp .eql (.t 38) (.t 39))⟩,
         ⟨some 41, none, .pick (.t 34) (.t 40) (.c (.bool false))⟩,
         ⟨some 42, none, .v (.mv (.t 41))⟩,
         ⟨some 43, some (42, true), .v (.mv (.t 3))⟩,
         ⟨some 44, some (42, true), .v (.ia 4 (.t 43) (.c (.int .i64 0)))⟩,
         ⟨some 45, some (42, true), .v (.fa 3 (.t 44))⟩,
         ⟨some 46, some (42, true), .v (.ld 1 false (.t 45))⟩,
         ⟨some 47, some (42, true), .v (.icmp .eql .i64 (.t 46) (.c (.int .i64 0)))⟩,
         ⟨some 48, none, .pick (.t 42) (.t 47) (.c (.bool false))⟩,
         ⟨some 49, none, .v (.mv (.t 48))⟩,
         ⟨some 50, some (49, true), .v (.mv (.t 3))⟩,
         ⟨some 51, some (49, true), .v (.ia 4 (.t 50) (.c (.int .i64 0)))⟩,
         ⟨some 52, some (49, true), .v (.fa 2 (.t 51))⟩,
         ⟨some 53, some (49, true), .v (.ld 1 false (.t 52))⟩,
         ⟨some 54, some (49, true), .v (.icmp .eql .i64 (.t 53) (.c (.int .i64 0)))⟩,
         ⟨some 55, none, .pick (.t 49) (.t 54) (.c (.bool false))⟩,
         ⟨some 6, none, .v (.mv (.t 55))⟩] [0, 6])
       (.seq
        (.reg 0 [
          ⟨some 57, none, .v (.mv (.t 0))⟩,
          ⟨some 58, none, .v (.build [(.int .i64 0), (.str []), (.int .i64 0), (.int .i64 0)] [(0, 1, (.c (.int .i64 1))), (1, 1, (.t 57))])⟩,
          ⟨some 59, none, .v (.bs 4 1 (.agg [(.int .i64 0), (.str []), (.int .i64 0), (.int .i64 0)]) [(0, (.t 58))])⟩,
          ⟨some 60, none, .call true (.c (.fn (.func 16) [] [])) [(.t 59)]⟩,
          ⟨some 56, none, .v (.mv (.t 60))⟩,
          ⟨some 61, none, .v (.ext 0 (.t 56))⟩,
          ⟨some 62, none, .v (.ext 1 (.t 56))⟩,
          ⟨some 7, none, .v (.mv (.t 61))⟩,
          ⟨some 8, none, .v (.mv (.t 62))⟩] [0, 6, 8])
        (.seq
         (.reg 0 [
           ⟨some 63, none, .v (.mv (.t 0))⟩,
           ⟨some 64, none, .call true (.c (.fn (.func 20) [] [])) [(.t 63)]⟩,
           ⟨some 65, none, .v (.mv (.t 6))⟩,
           ⟨some 66, none, .v (.beq false (.t 64) (.t 65))⟩,
           ⟨some 67, none, .v (.mv (.t 66))⟩,
           ⟨some 68, some (67, true), .v (.mv (.t 6))⟩,
           ⟨some 69, some (67, true), .v (.mv (.t 8))⟩,
           ⟨some 70, some (67, true), .v (.icmp .eql .i64 (.t 69) (.c (.int .i64 0)))⟩,
           ⟨some 71, some (67, true), .v (.beq false (.t 68) (.t 70))⟩,
           ⟨some 72, none, .pick (.t 67) (.t 71) (.c (.bool false))⟩,
           ⟨some 2, none, .v (.mv (.t 72))⟩] [2])
         .ret)))))))
theorem l10 : Callable Tryd.prog 10 := ⟨Tryd.f10, by kernel_rfl, by kernel_rfl, by kernel_rfl⟩
theorem a10 {args : List AVal} {H : AHeap} {n : Nat} {R : AOut → AHeap → Nat → Prop} (h : awp Tryd.prog c10 (postC [.t 2] R) ⟨penv 0 args, H, n⟩) : ACalls Tryd.prog 10 args H n R :=
  acalls_of_awp' (fn := Tryd.f10) (c := Tryd.f10.body.getD .skip) (ac := c10) (fz := []) (im := []) (kp := kp10) (rs := [.t 2]) (by kernel_rfl) (by kernel_rfl) (by kernel_rfl) (by kernel_rfl) (by kernel_rfl) h

end Go.AM
end
