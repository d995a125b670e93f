/-
  The abstract code of some functions, written by a program · Booklets: the laws, part 5: PressOrder.
  Conditions: none beyond those of its parts.
-/
import Derived.Test.YtekbplnmbbmhdaaDoorProg
import Derived.Test.YtekbplnmbbmhdaaDoorB3
import Derived.KernelRfl
import Derived.Test.YtekbplnmbbmhdaaDoorB8

/- The abstract code of some functions, written by a program. Conditions: none. -/
section
set_option maxRecDepth 10000
set_option linter.unusedSimpArgs false
set_option linter.unusedVariables false
set_option maxRecDepth 20000
set_option linter.unusedVariables false
namespace Go.AM
open Go.Proofs





/-- gridwright/gridwrightlaw57.PressGood -/
def kp6 (r : Nat) : List Nat := match r with
  | 0 => [1, 2]
  | 1 => [1, 2, 18]
  | 2 => [4]
  | 3 => [1, 2, 22]
  | 4 => [4]
  | 5 => [1, 2, 5, 6]
  | 6 => [1, 5, 6, 7, 8]
  | 7 => [1, 5, 52]
  | 8 => [4]
  | 9 => [1, 5, 9]
  | 10 => [1, 5, 9, 54, 55, 56]
  | 11 => [1, 5, 9, 54, 55, 56, 57]
  | 12 => [1, 5, 9, 10, 11, 54, 55, 56]
  | 13 => [1, 5, 9, 10, 11, 54, 55, 56, 70]
  | 14 => [4]
  | 15 => [1, 5, 9, 10, 11, 12, 54, 55, 56]
  | 16 => [1, 5, 9, 10, 11, 12, 13, 14, 54, 55, 56]
  | 17 => [1, 5, 9, 10, 11, 12, 54, 55, 56, 89]
  | 18 => [4]
  | 19 => [1, 5, 9, 10, 11, 12, 54, 55, 56]
  | 20 => [1, 5, 9, 10, 11, 12, 54, 55, 56, 141]
  | 21 => [4]
  | 22 => [1, 5, 9, 11, 12, 54, 55, 56, 144, 145, 146]
  | 23 => [1, 5, 9, 11, 12, 54, 55, 56, 144, 145, 146, 147]
  | 24 => [1, 5, 9, 11, 12, 16, 54, 55, 56, 144, 145, 146]
  | 25 => [1, 5, 9, 11, 12, 54, 55, 56, 144, 145, 146, 169]
  | 26 => [4]
  | 27 => [1, 5, 9, 11, 12, 54, 55, 56, 144, 145, 146]
  | 28 => [1, 5, 9, 54, 55, 56]
  | 29 => [4]
  | _ => []
def c6 : ACode :=
  (.seq
   (.reg 2 [
     ⟨some 2, none, .box 0 5 (.t 0)⟩,
     ⟨some 4, none, .v (.mv (.c (.bool false)))⟩] [1, 2])
   (.seq
    (.seq
     (.reg 0 [
       ⟨some 17, none, .call true (.c (.fn (.func 10) [] [])) []⟩,
       ⟨some 18, none, .v (.not (.t 17))⟩] [1, 2, 18])
     (.cond (.t 18)
      (.seq
       (.reg 0 [
         ⟨some 4, none, .v (.mv (.c (.bool false)))⟩] [4])
       .ret)
      .skip))
    (.seq
     (.seq
      (.reg 0 [
        ⟨some 19, none, .v (.ld 5 true (.t 2))⟩,
        ⟨some 20, none, .v (.mv (.t 1))⟩,
        ⟨some 21, none, .call true (.c (.fn (.func 13) [] [])) [(.t 19), (.t 20)]⟩,
        ⟨some 22, none, .v (.icmp .neq .i64 (.t 21) (.c (.int .i64 0)))⟩] [1, 2, 22])
      (.cond (.t 22)
       (.seq
        (.reg 0 [
          ⟨some 4, none, .v (.mv (.c (.bool true)))⟩] [4])
        .ret)
       .skip))
     (.seq
      (.reg 0 [
        ⟨some 24, none, .v (.ld 5 true (.t 2))⟩,
        ⟨some 25, none, .v (.mv (.t 1))⟩,
        ⟨some 26, none, .call true (.c (.fn (.func 15) [] [])) [(.t 24), (.t 25)]⟩,
        ⟨some 23, none, .v (.mv (.t 26))⟩,
        ⟨some 27, none, .v (.ext 0 (.t 23))⟩,
        ⟨some 28, none, .v (.ext 1 (.t 23))⟩,
        ⟨some 5, none, .v (.mv (.t 27))⟩,
        ⟨some 6, none, .v (.mv (.t 28))⟩] [1, 2, 5, 6])
      (.seq
       (.reg 0 [
         ⟨some 30, none, .v (.ld 5 true (.t 2))⟩,
         ⟨some 31, none, .v (.mv (.t 1))⟩,
         ⟨some 32, none, .v (.mv (.t 5))⟩,
         ⟨some 33, none, .call true (.c (.fn (.func 18) [] [])) [(.t 30), (.t 31), (.t 32)]⟩,
         ⟨some 29, none, .v (.mv (.t 33))⟩,
         ⟨some 34, none, .v (.ext 0 (.t 29))⟩,
         ⟨some 35, none, .v (.ext 1 (.t 29))⟩,
         ⟨some 7, none, .v (.mv (.t 34))⟩,
         ⟨some 8, none, .v (.mv (.t 35))⟩] [1, 5, 6, 7, 8])
       (.seq
        (.seq
         (.reg 0 [
           ⟨some 36, none, .v (.mv (.t 6))⟩,
           ⟨some 37, none, .v (.icmp .neq .i64 (.t 36) (.c (.int .i64 0)))⟩,
           ⟨some 38, none, .v (.mv (.t 37))⟩,
           ⟨some 39, some (38, false), .v (.mv (.t 8))⟩,
           ⟨some 40, some (38, false), .v (.icmp .neq .i64 (.t 39) (.c (.int .i64 0)))⟩,
           ⟨some 41, none, .pick (.t 38) (.c (.bool true)) (.t 40)⟩,
           ⟨some 42, none, .v (.mv (.t 41))⟩,
           ⟨some 43, some (42, false), .v (.mv (.t 7))⟩,
           ⟨some 44, some (42, false), .v (.not (.t 43))⟩,
           ⟨some 45, none, .pick (.t 42) (.c (.bool true)) (.t 44)⟩,
           ⟨some 46, none, .v (.mv (.t 45))⟩,
           ⟨some 47, some (46, false), .v (.mv (.t 5))⟩,
           ⟨some 48, some (46, false), .v (.len (.t 47))⟩,
           ⟨some 49, some (46, false), .v (.mv (.t 1))⟩,
           ⟨some 50, some (46, false), .v (.len (.t 49))⟩,
           ⟨some 51, some (46, false), .v (.icmp .neq .i64 (.t 48) (.t 50))⟩,
           ⟨some 52, none, .pick (.t 46) (.c (.bool true)) (.t 51)⟩] [1, 5, 52])
         (.cond (.t 52)
          (.seq
           (.reg 0 [
             ⟨some 4, none, .v (.mv (.c (.bool false)))⟩] [4])
           .ret)
          .skip))
        (.seq
         (.reg 2 [
           ⟨some 53, none, .ext (.mkm 0) []⟩,
           ⟨some 9, none, .v (.mv (.t 53))⟩] [1, 5, 9])
         (.seq
          (.seq
           (.reg 0 [
             ⟨some 54, none, .v (.mv (.t 5))⟩,
             ⟨some 55, none, .v (.len (.t 54))⟩,
             ⟨some 56, none, .v (.mv (.c (.int .i64 0)))⟩] [1, 5, 9, 54, 55, 56])
           (.block 0
            (.loop
             (.seq
              (.reg 0 [
                ⟨some 57, none, .v (.icmp .lss .i64 (.t 56) (.t 55))⟩] [1, 5, 9, 54, 55, 56, 57])
              (.seq
               (.cond (.t 57)
                .skip
                (.exit 0))
               (.seq
                (.block 1
                 (.seq
                  (.reg 6 [
                    ⟨some 58, none, .v (.mv (.t 56))⟩,
                    ⟨some 59, none, .v (.ia 4 (.t 54) (.t 56))⟩,
                    ⟨some 60, none, .v (.ld 4 true (.t 59))⟩,
                    ⟨some 11, none, .alloc 3 [(.int .i64 0), (.int .i64 0), (.int .i64 0), (.int .i64 0)]⟩,
                    ⟨some 10, none, .v (.mv (.t 58))⟩,
                    ⟨none, none, .st 4 (.t 11) (.t 60)⟩] [1, 5, 9, 10, 11, 54, 55, 56])
                  (.seq
                   (.seq
                    (.reg 0 [
                      ⟨some 61, none, .v (.fa 0 (.t 11))⟩,
                      ⟨some 62, none, .v (.ld 1 false (.t 61))⟩,
                      ⟨some 63, none, .v (.icmp .lss .i64 (.t 62) (.c (.int .i64 0)))⟩,
                      ⟨some 64, none, .v (.mv (.t 63))⟩,
                      ⟨some 65, some (64, false), .v (.fa 0 (.t 11))⟩,
                      ⟨some 66, some (64, false), .v (.ld 1 false (.t 65))⟩,
                      ⟨some 67, some (64, false), .v (.mv (.t 1))⟩,
                      ⟨some 68, some (64, false), .v (.len (.t 67))⟩,
                      ⟨some 69, some (64, false), .v (.icmp .geq .i64 (.t 66) (.t 68))⟩,
                      ⟨some 70, none, .pick (.t 64) (.c (.bool true)) (.t 69)⟩] [1, 5, 9, 10, 11, 54, 55, 56, 70])
                    (.cond (.t 70)
                     (.seq
                      (.reg 0 [
                        ⟨some 4, none, .v (.mv (.c (.bool false)))⟩] [4])
                      .ret)
                     .skip))
                   (.seq
                    (.reg 0 [
                      ⟨some 71, none, .v (.mv (.t 1))⟩,
                      ⟨some 72, none, .v (.fa 0 (.t 11))⟩,
                      ⟨some 73, none, .v (.ld 1 false (.t 72))⟩,
                      ⟨some 74, none, .v (.ia 4 (.t 71) (.t 73))⟩,
                      ⟨some 75, none, .v (.fa 0 (.t 74))⟩,
                      ⟨some 76, none, .v (.ld 1 false (.t 75))⟩,
                      ⟨some 12, none, .v (.mv (.t 76))⟩] [1, 5, 9, 10, 11, 12, 54, 55, 56])
                    (.seq
                     (.seq
                      (.reg 0 [
                        ⟨some 78, none, .v (.mv (.t 9))⟩,
                        ⟨some 79, none, .v (.mv (.t 12))⟩,
                        ⟨some 80, none, .ext (.look (.int .i64) (.int .i64 0) true) [(.t 78), (.t 79)]⟩,
                        ⟨some 77, none, .v (.mv (.t 80))⟩,
                        ⟨some 81, none, .v (.ext 0 (.t 77))⟩,
                        ⟨some 82, none, .v (.ext 1 (.t 77))⟩,
                        ⟨some 13, none, .v (.mv (.t 81))⟩,
                        ⟨some 14, none, .v (.mv (.t 82))⟩] [1, 5, 9, 10, 11, 12, 13, 14, 54, 55, 56])
                      (.seq
                       (.reg 0 [
                         ⟨some 83, none, .v (.mv (.t 14))⟩,
                         ⟨some 84, none, .v (.mv (.t 83))⟩,
                         ⟨some 85, some (84, true), .v (.fa 0 (.t 11))⟩,
                         ⟨some 86, some (84, true), .v (.ld 1 false (.t 85))⟩,
                         ⟨some 87, some (84, true), .v (.mv (.t 13))⟩,
                         ⟨some 88, some (84, true), .v (.icmp .leq .i64 (.t 86) (.t 87))⟩,
                         ⟨some 89, none, .pick (.t 84) (.t 88) (.c (.bool false))⟩] [1, 5, 9, 10, 11, 12, 54, 55, 56, 89])
                       (.cond (.t 89)
                        (.seq
                         (.reg 0 [
                           ⟨some 4, none, .v (.mv (.c (.bool false)))⟩] [4])
                         .ret)
                        .skip)))
                     (.seq
                      (.reg 0 [
                        ⟨some 90, none, .v (.mv (.t 9))⟩,
                        ⟨some 91, none, .v (.mv (.t 12))⟩,
                        ⟨some 92, none, .v (.fa 0 (.t 11))⟩,
                        ⟨some 93, none, .v (.ld 1 false (.t 92))⟩,
                        ⟨none, none, .ext (.mput (.int .i64)) [(.t 90), (.t 91), (.t 93)]⟩] [1, 5, 9, 10, 11, 12, 54, 55, 56])
                      (.seq
                       (.seq
                        (.reg 0 [
                          ⟨some 94, none, .v (.mv (.t 10))⟩,
                          ⟨some 95, none, .v (.icmp .eql .i64 (.t 94) (.c (.int .i64 0)))⟩,
                          ⟨some 96, none, .v (.mv (.t 95))⟩,
                          ⟨some 97, some (96, true), .v (.fa 1 (.t 11))⟩,
                          ⟨some 98, some (96, true), .v (.ld 1 false (.t 97))⟩,
                          ⟨some 99, some (96, true), .v (.icmp .neq .i64 (.t 98) (.c (.int .i64 0)))⟩,
                          ⟨some 100, none, .pick (.t 96) (.t 99) (.c (.bool false))⟩,
                          ⟨some 101, none, .v (.mv (.t 100))⟩,
                          ⟨some 102, some (101, false), .v (.mv (.t 10))⟩,
                          ⟨some 103, some (101, false), .v (.icmp .gtr .i64 (.t 102) (.c (.int .i64 0)))⟩,
                          ⟨some 104, some (101, false), .v (.mv (.t 103))⟩,
                          ⟨some 105, some (104, true), .v (.fa 1 (.t 11))⟩,
                          ⟨some 106, some (104, true), .v (.ld 1 false (.t 105))⟩,
                          ⟨some 107, some (104, true), .v (.mv (.t 5))⟩,
                          ⟨some 108, some (104, true), .v (.mv (.t 10))⟩,
                          ⟨some 109, some (104, true), .v (.arith .sub .i64 (.t 108) (.c (.int .i64 1)))⟩,
                          ⟨some 110, some (104, true), .v (.ia 4 (.t 107) (.t 109))⟩,
                          ⟨some 111, some (104, true), .v (.fa 1 (.t 110))⟩,
                          ⟨some 112, some (104, true), .v (.ld 1 false (.t 111))⟩,
                          ⟨some 113, some (104, true), .v (.icmp .lss .i64 (.t 106) (.t 112))⟩,
                          ⟨some 114, some (104, true), .v (.mv (.t 113))⟩,
                          ⟨some 115, some (114, false), .v (.fa 1 (.t 11))⟩,
                          ⟨some 116, some (114, false), .v (.ld 1 false (.t 115))⟩,
                          ⟨some 117, some (114, false), .v (.mv (.t 5))⟩,
                          ⟨some 118, some (114, false), .v (.mv (.t 10))⟩,
                          ⟨some 119, some (114, false), .v (.arith .sub .i64 (.t 118) (.c (.int .i64 1)))⟩,
                          ⟨some 120, some (114, false), .v (.ia 4 (.t 117) (.t 119))⟩,
                          ⟨some 121, some (114, false), .v (.fa 1 (.t 120))⟩,
                          ⟨some 122, some (114, false), .v (.ld 1 false (.t 121))⟩,
                          ⟨some 123, some (114, false), .v (.arith .add .i64 (.t 122) (.c (.int .i64 2)))⟩,
                          ⟨some 124, some (114, false), .v (.icmp .gtr .i64 (.t 116) (.t 123))⟩,
                          ⟨some 125, some (104, true), .pick (.t 114) (.c (.bool true)) (.t 124)⟩,
                          ⟨some 126, some (104, true), .v (.mv (.t 125))⟩,
                          ⟨some 127, some (126, false), .v (.mv (.t 12))⟩,
                          ⟨some 128, some (126, false), .v (.mv (.t 1))⟩,
                          ⟨some 129, some (126, false), .v (.mv (.t 5))⟩,
                          ⟨some 130, some (126, false), .v (.mv (.t 10))⟩,
                          ⟨some 131, some (126, false), .v (.arith .sub .i64 (.t 130) (.c (.int .i64 1)))⟩,
                          ⟨some 132, some (126, false), .v (.ia 4 (.t 129) (.t 131))⟩,
                          ⟨some 133, some (126, false), .v (.fa 0 (.t 132))⟩,
                          ⟨some 134, some (126, false), .v (.ld 1 false (.t 133))⟩,
                          ⟨some 135, some (126, false), .v (.ia 4 (.t 128) (.t 134))⟩,
                          ⟨some 136, some (126, false), .v (.fa 0 (.t 135))⟩,
                          ⟨some 137, some (126, false), .v (.ld 1 false (.t 136))⟩,
                          ⟨some 138, some (126, false), .v (.icmp .lss .i64 (.t 127) (.t 137))⟩,
                          ⟨some 139, some (104, true), .pick (.t 126) (.c (.bool true)) (.t 138)⟩,
                          ⟨some 140, some (101, false), .pick (.t 104) (.t 139) (.c (.bool false))⟩,
                          ⟨some 141, none, .pick (.t 101) (.c (.bool true)) (.t 140)⟩] [1, 5, 9, 10, 11, 12, 54, 55, 56, 141])
                        (.cond (.t 141)
                         (.seq
                          (.reg 0 [
                            ⟨some 4, none, .v (.mv (.c (.bool false)))⟩] [4])
                          .ret)
                         .skip))
                       (.seq
                        (.reg 0 [
                          ⟨some 142, none, .v (.mv (.t 5))⟩,
                          ⟨some 143, none, .v (.mv (.t 10))⟩,
                          ⟨some 144, none, .v (.sl 4 (.t 142) none (some (.t 143)) none)⟩,
                          ⟨some 145, none, .v (.len (.t 144))⟩,
                          ⟨some 146, none, .v (.mv (.c (.int .i64 0)))⟩] [1, 5, 9, 11, 12, 54, 55, 56, 144, 145, 146])
                        (.block 2
                         (.loop
                          (.seq
                           (.reg 0 [
                             ⟨some 147, none, .v (.icmp .lss .i64 (.t 146) (.t 145))⟩] [1, 5, 9, 11, 12, 54, 55, 56, 144, 145, 146, 147])
                           (.seq
                            (.cond (.t 147)
                             .skip
                             (.exit 2))
                            (.seq
                             (.block 3
                              (.seq
                               (.reg 4 [
                                 ⟨some 148, none, .v (.ia 4 (.t 144) (.t 146))⟩,
                                 ⟨some 149, none, .v (.ld 4 true (.t 148))⟩,
                                 ⟨some 16, none, .alloc 2 [(.int .i64 0), (.int .i64 0), (.int .i64 0), (.int .i64 0)]⟩,
                                 ⟨none, none, .st 4 (.t 16) (.t 149)⟩] [1, 5, 9, 11, 12, 16, 54, 55, 56, 144, 145, 146])
                               (.seq
                                (.reg 0 [
                                  ⟨some 150, none, .v (.mv (.t 12))⟩,
                                  ⟨some 151, none, .v (.icmp .eql .i64 (.t 150) (.c (.int .i64 2)))⟩,
                                  ⟨some 152, none, .v (.mv (.t 151))⟩,
                                  ⟨some 153, some (152, true), .v (.mv (.t 1))⟩,
                                  ⟨some 154, some (152, true), .v (.fa 0 (.t 16))⟩,
                                  ⟨some 155, some (152, true), .v (.ld 1 false (.t 154))⟩,
                                  ⟨some 156, some (152, true), .v (.ia 4 (.t 153) (.t 155))⟩,
                                  ⟨some 157, some (152, true), .v (.fa 0 (.t 156))⟩,
                                  ⟨some 158, some (152, true), .v (.ld 1 false (.t 157))⟩,
                                  ⟨some 159, some (152, true), .v (.icmp .eql .i64 (.t 158) (.c (.int .i64 1)))⟩,
                                  ⟨some 160, none, .pick (.t 152) (.t 159) (.c (.bool false))⟩,
                                  ⟨some 161, none, .v (.mv (.t 160))⟩,
                                  ⟨some 162, some (161, true), .v (.fa 1 (.t 11))⟩,
                                  ⟨some 163, some (161, true), .v (.ld 1 false (.t 162))⟩,
                                  ⟨some 164, some (161, true), .call true (.c (.fn (.func 20) [] [])) [(.t 163)]⟩,
                                  ⟨some 165, some (161, true), .v (.fa 1 (.t 16))⟩,
                                  ⟨some 166, some (161, true), .v (.ld 1 false (.t 165))⟩,
                                  ⟨some 167, some (161, true), .call true (.c (.fn (.func 20) [] [])) [(.t 166)]⟩,
                                  ⟨some 168, some (161, true), .v (.icmp .eql .i64 (.t 164) (.t 167))⟩,
                                  ⟨some 169, none, .pick (.t 161) (.t 168) (.c (.bool false))⟩] [1, 5, 9, 11, 12, 54, 55, 56, 144, 145, 146, 169])
                                (.cond (.t 169)
                                 (.seq
                                  (.reg 0 [
                                    ⟨some 4, none, .v (.mv (.c (.bool false)))⟩] [4])
                                  .ret)
                                 .skip))))
                             (.reg 0 [
                               ⟨some 170, none, .v (.arith .add .i64 (.t 146) (.c (.int .i64 1)))⟩,
                               ⟨some 146, none, .v (.mv (.t 170))⟩] [1, 5, 9, 11, 12, 54, 55, 56, 144, 145, 146]))))))))))))))
                (.reg 0 [
                  ⟨some 171, none, .v (.arith .add .i64 (.t 56) (.c (.int .i64 1)))⟩,
                  ⟨some 56, none, .v (.mv (.t 171))⟩] [1, 5, 9, 54, 55, 56])))))))
          (.seq
           (.reg 0 [
             ⟨some 4, none, .v (.mv (.c (.bool true)))⟩] [4])
           .ret)))))))))
theorem l6 : Callable Tryd.prog 6 := ⟨Tryd.f6, by kernel_rfl, by kernel_rfl, by kernel_rfl⟩
theorem a6 {args : List AVal} {H : AHeap} {n : Nat} {R : AOut → AHeap → Nat → Prop} (h : awp Tryd.prog c6 (postC [.t 4] R) ⟨penv 0 args, H, n⟩) : ACalls Tryd.prog 6 args H n R :=
  acalls_of_awp' (fn := Tryd.f6) (c := Tryd.f6.body.getD .skip) (ac := c6) (fz := []) (im := []) (kp := kp6) (rs := [.t 4]) (by kernel_rfl) (by kernel_rfl) (by kernel_rfl) (by kernel_rfl) (by kernel_rfl) h

/-- gridwright/gridwrightlaw57.PressOrder -/
def kp7 (r : Nat) : List Nat := match r with
  | 0 => [1, 2, 3, 4, 5]
  | 1 => [1, 2, 3, 4, 5, 23]
  | 2 => [10]
  | 3 => [1, 2, 3, 4, 5, 37]
  | 4 => [10]
  | 5 => [1, 2, 5, 11, 12]
  | 6 => [1, 2, 5, 11, 12, 13]
  | 7 => [1, 2, 5, 13]
  | 8 => [1, 5, 13, 14, 15]
  | 9 => [1, 5, 13, 14, 15, 16, 17]
  | 10 => [1, 5, 13, 14, 15, 16, 17, 18, 19]
  | 11 => [14, 15, 16, 17, 18, 19, 20, 21]
  | 12 => [10]
  | _ => []
def c7 : ACode :=
  (.seq
   (.reg 2 [
     ⟨some 5, none, .box 0 5 (.t 0)⟩,
     ⟨some 10, none, .v (.mv (.c (.bool false)))⟩] [1, 2, 3, 4, 5])
   (.seq
    (.seq
     (.reg 0 [
       ⟨some 22, none, .call true (.c (.fn (.func 10) [] [])) []⟩,
       ⟨some 23, none, .v (.not (.t 22))⟩] [1, 2, 3, 4, 5, 23])
     (.cond (.t 23)
      (.seq
       (.reg 0 [
         ⟨some 10, none, .v (.mv (.c (.bool false)))⟩] [10])
       .ret)
      .skip))
    (.seq
     (.seq
      (.reg 0 [
        ⟨some 24, none, .v (.mv (.t 2))⟩,
        ⟨some 25, none, .v (.len (.t 24))⟩,
        ⟨some 26, none, .v (.icmp .gtr .i64 (.t 25) (.c (.int .i64 200)))⟩,
        ⟨some 27, none, .v (.mv (.t 26))⟩,
        ⟨some 28, some (27, false), .v (.mv (.t 2))⟩,
        ⟨some 29, some (27, false), .v (.len (.t 28))⟩,
        ⟨some 30, some (27, false), .v (.icmp .eql .i64 (.t 29) (.c (.int .i64 0)))⟩,
        ⟨some 31, none, .pick (.t 27) (.c (.bool true)) (.t 30)⟩,
        ⟨some 32, none, .v (.mv (.t 31))⟩,
        ⟨some 33, some (32, false), .v (.ld 5 true (.t 5))⟩,
        ⟨some 34, some (32, false), .v (.mv (.t 1))⟩,
        ⟨some 35, some (32, false), .call true (.c (.fn (.func 13) [] [])) [(.t 33), (.t 34)]⟩,
        ⟨some 36, some (32, false), .v (.icmp .neq .i64 (.t 35) (.c (.int .i64 0)))⟩,
        ⟨some 37, none, .pick (.t 32) (.c (.bool true)) (.t 36)⟩] [1, 2, 3, 4, 5, 37])
      (.cond (.t 37)
       (.seq
        (.reg 0 [
          ⟨some 10, none, .v (.mv (.c (.bool true)))⟩] [10])
        .ret)
       .skip))
     (.seq
      (.reg 0 [
        ⟨some 38, none, .v (.mv (.t 3))⟩,
        ⟨some 39, none, .v (.conv .i64 (.t 38))⟩,
        ⟨some 40, none, .v (.mv (.t 2))⟩,
        ⟨some 41, none, .v (.len (.t 40))⟩,
        ⟨some 42, none, .v (.arith .rem .i64 (.t 39) (.t 41))⟩,
        ⟨some 43, none, .v (.mv (.t 4))⟩,
        ⟨some 44, none, .v (.conv .i64 (.t 43))⟩,
        ⟨some 45, none, .v (.mv (.t 2))⟩,
        ⟨some 46, none, .v (.len (.t 45))⟩,
        ⟨some 47, none, .v (.arith .rem .i64 (.t 44) (.t 46))⟩,
        ⟨some 11, none, .v (.mv (.t 42))⟩,
        ⟨some 12, none, .v (.mv (.t 47))⟩] [1, 2, 5, 11, 12])
      (.seq
       (.reg 4 [
         ⟨some 48, none, .v (.bs 4 0 (.agg [(.int .i64 0), (.int .i64 0), (.int .i64 0), (.int .i64 0)]) [])⟩,
         ⟨some 49, none, .v (.mv (.t 2))⟩,
         ⟨some 50, none, .appR 2 4 32 (.agg [(.int .i64 0), (.int .i64 0), (.int .i64 0), (.int .i64 0)]) (.t 48) (.t 49) false⟩,
         ⟨some 13, none, .v (.mv (.t 50))⟩] [1, 2, 5, 11, 12, 13])
       (.seq
        (.seq
         (.reg 0 [
           ⟨some 51, none, .v (.mv (.t 13))⟩,
           ⟨some 52, none, .v (.mv (.t 11))⟩,
           ⟨some 53, none, .v (.mv (.t 13))⟩,
           ⟨some 54, none, .v (.mv (.t 12))⟩,
           ⟨some 55, none, .v (.mv (.t 13))⟩,
           ⟨some 56, none, .v (.mv (.t 12))⟩,
           ⟨some 57, none, .v (.ia 4 (.t 55) (.t 56))⟩,
           ⟨some 58, none, .v (.ld 4 true (.t 57))⟩,
           ⟨some 59, none, .v (.mv (.t 13))⟩,
           ⟨some 60, none, .v (.mv (.t 11))⟩,
           ⟨some 61, none, .v (.ia 4 (.t 59) (.t 60))⟩,
           ⟨some 62, none, .v (.ld 4 true (.t 61))⟩,
           ⟨some 63, none, .v (.ia 4 (.t 51) (.t 52))⟩,
           ⟨none, none, .st 4 (.t 63) (.t 58)⟩,
           ⟨some 64, none, .v (.ia 4 (.t 53) (.t 54))⟩,
           ⟨none, none, .st 4 (.t 64) (.t 62)⟩] [1, 2, 5, 13])
         (.frzo 13))
        (.seq
         (.reg 0 [
           ⟨some 66, none, .v (.ld 5 true (.t 5))⟩,
           ⟨some 67, none, .v (.mv (.t 1))⟩,
           ⟨some 68, none, .v (.mv (.t 2))⟩,
           ⟨some 69, none, .call true (.c (.fn (.func 18) [] [])) [(.t 66), (.t 67), (.t 68)]⟩,
           ⟨some 65, none, .v (.mv (.t 69))⟩,
           ⟨some 70, none, .v (.ext 0 (.t 65))⟩,
           ⟨some 71, none, .v (.ext 1 (.t 65))⟩,
           ⟨some 14, none, .v (.mv (.t 70))⟩,
           ⟨some 15, none, .v (.mv (.t 71))⟩] [1, 5, 13, 14, 15])
         (.seq
          (.reg 0 [
            ⟨some 73, none, .v (.ld 5 true (.t 5))⟩,
            ⟨some 74, none, .v (.mv (.t 1))⟩,
            ⟨some 75, none, .v (.mv (.t 13))⟩,
            ⟨some 76, none, .call true (.c (.fn (.func 18) [] [])) [(.t 73), (.t 74), (.t 75)]⟩,
            ⟨some 72, none, .v (.mv (.t 76))⟩,
            ⟨some 77, none, .v (.ext 0 (.t 72))⟩,
            ⟨some 78, none, .v (.ext 1 (.t 72))⟩,
            ⟨some 16, none, .v (.mv (.t 77))⟩,
            ⟨some 17, none, .v (.mv (.t 78))⟩] [1, 5, 13, 14, 15, 16, 17])
          (.seq
           (.reg 0 [
             ⟨some 80, none, .v (.ld 5 true (.t 5))⟩,
             ⟨some 81, none, .v (.mv (.t 1))⟩,
             ⟨some 82, none, .v (.mv (.t 13))⟩,
             ⟨some 83, none, .v (.sl 4 (.t 82) (some (.c (.int .i64 1))) none none)⟩,
             ⟨some 84, none, .call true (.c (.fn (.func 18) [] [])) [(.t 80), (.t 81), (.t 83)]⟩,
             ⟨some 79, none, .v (.mv (.t 84))⟩,
             ⟨some 85, none, .v (.ext 0 (.t 79))⟩,
             ⟨some 86, none, .v (.ext 1 (.t 79))⟩,
             ⟨some 18, none, .v (.mv (.t 85))⟩,
             ⟨some 19, none, .v (.mv (.t 86))⟩] [1, 5, 13, 14, 15, 16, 17, 18, 19])
           (.seq
            (.reg 14 [
              ⟨some 88, none, .v (.ld 5 true (.t 5))⟩,
              ⟨some 89, none, .v (.mv (.t 1))⟩,
              ⟨some 90, none, .v (.mv (.t 13))⟩,
              ⟨some 91, none, .v (.mv (.t 13))⟩,
              ⟨some 92, none, .v (.ia 4 (.t 91) (.c (.int .i64 0)))⟩,
              ⟨some 93, none, .v (.ld 4 true (.t 92))⟩,
              ⟨some 94, none, .v (.bs 4 1 (.agg [(.int .i64 0), (.int .i64 0), (.int .i64 0), (.int .i64 0)]) [(0, (.t 93))])⟩,
              ⟨some 95, none, .app 7 4 32 (.t 90) (.t 94) false⟩,
              ⟨some 96, none, .call true (.c (.fn (.func 18) [] [])) [(.t 88), (.t 89), (.t 95)]⟩,
              ⟨some 87, none, .v (.mv (.t 96))⟩,
              ⟨some 97, none, .v (.ext 0 (.t 87))⟩,
              ⟨some 98, none, .v (.ext 1 (.t 87))⟩,
              ⟨some 20, none, .v (.mv (.t 97))⟩,
              ⟨some 21, none, .v (.mv (.t 98))⟩] [14, 15, 16, 17, 18, 19, 20, 21])
            (.seq
             (.reg 0 [
               ⟨some 99, none, .v (.mv (.t 15))⟩,
               ⟨some 100, none, .v (.icmp .eql .i64 (.t 99) (.c (.int .i64 0)))⟩,
               ⟨some 101, none, .v (.mv (.t 100))⟩,
               ⟨some 102, some (101, true), .v (.mv (.t 17))⟩,
               ⟨some 103, some (101, true), .v (.icmp .eql .i64 (.t 102) (.c (.int .i64 0)))⟩,
               ⟨some 104, none, .pick (.t 101) (.t 103) (.c (.bool false))⟩,
               ⟨some 105, none, .v (.mv (.t 104))⟩,
               ⟨some 106, some (105, true), .v (.mv (.t 14))⟩,
               ⟨some 107, some (105, true), .v (.mv (.t 16))⟩,
               ⟨some 108, some (105, true), .v (.beq false (.t 106) (.t 107))⟩,
               ⟨some 109, none, .pick (.t 105) (.t 108) (.c (.bool false))⟩,
               ⟨some 110, none, .v (.mv (.t 109))⟩,
               ⟨some 111, some (110, true), .v (.mv (.t 19))⟩,
               ⟨some 112, some (110, true), .v (.icmp .eql .i64 (.t 111) (.c (.int .i64 0)))⟩,
               ⟨some 113, none, .pick (.t 110) (.t 112) (.c (.bool false))⟩,
               ⟨some 114, none, .v (.mv (.t 113))⟩,
               ⟨some 115, some (114, true), .v (.mv (.t 14))⟩,
               ⟨some 116, some (114, true), .v (.mv (.t 115))⟩,
               ⟨some 117, some (116, true), .v (.mv (.t 18))⟩,
               ⟨some 118, some (114, true), .pick (.t 116) (.t 117) (.c (.bool false))⟩,
               ⟨some 119, some (114, true), .v (.not (.t 118))⟩,
               ⟨some 120, none, .pick (.t 114) (.t 119) (.c (.bool false))⟩,
               ⟨some 121, none, .v (.mv (.t 120))⟩,
               ⟨some 122, some (121, true), .v (.mv (.t 21))⟩,
               ⟨some 123, some (121, true), .v (.icmp .eql .i64 (.t 122) (.c (.int .i64 0)))⟩,
               ⟨some 124, none, .pick (.t 121) (.t 123) (.c (.bool false))⟩,
               ⟨some 125, none, .v (.mv (.t 124))⟩,
               ⟨some 126, some (125, true), .v (.mv (.t 20))⟩,
               ⟨some 127, some (125, true), .v (.not (.t 126))⟩,
               ⟨some 128, none, .pick (.t 125) (.t 127) (.c (.bool false))⟩,
               ⟨some 10, none, .v (.mv (.t 128))⟩] [10])
             .ret)))))))))))
theorem l7 : Callable Tryd.prog 7 := ⟨Tryd.f7, by kernel_rfl, by kernel_rfl, by kernel_rfl⟩
theorem a7 {args : List AVal} {H : AHeap} {n : Nat} {R : AOut → AHeap → Nat → Prop} (h : awp Tryd.prog c7 (postC [.t 10] R) ⟨penv 0 args, H, n⟩) : ACalls Tryd.prog 7 args H n R :=
  acalls_of_awp' (fn := Tryd.f7) (c := Tryd.f7.body.getD .skip) (ac := c7) (fz := [(6, 2), (7, 5013)]) (im := []) (kp := kp7) (rs := [.t 10]) (by kernel_rfl) (by kernel_rfl) (by kernel_rfl) (by kernel_rfl) (by kernel_rfl) h

/-- gridwright/gridwrightlaw57.PressLines -/
def kp9 (r : Nat) : List Nat := match r with
  | 0 => [1, 2]
  | 1 => [1, 2, 17]
  | 2 => [4]
  | 3 => [1, 2, 5, 6]
  | 4 => [1, 2, 5, 6, 7, 8]
  | 5 => [1, 2, 5, 6, 7, 32]
  | 6 => [4]
  | 7 => [1, 2, 5, 7, 34]
  | 8 => [4]
  | 9 => [1, 2, 5, 7, 9, 10]
  | 10 => [1, 2, 7, 9, 10, 45]
  | 11 => [1, 2, 7, 9, 10, 45, 46, 47]
  | 12 => [1, 2, 7, 9, 10, 12, 45]
  | 13 => [1, 2, 7, 9, 10, 12, 45, 50]
  | 14 => [1, 2, 7, 9, 10, 45]
  | 15 => [1, 2, 7, 9, 13, 45]
  | 16 => [1, 2, 7, 9, 13, 45, 58]
  | 17 => [1, 2, 7, 9, 45, 77]
  | 18 => [4]
  | 19 => [1, 2, 7, 9, 13, 45, 104]
  | 20 => [4]
  | 21 => [1, 2, 7, 9, 13, 14, 15, 45]
  | 22 => [1, 2, 7, 9, 45, 168]
  | 23 => [4]
  | 24 => [1, 2, 7, 9, 10, 45]
  | 25 => [4]
  | _ => []
def c9 : ACode :=
  (.seq
   (.reg 2 [
     ⟨some 2, none, .box 0 5 (.t 0)⟩,
     ⟨some 4, none, .v (.mv (.c (.bool false)))⟩] [1, 2])
   (.seq
    (.seq
     (.reg 0 [
       ⟨some 16, none, .call true (.c (.fn (.func 10) [] [])) []⟩,
       ⟨some 17, none, .v (.not (.t 16))⟩] [1, 2, 17])
     (.cond (.t 17)
      (.seq
       (.reg 0 [
         ⟨some 4, none, .v (.mv (.c (.bool false)))⟩] [4])
       .ret)
      .skip))
    (.seq
     (.reg 0 [
       ⟨some 19, none, .v (.ld 5 true (.t 2))⟩,
       ⟨some 20, none, .v (.mv (.t 1))⟩,
       ⟨some 21, none, .call true (.c (.fn (.func 11) [] [])) [(.t 19), (.t 20)]⟩,
       ⟨some 18, none, .v (.mv (.t 21))⟩,
       ⟨some 22, none, .v (.ext 0 (.t 18))⟩,
       ⟨some 23, none, .v (.ext 1 (.t 18))⟩,
       ⟨some 5, none, .v (.mv (.t 22))⟩,
       ⟨some 6, none, .v (.mv (.t 23))⟩] [1, 2, 5, 6])
     (.seq
      (.reg 0 [
        ⟨some 25, none, .v (.ld 5 true (.t 2))⟩,
        ⟨some 26, none, .v (.mv (.t 1))⟩,
        ⟨some 27, none, .call true (.c (.fn (.func 15) [] [])) [(.t 25), (.t 26)]⟩,
        ⟨some 24, none, .v (.mv (.t 27))⟩,
        ⟨some 28, none, .v (.ext 0 (.t 24))⟩,
        ⟨some 29, none, .v (.ext 1 (.t 24))⟩,
        ⟨some 7, none, .v (.mv (.t 28))⟩,
        ⟨some 8, none, .v (.mv (.t 29))⟩] [1, 2, 5, 6, 7, 8])
      (.seq
       (.seq
        (.reg 0 [
          ⟨some 30, none, .v (.mv (.t 6))⟩,
          ⟨some 31, none, .v (.mv (.t 8))⟩,
          ⟨some 32, none, .v (.icmp .neq .i64 (.t 30) (.t 31))⟩] [1, 2, 5, 6, 7, 32])
        (.cond (.t 32)
         (.seq
          (.reg 0 [
            ⟨some 4, none, .v (.mv (.c (.bool false)))⟩] [4])
          .ret)
         .skip))
       (.seq
        (.seq
         (.reg 0 [
           ⟨some 33, none, .v (.mv (.t 6))⟩,
           ⟨some 34, none, .v (.icmp .neq .i64 (.t 33) (.c (.int .i64 0)))⟩] [1, 2, 5, 7, 34])
         (.cond (.t 34)
          (.seq
           (.reg 0 [
             ⟨some 35, none, .v (.mv (.t 5))⟩,
             ⟨some 36, none, .v (.len (.t 35))⟩,
             ⟨some 37, none, .v (.icmp .eql .i64 (.t 36) (.c (.int .i64 0)))⟩,
             ⟨some 38, none, .v (.mv (.t 37))⟩,
             ⟨some 39, some (38, true), .v (.mv (.t 7))⟩,
             ⟨some 40, some (38, true), .v (.len (.t 39))⟩,
             ⟨some 41, some (38, true), .v (.icmp .eql .i64 (.t 40) (.c (.int .i64 0)))⟩,
             ⟨some 42, none, .pick (.t 38) (.t 41) (.c (.bool false))⟩,
             ⟨some 4, none, .v (.mv (.t 42))⟩] [4])
           .ret)
          .skip))
        (.seq
         (.reg 0 [
           ⟨some 9, none, .v (.mv (.c (.int .i64 (-1))))⟩,
           ⟨some 10, none, .v (.mv (.c (.str [])))⟩] [1, 2, 5, 7, 9, 10])
         (.seq
          (.seq
           (.reg 3 [
             ⟨some 43, none, .v (.mv (.t 5))⟩,
             ⟨some 44, none, .v (.b2s (.t 43))⟩,
             ⟨some 45, none, .ext (.srng 2) [(.t 44)]⟩] [1, 2, 7, 9, 10, 45])
           (.block 0
            (.loop
             (.seq
              (.reg 0 [
                ⟨some 46, none, .ext .snext [(.t 45)]⟩,
                ⟨some 47, none, .v (.ext 0 (.t 46))⟩] [1, 2, 7, 9, 10, 45, 46, 47])
              (.seq
               (.cond (.t 47)
                .skip
                (.exit 0))
               (.block 1
                (.seq
                 (.reg 0 [
                   ⟨some 48, none, .v (.ext 2 (.t 46))⟩,
                   ⟨some 12, none, .v (.mv (.t 48))⟩] [1, 2, 7, 9, 10, 12, 45])
                 (.seq
                  (.seq
                   (.reg 0 [
                     ⟨some 49, none, .v (.mv (.t 12))⟩,
                     ⟨some 50, none, .v (.icmp .neq .i32 (.t 49) (.c (.int .i32 10)))⟩] [1, 2, 7, 9, 10, 12, 45, 50])
                   (.cond (.t 50)
                    (.seq
                     (.reg 0 [
                       ⟨some 51, none, .v (.mv (.t 10))⟩,
                       ⟨some 52, none, .v (.mv (.t 12))⟩,
                       ⟨some 53, none, .ext .i2s [(.t 52)]⟩,
                       ⟨some 54, none, .v (.sadd (.t 51) (.t 53))⟩,
                       ⟨some 10, none, .v (.mv (.t 54))⟩] [1, 2, 7, 9, 10, 45])
                     (.exit 1))
                    .skip))
                  (.seq
                   (.reg 0 [
                     ⟨some 55, none, .v (.mv (.t 10))⟩,
                     ⟨some 56, none, .call true (.c (.fn (.func 21) [] [])) [(.t 55)]⟩,
                     ⟨some 13, none, .v (.mv (.t 56))⟩] [1, 2, 7, 9, 13, 45])
                   (.seq
                    (.seq
                     (.reg 0 [
                       ⟨some 57, none, .v (.mv (.t 9))⟩,
                       ⟨some 58, none, .v (.icmp .lss .i64 (.t 57) (.c (.int .i64 0)))⟩] [1, 2, 7, 9, 13, 45, 58])
                     (.cond (.t 58)
                      (.seq
                       (.reg 0 [
                         ⟨some 59, none, .v (.mv (.t 13))⟩,
                         ⟨some 60, none, .v (.len (.t 59))⟩,
                         ⟨some 61, none, .v (.icmp .neq .i64 (.t 60) (.c (.int .i64 2)))⟩,
                         ⟨some 62, none, .v (.mv (.t 61))⟩,
                         ⟨some 63, some (62, false), .v (.mv (.t 13))⟩,
                         ⟨some 64, some (62, false), .v (.ia 1 (.t 63) (.c (.int .i64 0)))⟩,
                         ⟨some 65, some (62, false), .v (.ld 1 false (.t 64))⟩,
                         ⟨some 66, some (62, false), .v (.fa 0 (.t 2))⟩,
                         ⟨some 67, some (62, false), .v (.ld 1 false (.t 66))⟩,
                         ⟨some 68, some (62, false), .v (.icmp .neq .i64 (.t 65) (.t 67))⟩,
                         ⟨some 69, none, .pick (.t 62) (.c (.bool true)) (.t 68)⟩,
                         ⟨some 70, none, .v (.mv (.t 69))⟩,
                         ⟨some 71, some (70, false), .v (.mv (.t 13))⟩,
                         ⟨some 72, some (70, false), .v (.ia 1 (.t 71) (.c (.int .i64 1)))⟩,
                         ⟨some 73, some (70, false), .v (.ld 1 false (.t 72))⟩,
                         ⟨some 74, some (70, false), .v (.fa 1 (.t 2))⟩,
                         ⟨some 75, some (70, false), .v (.ld 1 false (.t 74))⟩,
                         ⟨some 76, some (70, false), .v (.icmp .neq .i64 (.t 73) (.t 75))⟩,
                         ⟨some 77, none, .pick (.t 70) (.c (.bool true)) (.t 76)⟩] [1, 2, 7, 9, 45, 77])
                       (.cond (.t 77)
                        (.seq
                         (.reg 0 [
                           ⟨some 4, none, .v (.mv (.c (.bool false)))⟩] [4])
                         .ret)
                        .skip))
                      (.seq
                       (.seq
                        (.reg 0 [
                          ⟨some 78, none, .v (.mv (.t 9))⟩,
                          ⟨some 79, none, .v (.mv (.t 7))⟩,
                          ⟨some 80, none, .v (.len (.t 79))⟩,
                          ⟨some 81, none, .v (.icmp .geq .i64 (.t 78) (.t 80))⟩,
                          ⟨some 82, none, .v (.mv (.t 81))⟩,
                          ⟨some 83, some (82, false), .v (.mv (.t 7))⟩,
                          ⟨some 84, some (82, false), .v (.mv (.t 9))⟩,
                          ⟨some 85, some (82, false), .v (.ia 4 (.t 83) (.t 84))⟩,
                          ⟨some 86, some (82, false), .v (.fa 0 (.t 85))⟩,
                          ⟨some 87, some (82, false), .v (.ld 1 false (.t 86))⟩,
                          ⟨some 88, some (82, false), .v (.icmp .lss .i64 (.t 87) (.c (.int .i64 0)))⟩,
                          ⟨some 89, none, .pick (.t 82) (.c (.bool true)) (.t 88)⟩,
                          ⟨some 90, none, .v (.mv (.t 89))⟩,
                          ⟨some 91, some (90, false), .v (.mv (.t 7))⟩,
                          ⟨some 92, some (90, false), .v (.mv (.t 9))⟩,
                          ⟨some 93, some (90, false), .v (.ia 4 (.t 91) (.t 92))⟩,
                          ⟨some 94, some (90, false), .v (.fa 0 (.t 93))⟩,
                          ⟨some 95, some (90, false), .v (.ld 1 false (.t 94))⟩,
                          ⟨some 96, some (90, false), .v (.mv (.t 1))⟩,
                          ⟨some 97, some (90, false), .v (.len (.t 96))⟩,
                          ⟨some 98, some (90, false), .v (.icmp .geq .i64 (.t 95) (.t 97))⟩,
                          ⟨some 99, none, .pick (.t 90) (.c (.bool true)) (.t 98)⟩,
                          ⟨some 100, none, .v (.mv (.t 99))⟩,
                          ⟨some 101, some (100, false), .v (.mv (.t 13))⟩,
                          ⟨some 102, some (100, false), .v (.len (.t 101))⟩,
                          ⟨some 103, some (100, false), .v (.icmp .neq .i64 (.t 102) (.c (.int .i64 6)))⟩,
                          ⟨some 104, none, .pick (.t 100) (.c (.bool true)) (.t 103)⟩] [1, 2, 7, 9, 13, 45, 104])
                        (.cond (.t 104)
                         (.seq
                          (.reg 0 [
                            ⟨some 4, none, .v (.mv (.c (.bool false)))⟩] [4])
                          .ret)
                         .skip))
                       (.seq
                        (.regx 16 [
                          (0, ⟨some 105, none, .v (.mv (.t 7))⟩),
                          (0, ⟨some 106, none, .v (.mv (.t 9))⟩),
                          (0, ⟨some 107, none, .v (.ia 4 (.t 105) (.t 106))⟩),
                          (1, ⟨some 108, none, .v (.ld 4 true (.t 107))⟩),
                          (0, ⟨some 109, none, .v (.mv (.t 1))⟩),
                          (0, ⟨some 110, none, .v (.mv (.t 7))⟩),
                          (0, ⟨some 111, none, .v (.mv (.t 9))⟩),
                          (0, ⟨some 112, none, .v (.ia 4 (.t 110) (.t 111))⟩),
                          (0, ⟨some 113, none, .v (.fa 0 (.t 112))⟩),
                          (1, ⟨some 114, none, .v (.ld 1 false (.t 113))⟩),
                          (0, ⟨some 115, none, .v (.ia 4 (.t 109) (.t 114))⟩),
                          (1, ⟨some 116, none, .v (.ld 4 true (.t 115))⟩),
                          (0, ⟨some 14, none, .alloc 12 [(.int .i64 0), (.int .i64 0), (.int .i64 0), (.int .i64 0)]⟩),
                          (0, ⟨some 15, none, .alloc 13 [(.int .i64 0), (.int .i64 0), (.int .i64 0), (.int .i64 0)]⟩),
                          (2, ⟨none, none, .st 4 (.t 14) (.t 108)⟩),
                          (2, ⟨none, none, .st 4 (.t 15) (.t 116)⟩)] [1, 2, 7, 9, 13, 14, 15, 45])
                        (.seq
                         (.reg 0 [
                           ⟨some 117, none, .v (.mv (.t 13))⟩,
                           ⟨some 118, none, .v (.ia 1 (.t 117) (.c (.int .i64 0)))⟩,
                           ⟨some 119, none, .v (.ld 1 false (.t 118))⟩,
                           ⟨some 120, none, .v (.fa 1 (.t 14))⟩,
                           ⟨some 121, none, .v (.ld 1 false (.t 120))⟩,
                           ⟨some 122, none, .v (.icmp .neq .i64 (.t 119) (.t 121))⟩,
                           ⟨some 123, none, .v (.mv (.t 122))⟩,
                           ⟨some 124, some (123, false), .v (.mv (.t 13))⟩,
                           ⟨some 125, some (123, false), .v (.ia 1 (.t 124) (.c (.int .i64 1)))⟩,
                           ⟨some 126, some (123, false), .v (.ld 1 false (.t 125))⟩,
                           ⟨some 127, some (123, false), .v (.fa 2 (.t 14))⟩,
                           ⟨some 128, some (123, false), .v (.ld 1 false (.t 127))⟩,
                           ⟨some 129, some (123, false), .v (.icmp .neq .i64 (.t 126) (.t 128))⟩,
                           ⟨some 130, none, .pick (.t 123) (.c (.bool true)) (.t 129)⟩,
                           ⟨some 131, none, .v (.mv (.t 130))⟩,
                           ⟨some 132, some (131, false), .v (.mv (.t 13))⟩,
                           ⟨some 133, some (131, false), .v (.ia 1 (.t 132) (.c (.int .i64 2)))⟩,
                           ⟨some 134, some (131, false), .v (.ld 1 false (.t 133))⟩,
                           ⟨some 135, some (131, false), .v (.fa 3 (.t 14))⟩,
                           ⟨some 136, some (131, false), .v (.ld 1 false (.t 135))⟩,
                           ⟨some 137, some (131, false), .v (.icmp .neq .i64 (.t 134) (.t 136))⟩,
                           ⟨some 138, none, .pick (.t 131) (.c (.bool true)) (.t 137)⟩,
                           ⟨some 139, none, .v (.mv (.t 138))⟩,
                           ⟨some 140, some (139, false), .v (.mv (.t 13))⟩,
                           ⟨some 141, some (139, false), .v (.ia 1 (.t 140) (.c (.int .i64 3)))⟩,
                           ⟨some 142, some (139, false), .v (.ld 1 false (.t 141))⟩,
                           ⟨some 143, some (139, false), .v (.fa 2 (.t 15))⟩,
                           ⟨some 144, some (139, false), .v (.ld 1 false (.t 143))⟩,
                           ⟨some 145, some (139, false), .v (.fa 4 (.t 2))⟩,
                           ⟨some 146, some (139, false), .v (.ld 1 false (.t 145))⟩,
                           ⟨some 147, some (139, false), .v (.arith .mul .i64 (.t 144) (.t 146))⟩,
                           ⟨some 148, some (139, false), .v (.icmp .neq .i64 (.t 142) (.t 147))⟩,
                           ⟨some 149, none, .pick (.t 139) (.c (.bool true)) (.t 148)⟩,
                           ⟨some 150, none, .v (.mv (.t 149))⟩,
                           ⟨some 151, some (150, false), .v (.mv (.t 13))⟩,
                           ⟨some 152, some (150, false), .v (.ia 1 (.t 151) (.c (.int .i64 4)))⟩,
                           ⟨some 153, some (150, false), .v (.ld 1 false (.t 152))⟩,
                           ⟨some 154, some (150, false), .v (.fa 3 (.t 15))⟩,
                           ⟨some 155, some (150, false), .v (.ld 1 false (.t 154))⟩,
                           ⟨some 156, some (150, false), .v (.fa 4 (.t 2))⟩,
                           ⟨some 157, some (150, false), .v (.ld 1 false (.t 156))⟩,
                           ⟨some 158, some (150, false), .v (.arith .mul .i64 (.t 155) (.t 157))⟩,
                           ⟨some 159, some (150, false), .v (.icmp .neq .i64 (.t 153) (.t 158))⟩,
                           ⟨some 160, none, .pick (.t 150) (.c (.bool true)) (.t 159)⟩,
                           ⟨some 161, none, .v (.mv (.t 160))⟩,
                           ⟨some 162, some (161, false), .v (.mv (.t 13))⟩,
                           ⟨some 163, some (161, false), .v (.ia 1 (.t 162) (.c (.int .i64 5)))⟩,
                           ⟨some 164, some (161, false), .v (.ld 1 false (.t 163))⟩,
                           ⟨some 165, some (161, false), .v (.fa 1 (.t 15))⟩,
                           ⟨some 166, some (161, false), .v (.ld 1 false (.t 165))⟩,
                           ⟨some 167, some (161, false), .v (.icmp .neq .i64 (.t 164) (.t 166))⟩,
                           ⟨some 168, none, .pick (.t 161) (.c (.bool true)) (.t 167)⟩] [1, 2, 7, 9, 45, 168])
                         (.cond (.t 168)
                          (.seq
                           (.reg 0 [
                             ⟨some 4, none, .v (.mv (.c (.bool false)))⟩] [4])
                           .ret)
                          .skip))))))
                    (.reg 0 [
                      ⟨some 169, none, .v (.mv (.t 9))⟩,
                      ⟨some 170, none, .v (.arith .add .i64 (.t 169) (.c (.int .i64 1)))⟩,
                      ⟨some 9, none, .v (.mv (.t 170))⟩,
                      ⟨some 10, none, .v (.mv (.c (.str [])))⟩] [1, 2, 7, 9, 10, 45])))))))))))
          (.seq
           (.reg 0 [
             ⟨some 171, none, .v (.mv (.t 10))⟩,
             ⟨some 172, none, .v (.scmp .eql (.t 171) (.c (.str [])))⟩,
             ⟨some 173, none, .v (.mv (.t 172))⟩,
             ⟨some 174, some (173, true), .v (.mv (.t 9))⟩,
             ⟨some 175, some (173, true), .v (.mv (.t 7))⟩,
             ⟨some 176, some (173, true), .v (.len (.t 175))⟩,
             ⟨some 177, some (173, true), .v (.icmp .eql .i64 (.t 174) (.t 176))⟩,
             ⟨some 178, none, .pick (.t 173) (.t 177) (.c (.bool false))⟩,
             ⟨some 4, none, .v (.mv (.t 178))⟩] [4])
           .ret)))))))))
theorem l9 : Callable Tryd.prog 9 := ⟨Tryd.f9, by kernel_rfl, by kernel_rfl, by kernel_rfl⟩
theorem a9 {args : List AVal} {H : AHeap} {n : Nat} {R : AOut → AHeap → Nat → Prop} (h : awp Tryd.prog c9 (postC [.t 4] R) ⟨penv 0 args, H, n⟩) : ACalls Tryd.prog 9 args H n R :=
  acalls_of_awp' (fn := Tryd.f9) (c := Tryd.f9.body.getD .skip) (ac := c9) (fz := []) (im := []) (kp := kp9) (rs := [.t 4]) (by kernel_rfl) (by kernel_rfl) (by kernel_rfl) (by kernel_rfl) (by kernel_rfl) h

/-- gridwright/gridwrightlaw57.numbers -/
def kp21 (r : Nat) : List Nat := match r with
  | 0 => [0, 2]
  | 1 => [0, 2, 3]
  | 2 => [0, 2, 3, 4]
  | 3 => [0, 2, 3, 4, 9]
  | 5 => [0, 2, 3, 4, 5]
  | 6 => [0, 2, 3, 4, 5, 20]
  | 7 => [0, 2, 3, 4]
  | 8 => [0, 2, 4, 5, 22]
  | 9 => [0, 2, 4, 5]
  | 10 => [0, 2, 3, 4, 5]
  | 11 => [0, 2, 3, 4]
  | 4 => [0, 2, 3, 4]
  | 12 => [2]
  | _ => []
def c21 : ACode :=
  (.seq
   (.reg 0 [
     ⟨some 2, none, .v (.mv (.c (.sl .nil [])))⟩] [0, 2])
   (.seq
    (.reg 0 [
      ⟨some 3, none, .v (.mv (.c (.bool false)))⟩] [0, 2, 3])
    (.seq
     (.seq
      (.reg 0 [
        ⟨some 4, none, .v (.mv (.c (.int .i64 0)))⟩] [0, 2, 3, 4])
      (.block 0
       (.loop
        (.seq
         (.seq
          (.reg 0 [
            ⟨some 6, none, .v (.mv (.t 4))⟩,
            ⟨some 7, none, .v (.mv (.t 0))⟩,
            ⟨some 8, none, .v (.lenS (.t 7))⟩,
            ⟨some 9, none, .v (.icmp .lss .i64 (.t 6) (.t 8))⟩] [0, 2, 3, 4, 9])
          (.cond (.t 9)
           .skip
           (.exit 0)))
         (.seq
          (.block 1
           (.seq
            (.reg 0 [
              ⟨some 12, none, .v (.mv (.t 0))⟩,
              ⟨some 13, none, .v (.mv (.t 4))⟩,
              ⟨some 14, none, .v (.ixS (.t 12) (.t 13))⟩,
              ⟨some 5, none, .v (.mv (.t 14))⟩] [0, 2, 3, 4, 5])
            (.seq
             (.seq
              (.reg 0 [
                ⟨some 15, none, .v (.mv (.t 5))⟩,
                ⟨some 16, none, .v (.icmp .lss .u8 (.t 15) (.c (.int .u8 48)))⟩,
                ⟨some 17, none, .v (.mv (.t 16))⟩,
                ⟨some 18, some (17, false), .v (.mv (.t 5))⟩,
                ⟨some 19, some (17, false), .v (.icmp .gtr .u8 (.t 18) (.c (.int .u8 57)))⟩,
                ⟨some 20, none, .pick (.t 17) (.c (.bool true)) (.t 19)⟩] [0, 2, 3, 4, 5, 20])
              (.cond (.t 20)
               (.seq
                (.reg 0 [
                  ⟨some 3, none, .v (.mv (.c (.bool false)))⟩] [0, 2, 3, 4])
                (.exit 1))
               .skip))
             (.seq
              (.seq
               (.reg 0 [
                 ⟨some 21, none, .v (.mv (.t 3))⟩,
                 ⟨some 22, none, .v (.not (.t 21))⟩] [0, 2, 4, 5, 22])
               (.cond (.t 22)
                (.reg 4 [
                  ⟨some 23, none, .v (.mv (.t 2))⟩,
                  ⟨some 24, none, .v (.bs 1 1 (.int .i64 0) [(0, (.c (.int .i64 0)))])⟩,
                  ⟨some 25, none, .appR 2 1 8 (.int .i64 0) (.t 23) (.t 24) false⟩,
                  ⟨some 2, none, .v (.mv (.t 25))⟩] [0, 2, 4, 5])
                .skip))
              (.seq
               (.reg 0 [
                 ⟨some 3, none, .v (.mv (.c (.bool true)))⟩] [0, 2, 3, 4, 5])
               (.reg 0 [
                 ⟨some 26, none, .v (.mv (.t 2))⟩,
                 ⟨some 27, none, .v (.mv (.t 2))⟩,
                 ⟨some 28, none, .v (.len (.t 27))⟩,
                 ⟨some 29, none, .v (.arith .sub .i64 (.t 28) (.c (.int .i64 1)))⟩,
                 ⟨some 30, none, .v (.mv (.t 2))⟩,
                 ⟨some 31, none, .v (.mv (.t 2))⟩,
                 ⟨some 32, none, .v (.len (.t 31))⟩,
                 ⟨some 33, none, .v (.arith .sub .i64 (.t 32) (.c (.int .i64 1)))⟩,
                 ⟨some 34, none, .v (.ia 1 (.t 30) (.t 33))⟩,
                 ⟨some 35, none, .v (.ld 1 false (.t 34))⟩,
                 ⟨some 36, none, .v (.arith .mul .i64 (.c (.int .i64 10)) (.t 35))⟩,
                 ⟨some 37, none, .v (.mv (.t 5))⟩,
                 ⟨some 38, none, .v (.arith .sub .u8 (.t 37) (.c (.int .u8 48)))⟩,
                 ⟨some 39, none, .v (.conv .i64 (.t 38))⟩,
                 ⟨some 40, none, .v (.arith .add .i64 (.t 36) (.t 39))⟩,
                 ⟨some 41, none, .v (.mnmx false .i64 [(.t 40), (.c (.int .i64 1099511627776))])⟩,
                 ⟨some 42, none, .v (.ia 1 (.t 26) (.t 29))⟩,
                 ⟨none, none, .st 1 (.t 42) (.t 41)⟩] [0, 2, 3, 4]))))))
          (.reg 0 [
            ⟨some 10, none, .v (.mv (.t 4))⟩,
            ⟨some 11, none, .v (.arith .add .i64 (.t 10) (.c (.int .i64 1)))⟩,
            ⟨some 4, none, .v (.mv (.t 11))⟩] [0, 2, 3, 4]))))))
     (.seq
      (.seq
       (.reg 0 [
         ⟨some 43, none, .v (.mv (.t 2))⟩,
         ⟨some 2, none, .v (.mv (.t 43))⟩] [2])
       (.frzo 2))
      .ret))))
theorem l21 : Callable Tryd.prog 21 := ⟨Tryd.f21, by kernel_rfl, by kernel_rfl, by kernel_rfl⟩
theorem a21 {args : List AVal} {H : AHeap} {n : Nat} {R : AOut → AHeap → Nat → Prop} (h : awp Tryd.prog c21 (postC [.t 2] R) ⟨penv 0 args, H, n⟩) : ACalls Tryd.prog 21 args H n R :=
  acalls_of_awp' (fn := Tryd.f21) (c := Tryd.f21.body.getD .skip) (ac := c21) (fz := [(9, 2), (12, 5002)]) (im := []) (kp := kp21) (rs := [.t 2]) (by kernel_rfl) (by kernel_rfl) (by kernel_rfl) (by kernel_rfl) (by kernel_rfl) h

end Go.AM
end

/- Booklets: the laws, part 5: PressOrder. Conditions: none. -/
section
set_option maxRecDepth 10000
set_option linter.unusedSimpArgs false
set_option linter.unusedVariables false
set_option maxHeartbeats 1000000
set_option linter.unusedVariables false
set_option linter.unusedSimpArgs false
namespace Go.AM
open Go.Proofs Go.Lib

/-! the plain law -/
def oneS (p : Pap) (l : List Blk) (x : Plc) : Bool := match blkAt l x with
  | none => false
  | some a => withinS p a x
def twoS (p : Pap) (l : List Blk) (x y : Plc) : Bool := match blkAt l x with
  | none => true
  | some a => match blkAt l y with
    | none => true
    | some b => pairS p a b x y
theorem pair_comm (p : Pap) (a b : Blk) (x y : Plc) : pairS p a b x y = pairS p b a y x := by
  unfold pairS
  rw [Bool.eq_iff_iff]
  simp only [Bool.and_eq_true, Bool.not_eq_true', Bool.or_eq_false_iff, Bool.and_eq_false_iff, decide_eq_false_iff_not]
  constructor <;> (rintro ⟨⟨h1, h2⟩, h3⟩; refine ⟨⟨fun e => h1 e.symm, ?_⟩, ?_⟩)
  · rcases h2 with (h2 | h2) | h2
    · exact .inl (.inl fun e => h2 e.symm)
    · exact .inr h2
    · exact .inl (.inr h2)
  · rcases h3 with (h3 | h3) | ⟨h3, h4⟩
    · exact .inl (.inl fun e => h3 e.symm)
    · exact .inl (.inr fun e => h3 e.symm)
    · exact .inr ⟨h4.symm, h3.symm⟩
  · rcases h2 with (h2 | h2) | h2
    · exact .inl (.inl fun e => h2 e.symm)
    · exact .inr h2
    · exact .inl (.inr h2)
  · rcases h3 with (h3 | h3) | ⟨h3, h4⟩
    · exact .inl (.inl fun e => h3 e.symm)
    · exact .inl (.inr fun e => h3 e.symm)
    · exact .inr ⟨h4.symm, h3.symm⟩
theorem two_comm {p : Pap} {l : List Blk} {x y : Plc} (h : twoS p l x y = true) : twoS p l y x = true := by
  unfold twoS at h ⊢
  cases h1 : blkAt l x <;> cases h2 : blkAt l y <;> simp only [h1, h2] at h ⊢
  rw [pair_comm]; exact h
theorem vok_iff {p : Pap} {l : List Blk} {xs : List Plc} : (List.range xs.length).all (vokS p l xs) = true ↔ (∀ x ∈ xs, oneS p l x = true) ∧ xs.Pairwise fun x y => twoS p l x y = true := by
  rw [List.all_eq_true]
  constructor
  · intro h
    refine ⟨fun x hx => ?_, List.pairwise_iff_getElem.2 fun i j hi hj hij => ?_⟩
    · obtain ⟨i, hi, rfl⟩ := List.getElem_of_mem hx
      have := h i (by simpa using hi)
      unfold vokS at this
      rw [List.getElem?_eq_getElem hi] at this
      unfold oneS
      cases hb : blkAt l xs[i] with
      | none => simp [hb] at this
      | some a => simp only [hb, Bool.and_eq_true] at this ⊢; exact this.1
    · have := h j (by simpa using hj)
      unfold vokS at this
      rw [List.getElem?_eq_getElem hj] at this
      refine two_comm ?_
      unfold twoS
      cases hb : blkAt l xs[j] with
      | none => rfl
      | some a =>
        simp only [hb, Bool.and_eq_true, List.all_eq_true] at this ⊢
        have := this.2 i (by simpa using hij)
        rw [List.getElem?_eq_getElem hi] at this
        exact this
  · rintro ⟨h1, h2⟩ i hi
    have hi : i < xs.length := by simpa using hi
    have ho := h1 _ (List.getElem_mem hi)
    unfold oneS at ho
    unfold vokS
    rw [List.getElem?_eq_getElem hi]
    cases hb : blkAt l xs[i] with
    | none => simp [hb] at ho
    | some a =>
      simp only [hb] at ho
      simp only [hb, ho, Bool.true_and, List.all_eq_true]
      intro k hk
      have hk : k < i := by simpa using hk
      have := two_comm (List.pairwise_iff_getElem.1 h2 k i (by omega) hi hk)
      rw [List.getElem?_eq_getElem (by omega : k < xs.length)]
      unfold twoS at this
      cases hb2 : blkAt l xs[k] with
      | none => simp [hb2]
      | some b => simpa only [hb, hb2] using this
theorem valid_perm {p : Pap} {l : List Blk} {xs ys : List Plc} (h : ys.Perm xs) : validS p l ys = validS p l xs := by
  have e : (List.range ys.length).all (vokS p l ys) = (List.range xs.length).all (vokS p l xs) := by
    rw [Bool.eq_iff_iff, vok_iff, vok_iff]
    exact and_congr ⟨fun q x hx => q x (h.mem_iff.2 hx), fun q x hx => q x (h.mem_iff.1 hx)⟩ (h.pairwise_iff two_comm)
  unfold validS
  rw [e, h.length_eq]
theorem valid_2 {p : Pap} {l : List Blk} {xs : List Plc} (h : checkS p l = 0) : (validS p l xs).2 = 0 := by
  unfold validS
  rw [if_pos h]
  split <;> rfl
theorem valid_len {p : Pap} {l : List Blk} {xs : List Plc} (h : (validS p l xs).1 = true) : xs.length = l.length := by
  unfold validS at h
  split at h
  · split at h
    · assumption
    · cases h
  · cases h
theorem valid_twice {p : Pap} {l : List Blk} {ys : List Plc} {y : Plc} (hy : y ∈ ys) : (validS p l (ys ++ [y])).1 = false := by
  unfold validS
  split
  case isFalse => rfl
  split
  case isFalse => rfl
  simp only []
  cases hv : (List.range (ys ++ [y]).length).all (vokS p l (ys ++ [y])) with
  | false => rfl
  | true =>
    exfalso
    obtain ⟨h1, h2⟩ := vok_iff.1 hv
    have h3 := (List.pairwise_append.1 h2).2.2 y hy y (by simp)
    have h4 := h1 y (by simp)
    unfold oneS at h4
    unfold twoS at h3
    cases hb : blkAt l y with
    | none => simp [hb] at h4
    | some a => simp [hb, pairS] at h3

/-! the function -/
def swapL (xs : List Plc) (a b : Nat) (ha : a < xs.length) (hb : b < xs.length) : List Plc := (xs.set a xs[b]).set b xs[a]
theorem swapL_perm (xs : List Plc) (a b : Nat) (ha : a < xs.length) (hb : b < xs.length) : (swapL xs a b ha hb).Perm xs := List.set_set_perm ha hb
theorem p7 (p : Pap) (l : List Blk) (xs : List Plc) (i j : Nat) (hx : okP xs) (hi : i < 256) (hj : j < 256) :
    Pur Tryd.prog 7 [encP p, .sl (.none 4) (l.map encB), .sl (.none 4) (xs.map encX), .int .u8 i, .int .u8 j] (.bool true) := by
  refine .mk ⟨by simp [unders, AVal.under], ⟨trivial, encB_under 0 l⟩, ⟨trivial, encX_under 0 xs⟩, trivial, trivial, trivial⟩ trivial (a7 (ev_awp T20_ok (ev_evK ?_)))
  have wi : IntKind.wrap .i64 (i : Int) = i := w64_in (by omega) (by omega)
  have wj : IntKind.wrap .i64 (j : Int) = j := w64_in (by omega) (by omega)
  by_cases hn : 200 < xs.length
  · have h1 : ((200 : Int) < (xs.length : Int)) = True := eq_true (by omega)
    simp only [kont_nil, kont_n, kont_r, k_skip, k_ret, k_seq, k_cond, k_reg, r_appR, r_nil, r_v, r_vg, r_pick, r_box, r_call, r_callg, callT, penv, postC, rcs, rc1, rvS, gok, gvb, eget, lk, lkv, oks, AS.put, AS.keep, evk, evS_eq, allS, fillS, Opk.opds, aload, isI, isInt, toI, isB, toB, sel, mk, icmp, iarith, nT, hget_hset, hget_nil, AVal.cells, Tok.esz, List.length_cons, List.length_nil, List.filterMap, List.map_cons, List.map_nil, List.append_nil, List.nil_append, Option.map_some, reduceCtorEq, and_true, true_and, forall_const, Nat.reduceEqDiff, ↓reduceIte, Bool.false_eq_true, Nat.reduceAdd, List.drop, List.take, List.take_succ_cons, Nat.reduceLeDiff, Nat.reduceMul, List.replicate_zero, Nat.le_refl, Bool.true_and, isDiv, false_implies, implies_true, Nat.zero_add, imp_self, beq_false, Bool.not_eq_true', Bool.not_eq_false', ne_eq, and_self, true_or, ret_eq, Nat.add_zero, srcOf, wk_bool, decide_true, cond_true, c7, T20_10, T20_13, s10, s13, List.length_map, pap_eta, encd_map, decB_map, h1]
  have h1 : ((200 : Int) < (xs.length : Int)) = False := eq_false (by omega)
  by_cases h0 : xs.length = 0
  · have h2 : ((xs.length : Int) = 0) = True := eq_true (by omega)
    simp only [kont_nil, kont_n, kont_r, k_skip, k_ret, k_seq, k_cond, k_reg, r_appR, r_nil, r_v, r_vg, r_pick, r_box, r_call, r_callg, callT, penv, postC, rcs, rc1, rvS, gok, gvb, eget, lk, lkv, oks, AS.put, AS.keep, evk, evS_eq, allS, fillS, Opk.opds, aload, isI, isInt, toI, isB, toB, sel, mk, icmp, iarith, nT, hget_hset, hget_nil, AVal.cells, Tok.esz, List.length_cons, List.length_nil, List.filterMap, List.map_cons, List.map_nil, List.append_nil, List.nil_append, Option.map_some, reduceCtorEq, and_true, true_and, forall_const, Nat.reduceEqDiff, ↓reduceIte, Bool.false_eq_true, Nat.reduceAdd, List.drop, List.take, List.take_succ_cons, Nat.reduceLeDiff, Nat.reduceMul, List.replicate_zero, Nat.le_refl, Bool.true_and, Bool.and_true, beq_self_eq_true, isDiv, implies_true, Nat.zero_add, imp_self, beq_false, Bool.not_eq_true', Bool.not_eq_false', ne_eq, not_true_eq_false, and_self, true_or, ret_eq, Nat.add_zero, srcOf, wk_bool, decide_true, decide_false, cond_true, cond_false, c7, T20_10, T20_13, s10, s13, List.length_map, pap_eta, encd_map, decB_map, h1, h2, false_and]
  have h2 : ((xs.length : Int) = 0) = False := eq_false (by omega)
  by_cases hc : checkS p l = 0
  case neg =>
    simp only [kont_nil, kont_n, kont_r, k_skip, k_ret, k_seq, k_cond, k_reg, r_appR, r_nil, r_v, r_vg, r_pick, r_box, r_call, r_callg, callT, penv, postC, rcs, rc1, rvS, gok, gvb, eget, lk, lkv, oks, AS.put, AS.keep, evk, evS_eq, allS, fillS, Opk.opds, aload, isI, isInt, toI, isB, toB, sel, mk, icmp, iarith, nT, hget_hset, hget_nil, AVal.cells, Tok.esz, List.length_cons, List.length_nil, List.filterMap, List.map_cons, List.map_nil, List.append_nil, List.nil_append, Option.map_some, reduceCtorEq, true_and, forall_const, Nat.reduceEqDiff, ↓reduceIte, Bool.false_eq_true, Nat.reduceAdd, List.drop, List.take, List.take_succ_cons, Nat.reduceLeDiff, Nat.reduceMul, List.replicate_zero, Nat.le_refl, Bool.and_true, beq_self_eq_true, isDiv, false_implies, implies_true, Nat.zero_add, imp_self, Bool.not_eq_true', Bool.not_eq_false', ne_eq, not_false_eq_true, and_self, true_or, ret_eq, Nat.add_zero, srcOf, wk_bool, decide_false, cond_false, c7, T20_10, T20_13, s10, s13, List.length_map, pap_eta, encd_map, decB_map, h1, h2, hc]
  have ma : Int.tmod (i : Int) (xs.length : Int) = ((i % xs.length : Nat) : Int) := by rw [Int.tmod_eq_emod_of_nonneg (by omega)]; omega
  have mb : Int.tmod (j : Int) (xs.length : Int) = ((j % xs.length : Nat) : Int) := by rw [Int.tmod_eq_emod_of_nonneg (by omega)]; omega
  have ha : i % xs.length < xs.length := Nat.mod_lt _ (by omega)
  have hb : j % xs.length < xs.length := Nat.mod_lt _ (by omega)
  generalize i % xs.length = a at ma ha
  generalize j % xs.length = b at mb hb
  have e0 : (List.map encX xs = []) = False := eq_false (by intro e; exact h0 (by simpa using congrArg List.length e))
  simp only [kont_nil, kont_n, kont_r, k_skip, k_ret, k_seq, k_cond, k_reg, r_appR, r_nil, r_v, r_vg, r_pick, r_box, r_call, r_callg, callT, penv, postC, rcs, rc1, rvS, gok, gvb, eget, lk, lkv, oks, AS.put, AS.keep, evk, evS_eq, allS, fillS, Opk.opds, aload, isI, isInt, toI, isB, toB, sel, mk, icmp, iarith, nT, hget_hset, hget_nil, AVal.cells, Tok.esz, List.length_cons, List.length_nil, List.filterMap, List.map_cons, List.map_nil, List.append_nil, List.nil_append, Option.map_some, reduceCtorEq, true_and, forall_const, Nat.reduceEqDiff, ↓reduceIte, Bool.false_eq_true, Nat.reduceAdd, List.drop, List.take, List.take_succ_cons, Nat.reduceLeDiff, Nat.reduceMul, Nat.reduceLT, List.replicate_zero, Nat.le_refl, Bool.and_true, beq_self_eq_true, isDiv, false_implies, implies_true, Nat.zero_add, imp_self, Bool.not_eq_true', Bool.not_eq_false', ne_eq, not_false_eq_true, and_self, or_true, true_or, ret_eq, Nat.add_zero, srcOf, wk_bool, decide_true, decide_false, cond_false, c7, T20_10, T20_13, s10, s13, List.length_map, pap_eta, encd_map, decB_map, h1, h2, hc, wi, wj, ma, mb, appRK_sl, e0, small]
  refine ⟨by omega, by omega, fun cap hcap => ?_⟩
  obtain ⟨zs, hzs⟩ : ∃ zs : List AVal, zs = List.replicate (cap - xs.length) (.agg [.int .i64 0, .int .i64 0, .int .i64 0, .int .i64 0]) := ⟨_, rfl⟩
  have hzl : zs.length = cap - xs.length := by rw [hzs]; simp
  rw [← hzs]
  clear hzs
  have hL : (List.map encX xs ++ zs).length = cap := by simp; omega
  have hLa : (List.map encX xs ++ zs)[a]? = some (encX xs[a]) := by rw [List.getElem?_append_left (by simpa using ha)]; simp [ha]
  have hLb : (List.map encX xs ++ zs)[b]? = some (encX xs[b]) := by rw [List.getElem?_append_left (by simpa using hb)]; simp [hb]
  obtain ⟨ys, hys⟩ : ∃ ys, ys = swapL xs a b ha hb := ⟨_, rfl⟩
  have hsw : List.take xs.length (((List.map encX xs ++ zs).set a (encX xs[b])).set b (encX xs[a])) = ys.map encX := by
    rw [hys, List.set_append_left _ _ (by simpa using ha), List.set_append_left _ _ (by simpa using hb), List.take_append_of_le_length (by simp), List.take_of_length_le (by simp)]
    unfold swapL
    rw [List.map_set, List.map_set]
  have hperm : ys.Perm xs := by rw [hys]; exact swapL_perm xs a b ha hb
  have hyl : ys.length = xs.length := hperm.length_eq
  have oky : okP ys := fun y hy => hx y (hperm.mem_iff.1 hy)
  have okd : okP (ys.drop 1) := fun y hy => oky y (List.mem_of_mem_drop hy)
  obtain ⟨y0, hy0⟩ : ∃ y0, ys[0]? = some y0 := ⟨ys[0]'(by omega), List.getElem?_eq_getElem (by omega)⟩
  have hy0m : y0 ∈ ys := List.mem_of_getElem? hy0
  have oka : okP (ys ++ [y0]) := fun y hy => by
    rcases List.mem_append.1 hy with hy | hy
    · exact oky y hy
    · rw [List.mem_singleton.1 hy]; exact oky y0 hy0m
  have hm0 : (List.map encX ys)[0]? = some (encX y0) := by rw [List.getElem?_map, hy0]; rfl
  have hdr : (List.map encX ys).drop 1 = (ys.drop 1).map encX := by rw [List.map_drop]
  have hap : List.map encX ys ++ [encX y0] = (ys ++ [y0]).map encX := by simp
  have ca : (0 ≤ (a : Int)) = True := eq_true (by omega)
  have cb : (0 ≤ (b : Int)) = True := eq_true (by omega)
  have ca2 : ((a : Int) < (xs.length : Int)) = True := eq_true (by omega)
  have cb2 : ((b : Int) < (xs.length : Int)) = True := eq_true (by omega)
  have cac : (a < cap) = True := eq_true (by omega)
  have cbc : (b < cap) = True := eq_true (by omega)
  have v2 : ∀ zs, (validS p l zs).2 = 0 := fun _ => valid_2 hc
  have vp : validS p l ys = validS p l xs := valid_perm hperm
  have vt : (validS p l (ys ++ [y0])).1 = false := valid_twice hy0m
  have hl1 : (1 : Int) ≤ xs.length := by omega
  have hl0 : 0 < xs.length := by omega
  simp only [kont_nil, kont_n, k_ret, k_seq, k_reg, k_frzo, r_nil, r_v, r_vg, r_pick, r_pickg, r_st, r_call, r_app, stE, appE, frzoE, callT, postC, rcs, rc1, rvS, gok, gvb, eget, lk, lkv, oks, AS.put, AS.keep, evk, evS_eq, allS, fillS, Opk.opds, aload, isI, isInt, toI, isB, toB, sel, mk, icmp, bnd, bndI, nT, hget_hset, hget_nil, AVal.cells, Tok.esz, Option.toList, List.length_cons, List.length_nil, List.filterMap, List.map_cons, List.map_nil, List.append_nil, List.nil_append, Option.map_some, Option.map_none, reduceCtorEq, and_true, true_and, forall_const, Nat.reduceEqDiff, ↓reduceIte, Bool.false_eq_true, Nat.reduceAdd, List.drop, List.take, Nat.reduceLeDiff, Nat.reduceMul, Nat.reduceLT, Int.reduceLE, Int.reduceToNat, List.set_cons_zero, List.replicate_succ, List.replicate_zero, Nat.le_refl, Bool.true_and, Bool.and_true, beq_self_eq_true, slTok, false_implies, implies_true, Nat.zero_add, Bool.cond_false_right, imp_self, beq_true, Bool.not_eq_true', Bool.not_eq_false', Bool.and_eq_true, ne_eq, not_true_eq_false, and_self, or_true, true_or, or_false, ret_eq, Nat.add_zero, killTok, appOK, srcOf, wk_bool, decide_true, cond_true, afterR, hL, hLa, hLb, Int.toNat_natCast, ca, cb, ca2, cb2, cac, cbc, Option.getD_some, List.length_set, hsw, hcap, hyl, T20_18, s18, encd_map, decB_map, encdX_map, decX_map, pap_eta, hx, oky, okd, oka, List.length_map, List.getElem?_cons_zero, List.getElem?_cons_succ, v2, vp, vt, hdr, hap, hm0, hl1, small, List.take_of_length_le]
  refine ⟨Int.le_refl _, by omega, by omega, ?_⟩
  cases hv : (validS p l xs).1 with
  | false => rfl
  | true =>
    cases hw : (validS p l (List.drop 1 ys)).1 with
    | false => rfl
    | true =>
      have q1 := valid_len hv
      have q2 := valid_len hw
      rw [List.length_drop] at q2
      omega

end Go.AM
end
