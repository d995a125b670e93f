/-
  The abstract code of some functions, written by a program · The abstract code of some functions, written by a program · .
  Conditions: none beyond those of its parts.
-/
import Derived.Test.YtncahiacfdihpaaGreatDoorProg
import Derived.Test.YtncahiacfdihpaaGreatDoorB5
import Derived.KernelRfl

set_option maxRecDepth 20000
set_option linter.all false
namespace Go.AM
open Go.Proofs
def c66:Ke Tryz.prog Tryz.f66 [[0],[0,17],[2],[0,19,20],[0,19,20,21],[0,3,19,20],[0,4,19,20],[0,19,20,36],[2],[0,19,20],[2]]:=by
 constructor;conv=>lhs;reduce;simp only[seval]
theorem a66:AOf Tryz.prog 66 c66.1 [.t 2]:=mkB
def c107:Ke Tryz.prog Tryz.f107 [[0],[0,3],[2],[0,18],[2],[0,25],[2],[0,28],[2],[43],[2],[2]]:=by
 constructor;conv=>lhs;reduce;simp only[u8n,UInt8.reduceOfNat,Int.reduceOfNat]
theorem a107:AOf Tryz.prog 107 c107.1 [.t 2]:=mkB
def c134:Ke Tryz.prog Tryz.f134 [[0],[2]]:=by
 constructor;conv=>lhs;reduce;simp only[seval]
theorem a134:AOf Tryz.prog 134 c134.1 [.t 2]:=mkB
def c135:Ke Tryz.prog Tryz.f135 [[0],[2]]:=by
 constructor;conv=>lhs;reduce;simp only[seval]
theorem a135:AOf Tryz.prog 135 c135.1 [.t 2]:=mkB
def c174:Ke Tryz.prog Tryz.f174 [[0],[2]]:=by
 constructor;conv=>lhs;reduce;simp only[seval]
theorem a174:AOf Tryz.prog 174 c174.1 [.t 2]:=mkB
def c159:Ke Tryz.prog Tryz.f159 [[0,1],[4]]:=by
 constructor;conv=>lhs;reduce;simp only[seval]
theorem l159:AV Tryz.prog 159:=mkL Tryz.f159
theorem a159:AOf Tryz.prog 159 c159.1 [.t 4]:=mkB
end Go.AM
namespace Go.AM
open Go.Proofs
def c138:Ke Tryz.prog Tryz.f138 [[]]:=by
 constructor;conv=>lhs;reduce;simp only[seval]
theorem a138:AOf Tryz.prog 138 c138.1 []:=mkB
def c139:Ke Tryz.prog Tryz.f139 [[]]:=by
 constructor;conv=>lhs;reduce;simp only[seval]
theorem a139:AOf Tryz.prog 139 c139.1 []:=mkB
def c140:Kc Tryz.prog Tryz.f140 [] [(1,4)] [[0,2],[]]:=by
 constructor;conv=>lhs;reduce;simp only[seval]
theorem a140:AOf Tryz.prog 140 c140.1 []:=mkB
def c141:Kc Tryz.prog Tryz.f141 [] [(4,4)] [[0,2],[0,2,3,4],[0,2,3,20],[0,2,3],[]]:=by
 constructor;conv=>lhs;reduce;simp only[seval]
theorem a141:AOf Tryz.prog 141 c141.1 []:=mkB
def c142:Kc Tryz.prog Tryz.f142 [] [(6,4)] [[0,13],[0,2],[0,2,25],[],[],[0,3],[]]:=by
 constructor;conv=>lhs;reduce;simp only[u8n,UInt8.reduceOfNat,Int.reduceOfNat]
theorem a142:AOf Tryz.prog 142 c142.1 []:=mkB
def c175:Ke Tryz.prog Tryz.f175 [[0,1],[0,1,5],[0,1,5,27],[0,1,5],[4]]:=by
 constructor;conv=>lhs;reduce;simp only[seval]
theorem a175:AOf Tryz.prog 175 c175.1 [.t 4]:=mkB
def c176:Ke Tryz.prog Tryz.f176 [[0,1,5],[0,1,5,8],[0,1,5],[0,1,5],[0,1],[]]:=by
 constructor;conv=>lhs;reduce;simp only[seval]
theorem a176:AOf Tryz.prog 176 c176.1 []:=mkB
def c179:Ke Tryz.prog Tryz.f179 [[0,1],[4]]:=by
 constructor;conv=>lhs;reduce;simp only[seval]
theorem l179:AV Tryz.prog 179:=mkL Tryz.f179
theorem a179:AOf Tryz.prog 179 c179.1 [.t 4]:=mkB
def c177:Ke Tryz.prog Tryz.f177 [[0],[0,4,5],[0,4,5,12],[2,3],[2,3]]:=by
 constructor;conv=>lhs;reduce;simp only[u8n,UInt8.reduceOfNat,Int.reduceOfNat]
theorem l177:AV Tryz.prog 177:=mkL Tryz.f177
theorem a177:AOf Tryz.prog 177 c177.1 [.t 2,.t 3]:=mkB
def c178:Ke Tryz.prog Tryz.f178 [[0],[2]]:=by
 constructor;conv=>lhs;reduce;simp only[seval]
theorem l178:AV Tryz.prog 178:=mkL Tryz.f178
theorem a178:AOf Tryz.prog 178 c178.1 [.t 2]:=mkB
def c232:Ke Tryz.prog Tryz.f232 [[1],[1,4],[1,4,5],[2],[1,4,15],[2],[1,30],[2],[2]]:=by
 constructor;conv=>lhs;reduce;simp only[seval]
theorem a232:AOf Tryz.prog 232 c232.1 [.t 2]:=mkB
def kp137(r:Nat):List Nat:=match r with
 |0=>[0,1,2,3]
 |1=>[0,1,2,3,6]
 |2=>[]
 |_=>[]
def c137:ACode:=
(sq (rg [om 5 3,⟨some 6,none,.ext (.nileq 0 true) [(tm 5)]⟩] [0,1,2,3,6]) (.cond (tm 6) (rg [om 7 3,⟨some 8,none,.ext (.tas 176 false z0)
 [(tm 7)]⟩,⟨none,none,.st 1 (tm 0) (.c zs)⟩,⟨none,none,.st 1 (tm 1) (tm 8)⟩,⟨none,none,.st 1 (tm 2) (ci 100)⟩] []) .skip))
theorem l137:AV Tryz.prog 137:=mkL Tryz.f137
theorem a137{args:List AVal}{rv:AVal}{H:AB}{n:Nat}{Rc:AB->Nat->Prop}(h:awp Tryz.prog c137 (Fl [] λo H' n'=>o= .ret (.tup [])/\Rc H' n') ⟨(3,true,rv)::(4,true,rv)::penv 0 args,H,n⟩):Bv Tryz.prog 137 args rv H n Rc:=
 FE (id:=0) (fn:=Tryz.f137) (ops:=Ho (sqH (Tryz.f137.body.getD .skip))) (X:=sqT (Tryz.f137.body.getD .skip)) (y:=c137) (fz:=[]) (im:=[]) (kp:=kp137) (t3:=3) (t4:=4) (by kernel_rfl) (by kernel_rfl) (by kernel_rfl) (by kernel_rfl) (by kernel_rfl) (by kernel_rfl) h
def kp97(r:Nat):List Nat:=match r with
 |0=>[0,2,3,4]
 |1=>[0,2,3,4,9]
 |2=>[2,3,4]
 |3=>[0,2,3,4]
 |4=>[0,2,3,4,5]
 |5=>[0,2,3,4,5]
 |6=>[0,2,3,4,5,6]
 |7=>[0,2,3,4,5,6,22]
 |8=>[0,2,3,4,5,6]
 |9=>[2,3,4]
 |_=>[]
def c97_0:ACode:=
 (.reg 3 [
  ⟨some 2,none,.alloc 0 [(.sl .nil [])]⟩,
  ⟨some 3,none,.alloc 1 [(.int .i64 0)]⟩,
  ⟨some 4,none,.alloc 2 [(.int .i64 0)]⟩] [0,2,3,4])
def c97_1:ACode:=
 (.seq
  (.reg 0 [
   ⟨some 7,none,.v (.mv (.t 0))⟩,
   ⟨some 8,none,.v (.lenS (.t 7))⟩,
   ⟨some 9,none,.v (.icmp .gtr .i64 (.t 8) (.c (.int .i64 65536)))⟩] [0,2,3,4,9])
  (.cond (.t 9)
  (.seq
   (.reg 0 [
    ⟨none,none,.st 1 (.t 2) (.c (.sl .nil []))⟩,
    ⟨none,none,.st 1 (.t 3) (.c (.int .i64 0))⟩,
    ⟨none,none,.st 1 (.t 4) (.c (.int .i64 2))⟩] [2,3,4])
   .ret)
  .skip))
def c97:ACode:=
(sq (.reg 1 [⟨some 5,none,.alloc 0 [.nilfn,.nilfn,.nilfn,.nilfn,.nilfn,.nilfn]⟩] [0,2,3,4,5]) (sq (rg [ov 11 (.build [.nilfn,.nilfn,
 .nilfn,.nilfn,.nilfn,.nilfn] [(0,1,(.c (.fn (.func 138) [] []))),(1,1,(.c (.fn (.func 139) [] []))),(2,1,(.c (.fn (.func 140) [] []))),(3,
 1,(.c (.fn (.func 141) [] []))),(4,1,(.c (.fn (.func 142) [] []))),(5,1,(.c (.fn (.func 138) [] [])))]),of 12 0 5,⟨none,none,.st 6 (tm 12)
 (tm 11)⟩] [0,2,3,4,5]) (sq (.reg 4 [om 13 0,ov 14 (.build [zr,z0,zs] [(0,1,(tm 13))]),⟨some 15,none,.box 2 3 (tm 14)⟩,om 6 15] [0,2,3,
 4,5,6]) (sq (.block 0 (.loop (sq (sq (rg [om 16 6,ov 17 (.nilc (tm 16)),of 18 1 17,ol 19 18,om 20 0,ov 21 (.lenS (tm 20)),ov 22 (.icmp .lss
 .i64 (tm 19) (tm 21))] [0,2,3,4,5,6,22]) (.cond (tm 22) .skip (.exit 0))) (.block 1 (rg [om 23 0,om 24 6,ov 25 (.nilc (tm 24)),of 26 1 25,
 ol 27 26,ov 28 (.ixS (tm 23) (tm 27)),oc 29 107 [(tm 28)],of 30 0 5,ov 31 (.iaA 6 1 (tm 30) (tm 29)),ol 32 31,om 33 6,⟨some 34,none,.call
 false (tm 32) [(tm 33)]⟩] [0,2,3,4,5,6]))))) (sq (rg [om 35 6,ov 36 (.nilc (tm 35)),of 37 2 36,ol 38 37,⟨none,none,.st 1 (tm 2) (tm 38)⟩,
 ⟨none,none,.st 1 (tm 3) (ci 0)⟩,⟨none,none,.st 1 (tm 4) (ci 0)⟩] [2,3,4]) .ret)))))
theorem a97{args:List AVal}{H:AB}{n:Nat}{R:AOut->AB->Nat->Prop}(h:awp Tryz.prog (Dn [c97_0,c97_1]) (Jw Tryz.prog 10 ⟨(some 10),none,.v (.fn (.func 137) [] [(.t 2),(.t 3),(.t 4)])⟩ c97 5 137 [.c 2 1 false,.c 3 1 false,.c 4 1 false] R) ⟨penv 0 args,H,n⟩):AI Tryz.prog 97 args H n R:=
 DJ (id:=3) (fn:=Tryz.f97) (pre:=[sqH (Tryz.f97.body.getD .skip),sqH (sqT (Tryz.f97.body.getD .skip))]) (ys:=[c97_0,c97_1]) (ops:=Ho (sqH (sqT (sqT (Tryz.f97.body.getD .skip))))) (X:=(sqT (sqT (sqT (Tryz.f97.body.getD .skip))))) (y:=c97) (fz:=[]) (fzX:=[(999999,5)]) (im:=[(8,11)]) (kp:=kp97) (rs:=[.c 2 1 false,.c 3 1 false,.c 4 1 false]) (d0:=(some 10)) (k:=.fn (.func 137) [] [(.t 2),(.t 3),(.t 4)]) (t:=10) (by kernel_rfl) (by kernel_rfl) (by kernel_rfl) (by kernel_rfl) (by kernel_rfl) (by kernel_rfl) (by kernel_rfl) (by kernel_rfl) (by kernel_rfl) l137 h
end Go.AM
namespace Go.AM
open Go.Proofs
def c103:Ke Tryz.prog Tryz.f103 [[0,1],[0,1,10],[4],[0,1,12,13],[0,1,12,13,14],[0,1,5,12,13],[0,1,12,13,24],[4],[0,1,12,13],[4]]:=by
 constructor;conv=>lhs;reduce;simp only[seval]
theorem a103:AOf Tryz.prog 103 c103.1 [.t 4]:=mkB
def c154:Ke Tryz.prog Tryz.f154 [[0,1],[0,1,10],[4],[0,1,12,13],[0,1,12,13,14],[0,1,5,12,13],[0,1,12,13,24],[4],[0,1,12,13],[4]]:=by
 constructor;conv=>lhs;reduce;simp only[seval]
theorem a154:AOf Tryz.prog 154 c154.1 [.t 4]:=mkB
def kp155(r:Nat):List Nat:=match r with
 |0=>[0,1]
 |1=>[0,1,10]
 |2=>[4]
 |3=>[0,1,12,13]
 |4=>[0,1,12,13,14]
 |5=>[0,1,5,12,13]
 |6=>[0,1,12,13,24]
 |7=>[4]
 |8=>[0,1,12,13]
 |9=>[4]
 |_=>[]
def c155:ACode:=
(sq (rg [ob 4 false] [0,1]) (sq (sq (rg [om 6 0,on 7 6,om 8 1,on 9 8,ov 10 (.icmp .neq .i64 (tm 7) (tm 9))] [0,1,10]) (.cond (tm 10) (sq (rg [
 ob 4 false] [4]) .ret) .skip)) (sq (sq (rg [om 11 0,on 12 11,oi 13 0] [0,1,12,13]) (.block 0 (.loop (sq (rg [ov 14 (.icmp .lss .i64 (tm 13) (tm
 12))] [0,1,12,13,14]) (sq (.cond (tm 14) .skip (.exit 0)) (sq (.block 1 (sq (rg [om 15 13,om 5 15] [0,1,5,12,13]) (sq (rg [om 16 0,om 17
 5,oa 18 2 16 17,ov 19 (.ld 2 true (tm 18)),om 20 1,om 21 5,oa 22 2 20 21,ov 23 (.ld 2 true (tm 22)),ov 24 (.aeq true [2,0] (tm 19) (tm 23))]
 [0,1,12,13,24]) (.cond (tm 24) (sq (rg [ob 4 false] [4]) .ret) .skip)))) (rg [ov 25 (.arith .add .i64 (tm 13) (ci 1)),om 13 25] [0,1,12,
 13]))))))) (sq (rg [ob 4 true] [4]) .ret))))
theorem a155:AOf Tryz.prog 155 c155 [.t 4]:=mkA (fn:=Tryz.f155) (c:=Tryz.f155.body.getD .skip) (fz:=[]) (im:=[]) kp155 (by kernel_rfl) (by kernel_rfl) (by kernel_rfl) (by kernel_rfl) (by kernel_rfl)
def kp157(r:Nat):List Nat:=match r with
 |0=>[0,1]
 |1=>[0,1,10]
 |2=>[4]
 |3=>[0,1,12,13]
 |4=>[0,1,12,13,14]
 |5=>[0,1,5,12,13]
 |6=>[0,1,12,13,24]
 |7=>[4]
 |8=>[0,1,12,13]
 |9=>[4]
 |_=>[]
def c157:ACode:=
(sq (rg [ob 4 false] [0,1]) (sq (sq (rg [om 6 0,on 7 6,om 8 1,on 9 8,ov 10 (.icmp .neq .i64 (tm 7) (tm 9))] [0,1,10]) (.cond (tm 10) (sq (rg [
 ob 4 false] [4]) .ret) .skip)) (sq (sq (rg [om 11 0,on 12 11,oi 13 0] [0,1,12,13]) (.block 0 (.loop (sq (rg [ov 14 (.icmp .lss .i64 (tm 13) (tm
 12))] [0,1,12,13,14]) (sq (.cond (tm 14) .skip (.exit 0)) (sq (.block 1 (sq (rg [om 15 13,om 5 15] [0,1,5,12,13]) (sq (rg [om 16 0,om 17
 5,oa 18 6 16 17,ov 19 (.ld 6 true (tm 18)),om 20 1,om 21 5,oa 22 6 20 21,ov 23 (.ld 6 true (tm 22)),ov 24 (.aeq true [2,2,0,0,0,0] (tm 19)
 (tm 23))] [0,1,12,13,24]) (.cond (tm 24) (sq (rg [ob 4 false] [4]) .ret) .skip)))) (rg [ov 25 (.arith .add .i64 (tm 13) (ci 1)),om 13 25] [0,
 1,12,13]))))))) (sq (rg [ob 4 true] [4]) .ret))))
theorem a157:AOf Tryz.prog 157 c157 [.t 4]:=mkA (fn:=Tryz.f157) (c:=Tryz.f157.body.getD .skip) (fz:=[]) (im:=[]) kp157 (by kernel_rfl) (by kernel_rfl) (by kernel_rfl) (by kernel_rfl) (by kernel_rfl)
def c152:Ke Tryz.prog Tryz.f152 [[0,1,2],[0,1,2,14],[6],[1,2,15,16,17],[1,2,15,16,17,18],[1,2,7,8,15,16,17],[1,2,8,9,15,16,17],[1,2,15,16,17,30],[6],[1,2,15,16,17],[6]]:=by
 constructor;conv=>lhs;reduce;simp only[seval]
theorem a152:AOf Tryz.prog 152 c152.1 [.t 6]:=mkB
def c156:Ke Tryz.prog Tryz.f156 [[0,1,2],[0,1,2,14],[6],[1,2,15,16,17],[1,2,15,16,17,18],[1,2,7,8,15,16,17],[1,2,8,9,15,16,17],[1,2,15,16,17,30],[6],[1,2,15,16,17],[6]]:=by
 constructor;conv=>lhs;reduce;simp only[seval]
theorem a156:AOf Tryz.prog 156 c156.1 [.t 6]:=mkB
def c158:Ke Tryz.prog Tryz.f158 [[0,1,2],[0,1,2,14],[6],[1,2,15,16,17],[1,2,15,16,17,18],[1,2,7,8,15,16,17],[1,2,8,9,15,16,17],[1,2,15,16,17,30],[6],[1,2,15,16,17],[6]]:=by
 constructor;conv=>lhs;reduce;simp only[seval]
theorem a158:AOf Tryz.prog 158 c158.1 [.t 6]:=mkB
def c151:Ke Tryz.prog Tryz.f151 [[2,3],[4]]:=by
 constructor;conv=>lhs;reduce;simp only[seval]
theorem a151:AOf Tryz.prog 151 c151.1 [.t 4]:=mkB
def kp153(r:Nat):List Nat:=match r with
 |0=>[2,3]
 |1=>[2,3,5]
 |2=>[4]
 |_=>[]
def c153:ACode:=
(sq (.reg 3 [⟨some 2,none,.box 0 12 (tm 0)⟩,⟨some 3,none,.box 1 12 (tm 1)⟩,ob 4 false] [2,3]) (sq (rg [of 6 4 2,ol 7 6,of 8 4 3,ol 9 8,oc
 10 154 [(tm 7),(tm 9)],om 11 10,gf 12 11 true 5 2,gl 13 11 true 12,gf 14 11 true 5 3,gl 15 11 true 14,⟨some 16,some (11,true),.call true (.c
 (.fn (.func 154) [] [])) [(tm 13),(tm 15)]⟩,oy 17 11 16,om 18 17,gf 19 18 true 0 2,gl 20 18 true 19,gf 21 18 true 0 3,gl 22 18 true 21,gv 23
 18 true (.scmp .eql (tm 20) (tm 22)),oy 24 18 23,om 25 24,gf 26 25 true 1 2,gl 27 25 true 26,gf 28 25 true 1 3,gl 29 25 true 28,gv 30 25 true
 (.scmp .eql (tm 27) (tm 29)),oy 31 25 30,om 32 31,gf 33 32 true 10 2,gl 34 32 true 33,gf 35 32 true 10 3,gl 36 32 true 35,gv 37 32 true (.scmp
 .eql (tm 34) (tm 36)),oy 38 32 37,om 5 38] [2,3,5]) (sq (rg [om 39 5,om 40 39,gf 41 40 true 2 2,gl 42 40 true 41,gf 43 40 true 3 2,gl 44 40
 true 43,gf 45 40 true 6 2,gl 46 40 true 45,gf 47 40 true 7 2,gl 48 40 true 47,gf 49 40 true 8 2,gl 50 40 true 49,gf 51 40 true 9 2,gl 52 40
 true 51,gf 53 40 true 11 2,gl 54 40 true 53,gv 55 40 true (.build [z0,z0,z0,z0,z0,z0,z0] [(0,1,(tm 42)),(1,1,(tm 44)),(2,1,(tm 46)),
 (3,1,(tm 48)),(4,1,(tm 50)),(5,1,(tm 52)),(6,1,(tm 54))]),gf 56 40 true 2 3,gl 57 40 true 56,gf 58 40 true 3 3,gl 59 40 true 58,gf 60
 40 true 6 3,gl 61 40 true 60,gf 62 40 true 7 3,gl 63 40 true 62,gf 64 40 true 8 3,gl 65 40 true 64,gf 66 40 true 9 3,gl 67 40 true 66,gf 68 40
 true 11 3,gl 69 40 true 68,gv 70 40 true (.build [z0,z0,z0,z0,z0,z0,z0] [(0,1,(tm 57)),(1,1,(tm 59)),(2,1,(tm 61)),(3,1,(tm 63)),
 (4,1,(tm 65)),(5,1,(tm 67)),(6,1,(tm 69))]),gv 71 40 true (.aeq false [0,0,0,0,0,0,0] (tm 55) (tm 70)),oy 72 40 71,om 4 72] [4])
 .ret)))
theorem a153:AOf Tryz.prog 153 c153 [.t 4]:=mkA (fn:=Tryz.f153) (c:=Tryz.f153.body.getD .skip) (fz:=[]) (im:=[]) kp153 (by kernel_rfl) (by kernel_rfl) (by kernel_rfl) (by kernel_rfl) (by kernel_rfl)
def c104:Ke Tryz.prog Tryz.f104 [[2,3],[2,3,5],[2,3,5,6],[2,3,5,6,7],[4]]:=by
 constructor;conv=>lhs;reduce;simp only[seval]
theorem a104:AOf Tryz.prog 104 c104.1 [.t 4]:=mkB
theorem l218:AV Tryz.prog 218:=mkL Tryz.f218
def c62:Ke Tryz.prog Tryz.f62 [[0],[0,4],[2],[2]]:=by
 constructor;conv=>lhs;reduce;simp only[seval]
theorem l62:AV Tryz.prog 62:=mkL Tryz.f62
theorem a62:AOf Tryz.prog 62 c62.1 [.t 2]:=mkB
def c201:Kc Tryz.prog Tryz.f201 [(3,2)] [] [[0],[0,4],[2],[2]]:=by
 constructor;conv=>lhs;reduce;simp only[seval]
theorem l201:AV Tryz.prog 201:=mkL Tryz.f201
theorem a201:AOf Tryz.prog 201 c201.1 [.t 2]:=mkB
def c205:Kc Tryz.prog Tryz.f205 [(3,2)] [] [[0],[0,4],[2],[2]]:=by
 constructor;conv=>lhs;reduce;simp only[seval]
theorem l205:AV Tryz.prog 205:=mkL Tryz.f205
theorem a205:AOf Tryz.prog 205 c205.1 [.t 2]:=mkB
def c147:Ke Tryz.prog Tryz.f147 [[0,1,2,3,8],[0,1,2,3,8,45],[8,9],[0,1,2,3,8,10],[0,1,2,3,8,10,47,48,49],[0,1,2,3,8,10,47,48,49,50],[0,1,2,3,8,10,12,47,48,49],[0,1,2,3,8,12,47,48,49,62],[8,9],[0,1,2,3,8,10,47,48,49],[0,1,2,3,8,10,47,48,49],[1,2,3,8],[3,8,74,75],[3,8,74,75,76],[3,8,13,74,75],[3,8,13,15,74,75],[3,8,13,74,75,85],[3,8,74,75],[3,8,74,75],[8,9]]:=by
 constructor;conv=>lhs;reduce;simp only[seval]
theorem a147:AOf Tryz.prog 147 c147.1 [.c 8 5 true,.t 9]:=mkB
def c219:Ke Tryz.prog Tryz.f219 [[1],[1,2,3],[25],[2],[2]]:=by
 constructor;conv=>lhs;reduce;simp only[seval]
theorem a219:AOf Tryz.prog 219 c219.1 [.t 2]:=mkB
def c150:Ke Tryz.prog Tryz.f150 [[1,2,4],[1,2,4,21],[4,5],[2,4,22,23,24],[2,4,22,23,24,25],[2,4,7,22,23,24],[2,4,7,8,22,23,24],[2,4,7,8,9,22,23,24],[2,4,8,9,22,23,24,29,30,31],[2,4,8,9,22,23,24,29,30,31,32],[2,4,8,9,11,22,23,24,29,30,31],[2,4,8,9,12,13,22,23,24,29,30,31],[2,4,8,9,12,22,23,24,29,30,31,48],[4,5],[2,4,8,9,12,22,23,24,29,30,31],[2,4,8,9,22,23,24,29,30,31],[2,4,8,9,22,23,24,29,30,31],[2,4,8,22,23,24,58],[4,5],[2,4,22,23,24],[2,4,22,23,24],[4,5]]:=by
 constructor;conv=>lhs;reduce;simp only[seval]
theorem a150:AOf Tryz.prog 150 c150.1 [.t 4,.t 5]:=mkB
end Go.AM
namespace Go.AM
open Go.Proofs
def c197:Ke Tryz.prog Tryz.f197 [[],[0]]:=by
 constructor;conv=>lhs;reduce;simp only[u8n,UInt8.reduceOfNat,Int.reduceOfNat]
theorem a197:AOf Tryz.prog 197 c197.1 [.t 0]:=mkB
def c193:Ke Tryz.prog Tryz.f193 [[1],[2]]:=by
 constructor;conv=>lhs;reduce;simp only[seval]
theorem a193:AOf Tryz.prog 193 c193.1 [.t 2]:=mkB
def c195:Ke Tryz.prog Tryz.f195 [[1],[2]]:=by
 constructor;conv=>lhs;reduce;simp only[seval]
theorem a195:AOf Tryz.prog 195 c195.1 [.t 2]:=mkB
def c200:Ke Tryz.prog Tryz.f200 [[1],[2]]:=by
 constructor;conv=>lhs;reduce;simp only[seval]
theorem a200:AOf Tryz.prog 200 c200.1 [.t 2]:=mkB
def c204:Ke Tryz.prog Tryz.f204 [[1],[2]]:=by
 constructor;conv=>lhs;reduce;simp only[seval]
theorem a204:AOf Tryz.prog 204 c204.1 [.t 2]:=mkB
def c198:Ke Tryz.prog Tryz.f198 [[0],[2]]:=by
 constructor;conv=>lhs;reduce;simp only[seval]
theorem a198:AOf Tryz.prog 198 c198.1 [.t 2]:=mkB
def c192:Ke Tryz.prog Tryz.f192 [[0,1,2,3],[1,2,3,13,14,15],[1,2,3,13,14,15,16],[1,2,3,9,10,13,14,15],[1,2,3,9,10,12,13,14,15],[1,2,3,9,10,13,14,15,28],[1,2,3,9,10,13,14,15],[1,2,3,13,14,15],[1,2,3,13,14,15],[8]]:=by
 constructor;conv=>lhs;reduce;simp only[seval]
theorem l192:AV Tryz.prog 192:=mkL Tryz.f192
theorem a192:AOf Tryz.prog 192 c192.1 [.t 8]:=mkB
def c194:Ke Tryz.prog Tryz.f194 [[0,1,2,3],[1,2,3,13,14,15],[1,2,3,13,14,15,16],[1,2,3,9,10,13,14,15],[1,2,3,9,10,12,13,14,15],[1,2,3,9,10,13,14,15,28],[1,2,3,9,10,13,14,15],[1,2,3,13,14,15],[1,2,3,13,14,15],[8]]:=by
 constructor;conv=>lhs;reduce;simp only[seval]
theorem l194:AV Tryz.prog 194:=mkL Tryz.f194
theorem a194:AOf Tryz.prog 194 c194.1 [.t 8]:=mkB
def c196:Ke Tryz.prog Tryz.f196 [[0,1,2,3],[1,2,3,13,14,15],[1,2,3,13,14,15,16],[1,2,3,9,10,13,14,15],[1,2,3,9,10,12,13,14,15],[1,2,3,9,10,13,14,15,28],[1,2,3,9,10,13,14,15],[1,2,3,13,14,15],[1,2,3,13,14,15],[8]]:=by
 constructor;conv=>lhs;reduce;simp only[seval]
theorem l196:AV Tryz.prog 196:=mkL Tryz.f196
theorem a196:AOf Tryz.prog 196 c196.1 [.t 8]:=mkB
def c199:Ke Tryz.prog Tryz.f199 [[0,1,2,3],[1,2,3,13,14,15],[1,2,3,13,14,15,16],[1,2,3,9,10,13,14,15],[1,2,3,9,10,12,13,14,15],[1,2,3,9,10,13,14,15,28],[1,2,3,9,10,13,14,15],[1,2,3,13,14,15],[1,2,3,13,14,15],[8]]:=by
 constructor;conv=>lhs;reduce;simp only[seval]
theorem l199:AV Tryz.prog 199:=mkL Tryz.f199
theorem a199:AOf Tryz.prog 199 c199.1 [.t 8]:=mkB
def c203:Ke Tryz.prog Tryz.f203 [[0,1,2,3],[1,2,3,13,14,15],[1,2,3,13,14,15,16],[1,2,3,9,10,13,14,15],[1,2,3,9,10,12,13,14,15],[1,2,3,9,10,13,14,15,28],[1,2,3,9,10,13,14,15],[1,2,3,13,14,15],[1,2,3,13,14,15],[8]]:=by
 constructor;conv=>lhs;reduce;simp only[seval]
theorem l203:AV Tryz.prog 203:=mkL Tryz.f203
theorem a203:AOf Tryz.prog 203 c203.1 [.t 8]:=mkB
def c202:Ke Tryz.prog Tryz.f202 [[0,1],[5,6],[5,14],[5],[4]]:=by
 constructor;conv=>lhs;reduce;simp only[seval]
theorem a202:AOf Tryz.prog 202 c202.1 [.t 4]:=mkB
def c206:Kc Tryz.prog Tryz.f206 [] [(4,3)] [[0,1,3],[1,3,6,7,8],[1,3,6,7,8,9],[1,3,5,6,7,8],[1,3,6,7,8],[1,3,6,7,8],[3]]:=by
 constructor;conv=>lhs;reduce;simp only[seval]
theorem a206:AOf Tryz.prog 206 c206.1 [.t 3]:=mkB
def kp191(r:Nat):List Nat:=match r with
 |0=>[0,1,2]
 |1=>[0,1,2,5]
 |2=>[]
 |_=>[]
def c191:ACode:=
(sq (rg [om 4 2,⟨some 5,none,.ext (.nileq 0 true) [(tm 4)]⟩] [0,1,2,5]) (.cond (tm 5) (rg [ov 6 (.build [zr,z0,z0,z0,z0,zs,zs,zs,zs,
 zs] []),om 7 2,⟨some 8,none,.ext (.tas 39 false z0) [(tm 7)]⟩,⟨none,none,.st 10 (tm 0) (tm 6)⟩,⟨none,none,.st 1 (tm 1) (tm 8)⟩] []) .skip))
theorem l191:AV Tryz.prog 191:=mkL Tryz.f191
theorem a191{args:List AVal}{rv:AVal}{H:AB}{n:Nat}{Rc:AB->Nat->Prop}(h:awp Tryz.prog c191 (Fl [] λo H' n'=>o= .ret (.tup [])/\Rc H' n') ⟨(2,true,rv)::(3,true,rv)::penv 0 args,H,n⟩):Bv Tryz.prog 191 args rv H n Rc:=
 FE (id:=0) (fn:=Tryz.f191) (ops:=Ho (sqH (Tryz.f191.body.getD .skip))) (X:=sqT (Tryz.f191.body.getD .skip)) (y:=c191) (fz:=[]) (im:=[]) (kp:=kp191) (t3:=2) (t4:=3) (by kernel_rfl) (by kernel_rfl) (by kernel_rfl) (by kernel_rfl) (by kernel_rfl) (by kernel_rfl) h
def kp145(r:Nat):List Nat:=match r with
 |0=>[1,2,3]
 |1=>[1,2,3]
 |2=>[1,2,3,15]
 |3=>[2,3]
 |4=>[1,2,3,4]
 |5=>[1,2,3,4,5]
 |6=>[1,2,3,4,5,6]
 |7=>[1,2,3,4,5,6]
 |8=>[1,2,3,4,5,6,37,38]
 |9=>[1,2,3,4,5,6,37,38,39]
 |10=>[1,2,3,4,5,6,7,37,38]
 |11=>[1,2,3,4,5,6,37,38]
 |12=>[1,2,3,4,5,6,37,38]
 |13=>[1,2,3,4,5,6]
 |14=>[1,2,3,4,5,6]
 |15=>[1,2,3,5,6,8]
 |16=>[1,2,3,5,6,8,66,67]
 |17=>[1,2,3,5,6,8,66,67,68]
 |18=>[1,2,3,5,6,8,9,66,67]
 |19=>[1,2,3,5,6,8,10,66,67]
 |20=>[1,2,3,5,6,8,10,66,67]
 |21=>[1,2,3,5,6,8,10,66,67,84]
 |22=>[1,2,3,5,6,8,10,66,67]
 |23=>[1,2,3,5,6,8,10,66,67]
 |24=>[1,2,3,5,6,8,10,66,67,116]
 |25=>[1,2,3,5,6,8,66,67]
 |26=>[1,2,3,5,6,8,66,67]
 |27=>[2,3]
 |_=>[]
def Pu:ACode:=
 (.reg 3 [
  ⟨some 1,none,.box 0 10 (.t 0)⟩,
  ⟨some 2,none,.alloc 1 [(.str []),(.int .i64 0),(.int .i64 0),(.int .i64 0),(.int .i64 0),(.sl .nil []),(.sl .nil []),(.sl .nil []),(.sl .nil []),(.sl .nil [])]⟩,
  ⟨some 3,none,.alloc 2 [(.int .i64 0)]⟩] [1,2,3])
def c145:ACode:=
(sq (sq (rg [of 12 6 1,ol 13 12,on 14 13,ov 15 (.icmp .gtr .i64 (tm 14) (ci 16))] [1,2,3,15]) (.cond (tm 15) (sq (rg [ov 16 (.ld 10 true (tm
 2)),⟨none,none,.st 10 (tm 2) (tm 16)⟩,⟨none,none,.st 1 (tm 3) (ci 2)⟩] [2,3]) .ret) .skip)) (sq (.reg 6 [of 17 6 1,ol 18 17,⟨some 19,none,
 .ext (.mkm 2) []⟩,oe 20 192 [(tm 18),(ci 0),(.c (.fn (.func 193) [] [])),(tm 19)],⟨some 4,none,.alloc 4 [.nilmp]⟩,⟨none,none,.st 1 (tm 4)
 (tm 20)⟩] [1,2,3,4]) (sq (.regx 7 [(0,of 21 7 1),(500010,ol 22 21),(0,⟨some 23,none,.cpu (.c (.fn (.func 197) [] [])) []⟩),(0,⟨some 24,
 none,.ext (.mkm 3) []⟩),(500009,oe 25 196 [(tm 23),(ci 0),(.c (.fn (.func 198) [] [])),(tm 24)]),(500009,oe 26 194 [(tm 22),(ci 8),(.c (.fn
 (.func 195) [] [])),(tm 25)]),(0,om 5 26)] [1,2,3,4,5]) (sq (.reg 5 [of 27 8 1,ol 28 27,⟨some 29,none,.ext (.mkm 2) []⟩,oe 30 199 [(tm
 28),(ci 0),(.c (.fn (.func 200) [] [])),(tm 29)],om 6 30] [1,2,3,4,5,6]) (sq (rg [of 31 8 1,ol 32 31,oe 33 201 [(tm 32)],of 34 8 1,
 ⟨none,none,.st 1 (tm 34) (tm 33)⟩] [1,2,3,4,5,6]) (sq (sq (rg [of 35 8 1,ol 36 35,on 37 36,oi 38 0] [1,2,3,4,5,6,37,38]) (.block 0
 (.loop (sq (rg [ov 39 (.icmp .lss .i64 (tm 38) (tm 37))] [1,2,3,4,5,6,37,38,39]) (sq (.cond (tm 39) .skip (.exit 0)) (sq (.block 1 (sq (rg [
 om 40 38,om 7 40] [1,2,3,4,5,6,7,37,38]) (.regx 0 [(0,of 41 8 1),(300092,ol 42 41),(0,om 43 7),(0,om 44 5),(0,of 45 8 1),(300092,
 ol 46 45),(0,om 47 7),(0,oa 48 6 46 47),(0,of 49 1 48),(1,ol 50 49),(300091,oe 51 202 [(tm 44),(tm 50)]),(0,oa 52 6 42 43),(0,of 53 2
 52),(0,⟨none,none,.st 1 (tm 53) (tm 51)⟩)] [1,2,3,4,5,6,37,38]))) (rg [ov 54 (.arith .add .i64 (tm 38) (ci 1)),om 38 54] [1,2,3,4,5,
 6,37,38]))))))) (sq (.reg 4 [of 55 9 1,ol 56 55,⟨some 57,none,.ext (.mkm 2) []⟩,oe 58 203 [(tm 56),(ci 0),(.c (.fn (.func 204) [] [])),(tm
 57)]] [1,2,3,4,5,6]) (sq (rg [of 59 9 1,ol 60 59,oe 61 205 [(tm 60)],of 62 9 1,⟨none,none,.st 1 (tm 62) (tm 61)⟩] [1,2,3,4,5,6]) (sq
 (rg [ov 63 (.fn (.func 206) [] [(tm 4)]),om 8 63] [1,2,3,5,6,8]) (sq (sq (rg [of 64 9 1,ol 65 64,on 66 65,oi 67 0] [1,2,3,5,6,8,66,
 67]) (.block 2 (.loop (sq (rg [ov 68 (.icmp .lss .i64 (tm 67) (tm 66))] [1,2,3,5,6,8,66,67,68]) (sq (.cond (tm 68) .skip (.exit 2)) (sq
 (.block 3 (sq (rg [om 69 67,om 9 69] [1,2,3,5,6,8,9,66,67]) (sq (rg [of 70 9 1,ol 71 70,om 72 9,oa 73 12 71 72,om 10 73] [1,2,3,5,
 6,8,10,66,67]) (sq (rg [om 74 10,om 75 10,ov 76 (.nilc (tm 74)),of 77 3 76,⟨none,none,.st 1 (tm 77) (ci 0)⟩,ov 78 (.nilc (tm 75)),of 79
 11 78,⟨none,none,.st 1 (tm 79) (ci (-1))⟩] [1,2,3,5,6,8,10,66,67]) (sq (sq (rg [om 80 10,ov 81 (.nilc (tm 80)),of 82 1 81,ol 83 82,ov
 84 (.scmp .neq (tm 83) (.c zr))] [1,2,3,5,6,8,10,66,67,84]) (.cond (tm 84) (rg [om 85 10,om 86 5,om 87 10,ov 88 (.nilc (tm 87)),of 89 1
 88,ol 90 89,oe 91 202 [(tm 86),(tm 90)],ov 92 (.nilc (tm 85)),of 93 3 92,⟨none,none,.st 1 (tm 93) (tm 91)⟩] [1,2,3,5,6,8,10,66,67])
 .skip)) (sq (.regx 0 [(0,om 94 10),(0,om 95 10),(0,om 96 8),(0,om 97 10),(0,ov 98 (.nilc (tm 97))),(0,of 99 4 98),(1,ol 100 99),(0,om
 102 8),(0,om 103 10),(0,ov 104 (.nilc (tm 103))),(0,of 105 5 104),(300012,ol 106 105),(300011,⟨some 101,none,.call false (tm 96) [(tm
 100)]⟩),(300011,⟨some 107,none,.call false (tm 102) [(tm 106)]⟩),(0,ov 108 (.nilc (tm 94))),(0,of 109 6 108),(0,⟨none,none,.st 1 (tm 109)
 (tm 101)⟩),(0,ov 110 (.nilc (tm 95))),(0,of 111 7 110),(0,⟨none,none,.st 1 (tm 111) (tm 107)⟩)] [1,2,3,5,6,8,10,66,67]) (sq (rg [om
 112 10,ov 113 (.nilc (tm 112)),of 114 10 113,ol 115 114,ov 116 (.scmp .neq (tm 115) (.c zr))] [1,2,3,5,6,8,10,66,67,116]) (.cond (tm 116)
 (rg [om 117 10,om 118 6,om 119 10,ov 120 (.nilc (tm 119)),of 121 10 120,ol 122 121,oe 123 202 [(tm 118),(tm 122)],ov 124 (.nilc (tm 117)),of
 125 11 124,⟨none,none,.st 1 (tm 125) (tm 123)⟩] [1,2,3,5,6,8,66,67]) .skip)))))))) (rg [ov 126 (.arith .add .i64 (tm 67) (ci 1)),om 67
 126] [1,2,3,5,6,8,66,67]))))))) (sq (rg [ov 127 (.ld 10 true (tm 1)),⟨none,none,.st 10 (tm 2) (tm 127)⟩,⟨none,none,.st 1 (tm 3) (ci 0)⟩]
 [2,3]) .ret)))))))))))
theorem a145{args:List AVal}{H:AB}{n:Nat}{R:AOut->AB->Nat->Prop}(h:awp Tryz.prog (Dn [Pu]) (Jw Tryz.prog 11 ⟨(some 11),none,.v (.fn (.func 191) [] [(.t 2),(.t 3)])⟩ c145 4 191 [.c 2 10 true,.c 3 1 false] R) ⟨penv 0 args,H,n⟩):AI Tryz.prog 145 args H n R:=
 DJ (id:=1) (fn:=Tryz.f145) (pre:=[sqH (Tryz.f145.body.getD .skip)]) (ys:=[Pu]) (ops:=Ho (sqH (sqT (Tryz.f145.body.getD .skip)))) (X:=(sqT (sqT (Tryz.f145.body.getD .skip)))) (y:=c145) (fz:=[(5,2),(700021,500007),(800025,500006),(800026,500006),(700041,300089),(700045,300089),(800051,300088),(700105,300009),(800101,300008),(800107,300008),(990023,0),(990023,1),(990023,2),(990023,3),(990023,4),(990023,5),(990023,6),(990023,8),(990023,9),(990023,10),(990023,11),(990023,12),(990023,7),(990023,13),(990023,14),(990023,15),(990023,16),(990023,17),(990023,18),(990023,19)]) (fzX:=[(999999,4),(5,2),(700021,500007),(800025,500006),(800026,500006),(700041,300089),(700045,300089),(800051,300088),(700105,300009),(800101,300008),(800107,300008),(990023,0),(990023,1),(990023,2),(990023,3),(990023,4),(990023,5),(990023,6),(990023,8),(990023,9),(990023,10),(990023,11),(990023,12),(990023,7),(990023,13),(990023,14),(990023,15),(990023,16),(990023,17),(990023,18),(990023,19)]) (im:=[(5,2),(23,7),(23,13),(4,3),(5,4),(5,5),(6,3),(7,2),(11,10),(13,3),(14,2),(22,6),(25,6)]) (kp:=kp145) (rs:=[.c 2 10 true,.c 3 1 false]) (d0:=(some 11)) (k:=.fn (.func 191) [] [(.t 2),(.t 3)]) (t:=11) (by kernel_rfl) (by kernel_rfl) (by kernel_rfl) (by kernel_rfl) (by kernel_rfl) (by kernel_rfl) (by kernel_rfl) (by kernel_rfl) (by kernel_rfl) l191 h
end Go.AM
namespace Go.AM
open Go.Proofs
def c280:Ke Tryz.prog Tryz.f280 [[0,2],[0,2,3],[0,2,3,23],[2],[2]]:=by
 constructor;conv=>lhs;reduce;simp only[seval]
theorem a280:AOf Tryz.prog 280 c280.1 [.c 2 8 true]:=mkB
def c247:Ke Tryz.prog Tryz.f247 [[1],[1,5],[1,5,6],[2],[1,5,23],[2],[1,38],[1,3],[2],[2]]:=by
 constructor;conv=>lhs;reduce;simp only[seval]
theorem a247:AOf Tryz.prog 247 c247.1 [.t 2]:=mkB
def c246:Ke Tryz.prog Tryz.f246 [[2,3],[2,3,5],[2,3,5,14],[4],[2,3,5,68],[4],[2,3,5,99],[4],[2,3,5,6],[2,3,5,117],[4],[2,3,5,7],[2,3,7,126],[2,3,7],[2,3,7,128],[4],[2,3,7,147],[4],[3,7,8],[4]]:=by
 constructor;conv=>lhs;reduce;simp only[seval]
theorem a246:AOf Tryz.prog 246 c246.1 [.t 4]:=mkB
def c208:Ke Tryz.prog Tryz.f208 [[0,1],[1,5],[4],[4]]:=by
 constructor;conv=>lhs;reduce;simp only[seval]
theorem a208:AOf Tryz.prog 208 c208.1 [.t 4]:=mkB
def c215:Ke Tryz.prog Tryz.f215 [[1],[1,11,12,13],[1,11,12,13,14],[1,4,11,12,13],[1,11,12,13,24],[2],[1,11,12,13],[1,5],[1,5,28,29,30],[1,5,28,29,30,31],[1,5,7,28,29,30],[1,5,7,28,29,30,37],[2],[1,5,28,29,30],[1,5,28,29,30],[5,45,46,47],[5,45,46,47,48],[5,8,9,45,46,47],[5,45,46,47,60],[2],[5,45,46,47],[2]]:=by
 constructor;conv=>lhs;reduce;simp only[seval]
theorem a215:AOf Tryz.prog 215 c215.1 [.t 2]:=mkB
def c248:Ke Tryz.prog Tryz.f248 [[1],[2]]:=by
 constructor;conv=>lhs;reduce;simp only[seval]
theorem a248:AOf Tryz.prog 248 c248.1 [.t 2]:=mkB
def c217:Ke Tryz.prog Tryz.f217 [[1,2],[2,6,7,8],[2,6,7,8,9],[2,3,4,6,7,8],[2,3,6,7,8,15],[2,6,7,8],[2,6,7,8],[2]]:=by
 constructor;conv=>lhs;reduce;simp only[seval]
theorem a217:AOf Tryz.prog 217 c217.1 [.t 2]:=mkB
def c242:Kc Tryz.prog Tryz.f242 [] [(1,1),(2,1)] [[0],[3],[3],[2]]:=by
 constructor;conv=>lhs;reduce;simp only[seval]
theorem l242:AV Tryz.prog 242:=mkL Tryz.f242
theorem a242:AOf Tryz.prog 242 c242.1 [.t 2]:=mkB
def c243:Ke Tryz.prog Tryz.f243 [[1],[2]]:=by
 constructor;conv=>lhs;reduce;simp only[seval]
theorem a243:AOf Tryz.prog 243 c243.1 [.t 2]:=mkB
def c278:Kc Tryz.prog Tryz.f278 [] [(3,2)] [[0,5,6,7],[0,5,6,7,8],[0,4,5,6,7],[0,5,6,7,14],[0,5,6,7]]:=by
 constructor;conv=>lhs;reduce;simp only[seval]
theorem a278:AOf Tryz.prog 278 c278.1 []:=mkB
def c277:Kc Tryz.prog Tryz.f277 [] [(1,1)] [[0],[2]]:=by
 constructor;conv=>lhs;reduce;simp only[seval]
theorem a277:AOf Tryz.prog 277 c277.1 [.t 2]:=mkB
noncomputable def Dr:Code:=((rfs (Tryz.f303.body.getD .skip))[0]?.getD (#[],.skip,.skip)).2.1
noncomputable def Ds:Code:=((rfs (Tryz.f303.body.getD .skip))[0]?.getD (#[],.skip,.skip)).2.2
def Rs(r:Nat):List Nat:=match r with
 |3=>[]
 |_=>[]
def Iq:ACode:=
 (.block 1
  (.reg 5 [
   ⟨some 8,none,.v (.ld 1 false (.t 2))⟩,
   ⟨some 9,none,.v (.mv (.t 5))⟩,
   ⟨some 10,none,.v (.bs 1 1 (.int .i64 0) [(0,(.t 9))])⟩,
   ⟨some 11,none,.appR 3 1 8 (.int .i64 0) (.t 8) (.t 10) false⟩,
   ⟨none,none,.st 1 (.t 2) (.t 11)⟩] []))
def Rt(r:Nat):List Nat:=match r with
 |2=>[2,5]
 |_=>[]
def Ir:ACode:=
 (.reg 0 [
  ⟨some 5,none,.v (.mv (.t 7))⟩] [2,5])
theorem S1{l id:Nat}{st:LoopState}{pend:Option Code}{env:List (Nat×Bool×AVal)}{args:List AVal}{H:AB}{n:Nat}{R:Bool->AB->Nat->Prop}(ho:hget H id=some (.lp ⟨l,st,pend,13,env, #[7],Dr,Ds⟩))(hps:args.length=1)(h:awp Tryz.prog Ir (FU Tryz.prog id Iq R) ⟨renv [7] args env,H,n⟩):BK Tryz.prog l args H n R:=
 BB (aa:=Ir) (ab:=Iq) (fz:=[(3,3)]) (im:=[]) (fz2:=[(3,3)]) (im2:=[]) (kp:=Rt) (kp2:=Rs) ho rfl hps rfl (by kernel_rfl) (by kernel_rfl) rfl rfl h
def kp303(r:Nat):List Nat:=match r with
 |0=>[1,2,4]
 |1=>[2,4,6]
 |4=>[4]
 |_=>[]
noncomputable def c303:ACode:=
(sq (.reg 2 [⟨some 2,none,.box 0 1 (tm 0)⟩,ov 4 (.mv (.c zs))] [1,2,4]) (sq (sq (rg [om 6 1] [2,4,6]) (.block 0 (.rfun (tm 6) #[7] 13 Dr
 Ds))) (sq (rg [ol 12 2,om 4 12] [4]) .ret)))
theorem a303:AOf Tryz.prog 303 c303 [.t 4]:=mkA (fn:=Tryz.f303) (c:=Tryz.f303.body.getD .skip) (fz:=[(3,3)]) (im:=[]) kp303 (by kernel_rfl) (by kernel_rfl) (by kernel_rfl) (by kernel_rfl) (by kernel_rfl)
def c245:Ke Tryz.prog Tryz.f245 [[0,1],[3]]:=by
 constructor;conv=>lhs;reduce;simp only[seval]
theorem l245:AV Tryz.prog 245:=mkL Tryz.f245
theorem a245:AOf Tryz.prog 245 c245.1 [.t 3]:=mkB
def c279:Ke Tryz.prog Tryz.f279 [[0,1],[0,1,7,8],[0,1,7,8,9],[0,1,5,7,8],[0,1,5,7,8,16],[4],[0,1,7,8],[4]]:=by
 constructor;conv=>lhs;reduce;simp only[seval]
theorem l279:AV Tryz.prog 279:=mkL Tryz.f279
theorem a279:AOf Tryz.prog 279 c279.1 [.t 4]:=mkB
def c244:Ke Tryz.prog Tryz.f244 [[0,1],[4]]:=by
 constructor;conv=>lhs;reduce;simp only[seval]
theorem l244:AV Tryz.prog 244:=mkL Tryz.f244
theorem a244:AOf Tryz.prog 244 c244.1 [.t 4]:=mkB
def c213:Kc Tryz.prog Tryz.f213 [] [(11,1)] [[2,3],[3,14,15,16],[3,14,15,16,17],[3,6,14,15,16],[3,6,8,14,15,16],[3,6,8,14,15,16,28],[4],[3,6,9,14,15,16],[3,9,14,15,16,31,32,33],[3,9,14,15,16,31,32,33,34],[3,9,11,14,15,16,31,32,33],[3,9,12,14,15,16,31,32,33],[3,9,12,14,15,16,31,32,33,42],[4],[3,9,14,15,16,31,32,33],[3,9,14,15,16,31,32,33],[3,14,15,16],[4]]:=by
 constructor;conv=>lhs;reduce;simp only[seval]
theorem a213:AOf Tryz.prog 213 c213.1 [.t 4]:=mkB
def c207:Ke Tryz.prog Tryz.f207 [[0],[1]]:=by
 constructor;conv=>lhs;reduce;simp only[seval]
theorem l207:AV Tryz.prog 207:=mkL Tryz.f207
theorem a207:AOf Tryz.prog 207 c207.1 [.t 1]:=mkB
def c209:Ke Tryz.prog Tryz.f209 [[0],[0,2,3],[0,2,3,10],[1],[1]]:=by
 constructor;conv=>lhs;reduce;simp only[seval]
theorem l209:AV Tryz.prog 209:=mkL Tryz.f209
theorem a209:AOf Tryz.prog 209 c209.1 [.t 1]:=mkB
def c210:Ke Tryz.prog Tryz.f210 [[0],[1]]:=by
 constructor;conv=>lhs;reduce;simp only[seval]
theorem l210:AV Tryz.prog 210:=mkL Tryz.f210
theorem a210:AOf Tryz.prog 210 c210.1 [.t 1]:=mkB
def c211:Ke Tryz.prog Tryz.f211 [[0,1],[2],[2]]:=by
 constructor;conv=>lhs;reduce;simp only[seval]
theorem a211:AOf Tryz.prog 211 c211.1 [.t 2]:=mkB
def c212:Ke Tryz.prog Tryz.f212 [[0,1],[2]]:=by
 constructor;conv=>lhs;reduce;simp only[seval]
theorem l212:AV Tryz.prog 212:=mkL Tryz.f212
theorem a212:AOf Tryz.prog 212 c212.1 [.t 2]:=mkB
def c214:Ke Tryz.prog Tryz.f214 [[0],[1]]:=by
 constructor;conv=>lhs;reduce;simp only[seval]
theorem l214:AV Tryz.prog 214:=mkL Tryz.f214
theorem a214:AOf Tryz.prog 214 c214.1 [.t 1]:=mkB
def c216:Ke Tryz.prog Tryz.f216 [[0],[1]]:=by
 constructor;conv=>lhs;reduce;simp only[seval]
theorem l216:AV Tryz.prog 216:=mkL Tryz.f216
theorem a216:AOf Tryz.prog 216 c216.1 [.t 1]:=mkB
def c146:Kc Tryz.prog Tryz.f146 [] [(5,1)] [[1],[1,3],[14,15,16],[14,15,16,17],[5,14,15,16],[6,14,15,16],[6,14,15,16,23],[2],[14,15,16],[2]]:=by
 constructor;conv=>lhs;reduce;simp only[seval]
theorem a146:AOf Tryz.prog 146 c146.1 [.t 2]:=mkB
end Go.AM
namespace Go.AM
open Go.Proofs
def c108:Ke Tryz.prog Tryz.f108 [[0,1],[0,1,7,8],[0,1,7,8,9],[0,1,5,7,8],[0,1,5,7,8,16],[4],[0,1,7,8],[4]]:=by
 constructor;conv=>lhs;reduce;simp only[seval]
theorem a108:AOf Tryz.prog 108 c108.1 [.t 4]:=mkB
def c64:Ke Tryz.prog Tryz.f64 [[0,1],[0,1,7,8],[0,1,7,8,9],[0,1,5,7,8],[0,1,5,7,8,16],[4],[0,1,7,8],[4]]:=by
 constructor;conv=>lhs;reduce;simp only[seval]
theorem a64:AOf Tryz.prog 64 c64.1 [.t 4]:=mkB
def c68:Ke Tryz.prog Tryz.f68 [[0,1,2],[0,1,2,9,10,11],[0,1,2,9,10,11,12],[0,1,2,7,8,9,10,11],[0,1,2,9,10,11,29],[6],[0,1,2,9,10,11],[6]]:=by
 constructor;conv=>lhs;reduce;simp only[seval]
theorem a68:AOf Tryz.prog 68 c68.1 [.t 6]:=mkB
def c67:Ke Tryz.prog Tryz.f67 [[0,1],[0,1,7,8,9],[0,1,7,8,9,10],[0,1,5,6,7,8,9],[0,1,7,8,9,23],[4],[0,1,7,8,9],[4]]:=by
 constructor;conv=>lhs;reduce;simp only[seval]
theorem a67:AOf Tryz.prog 67 c67.1 [.t 4]:=mkB
def c69:Ke Tryz.prog Tryz.f69 [[1,2,3],[3,20],[6],[3,7,8],[3,7,8,28],[3,7,8,28,29],[3,7,8,28,29],[6],[3,7,8,28,43],[6],[3,7,8,28,52],[6],[3,7,8,28,70],[6],[3,7,8,83],[6],[6]]:=by
 constructor;conv=>lhs;reduce;simp only[seval]
theorem a69:AOf Tryz.prog 69 c69.1 [.t 6]:=mkB
def c39:Ke Tryz.prog Tryz.f39 [[1],[1,3],[1,3,4],[1,3,4],[1,3,4,58,59,60],[1,3,4,58,59,60,61],[1,3,4,6,58,59,60],[1,3,4,58,59,60],[1,3,4,58,59,60],[1,3,4,77,78,79],[1,3,4,77,78,79,80],[1,3,4,8,77,78,79],[1,3,4,8,77,78,79],[1,3,4,77,78,79],[1,3,4,77,78,79],[107],[2],[2]]:=by
 constructor;conv=>lhs;reduce;simp only[seval]
theorem a39:AOf Tryz.prog 39 c39.1 [.t 2]:=mkB
end Go.AM
namespace Go.AM
open Go.Proofs
end Go.AM
