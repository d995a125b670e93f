/-
  The abstract code of some functions, written by a program · The abstract code of some functions, written by a program · .
  Conditions: none beyond those of its parts.
-/
import Derived.Test.YtncahiacfdihpaaGreatDoorProg
import Derived.Test.YtncahiacfdihpaaGreatDoorB5
import Derived.KernelRfl

set_option maxRecDepth 20000
set_option linter.all false
namespace Go.AM
open Go.Proofs
def c34:Ke Tryz.prog Tryz.f34 [[2,3],[4]]:=by
 constructor;conv=>lhs;reduce;simp only[seval]
theorem a34:AOf Tryz.prog 34 c34.1 [.t 4]:=mkB
def c60:Kc Tryz.prog Tryz.f60 [] [(3,1)] [[1,2,3],[1,2,3,4],[4],[]]:=by
 constructor;conv=>lhs;reduce;simp only[seval]
theorem a60:AOf Tryz.prog 60 c60.1 []:=mkB
def c61:Kc Tryz.prog Tryz.f61 [(6,9),(700004,600000)] [(2,3),(6,10)] [[0,1,2,3,4],[0,2,3,4,11],[6],[0,4,16,17],[0,4,16,17,18],[0,4,7,16,17],[0,4,16,17,32],[6],[0,4,16,17],[6]]:=by
 constructor;conv=>lhs;reduce;simp only[seval]
theorem a61:AOf Tryz.prog 61 c61.1 [.t 6]:=mkB
def c45:Ke Tryz.prog Tryz.f45 [[2,3],[3,5],[3,5,9],[4],[4]]:=by
 constructor;conv=>lhs;reduce;simp only[seval]
theorem a45:AOf Tryz.prog 45 c45.1 [.t 4]:=mkB
def c11:Kc Tryz.prog Tryz.f11 [] [(6,5),(6,6)] [[1,2],[1,2,5],[1,2,5,9],[4,5],[1,2,16],[4,5],[4,5]]:=by
 constructor;conv=>lhs;reduce;simp only[seval]
theorem a11:AOf Tryz.prog 11 c11.1 [.t 4,.t 5]:=mkB
def c109:Ke Tryz.prog Tryz.f109 [[1,2],[1,2,10,11,12],[1,2,10,11,12,13],[1,2,5,6,10,11,12],[1,2,6,10,11,12,21,22,23],[1,2,6,10,11,12,21,22,23,24],[1,2,6,8,10,11,12,21,22,23],[1,2,6,10,11,12,21,22,23,38],[4],[1,2,6,10,11,12,21,22,23],[1,2,10,11,12],[4]]:=by
 constructor;conv=>lhs;reduce;simp only[seval]
theorem a109:AOf Tryz.prog 109 c109.1 [.t 4]:=mkB
def c111:Ke Tryz.prog Tryz.f111 [[1,2,3,4],[1,2,3,4,8,9,10],[1,2,3,4,8,9,10,11],[1,2,3,4,6,8,9,10],[1,2,3,4,8,9,10],[1,2,3,4,6,8,9,10,16],[1,2,3,4,8,9,10],[1,2,3,4,8,9,10,21],[1,2,3,4,8,9,10],[1,2,3,4,8,9,10],[2,3,4]]:=by
 constructor;conv=>lhs;reduce;simp only[seval]
theorem a111:AOf Tryz.prog 111 c111.1 [.t 2,.t 3,.t 4]:=mkB
def c70:Ke Tryz.prog Tryz.f70 [[1],[2]]:=by
 constructor;conv=>lhs;reduce;simp only[seval]
theorem a70:AOf Tryz.prog 70 c70.1 [.t 2]:=mkB
def c110:Ke Tryz.prog Tryz.f110 [[0,1],[4]]:=by
 constructor;conv=>lhs;reduce;simp only[seval]
theorem a110:AOf Tryz.prog 110 c110.1 [.t 4]:=mkB
def c71:Ke Tryz.prog Tryz.f71 [[1],[3,5],[2]]:=by
 constructor;conv=>lhs;reduce;simp only[seval]
theorem a71:AOf Tryz.prog 71 c71.1 [.t 2]:=mkB
def c72:Ke Tryz.prog Tryz.f72 [[1],[2]]:=by
 constructor;conv=>lhs;reduce;simp only[seval]
theorem a72:AOf Tryz.prog 72 c72.1 [.t 2]:=mkB
def c112:Ke Tryz.prog Tryz.f112 [[0,1,2],[2,6],[5]]:=by
 constructor;conv=>lhs;reduce;simp only[seval]
theorem a112:AOf Tryz.prog 112 c112.1 [.t 5]:=mkB
def c73:Ke Tryz.prog Tryz.f73 [[1],[2]]:=by
 constructor;conv=>lhs;reduce;simp only[seval]
theorem a73:AOf Tryz.prog 73 c73.1 [.t 2]:=mkB
def c113:Ke Tryz.prog Tryz.f113 [[0,1,2],[5]]:=by
 constructor;conv=>lhs;reduce;simp only[seval]
theorem a113:AOf Tryz.prog 113 c113.1 [.t 5]:=mkB
def c74:Ke Tryz.prog Tryz.f74 [[],[2]]:=by
 constructor;conv=>lhs;reduce;simp only[seval]
theorem a74:AOf Tryz.prog 74 c74.1 [.t 2]:=mkB
def c75:Ke Tryz.prog Tryz.f75 [[1],[1,3,4],[2]]:=by
 constructor;conv=>lhs;reduce;simp only[seval]
theorem a75:AOf Tryz.prog 75 c75.1 [.t 2]:=mkB
def c41:Ke Tryz.prog Tryz.f41 [[2,3,4,5],[2,3,4,5,9],[2,3,5,9,10],[2,3,5,9,10,21,22,23],[2,3,5,9,10,21,22,23,24],[2,3,5,9,10,12,21,22,23],[2,3,5,9,10,21,22,23],[2,3,5,9,10,21,22,23],[2,5,9,10,38,39,40],[2,5,9,10,38,39,40,41],[2,5,9,10,14,38,39,40],[2,5,9,10,38,39,40],[2,5,9,10,38,39,40],[8]]:=by
 constructor;conv=>lhs;reduce;simp only[seval]
theorem a41:AOf Tryz.prog 41 c41.1 [.t 8]:=mkB
def c76:Ke Tryz.prog Tryz.f76 [[0,1],[3]]:=by
 constructor;conv=>lhs;reduce;simp only[seval]
theorem a76:AOf Tryz.prog 76 c76.1 [.t 3]:=mkB
def c40:Ke Tryz.prog Tryz.f40 [[1,2,3,6],[1,2,3,6,7],[6]]:=by
 constructor;conv=>lhs;reduce;simp only[u8n,UInt8.reduceOfNat,Int.reduceOfNat]
theorem a40:AOf Tryz.prog 40 c40.1 [.c 6 8 true]:=mkB
def c13:Ke Tryz.prog Tryz.f13 [[2,3,4,5],[2,3,4,5,9],[2,3,4,5,9,16],[8,9],[2,3,4,5,10],[2,3,4,5,10,39],[8,9],[2,3,4,5,10,40,41,42],[2,3,4,5,10,40,41,42,43],[2,3,4,5,10,11,12,40,41,42],[2,3,4,5,10,40,41,42,60],[8,9],[2,3,4,5,10,40,41,42],[2,3,4,5,64],[8,9],[2,3,4,5,9],[2,3,4,5,9,73],[8,9],[8,9]]:=by
 constructor;conv=>lhs;reduce;simp only[seval]
theorem a13:AOf Tryz.prog 13 c13.1 [.t 8,.t 9]:=mkB
def c38:Ke Tryz.prog Tryz.f38 [[0,1],[3]]:=by
 constructor;conv=>lhs;reduce;simp only[seval]
theorem a38:AOf Tryz.prog 38 c38.1 [.t 3]:=mkB
def c37:Ke Tryz.prog Tryz.f37 [[0,1],[4]]:=by
 constructor;conv=>lhs;reduce;simp only[seval]
theorem a37:AOf Tryz.prog 37 c37.1 [.t 4]:=mkB
def c65:Ke Tryz.prog Tryz.f65 [[0,1],[0,1,7,8],[0,1,7,8,9],[0,1,5,7,8],[0,1,5,7,8,16],[4],[0,1,7,8],[4]]:=by
 constructor;conv=>lhs;reduce;simp only[seval]
theorem a65:AOf Tryz.prog 65 c65.1 [.t 4]:=mkB
def c36:Ke Tryz.prog Tryz.f36 [[0,1],[4]]:=by
 constructor;conv=>lhs;reduce;simp only[seval]
theorem a36:AOf Tryz.prog 36 c36.1 [.t 4]:=mkB
def c81:Ke Tryz.prog Tryz.f81 [[0,1,4],[0,1,4,14,15,16],[0,1,4,14,15,16,17],[0,1,4,7,14,15,16],[0,1,4,7,14,15,16,23],[0,4,25,26,27],[0,4,25,26,27,28],[0,4,9,25,26,27],[0,4,25,26,27],[0,4,25,26,27],[4,5],[0,1,4,14,15,16],[4,5]]:=by
 constructor;conv=>lhs;reduce;simp only[seval]
theorem l81:AV Tryz.prog 81:=mkL Tryz.f81
theorem a81:AOf Tryz.prog 81 c81.1 [.t 4,.t 5]:=mkB
def c50:Ke Tryz.prog Tryz.f50 [[0,1,2],[0,1,2,7],[0,1,2,7,30],[6],[0,1,2,7,33],[6],[0,2,8],[2,8,9],[6]]:=by
 constructor;conv=>lhs;reduce;simp only[seval]
theorem l50:AV Tryz.prog 50:=mkL Tryz.f50
theorem a50:AOf Tryz.prog 50 c50.1 [.t 6]:=mkB
def c46:Kc Tryz.prog Tryz.f46 [] [(17,1),(19,2)] [[0,1],[0,1,15],[4],[0,1,5],[0,1,5],[0,1,5,31],[4],[0,1,5,31,32],[4],[0,1,5,39],[0,1,5,58],[4],[0,1,5,6,7],[0,1,5,6,7,72,73],[0,1,5,6,7,72,73,74],[0,1,5,6,7,8,72,73],[0,1,5,6,7,8,72,73,82],[0,1,5,6,7,8,9,72,73],[0,1,5,6,7,9,72,73],[0,1,5,6,7,72,73,93],[4],[0,1,5,6,7,72,73],[4]]:=by
 constructor;conv=>lhs;reduce;simp only[seval]
theorem a46:AOf Tryz.prog 46 c46.1 [.t 4]:=mkB
noncomputable def Ht:Code:=((rfs (Tryz.f18.body.getD .skip))[0]?.getD (#[],.skip,.skip)).2.1
noncomputable def Hu:Code:=((rfs (Tryz.f18.body.getD .skip))[0]?.getD (#[],.skip,.skip)).2.2
def Ue(r:Nat):List Nat:=match r with
 |7=>[3,4,5,6,7,8,9,31]
 |8=>[]
 |9=>[3,4,5,6,7,8,9,10]
 |10=>[3,4,5,6,7,8,9,10]
 |11=>[6,7,8,10,11]
 |12=>[6,7,8,67]
 |13=>[]
 |14=>[]
 |_=>[]
def MP:ACode:=
 (.block 1
  (.seq
  (.seq
   (.reg 0 [
    ⟨some 27,none,.v (.ld 1 false (.t 8))⟩,
    ⟨some 28,none,.v (.fa 0 (.t 5))⟩,
    ⟨some 29,none,.v (.ld 1 false (.t 28))⟩,
    ⟨some 30,none,.v (.len (.t 29))⟩,
    ⟨some 31,none,.v (.icmp .eql .i64 (.t 27) (.t 30))⟩] [3,4,5,6,7,8,9,31])
   (.cond (.t 31)
   (.seq
    (.reg 0 [
     ⟨none,none,.st 1 (.t 6) (.c (.bool false))⟩,
     ⟨none,none,.st 1 (.t 7) (.c (.int .i64 0))⟩] [])
    .ret)
   .skip))
  (.seq
   (.reg 6 [
    ⟨some 32,none,.ext (.bsm 0 1 4 (.int .i64 0) [0,1,2,3]) [(.c (.int .i64 (-1))),(.c (.int .i64 (-1))),(.c (.int .i64 (-1))),(.c (.int .i64 (-1)))]⟩,
    ⟨some 33,none,.v (.fa 2 (.t 4))⟩,
    ⟨some 34,none,.v (.ld 1 false (.t 33))⟩,
    ⟨some 35,none,.v (.len (.t 34))⟩,
    ⟨some 36,none,.v (.sl 1 (.t 32) none (some (.t 35)) none)⟩,
    ⟨some 10,none,.v (.mv (.t 36))⟩] [3,4,5,6,7,8,9,10])
   (.seq
   (.reg 0 [
    ⟨some 37,none,.v (.mv (.t 10))⟩,
    ⟨some 38,none,.v (.fa 6 (.t 4))⟩,
    ⟨some 39,none,.v (.ld 1 false (.t 38))⟩,
    ⟨some 40,none,.v (.mv (.t 9))⟩,
    ⟨some 41,none,.v (.fa 7 (.t 4))⟩,
    ⟨some 42,none,.v (.ld 1 false (.t 41))⟩,
    ⟨some 43,none,.v (.ia 1 (.t 40) (.t 42))⟩,
    ⟨some 44,none,.v (.ld 1 false (.t 43))⟩,
    ⟨some 45,none,.v (.ia 1 (.t 37) (.t 39))⟩,
    ⟨none,none,.st 1 (.t 45) (.t 44)⟩] [3,4,5,6,7,8,9,10])
   (.seq
    (.reg 11 [
     ⟨some 46,none,.v (.ld 17 true (.t 3))⟩,
     ⟨some 47,none,.v (.ld 8 true (.t 4))⟩,
     ⟨some 48,none,.v (.mv (.t 9))⟩,
     ⟨some 49,none,.v (.fa 0 (.t 5))⟩,
     ⟨some 50,none,.v (.ld 1 false (.t 49))⟩,
     ⟨some 51,none,.v (.ld 1 false (.t 8))⟩,
     ⟨some 52,none,.v (.ia 1 (.t 50) (.t 51))⟩,
     ⟨some 53,none,.v (.ld 1 false (.t 52))⟩,
     ⟨some 54,none,.v (.build [(.str []),(.int .i64 0),(.int .i64 0),(.int .i64 0),(.int .i64 0),(.sl .nil []),(.sl .nil []),(.sl .nil []),(.sl .nil []),(.sl .nil []),(.int .i64 0),(.int .i64 0),(.int .i64 0),(.sl .nil []),(.sl .nil []),(.sl .nil []),(.sl .nil []),(.str []),(.int .i64 0),(.sl .nil []),(.sl .nil []),(.sl .nil []),(.sl .nil []),(.int .i64 0),(.int .i64 0),(.sl .nil []),(.sl .nil [])] [(0,17,(.t 46)),(17,8,(.t 47)),(25,1,(.t 48)),(26,1,(.t 53))])⟩,
     ⟨some 55,none,.box 9 27 (.t 54)⟩,
     ⟨some 11,none,.v (.mv (.t 55))⟩] [6,7,8,10,11])
    (.seq
    (.seq
     (.reg 0 [
      ⟨some 56,none,.v (.mv (.t 11))⟩,
      ⟨some 57,none,.v (.mv (.t 10))⟩,
      ⟨some 58,none,.call false (.c (.fn (.func 46) [] [])) [(.t 56),(.t 57)]⟩,
      ⟨some 59,none,.v (.not (.t 58))⟩,
      ⟨some 60,none,.v (.mv (.t 59))⟩,
      ⟨some 61,some (60,false),.v (.mv (.t 11))⟩,
      ⟨some 62,some (60,false),.v (.nilc (.t 61))⟩,
      ⟨some 63,some (60,false),.v (.fa 26 (.t 62))⟩,
      ⟨some 64,some (60,false),.v (.ld 1 false (.t 63))⟩,
      ⟨some 65,some (60,false),.v (.len (.t 64))⟩,
      ⟨some 66,some (60,false),.v (.icmp .gtr .i64 (.t 65) (.c (.int .i64 0)))⟩,
      ⟨some 67,none,.pick (.t 60) (.c (.bool true)) (.t 66)⟩] [6,7,8,67])
     (.cond (.t 67)
     (.seq
      (.reg 0 [
       ⟨none,none,.st 1 (.t 6) (.c (.bool false))⟩,
       ⟨none,none,.st 1 (.t 7) (.c (.int .i64 0))⟩] [])
      .ret)
     .skip))
    (.reg 0 [
     ⟨some 68,none,.v (.ld 1 false (.t 8))⟩,
     ⟨some 69,none,.v (.arith .add .i64 (.t 68) (.c (.int .i64 1)))⟩,
     ⟨none,none,.st 1 (.t 8) (.t 69)⟩] [])))))))
def Uf(r:Nat):List Nat:=match r with
 |6=>[3,4,5,6,7,8,9]
 |_=>[]
def Pv:ACode:=
 (.reg 0 [
  ⟨some 9,none,.v (.mv (.t 26))⟩] [3,4,5,6,7,8,9])
theorem y18_0{l id:Nat}{st:LoopState}{pend:Option Code}{env:List (Nat×Bool×AVal)}{args:List AVal}{H:AB}{n:Nat}{R:Bool->AB->Nat->Prop}(ho:hget H id=some (.lp ⟨l,st,pend,75,env, #[26],Ht,Hu⟩))(hps:args.length=1)(h:awp Tryz.prog Pv (FU Tryz.prog id MP R) ⟨renv [26] args env,H,n⟩):BK Tryz.prog l args H n R:=
 BB (aa:=Pv) (ab:=MP) (fz:=[(9,0),(700007,300013),(700006,300012)]) (im:=[(12,2),(5,7)]) (fz2:=[(9,0),(700007,300013),(700006,300012)]) (im2:=[(12,2),(5,7)]) (kp:=Uf) (kp2:=Ue) ho rfl hps rfl (by kernel_rfl) (by kernel_rfl) rfl rfl h
def kp18(r:Nat):List Nat:=match r with
 |0=>[3,4,5,6,7]
 |1=>[3,4,5,6,7]
 |2=>[3,4,5,6,7,16]
 |3=>[6,7]
 |4=>[3,4,5,6,7,8]
 |5=>[3,4,5,6,7,8,25]
 |15=>[6,7]
 |_=>[]
noncomputable def c18:ACode:=
(sq (.reg 5 [⟨some 3,none,.box 0 17 (tm 0)⟩,⟨some 4,none,.box 1 8 (tm 1)⟩,⟨some 5,none,.box 2 1 (tm 2)⟩,⟨some 6,none,.alloc 3 [zb]⟩,⟨some
 7,none,.alloc 4 [z0]⟩] [3,4,5,6,7]) (sq (sq (rg [ov 12 (.ld 17 true (tm 3)),ov 13 (.ld 8 true (tm 4)),oc 14 45 [(tm 12),(tm 13)],⟨none,
 none,.st 1 (tm 7) (tm 14)⟩] [3,4,5,6,7]) (sq (rg [ol 15 7,ov 16 (.icmp .neq .i64 (tm 15) (ci 0))] [3,4,5,6,7,16]) (.cond (tm 16) (sq
 (.regx 0 [(300016,ol 17 7),(300015,⟨none,none,.st 1 (tm 6) cF⟩),(300016,⟨none,none,.st 1 (tm 7) (tm 17)⟩)] [6,7]) .ret) .skip))) (sq (.reg
 2 [⟨some 8,none,.alloc 0 [z0]⟩,⟨none,none,.st 1 (tm 8) (ci 0)⟩] [3,4,5,6,7,8]) (sq (sq (rg [of 18 0 3,of 19 6 18,ol 20 19,on 21 20,of
 22 3 4,ol 23 22,on 24 23,oe 25 34 [(tm 21),(tm 24)]] [3,4,5,6,7,8,25]) (.block 0 (.rfun (tm 25) #[26] 75 Ht Hu))) (sq (rg [ol 70 8,
 of 71 0 5,ol 72 71,on 73 72,ov 74 (.icmp .eql .i64 (tm 70) (tm 73)),⟨none,none,.st 1 (tm 6) (tm 74)⟩,⟨none,none,.st 1 (tm 7) (ci 0)⟩] [6,7])
 .ret)))))
theorem a18:AOf Tryz.prog 18 c18 [.c 6 1 false,.c 7 1 false]:=mkA (fn:=Tryz.f18) (c:=Tryz.f18.body.getD .skip) (fz:=[(9,0),(700007,300013),(700006,300012)]) (im:=[(12,2),(5,7)]) kp18 (by kernel_rfl) (by kernel_rfl) (by kernel_rfl) (by kernel_rfl) (by kernel_rfl)
noncomputable def J4:Code:=((rfs (Tryz.f20.body.getD .skip))[0]?.getD (#[],.skip,.skip)).2.1
noncomputable def J5:Code:=((rfs (Tryz.f20.body.getD .skip))[0]?.getD (#[],.skip,.skip)).2.2
def Ug(r:Nat):List Nat:=match r with
 |6=>[2,3,4,5,6,7]
 |7=>[2,3,4,5,6,7,8]
 |8=>[2,3,4,5,7,8]
 |9=>[2,3,4,5,7,8,9]
 |10=>[4,5,9]
 |11=>[4,5,46]
 |12=>[]
 |_=>[]
def Pw:ACode:=
 (.block 1
  (.seq
  (.reg 7 [
   ⟨some 25,none,.v (.ld 17 true (.t 2))⟩,
   ⟨some 26,none,.v (.ld 8 true (.t 3))⟩,
   ⟨some 27,none,.v (.mv (.t 6))⟩,
   ⟨some 28,none,.v (.build [(.str []),(.int .i64 0),(.int .i64 0),(.int .i64 0),(.int .i64 0),(.sl .nil []),(.sl .nil []),(.sl .nil []),(.sl .nil []),(.sl .nil []),(.int .i64 0),(.int .i64 0),(.int .i64 0),(.sl .nil []),(.sl .nil []),(.sl .nil []),(.sl .nil []),(.str []),(.int .i64 0),(.sl .nil []),(.sl .nil []),(.sl .nil []),(.sl .nil []),(.int .i64 0),(.int .i64 0),(.sl .nil []),(.sl .nil [])] [(0,17,(.t 25)),(17,8,(.t 26)),(25,1,(.t 27))])⟩,
   ⟨some 29,none,.box 4 27 (.t 28)⟩,
   ⟨some 7,none,.alloc 5 [.nilp]⟩,
   ⟨none,none,.st 1 (.t 7) (.t 29)⟩] [2,3,4,5,6,7])
  (.seq
   (.reg 7 [
    ⟨some 30,none,.ext (.bsm 0 1 4 (.int .i64 0) [0,1,2,3]) [(.c (.int .i64 (-1))),(.c (.int .i64 (-1))),(.c (.int .i64 (-1))),(.c (.int .i64 (-1)))]⟩,
    ⟨some 31,none,.v (.fa 2 (.t 3))⟩,
    ⟨some 32,none,.v (.ld 1 false (.t 31))⟩,
    ⟨some 33,none,.v (.len (.t 32))⟩,
    ⟨some 34,none,.v (.sl 1 (.t 30) none (some (.t 33)) none)⟩,
    ⟨some 8,none,.alloc 5 [(.sl .nil [])]⟩,
    ⟨none,none,.st 1 (.t 8) (.t 34)⟩] [2,3,4,5,6,7,8])
   (.seq
   (.reg 0 [
    ⟨some 35,none,.v (.ld 1 false (.t 8))⟩,
    ⟨some 36,none,.v (.fa 6 (.t 3))⟩,
    ⟨some 37,none,.v (.ld 1 false (.t 36))⟩,
    ⟨some 38,none,.v (.mv (.t 6))⟩,
    ⟨some 39,none,.v (.fa 7 (.t 3))⟩,
    ⟨some 40,none,.v (.ld 1 false (.t 39))⟩,
    ⟨some 41,none,.v (.ia 1 (.t 38) (.t 40))⟩,
    ⟨some 42,none,.v (.ld 1 false (.t 41))⟩,
    ⟨some 43,none,.v (.ia 1 (.t 35) (.t 37))⟩,
    ⟨none,none,.st 1 (.t 43) (.t 42)⟩] [2,3,4,5,7,8])
   (.seq
    (.reg 1 [
     ⟨some 9,none,.alloc 0 [.nilfn]⟩] [2,3,4,5,7,8,9])
    (.seq
    (.reg 0 [
     ⟨some 44,none,.v (.fn (.func 49) [] [(.t 3),(.t 7),(.t 8),(.t 9),(.t 2)])⟩,
     ⟨none,none,.st 1 (.t 9) (.t 44)⟩] [4,5,9])
    (.seq
     (.reg 0 [
      ⟨some 45,none,.v (.ld 1 false (.t 9))⟩,
      ⟨some 46,none,.call false (.t 45) [(.c (.int .i64 0))]⟩] [4,5,46])
     (.cond (.t 46)
     (.seq
      (.reg 0 [
       ⟨none,none,.st 1 (.t 4) (.c (.bool false))⟩,
       ⟨none,none,.st 1 (.t 5) (.c (.int .i64 0))⟩] [])
      .ret)
     .skip))))))))
def Uh(r:Nat):List Nat:=match r with
 |5=>[2,3,4,5,6]
 |_=>[]
def Px:ACode:=
 (.reg 0 [
  ⟨some 6,none,.v (.mv (.t 24))⟩] [2,3,4,5,6])
theorem y20_0{l id:Nat}{st:LoopState}{pend:Option Code}{env:List (Nat×Bool×AVal)}{args:List AVal}{H:AB}{n:Nat}{R:Bool->AB->Nat->Prop}(ho:hget H id=some (.lp ⟨l,st,pend,47,env, #[24],J4,J5⟩))(hps:args.length=1)(h:awp Tryz.prog Px (FU Tryz.prog id Pw R) ⟨renv [24] args env,H,n⟩):BK Tryz.prog l args H n R:=
 BB (aa:=Px) (ab:=Pw) (fz:=[(7,0),(700005,300009),(700004,300008)]) (im:=[(11,1),(4,7)]) (fz2:=[(7,0),(700005,300009),(700004,300008)]) (im2:=[(11,1),(4,7)]) (kp:=Uh) (kp2:=Ug) ho rfl hps rfl (by kernel_rfl) (by kernel_rfl) rfl rfl h
def kp20(r:Nat):List Nat:=match r with
 |0=>[2,3,4,5]
 |1=>[2,3,4,5]
 |2=>[2,3,4,5,14]
 |3=>[4,5]
 |4=>[2,3,4,5,23]
 |13=>[4,5]
 |_=>[]
noncomputable def c20:ACode:=
(sq (.reg 4 [⟨some 2,none,.box 0 17 (tm 0)⟩,⟨some 3,none,.box 1 8 (tm 1)⟩,⟨some 4,none,.alloc 2 [zb]⟩,⟨some 5,none,.alloc 3 [z0]⟩] [2,3,
 4,5]) (sq (sq (rg [ov 10 (.ld 17 true (tm 2)),ov 11 (.ld 8 true (tm 3)),oc 12 45 [(tm 10),(tm 11)],⟨none,none,.st 1 (tm 5) (tm 12)⟩] [2,3,4,
 5]) (sq (rg [ol 13 5,ov 14 (.icmp .neq .i64 (tm 13) (ci 0))] [2,3,4,5,14]) (.cond (tm 14) (sq (.regx 0 [(300012,ol 15 5),(300011,⟨none,
 none,.st 1 (tm 4) cF⟩),(300012,⟨none,none,.st 1 (tm 5) (tm 15)⟩)] [4,5]) .ret) .skip))) (sq (sq (rg [of 16 0 2,of 17 6 16,ol 18 17,on 19 18,
 of 20 3 3,ol 21 20,on 22 21,oe 23 34 [(tm 19),(tm 22)]] [2,3,4,5,23]) (.block 0 (.rfun (tm 23) #[24] 47 J4 J5))) (sq (rg [⟨none,
 none,.st 1 (tm 4) cT⟩,⟨none,none,.st 1 (tm 5) (ci 0)⟩] [4,5]) .ret))))
theorem a20:AOf Tryz.prog 20 c20 [.c 4 1 false,.c 5 1 false]:=mkA (fn:=Tryz.f20) (c:=Tryz.f20.body.getD .skip) (fz:=[(7,0),(700005,300009),(700004,300008)]) (im:=[(11,1),(4,7)]) kp20 (by kernel_rfl) (by kernel_rfl) (by kernel_rfl) (by kernel_rfl) (by kernel_rfl)
def c49:Kc Tryz.prog Tryz.f49 [] [(10,3),(15,3)] [[0,1,2,3,4,5],[0,1,2,3,4,5,16,17],[0,1,2,3,4,5,16,17,18],[0,1,2,3,4,5,8,16,17],[0,1,2,3,4,5,16,17,23],[7],[0,1,2,3,4,5,16,17],[0,1,3,4,5,28],[7],[0,3,4,5,32],[7],[0,3,4,40,41],[0,3,4,40,41,42],[0,3,4,9,40,41],[0,3,4,40,41],[0,3,4,40,41,51],[7],[0,3,4,40,41],[],[7]]:=by
 constructor;conv=>lhs;reduce;simp only[seval]
theorem a49:AOf Tryz.prog 49 c49.1 [.t 7]:=mkB
def c33:Kc Tryz.prog Tryz.f33 [] [(1,1)] [[0],[2]]:=by
 constructor;conv=>lhs;reduce;simp only[seval]
theorem a33:AOf Tryz.prog 33 c33.1 [.t 2]:=mkB
noncomputable def FV:Code:=((rfs (Tryz.f59.body.getD .skip))[0]?.getD (#[],.skip,.skip)).2.1
noncomputable def FW:Code:=((rfs (Tryz.f59.body.getD .skip))[0]?.getD (#[],.skip,.skip)).2.2
def Ui(r:Nat):List Nat:=match r with
 |3=>[]
 |_=>[]
def Py:ACode:=
 (.block 1
  (.reg 5 [
   ⟨some 8,none,.v (.ld 1 false (.t 2))⟩,
   ⟨some 9,none,.v (.mv (.t 5))⟩,
   ⟨some 10,none,.v (.bs 1 1 (.sl .nil []) [(0,(.t 9))])⟩,
   ⟨some 11,none,.app 3 1 24 (.t 8) (.t 10) false⟩,
   ⟨none,none,.st 1 (.t 2) (.t 11)⟩] []))
def Uj(r:Nat):List Nat:=match r with
 |2=>[2,5]
 |_=>[]
def Pz:ACode:=
 (.reg 0 [
  ⟨some 5,none,.v (.mv (.t 7))⟩] [2,5])
theorem y59_0{l id:Nat}{st:LoopState}{pend:Option Code}{env:List (Nat×Bool×AVal)}{args:List AVal}{H:AB}{n:Nat}{R:Bool->AB->Nat->Prop}(ho:hget H id=some (.lp ⟨l,st,pend,13,env, #[7],FV,FW⟩))(hps:args.length=1)(h:awp Tryz.prog Pz (FU Tryz.prog id Py R) ⟨renv [7] args env,H,n⟩):BK Tryz.prog l args H n R:=
 BB (aa:=Pz) (ab:=Py) (fz:=[]) (im:=[]) (fz2:=[]) (im2:=[]) (kp:=Uj) (kp2:=Ui) ho rfl hps rfl (by kernel_rfl) (by kernel_rfl) rfl rfl h
def kp59(r:Nat):List Nat:=match r with
 |0=>[1,2,4]
 |1=>[2,4,6]
 |4=>[4]
 |_=>[]
noncomputable def c59:ACode:=
(sq (.reg 2 [⟨some 2,none,.box 0 1 (tm 0)⟩,ov 4 (.mv (.c zs))] [1,2,4]) (sq (sq (rg [om 6 1] [2,4,6]) (.block 0 (.rfun (tm 6) #[7] 13 FV
 FW))) (sq (rg [ol 12 2,om 4 12] [4]) .ret)))
theorem a59:AOf Tryz.prog 59 c59 [.t 4]:=mkA (fn:=Tryz.f59) (c:=Tryz.f59.body.getD .skip) (fz:=[]) (im:=[]) kp59 (by kernel_rfl) (by kernel_rfl) (by kernel_rfl) (by kernel_rfl) (by kernel_rfl)
end Go.AM
namespace Go.AM
open Go.Proofs
end Go.AM
namespace Go.AM
open Go.Proofs
end Go.AM
namespace Go.AM
open Go.Proofs
def c220:Ke Tryz.prog Tryz.f220 [[1],[2]]:=by
 constructor;conv=>lhs;reduce;simp only[seval]
theorem a220:AOf Tryz.prog 220 c220.1 [.t 2]:=mkB
def c251:Kc Tryz.prog Tryz.f251 [] [(6,5)] [[0,1,8,9,10],[0,1,8,9,10,11],[0,1,3,4,8,9,10],[0,1,3,5,6,8,9,10],[0,1,3,5,6,8,9,10,25],[0,1,3,5,6,8,9,10],[0,1,8,9,10,36],[0,1,8,9,10]]:=by
 constructor;conv=>lhs;reduce;simp only[seval]
theorem a251:AOf Tryz.prog 251 c251.1 []:=mkB
noncomputable def Is:Code:=((rfs (Tryz.f148.body.getD .skip))[0]?.getD (#[],.skip,.skip)).2.1
noncomputable def It:Code:=((rfs (Tryz.f148.body.getD .skip))[0]?.getD (#[],.skip,.skip)).2.2
def Ru(r:Nat):List Nat:=match r with
 |11=>[]
 |_=>[]
def LH:ACode:=
 (.block 1
  (.reg 0 [
   ⟨some 33,none,.v (.ld 1 false (.t 6))⟩,
   ⟨some 34,none,.v (.ld 2 true (.t 8))⟩,
   ⟨some 35,none,.v (.mv (.t 7))⟩,
   ⟨none,none,.ext (.mput (.arr 2 .i64)) [(.t 33),(.t 34),(.t 35)]⟩] []))
def Rv(r:Nat):List Nat:=match r with
 |9=>[6,7,32]
 |10=>[6,7,8]
 |_=>[]
def LI:ACode:=
 (.seq
  (.reg 0 [
   ⟨some 7,none,.v (.mv (.t 31))⟩] [6,7,32])
  (.reg 2 [
   ⟨some 8,none,.alloc 0 [(.int .i64 0),(.int .i64 0)]⟩,
   ⟨none,none,.st 2 (.t 8) (.t 32)⟩] [6,7,8]))
theorem y148_0{l id:Nat}{st:LoopState}{pend:Option Code}{env:List (Nat×Bool×AVal)}{args:List AVal}{H:AB}{n:Nat}{R:Bool->AB->Nat->Prop}(ho:hget H id=some (.lp ⟨l,st,pend,85,env, #[31,32],Is,It⟩))(hps:args.length=2)(h:awp Tryz.prog LI (FU Tryz.prog id LH R) ⟨renv [31,32] args env,H,n⟩):BK Tryz.prog l args H n R:=
 BB (aa:=LI) (ab:=LH) (fz:=[(21,8),(700002,600000)]) (im:=[(23,4),(8,1),(13,1)]) (fz2:=[(21,8),(700002,600000)]) (im2:=[(23,4),(8,1),(13,1)]) (kp:=Rv) (kp2:=Ru) ho rfl hps rfl (by kernel_rfl) (by kernel_rfl) rfl rfl h
noncomputable def Gq:Code:=((rfs (Tryz.f148.body.getD .skip))[1]?.getD (#[],.skip,.skip)).2.1
noncomputable def Gr:Code:=((rfs (Tryz.f148.body.getD .skip))[1]?.getD (#[],.skip,.skip)).2.2
def Rw(r:Nat):List Nat:=match r with
 |16=>[2,6,9,10,45,46,47]
 |17=>[2,6,9,10,45,46,47,48]
 |18=>[2,6,9,10,12,45,46,47]
 |19=>[2,6,9,10,13,14,45,46,47]
 |20=>[2,6,9,10,13,45,46,47,67]
 |21=>[2,6,9,10,45,46,47]
 |22=>[2,6,9,10,45,46,47]
 |23=>[]
 |_=>[]
def LJ:ACode:=
 (.block 3
  (.seq
  (.seq
   (.reg 0 [
    ⟨some 44,none,.v (.ld 1 false (.t 5))⟩,
    ⟨some 45,none,.ext (.slx 6 2 false true) [(.t 4),(.t 44)]⟩,
    ⟨some 46,none,.v (.len (.t 45))⟩,
    ⟨some 47,none,.v (.mv (.c (.int .i64 0)))⟩] [2,6,9,10,45,46,47])
   (.block 4
   (.loop
    (.seq
    (.reg 0 [
     ⟨some 48,none,.v (.icmp .lss .i64 (.t 47) (.t 46))⟩] [2,6,9,10,45,46,47,48])
    (.seq
     (.cond (.t 48)
     .skip
     (.exit 4))
     (.seq
     (.block 5
      (.seq
      (.reg 4 [
       ⟨some 49,none,.v (.ia 2 (.t 45) (.t 47))⟩,
       ⟨some 50,none,.v (.ld 2 true (.t 49))⟩,
       ⟨some 12,none,.alloc 2 [(.int .i64 0),(.int .i64 0)]⟩,
       ⟨none,none,.st 2 (.t 12) (.t 50)⟩] [2,6,9,10,12,45,46,47])
      (.seq
       (.reg 0 [
        ⟨some 52,none,.v (.ld 1 false (.t 6))⟩,
        ⟨some 53,none,.v (.iaA 2 1 (.t 10) (.c (.int .i64 0)))⟩,
        ⟨some 54,none,.v (.ld 1 false (.t 53))⟩,
        ⟨some 55,none,.v (.iaA 2 1 (.t 12) (.c (.int .i64 0)))⟩,
        ⟨some 56,none,.v (.ld 1 false (.t 55))⟩,
        ⟨some 57,none,.v (.arith .add .i64 (.t 54) (.t 56))⟩,
        ⟨some 58,none,.v (.iaA 2 1 (.t 10) (.c (.int .i64 1)))⟩,
        ⟨some 59,none,.v (.ld 1 false (.t 58))⟩,
        ⟨some 60,none,.v (.iaA 2 1 (.t 12) (.c (.int .i64 1)))⟩,
        ⟨some 61,none,.v (.ld 1 false (.t 60))⟩,
        ⟨some 62,none,.v (.arith .add .i64 (.t 59) (.t 61))⟩,
        ⟨some 63,none,.v (.build [(.int .i64 0),(.int .i64 0)] [(0,1,(.t 57)),(1,1,(.t 62))])⟩,
        ⟨some 64,none,.ext (.look (.arr 2 .i64) (.int .i64 0) true) [(.t 52),(.t 63)]⟩,
        ⟨some 51,none,.v (.mv (.t 64))⟩,
        ⟨some 65,none,.v (.ext 0 (.t 51))⟩,
        ⟨some 66,none,.v (.ext 1 (.t 51))⟩,
        ⟨some 13,none,.v (.mv (.t 65))⟩,
        ⟨some 14,none,.v (.mv (.t 66))⟩] [2,6,9,10,13,14,45,46,47])
       (.seq
       (.reg 0 [
        ⟨some 67,none,.v (.mv (.t 14))⟩] [2,6,9,10,13,45,46,47,67])
       (.cond (.t 67)
        (.regx 11 [
         (2,⟨some 68,none,.v (.ld 1 false (.t 2))⟩),
         (0,⟨some 69,none,.v (.mv (.t 9))⟩),
         (2,⟨some 70,none,.v (.ld 1 false (.t 2))⟩),
         (0,⟨some 71,none,.v (.mv (.t 9))⟩),
         (0,⟨some 72,none,.v (.ia 1 (.t 70) (.t 71))⟩),
         (1,⟨some 73,none,.v (.ld 1 false (.t 72))⟩),
         (0,⟨some 74,none,.v (.mv (.t 13))⟩),
         (0,⟨some 75,none,.v (.bs 1 1 (.int .i64 0) [(0,(.t 74))])⟩),
         (2,⟨some 76,none,.appR 8 1 8 (.int .i64 0) (.t 73) (.t 75) false⟩),
         (0,⟨some 77,none,.v (.ia 1 (.t 68) (.t 69))⟩),
         (0,⟨none,none,.st 1 (.t 77) (.t 76)⟩)] [2,6,9,10,45,46,47])
        .skip)))))
     (.reg 0 [
      ⟨some 78,none,.v (.arith .add .i64 (.t 47) (.c (.int .i64 1)))⟩,
      ⟨some 47,none,.v (.mv (.t 78))⟩] [2,6,9,10,45,46,47])))))))
  (.reg 0 [
   ⟨some 79,none,.v (.ld 1 false (.t 2))⟩,
   ⟨some 80,none,.v (.mv (.t 9))⟩,
   ⟨some 81,none,.v (.ia 1 (.t 79) (.t 80))⟩,
   ⟨some 82,none,.v (.ld 1 false (.t 81))⟩,
   ⟨some 83,none,.call false (.c (.fn (.func 221) [] [])) [(.t 82)]⟩] [])))
def Rx(r:Nat):List Nat:=match r with
 |14=>[2,4,5,6,9,43]
 |15=>[2,4,5,6,9,10]
 |_=>[]
def LK:ACode:=
 (.seq
  (.reg 0 [
   ⟨some 9,none,.v (.mv (.t 42))⟩] [2,4,5,6,9,43])
  (.reg 2 [
   ⟨some 10,none,.alloc 0 [(.int .i64 0),(.int .i64 0)]⟩,
   ⟨none,none,.st 2 (.t 10) (.t 43)⟩] [2,4,5,6,9,10]))
theorem y148_1{l id:Nat}{st:LoopState}{pend:Option Code}{env:List (Nat×Bool×AVal)}{args:List AVal}{H:AB}{n:Nat}{R:Bool->AB->Nat->Prop}(ho:hget H id=some (.lp ⟨l,st,pend,85,env, #[42,43],Gq,Gr⟩))(hps:args.length=2)(h:awp Tryz.prog LK (FU Tryz.prog id LJ R) ⟨renv [42,43] args env,H,n⟩):BK Tryz.prog l args H n R:=
 BB (aa:=LK) (ab:=LJ) (fz:=[(21,8),(700002,600000)]) (im:=[(23,4),(8,1),(13,1)]) (fz2:=[(21,8),(700002,600000)]) (im2:=[(23,4),(8,1),(13,1)]) (kp:=Rx) (kp2:=Rw) ho rfl hps rfl (by kernel_rfl) (by kernel_rfl) rfl rfl h
def kp148(r:Nat):List Nat:=match r with
 |0=>[1,2,3]
 |1=>[1,2,3,17]
 |2=>[2,3]
 |3=>[1,2,3,4]
 |4=>[1,2,3,4,5]
 |5=>[1,2,3,4,5,27]
 |6=>[1,2,3,4,5]
 |7=>[1,2,3,4,5,6]
 |8=>[1,2,3,4,5,6,30]
 |12=>[1,2,3,4,5,6]
 |13=>[2,3,4,5,6,41]
 |24=>[2,3]
 |_=>[]
noncomputable def c148:ACode:=
(sq (.reg 3 [⟨some 1,none,.box 0 5 (tm 0)⟩,⟨some 2,none,.alloc 1 [zs]⟩,oi 3 0] [1,2,3]) (sq (sq (rg [ov 15 (.ld 5 true (tm 1)),oc 16 219
 [(tm 15)],ov 17 (.icmp .neq .i64 (tm 16) (ci 0))] [1,2,3,17]) (.cond (tm 17) (sq (rg [⟨none,none,.st 1 (tm 2) (.c zs)⟩,oi 3 130] [2,3]) .ret)
 .skip)) (sq (.reg 9 [ov 18 (.build [z0,z0] [(0,1,(ci 1)),(1,1,(ci 0))]),ov 19 (.build [z0,z0] [(0,1,(ci (-1))),(1,1,(ci 0))]),ov 20
 (.build [z0,z0] [(0,1,(ci 0)),(1,1,(ci 1))]),ov 21 (.build [z0,z0] [(0,1,(ci 0)),(1,1,(ci (-1)))]),ov 22 (.build [z0,z0] [(0,1,(ci
 1)),(1,1,(ci (-1)))]),ov 23 (.build [z0,z0] [(0,1,(ci (-1))),(1,1,(ci 1))]),ov 24 (.build [z0,z0,z0,z0,z0,z0,z0,z0,z0,z0,z0,z0]
 [(0,2,(tm 18)),(2,2,(tm 19)),(4,2,(tm 20)),(6,2,(tm 21)),(8,2,(tm 22)),(10,2,(tm 23))]),⟨some 4,none,.alloc 7 [z0,z0,z0,z0,z0,
 z0,z0,z0,z0,z0,z0,z0]⟩,⟨none,none,.st 12 (tm 4) (tm 24)⟩] [1,2,3,4]) (sq (.reg 2 [⟨some 5,none,.alloc 0 [z0]⟩,⟨none,none,.st 1 (tm
 5) (ci 6)⟩] [1,2,3,4,5]) (sq (sq (rg [of 25 0 1,ol 26 25,ov 27 (.icmp .eql .i64 (tm 26) (ci 1))] [1,2,3,4,5,27]) (.cond (tm 27) (rg [
 ⟨none,none,.st 1 (tm 5) (ci 4)⟩] [1,2,3,4,5]) .skip)) (sq (.reg 3 [⟨some 28,none,.ext (.mkm 0) []⟩,⟨some 6,none,.alloc 1 [.nilmp]⟩,⟨none,
 none,.st 1 (tm 6) (tm 28)⟩] [1,2,3,4,5,6]) (sq (sq (rg [ov 29 (.ld 5 true (tm 1)),oe 30 220 [(tm 29)]] [1,2,3,4,5,6,30]) (.block 0
 (.rfun (tm 30) #[31,32] 85 Is It))) (sq (.reg 5 [of 36 4 1,ol 37 36,on 38 37,⟨some 39,none,.mks 3 1 24 zs (tm 38)⟩,⟨none,none,.st
 1 (tm 2) (tm 39)⟩] [1,2,3,4,5,6]) (sq (sq (rg [ov 40 (.ld 5 true (tm 1)),oe 41 220 [(tm 40)]] [2,3,4,5,6,41]) (.block 2 (.rfun (tm 41)
 #[42,43] 85 Gq Gr))) (sq (rg [ol 84 2,⟨none,none,.st 1 (tm 2) (tm 84)⟩,oi 3 0] [2,3]) .ret))))))))))
theorem a148:AOf Tryz.prog 148 c148 [.c 2 1 false,.t 3]:=mkA (fn:=Tryz.f148) (c:=Tryz.f148.body.getD .skip) (fz:=[(21,8),(700002,600000)]) (im:=[(23,4),(8,1),(13,1)]) kp148 (by kernel_rfl) (by kernel_rfl) (by kernel_rfl) (by kernel_rfl) (by kernel_rfl)
noncomputable def Ea:Code:=((rfs (Tryz.f222.body.getD .skip))[0]?.getD (#[],.skip,.skip)).2.1
noncomputable def Eb:Code:=((rfs (Tryz.f222.body.getD .skip))[0]?.getD (#[],.skip,.skip)).2.2
def Ry(r:Nat):List Nat:=match r with
 |5=>[5,6,8,9]
 |6=>[5,6,8,23]
 |7=>[]
 |_=>[]
def Gs:ACode:=
 (.block 1
  (.seq
  (.reg 0 [
   ⟨some 18,none,.v (.ld 1 false (.t 3))⟩,
   ⟨some 19,none,.v (.ld 2 true (.t 7))⟩,
   ⟨some 20,none,.call true (.t 18) [(.t 19)]⟩,
   ⟨some 17,none,.v (.mv (.t 20))⟩,
   ⟨some 21,none,.v (.ext 0 (.t 17))⟩,
   ⟨some 22,none,.v (.ext 1 (.t 17))⟩,
   ⟨some 8,none,.v (.mv (.t 21))⟩,
   ⟨some 9,none,.v (.mv (.t 22))⟩] [5,6,8,9])
  (.seq
   (.reg 0 [
    ⟨some 23,none,.v (.mv (.t 9))⟩] [5,6,8,23])
   (.cond (.t 23)
   (.reg 9 [
    ⟨some 24,none,.v (.ld 1 false (.t 5))⟩,
    ⟨some 25,none,.v (.mv (.t 8))⟩,
    ⟨some 26,none,.v (.ld 1 false (.t 5))⟩,
    ⟨some 27,none,.v (.mv (.t 8))⟩,
    ⟨some 28,none,.ext (.look (.int .i64) (.sl .nil []) false) [(.t 26),(.t 27)]⟩,
    ⟨some 29,none,.v (.mv (.t 6))⟩,
    ⟨some 30,none,.v (.bs 1 1 (.int .i64 0) [(0,(.t 29))])⟩,
    ⟨some 31,none,.app 7 1 8 (.t 28) (.t 30) false⟩,
    ⟨none,none,.ext (.mput (.int .i64)) [(.t 24),(.t 25),(.t 31)]⟩] [])
   .skip))))
def Rz(r:Nat):List Nat:=match r with
 |3=>[3,5,6,16]
 |4=>[3,5,6,7]
 |_=>[]
def LL:ACode:=
 (.seq
  (.reg 0 [
   ⟨some 6,none,.v (.mv (.t 15))⟩] [3,5,6,16])
  (.reg 2 [
   ⟨some 7,none,.alloc 0 [(.int .i64 0),(.int .i64 0)]⟩,
   ⟨none,none,.st 2 (.t 7) (.t 16)⟩] [3,5,6,7]))
theorem y222_0{l id:Nat}{st:LoopState}{pend:Option Code}{env:List (Nat×Bool×AVal)}{args:List AVal}{H:AB}{n:Nat}{R:Bool->AB->Nat->Prop}(ho:hget H id=some (.lp ⟨l,st,pend,48,env, #[15,16],Ea,Eb⟩))(hps:args.length=2)(h:awp Tryz.prog LL (FU Tryz.prog id Gs R) ⟨renv [15,16] args env,H,n⟩):BK Tryz.prog l args H n R:=
 BB (aa:=LL) (ab:=Gs) (fz:=[]) (im:=[(2,1),(8,1),(8,2)]) (fz2:=[]) (im2:=[(2,1),(8,1),(8,2)]) (kp:=Rz) (kp2:=Ry) ho rfl hps rfl (by kernel_rfl) (by kernel_rfl) rfl rfl h
def kp222(r:Nat):List Nat:=match r with
 |0=>[2,3,4]
 |1=>[2,3,4,5]
 |2=>[3,4,5,14]
 |8=>[4,5,34,35,36]
 |9=>[4,5,34,35,36,37]
 |10=>[4,5,11,34,35,36]
 |11=>[4,5,34,35,36]
 |12=>[4,5,34,35,36]
 |13=>[4]
 |_=>[]
noncomputable def c222:ACode:=
(sq (.reg 3 [⟨some 2,none,.box 0 5 (tm 0)⟩,⟨some 3,none,.box 1 1 (tm 1)⟩,ov 4 (.mv (.c zs))] [2,3,4]) (sq (.reg 3 [⟨some 12,none,.ext (.mkm
 0) []⟩,⟨some 5,none,.alloc 1 [.nilmp]⟩,⟨none,none,.st 1 (tm 5) (tm 12)⟩] [2,3,4,5]) (sq (sq (rg [ov 13 (.ld 5 true (tm 2)),oe 14 220 [(tm
 13)]] [3,4,5,14]) (.block 0 (.rfun (tm 14) #[15,16] 48 Ea Eb))) (sq (sq (rg [ol 32 5,oe 33 254 [(tm 32)],oe 34 242 [(tm 33)],on 35
 34,oi 36 0] [4,5,34,35,36]) (.block 2 (.loop (sq (rg [ov 37 (.icmp .lss .i64 (tm 36) (tm 35))] [4,5,34,35,36,37]) (sq (.cond (tm 37) .skip
 (.exit 2)) (sq (.block 3 (sq (rg [oa 38 1 34 36,ol 39 38,om 11 39] [4,5,11,34,35,36]) (.reg 7 [om 40 4,ol 41 5,om 42 11,⟨some 43,none,
 .ext (.look (.int .i64) zs false) [(tm 41),(tm 42)]⟩,ov 44 (.bs 1 1 zs [(0,(tm 43))]),⟨some 45,none,.app 5 1 24 (tm 40) (tm 44) false⟩,om 4 45]
 [4,5,34,35,36]))) (rg [ov 46 (.arith .add .i64 (tm 36) (ci 1)),om 36 46] [4,5,34,35,36]))))))) (sq (rg [om 47 4,om 4 47] [4]) .ret)))))
theorem l222:AV Tryz.prog 222:=mkL Tryz.f222
theorem a222:AOf Tryz.prog 222 c222 [.t 4]:=mkA (fn:=Tryz.f222) (c:=Tryz.f222.body.getD .skip) (fz:=[]) (im:=[(2,1),(8,1),(8,2)]) kp222 (by kernel_rfl) (by kernel_rfl) (by kernel_rfl) (by kernel_rfl) (by kernel_rfl)
def c223:Ke Tryz.prog Tryz.f223 [[1],[2,3]]:=by
 constructor;conv=>lhs;reduce;simp only[seval]
theorem a223:AOf Tryz.prog 223 c223.1 [.t 2,.t 3]:=mkB
def c224:Ke Tryz.prog Tryz.f224 [[1],[2,3]]:=by
 constructor;conv=>lhs;reduce;simp only[seval]
theorem a224:AOf Tryz.prog 224 c224.1 [.t 2,.t 3]:=mkB
def c225:Kc Tryz.prog Tryz.f225 [] [(5,1)] [[1],[1,8],[2],[1,15],[2],[1,3],[3,20,21,22],[3,20,21,22,23],[3,5,20,21,22],[3,5,20,21,22,36],[3,20,21,22],[3,20,21,22],[2]]:=by
 constructor;conv=>lhs;reduce;simp only[seval]
theorem a225:AOf Tryz.prog 225 c225.1 [.t 2]:=mkB
def c255:Ke Tryz.prog Tryz.f255 [[1],[2,3]]:=by
 constructor;conv=>lhs;reduce;simp only[seval]
theorem a255:AOf Tryz.prog 255 c255.1 [.t 2,.t 3]:=mkB
def c256:Ke Tryz.prog Tryz.f256 [[1],[2,3]]:=by
 constructor;conv=>lhs;reduce;simp only[seval]
theorem a256:AOf Tryz.prog 256 c256.1 [.t 2,.t 3]:=mkB
def c257:Ke Tryz.prog Tryz.f257 [[1,2],[3,4]]:=by
 constructor;conv=>lhs;reduce;simp only[seval]
theorem a257:AOf Tryz.prog 257 c257.1 [.t 3,.t 4]:=mkB
def c149:Kc Tryz.prog Tryz.f149 [(24,4),(25,1010)] [(24,1),(25,1)] [[1,2,4],[1,2,4,5,6],[1,2,4,5,6,23],[4,5],[2,4,6,25],[4,5],[2,4,6,25,26],[4,30,31],[4,30,31,32],[4,7,30,31],[4,30,31],[4,30,31],[2,4,6,25,40],[4],[2,4,6,25,44],[4],[2,4,6,25,48],[4],[2,4,6,25,52],[4],[2,4,6,25,55],[4,57,58,59],[4,57,58,59,60],[4,8,9,57,58,59],[4,10,57,58,59],[4,10,57,58,59],[4,57,58,59],[4,57,58,59],[2,4,6,25,76],[4,78,79,80],[4,78,79,80,81],[4,11,12,78,79,80],[4,11,78,79,80,85,86,87],[4,11,78,79,80,85,86,87,88],[4,11,14,78,79,80,85,86,87],[4,11,14,78,79,80,85,86,87,93],[4,11,78,79,80,85,86,87],[4,11,78,79,80,85,86,87],[4,78,79,80],[2,102],[2,15],[15,106,107],[15,106,107,108],[15,16,106,107],[15,106,107],[15,106,107],[4],[4,5]]:=by
 constructor;conv=>lhs;reduce;simp only[seval]
theorem a149:AOf Tryz.prog 149 c149.1 [.t 4,.t 5]:=mkB
def c254:Ke Tryz.prog Tryz.f254 [[1],[2]]:=by
 constructor;conv=>lhs;reduce;simp only[seval]
theorem a254:AOf Tryz.prog 254 c254.1 [.t 2]:=mkB
def c292:Kc Tryz.prog Tryz.f292 [] [(3,2)] [[0,5],[0,5,7],[0,3,5],[0,5,13]]:=by
 constructor;conv=>lhs;reduce;simp only[seval]
theorem a292:AOf Tryz.prog 292 c292.1 []:=mkB
def c105:Ke Tryz.prog Tryz.f105 [[0,1],[4]]:=by
 constructor;conv=>lhs;reduce;simp only[seval]
theorem a105:AOf Tryz.prog 105 c105.1 [.t 4]:=mkB
def c106:Ke Tryz.prog Tryz.f106 [[0,1,2],[0,1,2,14],[6],[1,2,15,16,17],[1,2,15,16,17,18],[1,2,7,8,15,16,17],[1,2,8,9,15,16,17],[1,2,15,16,17,30],[6],[1,2,15,16,17],[6]]:=by
 constructor;conv=>lhs;reduce;simp only[seval]
theorem a106:AOf Tryz.prog 106 c106.1 [.t 6]:=mkB
def c58:Ke Tryz.prog Tryz.f58 [[2,3],[2,3,5],[4]]:=by
 constructor;conv=>lhs;reduce;simp only[seval]
theorem a58:AOf Tryz.prog 58 c58.1 [.t 4]:=mkB
def c99:Ke Tryz.prog Tryz.f99 [[0],[2],[2]]:=by
 constructor;conv=>lhs;reduce;simp only[seval]
theorem a99:AOf Tryz.prog 99 c99.1 [.t 2]:=mkB
def c100:Ke Tryz.prog Tryz.f100 [[0],[2]]:=by
 constructor;conv=>lhs;reduce;simp only[seval]
theorem a100:AOf Tryz.prog 100 c100.1 [.t 2]:=mkB
def c101:Ke Tryz.prog Tryz.f101 [[0],[0,2],[0,2,36],[2],[2]]:=by
 constructor;conv=>lhs;reduce;simp only[seval]
theorem a101:AOf Tryz.prog 101 c101.1 [.t 2]:=mkB
def c102:Ke Tryz.prog Tryz.f102 [[0],[0,10],[0,10,11],[0,3,10],[0,4,5,10],[0,4,5,10,24],[2],[0,10],[0,10],[0,44,45,46],[0,44,45,46,47],[0,7,44,45,46],[0,8,9,44,45,46],[0,8,9,44,45,46,62],[2],[0,44,45,46],[0,44,45,46],[2]]:=by
 constructor;conv=>lhs;reduce;simp only[seval]
theorem a102:AOf Tryz.prog 102 c102.1 [.t 2]:=mkB
def c57:Kc Tryz.prog Tryz.f57 [] [(6,1)] [[1,2],[1,2,4],[2,4],[2,4,15,16,17],[2,4,15,16,17,18],[2,4,6,15,16,17],[2,4,7,15,16,17],[2,4,7,15,16,17,24],[2,3],[2,4,15,16,17],[2,3]]:=by
 constructor;conv=>lhs;reduce;simp only[seval]
theorem a57:AOf Tryz.prog 57 c57.1 [.c 2 17 true,.t 3]:=mkB
def c32:Ke Tryz.prog Tryz.f32 [[1],[1,3,4],[18],[2],[2]]:=by
 constructor;conv=>lhs;reduce;simp only[seval]
theorem a32:AOf Tryz.prog 32 c32.1 [.t 2]:=mkB
end Go.AM
namespace Go.AM
open Go.Proofs
def cm62:Kc Tryz.prog Tryz.f62 [(3,2)] [] [[0],[0,4],[2],[2]]:=by
 constructor;conv=>lhs;reduce;simp only[seval]
theorem am62:AOf Tryz.prog 62 cm62.1 [.t 2]:=mkB
end Go.AM
namespace Go.AM
open Go.Proofs
def c190:Ke Tryz.prog Tryz.f190 [[0,7],[0],[]]:=by
 constructor;conv=>lhs;reduce;simp only[seval]
theorem a190:AOf Tryz.prog 190 c190.1 []:=mkB
def c238:Ke Tryz.prog Tryz.f238 [[0,1],[4]]:=by
 constructor;conv=>lhs;reduce;simp only[seval]
theorem a238:AOf Tryz.prog 238 c238.1 [.t 4]:=mkB
def c183:Kc Tryz.prog Tryz.f183 [] [(1,2)] [[0,1],[0,5],[0,5,9],[5],[4]]:=by
 constructor;conv=>lhs;reduce;simp only[seval]
theorem a183:AOf Tryz.prog 183 c183.1 [.t 4]:=mkB
def c180:Kc Tryz.prog Tryz.f180 [] [(3,2),(4,1)] [[0,6,7,8],[0,6,7,8,9],[0,5,6,7,8],[0,6,7,8,15],[0,6,7,8],[0,6,7,8]]:=by
 constructor;conv=>lhs;reduce;simp only[seval]
theorem a180:AOf Tryz.prog 180 c180.1 []:=mkB
def c237:Ke Tryz.prog Tryz.f237 [[0],[2]]:=by
 constructor;conv=>lhs;reduce;simp only[seval]
theorem a237:AOf Tryz.prog 237 c237.1 [.t 2]:=mkB
def c182:Kc Tryz.prog Tryz.f182 [] [(1,1),(2,1)] [[0],[0,6],[0],[0,3],[3],[2]]:=by
 constructor;conv=>lhs;reduce;simp only[seval]
theorem a182:AOf Tryz.prog 182 c182.1 [.t 2]:=mkB
def c181:Kc Tryz.prog Tryz.f181 [] [(2,1)] [[0],[0,19],[0],[0,3],[3],[2]]:=by
 constructor;conv=>lhs;reduce;simp only[seval]
theorem a181:AOf Tryz.prog 181 c181.1 [.t 2]:=mkB
def c186:Kc Tryz.prog Tryz.f186 [] [(1,1),(2,2),(3,1)] [[0,2],[0,2],[0,2],[2],[2]]:=by
 constructor;conv=>lhs;reduce;simp only[u8n,UInt8.reduceOfNat,Int.reduceOfNat]
theorem a186:AOf Tryz.prog 186 c186.1 [.c 2 2 true]:=mkB
def c300:Kc Tryz.prog Tryz.f300 [] [(1,2),(2,1),(3,2)] [[0],[0],[0,3],[3],[2]]:=by
 constructor;conv=>lhs;reduce;simp only[u8n,UInt8.reduceOfNat,Int.reduceOfNat]
theorem a300:AOf Tryz.prog 300 c300.1 [.t 2]:=mkB
def c273:Kc Tryz.prog Tryz.f273 [] [(2,1),(4,1),(0,2),(6,1),(7,2),(8,2)] [[0,1],[0,1],[0,1,10],[0,1],[0,1,16],[0,1],[0,1,23],[],[]]:=by
 constructor;conv=>lhs;reduce;simp only[u8n,UInt8.reduceOfNat,Int.reduceOfNat]
theorem a273:AOf Tryz.prog 273 c273.1 []:=mkB
def c266:Kc Tryz.prog Tryz.f266 [] [(0,2),(6,1),(8,1),(10,2),(11,2),(12,1),(14,2),(15,1),(1,2),(3,2),(4,2),(5,2)] [[0,1],[0,1],[0,1],[0,1],[0,1],[],[0,1,28],[],[0,1,34],[0,1],[0,1],[],[0,1,48],[0,1],[],[0,1,57],[]]:=by
 constructor;conv=>lhs;reduce;simp only[u8n,UInt8.reduceOfNat,Int.reduceOfNat]
theorem a266:AOf Tryz.prog 266 c266.1 []:=mkB
def c269:Kc Tryz.prog Tryz.f269 [] [(0,2),(1,2),(2,2)] [[0,1],[0,1],[]]:=by
 constructor;conv=>lhs;reduce;simp only[u8n,UInt8.reduceOfNat,Int.reduceOfNat]
theorem a269:AOf Tryz.prog 269 c269.1 []:=mkB
def c267:Ke Tryz.prog Tryz.f267 []:=by
 constructor;conv=>lhs;reduce;simp only[seval]
theorem a267:AOf Tryz.prog 267 c267.1 []:=mkB
def c268:Kc Tryz.prog Tryz.f268 [] [(0,2)] [[]]:=by
 constructor;conv=>lhs;reduce;simp only[seval]
theorem a268:AOf Tryz.prog 268 c268.1 []:=mkB
def c270:Kc Tryz.prog Tryz.f270 [] [(0,2)] [[]]:=by
 constructor;conv=>lhs;reduce;simp only[seval]
theorem a270:AOf Tryz.prog 270 c270.1 []:=mkB
def c271:Kc Tryz.prog Tryz.f271 [] [(0,2)] [[]]:=by
 constructor;conv=>lhs;reduce;simp only[seval]
theorem a271:AOf Tryz.prog 271 c271.1 []:=mkB
def c272:Kc Tryz.prog Tryz.f272 [] [(0,2)] [[]]:=by
 constructor;conv=>lhs;reduce;simp only[seval]
theorem a272:AOf Tryz.prog 272 c272.1 []:=mkB
def c189:Kc Tryz.prog Tryz.f189 [] [(10,5),(1,1),(2,2),(3,0),(4,1),(7,2),(8,3),(11,2),(14,1)] [[0,2],[0,2],[0,2],[0,2,3],[0,2,3,15,16,17],[0,2,3,15,16,17,18],[0,2,3,5,15,16,17],[0,2,3,5,15,16,17,23],[0,2,3,5],[0,2,3,5],[0,2],[2],[2],[0,2,3,15,16,17],[2],[2]]:=by
 constructor;conv=>lhs;reduce;simp only[u8n,UInt8.reduceOfNat,Int.reduceOfNat]
theorem a189:AOf Tryz.prog 189 c189.1 [.c 2 12 true]:=mkB
def c188:Kc Tryz.prog Tryz.f188 [] [(1,1),(2,2),(3,1),(6,1),(8,1),(10,1),(11,2),(12,1),(4,2),(13,2)] [[0,2],[0,2],[0,2],[0,2],[0,2],[0,2],[0,2,16],[0,2],[0,2,20],[0,2],[0,2],[0,2],[0,2],[2],[2]]:=by
 constructor;conv=>lhs;reduce;simp only[u8n,UInt8.reduceOfNat,Int.reduceOfNat]
theorem a188:AOf Tryz.prog 188 c188.1 [.c 2 6 true]:=mkB
def c187:Kc Tryz.prog Tryz.f187 [(700011,300001),(800014,300000)] [(1,1),(2,2),(3,1),(4,3),(5,2),(6,2)] [[0,2],[0,2],[0,2],[0,2,10],[0,2],[0,2],[2],[2]]:=by
 constructor;conv=>lhs;reduce;simp only[u8n,UInt8.reduceOfNat,Int.reduceOfNat]
theorem a187:AOf Tryz.prog 187 c187.1 [.c 2 2 true]:=mkB
def c144:Kc Tryz.prog Tryz.f144 [(700051,300001),(800054,300000),(700060,300001),(800063,300000),(700069,300001),(800072,300000)] [(1,2),(2,1),(3,2),(4,1),(5,2),(7,1),(8,2),(10,1),(11,2),(12,1),(13,1),(14,1),(15,2),(16,1),(17,2),(18,1),(19,3),(20,1),(21,3),(22,1),(23,3),(24,2),(26,1)] [[0,2],[0,2],[0,2],[0,2],[0,2],[0,2],[0,2],[0,2,21],[0,2],[0,2],[0,2],[0,2],[0,2],[0,2,36],[0,2],[0,2],[0,2],[0,2],[0,2,50],[0,2],[0,2,59],[0,2],[0,2,68],[0,2],[0,2],[0,2,84],[2],[2]]:=by
 constructor;conv=>lhs;reduce;simp only[u8n,UInt8.reduceOfNat,Int.reduceOfNat]
theorem a144:AOf Tryz.prog 144 c144.1 [.c 2 10 true]:=mkB
def c315:Kc Tryz.prog Tryz.f315 [] [(1,2),(3,3),(2,1)] [[0,1],[0,1,5],[0,1,5,11],[0,1,5],[4]]:=by
 constructor;conv=>lhs;reduce;simp only[u8n,UInt8.reduceOfNat,Int.reduceOfNat]
theorem a315:AOf Tryz.prog 315 c315.1 [.t 4]:=mkB
def c184:Kc Tryz.prog Tryz.f184 [] [(1,2),(3,3),(2,1)] [[0,1],[0,1,5],[0,1,5,11],[0,1,5],[4]]:=by
 constructor;conv=>lhs;reduce;simp only[u8n,UInt8.reduceOfNat,Int.reduceOfNat]
theorem a184:AOf Tryz.prog 184 c184.1 [.t 4]:=mkB
def c185:Kc Tryz.prog Tryz.f185 [] [(1,2),(3,3),(2,1)] [[0,1],[0,1,5],[0,1,5,11],[0,1,5],[4]]:=by
 constructor;conv=>lhs;reduce;simp only[u8n,UInt8.reduceOfNat,Int.reduceOfNat]
theorem a185:AOf Tryz.prog 185 c185.1 [.t 4]:=mkB
def c239:Ke Tryz.prog Tryz.f239 [[],[0]]:=by
 constructor;conv=>lhs;reduce;simp only[u8n,UInt8.reduceOfNat,Int.reduceOfNat]
theorem a239:AOf Tryz.prog 239 c239.1 [.t 0]:=mkB
def kp143(r:Nat):List Nat:=match r with
 |0=>[0,1,2,3]
 |1=>[0,1,2,3,8]
 |2=>[0,1,2,3,4,5]
 |3=>[0,1,2,3,4,15]
 |4=>[0,1,2,4]
 |5=>[]
 |_=>[]
def c143:ACode:=
(sq (rg [om 7 3,⟨some 8,none,.ext (.nileq 0 true) [(tm 7)]⟩] [0,1,2,3,8]) (.cond (tm 8) (sq (.reg 8 [om 10 3,⟨some 11,none,.ext (.tas 185
 true (.agg [z0])) [(tm 10)]⟩,om 9 11,ox 12 0 9,ox 13 1 9,⟨some 4,none,.alloc 5 [z0]⟩,⟨none,none,.st 1 (tm 4) (tm 12)⟩,om 5 13] [0,1,2,3,
 4,5]) (sq (sq (rg [om 14 5,ot 15 14] [0,1,2,3,4,15]) (.cond (tm 15) (rg [om 16 3,⟨none,none,.pan (tm 16)⟩] [0,1,2,4]) .skip)) (.regx 0
 [(0,ov 17 (.build [zr,z0,z0,z0,z0,zs,zs,zs,zs,zs] [])),(0,of 18 0 4),(300004,ol 19 18),(300003,⟨none,none,.st 10 (tm 0) (tm 17)⟩),
 (0,⟨none,none,.st 1 (tm 1) (tm 19)⟩),(0,⟨none,none,.st 1 (tm 2) (ci 150)⟩)] []))) .skip))
theorem l143:AV Tryz.prog 143:=mkL Tryz.f143
theorem a143{args:List AVal}{rv:AVal}{H:AB}{n:Nat}{Rc:AB->Nat->Prop}(h:awp Tryz.prog c143 (Fl [] λo H' n'=>o= .ret (.tup [])/\Rc H' n') ⟨(3,true,rv)::(6,true,rv)::penv 0 args,H,n⟩):Bv Tryz.prog 143 args rv H n Rc:=
 FE (id:=0) (fn:=Tryz.f143) (ops:=Ho (sqH (Tryz.f143.body.getD .skip))) (X:=sqT (Tryz.f143.body.getD .skip)) (y:=c143) (fz:=[(700018,300001),(700000,300000)]) (im:=[]) (kp:=kp143) (t3:=3) (t4:=6) (by kernel_rfl) (by kernel_rfl) (by kernel_rfl) (by kernel_rfl) (by kernel_rfl) (by kernel_rfl) h
def kp98(r:Nat):List Nat:=match r with
 |0=>[0,1,4,5,6]
 |1=>[0,1,4,5,6]
 |2=>[4,5,6]
 |_=>[]
def c98_0:ACode:=
 (.reg 3 [
  ⟨some 4,none,.alloc 0 [(.str []),(.int .i64 0),(.int .i64 0),(.int .i64 0),(.int .i64 0),(.sl .nil []),(.sl .nil []),(.sl .nil []),(.sl .nil []),(.sl .nil [])]⟩,
  ⟨some 5,none,.alloc 1 [(.int .i64 0)]⟩,
  ⟨some 6,none,.alloc 2 [(.int .i64 0)]⟩] [0,1,4,5,6])
def c98:ACode:=
(sq (.reg 8 [om 8 0,om 9 1,ov 10 (.build [zs,z0] [(0,1,(tm 8)),(1,1,(tm 9))]),⟨some 11,none,.box 3 2 (tm 10)⟩,oe 12 144 [(tm 11)],⟨none,
 none,.st 10 (tm 4) (tm 12)⟩,⟨none,none,.st 1 (tm 5) (ci 0)⟩,⟨none,none,.st 1 (tm 6) (ci 0)⟩] [4,5,6]) .ret)
theorem a98{args:List AVal}{H:AB}{n:Nat}{R:AOut->AB->Nat->Prop}(h:awp Tryz.prog (Dn [c98_0]) (Jw Tryz.prog 7 ⟨(some 7),none,.v (.fn (.func 143) [] [(.t 4),(.t 5),(.t 6)])⟩ c98 7 143 [.c 4 10 true,.c 5 1 false,.c 6 1 false] R) ⟨penv 0 args,H,n⟩):AI Tryz.prog 98 args H n R:=
 DJ (id:=1) (fn:=Tryz.f98) (pre:=[sqH (Tryz.f98.body.getD .skip)]) (ys:=[c98_0]) (ops:=Ho (sqH (sqT (Tryz.f98.body.getD .skip)))) (X:=(sqT (sqT (Tryz.f98.body.getD .skip)))) (y:=c98) (fz:=[]) (fzX:=[(999999,7)]) (im:=[(2,4)]) (kp:=kp98) (rs:=[.c 4 10 true,.c 5 1 false,.c 6 1 false]) (d0:=(some 7)) (k:=.fn (.func 143) [] [(.t 4),(.t 5),(.t 6)]) (t:=7) (by kernel_rfl) (by kernel_rfl) (by kernel_rfl) (by kernel_rfl) (by kernel_rfl) (by kernel_rfl) (by kernel_rfl) (by kernel_rfl) (by kernel_rfl) l143 h
def c56:Ke Tryz.prog Tryz.f56 [[0,2],[0,2,3,4,5],[0,2,3,4,5,13],[2,3,4],[2,3,4]]:=by
 constructor;conv=>lhs;reduce;simp only[seval]
theorem a56:AOf Tryz.prog 56 c56.1 [.c 2 10 true,.t 3,.t 4]:=mkB
def c29:Ke Tryz.prog Tryz.f29 [[0,2],[2,3,4,5],[2,3,4,5,13],[2,3,4],[2,4],[2,3,4]]:=by
 constructor;conv=>lhs;reduce;simp only[seval]
theorem a29:AOf Tryz.prog 29 c29.1 [.c 2 17 true,.t 3,.t 4]:=mkB
end Go.AM
namespace Go.AM
open Go.Proofs
def c16:Ke Tryz.prog Tryz.f16 [[2,3],[4]]:=by
 constructor;conv=>lhs;reduce;simp only[seval]
theorem a16:AOf Tryz.prog 16 c16.1 [.t 4]:=mkB
def c17:Ke Tryz.prog Tryz.f17 [[1],[1,3],[1,3,8],[1,3],[1,3,17],[2],[2]]:=by
 constructor;conv=>lhs;reduce;simp only[seval]
theorem a17:AOf Tryz.prog 17 c17.1 [.t 2]:=mkB
def c10:Ke Tryz.prog Tryz.f10 [[1],[1,3],[1,3,4],[1,3,4,13],[1,3,4],[1,3,4],[2]]:=by
 constructor;conv=>lhs;reduce;simp only[seval]
theorem a10:AOf Tryz.prog 10 c10.1 [.t 2]:=mkB
def c30:Ke Tryz.prog Tryz.f30 [[0],[0,3],[0,3,4],[0,3,4,12],[0,3,4],[0,3,4],[2]]:=by
 constructor;conv=>lhs;reduce;simp only[seval]
theorem a30:AOf Tryz.prog 30 c30.1 [.t 2]:=mkB
def c31:Ke Tryz.prog Tryz.f31 [[1],[1,33],[2],[1,3],[1,3,38],[1,3],[1,3,48],[2],[1,3,4],[1,3,4,57],[1,3,4],[1,3,4,70],[2],[1,5],[1,5,75],[1,5],[1,5,95],[2],[2]]:=by
 constructor;conv=>lhs;reduce;simp only[seval]
theorem a31:AOf Tryz.prog 31 c31.1 [.t 2]:=mkB
def c26:Ke Tryz.prog Tryz.f26 [[1],[1,26],[2],[1,3],[1,3,31],[1,3],[1,3,51],[2],[1,4],[1,4,56],[1,4],[1,4,66],[2],[2]]:=by
 constructor;conv=>lhs;reduce;simp only[seval]
theorem a26:AOf Tryz.prog 26 c26.1 [.t 2]:=mkB
def c9:Ke Tryz.prog Tryz.f9 [[],[1,3],[1,3,4,5],[1,3,4,5,6,7],[1,3,4,5,6,7,9],[1,3,4,5,6,7,9,11],[1,3,4,5,6,7,9,11,12],[1,3,4,5,6,7,9,11,12,13,14],[1,3,4,5,6,7,9,11,12,13,14,15,16],[1,3,4,5,6,7,9,11,13,14,15,16,17,18],[1,3,4,5,6,7,9,11,13,14,15,16,17,18,19],[1,3,4,5,6,7,9,11,13,14,15,16,17,18,19,20,21],[1,3,4,5,6,7,9,11,13,14,15,16,17,18,19,20,21],[1,3,4,5,6,7,9,11,13,14,15,16,17,18,19,20,21],[1,3,4,5,6,7,9,11,13,14,15,16,17,18,19,20,21,22,23],[1,3,4,5,6,7,9,11,13,14,15,16,17,18,19,20,21,22,23,24],[1,3,4,5,6,7,9,11,13,14,15,16,17,18,19,20,21,22,23,24,25,26],[3,4,5,6,7,9,11,13,14,15,16,17,18,20,21,22,23,25,26,27,28],[4,6,13,15,17,20,22,25,27,29],[0]]:=by
 constructor;conv=>lhs;reduce;simp only[u8n,UInt8.reduceOfNat,Int.reduceOfNat,Int.reduceNegSucc]
theorem a9:AOf Tryz.prog 9 c9.1 [.t 0]:=mkB
def c15:Ke Tryz.prog Tryz.f15 [[0,1],[0,1,11],[4],[0,1,13,14],[0,1,13,14,15],[0,1,5,13,14],[0,1,5,13,14,27],[4],[0,1,5,13,14,32,33],[0,1,5,13,14,32,33,34],[0,1,5,6,13,14,32,33],[0,1,5,13,14,32,33,50],[4],[0,1,5,13,14,32,33],[0,1,13,14],[4]]:=by
 constructor;conv=>lhs;reduce;simp only[seval]
theorem a15:AOf Tryz.prog 15 c15.1 [.t 4]:=mkB
def c8:Ke Tryz.prog Tryz.f8 [[3,5,6,7,9],[3,5,6,7,9,20],[10],[3,5,6,7,9,29],[10],[3,5,6,7,9,11,12],[3,5,6,7,9,48],[10],[3,7,9,13],[7,9,13,14],[7,9,13,14,15],[7,9,13,14,15,65],[10],[7,9,13,15,16],[7,13,15,16,17],[7,13,15,16,17,18],[10]]:=by
 constructor;conv=>lhs;reduce;simp only[seval]
theorem a8:AOf Tryz.prog 8 c8.1 [.t 10]:=mkB
def c27:Ke Tryz.prog Tryz.f27 [[1,2,3],[5,6],[4]]:=by
 constructor;conv=>lhs;reduce;simp only[seval]
theorem a27:AOf Tryz.prog 27 c27.1 [.t 4]:=mkB
def c28:Kc Tryz.prog Tryz.f28 [(1,3)] [] [[0,1,2,4],[0,2,4,5],[4,5],[4]]:=by
 constructor;conv=>lhs;reduce;simp only[seval]
theorem l28:AV Tryz.prog 28:=mkL Tryz.f28
theorem a28:AOf Tryz.prog 28 c28.1 [.c 4 1 true]:=mkB
end Go.AM
